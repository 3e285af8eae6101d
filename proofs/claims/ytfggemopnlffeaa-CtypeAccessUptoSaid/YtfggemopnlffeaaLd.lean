/- Calls that are handed nothing that may be written to; and how to reckon through a run of operations ('evU'). -/
import Derived.Test.YtfggemopnlffeaaLb
import Derived.IntWalk

namespace Go.Proofs.Ytfggemopnlffeaa
set_option linter.unusedSimpArgs false
set_option linter.unusedVariables false
set_option linter.unnecessarySimpa false
open Go.RowKit

/-! ### A call that is handed nothing that may be written to -/
def noId : Nat → Bool := fun _ => false
def Cf.bare (C : Cf) : Cf := ⟨fun _ => none, stF, fun b o => b < C.w.heap.size ∧ ¬ C.fix b o, C.w⟩
theorem Cf.bare_rd {C : Cf} {a : Addr} {v : Value} (h : C.rd a v) : C.bare.rd a v := ⟨h.1, fun h' => h'.2 h.2, fun _ hi => by cases hi⟩
theorem R.bare {C : Cf} {x : V} {v : Value} (h : R C x v) : x.ids noId = true → R C.bare x v := by
  induction h with
  | im h => intro _; exact .im h
  | ag hn h1 _ ih => intro hk; exact .ag hn h1 fun i hi => ih i hi (V.idsL_get hk i hi)
  | tu hn _ ih => intro hk; exact .tu hn fun i hi => ih i hi (V.idsL_get hk i hi)
  | @sl es k a cap z u hc hm hz _ hr hko ih =>
    intro hk
    simp only [V.ids, Bool.and_eq_true] at hk
    refine .sl hc hm hz (fun i hi => ih i hi (V.idsL_get hk.1 i hi)) (fun i hi => ?_) ?_
    · obtain ⟨ad, h1, h2⟩ := hr i hi
      exact ⟨ad, h1, fun j c hj => Cf.bare_rd (h2 j c hj)⟩
    · cases k with
      | ro => trivial
      | full => exact hko
      | nl => exact hko
      | nn => exact hko
      | nz => exact hko
      | own id => exact absurd hk.2 (by simp [noId])
  | pt h hb => intro hk; cases hk
  | itr h hb => intro hk; cases hk
  | bs h hb => intro hk; cases hk
  | ep _ hz hr ih => intro hk; exact .ep (ih hk) hz fun j c hj => Cf.bare_rd (hr j c hj)
  | fn h1 h2 _ _ ih1 ih2 =>
    intro hk
    simp only [V.ids, Bool.and_eq_true] at hk
    exact .fn h1 h2 (fun i hi => ih1 i hi (V.idsL_get hk.1 i hi)) (fun i hi => ih2 i hi (V.idsL_get hk.2 i hi))
  | gi _ h0 ih => intro hk; exact .gi (fun hb => ih hb hk) h0
  | dead => intro _; exact .dead
theorem Ok.bare {C : Cf} (hC : Ok C) : Ok C.bare where
  box := fun i cs h => by cases h
  tip := fun i e z n g h => by cases h
  iter := fun i s p h => by cases h
  inj := fun i j g h => absurd rfl h
  avl := fun b o h => h.1
  bav := fun i cs g o h => by cases h
  gl := fun a ha => by
    obtain ⟨m, h1⟩ := hC.gl a ha
    exact ⟨m, Cf.bare_rd h1⟩
theorem back_rd {C D : Cf} (hC : Ok C) (hE : Ev C.bare D) {a : Addr} {v : Value} (h : D.rd a v) : (C.withW D.w).rd a v := by
  refine ⟨h.1, ?_⟩
  have hav : ¬ (a.block < C.w.heap.size ∧ ¬ C.fix a.block a.off) := by
    have := h.2.1
    rw [hE.av] at this
    exact this
  by_cases hb : a.block < C.w.heap.size
  · exact Classical.byContradiction fun hn => hav ⟨hb, hn⟩
  · refine ⟨fun h' => hb (hC.avl _ _ h'), fun i hi => ?_⟩
    by_cases hf : C.st i = .free
    · exact .inl hf
    · exact absurd (hC.lt hf hi) hb
theorem R.back {C D : Cf} (hC : Ok C) (hE : Ev C.bare D) (hs : D.st = stF) {x : V} {v : Value} (h : R D x v) : R (C.withW D.w) x v := by
  induction h with
  | im h => exact .im h
  | ag hn h1 _ ih => exact .ag hn h1 ih
  | tu hn _ ih => exact .tu hn ih
  | @sl es k a cap z u hc hm hz _ hr hko ih =>
    refine .sl hc hm hz ih (fun i hi => ?_) ?_
    · obtain ⟨ad, h1, h2⟩ := hr i hi
      exact ⟨ad, h1, fun j c hj => back_rd hC hE (h2 j c hj)⟩
    · cases k with
      | ro => trivial
      | full => exact hko
      | nl => exact hko
      | nn => exact hko
      | nz => exact hko
      | own id =>
        obtain ⟨e, n, h1, _⟩ := hko
        rw [hs] at h1
        cases h1
  | pt h hb => rw [hs] at hb; cases hb
  | itr h hb => rw [hs] at hb; cases hb
  | bs h hb => rw [hs] at hb; cases hb
  | ep _ hz hr ih => exact .ep ih hz fun j c hj => back_rd hC hE (hr j c hj)
  | fn h1 h2 _ _ ih1 ih2 => exact .fn h1 h2 ih1 ih2
  | gi _ h0 ih => exact .gi ih h0
  | dead => exact .dead
theorem bare_heap {C D : Cf} (hE : Ev C.bare D) {b : Nat} (hb : b < C.w.heap.size) : D.w.heap[b]? = C.w.heap[b]? := hE.keep b hb fun _ hi => by cases hi
theorem Ev.back {C D : Cf} (hC : Ok C) (hE : Ev C.bare D) : Ev C (C.withW D.w) where
  os := hE.os
  tape := hE.tape
  output := hE.output
  size := hE.size
  av := rfl
  rd := fun a v h => back_rd hC hE (hE.rd a v (Cf.bare_rd h))
  box := fun _ cs h => ⟨rfl, cs, h⟩
  tip := fun i e z n h => ⟨n, h, Nat.le_refl _, fun _ => ⟨rfl, fun g cur hg hc => ⟨cur, (bare_heap hE (Array.getElem?_eq_some_iff.1 hc).1).trans hc, rfl⟩⟩⟩
  itr := fun _ s p h => ⟨rfl, s, p, h⟩
  keep := fun b hb _ => bare_heap hE hb
  fresh := fun _ _ h h' => .inl ⟨h, h'⟩
theorem Ok.back {C D : Cf} (hC : Ok C) (hE : Ev C.bare D) : Ok (C.withW D.w) where
  box := fun i cs h => by
    obtain ⟨g, bs, t, h1, h2, h3, h4, h5⟩ := hC.box i cs h
    exact ⟨g, bs, t, h1, (bare_heap hE (Array.getElem?_eq_some_iff.1 h2).1).trans h2, h3, h4, fun j hj => (h5 j hj).mono (Ev.back hC hE)⟩
  tip := fun i e z n g h h' => by
    obtain ⟨cur, h1, h2⟩ := hC.tip i e z n g h h'
    exact ⟨cur, (bare_heap hE (Array.getElem?_eq_some_iff.1 h1).1).trans h1, h2⟩
  iter := fun i s p h => by
    obtain ⟨g, h1, h2⟩ := hC.iter i s p h
    exact ⟨g, h1, (bare_heap hE (Array.getElem?_eq_some_iff.1 h2).1).trans h2⟩
  inj := hC.inj
  avl := fun b o h => Nat.lt_of_lt_of_le (hC.avl b o h) hE.size
  bav := hC.bav
  gl := hC.gl.mono (Ev.back hC hE)
/-- A contract, met in the midst of another function. -/
theorem PC.good {P : Program} {f : FuncId} {xs : List V} {r : V} (h : PC P f xs r) {C : Cf} (hC : Ok C) {vs : Array Value} (hn : vs.size = xs.length) (hR : ∀ i (hi : i < xs.length), R C xs[i] (vs.getD i undef)) (hi : V.idsL noId xs = true) :
    Calls P f vs C.w fun e w' => ∃ v, e = .returned v ∧ Good C C.st r w' v := by
  refine (h.2 C.bare vs rfl hC.bare hn (fun i hi' => (hR i hi').bare (V.idsL_get hi i hi'))).mono ?_
  rintro e w' ⟨v, x, st', rfl, ⟨rfl, rfl⟩, D, rfl, h2, _, h4, h5⟩
  exact ⟨v, rfl, C.withW D.w, rfl, rfl, hC.back h4, Ev.back hC h4, h5.back hC h4 h2⟩

inductive WkL : List V → List V → Prop
  | nil : WkL [] []
  | cons {x y : V} {l m : List V} (h : Wk x y) (hl : WkL l m) : WkL (x :: l) (y :: m)
theorem WkL.length {l m : List V} (h : WkL l m) : l.length = m.length := by
  induction h with
  | nil => rfl
  | cons _ _ ih => simp [ih]
theorem WkL.get {l m : List V} (h : WkL l m) : ∀ i (h1 : i < l.length) (h2 : i < m.length), Wk l[i] m[i] := by
  induction h with
  | nil => intro i h1; cases h1
  | cons h _ ih =>
    intro i h1 h2
    cases i with
    | zero => exact h
    | succ i => exact ih i (by simpa using h1) (by simpa using h2)
theorem WkL.refl : ∀ l : List V, WkL l l
  | [] => .nil
  | x :: l => .cons (.refl x) (WkL.refl l)
theorem WkL.of_eq {l m : List V} (h : l = m) : WkL l m := h ▸ WkL.refl l
section
variable {P : Program} {o : Oper} {ev : Operand → V}
theorem step_call {c : Operand} {args : Array Operand} {tys : Array TypeId} {f : FuncId} {us vs xs : List V} {r : V} (ho : o.op = .call { callee := .value c, args := args, argTypes := tys }) (hc : ev c = .fn (.func f) us vs) (h : PC P f xs r)
    (hw : WkL (us ++ args.toList.map ev ++ vs) xs) (hi : V.idsL noId xs = true) : Step P o ev [] ⟨r, []⟩ := by
  intro C ρ hC hR _
  have h1 := hR c (by simp [ho, Op.operands, Call.operands])
  rw [hc] at h1
  generalize hu : ρ c = u at h1
  cases h1 with
  | @fn _ _ _ us' vs' k1 k2 k3 k4 =>
    have hrun : (execOp ρ o).run P C.w = .ok (.enter f (us' ++ args.map ρ ++ vs')) C.w := by
      simp only [execOp, ho, resolve, hu, Deferred.ofValue, invoke, Sem.run_bind, Sem.run_pure, Result.andThen_ok, run_callFunc h.1]
    rw [hrun]
    have hlen := hw.length
    have hsz : (us' ++ args.map ρ ++ vs').size = xs.length := by
      rw [← hlen]
      simp [k1, k2]
    refine h.good hC hsz (fun i hi' => ?_) hi
    have hi2 : i < (us ++ args.toList.map ev ++ vs).length := by omega
    have hwi : Wk (us ++ args.toList.map ev ++ vs)[i] xs[i] := hw.get i hi2 hi'
    refine hwi C _ ?_
    rw [Array.getD_eq_getD_getElem?, Array.getElem?_append, Array.getElem?_append]
    simp only [Array.size_append, Array.size_map, k1]
    simp only [List.getElem_append, List.length_append, List.length_map, Array.length_toList]
    by_cases q1 : i < us.length
    · have : i < us.length + args.size := by omega
      have q2 : i < us'.size := by omega
      have := k3 i q1
      simpa [q1, ‹i < us.length + args.size›, q2] using this
    · by_cases q2 : i < us.length + args.size
      · have q3 : i - us.length < args.size := by omega
        have := hR args[i - us.length] (by simp [ho, Op.operands, Call.operands])
        simpa [q1, q2, q3] using this
      · have hi3 : i < us.length + args.size + vs.length := by simp at hi2; omega
        have q3 : i - (us.length + args.size) < vs.length := by omega
        have q4 : i - (us.length + args.size) < vs'.size := by omega
        have := k4 _ q3
        simpa [q1, q2, q4] using this
end

theorem V.live_im (v : Value) : (V.im v).live = true := rfl
theorem V.isAg_im (v : Value) : (V.im v).isAg = false := rfl
theorem V.cells_im (v : Value) : (V.im v).cells = [(V.im v)] := rfl
theorem V.size_im (v : Value) : (V.im v).size = 1 := rfl
theorem V.live_ag (v : List V) : (V.ag v).live = true := rfl
theorem V.isAg_ag (v : List V) : (V.ag v).isAg = true := rfl
theorem V.cells_ag (v : List V) : (V.ag v).cells = v := rfl
theorem V.size_ag (v : List V) : (V.ag v).size = v.length := rfl
theorem V.live_sl (v : List V) (k : Slk) : (V.sl v k).live = true := rfl
theorem V.isAg_sl (v : List V) (k : Slk) : (V.sl v k).isAg = false := rfl
theorem V.cells_sl (v : List V) (k : Slk) : (V.sl v k).cells = [(V.sl v k)] := rfl
theorem V.size_sl (v : List V) (k : Slk) : (V.sl v k).size = 1 := rfl
theorem V.live_pt (v w : Nat) : (V.pt v w).live = true := rfl
theorem V.isAg_pt (v w : Nat) : (V.pt v w).isAg = false := rfl
theorem V.cells_pt (v w : Nat) : (V.pt v w).cells = [(V.pt v w)] := rfl
theorem V.size_pt (v w : Nat) : (V.pt v w).size = 1 := rfl
theorem V.live_itr (v : Nat) : (V.itr v).live = true := rfl
theorem V.isAg_itr (v : Nat) : (V.itr v).isAg = false := rfl
theorem V.cells_itr (v : Nat) : (V.itr v).cells = [(V.itr v)] := rfl
theorem V.size_itr (v : Nat) : (V.itr v).size = 1 := rfl
theorem V.live_bs (v w : Nat) : (V.bs v w).live = true := rfl
theorem V.isAg_bs (v w : Nat) : (V.bs v w).isAg = false := rfl
theorem V.cells_bs (v w : Nat) : (V.bs v w).cells = [(V.bs v w)] := rfl
theorem V.size_bs (v w : Nat) : (V.bs v w).size = 1 := rfl
theorem V.live_ep (v : V) (w : Nat) : (V.ep v w).live = true := rfl
theorem V.isAg_ep (v : V) (w : Nat) : (V.ep v w).isAg = false := rfl
theorem V.cells_ep (v : V) (w : Nat) : (V.ep v w).cells = [(V.ep v w)] := rfl
theorem V.size_ep (v : V) (w : Nat) : (V.ep v w).size = 1 := rfl
theorem V.live_fn (f : Fn) (v w : List V) : (V.fn f v w).live = true := rfl
theorem V.isAg_fn (f : Fn) (v w : List V) : (V.fn f v w).isAg = false := rfl
theorem V.cells_fn (f : Fn) (v w : List V) : (V.fn f v w).cells = [(V.fn f v w)] := rfl
theorem V.size_fn (f : Fn) (v w : List V) : (V.fn f v w).size = 1 := rfl
theorem V.live_tu (v : List V) : (V.tu v).live = false := rfl
theorem V.isAg_tu (v : List V) : (V.tu v).isAg = false := rfl
theorem V.cells_tu (v : List V) : (V.tu v).cells = [(V.tu v)] := rfl
theorem V.size_tu (v : List V) : (V.tu v).size = 1 := rfl
theorem V.live_gi (b : Bool) (x : V) : (V.gi b x).live = false := rfl
theorem V.isAg_gi (b : Bool) (x : V) : (V.gi b x).isAg = false := rfl
theorem V.live_dead  : V.dead.live = false := rfl
theorem V.isAg_dead  : V.dead.isAg = false := rfl
theorem V.cells_dead  : V.dead.cells = [V.dead] := rfl
theorem V.size_dead  : V.dead.size = 1 := rfl
/-! ### Reckoning -/
def ofl (l : List Ent) : Nat → Ent := fun i => l.getD i .free
def putE (l : List Ent) (i : Nat) (e : Ent) : List Ent := if i < l.length then l.set i e else l ++ List.replicate (i - l.length) .free ++ [e]
theorem ofl_putE (l : List Ent) (i : Nat) (e : Ent) : ofl (putE l i e) = upd (ofl l) i e := by
  funext j
  unfold ofl putE upd
  by_cases h : i < l.length
  · rw [if_pos h]
    by_cases hj : j = i
    · subst hj; simp [List.getD, h]
    · simp [List.getD, List.getElem?_set_ne (Ne.symm hj), hj]
  · rw [if_neg h]
    simp only [List.getD, List.getElem?_append, List.length_append, List.length_replicate]
    by_cases hj : j = i
    · subst hj
      have h1 : ¬ j < l.length + (j - l.length) := by omega
      have h2 : j - (l.length + (j - l.length)) = 0 := by omega
      simp [h1, h2]
    · rw [if_neg hj]
      by_cases h1 : j < l.length
      · have : j < l.length + (i - l.length) := by omega
        simp [h1, this]
      · rw [List.getElem?_eq_none (Nat.le_of_not_lt h1)]
        by_cases h2 : j < l.length + (i - l.length)
        · have : j - l.length < i - l.length := by omega
          simp [h1, h2, this]
        · have : [e][j - (l.length + (i - l.length))]? = none := List.getElem?_eq_none (by simp; omega)
          simp [h2, this]
def wrl (l : List Ent) : List (Nat × Ent) → List Ent
  | [] => l
  | p :: ps => wrl (putE l p.1 p.2) ps
theorem ofl_wrl (ps : List (Nat × Ent)) : ∀ l, ofl (wrl l ps) = wrs (ofl l) ps := by
  induction ps with
  | nil => intro l; rfl
  | cons p ps ih => intro l; rw [wrl, wrs, ih, ofl_putE]

def imp (g g' : Bool) : Bool := !g || g'
def strip (g : Bool) : V → V
  | .gi g' y => cond (imp g g') y (.gi g' y)
  | x => x
theorem Wk.strip {g : Bool} (hg : g = true) (x : V) : Wk x (strip g x) := by
  subst hg
  cases x <;> try exact Wk.refl _
  rename_i g' y
  cases g'
  · exact Wk.refl _
  · intro C v h
    cases h with
    | gi h _ => exact h rfl
theorem strip_im (g : Bool) (v : Value) : strip g (V.im v) = (V.im v) := rfl
theorem strip_ag (g : Bool) (v : List V) : strip g (V.ag v) = (V.ag v) := rfl
theorem strip_sl (g : Bool) (v : List V) (k : Slk) : strip g (V.sl v k) = (V.sl v k) := rfl
theorem strip_pt (g : Bool) (v w : Nat) : strip g (V.pt v w) = (V.pt v w) := rfl
theorem strip_itr (g : Bool) (v : Nat) : strip g (V.itr v) = (V.itr v) := rfl
theorem strip_bs (g : Bool) (v w : Nat) : strip g (V.bs v w) = (V.bs v w) := rfl
theorem strip_ep (g : Bool) (v : V) (w : Nat) : strip g (V.ep v w) = (V.ep v w) := rfl
theorem strip_fn (g : Bool) (f : Fn) (v w : List V) : strip g (V.fn f v w) = (V.fn f v w) := rfl
theorem strip_tu (g : Bool) (v : List V) : strip g (V.tu v) = (V.tu v) := rfl
theorem strip_dead (g : Bool)  : strip g V.dead = V.dead := rfl
theorem strip_gi' (g g' : Bool) (y : V) : strip g (.gi g' y) = cond (imp g g') y (.gi g' y) := rfl
theorem strip_gi {g g' : Bool} {y : V} (h : imp g g' = true) : strip g (.gi g' y) = y := by simp only [strip, h, cond_true]
theorem firm_im (v : Value) : (V.im v).firm = true := Eq.trans rfl rfl
theorem firm_ag (v : List V) : (V.ag v).firm = true := Eq.trans rfl rfl
theorem firm_sl (v : List V) (k : Slk) : (V.sl v k).firm = true := Eq.trans rfl rfl
theorem firm_pt (v w : Nat) : (V.pt v w).firm = true := Eq.trans rfl rfl
theorem firm_itr (v : Nat) : (V.itr v).firm = true := Eq.trans rfl rfl
theorem firm_bs (v w : Nat) : (V.bs v w).firm = true := Eq.trans rfl rfl
theorem firm_ep (v : V) (w : Nat) : (V.ep v w).firm = true := Eq.trans rfl rfl
theorem firm_fn (f : Fn) (v w : List V) : (V.fn f v w).firm = true := Eq.trans rfl rfl
theorem firm_tu (v : List V) : (V.tu v).firm = true := Eq.trans rfl rfl
theorem strip_firm {g : Bool} {x : V} (h : x.firm = true) : strip g x = x := by cases x <;> first | rfl | cases h
theorem strip_gw {g g' : Bool} {y : V} (h : imp g g' = true) (hy : y.firm = true) : strip g (gw g' y) = y := by
  cases g' with
  | true => exact strip_firm hy
  | false => simp only [gw, strip, h, cond_true]
theorem strip_strip {f g g' : Bool} {y : V} (h : imp f g' = true) (hy : y.firm = true) : strip f (strip g (.gi g' y)) = y := by
  rw [strip_gi']
  cases imp g g' with
  | true => exact strip_firm hy
  | false => exact strip_gi h
theorem strip_stripw {f g g' : Bool} {y : V} (h : imp f g' = true) (hy : y.firm = true) : strip f (strip g (gw g' y)) = y := by
  cases g' with
  | true =>
    show strip f (strip g y) = y
    rw [strip_firm hy, strip_firm hy]
  | false => exact strip_strip h hy
theorem gw_true (y : V) : gw true y = y := rfl
theorem gw_false (y : V) : gw false y = .gi false y := rfl
theorem gbw_im (b w : Bool) : gbw (.im (.bool b)) w = some (b == w) := rfl
theorem gbw_gi (g b w : Bool) : gbw (.gi g (.im (.bool b))) w = some (g && (b == w)) := rfl
theorem gbw_gf (x : V) (w : Bool) : gbw (.gi false x) w = some false := by
  unfold gbw
  split
  · rename_i h; cases h
  · rename_i h; cases h; rfl
  · rfl
  · rename_i h; exact absurd rfl (h x)
theorem gbw_gw (g b w : Bool) : gbw (gw g (.im (.bool b))) w = some (g && (b == w)) := by cases g <;> rfl
theorem imp_self (a : Bool) : imp a a = true := by cases a <;> rfl
theorem imp_true (a : Bool) : imp a true = true := by cases a <;> rfl
theorem imp_false (a : Bool) : imp false a = true := rfl
theorem imp_and (g a b : Bool) : imp g (a && b) = (imp g a && imp g b) := by cases g <;> cases a <;> cases b <;> rfl
theorem imp_1 (a b : Bool) : imp (a && b) a = true := by cases a <;> cases b <;> rfl
theorem imp_2 (a b : Bool) : imp (a && b) b = true := by cases a <;> cases b <;> rfl
theorem imp_3 (a b c : Bool) : imp (a && b && c) a = true := by cases a <;> cases b <;> cases c <;> rfl
theorem imp_4 (a b c : Bool) : imp (a && b && c) b = true := by cases a <;> cases b <;> cases c <;> rfl
theorem imp_5 (a b c d : Bool) : imp (a && b && c && d) a = true := by cases a <;> cases b <;> cases c <;> cases d <;> rfl
theorem imp_6 (a b c d : Bool) : imp (a && b && c && d) b = true := by cases a <;> cases b <;> cases c <;> cases d <;> rfl
theorem imp_7 (a b c : Bool) : imp (a && (b && c)) b = true := by cases a <;> cases b <;> cases c <;> rfl
theorem imp_8 (a b c : Bool) : imp (a && (b && c)) c = true := by cases a <;> cases b <;> cases c <;> rfl
theorem imp_9 (a b c : Bool) : imp (a && (b && c)) (b && c) = true := by cases a <;> cases b <;> cases c <;> rfl
theorem bl_T (b : Bool) : (b == true) = b := by cases b <;> rfl
theorem bl_F (b : Bool) : (b == false) = !b := by cases b <;> rfl
theorem bl_and (a b : Bool) : cond a b false = (a && b) := by cases a <;> rfl
theorem bl_or (a b : Bool) : cond a true b = (a || b) := by cases a <;> rfl
/-- What an append yields. -/
def evA1 (P : Program) (e tx : TypeId) (es : List V) (x : V) (l : List Ent) : Option (V × List (Nat × Ent) × List (Nat × Ent)) :=
  match x with
    | .sl ys _ => match elOf P tx with
      | some _ => match apOk P e es.length ys.length with
        | some z => if allS z es = true ∧ allZ z ys = true then some (.sl (es ++ ys) (.own l.length), [(l.length, .free)], [(l.length, .tip e z (es.length + ys.length))]) else none
        | none => none
      | none => none
    | .im (.string b) => match P.underlying tx with
      | some .string => match apOk P e es.length (byV b).length with
        | some z => if z = 1 ∧ allS z es = true then some (.sl (es ++ byV b) (.own l.length), [(l.length, .free)], [(l.length, .tip e z (es.length + (byV b).length))]) else none
        | none => none
      | _ => none
    | _ => none
def evA (P : Program) (e tx : TypeId) (s x : V) (l : List Ent) : Option (V × List (Nat × Ent) × List (Nat × Ent)) :=
  match s with
  | .sl es .full => evA1 P e tx es x l
  | .sl es .nl => evA1 P e tx es x l
  | .sl es (.own id) => match l.getD id .free with
    | .tip e' z' n => if e' = e ∧ n = es.length then match x with
        | .sl ys _ => match elOf P tx with
          | some _ => match apOk P e n ys.length with
            | some z => if z' = z ∧ allZ z ys = true then some (.sl (es ++ ys) (.own id), [(id, .tip e z n)], [(id, .tip e z (n + ys.length))]) else none
            | none => none
          | none => none
        | .im (.string b) => match P.underlying tx with
          | some .string => match apOk P e n (byV b).length with
            | some z => if z' = z ∧ z = 1 then some (.sl (es ++ byV b) (.own id), [(id, .tip e z n)], [(id, .tip e z (n + (byV b).length))]) else none
            | none => none
          | _ => none
        | _ => none
      else none
    | _ => none
  | _ => none
def evB (P : Program) (b : Builtin) (args : List Operand) (tys : List TypeId) (ev : Operand → V) (l : List Ent) : Option (V × List (Nat × Ent) × List (Nat × Ent)) :=
  match b with
  | .len => match args with
    | [x] => match tys with
      | [t] => match ev x with
        | .sl es _ => match elOf P t with
          | some _ => some (.im (.int .i64 es.length), [], [])
          | none => none
        | .bs _ m => match elOf P t with
          | some _ => some (.im (.int .i64 m), [], [])
          | none => none
        | .im (.string s) => match P.underlying t with
          | some .string => some (.im (.int .i64 s.size), [], [])
          | _ => none
        | _ => none
      | _ => none
    | _ => none
  | .max => match args with
    | [x, y] => match ev x with
      | .im (.int k a) => match ev y with
        | .im (.int _ b) => some (.im (.int k (if b > a then b else a)), [], [])
        | _ => none
      | _ => none
    | _ => none
  | .min => match args with
    | [x, y] => match ev x with
      | .im (.int k a) => match ev y with
        | .im (.int _ b) => some (.im (.int k (if b < a then b else a)), [], [])
        | _ => none
      | _ => none
    | _ => none
  | .append => match args with
    | [s, x] => match tys with
      | [t, tx] => match elOf P t with
        | some e => evA P e tx (ev s) (ev x) l
        | none => none
      | _ => none
    | _ => none
  | _ => none
theorem evA1_sound {P : Program} {o : Oper} {s x : Operand} {t tx e : TypeId} {ev : Operand → V} {l : List Ent} {v : V} {fp wr : List (Nat × Ent)} {es : List V} {k : Slk} (hk : k = .full ∨ k = .nl) (hs : ev s = .sl es k) (ho : o.op = .call { callee := .builtin .append, args := #[s, x], argTypes := #[t, tx] }) (ht : elOf P t = some e) (h : evA1 P e tx es (ev x) l = some (v, fp, wr)) :
    Step P o ev fp ⟨v, wr⟩ ∧ ∀ p ∈ fp, ofl l p.1 = p.2 := by
  have hfree : ofl l l.length = .free := by simp [ofl, List.getD]
  unfold evA1 at h
  split at h
  · rename_i ys k hx
    split at h
    · rename_i e2 hx2
      split at h
      · rename_i z hz
        split at h
        · rename_i hq; cases h; exact ⟨step_append_full hk ho hs ht hq.1 (.inl ⟨_, _, hx, hx2, hq.2⟩) hz, fun p hp => by simp at hp; subst hp; exact hfree⟩
        · cases h
      · cases h
    · cases h
  · rename_i b hx
    split at h
    · rename_i hx2
      split at h
      · rename_i z hz
        split at h
        · rename_i hq; cases h; exact ⟨step_append_full hk ho hs ht hq.2 (.inr ⟨_, hx, hx2, rfl, hq.1⟩) hz, fun p hp => by simp at hp; subst hp; exact hfree⟩
        · cases h
      · cases h
    · cases h
  · cases h
theorem evA_sound {P : Program} {o : Oper} {s x : Operand} {t tx e : TypeId} {ev : Operand → V} {l : List Ent} {v : V} {fp wr : List (Nat × Ent)} (ho : o.op = .call { callee := .builtin .append, args := #[s, x], argTypes := #[t, tx] }) (ht : elOf P t = some e) (h : evA P e tx (ev s) (ev x) l = some (v, fp, wr)) :
    Step P o ev fp ⟨v, wr⟩ ∧ ∀ p ∈ fp, ofl l p.1 = p.2 := by
  unfold evA at h
  split at h
  · rename_i es hs
    exact evA1_sound (.inl rfl) hs ho ht h
  · rename_i es hs
    exact evA1_sound (.inr rfl) hs ho ht h
  · rename_i es id hs
    split at h
    · rename_i e' z' n hid
      split at h
      · rename_i hn
        obtain ⟨rfl, rfl⟩ := hn
        split at h
        · rename_i ys k hx
          split at h
          · rename_i e2 hx2
            split at h
            · rename_i z hz
              split at h
              · rename_i hq; obtain ⟨rfl, hq⟩ := hq; cases h; exact ⟨step_append_own ho hs ht (.inl ⟨_, _, hx, hx2, hq⟩) rfl hz, fun p hp => by simp at hp; subst hp; exact hid⟩
              · cases h
            · cases h
          · cases h
        · rename_i b hx
          split at h
          · rename_i hx2
            split at h
            · rename_i z hz
              split at h
              · rename_i hq; obtain ⟨rfl, hq⟩ := hq; cases h; exact ⟨step_append_own ho hs ht (.inr ⟨_, hx, hx2, rfl, hq⟩) rfl hz, fun p hp => by simp at hp; subst hp; exact hid⟩
              · cases h
            · cases h
          · cases h
        · cases h
      · cases h
    · cases h
  · cases h
theorem evB_sound {P : Program} {o : Oper} {c : Call} {b : Builtin} {ev : Operand → V} {l : List Ent} {v : V} {fp wr : List (Nat × Ent)} (ho : o.op = .call c) (hb : c.callee = .builtin b) (h : evB P b c.args.toList c.argTypes.toList ev l = some (v, fp, wr)) :
    Step P o ev fp ⟨v, wr⟩ ∧ ∀ p ∈ fp, ofl l p.1 = p.2 := by
  obtain ⟨callee, ⟨args⟩, ⟨tys⟩⟩ := c
  simp only at hb h
  subst hb
  unfold evB at h
  split at h
  · split at h
    · split at h
      · split at h
        · rename_i hx
          split at h
          · rename_i ht; cases h; exact ⟨step_len_sl ho hx ht, fun p hp => by cases hp⟩
          · cases h
        · rename_i hx
          split at h
          · rename_i ht; cases h; exact ⟨step_len_bs ho hx ht, fun p hp => by cases hp⟩
          · cases h
        · rename_i hx
          split at h
          · rename_i ht; cases h; exact ⟨step_len_str ho hx ht, fun p hp => by cases hp⟩
          · cases h
        · cases h
      · cases h
    · cases h
  · split at h
    · split at h
      · rename_i hx
        split at h
        · rename_i hy; cases h; exact ⟨step_max ho hx hy, fun p hp => by cases hp⟩
        · cases h
      · cases h
    · cases h
  · split at h
    · split at h
      · rename_i hx
        split at h
        · rename_i hy; cases h; exact ⟨step_min ho hx hy, fun p hp => by cases hp⟩
        · cases h
      · cases h
    · cases h
  · split at h
    · split at h
      · split at h
        · rename_i ht; exact evA_sound ho ht h
        · cases h
      · cases h
    · cases h
  · cases h
/-- What the operation yields: the value, what it touched, what it wrote. -/
def evO (P : Program) (g : Bool) (o : Oper) (ev : Operand → V) (l : List Ent) : Option (V × List (Nat × Ent) × List (Nat × Ent)) :=
  match o.op with
  | .move x => some (ev x, [], [])
  | .assign x => some (ev x, [], [])
  | .pick c a b => match ev c with
    | .im (.bool t) => match strip (g && t) (ev a) with
      | .im (.bool x) => match strip (g && !t) (ev b) with
        | .im (.bool y) => some (.im (.bool (cond t x y)), [], [])
        | _ => some (cond t (strip (g && t) (ev a)) (strip (g && !t) (ev b)), [], [])
      | _ => some (cond t (strip (g && t) (ev a)) (strip (g && !t) (ev b)), [], [])
    | _ => none
  | .alloc t => match alOf P t with
    | some cs => some (.pt l.length 0, [(l.length, .free)], [(l.length, .box cs)])
    | none => none
  | .box _ x => match (ev x).live with
    | true => some (.pt l.length 0, [(l.length, .free)], [(l.length, .box (ev x).cells)])
    | false => none
  | .load t a => match agOf P t with
    | some true => match szOf P t with
      | some z => match ev a with
        | .pt id off => match l.getD id .free with
          | .box cs => if off + z ≤ cs.length then some (.ag ((cs.drop off).take z), [(id, .box cs)], []) else none
          | _ => none
        | .ep x off => if off = 0 ∧ x.size = z ∧ x.isAg = true then some (x, [], []) else if x.isAg = true ∧ off + z ≤ x.size then some (.ag ((x.cells.drop off).take z), [], []) else none
        | _ => none
      | none => none
    | some false => match ev a with
      | .pt id off => match l.getD id .free with
        | .box cs => match cs[off]? with
          | some v => some (v, [(id, .box cs)], [])
          | none => none
        | _ => none
      | .ep x off => match x.live with
        | true => match x.cells[off]? with
          | some v => some (v, [], [])
          | none => none
        | false => none
      | _ => none
    | none => none
  | .store t a x => match ev a with
    | .pt id off => match l.getD id .free with
      | .box cs => match szOf P t with
        | some z => if (ev x).live = true ∧ (ev x).size = z ∧ off + z ≤ cs.length then some (.dead, [(id, .box cs)], [(id, .box (seg cs off (ev x).cells))]) else none
        | none => none
      | _ => none
    | _ => none
  | .nilCheck x => match ev x with
    | .pt id off => some (.pt id off, [], [])
    | .ep y off => some (.ep y off, [], [])
    | .fn (.func f) us vs => some (.fn (.func f) us vs, [], [])
    | _ => none
  | .binOp op t x y _ => match ev x with
    | .im a => match ev y with
      | .im b => match bin2 P op t a b with
        | some v => some (.im v, [], [])
        | none => none
      | _ => none
    | .sl es kk => match op with
      | .eql => match ev y with
        | .sl _ .nl => match elOf P t with
          | some _ => match nilK es kk with
            | some b => some (.im (.bool b), [], [])
            | none => none
          | none => none
        | _ => none
      | .neq => match ev y with
        | .sl _ .nl => match elOf P t with
          | some _ => match nilK es kk with
            | some b => some (.im (.bool !b), [], [])
            | none => none
          | none => none
        | _ => none
      | _ => none
    | .ag cs => match op with
      | .eql => match ev y with
        | .ag ds => match eqK P t with
          | some ks => match eqF cs ds ks with
            | some b => some (.im (.bool b), [], [])
            | none => none
          | none => none
        | _ => none
      | .neq => match ev y with
        | .ag ds => match eqK P t with
          | some ks => match eqF cs ds ks with
            | some b => some (.im (.bool !b), [], [])
            | none => none
          | none => none
        | _ => none
      | _ => none
    | _ => none
  | .unOp op _ x => match ev x with
    | .im a => match un1 op a with
      | some v => some (.im v, [], [])
      | none => none
    | _ => none
  | .convert s d x => match ev x with
    | .im (.int _ n) => match inOf P s with
      | some _ => match inOf P d with
        | some k => some (.im (.int k (k.wrap n)), [], [])
        | none => none
      | none => none
    | .im (.string b) => match P.underlying s with
      | some .string => match elOf P d with
        | some e => match P.underlying e with
          | some (.int .u8) => if b.size ≤ 140737488355328 then some (.sl (byV b) .ro, [], []) else none
          | _ => none
        | none => none
      | _ => none
    | .sl es _ => match elOf P s with
      | some e => match P.underlying e with
        | some (.int .u8) => match P.underlying d with
          | some .string => match bytesOf es with
            | some r => some (.im (.string ⟨r.toArray⟩), [], [])
            | none => none
          | _ => none
        | _ => none
      | none => none
    | _ => none
  | .makeFunc fn fs cs => some (.fn fn (fs.toList.map ev) (cs.toList.map ev), [], [])
  | .fieldAddr t x f => match flOf P t f with
    | some (off, ft) => match szOf P ft with
      | some z => if z = 0 then none else match ev x with
        | .pt id k => some (.pt id (k + off), [], [])
        | .ep y k => some (.ep y (k + off), [], [])
        | _ => none
      | none => none
    | none => none
  | .field t x f => match flOf P t f with
    | some (off, ft) => match (ev x).isAg with
      | true => match agOf P ft with
        | some true => match szOf P ft with
          | some z => if off + z ≤ (ev x).size then some (.ag (((ev x).cells.drop off).take z), [], []) else none
          | none => none
        | some false => match (ev x).cells[off]? with
          | some v => some (v, [], [])
          | none => none
        | none => none
      | false => none
    | none => none
  | .indexAddr t x i => match ev i with
    | .im (.int _ n) => match ev x with
      | .sl es _ => if 0 ≤ n then match es[n.toNat]? with
          | some y => match elOf P t with
            | some e => if szOf P e = some y.size then some (.ep y 0, [], []) else none
            | none => none
          | none => none
        else none
      | .pt id off => match arOf P t with
        | some (len, e) => match szOf P e with
          | some z => if 0 ≤ n ∧ n < len then some (.pt id (off + n.toNat * z), [], []) else none
          | none => none
        | none => none
      | .bs id m => match elOf P t with
        | some e => match szOf P e with
          | some z => if 0 ≤ n ∧ n < m then some (.pt id (n.toNat * z), [], []) else none
          | none => none
        | none => none
      | _ => none
    | _ => none
  | .index t x i => match ev x with
    | .im (.string s) => match ev i with
      | .im (.int _ n) => match P.underlying t with
        | some .string => if 0 ≤ n then match s[n.toNat]? with
            | some b => some (.im (.int .u8 b.toNat), [], [])
            | none => none
          else none
        | _ => none
      | _ => none
    | _ => none
  | .slice t x lo hi mx => match intOf ev lo with
    | some lo' => match intOf ev hi with
      | some hi' => match intOf ev mx with
        | some mx' => match ev x with
          | .sl es k => match elOf P t with
            | some e => match szOf P e with
              | some z => if allS z es = true then match slB es.length lo' hi' mx' with
                  | some (a, b, m) => some (.sl ((es.drop a).take (b - a)) (slK es.length a b m k), [], [])
                  | none => none
                else none
              | none => none
            | none => none
          | .im (.string s) => match mx with
            | none => match P.underlying t with
              | some .string => match slB s.size lo' hi' none with
                | some (a, b, none) => some (.im (.string (s.extract a b)), [], [])
                | _ => none
              | _ => none
            | some _ => none
          | _ => none
        | none => none
      | none => none
    | none => none
  | .extract x i => match ev x with
    | .tu vs => match vs[i]? with
      | some v => some (v, [], [])
      | none => none
    | _ => none
  | .build t parts => match stOf P t with
    | some pl => match alOf P t with
      | some cs => match fillV (fun i => pl[i]?) cs (parts.toList.map fun p => (p.1, ev p.2)) with
        | some cs' => some (.ag cs', [], [])
        | none => none
      | none => none
    | none => none
  | .buildSlice t n parts => match elOf P t with
    | some e => match szOf P e with
      | some z => match alOf P e with
        | some _ => if n * z ≤ 16777216 ∧ 0 < z ∧ partsOk ev z n 0 parts.toList = true then some (.sl (parts.toList.map fun p => ev p.2) .full, [], []) else none
        | none => none
      | none => none
    | none => none
  | .range t x => match ev x with
    | .im (.string s) => match P.underlying t with
      | some .string => some (.itr l.length, [(l.length, .free)], [(l.length, .iter s 0)])
      | _ => none
    | _ => none
  | .next x b => match b with
    | true => match ev x with
      | .itr id => match l.getD id .free with
        | .iter s pos => if pos < s.size then some (.tu [.im (.bool true), .im (.int .i64 pos), .im (.int .i32 (Utf8.decode s pos).1)], [(id, .iter s pos)], [(id, .iter s (pos + (Utf8.decode s pos).2))])
          else some (.tu [.im (.bool false)], [(id, .iter s pos)], [])
        | _ => none
      | _ => none
    | false => none
  | .call c => match c.callee with
    | .builtin b => evB P b c.args.toList c.argTypes.toList ev l
    | _ => none
  | _ => none

theorem evO_sound {P : Program} {g : Bool} (hgt : g = true) {o : Oper} {ev : Operand → V} {l : List Ent} {v : V} {fp wr : List (Nat × Ent)} (h : evO P g o ev l = some (v, fp, wr)) : Step P o ev fp ⟨v, wr⟩ ∧ ∀ p ∈ fp, ofl l p.1 = p.2 := by
  have hfree : ofl l l.length = .free := by simp [ofl, List.getD]
  unfold evO at h
  split at h
  case h_1 ho => cases h; exact ⟨step_move (.inl ho), fun p hp => by cases hp⟩
  case h_2 ho => cases h; exact ⟨step_move (.inr ho), fun p hp => by cases hp⟩
  case h_3 ho =>
    split at h
    · rename_i t hc
      have hs := step_pick (P := P) ho hc
      have hc2 : ∀ a b : V, Wk (cond t a b) (cond t (strip (g && t) a) (strip (g && !t) b)) := fun a b => by
        subst hgt
        cases t
        · exact Wk.strip rfl _
        · exact Wk.strip rfl _
      split at h
      · rename_i hx
        split at h
        · rename_i hy
          cases h
          refine ⟨hs.wk (Wk.trans (hc2 _ _) ?_), fun p hp => by cases hp⟩
          rw [hx, hy]
          cases t <;> exact Wk.refl _
        · cases h; exact ⟨hs.wk (hc2 _ _), fun p hp => by cases hp⟩
      · cases h; exact ⟨hs.wk (hc2 _ _), fun p hp => by cases hp⟩
    · cases h
  case h_4 ho =>
    split at h
    · rename_i hc; cases h; exact ⟨step_alloc ho hc, fun p hp => by simp at hp; subst hp; exact hfree⟩
    · cases h
  case h_5 ho =>
    split at h
    · rename_i hc; cases h; exact ⟨step_box ho hc, fun p hp => by simp at hp; subst hp; exact hfree⟩
    · cases h
  case h_6 ho =>
    split at h
    · rename_i hg
      split at h
      · rename_i hz
        split at h
        · rename_i ha
          split at h
          · rename_i hb
            split at h
            · rename_i hf; cases h; exact ⟨step_load_box ho ha hz hg hf, fun p hp => by simp at hp; subst hp; exact hb⟩
            · cases h
          · cases h
        · rename_i ha
          split at h
          · rename_i hq; obtain ⟨rfl, rfl, hx⟩ := hq; cases h; exact ⟨step_load_whole ho ha hz hg hx, fun p hp => by cases hp⟩
          · split at h
            · rename_i hq; cases h; exact ⟨step_load_ep ho ha hz hg hq.1 hq.2, fun p hp => by cases hp⟩
            · cases h
        · cases h
      · cases h
    · rename_i hg
      split at h
      · rename_i ha
        split at h
        · rename_i hb
          split at h
          · rename_i hv; cases h; exact ⟨step_load_cell ho ha hg hv, fun p hp => by simp at hp; subst hp; exact hb⟩
          · cases h
        · cases h
      · rename_i ha
        split at h
        · rename_i hl
          split at h
          · rename_i hv; cases h; exact ⟨step_load_ecell ho ha hg hl hv, fun p hp => by cases hp⟩
          · cases h
        · cases h
      · cases h
    · cases h
  case h_7 ho =>
    split at h
    · rename_i ha
      split at h
      · rename_i hb
        split at h
        · rename_i hz
          split at h
          · rename_i hq; cases h; exact ⟨step_store ho ha hz hq.1 hq.2.1 hq.2.2, fun p hp => by simp at hp; subst hp; exact hb⟩
          · cases h
        · cases h
      · cases h
    · cases h
  case h_8 ho =>
    split at h
    · rename_i hx; cases h; rw [← hx]; exact ⟨step_nilCheck ho (.inl ⟨_, _, hx⟩), fun p hp => by cases hp⟩
    · rename_i hx; cases h; rw [← hx]; exact ⟨step_nilCheck ho (.inr (.inl ⟨_, _, hx⟩)), fun p hp => by cases hp⟩
    · rename_i hx; cases h; rw [← hx]; exact ⟨step_nilCheck ho (.inr (.inr ⟨_, _, _, hx⟩)), fun p hp => by cases hp⟩
    · cases h
  case h_9 ho =>
    split at h
    · rename_i hx
      split at h
      · rename_i hy
        split at h
        · rename_i hv; cases h; exact ⟨step_bin ho hx hy hv, fun p hp => by cases hp⟩
        · cases h
      · cases h
    · rename_i hx
      split at h
      · split at h
        · rename_i hy
          split at h
          · rename_i ht
            split at h
            · rename_i hb; cases h; exact ⟨step_eqnil (.inl rfl) ho hx hy ht hb, fun p hp => by cases hp⟩
            · cases h
          · cases h
        · cases h
      · split at h
        · rename_i hy
          split at h
          · rename_i ht
            split at h
            · rename_i hb; cases h; exact ⟨step_eqnil (.inr rfl) ho hx hy ht hb, fun p hp => by cases hp⟩
            · cases h
          · cases h
        · cases h
      · cases h
    · rename_i hx
      split at h
      · split at h
        · rename_i hy
          split at h
          · rename_i ht
            split at h
            · rename_i hb; cases h; exact ⟨step_eqag (.inl rfl) ho hx hy ht hb, fun p hp => by cases hp⟩
            · cases h
          · cases h
        · cases h
      · split at h
        · rename_i hy
          split at h
          · rename_i ht
            split at h
            · rename_i hb; cases h; exact ⟨step_eqag (.inr rfl) ho hx hy ht hb, fun p hp => by cases hp⟩
            · cases h
          · cases h
        · cases h
      · cases h
    · cases h
  case h_10 ho =>
    split at h
    · rename_i hx
      split at h
      · rename_i hv; cases h; exact ⟨step_un ho hx hv, fun p hp => by cases hp⟩
      · cases h
    · cases h
  case h_11 ho =>
    split at h
    · rename_i hx
      split at h
      · rename_i hs
        split at h
        · rename_i hd; cases h; exact ⟨step_conv ho hx hs hd, fun p hp => by cases hp⟩
        · cases h
      · cases h
    · rename_i hx
      split at h
      · rename_i hs
        split at h
        · rename_i hd
          split at h
          · rename_i he
            split at h
            · rename_i hb; cases h; exact ⟨step_conv_bytes ho hx hs hd he hb, fun p hp => by cases hp⟩
            · cases h
          · cases h
        · cases h
      · cases h
    · rename_i hx
      split at h
      · rename_i hs
        split at h
        · rename_i he
          split at h
          · rename_i hd
            split at h
            · rename_i hr; cases h; exact ⟨step_conv_string ho hx hs he hd hr, fun p hp => by cases hp⟩
            · cases h
          · cases h
        · cases h
      · cases h
    · cases h
  case h_12 ho => cases h; exact ⟨step_makeFunc ho, fun p hp => by cases hp⟩
  case h_13 ho =>
    split at h
    · rename_i hf
      split at h
      · rename_i hz
        split at h
        · cases h
        · rename_i hz0
          split at h
          · rename_i hx; cases h; exact ⟨step_fieldAddr ho hx hf hz hz0, fun p hp => by cases hp⟩
          · rename_i hx; cases h; exact ⟨step_fieldAddr_ep ho hx hf hz hz0, fun p hp => by cases hp⟩
          · cases h
      · cases h
    · cases h
  case h_14 ho =>
    split at h
    · rename_i hf
      split at h
      · rename_i hx
        split at h
        · rename_i hg
          split at h
          · rename_i hz
            split at h
            · rename_i hq; cases h; exact ⟨step_field ho hx hf hz hg hq, fun p hp => by cases hp⟩
            · cases h
          · cases h
        · rename_i hg
          split at h
          · rename_i hv; cases h; exact ⟨step_field_cell ho hx hf hg hv, fun p hp => by cases hp⟩
          · cases h
        · cases h
      · cases h
    · cases h
  case h_15 ho =>
    split at h
    · rename_i hi
      split at h
      · rename_i hx
        split at h
        · rename_i hn
          split at h
          · rename_i hy
            split at h
            · rename_i he
              split at h
              · rename_i hz; cases h; exact ⟨step_indexAddr ho hx hi hn hy he hz, fun p hp => by cases hp⟩
              · cases h
            · cases h
          · cases h
        · cases h
      · rename_i hx
        split at h
        · rename_i he
          split at h
          · rename_i hz
            split at h
            · rename_i hn; cases h; exact ⟨step_indexAddr_box ho hx hi hn he hz, fun p hp => by cases hp⟩
            · cases h
          · cases h
        · cases h
      · rename_i hx
        split at h
        · rename_i he
          split at h
          · rename_i hz
            split at h
            · rename_i hn; cases h; exact ⟨step_indexAddr_bs ho hx hi hn he hz, fun p hp => by cases hp⟩
            · cases h
          · cases h
        · cases h
      · cases h
    · cases h
  case h_16 ho =>
    split at h
    · rename_i hx
      split at h
      · rename_i hi
        split at h
        · rename_i ht
          split at h
          · rename_i hn
            split at h
            · rename_i hb; cases h; exact ⟨step_index_str ho hx hi hn hb ht, fun p hp => by cases hp⟩
            · cases h
          · cases h
        · cases h
      · cases h
    · cases h
  case h_17 ho =>
    split at h
    · rename_i h1
      split at h
      · rename_i h2
        split at h
        · rename_i h3
          split at h
          · rename_i hx
            split at h
            · rename_i ht
              split at h
              · rename_i hz
                split at h
                · rename_i hes
                  split at h
                  · rename_i hb; cases h; exact ⟨step_slice_sl ho hx ht hz hes h1 h2 h3 hb, fun p hp => by cases hp⟩
                  · cases h
                · cases h
              · cases h
            · cases h
          · rename_i hx
            split at h
            · split at h
              · rename_i ht
                split at h
                · rename_i hb; cases h; exact ⟨step_slice_str ho hx ht h1 h2 hb, fun p hp => by cases hp⟩
                · cases h
              · cases h
            · cases h
          · cases h
        · cases h
      · cases h
    · cases h
  case h_18 ho =>
    split at h
    · rename_i hx
      split at h
      · rename_i hv; cases h; exact ⟨step_extract ho hx hv, fun p hp => by cases hp⟩
      · cases h
    · cases h
  case h_19 ho =>
    split at h
    · rename_i hst
      split at h
      · rename_i hal
        split at h
        · rename_i hf; cases h; exact ⟨step_build ho hst hal hf, fun p hp => by cases hp⟩
        · cases h
      · cases h
    · cases h
  case h_20 ho =>
    split at h
    · rename_i he
      split at h
      · rename_i hz
        split at h
        · rename_i hal
          split at h
          · rename_i hq; cases h; exact ⟨step_buildSlice ho he hz hal hq.1 hq.2.1 hq.2.2, fun p hp => by cases hp⟩
          · cases h
        · cases h
      · cases h
    · cases h
  case h_21 ho =>
    split at h
    · rename_i hx
      split at h
      · rename_i ht; cases h; exact ⟨step_range ho hx ht, fun p hp => by simp at hp; subst hp; exact hfree⟩
      · cases h
    · cases h
  case h_22 ho =>
    split at h
    · split at h
      · rename_i hx
        split at h
        · rename_i hb
          split at h
          · rename_i hp; cases h; exact ⟨step_next ho hx hp, fun p hp => by simp at hp; subst hp; exact hb⟩
          · rename_i hp; cases h; exact ⟨step_next_end ho hx hp, fun p hp => by simp at hp; subst hp; exact hb⟩
        · cases h
      · cases h
    · cases h
  case h_23 ho =>
    split at h
    · rename_i hb; exact evB_sound ho hb h
    · cases h
  case h_24 => cases h

/-! ### Frames, told by the slots that count -/
def look : List (Nat × V) → Nat → V
  | [], _ => .dead
  | (i, v) :: l, t => if i = t then v else look l t
theorem look_nil (t : Nat) : look [] t = .dead := rfl
theorem look_cons (i : Nat) (v : V) (l : List (Nat × V)) (t : Nat) : look ((i, v) :: l) t = if i = t then v else look l t := rfl
def dn (N : Nat) (s : List (Nat × V)) : List V := (List.range N).map (look s)
theorem dn_length (N : Nat) (s : List (Nat × V)) : (dn N s).length = N := by simp [dn]
theorem getD_dn (N : Nat) (s : List (Nat × V)) (t : Nat) : (dn N s).getD t .dead = if t < N then look s t else .dead := by
  unfold dn
  by_cases h : t < N
  · simp [List.getD, h]
  · simp [List.getD, h]
def putA (s : List (Nat × V)) (d : Option Tmp) (v : V) : List (Nat × V) :=
  match d with
  | some d => (d, v) :: s
  | none => s
theorem put_dn (N : Nat) (s : List (Nat × V)) (st : Nat → Ent) (d : Option Tmp) (v : V) : (St.put ⟨dn N s, st⟩ d v).s = dn N (putA s d v) := by
  cases d with
  | none => rfl
  | some d =>
    show (dn N s).set d v = dn N ((d, v) :: s)
    refine List.ext_getElem (by simp [dn]) fun i h1 h2 => ?_
    simp only [dn, List.getElem_set, List.getElem_map, List.getElem_range, look_cons]
def idsA (p : Nat → Bool) (s : List (Nat × V)) : Bool := s.all fun q => q.2.ids p
theorem look_ids {p : Nat → Bool} {s : List (Nat × V)} (h : idsA p s = true) (t : Nat) : (look s t).ids p = true := by
  induction s with
  | nil => rfl
  | cons q s ih =>
    obtain ⟨i, v⟩ := q
    simp only [idsA, List.all_cons, Bool.and_eq_true] at h
    rw [look_cons]
    split
    · exact h.1
    · exact ih h.2
theorem idsL_of {p : Nat → Bool} : ∀ {l : List V}, (∀ x ∈ l, x.ids p = true) → V.idsL p l = true
  | [], _ => rfl
  | x :: l, h => by
    simp only [V.idsL, Bool.and_eq_true]
    exact ⟨h x (List.mem_cons_self ..), idsL_of fun y hy => h y (List.mem_cons_of_mem _ hy)⟩
theorem idsL_dn {p : Nat → Bool} {s : List (Nat × V)} (h : idsA p s = true) (N : Nat) : V.idsL p (dn N s) = true := idsL_of fun x hx => by
  obtain ⟨i, _, rfl⟩ := List.mem_map.1 hx
  exact look_ids h i
inductive WkA (s : List (Nat × V)) : List (Nat × V) → Prop
  | nil : WkA s []
  | cons {i : Nat} {y : V} {l : List (Nat × V)} (h : Wk (look s i) y) (hl : WkA s l) : WkA s ((i, y) :: l)
theorem WkA.look {s l : List (Nat × V)} (h : WkA s l) (t : Nat) : Wk (look s t) (look l t) := by
  induction h with
  | nil => exact .dead _
  | @cons i y l h _ ih =>
    rw [look_cons]
    split
    · rename_i e; exact e ▸ h
    · exact ih
def enum : Nat → List V → List (Nat × V)
  | _, [] => []
  | i, x :: l => (i, x) :: enum (i + 1) l
theorem look_enum : ∀ (l : List V) (i t : Nat), look (enum i l) t = if i ≤ t then l.getD (t - i) .dead else .dead
  | [], i, t => by simp [enum, look]
  | x :: l, i, t => by
    rw [enum, look_cons, look_enum l (i + 1) t]
    by_cases h : i = t
    · subst h; simp
    · by_cases h2 : i ≤ t
      · have h3 : i + 1 ≤ t := by omega
        have h4 : t - i = t - (i + 1) + 1 := by omega
        rw [if_neg h, if_pos h3, if_pos h2, h4]
        simp
      · have h3 : ¬ i + 1 ≤ t := by omega
        rw [if_neg h, if_neg h3, if_neg h2]
theorem enum_dn {xs : List V} {N : Nat} (h : xs.length ≤ N) : xs ++ List.replicate (N - xs.length) .dead = dn N (enum 0 xs) := by
  refine List.ext_getElem (by simp [dn]; omega) fun i h1 h2 => ?_
  simp only [dn, List.getElem_map, List.getElem_range, look_enum, Nat.zero_le, if_true, Nat.sub_zero]
  rw [List.getElem_append]
  split
  · rename_i h; simp [List.getD, h]
  · rename_i h; simp [List.getD, List.getElem?_eq_none (Nat.le_of_not_lt h)]

inductive URes where
  | at_ (os : List Oper) (k : Nat) (s : List (Nat × V)) (l : List Ent) (acc : List (Nat × List Nat × List Nat))
  | none
def accU (dr : Bool) (k : Nat) (fp wr : List (Nat × Ent)) (acc : List (Nat × List Nat × List Nat)) : List (Nat × List Nat × List Nat) :=
  match dr with
  | true => (k, fp.map Prod.fst, wr.map Prod.fst) :: acc
  | false => acc
theorem accU_f (k : Nat) (fp wr : List (Nat × Ent)) (acc : List (Nat × List Nat × List Nat)) : accU false k fp wr acc = acc := rfl
theorem accU_t (k : Nat) (fp wr : List (Nat × Ent)) (acc : List (Nat × List Nat × List Nat)) : accU true k fp wr acc = (k, fp.map Prod.fst, wr.map Prod.fst) :: acc := rfl
def valG (r : Option (V × List (Nat × Ent) × List (Nat × Ent))) : V :=
  match r with
  | some (v, _, _) => v
  | none => .dead
def fpsG (r : Option (V × List (Nat × Ent) × List (Nat × Ent))) : List (Nat × Ent) :=
  match r with
  | some (_, fp, _) => fp
  | none => []
/-- A run of operations: on to the first that is not reckoned here; guards must be decided. -/
def evU1 (P : Program) (N : Nat) (ops : Array Oper) (dr : Bool) : List Oper → Nat → List (Nat × V) → List Ent → List (Nat × List Nat × List Nat) → URes
  | [], k, s, l, acc => .at_ [] k s l acc
  | o :: os, k, s, l, acc => match gd ops o ⟨dn N s, ofl l⟩ with
    | none => .none
    | some true => match evO P true o (St.ev ⟨dn N s, ofl l⟩) l with
      | some (v, fp, wr) => evU1 P N ops dr os (k + 1) (putA s o.dst v) (wrl l wr) (accU dr k fp wr acc)
      | none => .at_ (o :: os) k s l acc
    | some false => evU1 P N ops dr os (k + 1) (putA s o.dst (.gi false .dead)) l (accU dr k [] [] acc)
/-- A run of operations: on to the first that is not reckoned here. -/
def evU (P : Program) (N : Nat) (ops : Array Oper) (dr : Bool) : List Oper → Nat → List (Nat × V) → List Ent → List (Nat × List Nat × List Nat) → URes
  | [], k, s, l, acc => .at_ [] k s l acc
  | o :: os, k, s, l, acc => match o.guard with
    | none => match evO P true o (St.ev ⟨dn N s, ofl l⟩) l with
      | some (v, fp, wr) => evU P N ops dr os (k + 1) (putA s o.dst v) (wrl l wr) (accU dr k fp wr acc)
      | none => .at_ (o :: os) k s l acc
    | some _ => match gd ops o ⟨dn N s, ofl l⟩ with
      | none => .none
      | some g => match g with
        | true => match evO P g o (fun x => strip g (St.ev ⟨dn N s, ofl l⟩ x)) l with
          | some (v, fp, wr) => evU P N ops dr os (k + 1) (putA s o.dst v) (wrl l wr) (accU dr k fp wr acc)
          | none => .at_ (o :: os) k s l acc
        | false => evU P N ops dr os (k + 1) (putA s o.dst (.gi false (valG (evO P g o (fun x => strip g (St.ev ⟨dn N s, ofl l⟩ x)) l)))) l (accU dr k (fpsG (evO P g o (fun x => strip g (St.ev ⟨dn N s, ofl l⟩ x)) l)) [] acc)
/-! The same, closed to the kernel: it is opened by two rules alone. -/
abbrev EvT := (P : Program) → (N : Nat) → (ops : Array Oper) → (dr : Bool) → List Oper → Nat → List (Nat × V) → List Ent → List (Nat × List Nat × List Nat) → URes
theorem evX_ex : ∃ f : EvT, f = evU := ⟨_, rfl⟩
noncomputable def evX : EvT := Classical.choose evX_ex
theorem evX_eq : evX = evU := Classical.choose_spec evX_ex
theorem evX1_ex : ∃ f : EvT, f = evU1 := ⟨_, rfl⟩
noncomputable def evX1 : EvT := Classical.choose evX1_ex
theorem evX1_eq : evX1 = evU1 := Classical.choose_spec evX1_ex
section
variable (P : Program) (N : Nat) (ops : Array Oper) (dr : Bool) (o : Oper) (os : List Oper) (k : Nat) (s : List (Nat × V)) (l : List Ent) (acc : List (Nat × List Nat × List Nat))
/-- Go on with what an operation gives. -/
noncomputable def evN1 (r : Option (V × List (Nat × Ent) × List (Nat × Ent))) : URes :=
  match r with
  | some (v, fp, wr) => evX1 P N ops dr os (k + 1) (putA s o.dst v) (wrl l wr) (accU dr k fp wr acc)
  | none => .at_ (o :: os) k s l acc
noncomputable def evG1 (g : Option Bool) : URes :=
  match g with
  | none => .none
  | some true => evN1 P N ops dr o os k s l acc (evO P true o (St.ev ⟨dn N s, ofl l⟩) l)
  | some false => evX1 P N ops dr os (k + 1) (putA s o.dst (.gi false .dead)) l (accU dr k [] [] acc)
theorem evX1_nil : evX1 P N ops dr [] k s l acc = .at_ [] k s l acc := by rw [evX1_eq, evU1]
theorem evX1_u (d : Option Tmp) (op : Op) (ty : TypeId) (pos : String) (af : Array Edge) : evX1 P N ops dr (⟨d, op, ty, pos, af, none⟩ :: os) k s l acc = evN1 P N ops dr ⟨d, op, ty, pos, af, none⟩ os k s l acc (evO P true ⟨d, op, ty, pos, af, none⟩ (St.ev ⟨dn N s, ofl l⟩) l) := by
  rw [evX1_eq, evU1]
  unfold evN1
  rw [evX1_eq]
  rfl
theorem evX1_g (d : Option Tmp) (op : Op) (ty : TypeId) (pos : String) (af : Array Edge) (q : Nat × Bool) : evX1 P N ops dr (⟨d, op, ty, pos, af, some q⟩ :: os) k s l acc = evG1 P N ops dr ⟨d, op, ty, pos, af, some q⟩ os k s l acc (gd ops ⟨d, op, ty, pos, af, some q⟩ ⟨dn N s, ofl l⟩) := by
  rw [evX1_eq, evU1]
  unfold evG1 evN1
  rw [evX1_eq]
theorem evN1_some (v : V) (fp wr : List (Nat × Ent)) : evN1 P N ops dr o os k s l acc (some (v, fp, wr)) = evX1 P N ops dr os (k + 1) (putA s o.dst v) (wrl l wr) (accU dr k fp wr acc) := Eq.trans rfl rfl
theorem evN1_none : evN1 P N ops dr o os k s l acc none = .at_ (o :: os) k s l acc := Eq.trans rfl rfl
theorem evG1_t : evG1 P N ops dr o os k s l acc (some true) = evN1 P N ops dr o os k s l acc (evO P true o (St.ev ⟨dn N s, ofl l⟩) l) := Eq.trans rfl rfl
theorem evG1_f : evG1 P N ops dr o os k s l acc (some false) = evX1 P N ops dr os (k + 1) (putA s o.dst (.gi false .dead)) l (accU dr k [] [] acc) := Eq.trans rfl rfl
/-- The same with guards that are not decided. -/
noncomputable def evN (r : Option (V × List (Nat × Ent) × List (Nat × Ent))) : URes :=
  match r with
  | some (v, fp, wr) => evX P N ops dr os (k + 1) (putA s o.dst v) (wrl l wr) (accU dr k fp wr acc)
  | none => .at_ (o :: os) k s l acc
noncomputable def evH (g : Bool) (r : Option (V × List (Nat × Ent) × List (Nat × Ent))) : URes :=
  match g with
  | true => match r with
    | some (v, fp, wr) => evX P N ops dr os (k + 1) (putA s o.dst v) (wrl l wr) (accU dr k fp wr acc)
    | none => .at_ (o :: os) k s l acc
  | false => evX P N ops dr os (k + 1) (putA s o.dst (.gi false (valG r))) l (accU dr k (fpsG r) [] acc)
noncomputable def evG (g : Option Bool) : URes :=
  match g with
  | none => .none
  | some g => evH P N ops dr o os k s l acc g (evO P g o (fun x => strip g (St.ev ⟨dn N s, ofl l⟩ x)) l)
theorem evX_nil : evX P N ops dr [] k s l acc = .at_ [] k s l acc := by rw [evX_eq, evU]
theorem evX_u (d : Option Tmp) (op : Op) (ty : TypeId) (pos : String) (af : Array Edge) : evX P N ops dr (⟨d, op, ty, pos, af, none⟩ :: os) k s l acc = evN P N ops dr ⟨d, op, ty, pos, af, none⟩ os k s l acc (evO P true ⟨d, op, ty, pos, af, none⟩ (St.ev ⟨dn N s, ofl l⟩) l) := by
  rw [evX_eq, evU]
  unfold evN
  rw [evX_eq]
theorem evX_g (d : Option Tmp) (op : Op) (ty : TypeId) (pos : String) (af : Array Edge) (q : Nat × Bool) : evX P N ops dr (⟨d, op, ty, pos, af, some q⟩ :: os) k s l acc = evG P N ops dr ⟨d, op, ty, pos, af, some q⟩ os k s l acc (gd ops ⟨d, op, ty, pos, af, some q⟩ ⟨dn N s, ofl l⟩) := by
  rw [evX_eq, evU]
  unfold evG evH
  rw [evX_eq]
theorem evN_some (v : V) (fp wr : List (Nat × Ent)) : evN P N ops dr o os k s l acc (some (v, fp, wr)) = evX P N ops dr os (k + 1) (putA s o.dst v) (wrl l wr) (accU dr k fp wr acc) := Eq.trans rfl rfl
theorem evN_none : evN P N ops dr o os k s l acc none = .at_ (o :: os) k s l acc := Eq.trans rfl rfl
theorem evG_some (g : Bool) : evG P N ops dr o os k s l acc (some g) = evH P N ops dr o os k s l acc g (evO P g o (fun x => strip g (St.ev ⟨dn N s, ofl l⟩ x)) l) := Eq.trans rfl rfl
theorem evH_some (g : Bool) (v : V) (fp : List (Nat × Ent)) : evH P N ops dr o os k s l acc g (some (v, fp, [])) = evX P N ops dr os (k + 1) (putA s o.dst (gw g v)) l (accU dr k fp [] acc) := by cases g <;> rfl
theorem evH_wt (v : V) (fp ps : List (Nat × Ent)) (p : Nat × Ent) : evH P N ops dr o os k s l acc true (some (v, fp, p :: ps)) = evX P N ops dr os (k + 1) (putA s o.dst v) (wrl l (p :: ps)) (accU dr k fp (p :: ps) acc) := Eq.trans rfl rfl
theorem evH_nt : evH P N ops dr o os k s l acc true none = .at_ (o :: os) k s l acc := Eq.trans rfl rfl
theorem evH_f (r : Option (V × List (Nat × Ent) × List (Nat × Ent))) : evH P N ops dr o os k s l acc false r = evX P N ops dr os (k + 1) (putA s o.dst (.gi false (valG r))) l (accU dr k (fpsG r) [] acc) := Eq.trans rfl rfl
end
theorem AR.acc {P : Program} {ops : Array Oper} {Q : St → Prop} : ∀ {l : List Oper} {k : Nat} {A : St} {acc acc' : List (Nat × List Nat × List Nat)}, AR P ops false Q l k A acc → AR P ops false Q l k A acc'
  | [], _, _, _, _, h => ⟨fun h => (by cases h), h.2⟩
  | o :: l, k, A, acc, acc', h => by
    rcases h with ⟨h1, h2⟩ | ⟨h1, fp, d, h2, h3, h4⟩ | ⟨g, h1, fp, v, h2, h4⟩
    · exact .inl ⟨h1, AR.acc h2⟩
    · exact .inr (.inl ⟨h1, fp, d, h2, h3, AR.acc h4⟩)
    · exact .inr (.inr ⟨g, h1, fp, v, h2, AR.acc h4⟩)
theorem AR.ev {P : Program} {N : Nat} {ops : Array Oper} {dr : Bool} {Q : St → Prop} {os' : List Oper} {k' : Nat} {s' : List (Nat × V)} {l' : List Ent} {acc' : List (Nat × List Nat × List Nat)} : ∀ {os : List Oper} {k : Nat} {s : List (Nat × V)} {l : List Ent} {acc : List (Nat × List Nat × List Nat)},
    evU P N ops dr os k s l acc = .at_ os' k' s' l' acc' → AR P ops dr Q os' k' ⟨dn N s', ofl l'⟩ acc' → AR P ops dr Q os k ⟨dn N s, ofl l⟩ acc
  | [], k, s, l, acc, h, hn => by
    simp only [evU, URes.at_.injEq] at h
    obtain ⟨rfl, rfl, rfl, rfl, rfl⟩ := h
    exact hn
  | o :: os, k, s, l, acc, h, hn => by
    unfold evU at h
    have stop : URes.at_ (o :: os) k s l acc = .at_ os' k' s' l' acc' → AR P ops dr Q (o :: os) k ⟨dn N s, ofl l⟩ acc := fun h => by
      simp only [URes.at_.injEq] at h
      obtain ⟨rfl, rfl, rfl, rfl, rfl⟩ := h
      exact hn
    have fix : ∀ {A : St} {fp wr : List (Nat × Ent)}, AR P ops dr Q os (k + 1) A (accU dr k fp wr acc) → AR P ops dr Q os (k + 1) A ((k, fp.map Prod.fst, wr.map Prod.fst) :: acc) := fun h => by
      cases dr
      · exact AR.acc h
      · exact h
    have put : ∀ {x : V} {st : Nat → Ent} {acc : List (Nat × List Nat × List Nat)}, AR P ops dr Q os (k + 1) ⟨dn N (putA s o.dst x), st⟩ acc → AR P ops dr Q os (k + 1) ⟨(St.put ⟨dn N s, ofl l⟩ o.dst x).s, st⟩ acc := fun h => by
      rw [put_dn]; exact h
    split at h
    · rename_i hg
      have hgd : gd ops o ⟨dn N s, ofl l⟩ = some true := by simp [gd, hg]
      split at h
      · rename_i v fp wr he
        obtain ⟨h1, h2⟩ := evO_sound rfl he
        refine .inr (.inl ⟨hgd, fp, ⟨v, wr⟩, h1, h2, fix ?_⟩)
        have := AR.ev (Q := Q) h hn
        rw [ofl_wrl, ← put_dn N s (ofl l)] at this
        exact this
      · exact stop h
    · split at h
      · cases h
      · rename_i g hg
        split at h
        · split at h
          · rename_i v fp wr he
            obtain ⟨h1, h2⟩ := evO_sound rfl he
            refine .inr (.inl ⟨hg, fp, ⟨v, wr⟩, h1.pre fun x => Wk.strip rfl _, h2, fix ?_⟩)
            have := AR.ev (Q := Q) h hn
            rw [ofl_wrl, ← put_dn N s (ofl l)] at this
            exact this
          · exact stop h
        · exact .inr (.inr ⟨false, hg, _, _, fun h => (by cases h), fix (put (AR.ev h hn))⟩)
theorem AR.ev1 {P : Program} {N : Nat} {ops : Array Oper} {dr : Bool} {Q : St → Prop} {os' : List Oper} {k' : Nat} {s' : List (Nat × V)} {l' : List Ent} {acc' : List (Nat × List Nat × List Nat)} : ∀ {os : List Oper} {k : Nat} {s : List (Nat × V)} {l : List Ent} {acc : List (Nat × List Nat × List Nat)},
    evU1 P N ops dr os k s l acc = .at_ os' k' s' l' acc' → AR P ops dr Q os' k' ⟨dn N s', ofl l'⟩ acc' → AR P ops dr Q os k ⟨dn N s, ofl l⟩ acc
  | [], k, s, l, acc, h, hn => by
    simp only [evU1, URes.at_.injEq] at h
    obtain ⟨rfl, rfl, rfl, rfl, rfl⟩ := h
    exact hn
  | o :: os, k, s, l, acc, h, hn => by
    unfold evU1 at h
    have fix : ∀ {A : St} {fp wr : List (Nat × Ent)}, AR P ops dr Q os (k + 1) A (accU dr k fp wr acc) → AR P ops dr Q os (k + 1) A ((k, fp.map Prod.fst, wr.map Prod.fst) :: acc) := fun h => by
      cases dr
      · exact AR.acc h
      · exact h
    have put : ∀ {x : V} {st : Nat → Ent} {acc : List (Nat × List Nat × List Nat)}, AR P ops dr Q os (k + 1) ⟨dn N (putA s o.dst x), st⟩ acc → AR P ops dr Q os (k + 1) ⟨(St.put ⟨dn N s, ofl l⟩ o.dst x).s, st⟩ acc := fun h => by
      rw [put_dn]; exact h
    split at h
    · cases h
    · rename_i hgd
      split at h
      · rename_i v fp wr he
        obtain ⟨h1, h2⟩ := evO_sound rfl he
        refine .inr (.inl ⟨hgd, fp, ⟨v, wr⟩, h1, h2, fix ?_⟩)
        have := AR.ev1 (Q := Q) h hn
        rw [ofl_wrl, ← put_dn N s (ofl l)] at this
        exact this
      · simp only [URes.at_.injEq] at h
        obtain ⟨rfl, rfl, rfl, rfl, rfl⟩ := h
        exact hn
    · rename_i hgd
      exact .inr (.inr ⟨false, hgd, [], .dead, fun h => (by cases h), fix (put (AR.ev1 h hn))⟩)
theorem AR.goS {P : Program} {N : Nat} {ops : Array Oper} {dr : Bool} {Q : St → Prop} {os' : List Oper} {k' : Nat} {s' : List (Nat × V)} {l' : List Ent} {acc' : List (Nat × List Nat × List Nat)} {os : List Oper} {k : Nat} {s : List (Nat × V)} {l : List Ent} {acc : List (Nat × List Nat × List Nat)}
    (h : evX P N ops dr os k s l acc = .at_ os' k' s' l' acc') (hn : AR P ops dr Q os' k' ⟨dn N s', ofl l'⟩ acc') : AR P ops dr Q os k ⟨dn N s, ofl l⟩ acc := AR.ev (evX_eq ▸ h) hn
theorem AR.go {P : Program} {N : Nat} {ops : Array Oper} {dr : Bool} {Q : St → Prop} {os' : List Oper} {k' : Nat} {s' : List (Nat × V)} {l' : List Ent} {acc' : List (Nat × List Nat × List Nat)} {os : List Oper} {k : Nat} {s : List (Nat × V)} {l : List Ent} {acc : List (Nat × List Nat × List Nat)}
    (h : evX1 P N ops dr os k s l acc = .at_ os' k' s' l' acc') (hn : AR P ops dr Q os' k' ⟨dn N s', ofl l'⟩ acc') : AR P ops dr Q os k ⟨dn N s, ofl l⟩ acc := AR.ev1 (evX1_eq ▸ h) hn
/-- A call that is handed nothing that may be written to, next. -/
theorem AR.call {P : Program} {N : Nat} {ops : Array Oper} {dr : Bool} {Q : St → Prop} {d : Option Tmp} {c : Operand} {args : Array Operand} {tys : Array TypeId} {ty : TypeId} {pos : String} {af : Array Edge} {g : Option (Nat × Bool)} {os : List Oper} {k : Nat} {s : List (Nat × V)} {l : List Ent}
    {acc : List (Nat × List Nat × List Nat)} {f : FuncId} {us vs xs : List V} {r : V} (h : PC P f xs r) (hg : gd ops ⟨d, .call { callee := .value c, args := args, argTypes := tys }, ty, pos, af, g⟩ ⟨dn N s, ofl l⟩ = some true) (hc : St.ev ⟨dn N s, ofl l⟩ c = .fn (.func f) us vs)
    (hw : WkL (us ++ args.toList.map (St.ev ⟨dn N s, ofl l⟩) ++ vs) xs) (hi : V.idsL noId xs = true) (hn : AR P ops dr Q os (k + 1) ⟨dn N (putA s d r), ofl l⟩ ((k, [], []) :: acc)) :
    AR P ops dr Q (⟨d, .call { callee := .value c, args := args, argTypes := tys }, ty, pos, af, g⟩ :: os) k ⟨dn N s, ofl l⟩ acc :=
  .inr (.inl ⟨hg, [], ⟨r, []⟩, step_call rfl hc h hw hi, fun p hp => (by cases hp), by
    show AR P ops dr Q os (k + 1) ⟨(St.put ⟨dn N s, ofl l⟩ d r).s, ofl l⟩ _
    rw [put_dn]; exact hn⟩)

/-! ### Ends -/
section
variable {K : Option Nat → Prop} {P : Program} {st0 : Nat → Ent} {Q : Exit → St → Prop} {A : St}
theorem Thn.n {y : Code} (h : AWpK K P st0 y Q A) : Thn K P st0 y Q .normal A := h
theorem Thn.r {y : Code} (h : Q .ret A) : Thn K P st0 y Q .ret A := h
theorem Thn.x {y : Code} {i : Nat} (h : Q (.exit i) A) : Thn K P st0 y Q (.exit i) A := h
theorem Blk'.n {id : Nat} (h : Q .normal A) : Blk' id Q .normal A := h
theorem Blk'.r {id : Nat} (h : Q .ret A) : Blk' id Q .ret A := h
theorem Blk'.here {id : Nat} (h : Q .normal A) : Blk' id Q (.exit id) A := by simp only [Blk', if_true]; exact h
theorem Blk'.past {id i : Nat} (hne : i ≠ id) (h : Q (.exit i) A) : Blk' id Q (.exit i) A := by simp only [Blk', if_neg hne]; exact h
theorem Rnd.n {c : Code} (h : ALp K P st0 c Q A) : Rnd K P st0 c Q .normal A := h
theorem Rnd.r {c : Code} (h : Q .ret A) : Rnd K P st0 c Q .ret A := h
theorem Rnd.x {c : Code} {i : Nat} (h : Q (.exit i) A) : Rnd K P st0 c Q (.exit i) A := h
theorem AWp.regionES {N id : Nat} {os : List Oper} {k' : Nat} {s s' : List (Nat × V)} {l l' : List Ent} {os' : List Oper} {acc' : List (Nat × List Nat × List Nat)} (h : evX P N os.toArray false os 0 s l [] = .at_ os' k' s' l' acc') (hn : AR P os.toArray false (Q .normal) os' k' ⟨dn N s', ofl l'⟩ acc') :
    AWpK K P st0 (.region id os.toArray false) Q ⟨dn N s, ofl l⟩ := AWp.region (AR.ev (evX_eq ▸ h) hn)
theorem AWp.regionDES {N id : Nat} {os : List Oper} {k' : Nat} {s s' : List (Nat × V)} {l l' : List Ent} {os' : List Oper} {acc' : List (Nat × List Nat × List Nat)} (hm : P.follows .mixedOrders = true) (h : evX P N os.toArray true os 0 s l [] = .at_ os' k' s' l' acc') (hn : AR P os.toArray true (Q .normal) os' k' ⟨dn N s', ofl l'⟩ acc') :
    AWpK K P st0 (.region id os.toArray true) Q ⟨dn N s, ofl l⟩ := AWp.regionD hm (AR.ev (evX_eq ▸ h) hn)
theorem AWp.regionE {N id : Nat} {os : List Oper} {k' : Nat} {s s' : List (Nat × V)} {l l' : List Ent} {os' : List Oper} {acc' : List (Nat × List Nat × List Nat)} (h : evX1 P N os.toArray false os 0 s l [] = .at_ os' k' s' l' acc') (hn : AR P os.toArray false (Q .normal) os' k' ⟨dn N s', ofl l'⟩ acc') :
    AWpK K P st0 (.region id os.toArray false) Q ⟨dn N s, ofl l⟩ := AWp.region (AR.ev1 (evX1_eq ▸ h) hn)
theorem AWp.regionDE {N id : Nat} {os : List Oper} {k' : Nat} {s s' : List (Nat × V)} {l l' : List Ent} {os' : List Oper} {acc' : List (Nat × List Nat × List Nat)} (hm : P.follows .mixedOrders = true) (h : evX1 P N os.toArray true os 0 s l [] = .at_ os' k' s' l' acc') (hn : AR P os.toArray true (Q .normal) os' k' ⟨dn N s', ofl l'⟩ acc') :
    AWpK K P st0 (.region id os.toArray true) Q ⟨dn N s, ofl l⟩ := AWp.regionD hm (AR.ev1 (evX1_eq ▸ h) hn)
theorem St.ev_dn {N : Nat} {s : List (Nat × V)} {st : Nat → Ent} {t : Nat} (ht : Nat.blt t N = true) : St.ev ⟨dn N s, st⟩ (.tmp t) = look s t := by
  show (dn N s).getD t .dead = _
  rw [getD_dn, if_pos (by simpa using ht)]
theorem AWp.condA {N t : Nat} {s : List (Nat × V)} {st : Nat → Ent} {x y : Code} {b : Bool} (ht : Nat.blt t N = true) (hc : look s t = .im (.bool b)) (h1 : b = true → AWpK K P st0 x Q ⟨dn N s, st⟩) (h2 : b = false → AWpK K P st0 y Q ⟨dn N s, st⟩) : AWpK K P st0 (.cond (.tmp t) x y) Q ⟨dn N s, st⟩ :=
  AWp.cond ((St.ev_dn ht).trans hc) h1 h2
theorem AWp.condAT {N t : Nat} {s : List (Nat × V)} {st : Nat → Ent} {x y : Code} (ht : Nat.blt t N = true) (hc : look s t = .im (.bool true)) (h1 : AWpK K P st0 x Q ⟨dn N s, st⟩) : AWpK K P st0 (.cond (.tmp t) x y) Q ⟨dn N s, st⟩ :=
  AWp.condT ((St.ev_dn ht).trans hc) h1
theorem AWp.condAF {N t : Nat} {s : List (Nat × V)} {st : Nat → Ent} {x y : Code} (ht : Nat.blt t N = true) (hc : look s t = .im (.bool false)) (h1 : AWpK K P st0 y Q ⟨dn N s, st⟩) : AWpK K P st0 (.cond (.tmp t) x y) Q ⟨dn N s, st⟩ :=
  AWp.condF ((St.ev_dn ht).trans hc) h1
theorem AR.end {ops : Array Oper} {QA : St → Prop} {k : Nat} {acc : List (Nat × List Nat × List Nat)} (h : QA A) : AR P ops false QA [] k A acc := ⟨fun h => (by cases h), h⟩
theorem AR.endD {ops : Array Oper} {QA : St → Prop} {k : Nat} {acc : List (Nat × List Nat × List Nat)} (hc : chkR ops acc.reverse = true) (h : QA A) : AR P ops true QA [] k A acc := ⟨fun _ => hc, h⟩
/-- A function that leaves nothing behind, with one result. -/
theorem Fin.one {fn : Func} {N t : Nat} {s : List (Nat × V)} {st : Nat → Ent} {e : Exit} {x : V} (hr : fn.results = #[.tmp t]) (ht : Nat.blt t N = true) (he : e = .normal ∨ e = .ret) (hw : Wk (look s t) x) (hi : x.ids noId = true) : Fin P fn stF (fun z st => z = x ∧ st = stF) e ⟨dn N s, st⟩ :=
  ⟨he, look s t, x, noId, .inl ⟨_, hr, (St.ev_dn ht).symm⟩, .of hw hi, fun _ h => absurd rfl h, fun i cs _ h => (by cases h), rfl, rfl⟩
def entOk (p : Nat → Bool) : Ent → Bool
  | .box cs => V.idsL p cs
  | _ => true
def ltB (n i : Nat) : Bool := decide (i < n)
/-- Keep the first n entries; forget what stands in some slots. -/
theorem ALp.cut {c : Code} {N : Nat} {s : List (Nat × V)} {l : List Ent} (n : Nat) (s' : List (Nat × V)) (l' : List Ent) (h : ALp K P st0 c Q ⟨dn N s', ofl l'⟩) (hl : l.take n = l') (hw : WkA s s') (h0 : ∀ i, st0 i ≠ .free → i < n) (hs : idsA (ltB n) s' = true)
    (hb : l'.all (entOk (ltB n)) = true) : ALp K P st0 c Q ⟨dn N s, ofl l⟩ := by
  refine ALp.weak (ltB n) (dn N s') ?_ (by rw [dn_length]; exact (dn_length N s).symm) (fun t => ?_) (fun i hi => by simpa [ltB] using h0 i hi) (idsL_dn hs N) (fun i cs h1 h2 => ?_)
  case refine_3 =>
    subst hl
    have hi : i < n := by simpa [ltB] using h2
    have hil : i < l.length := by
      refine Nat.lt_of_not_le fun hle => ?_
      have : ofl l i = .free := by simp [ofl, List.getD, List.getElem?_eq_none hle]
      rw [show (St.mk (dn N s) (ofl l)).st i = ofl l i from rfl, this] at h1
      cases h1
    have he : l[i] = .box cs := by simpa [ofl, List.getD, hil] using h1
    have := List.all_eq_true.1 hb l[i] (by
      refine List.mem_iff_getElem?.2 ⟨i, ?_⟩
      simp [List.getElem?_take, hi, hil])
    rw [he] at this
    exact this
  · have e : (fun i => if ltB n i = true then ofl l i else Ent.free) = ofl l' := by
      funext i
      subst hl
      unfold ofl ltB
      by_cases hi : i < n
      · simp [hi, List.getD, List.getElem?_take]
      · simp [hi, List.getD, List.getElem?_take]
    rw [e]
    exact h
  · show Wk ((dn N s).getD t .dead) ((dn N s').getD t .dead)
    rw [getD_dn, getD_dn]
    split
    · exact hw.look t
    · exact .dead _
end

theorem PC.enter {P : Program} {f : FuncId} {fn : Func} {c : Code} {xs : List V} {s : List (Nat × V)} {r : V} (N : Nat) (hf : P.funcs[f]? = some fn) (hb : fn.body = some c) (hn : fn.name ≠ "runtime.NumGoroutine") (hN : fn.ntmps = N) (hx : Nat.ble xs.length N = true) (hs : enum 0 xs = s)
    (h : AWp P stF c (Fin P fn stF fun z st => z = r ∧ st = stF) ⟨dn N s, ofl []⟩) : PC P f xs r := by
  subst hs hN
  rw [← enum_dn (by simpa using hx)] at h
  exact ACalls.enter hf hb hn h

/-- A loop that counts up to N at most. -/
theorem ALp.upto {K : Option Nat → Prop} {P : Program} {st0 : Nat → Ent} {Q : Exit → St → Prop} {c : Code} (N : Nat) (I : Nat → Prop) (S : Nat → St)
    (h : ∀ m, m ≤ N → I m → (∀ m', m < m' → m' ≤ N → I m' → ALp K P st0 c Q (S m')) → AWpK K P st0 c (Rnd K P st0 c Q) (S m)) : ∀ m, m ≤ N → I m → ALp K P st0 c Q (S m) := by
  have key : ∀ k m, N - m = k → m ≤ N → I m → ALp K P st0 c Q (S m) := by
    intro k
    induction k using Nat.strongRecOn with
    | _ k ih =>
      intro m hk hm hI
      exact ALp.round (h m hm hI fun m' h1 h2 h3 => ih (N - m') (by omega) m' rfl h2 h3)
  exact fun m hm hI => key _ m rfl hm hI
theorem wrap_succ {m N : Nat} (h : m < N) (hN : N ≤ 9223372036854775807) : IntKind.i64.wrap ((m : Int) + 1) = ((m + 1 : Nat) : Int) := by
  rw [IntWalk.i64_in _ (by omega)]
  omega
theorem wrap_in {n : Int} (h : -9223372036854775808 ≤ n ∧ n ≤ 9223372036854775807) : IntKind.i64.wrap n = n := IntWalk.i64_in _ h

/-! ### Bundles of rules, for simp -/
theorem SA : type_of% (And.intro @evX1_nil (And.intro @evX1_u (And.intro @evX1_g (And.intro @evN1_some (And.intro @evN1_none (And.intro @evG1_t (@evG1_f))))))) := And.intro @evX1_nil (And.intro @evX1_u (And.intro @evX1_g (And.intro @evN1_some (And.intro @evN1_none (And.intro @evG1_t (@evG1_f))))))
theorem SB : type_of% (And.intro @evX_nil (And.intro @evX_u (And.intro @evX_g (And.intro @evN_some (And.intro @evN_none (And.intro @evG_some (And.intro @evH_some (And.intro @evH_wt (And.intro @evH_nt (And.intro @evH_f (And.intro @gbw_gi (And.intro @gbw_gw (And.intro @gw_true (And.intro @gw_false (And.intro @strip_gw (And.intro @firm_im (And.intro @firm_ag (And.intro @firm_sl (And.intro @firm_pt (And.intro @firm_itr (And.intro @firm_bs (And.intro @firm_ep (And.intro @firm_fn (And.intro @firm_tu (And.intro @strip_gi (And.intro @strip_strip (And.intro @strip_stripw (And.intro @imp_self (And.intro @imp_true (And.intro @imp_false (And.intro @imp_1 (And.intro @imp_2 (And.intro @imp_3 (And.intro @imp_4 (And.intro @imp_5 (And.intro @imp_6 (And.intro @imp_7 (And.intro @imp_8 (And.intro @imp_9 (@imp_and)))))))))))))))))))))))))))))))))))))))) := And.intro @evX_nil (And.intro @evX_u (And.intro @evX_g (And.intro @evN_some (And.intro @evN_none (And.intro @evG_some (And.intro @evH_some (And.intro @evH_wt (And.intro @evH_nt (And.intro @evH_f (And.intro @gbw_gi (And.intro @gbw_gw (And.intro @gw_true (And.intro @gw_false (And.intro @strip_gw (And.intro @firm_im (And.intro @firm_ag (And.intro @firm_sl (And.intro @firm_pt (And.intro @firm_itr (And.intro @firm_bs (And.intro @firm_ep (And.intro @firm_fn (And.intro @firm_tu (And.intro @strip_gi (And.intro @strip_strip (And.intro @strip_stripw (And.intro @imp_self (And.intro @imp_true (And.intro @imp_false (And.intro @imp_1 (And.intro @imp_2 (And.intro @imp_3 (And.intro @imp_4 (And.intro @imp_5 (And.intro @imp_6 (And.intro @imp_7 (And.intro @imp_8 (And.intro @imp_9 (@imp_and)))))))))))))))))))))))))))))))))))))))
theorem SC : type_of% (And.intro @gbw_im (And.intro @gbw_gf (And.intro @strip_im (And.intro @strip_ag (And.intro @strip_sl (And.intro @strip_pt (And.intro @strip_itr (And.intro @strip_bs (And.intro @strip_ep (And.intro @strip_fn (And.intro @strip_tu (And.intro @strip_dead (And.intro @bl_T (And.intro @bl_F (And.intro @bl_and (And.intro @bl_or (And.intro @getD_dn (And.intro @look_cons (And.intro @look_nil (And.intro @accU_t (And.intro @cond_true.{1} (And.intro @cond_false.{1} (And.intro @V.live_im (And.intro @V.live_ag (And.intro @V.live_sl (And.intro @V.live_pt (And.intro @V.live_itr (And.intro @V.live_bs (And.intro @V.live_ep (And.intro @V.live_fn (And.intro @V.live_tu (And.intro @V.live_dead (And.intro @V.isAg_im (And.intro @V.isAg_ag (And.intro @V.isAg_sl (And.intro @V.isAg_pt (And.intro @V.isAg_itr (And.intro @V.isAg_bs (And.intro @V.isAg_ep (And.intro @V.isAg_fn (And.intro @V.isAg_tu (And.intro @V.isAg_dead (And.intro @V.cells_im (And.intro @V.cells_ag (And.intro @V.cells_sl (And.intro @V.cells_pt (And.intro @V.cells_itr (And.intro @V.cells_bs (And.intro @V.cells_ep (And.intro @V.cells_fn (And.intro @V.cells_tu (And.intro @V.cells_dead (And.intro @V.size_im (And.intro @V.size_ag (And.intro @V.size_sl (And.intro @V.size_pt (And.intro @V.size_itr (And.intro @V.size_bs (And.intro @V.size_ep (And.intro @V.size_fn (And.intro @V.size_tu (@V.size_dead)))))))))))))))))))))))))))))))))))))))))))))))))))))))))))))) := And.intro @gbw_im (And.intro @gbw_gf (And.intro @strip_im (And.intro @strip_ag (And.intro @strip_sl (And.intro @strip_pt (And.intro @strip_itr (And.intro @strip_bs (And.intro @strip_ep (And.intro @strip_fn (And.intro @strip_tu (And.intro @strip_dead (And.intro @bl_T (And.intro @bl_F (And.intro @bl_and (And.intro @bl_or (And.intro @getD_dn (And.intro @look_cons (And.intro @look_nil (And.intro @accU_t (And.intro @cond_true.{1} (And.intro @cond_false.{1} (And.intro @V.live_im (And.intro @V.live_ag (And.intro @V.live_sl (And.intro @V.live_pt (And.intro @V.live_itr (And.intro @V.live_bs (And.intro @V.live_ep (And.intro @V.live_fn (And.intro @V.live_tu (And.intro @V.live_dead (And.intro @V.isAg_im (And.intro @V.isAg_ag (And.intro @V.isAg_sl (And.intro @V.isAg_pt (And.intro @V.isAg_itr (And.intro @V.isAg_bs (And.intro @V.isAg_ep (And.intro @V.isAg_fn (And.intro @V.isAg_tu (And.intro @V.isAg_dead (And.intro @V.cells_im (And.intro @V.cells_ag (And.intro @V.cells_sl (And.intro @V.cells_pt (And.intro @V.cells_itr (And.intro @V.cells_bs (And.intro @V.cells_ep (And.intro @V.cells_fn (And.intro @V.cells_tu (And.intro @V.cells_dead (And.intro @V.size_im (And.intro @V.size_ag (And.intro @V.size_sl (And.intro @V.size_pt (And.intro @V.size_itr (And.intro @V.size_bs (And.intro @V.size_ep (And.intro @V.size_fn (And.intro @V.size_tu (@V.size_dead)))))))))))))))))))))))))))))))))))))))))))))))))))))))))))))
theorem SD : type_of% (And.intro @allZ_nil (And.intro @allZ_cons (And.intro @allS_nil (And.intro @allS_cons (And.intro @bytesOf_nil (And.intro @Int.cast_ofNat_Int (And.intro @Bool.not_not (And.intro @Bool.not_or (And.intro @List.length_append.{0} (And.intro @List.getD_cons_zero.{0} (And.intro @List.getD_cons_succ.{0} (And.intro @List.set_cons_zero.{0} (And.intro @List.set_cons_succ.{0} (And.intro @List.length_cons.{0} (And.intro @List.length_nil.{0} (And.intro @List.length_map.{0, 0} (And.intro @List.map_cons.{0, 0} (And.intro @List.map_nil.{0, 0} (And.intro @List.replicate_zero.{0} (And.intro @List.nil_append.{0} (And.intro @List.cons_append.{0} (And.intro @List.append_nil.{0} (And.intro @List.drop_zero.{0} (And.intro @List.drop_succ_cons.{0} (And.intro @List.take_succ_cons.{0} (And.intro @List.take_zero.{0} (And.intro @List.take_nil.{0} (And.intro @List.drop_nil.{0} (And.intro @List.getElem?_cons_zero.{0} (And.intro @List.getElem?_cons_succ.{0} (And.intro @List.getElem?_toArray.{0} (And.intro @Option.bind_some.{0, 0} (And.intro @Option.bind_none.{0, 0} (And.intro @Option.map_some.{0, 0} (And.intro @Option.map_none.{0, 0} (And.intro @Nat.lt_irrefl (And.intro @Nat.sub_self (And.intro @Nat.zero_add (And.intro @Nat.add_zero (And.intro @Nat.le_refl (And.intro @Nat.zero_le (And.intro @Nat.succ_ne_zero (And.intro @if_true.{1} (And.intro @if_false.{1} (And.intro @and_true (And.intro @true_and (And.intro @and_self (And.intro @and_false (And.intro @false_and (And.intro @not_true (And.intro @not_false_eq_true (And.intro @decide_true (And.intro @decide_false (And.intro @Bool.not_true (And.intro @Bool.not_false (And.intro @Bool.and_true (And.intro @Bool.true_and (And.intro @Bool.and_false (And.intro @Bool.false_and (And.intro @Bool.or_true (And.intro @Bool.true_or (And.intro @Bool.or_false (And.intro @Bool.false_or (And.intro @beq_self_eq_true.{0} (And.intro @bne_self_eq_false.{0} (And.intro @Bool.true_eq_false (And.intro @Bool.false_eq_true (And.intro @Int.toNat_natCast (And.intro @Int.toNat_zero (@Int.toNat_one)))))))))))))))))))))))))))))))))))))))))))))))))))))))))))))))))))))) := And.intro @allZ_nil (And.intro @allZ_cons (And.intro @allS_nil (And.intro @allS_cons (And.intro @bytesOf_nil (And.intro @Int.cast_ofNat_Int (And.intro @Bool.not_not (And.intro @Bool.not_or (And.intro @List.length_append.{0} (And.intro @List.getD_cons_zero.{0} (And.intro @List.getD_cons_succ.{0} (And.intro @List.set_cons_zero.{0} (And.intro @List.set_cons_succ.{0} (And.intro @List.length_cons.{0} (And.intro @List.length_nil.{0} (And.intro @List.length_map.{0, 0} (And.intro @List.map_cons.{0, 0} (And.intro @List.map_nil.{0, 0} (And.intro @List.replicate_zero.{0} (And.intro @List.nil_append.{0} (And.intro @List.cons_append.{0} (And.intro @List.append_nil.{0} (And.intro @List.drop_zero.{0} (And.intro @List.drop_succ_cons.{0} (And.intro @List.take_succ_cons.{0} (And.intro @List.take_zero.{0} (And.intro @List.take_nil.{0} (And.intro @List.drop_nil.{0} (And.intro @List.getElem?_cons_zero.{0} (And.intro @List.getElem?_cons_succ.{0} (And.intro @List.getElem?_toArray.{0} (And.intro @Option.bind_some.{0, 0} (And.intro @Option.bind_none.{0, 0} (And.intro @Option.map_some.{0, 0} (And.intro @Option.map_none.{0, 0} (And.intro @Nat.lt_irrefl (And.intro @Nat.sub_self (And.intro @Nat.zero_add (And.intro @Nat.add_zero (And.intro @Nat.le_refl (And.intro @Nat.zero_le (And.intro @Nat.succ_ne_zero (And.intro @if_true.{1} (And.intro @if_false.{1} (And.intro @and_true (And.intro @true_and (And.intro @and_self (And.intro @and_false (And.intro @false_and (And.intro @not_true (And.intro @not_false_eq_true (And.intro @decide_true (And.intro @decide_false (And.intro @Bool.not_true (And.intro @Bool.not_false (And.intro @Bool.and_true (And.intro @Bool.true_and (And.intro @Bool.and_false (And.intro @Bool.false_and (And.intro @Bool.or_true (And.intro @Bool.true_or (And.intro @Bool.or_false (And.intro @Bool.false_or (And.intro @beq_self_eq_true.{0} (And.intro @bne_self_eq_false.{0} (And.intro @Bool.true_eq_false (And.intro @Bool.false_eq_true (And.intro @Int.toNat_natCast (And.intro @Int.toNat_zero (@Int.toNat_one)))))))))))))))))))))))))))))))))))))))))))))))))))))))))))))))))))))
end Go.Proofs.Ytfggemopnlffeaa
/- A call that is handed boxes: the callee speaks of ids 0, 1, ..; here they are js. -/
namespace Go.Proofs.Ytfggemopnlffeaa
set_option linter.unusedSimpArgs false
set_option linter.unusedVariables false
set_option linter.unnecessarySimpa false
open Go.RowKit

mutual
def V.ren (g : Nat → Nat) : V → V
  | .im v => .im v
  | .ag cs => .ag (V.renL g cs)
  | .tu cs => .tu (V.renL g cs)
  | .sl es k => .sl (V.renL g es) (match k with | .own id => .own (g id) | k => k)
  | .pt id off => .pt (g id) off
  | .itr id => .itr (g id)
  | .bs id n => .bs (g id) n
  | .ep x off => .ep (V.ren g x) off
  | .fn f xs ys => .fn f (V.renL g xs) (V.renL g ys)
  | .gi b x => .gi b (V.ren g x)
  | .dead => .dead
def V.renL (g : Nat → Nat) : List V → List V
  | [] => []
  | x :: l => V.ren g x :: V.renL g l
end
theorem V.renL_eq (g : Nat → Nat) : ∀ l : List V, V.renL g l = l.map (V.ren g)
  | [] => by simp [V.renL]
  | x :: l => by simp [V.renL, V.renL_eq g l]
theorem V.renL_length (g : Nat → Nat) (l : List V) : (V.renL g l).length = l.length := by rw [V.renL_eq]; simp
theorem V.renL_get (g : Nat → Nat) {l : List V} {i : Nat} (h : i < l.length) (h' : i < (V.renL g l).length) : (V.renL g l)[i] = V.ren g l[i] := by simp [V.renL_eq]
theorem V.ren_size (g : Nat → Nat) (x : V) : (V.ren g x).size = x.size := by cases x <;> simp [V.ren, V.size, V.cells, V.renL_length]
mutual
/-- Without ids nothing is renamed. -/
theorem V.ren_id (g : Nat → Nat) : ∀ x : V, x.ids noId = true → V.ren g x = x
  | .im _, _ => by simp [V.ren]
  | .ag cs, h => by simp only [V.ids] at h; simp [V.ren, V.renL_id g cs h]
  | .tu cs, h => by simp only [V.ids] at h; simp [V.ren, V.renL_id g cs h]
  | .sl es k, h => by
    simp only [V.ids, Bool.and_eq_true] at h
    cases k with
    | own id => exact absurd h.2 (by simp [noId])
    | _ => simp [V.ren, V.renL_id g es h.1]
  | .pt _ _, h => by cases h
  | .itr _, h => by cases h
  | .bs _ _, h => by cases h
  | .ep x off, h => by simp only [V.ids] at h; simp [V.ren, V.ren_id g x h]
  | .fn f xs ys, h => by simp only [V.ids, Bool.and_eq_true] at h; simp [V.ren, V.renL_id g xs h.1, V.renL_id g ys h.2]
  | .gi b x, h => by simp only [V.ids] at h; simp [V.ren, V.ren_id g x h]
  | .dead, _ => by simp [V.ren]
theorem V.renL_id (g : Nat → Nat) : ∀ l : List V, V.idsL noId l = true → V.renL g l = l
  | [], _ => by simp [V.renL]
  | x :: l, h => by simp only [V.idsL, Bool.and_eq_true] at h; simp [V.renL, V.ren_id g x h.1, V.renL_id g l h.2]
end
def Ent.ren (g : Nat → Nat) : Ent → Ent
  | .box cs => .box (V.renL g cs)
  | e => e
theorem Ent.ren_free {g : Nat → Nat} {e : Ent} (h : e.ren g = .free) : e = .free := by cases e <;> first | rfl | cases h
theorem Ent.ren_tip {g : Nat → Nat} {e : Ent} {t : TypeId} {z n : Nat} (h : e.ren g = .tip t z n) : e = .tip t z n := by cases e <;> first | exact h | cases h

section
variable {C : Cf} {js : List Nat} {l0 : List Ent}
def gOf (js : List Nat) : Nat → Nat := fun i => js.getD i 0
/-- What the callee sees. -/
def Cf.sub (C : Cf) (js : List Nat) (l0 : List Ent) : Cf :=
  ⟨fun i => if i < js.length then C.σ (gOf js i) else none, ofl l0, fun b o => C.av b o ∨ ∃ i, i ∉ js ∧ C.σ i = some b ∧ C.st i ≠ .free ∧ ∀ e z n, C.st i = .tip e z n → ¬ o < n * z, C.w⟩
/-- The callee's boxes are these. -/
structure Fits (C : Cf) (js : List Nat) (l0 : List Ent) : Prop where
  nd : js.Nodup
  len : l0.length = js.length
  ent : ∀ i (h : i < js.length), C.st (gOf js i) = (ofl l0 i).ren (gOf js)
theorem gOf_mem {i : Nat} (h : i < js.length) : gOf js i ∈ js := by simp [gOf, List.getD, h]
theorem gOf_inj (hn : js.Nodup) {i j : Nat} (hi : i < js.length) (hj : j < js.length) (h : gOf js i = gOf js j) : i = j := by
  simp only [gOf, List.getD, List.getElem?_eq_getElem hi, List.getElem?_eq_getElem hj, Option.getD_some] at h
  exact (List.getElem_inj hn).1 h
theorem Cf.sub_fix (hF : Fits C js l0) {b o : Nat} : (C.sub js l0).fix b o ↔ C.fix b o := by
  constructor
  · rintro ⟨h1, h2⟩
    refine ⟨fun h => h1 (.inl h), fun i hi => ?_⟩
    by_cases hm : i ∈ js
    · obtain ⟨j, hj, rfl⟩ := List.getElem_of_mem hm
      have e : gOf js j = js[j] := by simp [gOf, List.getD, hj]
      have h3 := h2 j (by simp only [Cf.sub, hj, if_true, e]; exact hi)
      have h4 := hF.ent j hj
      rw [e] at h4
      rcases h3 with h3 | ⟨t, z, n, h3, h5⟩
      · left; rw [h4, show ofl l0 j = .free from h3]; rfl
      · right; exact ⟨t, z, n, by rw [h4, show ofl l0 j = .tip t z n from h3]; rfl, h5⟩
    · by_cases hf : C.st i = .free
      · exact .inl hf
      · right
        refine Classical.byContradiction fun hn => h1 (.inr ⟨i, hm, hi, hf, fun e z n he ho => hn ⟨e, z, n, he, ho⟩⟩)
  · rintro ⟨h1, h2⟩
    refine ⟨?_, fun i hi => ?_⟩
    · rintro (h | ⟨i, _, hi, hf, ht⟩)
      · exact h1 h
      · rcases h2 i hi with h3 | ⟨e, z, n, h3, h4⟩
        · exact hf h3
        · exact ht e z n h3 h4
    · by_cases hj : i < js.length
      · have hi : C.σ (gOf js i) = some b := by simpa [Cf.sub, hj] using hi
        rcases h2 _ hi with h3 | ⟨e, z, n, h3, h4⟩
        · left; rw [hF.ent i hj] at h3; exact Ent.ren_free h3
        · right; rw [hF.ent i hj] at h3; exact ⟨e, z, n, Ent.ren_tip h3, h4⟩
      · simp [Cf.sub, hj] at hi
theorem Cf.sub_rd (hF : Fits C js l0) {a : Addr} {v : Value} (h : C.rd a v) : (C.sub js l0).rd a v := ⟨h.1, (Cf.sub_fix hF).2 h.2⟩
theorem R.sub (hF : Fits C js l0) {y : V} {v : Value} (h : R C y v) : ∀ x, y = V.ren (gOf js) x → x.ids (ltB js.length) = true → R (C.sub js l0) x v := by
  have get : ∀ {l m : List V} (_ : l = V.renL (gOf js) m), l.length = m.length := fun h => by rw [h, V.renL_length]
  induction h with
  | im h =>
    intro x hx _
    cases x <;> simp only [V.ren, reduceCtorEq, V.im.injEq] at hx
    subst hx
    exact .im h
  | ag hn h1 _ ih =>
    intro x hx hi
    cases x <;> simp only [V.ren, reduceCtorEq, V.ag.injEq] at hx
    subst hx
    rw [V.renL_length] at hn
    simp only [V.ids] at hi
    exact .ag hn (fun j hj => h1 j (by rw [V.renL_length]; exact hj)) fun j hj => ih j (by rw [V.renL_length]; exact hj) _ (V.renL_get _ hj _) (V.idsL_get hi j hj)
  | tu hn _ ih =>
    intro x hx hi
    cases x <;> simp only [V.ren, reduceCtorEq, V.tu.injEq] at hx
    subst hx
    rw [V.renL_length] at hn
    simp only [V.ids] at hi
    exact .tu hn fun j hj => ih j (by rw [V.renL_length]; exact hj) _ (V.renL_get _ hj _) (V.idsL_get hi j hj)
  | @sl es k a cap z u hc hm hz _ hr hko ih =>
    intro x hx hi
    cases x <;> simp only [V.ren, reduceCtorEq, V.sl.injEq] at hx
    rename_i es' k'
    obtain ⟨rfl, rfl⟩ := hx
    simp only [V.ids, Bool.and_eq_true] at hi
    have hl := V.renL_length (gOf js) es'
    rw [hl] at hc hko ⊢
    refine .sl hc hm (fun j hj => ⟨?_, (hz j (hl ▸ hj)).2⟩) (fun j hj => ih j (hl ▸ hj) _ (V.renL_get _ hj _) (V.idsL_get hi.1 j hj)) (fun j hj => ?_) ?_
    · have := (hz j (hl ▸ hj)).1
      rwa [V.renL_get _ hj, V.ren_size] at this
    · obtain ⟨ad, h1, h2⟩ := hr j (hl ▸ hj)
      exact ⟨ad, h1, fun m c hm => Cf.sub_rd hF (h2 m c hm)⟩
    · cases k' with
      | ro => trivial
      | full => exact hko
      | nl => exact hko
      | nn => exact hko
      | nz => exact hko
      | own id =>
        obtain ⟨e, n, h1, h2, h3⟩ := hko
        have hid : id < js.length := by simpa [ltB] using hi.2
        have h4 := hF.ent id hid
        rw [h1] at h4
        refine ⟨e, n, Ent.ren_tip h4.symm, h2, fun he => ?_⟩
        rcases h3 he with ⟨k1, k2⟩ | ⟨g, cur, k1, k2, k3, k4⟩
        · exact .inl ⟨by simpa [Cf.sub, hid] using k1, k2⟩
        · exact .inr ⟨g, cur, by simpa [Cf.sub, hid] using k1, k2, k3, k4⟩
  | @pt id off g cs h hb =>
    intro x hx hi
    cases x <;> simp only [V.ren, reduceCtorEq, V.pt.injEq] at hx
    rename_i id' off'
    obtain ⟨rfl, rfl⟩ := hx
    have hid : id' < js.length := by simpa [V.ids, ltB] using hi
    have h4 := hF.ent id' hid
    rw [hb] at h4
    cases he : ofl l0 id' with
    | box cs' => exact .pt (cs := cs') (by simpa [Cf.sub, hid] using h) he
    | _ => rw [he] at h4; cases h4
  | @bs id n g cap cs h hb hc hm =>
    intro x hx hi
    cases x <;> simp only [V.ren, reduceCtorEq, V.bs.injEq] at hx
    rename_i id' n'
    obtain ⟨rfl, rfl⟩ := hx
    have hid : id' < js.length := by simpa [V.ids, ltB] using hi
    have h4 := hF.ent id' hid
    rw [hb] at h4
    cases he : ofl l0 id' with
    | box cs' => exact .bs (cs := cs') (by simpa [Cf.sub, hid] using h) he hc hm
    | _ => rw [he] at h4; cases h4
  | @itr id g s pos h hb =>
    intro x hx hi
    cases x <;> simp only [V.ren, reduceCtorEq, V.itr.injEq] at hx
    rename_i id'
    subst hx
    have hid : id' < js.length := by simpa [V.ids, ltB] using hi
    have h4 := hF.ent id' hid
    rw [hb] at h4
    cases he : ofl l0 id' with
    | iter s' p' => exact .itr (s := s') (pos := p') (by simpa [Cf.sub, hid] using h) he
    | _ => rw [he] at h4; cases h4
  | ep _ hz hr ih =>
    intro x hx hi
    cases x <;> simp only [V.ren, reduceCtorEq, V.ep.injEq] at hx
    obtain ⟨rfl, rfl⟩ := hx
    exact .ep (ih _ rfl hi) (by rw [hz, V.ren_size]) fun j c hj => Cf.sub_rd hF (hr j c hj)
  | fn h1 h2 _ _ ih1 ih2 =>
    intro x hx hi
    cases x <;> simp only [V.ren, reduceCtorEq, V.fn.injEq] at hx
    obtain ⟨rfl, rfl, rfl⟩ := hx
    simp only [V.ids, Bool.and_eq_true] at hi
    rw [V.renL_length] at h1 h2
    exact .fn h1 h2 (fun j hj => ih1 j (by rw [V.renL_length]; exact hj) _ (V.renL_get _ hj _) (V.idsL_get hi.1 j hj)) (fun j hj => ih2 j (by rw [V.renL_length]; exact hj) _ (V.renL_get _ hj _) (V.idsL_get hi.2 j hj))
  | gi _ h0 ih =>
    intro x hx hi
    cases x <;> simp only [V.ren, reduceCtorEq, V.gi.injEq] at hx
    obtain ⟨rfl, rfl⟩ := hx
    exact .gi (fun hb => ih hb _ rfl hi) h0
  | dead =>
    intro x hx _
    cases x <;> simp only [V.ren, reduceCtorEq] at hx
    exact .dead
theorem Ok.sub (hC : Ok C) (hF : Fits C js l0) (hi : l0.all (entOk (ltB js.length)) = true) : Ok (C.sub js l0) := by
  have lt : ∀ i e, ofl l0 i = e → e ≠ .free → i < js.length := fun i e h hne => by
    rw [← hF.len]
    refine Nat.lt_of_not_le fun hle => hne ?_
    rw [← h]
    simp [ofl, List.getD, List.getElem?_eq_none hle]
  constructor
  · intro i cs h
    have hj := lt i _ h (by simp)
    have h1 := hF.ent i hj
    rw [show ofl l0 i = .box cs from h] at h1
    obtain ⟨g, bs, t, k1, k2, k3, k4, k5⟩ := hC.box _ _ h1
    rw [V.renL_length] at k3
    have hil : i < l0.length := by rw [hF.len]; exact hj
    have h2 := List.all_eq_true.1 hi l0[i] (List.getElem_mem hil)
    have h3 : l0[i] = .box cs := by simpa [ofl, List.getD, hil, Cf.sub] using h
    rw [h3] at h2
    exact ⟨g, bs, t, by simpa [Cf.sub, hj] using k1, k2, k3, fun j hj => k4 j (by rw [V.renL_length]; exact hj), fun j hj => (k5 j (by rw [V.renL_length]; exact hj)).sub hF _ (V.renL_get _ hj _) (V.idsL_get h2 j hj)⟩
  · intro i e z n g h h'
    have hj := lt i _ h (by simp)
    have h1 := hF.ent i hj
    rw [show ofl l0 i = .tip e z n from h] at h1
    have h' : C.σ (gOf js i) = some g := by simpa [Cf.sub, hj] using h'
    obtain ⟨cur, k1, k2, k3⟩ := hC.tip _ e z n g h1 h'
    refine ⟨cur, k1, k2, fun o => ?_⟩
    rintro (h | ⟨i', hm, hs, hf, _⟩)
    · exact k3 o h
    · exact hm ((hC.inj i' _ g hf (by rw [h1]; simp [Ent.ren]) hs h') ▸ gOf_mem hj)
  · intro i s p h
    have hj := lt i _ h (by simp)
    have h1 := hF.ent i hj
    rw [show ofl l0 i = .iter s p from h] at h1
    obtain ⟨g, k1, k2⟩ := hC.iter _ s p h1
    exact ⟨g, by simpa [Cf.sub, hj] using k1, k2⟩
  · intro i j g hi hj h h'
    have h1 := lt i _ rfl hi
    have h2 := lt j _ rfl hj
    refine gOf_inj hF.nd h1 h2 (hC.inj _ _ g ?_ ?_ (by simpa [Cf.sub, h1] using h) (by simpa [Cf.sub, h2] using h'))
    · rw [hF.ent i h1]; exact fun e => hi (Ent.ren_free e)
    · rw [hF.ent j h2]; exact fun e => hj (Ent.ren_free e)
  · rintro b o (h | ⟨i, _, hs, hf, _⟩)
    · exact hC.avl b o h
    · exact hC.lt hf hs
  · intro i cs g o h h'
    have hj := lt i _ h (by simp)
    have h1 := hF.ent i hj
    rw [show ofl l0 i = .box cs from h] at h1
    have h' : C.σ (gOf js i) = some g := by simpa [Cf.sub, hj] using h'
    rintro (ha | ⟨i', hm, hs, hf, _⟩)
    · exact hC.bav _ _ g o h1 h' ha
    · exact hm ((hC.inj i' _ g hf (by rw [h1]; simp [Ent.ren]) hs h') ▸ gOf_mem hj)
  · intro a ha
    obtain ⟨m, h1⟩ := hC.gl a ha
    exact ⟨m, Cf.sub_rd hF h1⟩

/-- What has become of all boxes. -/
def Cf.sup (C : Cf) (js : List Nat) (D : Cf) : Cf :=
  ⟨fun i => if i ∈ js then D.σ (js.idxOf i) else C.σ i, fun i => if i ∈ js then (D.st (js.idxOf i)).ren (gOf js) else C.st i, C.av, D.w⟩
variable {D : Cf} {l1 : List Ent}
theorem idx_gOf (hn : js.Nodup) {i : Nat} (h : i < js.length) : js.idxOf (gOf js i) = i := by
  have e : gOf js i = js[i] := by simp [gOf, List.getD, h]
  rw [e]
  have h1 : js[i] ∈ js := List.getElem_mem h
  have h2 := List.idxOf_lt_length_of_mem h1
  have h3 : js[js.idxOf js[i]] = js[i] := by simp
  exact (List.getElem_inj hn).1 h3
theorem gOf_idx {i : Nat} (h : i ∈ js) : gOf js (js.idxOf i) = i := by
  have := List.idxOf_lt_length_of_mem h
  simp [gOf, List.getD, this]
theorem sub_heap (hE : Ev (C.sub js l0) D) (hF : Fits C js l0) (hC : Ok C) {i b : Nat} (hi : i ∉ js) (hf : C.st i ≠ .free) (hs : C.σ i = some b) : D.w.heap[b]? = C.w.heap[b]? := by
  refine hE.keep b (hC.lt hf hs) fun j hj => ?_
  by_cases h : j < js.length
  · have hj : C.σ (gOf js j) = some b := by simpa [Cf.sub, h] using hj
    by_cases hfree : C.st (gOf js j) = .free
    · rw [hF.ent j h] at hfree; exact Ent.ren_free hfree
    · exact absurd (hC.inj _ _ b hf hfree hs hj ▸ gOf_mem h) hi
  · simp [Cf.sub, h] at hj
theorem sup_fix (hC : Ok C) (hF : Fits C js l0) (hE : Ev (C.sub js l0) D) {b o : Nat} (h : D.fix b o) : (C.sup js D).fix b o := by
  have hav := h.1
  rw [hE.av] at hav
  refine ⟨fun h' => hav (.inl h'), fun i hi => ?_⟩
  by_cases hm : i ∈ js
  · have hi : D.σ (js.idxOf i) = some b := by simpa [Cf.sup, hm] using hi
    rcases h.2 _ hi with h1 | ⟨e, z, n, h1, h2⟩
    · left; simp [Cf.sup, hm, h1, Ent.ren]
    · right; exact ⟨e, z, n, by simp [Cf.sup, hm, h1, Ent.ren], h2⟩
  · have hi : C.σ i = some b := by simpa [Cf.sup, hm] using hi
    have e : (C.sup js D).st i = C.st i := by simp [Cf.sup, hm]
    rw [e]
    by_cases hf : C.st i = .free
    · exact .inl hf
    · right
      refine Classical.byContradiction fun hn => hav (.inr ⟨i, hm, hi, hf, fun e z n he ho => hn ⟨e, z, n, he, ho⟩⟩)
theorem R.sup (hC : Ok C) (hF : Fits C js l0) (hE : Ev (C.sub js l0) D) (hs : D.st = ofl l1) (hl : l1.length = js.length) {x : V} {v : Value} (h : R D x v) : R (C.sup js D) (V.ren (gOf js) x) v := by
  have lt : ∀ i e, D.st i = e → e ≠ .free → i < js.length := fun i e h hne => by
    rw [← hl]
    refine Nat.lt_of_not_le fun hle => hne ?_
    rw [← h, hs]
    simp [ofl, List.getD, List.getElem?_eq_none hle]
  have rd : ∀ {a : Addr} {v : Value}, D.rd a v → (C.sup js D).rd a v := fun h => ⟨h.1, sup_fix hC hF hE h.2⟩
  induction h with
  | im h => simp only [V.ren]; exact .im h
  | ag hn h1 _ ih =>
    simp only [V.ren]
    refine .ag (by rw [V.renL_length]; exact hn) (fun j hj => h1 j (by rwa [V.renL_length] at hj)) fun j hj => ?_
    rw [V.renL_length] at hj
    rw [V.renL_get _ hj]
    exact ih j hj
  | tu hn _ ih =>
    simp only [V.ren]
    refine .tu (by rw [V.renL_length]; exact hn) fun j hj => ?_
    rw [V.renL_length] at hj
    rw [V.renL_get _ hj]
    exact ih j hj
  | @sl es k a cap z u hc hm hz _ hr hko ih =>
    simp only [V.ren]
    have hl' := V.renL_length (gOf js) es
    rw [← hl'] at hc hko ⊢
    refine .sl (z := z) (u := u) hc hm (fun j hj => ?_) (fun j hj => ?_) (fun j hj => ?_) ?_
    · have hj' := hj; rw [hl'] at hj'
      rw [V.renL_get _ hj', V.ren_size]
      exact hz j hj'
    · have hj' := hj; rw [hl'] at hj'
      rw [V.renL_get _ hj']
      exact ih j hj'
    · have hj' := hj; rw [hl'] at hj'
      obtain ⟨ad, h1, h2⟩ := hr j hj'
      exact ⟨ad, h1, fun m c hm => rd (h2 m c hm)⟩
    · cases k with
      | ro => trivial
      | full => exact hko
      | nl => exact hko
      | nn => exact hko
      | nz => exact hko
      | own id =>
        obtain ⟨e, n, h1, h2, h3⟩ := hko
        have hid := lt id _ h1 (by simp)
        have hm := gOf_mem hid
        have hx := idx_gOf hF.nd hid
        refine ⟨e, n, by simp [Cf.sup, hm, hx, h1, Ent.ren], h2, fun he => ?_⟩
        rcases h3 he with ⟨k1, k2⟩ | ⟨g, cur, k1, k2, k3, k4⟩
        · exact .inl ⟨by simpa [Cf.sup, hm, hx] using k1, k2⟩
        · exact .inr ⟨g, cur, by simpa [Cf.sup, hm, hx] using k1, k2, k3, k4⟩
  | @pt id off g cs h hb =>
    have hid := lt id _ hb (by simp)
    have hm := gOf_mem hid
    have hx := idx_gOf hF.nd hid
    simp only [V.ren]
    exact .pt (cs := V.renL (gOf js) cs) (by simpa [Cf.sup, hm, hx] using h) (by simp [Cf.sup, hm, hx, hb, Ent.ren])
  | @bs id n g cap cs h hb hc hcm =>
    have hid := lt id _ hb (by simp)
    have hm := gOf_mem hid
    have hx := idx_gOf hF.nd hid
    simp only [V.ren]
    exact .bs (cs := V.renL (gOf js) cs) (by simpa [Cf.sup, hm, hx] using h) (by simp [Cf.sup, hm, hx, hb, Ent.ren]) hc hcm
  | @itr id g s pos h hb =>
    have hid := lt id _ hb (by simp)
    have hm := gOf_mem hid
    have hx := idx_gOf hF.nd hid
    simp only [V.ren]
    exact .itr (s := s) (pos := pos) (by simpa [Cf.sup, hm, hx] using h) (by simp [Cf.sup, hm, hx, hb, Ent.ren])
  | ep _ hz hr ih => simp only [V.ren]; exact .ep ih (by rw [hz, V.ren_size]) fun j c hj => rd (hr j c hj)
  | fn h1 h2 _ _ ih1 ih2 =>
    simp only [V.ren]
    refine .fn (by rw [V.renL_length]; exact h1) (by rw [V.renL_length]; exact h2) (fun j hj => ?_) (fun j hj => ?_)
    · rw [V.renL_length] at hj
      rw [V.renL_get _ hj]
      exact ih1 j hj
    · rw [V.renL_length] at hj
      rw [V.renL_get _ hj]
      exact ih2 j hj
  | gi _ h0 ih => simp only [V.ren]; exact .gi ih h0
  | dead => simp only [V.ren]; exact .dead
theorem Ev.sup (hC : Ok C) (hF : Fits C js l0) (hE : Ev (C.sub js l0) D) : Ev C (C.sup js D) := by
  constructor
  · exact hE.os
  · exact hE.tape
  · exact hE.output
  · exact hE.size
  · rfl
  · intro a v h
    have := hE.rd a v (Cf.sub_rd hF h)
    exact ⟨this.1, sup_fix hC hF hE this.2⟩
  · intro i cs h
    by_cases hm : i ∈ js
    · have hj := List.idxOf_lt_length_of_mem hm
      have h1 := hF.ent _ hj
      rw [gOf_idx hm, h] at h1
      cases he : ofl l0 (js.idxOf i) with
      | box cs' =>
        obtain ⟨k1, cs'', k2⟩ := hE.box (js.idxOf i) cs' he
        refine ⟨?_, V.renL (gOf js) cs'', by simp [Cf.sup, hm, k2, Ent.ren]⟩
        simp only [Cf.sup, hm, if_true, k1]
        simp [Cf.sub, hj, gOf_idx hm]
      | _ => rw [he] at h1; cases h1
    · exact ⟨by simp [Cf.sup, hm], cs, by simpa [Cf.sup, hm] using h⟩
  · intro i e z n h
    by_cases hm : i ∈ js
    · have hj := List.idxOf_lt_length_of_mem hm
      have h1 := hF.ent _ hj
      rw [gOf_idx hm, h] at h1
      obtain ⟨n', k1, k2, k3⟩ := hE.tip (js.idxOf i) e z n (Ent.ren_tip h1.symm)
      refine ⟨n', by simp [Cf.sup, hm, k1, Ent.ren], k2, fun hn => ?_⟩
      obtain ⟨k4, k5⟩ := k3 hn
      have e1 : (C.sub js l0).σ (js.idxOf i) = C.σ i := by simp [Cf.sub, hj, gOf_idx hm]
      rw [e1] at k4 k5
      exact ⟨by simp [Cf.sup, hm, k4], k5⟩
    · refine ⟨n, by simpa [Cf.sup, hm] using h, Nat.le_refl _, fun _ => ⟨by simp [Cf.sup, hm], fun g cur hg hc => ⟨cur, ?_, rfl⟩⟩⟩
      exact (sub_heap hE hF hC hm (by rw [h]; simp) hg).trans hc
  · intro i s p h
    by_cases hm : i ∈ js
    · have hj := List.idxOf_lt_length_of_mem hm
      have h1 := hF.ent _ hj
      rw [gOf_idx hm, h] at h1
      cases he : ofl l0 (js.idxOf i) with
      | iter s' p' =>
        obtain ⟨k1, s'', p'', k2⟩ := hE.itr (js.idxOf i) s' p' he
        refine ⟨?_, s'', p'', by simp [Cf.sup, hm, k2, Ent.ren]⟩
        simp only [Cf.sup, hm, if_true, k1]
        simp [Cf.sub, hj, gOf_idx hm]
      | _ => rw [he] at h1; cases h1
    · exact ⟨by simp [Cf.sup, hm], s, p, by simpa [Cf.sup, hm] using h⟩
  · intro b hb hf
    refine hE.keep b hb fun j hj => ?_
    by_cases h : j < js.length
    · have hj : C.σ (gOf js j) = some b := by simpa [Cf.sub, h] using hj
      have := hf _ hj
      rw [hF.ent j h] at this
      exact Ent.ren_free this
    · simp [Cf.sub, h] at hj
  · intro i b h h'
    by_cases hm : i ∈ js
    · have hj := List.idxOf_lt_length_of_mem hm
      have h' : D.σ (js.idxOf i) = some b := by simpa [Cf.sup, hm] using h'
      have h1 : D.st (js.idxOf i) ≠ .free := fun e => h (by simp [Cf.sup, hm, e, Ent.ren])
      rcases hE.fresh _ b h1 h' with ⟨k1, k2⟩ | k1
      · left
        have h2 := hF.ent _ hj
        rw [gOf_idx hm] at h2
        refine ⟨fun e => k1 ?_, by simpa [Cf.sub, hj, gOf_idx hm] using k2⟩
        rw [h2] at e
        exact Ent.ren_free e
      · exact .inr k1
    · exact .inl ⟨by simpa [Cf.sup, hm] using h, by simpa [Cf.sup, hm] using h'⟩
theorem Ok.sup (hC : Ok C) (hF : Fits C js l0) (hE : Ev (C.sub js l0) D) (hD : Ok D) (hs : D.st = ofl l1) (hl : l1.length = js.length) : Ok (C.sup js D) := by
  constructor
  · intro i cs h
    by_cases hm : i ∈ js
    · have h : (D.st (js.idxOf i)).ren (gOf js) = .box cs := by simpa [Cf.sup, hm] using h
      cases he : D.st (js.idxOf i) with
      | box cs' =>
        rw [he] at h
        cases h
        obtain ⟨g, bs, t, k1, k2, k3, k4, k5⟩ := hD.box _ cs' he
        refine ⟨g, bs, t, by simpa [Cf.sup, hm] using k1, k2, by rw [V.renL_length]; exact k3, fun j hj => k4 j (by rwa [V.renL_length] at hj), fun j hj => ?_⟩
        rw [V.renL_length] at hj
        rw [V.renL_get _ hj]
        exact (k5 j hj).sup hC hF hE hs hl
      | _ => rw [he] at h; cases h
    · have h : C.st i = .box cs := by simpa [Cf.sup, hm] using h
      obtain ⟨g, bs, t, k1, k2, k3, k4, k5⟩ := hC.box i cs h
      exact ⟨g, bs, t, by simpa [Cf.sup, hm] using k1, (sub_heap hE hF hC hm (by rw [h]; simp) k1).trans k2, k3, k4, fun j hj => (k5 j hj).mono (Ev.sup hC hF hE)⟩
  · intro i e z n g h h'
    by_cases hm : i ∈ js
    · have h : (D.st (js.idxOf i)).ren (gOf js) = .tip e z n := by simpa [Cf.sup, hm] using h
      obtain ⟨cur, k1, k2, k3⟩ := hD.tip _ e z n g (Ent.ren_tip h) (by simpa [Cf.sup, hm] using h')
      refine ⟨cur, k1, k2, fun o ho => k3 o ?_⟩
      rw [hE.av]
      exact .inl ho
    · have h : C.st i = .tip e z n := by simpa [Cf.sup, hm] using h
      have h' : C.σ i = some g := by simpa [Cf.sup, hm] using h'
      obtain ⟨cur, k1, k2⟩ := hC.tip i e z n g h h'
      exact ⟨cur, (sub_heap hE hF hC hm (by rw [h]; simp) h').trans k1, k2⟩
  · intro i s p h
    by_cases hm : i ∈ js
    · have h : (D.st (js.idxOf i)).ren (gOf js) = .iter s p := by simpa [Cf.sup, hm] using h
      cases he : D.st (js.idxOf i) with
      | iter s' p' =>
        rw [he] at h
        cases h
        obtain ⟨g, k1, k2⟩ := hD.iter _ s p he
        exact ⟨g, by simpa [Cf.sup, hm] using k1, k2⟩
      | _ => rw [he] at h; cases h
    · have h : C.st i = .iter s p := by simpa [Cf.sup, hm] using h
      obtain ⟨g, k1, k2⟩ := hC.iter i s p h
      exact ⟨g, by simpa [Cf.sup, hm] using k1, (sub_heap hE hF hC hm (by rw [h]; simp) k1).trans k2⟩
  · intro i j g hi hj h h'
    have key : ∀ {i j : Nat}, i ∈ js → j ∉ js → (C.sup js D).st i ≠ .free → (C.sup js D).st j ≠ .free → (C.sup js D).σ i = some g → (C.sup js D).σ j = some g → False := fun {i j} hm hn hi hj h h' => by
      have h : D.σ (js.idxOf i) = some g := by simpa [Cf.sup, hm] using h
      have h1 : D.st (js.idxOf i) ≠ .free := fun e => hi (by simp [Cf.sup, hm, e, Ent.ren])
      have h' : C.σ j = some g := by simpa [Cf.sup, hn] using h'
      have hj : C.st j ≠ .free := by simpa [Cf.sup, hn] using hj
      have hlt := List.idxOf_lt_length_of_mem hm
      rcases hE.fresh _ g h1 h with ⟨k1, k2⟩ | k1
      · have k2 : C.σ i = some g := by simpa [Cf.sub, hlt, gOf_idx hm] using k2
        have h2 := hF.ent _ hlt
        rw [gOf_idx hm] at h2
        have := hC.inj i j g (fun e => k1 (by rw [h2] at e; exact Ent.ren_free e)) hj k2 h'
        exact hn (this ▸ hm)
      · have := hC.lt hj h'
        have k1 : C.w.heap.size ≤ g := k1
        omega
    by_cases h1 : i ∈ js <;> by_cases h2 : j ∈ js
    · have e : js.idxOf i = js.idxOf j := hD.inj _ _ g (fun e => hi (by simp [Cf.sup, h1, e, Ent.ren])) (fun e => hj (by simp [Cf.sup, h2, e, Ent.ren])) (by simpa [Cf.sup, h1] using h) (by simpa [Cf.sup, h2] using h')
      rw [← gOf_idx h1, e, gOf_idx h2]
    · exact (key h1 h2 hi hj h h').elim
    · exact (key h2 h1 hj hi h' h).elim
    · exact hC.inj i j g (by simpa [Cf.sup, h1] using hi) (by simpa [Cf.sup, h2] using hj) (by simpa [Cf.sup, h1] using h) (by simpa [Cf.sup, h2] using h')
  · intro b o h
    exact Nat.lt_of_lt_of_le (hC.avl b o h) hE.size
  · intro i cs g o h h' ha
    have ha : C.av g o := ha
    by_cases hm : i ∈ js
    · have h : (D.st (js.idxOf i)).ren (gOf js) = .box cs := by simpa [Cf.sup, hm] using h
      cases he : D.st (js.idxOf i) with
      | box cs' =>
        refine hD.bav _ cs' g o he (by simpa [Cf.sup, hm] using h') ?_
        rw [hE.av]
        exact .inl ha
      | _ => rw [he] at h; cases h
    · exact hC.bav i cs g o (by simpa [Cf.sup, hm] using h) (by simpa [Cf.sup, hm] using h') ha
  · exact hC.gl.mono (Ev.sup hC hF hE)
end

/-- The contract of a function that is handed boxes: l0 before, l1 behind. -/
def DC (P : Program) (f : FuncId) (xs : List V) (l0 : List Ent) (r : V) (l1 : List Ent) : Prop := ACalls P f xs (ofl l0) fun x st => x = r ∧ st = ofl l1
theorem stF_eq : stF = ofl [] := rfl
theorem PC_iff {P : Program} {f : FuncId} {xs : List V} {r : V} : PC P f xs r ↔ DC P f xs [] r [] := Iff.rfl
def renE (js : List Nat) : Nat → List Ent → List (Nat × Ent)
  | _, [] => []
  | i, e :: l => (gOf js i, e.ren (gOf js)) :: renE js (i + 1) l
theorem renE_mem {js : List Nat} {p : Nat × Ent} : ∀ {l : List Ent} {i : Nat}, p ∈ renE js i l → ∃ j, j < l.length ∧ p = (gOf js (i + j), (ofl l j).ren (gOf js))
  | e :: l, i, h => by
    simp only [renE, List.mem_cons] at h
    rcases h with rfl | h
    · exact ⟨0, by simp, rfl⟩
    · obtain ⟨j, h1, rfl⟩ := renE_mem h
      exact ⟨j + 1, by simpa using h1, by rw [show i + 1 + j = i + (j + 1) by omega]; rfl⟩
theorem renE_get {js : List Nat} : ∀ {l : List Ent} {i j : Nat}, j < l.length → (gOf js (i + j), (ofl l j).ren (gOf js)) ∈ renE js i l
  | e :: l, i, 0, _ => by simp [renE, ofl]
  | e :: l, i, j + 1, h => by
    have := renE_get (js := js) (l := l) (i := i + 1) (j := j) (by simpa using h)
    rw [show i + 1 + j = i + (j + 1) by omega] at this
    exact List.mem_cons_of_mem _ this
theorem wrs_renE {js : List Nat} : ∀ {l : List Ent} {i : Nat} {st : Nat → Ent}, (∀ a b, a < b → b < i + l.length → gOf js a ≠ gOf js b) → ∀ k, wrs st (renE js i l) k =
    (match (List.range l.length).find? (fun j => gOf js (i + j) == k) with | some j => (ofl l j).ren (gOf js) | none => st k)
  | [], i, st, _, k => by simp [renE, wrs]
  | e :: l, i, st, h, k => by
    have ih := wrs_renE (js := js) (l := l) (i := i + 1) (st := upd st (gOf js i) (e.ren (gOf js))) (fun a b h1 h2 => h a b h1 (by simp at h2 ⊢; omega)) k
    rw [renE, wrs, ih, List.length_cons, List.range_succ_eq_map, List.find?_cons]
    by_cases hk : gOf js i = k
    · have h0 : (gOf js (i + 0) == k) = true := by simpa using hk
      rw [h0]
      have hnone : (List.range l.length).find? (fun j => gOf js (i + 1 + j) == k) = none := by
        rw [List.find?_eq_none]
        intro j hj
        have hj : j < l.length := by simpa using hj
        have := h i (i + 1 + j) (by omega) (by simp; omega)
        simp only [beq_iff_eq]
        rw [← hk]
        exact Ne.symm this
      rw [hnone]
      simp [upd, hk, ofl]
    · have h0 : (gOf js (i + 0) == k) = false := by simpa using hk
      rw [h0]
      simp only [List.find?_map]
      have e1 : ((fun j => gOf js (i + j) == k) ∘ Nat.succ) = fun j => gOf js (i + 1 + j) == k := by
        funext j
        simp only [Function.comp]
        rw [show i + Nat.succ j = i + 1 + j by omega]
      rw [e1]
      cases hfind : (List.range l.length).find? (fun j => gOf js (i + 1 + j) == k) with
      | none => simp [upd, Ne.symm hk]
      | some j => simp [ofl]
section
variable {P : Program} {o : Oper} {ev : Operand → V}
theorem step_callS {c : Operand} {args : Array Operand} {tys : Array TypeId} {f : FuncId} {us vs xs : List V} {r : V} {l0 l1 : List Ent} (js : List Nat) (ho : o.op = .call { callee := .value c, args := args, argTypes := tys }) (hc : ev c = .fn (.func f) us vs) (h : DC P f xs l0 r l1)
    (hw : WkL (us ++ args.toList.map ev ++ vs) (V.renL (gOf js) xs)) (hi : V.idsL (ltB js.length) xs = true) (hnd : js.Nodup) (h0 : l0.length = js.length) (h1 : l1.length = js.length) (he : l0.all (entOk (ltB js.length)) = true) :
    Step P o ev (renE js 0 l0) ⟨V.ren (gOf js) r, renE js 0 l1⟩ := by
  intro C ρ hC hR hfp
  have hF : Fits C js l0 := ⟨hnd, h0, fun i hi => by
    have := hfp _ (renE_get (js := js) (l := l0) (i := 0) (j := i) (by omega))
    simpa using this⟩
  have hcr := hR c (by simp [ho, Op.operands, Call.operands])
  rw [hc] at hcr
  generalize hu : ρ c = u at hcr
  cases hcr with
  | @fn _ _ _ us' vs' k1 k2 k3 k4 =>
    have hrun : (execOp ρ o).run P C.w = .ok (.enter f (us' ++ args.map ρ ++ vs')) C.w := by
      simp only [execOp, ho, resolve, hu, Deferred.ofValue, invoke, Sem.run_bind, Sem.run_pure, Result.andThen_ok, run_callFunc h.1]
    rw [hrun]
    have hlen := hw.length
    rw [V.renL_length] at hlen
    have hsz : (us' ++ args.map ρ ++ vs').size = xs.length := by
      rw [← hlen]
      simp [k1, k2]
    refine (h.2 (C.sub js l0) _ rfl (hC.sub hF he) hsz (fun i hi' => ?_)).mono ?_
    · have hi2 : i < (us ++ args.toList.map ev ++ vs).length := by omega
      have hi3 : i < (V.renL (gOf js) xs).length := by rw [V.renL_length]; exact hi'
      have hwi : Wk (us ++ args.toList.map ev ++ vs)[i] (V.renL (gOf js) xs)[i] := hw.get i hi2 hi3
      have hraw : R C (us ++ args.toList.map ev ++ vs)[i] ((us' ++ args.map ρ ++ vs').getD i undef) := by
        rw [Array.getD_eq_getD_getElem?, Array.getElem?_append, Array.getElem?_append]
        simp only [Array.size_append, Array.size_map, k1]
        simp only [List.getElem_append, List.length_append, List.length_map, Array.length_toList]
        by_cases q1 : i < us.length
        · have q0 : i < us.length + args.size := by omega
          have q2 : i < us'.size := by omega
          have := k3 i q1
          simpa [q1, q0, q2] using this
        · by_cases q2 : i < us.length + args.size
          · have q3 : i - us.length < args.size := by omega
            have := hR args[i - us.length] (by simp [ho, Op.operands, Call.operands])
            simpa [q1, q2, q3] using this
          · have hi3 : i < us.length + args.size + vs.length := by simp at hi2; omega
            have q3 : i - (us.length + args.size) < vs.length := by omega
            have q4 : i - (us.length + args.size) < vs'.size := by omega
            have := k4 _ q3
            simpa [q1, q2, q4] using this
      exact (hwi C _ hraw).sub hF _ (V.renL_get _ hi' _) (V.idsL_get hi i hi')
    · rintro e w' ⟨v, x, st', rfl, ⟨rfl, rfl⟩, D, rfl, h2, h3, h4, h5⟩
      refine ⟨v, rfl, C.sup js D, rfl, ?_, hC.sup hF h4 h3 h2 h1, Ev.sup hC hF h4, h5.sup hC hF h4 h2 h1⟩
      funext k
      rw [wrs_renE (st := C.st) (fun a b h6 h7 => fun e => by have := gOf_inj hnd (by omega) (by omega) e; omega)]
      show (if k ∈ js then (D.st (js.idxOf k)).ren (gOf js) else C.st k) = _
      by_cases hk : k ∈ js
      · rw [if_pos hk]
        have hx := List.idxOf_lt_length_of_mem hk
        cases hfind : (List.range l1.length).find? (fun j => gOf js (0 + j) == k) with
        | none =>
          rw [List.find?_eq_none] at hfind
          have := hfind (js.idxOf k) (by simp; omega)
          simp [gOf_idx hk] at this
        | some j =>
          have hj := List.find?_some hfind
          have hjm := List.mem_of_find?_eq_some hfind
          simp only [Nat.zero_add, beq_iff_eq] at hj
          have hjl : j < js.length := by simp at hjm; omega
          have : js.idxOf k = j := by rw [← hj]; exact idx_gOf hnd hjl
          rw [this, h2]
      · rw [if_neg hk]
        cases hfind : (List.range l1.length).find? (fun j => gOf js (0 + j) == k) with
        | none => rfl
        | some j =>
          have hj := List.find?_some hfind
          have hjm := List.mem_of_find?_eq_some hfind
          simp only [Nat.zero_add, beq_iff_eq] at hj
          exact absurd (hj ▸ gOf_mem (by simp at hjm; omega)) hk
end
end Go.Proofs.Ytfggemopnlffeaa
