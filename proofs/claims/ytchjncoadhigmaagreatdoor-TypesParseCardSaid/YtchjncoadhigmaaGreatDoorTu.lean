/- append of a zero element, whose address is taken and into which a value is stored: as the append of the value. -/
import Derived.Test.YtchjncoadhigmaaGreatDoorTr
namespace Go.Proofs.YtchjncoadhigmaaGreatDoor
set_option linter.unusedSimpArgs false
set_option linter.unusedVariables false
set_option linter.unnecessarySimpa false
open Go.RowKit
theorem setRow_alloc (w : World) (cs cs' : Array Value) (e : TypeId) : (w.alloc (.cells cs e)).setRow w.heap.size cs' = w.alloc (.cells cs' e) := by
  unfold World.setRow World.alloc
  congr 1
  apply Array.ext
  · simp
  · intro j h1 h2
    simp only [Array.getElem_modify, Array.getElem_push]
    by_cases hj : j < w.heap.size
    · have : ¬ w.heap.size = j := by omega
      simp [hj, this]
    · have : w.heap.size = j := by simp at h2; omega
      simp [hj, this]
theorem append_store {P : Program} {C : Cf} {id : Nat} {e t tx ty : TypeId} {n z : Nat} {es : List V} {y : V} {vs vx vy : Value} {news0 : List Value} (hC : Ok C) (hst : C.st id = .tip e z n) (ht : elOf P t = some e) (hap : apOk P e n 1 = some z) (hsz : szOf P e = some z) (hs : R C (.sl es (.own id)) vs) (hn : es.length = n)
    (hx : Src P z tx vx 1 news0 C.w) (hy : vy.cells.size = z) (hy1 : ∀ c ∈ vy.cells.toList, c.oneCell' = true) (hyR : R C y vy) (hyz : y.size = z) :
    ∃ g cap w1 w2 cur, (Builtin.append_ #[t, tx] ty #[vs, vx]).run P C.w = .ok (.slice (some ⟨g, 0, none⟩) (n + 1) cap) w1 ∧ (w1.heap[g]? = some (.cells cur e (0, 0)) ∧ n * z + z ≤ cur.size ∧ w2 = w1.setRow g (cur.toList.take (n * z) ++ vy.cells.toList ++ cur.toList.drop (n * z + z)).toArray ∧
      ∀ jd cs gb bs tb, C.st jd = .box cs → C.σ jd = some gb → C.w.heap[gb]? = some (.cells bs tb (0, 0)) → gb ≠ g ∧ w1.heap[gb]? = some (.cells bs tb (0, 0))) ∧
      Good C (wrs C.st [(id, .tip e z (n + 1))]) (.sl (es ++ [y]) (.own id)) w2 (.slice (some ⟨g, 0, none⟩) (n + 1) cap) := by
  obtain ⟨i, zv, a1, a2, a3, a4, a5, a6, a7⟩ := apOk_spec hap
  have hs' := hs
  cases hs with
  | @sl _ _ a cap z' u hc hm hzs h0 hr hk =>
    subst hn
    have hn0 : news0.length = z := by simpa using hx.newsLen
    have hn1 : vy.cells.toList.length = z := by simpa using hy
    obtain ⟨v, w2, ⟨g, cap', w1, cur, rfl, k1, k2⟩, hG⟩ := good_append_gen (md := false) (P := P) (ys := [y]) (uy := fun _ => vy) (news := vy.cells.toList) (fun v w2 => ∃ g cap' w1 cur, v = .slice (some ⟨g, 0, none⟩) (es.length + 1) cap' ∧ (Builtin.append_ #[t, tx] ty #[.slice a es.length cap, vx]).run P C.w = .ok v w1 ∧ (w1.heap[g]? = some (.cells cur e (0, 0)) ∧ es.length * z + z ≤ cur.size ∧ w2 = w1.setRow g (cur.toList.take (es.length * z) ++ vy.cells.toList ++ cur.toList.drop (es.length * z + z)).toArray ∧
      ∀ jd cs gb bs tb, C.st jd = .box cs → C.σ jd = some gb → C.w.heap[gb]? = some (.cells bs tb (0, 0)) → gb ≠ g ∧ w1.heap[gb]? = some (.cells bs tb (0, 0))))
      hC hst a2 a4 a5 hs' rfl (by simpa using hy) (fun k hk j hj => by
        have hk0 : k = 0 := by simpa using hk
        subst hk0
        simp) (fun k hk => by
        have hk0 : k = 0 := by simpa using hk
        subst hk0
        exact ⟨hy, hyz, hyR⟩) a6 a7
      (fun h => by cases h)
      (fun g cur hσ ha hg hfit hroom => by
        subst ha
        have h1 : es.length * z + news0.length ≤ cur.size := by rw [hn0]; rw [hn1] at hfit; exact hfit
        have hrun := run_append_room' (P := P) (w := C.w) t tx ty e i (elOf_spec ht) a1 g es.length cap vx 1 news0 (by rw [a2]; exact hx) hg (by rw [a2]; exact h1) hroom
        rw [a2] at hrun
        have h2 := setRow_heap C.w g cur (cur.toList.take (es.length * z) ++ news0 ++ cur.toList.drop (es.length * z + news0.length)).toArray e (0, 0) hg
        refine ⟨g, cap, _, _, rfl, hrun, h2, by simp; omega, ?_, fun jd cs gb bs tb q1 q2 q3 => ?_⟩
        rotate_left
        · have hne : gb ≠ g := fun e => by
            subst e
            have := hC.inj jd id gb (by rw [q1]; simp) (by rw [hst]; simp) q2 hσ
            subst this
            rw [hst] at q1
            cases q1
          exact ⟨hne, (setRow_other _ _ _ _ hne).trans q3⟩
        rw [setRow_setRow]
        refine Eq.symm ?_
        congr 2
        rw [hn1, hn0]
        have ht1 : (List.take (es.length * z) cur.toList).length = es.length * z := by simp; omega
        rw [List.append_assoc, List.append_assoc, List.append_assoc, List.take_append_of_le_length (by omega), List.take_of_length_le (Nat.le_of_eq ht1)]
        congr 2
        rw [List.drop_append, List.drop_append, ht1, List.drop_of_length_le (by omega), List.nil_append, List.drop_of_length_le (by omega), List.nil_append, hn0]
        rw [show es.length * z + z - es.length * z - z = 0 by omega, List.drop_zero])
      (fun olds ho hold hlt hge => by
        have hrun := run_append_grow_src (P := P) C.w t tx ty e i zv (elOf_spec ht) a1 a3 a es.length cap olds (by rw [a2]; exact hold) vx 1 news0 (by rw [a2]; exact hx) hlt (by unfold maxLen at a6; omega) (growslice_fits (by omega) a7)
        have h2 : (C.w.drew.alloc (.cells ((olds ++ news0).toArray ++ Builtin.zeroCells zv.cells (grownCap C.w (es.length + 1) cap e - (es.length + 1))) e)).heap[C.w.heap.size]? = some (.cells ((olds ++ news0).toArray ++ Builtin.zeroCells zv.cells (grownCap C.w (es.length + 1) cap e - (es.length + 1))) e (0, 0)) := by
          show (Array.push C.w.heap _)[C.w.heap.size]? = _
          exact Array.getElem?_push_size
        refine ⟨_, _, _, _, rfl, hrun, h2, by simp; omega, ?_, fun jd cs gb bs tb q1 q2 q3 => ?_⟩
        rotate_left
        · have hlt : gb < C.w.heap.size := (Array.getElem?_eq_some_iff.1 q3).1
          refine ⟨by omega, ?_⟩
          show (Array.push C.w.heap _)[gb]? = _
          rw [Array.getElem?_push, if_neg (by omega)]
          exact q3
        have h4 := setRow_alloc C.w.drew ((olds ++ news0).toArray ++ Builtin.zeroCells zv.cells (grownCap C.w (es.length + 1) cap e - (es.length + 1)))
        have h5 : C.w.drew.heap.size = C.w.heap.size := rfl
        rw [h5] at h4
        rw [h4]
        congr 2
        apply Array.ext'
        simp only [Array.toList_append, List.append_assoc]
        rw [List.take_append_of_le_length (by omega), List.take_of_length_le (by omega)]
        congr 2
        rw [List.drop_append, ho, List.drop_of_length_le (by omega), List.nil_append, List.drop_append, List.drop_of_length_le (by omega), List.nil_append, hn0, show es.length * z + z - es.length * z - z = 0 by omega, List.drop_zero]
        rfl)
    exact ⟨g, cap', w1, w2, cur, k1, k2, hG⟩
theorem Act.eval_put_same {a : Act} {d : Nat} {v : Value} (h : d < a.tmps.size) : (a.put (some d) v).eval (.tmp d) = v := by
  simp [Act.put, Act.eval, h]
theorem Act.eval_put_ne {a : Act} {d : Nat} {v : Value} {x : Operand} (h : x ≠ .tmp d) : (a.put (some d) v).eval x = a.eval x := by
  cases x with
  | tmp t =>
    have : d ≠ t := fun e => h (by rw [e])
    simp [Act.put, Act.eval, this]
  | _ => rfl
theorem setRow_comm (w : World) {g b : Nat} (cs ds : Array Value) (h : g ≠ b) : (w.setRow g cs).setRow b ds = (w.setRow b ds).setRow g cs := by
  unfold World.setRow
  congr 1
  apply Array.ext
  · simp
  · intro j h1 h2
    simp only [Array.getElem_modify]
    by_cases hg : g = j
    · have : ¬ b = j := by omega
      simp [hg, this]
    · simp [hg]
theorem run_op_store {P : Program} {o : Oper} {ρ : Operand → Value} {t : TypeId} {x y : Operand} {g off z : Nat} {v : Value} {cs : Array Value} {ty : TypeId} {w : World} (ho : o.op = .store t x y) (hx : ρ x = .pointer (some ⟨g, off, none⟩)) (hy : ρ y = v) (hz : szOf P t = some z) (hv : v.cells.size = z)
    (hg : w.heap[g]? = some (.cells cs ty (0, 0))) (hf : off + z ≤ cs.size) (h1 : ∀ c ∈ v.cells.toList, c.oneCell' = true) :
    (execOp ρ o).run P w = .ok .skip (w.setRow g (cs.toList.take off ++ v.cells.toList ++ cs.toList.drop (off + z)).toArray) := by
  simp only [execOp, ho, Instr.storeAt, Instr.sureAddr, hx, hy, Sem.run_bind, Sem.run_pure, Result.andThen_ok, run_storeVar hz hv hg hf h1]
theorem Region.one {P : Program} {F : Fence} {m n i : Nat} {ops : Array Oper} {Q : Exit → Act → World → Prop} {T : Array Bool} {a : Act} {w : World} (h : Region.ready .any ops T = [i]) (h1 : wpOpIn F m P ops Q i (wpAnyIn F m P .any ops Q n (T.setIfInBounds i true)) a w) : wpAnyIn F m P .any ops Q (n + 1) T a w :=
  ⟨fun he => (by rw [h] at he; cases he), fun j hj => (by
    rw [h] at hj
    obtain rfl := List.mem_singleton.1 hj
    exact h1)⟩
theorem Region.two {P : Program} {F : Fence} {m n i k : Nat} {ops : Array Oper} {Q : Exit → Act → World → Prop} {T : Array Bool} {a : Act} {w : World} (h : Region.ready .any ops T = [i, k]) (h1 : wpOpIn F m P ops Q i (wpAnyIn F m P .any ops Q n (T.setIfInBounds i true)) a w)
    (h2 : wpOpIn F m P ops Q k (wpAnyIn F m P .any ops Q n (T.setIfInBounds k true)) a w) : wpAnyIn F m P .any ops Q (n + 1) T a w :=
  ⟨fun he => (by rw [h] at he; cases he), fun j hj => (by
    rw [h] at hj
    rcases (by simpa using hj : j = i ∨ j = k) with rfl | rfl
    · exact h1
    · exact h2)⟩
theorem Region.none {P : Program} {F : Fence} {m : Nat} {ops : Array Oper} {Q : Exit → Act → World → Prop} {T : Array Bool} {a : Act} {w : World} (h : Region.ready .any ops T = []) (h1 : Q .normal a w) : wpAnyIn F m P .any ops Q 0 T a w := ⟨h, h1⟩
/-- What is ready, in each of the three orders of append; address; store of the element; store of the slice. -/
def takeR (ops : Array Oper) (T : Array Bool) : Bool :=
  let r (l : List Nat) := Region.ready .any ops (l.foldl (fun T i => T.setIfInBounds i true) T)
  (r [] == [4]) && (r [4] == [5, 7]) && (r [4, 5] == [6, 7]) && (r [4, 7] == [5]) && (r [4, 5, 6] == [7]) && (r [4, 5, 7] == [6]) && (r [4, 7, 5] == [6]) && (r [4, 5, 6, 7] == []) && (r [4, 5, 7, 6] == []) && (r [4, 7, 5, 6] == [])
theorem any_take {B : Option Nat} {ro : Option Nat} {m : Nat} {P : Program} {ops : Array Oper} {T : Array Bool} {Q : Exit → Act → World → Prop} {A : St} {C : Cf} {a : Act} {o4 o5 o6 o7 : Oper} {s x ix y b : Operand} {t tx t5 t7 e e2 : TypeId} {d4 d5 id jd n z : Nat} {es ys : List V} {x0 : V} {k : Slk} {j : IntKind}
    (hT : takeR ops T = true) (h4 : ops[4]? = some o4) (h5 : ops[5]? = some o5) (h6 : ops[6]? = some o6) (h7 : ops[7]? = some o7) (g4 : o4.guard = none) (g5 : o5.guard = none) (g6 : o6.guard = none) (g7 : o7.guard = none)
    (p4 : o4.op = .call { callee := .builtin .append, args := #[s, x], argTypes := #[t, tx] }) (p5 : o5.op = .indexAddr t5 (.tmp d4) ix) (p6 : o6.op = .store e (.tmp d5) y) (p7 : o7.op = .store t7 b (.tmp d4)) (q4 : o4.dst = some d4) (q5 : o5.dst = some d5) (q6 : o6.dst = none) (q7 : o7.dst = none)
    (n1 : ix ≠ .tmp d4) (n2 : y ≠ .tmp d4) (n3 : y ≠ .tmp d5) (n4 : b ≠ .tmp d4) (n5 : b ≠ .tmp d5) (n6 : d4 ≠ d5) (b4 : d4 < A.s.length) (b5 : d5 < A.s.length) (nj : jd ≠ id)
    (hst : A.st id = .tip e z n) (ht : elOf P t = some e) (ht5 : elOf P t5 = some e) (hap : apOk P e n 1 = some z) (hsz : szOf P e = some z) (hs : A.ev s = .sl es (.own id)) (hn : es.length = n)
    (hx : A.ev x = .sl ys k) (hx1 : ys.length = 1) (hx2 : elOf P tx = some e2) (hx3 : allZ z ys = true) (hi : A.ev ix = .im (.int j n)) (hv : (A.ev y).live = true) (hvz : (A.ev y).size = z) (hb : A.ev b = .pt jd 0) (hj : A.st jd = .box [x0]) (ht7 : szOf P t7 = some 1) (hS : Sim B C A a)
    (hK : ∀ D a', Sim B D (((A.app (some d4) ⟨.sl (es ++ [A.ev y]) (.own id), [(id, .tip e z (n + 1))]⟩).app (some d5) ⟨.dead, []⟩).app none ⟨.dead, [(jd, .box [.sl (es ++ [A.ev y]) (.own id)])]⟩) a' → Ev C D → Q .normal a' D.w) :
    wpAnyIn (FR ro) m P .any ops Q 4 T a C.w := by
  simp only [takeR, List.foldl, Bool.and_eq_true, beq_iff_eq] at hT
  obtain ⟨⟨⟨⟨⟨⟨⟨⟨⟨r0, r1⟩, r2⟩, r3⟩, r4⟩, r5⟩, r6⟩, r7⟩, r8⟩, r9⟩ := hT
  have e1 := hS.ev s
  rw [hs] at e1
  have e2' := hS.ev x
  rw [hx] at e2'
  have e3 := hS.ev ix
  rw [hi] at e3
  have e3' : a.eval ix = .int j n := e3.im_eq
  have e4 := hS.ev y
  obtain ⟨l1, l2⟩ := e4.live hv
  have hcl : (A.ev y).cells.length = z := hvz
  have hone : ∀ c ∈ (a.eval y).cells.toList, c.oneCell' = true := fun c hc => by
    obtain ⟨jj, hj, rfl⟩ := List.getElem_of_mem hc
    have hj' : jj < (a.eval y).cells.size := by simpa using hj
    have := (l2 jj (by rw [hcl, ← hvz, ← l1]; exact hj')).1
    simpa [hj'] using this
  obtain ⟨uy, u1, _⟩ := src_sl (elOf_spec hx2) e2' hx3
  rw [hx1] at u1
  have hst' : C.st id = .tip e z n := by rw [hS.st]; exact hst
  have hj' : C.st jd = .box [x0] := by rw [hS.st]; exact hj
  have e5 := hS.ev b
  rw [hb] at e5
  obtain ⟨gb, bs, tb, hσ, hgb, hbs, ebv⟩ : ∃ gb bs tb, C.σ jd = some gb ∧ C.w.heap[gb]? = some (.cells bs tb (0, 0)) ∧ 1 ≤ bs.size ∧ a.eval b = .pointer (some ⟨gb, 0, none⟩) := by
    generalize a.eval b = u at e5
    cases e5 with
    | @pt _ _ g cs' hg _ =>
      obtain ⟨g', bs, ty, k1, k2, k3, k4, k5⟩ := hS.ok.box jd _ hj'
      obtain rfl : g = g' := Option.some.inj (hg.symm.trans k1)
      exact ⟨g, bs, ty, hg, k2, by simpa using k3, rfl⟩
  obtain ⟨g, cap, w1, w2, cur, k1, ⟨f1, f2, rfl, f4⟩, D, f5, k4, k5, k6, k7⟩ := append_store (P := P) (tx := tx) (ty := o4.type) (vx := a.eval x) hS.ok hst' ht hap hsz e1 hn u1 (l1.trans hvz) hone e4 hvz
  obtain ⟨hne, hgb1⟩ := f4 jd _ gb bs tb hj' hσ hgb
  have hd4 : d4 < a.tmps.size := by rw [hS.size]; exact b4
  have hd5 : d5 < (a.put (some d4) (.slice (some ⟨g, 0, none⟩) (n + 1) cap)).tmps.size := by
    have : d5 < a.tmps.size := by rw [hS.size]; exact b5
    simpa [Act.put] using this
  obtain ⟨a1, ha1⟩ : ∃ a1, a1 = a.put (some d4) (.slice (some ⟨g, 0, none⟩) (n + 1) cap) := ⟨_, rfl⟩
  obtain ⟨a2, ha2⟩ : ∃ a2, a2 = a1.put (some d5) (.pointer (some ⟨g, n * z, none⟩)) := ⟨_, rfl⟩
  have v1 : a1.eval (.tmp d4) = .slice (some ⟨g, 0, none⟩) (n + 1) cap := by rw [ha1]; exact Act.eval_put_same hd4
  have v2 : a1.eval ix = .int j n := by rw [ha1, Act.eval_put_ne n1, e3']
  have v3 : a2.eval (.tmp d5) = .pointer (some ⟨g, n * z, none⟩) := by rw [ha2]; exact Act.eval_put_same (by rw [ha1]; exact hd5)
  have v4 : a2.eval y = a.eval y := by rw [ha2, Act.eval_put_ne n3, ha1, Act.eval_put_ne n2]
  have v5 : a1.eval b = .pointer (some ⟨gb, 0, none⟩) := by rw [ha1, Act.eval_put_ne n4, ebv]
  have v6 : a2.eval b = .pointer (some ⟨gb, 0, none⟩) := by rw [ha2, Act.eval_put_ne n5, v5]
  have v7 : a2.eval (.tmp d4) = .slice (some ⟨g, 0, none⟩) (n + 1) cap := by rw [ha2, Act.eval_put_ne (by intro hh; cases hh; exact n6 rfl), v1]
  obtain ⟨c, hc⟩ : ∃ c, c = (cur.toList.take (n * z) ++ (a.eval y).cells.toList ++ cur.toList.drop (n * z + z)).toArray := ⟨_, rfl⟩
  obtain ⟨bb, hbb⟩ : ∃ bb, bb = (bs.toList.take 0 ++ (Value.slice (some ⟨g, 0, none⟩) (n + 1) cap).cells.toList ++ bs.toList.drop (0 + 1)).toArray := ⟨_, rfl⟩
  have nd5 : ∀ c, o5.op ≠ .defer c := fun c hc => by rw [p5] at hc; cases hc
  have nd6 : ∀ c, o6.op ≠ .defer c := fun c hc => by rw [p6] at hc; cases hc
  have nd7 : ∀ c, o7.op ≠ .defer c := fun c hc => by rw [p7] at hc; cases hc
  have R5 : ∀ w, (execOp a1.eval o5).run P w = .ok (.value (.pointer (some ⟨g, n * z, none⟩))) w := fun w => by
    have hr : (0 : Int) ≤ n ∧ (n : Int) < ((n + 1 : Nat) : Int) := by omega
    simp [execOp, p5, v1, v2, Instr.indexAt, asIntOf, run_underlying (elOf_spec ht5), run_sizeOf hsz, hr.1, hr.2, Addr.add_lit]
  have R6 : ∀ w, w.heap[g]? = some (.cells cur e (0, 0)) → (execOp a2.eval o6).run P w = .ok .skip (w.setRow g c) := fun w hw => by
    rw [hc]
    exact run_op_store p6 v3 v4 hsz (l1.trans hvz) hw f2 hone
  have R7 : ∀ (a : Act) (w : World), a.eval b = .pointer (some ⟨gb, 0, none⟩) → a.eval (.tmp d4) = .slice (some ⟨g, 0, none⟩) (n + 1) cap → w.heap[gb]? = some (.cells bs tb (0, 0)) → (execOp a.eval o7).run P w = .ok .skip (w.setRow gb bb) := fun a w ha1 ha2 hw => by
    rw [hbb]
    exact run_op_store p7 ha1 ha2 ht7 rfl hw (by omega) (fun c hc => by
      have : c = .slice (some ⟨g, 0, none⟩) (n + 1) cap := by simpa [Value.cells] using hc
      rw [this]
      rfl)
  -- the end
  have fin : Q .normal a2 ((w1.setRow g c).setRow gb bb) := by
    have z1 := hS.put (d := some d4) k6 k5 k4 k7
    rw [hS.st, ← ha1] at z1
    have z2 := z1.put (d := some d5) (Ev.refl D) k5 (k4.trans (by rw [hS.st])) (R.dead (C := D) (v := .pointer (some ⟨g, n * z, none⟩)))
    rw [← ha2] at z2
    obtain ⟨F, hF⟩ : ∃ F, F = ((A.app (some d4) ⟨.sl (es ++ [A.ev y]) (.own id), [(id, .tip e z (n + 1))]⟩).app (some d5) ⟨.dead, []⟩) := ⟨_, rfl⟩
    have z3 : Sim B D F a2 := by rw [hF]; exact z2
    rw [← hF] at hK
    have y1 : F.ev b = .pt jd 0 := by
      rw [← hb, hF]
      exact (St.ev_put (d := some d5) (fun t ht => by cases ht; exact n5)).trans (St.ev_put (d := some d4) (fun t ht => by cases ht; exact n4))
    have y2 : F.ev (.tmp d4) = .sl (es ++ [A.ev y]) (.own id) := by
      rw [hF]
      refine (St.ev_put (d := some d5) (fun t ht => by cases ht; intro hh; cases hh; exact n6 rfl)).trans ?_
      show (A.s.set d4 _).getD d4 .dead = _
      simp [List.getD, b4]
    have y3 : F.st jd = .box [x0] := by
      rw [hF]
      show wrs (wrs A.st [(id, .tip e z (n + 1))]) [] jd = _
      rw [← hj]
      simp [wrs, upd, nj]
    have hstep := step_store (P := P) (o := o7) (ev := F.ev) (cs := [x0]) p7 y1 ht7 (by rw [y2]; rfl) (by rw [y2]; rfl) (by simp) D a2.eval k5 (fun x _ => z3.ev x) (fun p hp => by
      have : p = (jd, .box [x0]) := by simpa using hp
      subst this
      rw [z3.st]
      exact y3)
    rw [y2, R7 a2 D.w v6 v7 (by rw [f5, ← hc]; exact (setRow_other _ _ _ _ hne).trans hgb1), f5, ← hc] at hstep
    obtain ⟨D', e1', e2'', e3'', e4'', e5''⟩ := hstep
    rw [← e1']
    refine hK D' a2 ?_ (k6.trans e4'')
    rw [z3.st] at e2''
    exact z3.put (d := none) e4'' e3'' e2'' e5''
  refine Region.one r0 (raw_op h4 g4 (fun c hc => by rw [p4] at hc; cases hc) (run_op_append p4 k1) ?_)
  rw [q4, ← ha1]
  refine Region.two r1 (raw_op h5 g5 nd5 (R5 w1) ?_) (raw_skip h7 g7 nd7 (R7 a1 w1 v5 v1 hgb1) ?_)
  · rw [q5, ← ha2]
    refine Region.two r2 (raw_skip h6 g6 nd6 (R6 w1 f1) ?_) (raw_skip h7 g7 nd7 (R7 a2 w1 v6 v7 hgb1) ?_)
    · rw [q6]
      refine Region.one r4 (raw_skip h7 g7 nd7 (R7 a2 _ v6 v7 ((setRow_other _ _ _ _ hne).trans hgb1)) ?_)
      rw [q7]
      exact Region.none r7 fin
    · rw [q7]
      refine Region.one r5 (raw_skip h6 g6 nd6 (R6 _ ((setRow_other _ _ _ _ (Ne.symm hne)).trans f1)) ?_)
      rw [q6, setRow_comm _ _ _ hne]
      exact Region.none r8 fin
  · rw [q7]
    refine Region.one r3 (raw_op h5 g5 nd5 (R5 _) ?_)
    rw [q5, show (a1.put none undef) = a1 from rfl, ← ha2]
    refine Region.one r6 (raw_skip h6 g6 nd6 (R6 _ ((setRow_other _ _ _ _ (Ne.symm hne)).trans f1)) ?_)
    rw [q6, setRow_comm _ _ _ hne]
    exact Region.none r9 fin
/-- The rule of a walk: the region is evaluated up to the append; the last store puts the slice into a box. -/
theorem AWp.takeE {Kp : Option Nat → Prop} {P : Program} {st0 : Nat → Ent} {Q : Exit → St → Prop} {N rid : Nat} {o0 o1 o2 o3 : Oper} {k' : Nat} {s0 s' : List (Nat × V)} {l l' : List Ent} {acc' : List (Nat × List Nat × List Nat)}
    {s x ix y b : Operand} {t tx t5 t7 e e2 y4 y5 y6 y7 : TypeId} {c4 c5 c6 c7 : String} {a4 a5 a6 a7 : Array Edge} {d4 d5 id jd n z : Nat} {es ys : List V} {x0 vy : V} {k : Slk} {j : IntKind}
    (hm : P.follows .mixedOrders = true)
    (hk : headK #[o0, o1, o2, o3, ⟨some d4, .call { callee := .builtin .append, args := #[s, x], argTypes := #[t, tx] }, y4, c4, a4, none⟩, ⟨some d5, .indexAddr t5 (.tmp d4) ix, y5, c5, a5, none⟩, ⟨none, .store e (.tmp d5) y, y6, c6, a6, none⟩, ⟨none, .store t7 b (.tmp d4), y7, c7, a7, none⟩] 4 = true)
    (hr : takeR #[o0, o1, o2, o3, ⟨some d4, .call { callee := .builtin .append, args := #[s, x], argTypes := #[t, tx] }, y4, c4, a4, none⟩, ⟨some d5, .indexAddr t5 (.tmp d4) ix, y5, c5, a5, none⟩, ⟨none, .store e (.tmp d5) y, y6, c6, a6, none⟩, ⟨none, .store t7 b (.tmp d4), y7, c7, a7, none⟩] (headT #[o0, o1, o2, o3, ⟨some d4, .call { callee := .builtin .append, args := #[s, x], argTypes := #[t, tx] }, y4, c4, a4, none⟩, ⟨some d5, .indexAddr t5 (.tmp d4) ix, y5, c5, a5, none⟩, ⟨none, .store e (.tmp d5) y, y6, c6, a6, none⟩, ⟨none, .store t7 b (.tmp d4), y7, c7, a7, none⟩] 4) = true)
    (h : evX P N #[o0, o1, o2, o3, ⟨some d4, .call { callee := .builtin .append, args := #[s, x], argTypes := #[t, tx] }, y4, c4, a4, none⟩, ⟨some d5, .indexAddr t5 (.tmp d4) ix, y5, c5, a5, none⟩, ⟨none, .store e (.tmp d5) y, y6, c6, a6, none⟩, ⟨none, .store t7 b (.tmp d4), y7, c7, a7, none⟩] true [o0, o1, o2, o3] 0 s0 l [] = .at_ [] k' s' l' acc')
    (hc : chkR #[o0, o1, o2, o3, ⟨some d4, .call { callee := .builtin .append, args := #[s, x], argTypes := #[t, tx] }, y4, c4, a4, none⟩, ⟨some d5, .indexAddr t5 (.tmp d4) ix, y5, c5, a5, none⟩, ⟨none, .store e (.tmp d5) y, y6, c6, a6, none⟩, ⟨none, .store t7 b (.tmp d4), y7, c7, a7, none⟩] acc'.reverse = true)
    (n1 : ix ≠ .tmp d4) (n2 : y ≠ .tmp d4) (n3 : y ≠ .tmp d5) (n4 : b ≠ .tmp d4) (n5 : b ≠ .tmp d5) (n6 : d4 ≠ d5) (b4 : d4 < N) (b5 : d5 < N) (nj : jd ≠ id)
    (hst : ofl l' id = .tip e z n) (ht : elOf P t = some e) (ht5 : elOf P t5 = some e) (hap : apOk P e n 1 = some z) (hsz : szOf P e = some z) (hs : St.ev ⟨dn N s', ofl l'⟩ s = .sl es (.own id)) (hn : es.length = n)
    (hx : St.ev ⟨dn N s', ofl l'⟩ x = .sl ys k) (hx1 : ys.length = 1) (hx2 : elOf P tx = some e2) (hx3 : allZ z ys = true) (hi : St.ev ⟨dn N s', ofl l'⟩ ix = .im (.int j n)) (hy : St.ev ⟨dn N s', ofl l'⟩ y = vy) (hv : vy.live = true) (hvz : vy.size = z)
    (hb : St.ev ⟨dn N s', ofl l'⟩ b = .pt jd 0) (hj : ofl l' jd = .box [x0]) (ht7 : szOf P t7 = some 1)
    (hQ : Q .normal ⟨dn N (putA (putA s' (some d4) (.sl (es ++ [vy]) (.own id))) (some d5) .dead), ofl (wrl (wrl l' [(id, .tip e z (n + 1))]) [(jd, .box [.sl (es ++ [vy]) (.own id)])])⟩) :
    AWpK Kp P st0 (.region rid #[o0, o1, o2, o3, ⟨some d4, .call { callee := .builtin .append, args := #[s, x], argTypes := #[t, tx] }, y4, c4, a4, none⟩, ⟨some d5, .indexAddr t5 (.tmp d4) ix, y5, c5, a5, none⟩, ⟨none, .store e (.tmp d5) y, y6, c6, a6, none⟩, ⟨none, .store t7 b (.tmp d4), y7, c7, a7, none⟩] true) Q ⟨dn N s0, ofl l⟩ := by
  have hA := AR.ev (dr := true) (Q := fun F : St => F = ⟨dn N s', ofl l'⟩) (evX_eq ▸ h) (AR.endD hc rfl)
  refine AWp.regionH (l1 := [o0, o1, o2, o3]) (l2 := [_, _, _, _]) (fun F => F = ⟨dn N s', ofl l'⟩) hm hk hA ?_
  rintro F rfl C0 C a ro m hE hS
  have hl : (dn N s').length = N := dn_length ..
  refine any_take (A := ⟨dn N s', ofl l'⟩) (s := s) (x := x) (ix := ix) (y := y) (b := b) (t := t) (tx := tx) (t5 := t5) (t7 := t7) (e := e) (d4 := d4) (d5 := d5) (id := id) (jd := jd) (n := n) (z := z) hr rfl rfl rfl rfl rfl rfl rfl rfl rfl rfl rfl rfl rfl rfl rfl rfl n1 n2 n3 n4 n5 n6 (by rw [hl]; exact b4) (by rw [hl]; exact b5) nj hst ht ht5 hap hsz hs hn hx hx1 hx2 hx3 hi (by rw [hy]; exact hv) (by rw [hy]; exact hvz) hb hj ht7 hS (fun D a' hS' hE' => ?_)
  rw [hy] at hS'
  refine ⟨_, D, hQ, ?_, rfl, hE.trans hE'⟩
  have e1 : (((St.app ⟨dn N s', ofl l'⟩ (some d4) ⟨.sl (es ++ [vy]) (.own id), [(id, .tip e z (n + 1))]⟩).app (some d5) ⟨.dead, []⟩).app none ⟨.dead, [(jd, .box [.sl (es ++ [vy]) (.own id)])]⟩) = ⟨dn N (putA (putA s' (some d4) (.sl (es ++ [vy]) (.own id))) (some d5) .dead), ofl (wrl (wrl l' [(id, .tip e z (n + 1))]) [(jd, .box [.sl (es ++ [vy]) (.own id)])])⟩ := by
    simp only [St.app, ofl_wrl]
    rw [show (St.put ⟨dn N s', ofl l'⟩ (some d4) (.sl (es ++ [vy]) (.own id))).s = dn N (putA s' (some d4) (.sl (es ++ [vy]) (.own id))) by rw [put_dn]]
    rw [show (St.put ⟨dn N (putA s' (some d4) (.sl (es ++ [vy]) (.own id))), wrs (ofl l') [(id, .tip e z (n + 1))]⟩ (some d5) .dead).s = dn N (putA (putA s' (some d4) (.sl (es ++ [vy]) (.own id))) (some d5) .dead) by rw [put_dn]]
    rfl
  rw [e1] at hS'
  exact hS'
end Go.Proofs.YtchjncoadhigmaaGreatDoor
