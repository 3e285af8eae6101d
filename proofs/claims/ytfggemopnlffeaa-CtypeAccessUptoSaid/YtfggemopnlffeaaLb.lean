/- Operations on trees: what each yields ('evO'), and that the model yields the same. -/
import Derived.Test.YtfggemopnlffeaaLa
import Derived.Deep.AppendSrc
import Derived.Laws.Slices
import Derived.Laws.BytesString
import Derived.Laws.IdiomStrings
import Derived.Laws.CopyRow
import Derived.Laws.StructEq

namespace Go.Proofs.Ytfggemopnlffeaa
set_option linter.unusedSimpArgs false
set_option linter.unusedVariables false
set_option linter.unnecessarySimpa false
open Go.RowKit

section
variable {P : Program} {o : Oper} {ev : Operand → V}
/-- An operation that only looks. -/
theorem Step.look {fp : List (Nat × Ent)} {v : V} (h : ∀ (C : Cf) (ρ : Operand → Value), Ok C → (∀ x ∈ o.op.operands, R C (ev x) (ρ x)) → (∀ p ∈ fp, C.st p.1 = p.2) → ∃ u, (execOp ρ o).run P C.w = .ok (.value u) C.w ∧ R C v u) : Step P o ev fp ⟨v, []⟩ := by
  intro C ρ hC hx hf
  obtain ⟨u, h1, h2⟩ := h C ρ hC hx hf
  rw [h1]
  exact ⟨C, rfl, rfl, hC, Ev.refl C, h2⟩

def V.isAg : V → Bool
  | .ag _ => true
  | _ => false
theorem V.isAg_eq {x : V} (h : x.isAg = true) : x = .ag x.cells := by cases x <;> first | rfl | cases h

/-! #### values of one cell -/
def bin2 (P : Program) (op : BinOp) (t : TypeId) : Value → Value → Option Value
  | .int k a, .int k' b => match op with
    | .shl => if b < 0 then none else some (.int k (k.wrap (a * 2 ^ (min b.toNat k.bits))))
    | .shr => if b < 0 then none else some (.int k (a.fdiv (2 ^ (min b.toNat k.bits))))
    | .add => if k = k' then some (.int k (k.wrap (a + b))) else none
    | .sub => if k = k' then some (.int k (k.wrap (a - b))) else none
    | .mul => if k = k' then some (.int k (k.wrap (a * b))) else none
    | .quo => if k = k' then (if b = 0 then none else some (.int k (k.wrap (a.tdiv b)))) else none
    | .rem => if k = k' then (if b = 0 then none else some (.int k (a.tmod b))) else none
    | .and => if k = k' then some (.int k (k.wrap (BitVec.ofInt k.bits a &&& BitVec.ofInt k.bits b).toNat)) else none
    | .or => if k = k' then some (.int k (k.wrap (BitVec.ofInt k.bits a ||| BitVec.ofInt k.bits b).toNat)) else none
    | .xor => if k = k' then some (.int k (k.wrap (BitVec.ofInt k.bits a ^^^ BitVec.ofInt k.bits b).toNat)) else none
    | .andNot => if k = k' then some (.int k (k.wrap (BitVec.ofInt k.bits a &&& ~~~BitVec.ofInt k.bits b).toNat)) else none
    | .eql => if k = k' then some (.bool (decide (a = b))) else none
    | .neq => if k = k' then some (.bool (!decide (a = b))) else none
    | .lss => if k = k' then some (.bool (a < b)) else none
    | .leq => if k = k' then some (.bool (a ≤ b)) else none
    | .gtr => if k = k' then some (.bool (a > b)) else none
    | .geq => if k = k' then some (.bool (a ≥ b)) else none
  | .string a, .string b => match op with
    | .add => if a.size + b.size ≤ 9223372036854775807 then some (.string (a ++ b)) else none
    | .eql => some (.bool (a.toList == b.toList))
    | .neq => some (.bool !(a.toList == b.toList))
    | .lss => some (.bool (Op.bytesLess a.toList b.toList))
    | .leq => some (.bool (Op.bytesLess a.toList b.toList || (a.toList == b.toList)))
    | .gtr => some (.bool !(Op.bytesLess a.toList b.toList || (a.toList == b.toList)))
    | .geq => some (.bool !(Op.bytesLess a.toList b.toList))
    | _ => none
  | .bool a, .bool b => match P.underlying t with
    | some .bool => match op with
      | .eql => some (.bool (a == b))
      | .neq => some (.bool !(a == b))
      | _ => none
    | _ => none
  | _, _ => none
theorem int_beq (a b : Int) : (a == b) = decide (a = b) := rfl
theorem int_bne (a b : Int) : (a != b) = !decide (a = b) := rfl
theorem eqGuard_int {op : BinOp} {t : TypeId} {x y : Operand} {k : IntKind} {a : Int} {b : Value} {w : World} : (eqGuard op t x y (.int k a) b).run P w = .ok () w := by cases op <;> rfl
theorem eqGuard_str {op : BinOp} {t : TypeId} {x y : Operand} {a : ByteArray} {b : Value} {w : World} : (eqGuard op t x y (.string a) b).run P w = .ok () w := by cases op <;> rfl
theorem eqGuard_bool {op : BinOp} {t : TypeId} {x y : Operand} {a : Bool} {b : Value} {w : World} : (eqGuard op t x y (.bool a) b).run P w = .ok () w := by cases op <;> rfl
theorem bin2_sound {op : BinOp} {t : TypeId} {a b v : Value} (h : bin2 P op t a b = some v) (w : World) : (∀ x y, (eqGuard op t x y a b).run P w = .ok () w) ∧ (binOp op t a b).run P w = .ok v w ∧ v.oneCell' = true := by
  unfold bin2 at h
  split at h
  · rename_i k a k' b
    refine ⟨fun _ _ => eqGuard_int, ?_⟩
    cases op <;> simp only at h <;> (try (split at h <;> try (cases h; done))) <;> (try (split at h <;> try (cases h; done))) <;> (try cases h) <;> (try subst_vars) <;>
      simp_all [binOp, Op.shift, Op.intArith, Op.intDiv, Op.intBits, Op.intCmp, Value.oneCell', int_beq, int_bne]
    all_goals (intro h9; omega)
  · rename_i a b
    refine ⟨fun _ _ => eqGuard_str, ?_⟩
    cases op <;> simp only at h <;> (try (split at h <;> try (cases h; done))) <;> (try cases h) <;>
      simp_all [binOp, Op.stringOp, Value.oneCell']
    all_goals omega
  · rename_i a b
    refine ⟨fun _ _ => eqGuard_bool, ?_⟩
    split at h
    · rename_i hu
      have h3 := run_equal_bool (P := P) w t a b hu
      cases op <;> simp only at h <;> (try (cases h; done)) <;> cases h <;> simp [binOp, h3, Value.oneCell']
    · cases h
  · cases h
theorem R.im_eq {C : Cf} {a v : Value} (h : R C (.im a) v) : v = a := by cases h; rfl
theorem step_bin {op : BinOp} {t u : TypeId} {x y : Operand} {a b v : Value} (ho : o.op = .binOp op t x y u) (hx : ev x = .im a) (hy : ev y = .im b) (h : bin2 P op t a b = some v) : Step P o ev [] ⟨.im v, []⟩ :=
  Step.look fun C ρ _ hR _ => by
    have h1 := hR x (by simp [ho, Op.operands])
    have h2 := hR y (by simp [ho, Op.operands])
    rw [hx] at h1
    rw [hy] at h2
    have e1 : ρ x = a := h1.im_eq
    have e2 : ρ y = b := h2.im_eq
    obtain ⟨h3, h4, h5⟩ := bin2_sound h C.w
    refine ⟨v, ?_, .im h5⟩
    simp only [execOp, ho, e1, e2, Sem.run_bind, h3, Result.andThen_ok, h4, Sem.run_pure]
def un1 (op : UnOp) : Value → Option Value
  | .int k n => match op with
    | .neg => some (.int k (k.wrap (0 - n)))
    | .xor => some (.int k (k.wrap (BitVec.ofInt k.bits (if k.signed then -1 else k.max) ^^^ BitVec.ofInt k.bits n).toNat))
    | _ => none
  | .bool b => match op with
    | .not => some (.bool !b)
    | _ => none
  | _ => none
theorem step_un {op : UnOp} {t : TypeId} {x : Operand} {a v : Value} (ho : o.op = .unOp op t x) (hx : ev x = .im a) (h : un1 op a = some v) : Step P o ev [] ⟨.im v, []⟩ :=
  Step.look fun C ρ _ hR _ => by
    have h1 := hR x (by simp [ho, Op.operands])
    rw [hx] at h1
    have e1 : ρ x = a := h1.im_eq
    have h2 : (Op.unary op a).run P C.w = .ok v C.w ∧ v.oneCell' = true := by
      unfold un1 at h
      split at h
      · cases op <;> simp only at h <;> (try (cases h; done)) <;> cases h <;> simp [Op.unary, Op.intArith, Op.intBits, Value.oneCell']
      · cases op <;> simp only at h <;> (try (cases h; done)) <;> cases h <;> simp [Op.unary, Value.oneCell']
      · cases h
    refine ⟨v, ?_, .im h2.2⟩
    simp only [execOp, ho, e1, Sem.run_bind, h2.1]
    rfl
def inOf (P : Program) (t : TypeId) : Option IntKind := match P.underlying t with | some (.int k) => some k | _ => none
theorem step_conv {s d : TypeId} {x : Operand} {k k' : IntKind} {j : IntKind} {n : Int} (ho : o.op = .convert s d x) (hx : ev x = .im (.int j n)) (hs : inOf P s = some k') (hd : inOf P d = some k) : Step P o ev [] ⟨.im (.int k (k.wrap n)), []⟩ :=
  Step.look fun C ρ _ hR _ => by
    have h1 := hR x (by simp [ho, Op.operands])
    rw [hx] at h1
    have e1 : ρ x = .int j n := h1.im_eq
    have u1 : P.underlying s = some (.int k') := by
      unfold inOf at hs
      split at hs
      · rename_i hu; rw [hu]; cases hs; rfl
      · cases hs
    have u2 : P.underlying d = some (.int k) := by
      unfold inOf at hd
      split at hd
      · rename_i hu; rw [hu]; cases hd; rfl
      · cases hd
    refine ⟨_, ?_, .im rfl⟩
    simp [execOp, ho, e1, convert, run_underlying u1, run_underlying u2, Conv.intToInt]

/-! #### moves -/
theorem step_move {x : Operand} (ho : o.op = .move x ∨ o.op = .assign x) : Step P o ev [] ⟨ev x, []⟩ :=
  Step.look fun C ρ _ hR _ => by
    refine ⟨ρ x, ?_, hR x ?_⟩ <;> rcases ho with ho | ho <;> simp [execOp, ho, Op.operands]
theorem step_pick {c a b : Operand} {t : Bool} (ho : o.op = .pick c a b) (hc : ev c = .im (.bool t)) : Step P o ev [] ⟨cond t (ev a) (ev b), []⟩ :=
  Step.look fun C ρ _ hR _ => by
    have h1 := hR c (by simp [ho, Op.operands])
    rw [hc] at h1
    have e1 := h1.of_some_bool
    refine ⟨if t then ρ a else ρ b, ?_, ?_⟩
    · simp [execOp, ho, e1, asBool]
    · cases t
      · exact hR b (by simp [ho, Op.operands])
      · exact hR a (by simp [ho, Op.operands])
theorem step_extract {x : Operand} {i : Nat} {vs : List V} {v : V} (ho : o.op = .extract x i) (hx : ev x = .tu vs) (hv : vs[i]? = some v) : Step P o ev [] ⟨v, []⟩ :=
  Step.look fun C ρ _ hR _ => by
    have h1 := hR x (by simp [ho, Op.operands])
    rw [hx] at h1
    generalize hu : ρ x = u at h1
    cases h1 with
    | tu hn h =>
      obtain ⟨hi, hv⟩ := List.getElem?_eq_some_iff.1 hv
      have h2 := h i hi
      rw [hv] at h2
      refine ⟨_, ?_, h2⟩
      have : i < ‹Array Value›.size := by omega
      simp [execOp, ho, hu, Instr.extract, this]
theorem step_makeFunc {fn : Fn} {fs cs : Array Operand} (ho : o.op = .makeFunc fn fs cs) : Step P o ev [] ⟨.fn fn (fs.toList.map ev) (cs.toList.map ev), []⟩ :=
  Step.look fun C ρ _ hR _ => by
    refine ⟨.func fn (fs.map ρ) (cs.map ρ), by simp [execOp, ho, Instr.makeFunc], .fn (by simp) (by simp) (fun i hi => ?_) (fun i hi => ?_)⟩
    · have : i < fs.size := by simpa using hi
      simpa [this] using hR fs[i] (by simp [ho, Op.operands])
    · have : i < cs.size := by simpa using hi
      simpa [this] using hR cs[i] (by simp [ho, Op.operands])
theorem step_nilCheck {x : Operand} (ho : o.op = .nilCheck x) (h : (∃ id off, ev x = .pt id off) ∨ (∃ y off, ev x = .ep y off) ∨ ∃ f xs ys, ev x = .fn (.func f) xs ys) : Step P o ev [] ⟨ev x, []⟩ :=
  Step.look fun C ρ _ hR _ => by
    have h1 := hR x (by simp [ho, Op.operands])
    refine ⟨ρ x, ?_, h1⟩
    rcases h with ⟨id, off, h⟩ | ⟨y, off, h⟩ | ⟨f, xs, ys, h⟩ <;> rw [h] at h1 <;> generalize hu : ρ x = u at h1 <;> cases h1 <;> simp [execOp, ho, hu]

/-! #### boxes -/
/-- The cells of a new variable. -/
def alOf (P : Program) (t : TypeId) : Option (List V) := (zrOf P t).bind fun z => if z.cells.all Value.oneCell' then some (z.cells.toList.map V.ofCell) else none
theorem good_new {C : Cf} (hC : Ok C) {id : Nat} (hf : C.st id = .free) {bs : Array Value} {cs : List V} (t : TypeId) (hn : cs.length ≤ bs.size) (h1 : ∀ j, j < cs.length → (bs.getD j undef).oneCell' = true)
    (h : ∀ j (hj : j < cs.length), R C cs[j] (bs.getD j undef)) : Good C (wrs C.st [(id, .box cs)]) (.pt id 0) (C.w.alloc (.cells bs t)) (.pointer (some ⟨C.w.heap.size, 0, none⟩)) :=
  ⟨C.newId id (.cells bs t) (.box cs), rfl, rfl, hC.newId hf (fun cs' e => by cases e; exact ⟨bs, t, rfl, hn, h1, h⟩) (fun _ _ _ e => by cases e) (fun _ _ e => by cases e), Ev.newId hf,
    .pt (cs := cs) (by simp [Cf.newId]) (by simp [Cf.newId, upd])⟩
theorem run_newVar (t : TypeId) (v : Value) (w : World) : (newVar t v).run P w = .ok ⟨w.heap.size, 0, none⟩ (w.alloc (.cells v.cells t)) := by
  rfl
theorem step_alloc {t : TypeId} {id : Nat} {cs : List V} (ho : o.op = .alloc t) (h : alOf P t = some cs) : Step P o ev [(id, .free)] ⟨.pt id 0, [(id, .box cs)]⟩ := by
  intro C ρ hC _ hf
  have hf' : C.st id = .free := hf (id, .free) (by simp)
  unfold alOf at h
  cases hz : zrOf P t with
  | none => rw [hz] at h; cases h
  | some z =>
    rw [hz] at h
    simp only [Option.bind_some] at h
    split at h
    · rename_i hall
      cases h
      have hr : (execOp ρ o).run P C.w = .ok (.value (.pointer (some ⟨C.w.heap.size, 0, none⟩))) (C.w.alloc (.cells z.cells t)) := by
        simp only [execOp, ho, Instr.alloc, Sem.run_bind, run_zeroValue hz, Result.andThen_ok, run_newVar, Sem.run_pure]
      rw [hr]
      refine good_new hC hf' t (by simp) (fun j hj => ?_) (fun j hj => ?_)
      · have hj' : j < z.cells.size := by simpa using hj
        simpa [hj'] using Array.all_eq_true.1 hall j hj'
      · have hj' : j < z.cells.size := by simpa using hj
        simp only [List.getElem_map, Array.getElem_toList, Array.getD, hj', dite_true]
        exact .ofCell _
    · cases h
theorem step_box {t : TypeId} {id : Nat} {x : Operand} (ho : o.op = .box t x) (hl : (ev x).live = true) : Step P o ev [(id, .free)] ⟨.pt id 0, [(id, .box (ev x).cells)]⟩ := by
  intro C ρ hC hR hf
  have hf' : C.st id = .free := hf (id, .free) (by simp)
  obtain ⟨h1, h2⟩ := (hR x (by simp [ho, Op.operands])).live hl
  have hr : (execOp ρ o).run P C.w = .ok (.value (.pointer (some ⟨C.w.heap.size, 0, none⟩))) (C.w.alloc (.cells (ρ x).cells t)) := by
    simp only [execOp, ho, Instr.box, Sem.run_bind, run_newVar, Result.andThen_ok, Sem.run_pure]
  rw [hr]
  exact good_new hC hf' t (Nat.le_of_eq h1.symm) (fun j hj => (h2 j hj).1) (fun j hj => (h2 j hj).2)

/-- The cells cs lie in box id; the rest is as it was. -/
def seg (cs : List V) (off : Nat) (xs : List V) : List V := cs.take off ++ xs ++ cs.drop (off + xs.length)
theorem getElem?_seg {α : Type} {bs us : List α} {off j : Nat} (h : off + us.length ≤ bs.length) : (bs.take off ++ us ++ bs.drop (off + us.length))[j]? = if j < off then bs[j]? else if j < off + us.length then us[j - off]? else bs[j]? := by
  have hm : min off bs.length = off := by omega
  simp only [List.getElem?_append, List.length_append, List.length_take, hm, List.getElem?_drop, List.getElem?_take]
  by_cases h1 : j < off
  · simp [h1]; omega
  · by_cases h2 : j < off + us.length
    · simp [h1, h2]
    · simp only [h1, h2, if_false]
      congr 1
      omega
theorem step_store {t : TypeId} {z id off : Nat} {a x : Operand} {cs : List V} (ho : o.op = .store t a x) (ha : ev a = .pt id off) (hz : szOf P t = some z) (hl : (ev x).live = true) (hs : (ev x).size = z) (hf : off + z ≤ cs.length) :
    Step P o ev [(id, .box cs)] ⟨.dead, [(id, .box (seg cs off (ev x).cells))]⟩ := by
  intro C ρ hC hR hfp
  have hb : C.st id = .box cs := hfp (id, .box cs) (by simp)
  have h1 := hR a (by simp [ho, Op.operands])
  obtain ⟨h2, h3⟩ := (hR x (by simp [ho, Op.operands])).live hl
  rw [ha] at h1
  generalize hu : ρ a = u at h1
  generalize hvx : ρ x = vx at h2 h3
  cases h1 with
  | @pt _ _ g cs' hg _ =>
    obtain ⟨g', bs, ty, k1, k2, k3, k4, k5⟩ := hC.box id cs hb
    obtain rfl : g = g' := Option.some.inj (hg.symm.trans k1)
    have hsz : (ev x).cells.length = z := hs
    have hone : ∀ c ∈ vx.cells.toList, c.oneCell' = true := fun c hc => by
      obtain ⟨j, hj, rfl⟩ := List.getElem_of_mem hc
      have hj' : j < vx.cells.size := by simpa using hj
      have := (h3 j (by rw [hsz, ← hs, ← h2]; exact hj')).1
      simpa [hj'] using this
    have hr := run_storeVar (P := P) (w := C.w) (t := t) (v := vx) (o := off) (bs := bs) hz (h2.trans hs) k2 (by omega) hone
    have hlen : vx.cells.toList.length = z := by simpa using h2.trans hs
    have hrun : (execOp ρ o).run P C.w = .ok .skip (C.w.setRow g (bs.toList.take off ++ vx.cells.toList ++ bs.toList.drop (off + z)).toArray) := by
      simp only [execOp, ho, Instr.storeAt, Instr.sureAddr, hu, hvx, Sem.run_bind, Sem.run_pure, Result.andThen_ok, hr]
    rw [hrun]
    have hfit : off + vx.cells.toList.length ≤ bs.toList.length := by rw [hlen]; simp only [Array.length_toList]; omega
    have hfit' : off + (ev x).cells.length ≤ cs.length := by rw [hsz]; exact hf
    have hN : (seg cs off (ev x).cells).length ≤ (bs.toList.take off ++ vx.cells.toList ++ bs.toList.drop (off + z)).toArray.size := by
      have e1 : ((ev x).cells.length : Nat) = z := hsz
      simp [seg, hlen, e1, h2.trans hs]
      omega
    have key : ∀ j (hj : j < (seg cs off (ev x).cells).length), ((bs.toList.take off ++ vx.cells.toList ++ bs.toList.drop (off + z)).toArray.getD j undef).oneCell' = true ∧
        R C (seg cs off (ev x).cells)[j] ((bs.toList.take off ++ vx.cells.toList ++ bs.toList.drop (off + z)).toArray.getD j undef) := by
      intro j hj
      obtain ⟨y, hy⟩ : ∃ y, (seg cs off (ev x).cells)[j] = y := ⟨_, rfl⟩
      have e1 : (seg cs off (ev x).cells)[j]? = some y := by rw [List.getElem?_eq_getElem hj, hy]
      rw [hy]
      have e2 : (bs.toList.take off ++ vx.cells.toList ++ bs.toList.drop (off + z)).toArray.getD j undef = ((bs.toList.take off ++ vx.cells.toList ++ bs.toList.drop (off + z))[j]?).getD undef := by simp [Array.getD_eq_getD_getElem?]
      have hjc : j < cs.length := by
        have : (seg cs off (ev x).cells).length = cs.length := by simp [seg]; omega
        omega
      rw [e2]
      have e3 := getElem?_seg (bs := bs.toList) (us := vx.cells.toList) (off := off) (j := j) hfit
      rw [hlen] at e3
      rw [e3]
      unfold seg at e1
      rw [getElem?_seg hfit', hsz] at e1
      by_cases q1 : j < off
      · rw [if_pos q1] at e1 ⊢
        rw [List.getElem?_eq_getElem hjc] at e1
        rw [← Option.some.inj e1]
        have hjb : j < bs.size := by omega
        have := k4 j hjc
        have h5 := k5 j hjc
        simp only [Array.getD_eq_getD_getElem?, Array.getElem?_eq_getElem hjb, Option.getD_some] at this h5
        simpa [hjb] using ⟨this, h5⟩
      · rw [if_neg q1] at e1 ⊢
        by_cases q2 : j < off + z
        · rw [if_pos q2] at e1 ⊢
          have hjx : j - off < (ev x).cells.length := by omega
          rw [List.getElem?_eq_getElem hjx] at e1
          rw [← Option.some.inj e1]
          have hjv : j - off < vx.cells.size := by rw [h2, hs]; omega
          have := h3 (j - off) hjx
          simpa [hjv] using this
        · rw [if_neg q2] at e1 ⊢
          rw [List.getElem?_eq_getElem hjc] at e1
          rw [← Option.some.inj e1]
          have hjb : j < bs.size := by omega
          have := k4 j hjc
          have h5 := k5 j hjc
          simp only [Array.getD_eq_getD_getElem?, Array.getElem?_eq_getElem hjb, Option.getD_some] at this h5
          simpa [hjb] using ⟨this, h5⟩
    exact ⟨C.setBox id g _ (seg cs off (ev x).cells), rfl, rfl, hC.setBox hb hg k2 hN (fun j hj => (key j hj).1) (fun j hj => (key j hj).2), Ev.setBox hb hg hC, .dead⟩

/-! #### loads -/
theorem step_load_box {t : TypeId} {z id off : Nat} {a : Operand} {cs : List V} (ho : o.op = .load t a) (ha : ev a = .pt id off) (hz : szOf P t = some z) (hg : agOf P t = some true) (hf : off + z ≤ cs.length) :
    Step P o ev [(id, .box cs)] ⟨.ag ((cs.drop off).take z), []⟩ :=
  Step.look fun C ρ hC hR hfp => by
    have hb : C.st id = .box cs := hfp (id, .box cs) (by simp)
    have h1 := hR a (by simp [ho, Op.operands])
    rw [ha] at h1
    generalize hu : ρ a = u at h1
    cases h1 with
    | @pt _ _ g cs' hσ _ =>
      obtain ⟨g', bs, ty, k1, k2, k3, k4, k5⟩ := hC.box id cs hb
      obtain rfl : g = g' := Option.some.inj (hσ.symm.trans k1)
      have hl : ((bs.toList.drop off).take z).length = z := by simp; omega
      have hr := run_loadVar_ag (P := P) (w := C.w) (a := ⟨g, off, none⟩) hz hg hl (fun j v hj => by
        rw [Addr.add_lit]
        rw [List.getElem?_take] at hj
        split at hj
        · simpa [World.cell?, k2] using hj
        · cases hj)
      refine ⟨.agg ((bs.toList.drop off).take z).toArray, by simp only [execOp, ho, Instr.loadAt, Instr.sureAddr, hu, Sem.run_bind, Sem.run_pure, Result.andThen_ok, hr], .ag (by simp; omega) (fun j hj => ?_) (fun j hj => ?_)⟩
      · have hj' : j < z ∧ off + j < cs.length := by simp at hj; omega
        have hb' : off + j < bs.size := by omega
        have := k4 (off + j) hj'.2
        simpa [hj'.1, hb'] using this
      · have hj' : j < z ∧ off + j < cs.length := by simp at hj; omega
        have hb' : off + j < bs.size := by omega
        have := k5 (off + j) hj'.2
        simpa [hj'.1, hb'] using this
theorem step_load_cell {t : TypeId} {id off : Nat} {a : Operand} {cs : List V} {v : V} (ho : o.op = .load t a) (ha : ev a = .pt id off) (hg : agOf P t = some false) (hv : cs[off]? = some v) : Step P o ev [(id, .box cs)] ⟨v, []⟩ :=
  Step.look fun C ρ hC hR hfp => by
    have hb : C.st id = .box cs := hfp (id, .box cs) (by simp)
    have h1 := hR a (by simp [ho, Op.operands])
    rw [ha] at h1
    generalize hu : ρ a = u at h1
    obtain ⟨hoff, hv⟩ := List.getElem?_eq_some_iff.1 hv
    cases h1 with
    | @pt _ _ g cs' hσ _ =>
      obtain ⟨g', bs, ty, k1, k2, k3, k4, k5⟩ := hC.box id cs hb
      obtain rfl : g = g' := Option.some.inj (hσ.symm.trans k1)
      have hb' : off < bs.size := by omega
      have hr := run_loadVar_one (P := P) (w := C.w) (a := ⟨g, off, none⟩) (v := bs.getD off undef) hg (by simp [World.cell?, k2, hb'])
      have h2 := k5 off hoff
      rw [hv] at h2
      exact ⟨bs.getD off undef, by simp only [execOp, ho, Instr.loadAt, Instr.sureAddr, hu, Sem.run_bind, Sem.run_pure, Result.andThen_ok, hr], h2⟩
theorem step_load_ep {t : TypeId} {z off : Nat} {a : Operand} {x : V} (ho : o.op = .load t a) (ha : ev a = .ep x off) (hz : szOf P t = some z) (hg : agOf P t = some true) (hx : x.isAg = true) (hf : off + z ≤ x.size) :
    Step P o ev [] ⟨.ag ((x.cells.drop off).take z), []⟩ :=
  Step.look fun C ρ hC hR _ => by
    have h1 := hR a (by simp [ho, Op.operands])
    rw [ha] at h1
    generalize hu : ρ a = u at h1
    cases h1 with
    | @ep _ _ ad y hy hyz hr =>
      have hl : x.live = true := by rw [V.isAg_eq hx]; rfl
      obtain ⟨h2, h3⟩ := hy.live hl
      have hlen : x.cells.length = x.size := rfl
      have hl : ((y.cells.toList.drop off).take z).length = z := by simp; omega
      have hrun := run_loadVar_ag (P := P) (w := C.w) (a := ad.add off) hz hg hl (fun j v hj => by
        rw [Addr.add_add]
        rw [List.getElem?_take] at hj
        split at hj
        · exact (hr (off + j) v (by simpa using hj)).1
        · cases hj)
      refine ⟨.agg ((y.cells.toList.drop off).take z).toArray, by simp only [execOp, ho, Instr.loadAt, Instr.sureAddr, hu, Sem.run_bind, Sem.run_pure, Result.andThen_ok, hrun], .ag (by simp [h2, ← hlen]) (fun j hj => ?_) (fun j hj => ?_)⟩
      · have hj' : j < z ∧ off + j < x.cells.length := by simp at hj; omega
        have hb' : off + j < y.cells.size := by rw [h2, ← hlen]; exact hj'.2
        have := (h3 (off + j) hj'.2).1
        simpa [hj'.1, hb'] using this
      · have hj' : j < z ∧ off + j < x.cells.length := by simp at hj; omega
        have hb' : off + j < y.cells.size := by rw [h2, ← hlen]; exact hj'.2
        have := (h3 (off + j) hj'.2).2
        simpa [hj'.1, hb'] using this
theorem step_load_whole {t : TypeId} {a : Operand} {x : V} (ho : o.op = .load t a) (ha : ev a = .ep x 0) (hz : szOf P t = some x.size) (hg : agOf P t = some true) (hx : x.isAg = true) : Step P o ev [] ⟨x, []⟩ := by
  have := step_load_ep (P := P) (off := 0) ho ha hz hg hx (by omega)
  have e : x = .ag ((x.cells.drop 0).take x.size) := by
    have h1 : (x.cells.drop 0).take x.size = x.cells := by simp [V.size]
    rw [h1]
    exact V.isAg_eq hx
  rw [e]
  exact this
theorem step_load_ecell {t : TypeId} {off : Nat} {a : Operand} {x v : V} (ho : o.op = .load t a) (ha : ev a = .ep x off) (hg : agOf P t = some false) (hl : x.live = true) (hv : x.cells[off]? = some v) : Step P o ev [] ⟨v, []⟩ :=
  Step.look fun C ρ hC hR _ => by
    have h1 := hR a (by simp [ho, Op.operands])
    rw [ha] at h1
    generalize hu : ρ a = u at h1
    obtain ⟨hoff, hv⟩ := List.getElem?_eq_some_iff.1 hv
    cases h1 with
    | @ep _ _ ad y hy hyz hr =>
      obtain ⟨h2, h3⟩ := hy.live hl
      have hb' : off < y.cells.size := by rw [h2]; exact hoff
      have hrun := run_loadVar_one (P := P) (w := C.w) (a := ad.add off) (v := y.cells.getD off undef) hg (hr off _ (by simp [hb'])).1
      have h4 := (h3 off hoff).2
      rw [hv] at h4
      exact ⟨_, by simp only [execOp, ho, Instr.loadAt, Instr.sureAddr, hu, Sem.run_bind, Sem.run_pure, Result.andThen_ok, hrun], h4⟩

/-! #### addresses -/
theorem flOf_spec {t : TypeId} {f off : Nat} {ft : TypeId} (h : flOf P t f = some (off, ft)) : ∃ fs fl, P.underlying t = some (.struct fs) ∧ fs[f]? = some fl ∧ fl.offset = off ∧ fl.type = ft := by
  unfold flOf at h
  split at h
  · rename_i fs hu
    cases hfl : fs[f]? with
    | none => rw [hfl] at h; cases h
    | some fl => rw [hfl] at h; simp at h; exact ⟨fs, fl, hu, hfl, h.1, h.2⟩
  · cases h
theorem run_fieldAt {t : TypeId} {f off z : Nat} {ft : TypeId} {a : Addr} {w : World} (h : flOf P t f = some (off, ft)) (hz : szOf P ft = some z) (hz0 : z ≠ 0) : (Instr.fieldAt t (.pointer (some a)) f).run P w = .ok (.pointer (some (a.add off))) w := by
  obtain ⟨fs, fl, h1, h2, rfl, rfl⟩ := flOf_spec h
  simp [Instr.fieldAt, run_underlying h1, h2, Instr.sureAddr, fieldPlace, run_sizeOf hz, hz0]
theorem step_fieldAddr {t : TypeId} {f off z id k : Nat} {ft : TypeId} {x : Operand} (ho : o.op = .fieldAddr t x f) (hx : ev x = .pt id k) (h : flOf P t f = some (off, ft)) (hz : szOf P ft = some z) (hz0 : z ≠ 0) : Step P o ev [] ⟨.pt id (k + off), []⟩ :=
  Step.look fun C ρ hC hR _ => by
    have h1 := hR x (by simp [ho, Op.operands])
    rw [hx] at h1
    generalize hu : ρ x = u at h1
    cases h1 with
    | @pt _ _ g cs hσ hb =>
      refine ⟨.pointer (some ⟨g, k + off, none⟩), ?_, .pt hσ hb⟩
      simp only [execOp, ho, hu, Sem.run_bind, run_fieldAt h hz hz0, Result.andThen_ok, Sem.run_pure, Addr.add_lit]
theorem step_fieldAddr_ep {t : TypeId} {f off z k : Nat} {ft : TypeId} {x : Operand} {y : V} (ho : o.op = .fieldAddr t x f) (hx : ev x = .ep y k) (h : flOf P t f = some (off, ft)) (hz : szOf P ft = some z) (hz0 : z ≠ 0) : Step P o ev [] ⟨.ep y (k + off), []⟩ :=
  Step.look fun C ρ hC hR _ => by
    have h1 := hR x (by simp [ho, Op.operands])
    rw [hx] at h1
    generalize hu : ρ x = u at h1
    cases h1 with
    | @ep _ _ ad v hv hz' hr =>
      refine ⟨.pointer (some (ad.add (k + off))), ?_, .ep hv hz' hr⟩
      simp only [execOp, ho, hu, Sem.run_bind, run_fieldAt h hz hz0, Result.andThen_ok, Sem.run_pure, Addr.add_add]
theorem elOf_spec {t e : TypeId} (h : elOf P t = some e) : P.underlying t = some (.slice e) := by
  unfold elOf at h
  split at h
  · rename_i hu; rw [hu]; cases h; rfl
  · cases h
theorem arOf_spec {t e : TypeId} {n : Nat} (h : arOf P t = some (n, e)) : P.underlying t = some (.array n e) := by
  unfold arOf at h
  split at h
  · rename_i hu; rw [hu]; cases h; rfl
  · cases h
theorem step_indexAddr {t e : TypeId} {x i : Operand} {es : List V} {k : Slk} {j : IntKind} {n : Int} {y : V} (ho : o.op = .indexAddr t x i) (hx : ev x = .sl es k) (hi : ev i = .im (.int j n)) (hn : 0 ≤ n) (hy : es[n.toNat]? = some y)
    (he : elOf P t = some e) (hz : szOf P e = some y.size) : Step P o ev [] ⟨.ep y 0, []⟩ :=
  Step.look fun C ρ hC hR _ => by
    have h1 := hR x (by simp [ho, Op.operands])
    have h2 := hR i (by simp [ho, Op.operands])
    rw [hx] at h1
    rw [hi] at h2
    have e2 : ρ i = .int j n := h2.im_eq
    generalize hu : ρ x = u at h1
    obtain ⟨hlt, hy⟩ := List.getElem?_eq_some_iff.1 hy
    cases h1 with
    | @sl _ _ a cap z us hc hm hzs h hr hk =>
      obtain ⟨ad, rfl, hrd⟩ := hr n.toNat hlt
      obtain ⟨z1, z2⟩ := hzs n.toNat hlt
      rw [hy] at z1
      have hel := elOf_spec he
      refine ⟨.pointer (some (ad.add (n.toNat * z))), ?_, ?_⟩
      · have hrange : 0 ≤ n ∧ n < (es.length : Int) := by omega
        simp [execOp, ho, hu, e2, Instr.indexAt, asIntOf, run_underlying hel, run_sizeOf hz, hrange.1, hrange.2, z1]
      · have := R.ep (off := 0) (ad := ad.add (n.toNat * z)) (hy ▸ h n.toNat hlt) (by rw [z2, z1]) hrd
        simpa [Addr.add] using this
theorem step_indexAddr_box {t e : TypeId} {x i : Operand} {id off z len : Nat} {j : IntKind} {n : Int} (ho : o.op = .indexAddr t x i) (hx : ev x = .pt id off) (hi : ev i = .im (.int j n)) (hn : 0 ≤ n ∧ n < len) (he : arOf P t = some (len, e)) (hz : szOf P e = some z) :
    Step P o ev [] ⟨.pt id (off + n.toNat * z), []⟩ :=
  Step.look fun C ρ hC hR _ => by
    have h1 := hR x (by simp [ho, Op.operands])
    have h2 := hR i (by simp [ho, Op.operands])
    rw [hx] at h1
    rw [hi] at h2
    have e2 : ρ i = .int j n := h2.im_eq
    generalize hu : ρ x = u at h1
    cases h1 with
    | @pt _ _ g cs hσ hb =>
      have hel := arOf_spec he
      refine ⟨.pointer (some ⟨g, off + n.toNat * z, none⟩), ?_, .pt hσ hb⟩
      simp [execOp, ho, hu, e2, Instr.indexAt, Instr.sureAddr, asIntOf, run_underlying hel, run_sizeOf hz, hn.1, hn.2, Addr.add_lit]
theorem step_index_str {t : TypeId} {x i : Operand} {s : ByteArray} {j : IntKind} {n : Int} {b : UInt8} (ho : o.op = .index t x i) (hx : ev x = .im (.string s)) (hi : ev i = .im (.int j n)) (hn : 0 ≤ n) (hb : s[n.toNat]? = some b)
    (ht : P.underlying t = some .string) : Step P o ev [] ⟨.im (.int .u8 b.toNat), []⟩ :=
  Step.look fun C ρ hC hR _ => by
    have h1 := hR x (by simp [ho, Op.operands])
    have h2 := hR i (by simp [ho, Op.operands])
    rw [hx] at h1
    rw [hi] at h2
    have e1 : ρ x = .string s := h1.im_eq
    have e2 : ρ i = .int j n := h2.im_eq
    refine ⟨.int .u8 b.toNat, ?_, .im rfl⟩
    simp [execOp, ho, e1, e2, Instr.index, asIntOf, run_underlying ht, hn, hb]
theorem step_field {t ft : TypeId} {f off z : Nat} {x : Operand} (ho : o.op = .field t x f) (hx : (ev x).isAg = true) (h : flOf P t f = some (off, ft)) (hz : szOf P ft = some z) (hg : agOf P ft = some true) (hf : off + z ≤ (ev x).size) :
    Step P o ev [] ⟨.ag (((ev x).cells.drop off).take z), []⟩ :=
  Step.look fun C ρ hC hR _ => by
    have h1 := hR x (by simp [ho, Op.operands])
    have hag := V.isAg_eq hx
    generalize (ev x).cells = cs at hag hf ⊢
    rw [hag] at h1 hf
    generalize hu : ρ x = u at h1
    obtain ⟨fs, fl, k1, k2, rfl, rfl⟩ := flOf_spec h
    cases h1 with
    | @ag _ us hn h1 h0 =>
      have hlen : (V.ag cs).size = cs.length := rfl
      refine ⟨.agg (us.extract fl.offset (fl.offset + z)), ?_, .ag ?_ (fun j hj => ?_) (fun j hj => ?_)⟩
      · simp [execOp, ho, hu, Instr.field, run_underlying k1, k2, asAgg, part, run_isAgg hg, run_sizeOf hz]
      · simp; omega
      · have hj' : j < z ∧ fl.offset + j < cs.length := by simp at hj; omega
        have hb' : fl.offset + j < us.size := by omega
        have hmin : j < min (fl.offset + z) us.size - fl.offset := by omega
        have := h1 (fl.offset + j) hj'.2
        simpa [Array.getElem?_extract, hmin, hb'] using this
      · have hj' : j < z ∧ fl.offset + j < cs.length := by simp at hj; omega
        have hb' : fl.offset + j < us.size := by omega
        have hmin : j < min (fl.offset + z) us.size - fl.offset := by omega
        have := h0 (fl.offset + j) hj'.2
        simpa [Array.getElem?_extract, hmin, hb'] using this
theorem step_field_cell {t ft : TypeId} {f off : Nat} {x : Operand} {v : V} (ho : o.op = .field t x f) (hx : (ev x).isAg = true) (h : flOf P t f = some (off, ft)) (hg : agOf P ft = some false) (hv : (ev x).cells[off]? = some v) : Step P o ev [] ⟨v, []⟩ :=
  Step.look fun C ρ hC hR _ => by
    have h1 := hR x (by simp [ho, Op.operands])
    have hag := V.isAg_eq hx
    generalize (ev x).cells = cs at hag hv
    rw [hag] at h1
    generalize hu : ρ x = u at h1
    obtain ⟨fs, fl, k1, k2, rfl, rfl⟩ := flOf_spec h
    obtain ⟨hlt, hv⟩ := List.getElem?_eq_some_iff.1 hv
    cases h1 with
    | @ag _ us hn h1 h0 =>
      have hb' : fl.offset < us.size := by omega
      have := h0 fl.offset hlt
      rw [hv] at this
      refine ⟨us.getD fl.offset undef, ?_, this⟩
      simp [execOp, ho, hu, Instr.field, run_underlying k1, k2, asAgg, part, run_isAgg hg, hb']

/-! #### lengths -/
theorem step_len_sl {t e : TypeId} {x : Operand} {es : List V} {k : Slk} (ho : o.op = .call { callee := .builtin .len, args := #[x], argTypes := #[t] }) (hx : ev x = .sl es k) (ht : elOf P t = some e) : Step P o ev [] ⟨.im (.int .i64 es.length), []⟩ :=
  Step.look fun C ρ hC hR _ => by
    have h1 := hR x (by simp [ho, Op.operands, Call.operands])
    rw [hx] at h1
    generalize hu : ρ x = u at h1
    cases h1 with
    | sl hc hm hzs h hr hk =>
      have hel := elOf_spec ht
      refine ⟨_, ?_, .im rfl⟩
      simp [execOp, ho, hu, resolve, invoke, builtin, Builtin.len_, run_underlying hel, goInt]
theorem step_len_str {t : TypeId} {x : Operand} {s : ByteArray} (ho : o.op = .call { callee := .builtin .len, args := #[x], argTypes := #[t] }) (hx : ev x = .im (.string s)) (ht : P.underlying t = some .string) : Step P o ev [] ⟨.im (.int .i64 s.size), []⟩ :=
  Step.look fun C ρ hC hR _ => by
    have h1 := hR x (by simp [ho, Op.operands, Call.operands])
    rw [hx] at h1
    have e1 : ρ x = .string s := h1.im_eq
    refine ⟨_, ?_, .im rfl⟩
    simp [execOp, ho, e1, resolve, invoke, builtin, Builtin.len_, run_underlying ht, goInt]
theorem step_max {ts : Array TypeId} {x y : Operand} {k j : IntKind} {a b : Int} (ho : o.op = .call { callee := .builtin .max, args := #[x, y], argTypes := ts }) (hx : ev x = .im (.int k a)) (hy : ev y = .im (.int j b)) : Step P o ev [] ⟨.im (.int k (if b > a then b else a)), []⟩ :=
  Step.look fun C ρ hC hR _ => by
    have h1 := hR x (by simp [ho, Op.operands, Call.operands])
    have h2 := hR y (by simp [ho, Op.operands, Call.operands])
    rw [hx] at h1
    rw [hy] at h2
    have e1 : ρ x = .int k a := h1.im_eq
    have e2 : ρ y = .int j b := h2.im_eq
    refine ⟨_, ?_, .im rfl⟩
    simp [execOp, ho, e1, e2, resolve, invoke, builtin, Builtin.max_, Builtin.max2]
theorem step_min {ts : Array TypeId} {x y : Operand} {k j : IntKind} {a b : Int} (ho : o.op = .call { callee := .builtin .min, args := #[x, y], argTypes := ts }) (hx : ev x = .im (.int k a)) (hy : ev y = .im (.int j b)) : Step P o ev [] ⟨.im (.int k (if b < a then b else a)), []⟩ :=
  Step.look fun C ρ hC hR _ => by
    have h1 := hR x (by simp [ho, Op.operands, Call.operands])
    have h2 := hR y (by simp [ho, Op.operands, Call.operands])
    rw [hx] at h1
    rw [hy] at h2
    have e1 : ρ x = .int k a := h1.im_eq
    have e2 : ρ y = .int j b := h2.im_eq
    refine ⟨_, ?_, .im rfl⟩
    simp [execOp, ho, e1, e2, resolve, invoke, builtin, Builtin.min_, Builtin.min2]

/-! #### literals -/
/-- Where the fields of a struct lie, and their sizes. -/
def stOf (P : Program) (t : TypeId) : Option (List (Nat × Nat)) := match P.underlying t with
  | some (.struct fs) => fs.toList.mapM fun f => (szOf P f.type).map fun z => (f.offset, z)
  | _ => none
def fillV (pl : Nat → Option (Nat × Nat)) (cells : List V) : List (Nat × V) → Option (List V)
  | [] => some cells
  | p :: rest => match pl p.1 with
    | some (off, z) => if p.2.live = true ∧ p.2.size = z ∧ off + z ≤ cells.length then fillV pl (seg cells off p.2.cells) rest else none
    | none => none
/-- The cells bs are the trees cs. -/
structure RC (C : Cf) (cs : List V) (bs : Array Value) : Prop where
  size : bs.size = cs.length
  one : ∀ j, j < cs.length → (bs.getD j undef).oneCell' = true
  get : ∀ j (hj : j < cs.length), R C cs[j] (bs.getD j undef)
theorem foldl_set (l : List Value) : ∀ (m off : Nat) (cells : Array Value), off + m + l.length ≤ cells.size →
    ((l.zipIdx m).foldl (fun cs (p : Value × Nat) => cs.setIfInBounds (off + p.2) p.1) cells).toList = cells.toList.take (off + m) ++ l ++ cells.toList.drop (off + m + l.length) := by
  induction l with
  | nil => intro m off cells _; simp
  | cons v l ih =>
    intro m off cells h
    simp only [List.length_cons] at h
    simp only [List.zipIdx_cons, List.foldl_cons, List.length_cons]
    rw [ih (m + 1) off _ (by simp; omega)]
    rw [Array.toList_setIfInBounds]
    have := list_seg_step cells.toList (off + m) v l (by simp only [Array.length_toList]; omega)
    rw [show off + (m + 1) = off + m + 1 by omega]
    exact this
theorem RC.seg {C : Cf} {cs : List V} {bs : Array Value} (h : RC C cs bs) {x : V} {v : Value} (hx : R C x v) (hl : x.live = true) {off z : Nat} (hs : x.size = z) (hf : off + z ≤ cs.length) :
    RC C (seg cs off x.cells) (bs.toList.take off ++ v.cells.toList ++ bs.toList.drop (off + z)).toArray := by
  obtain ⟨h2, h3⟩ := hx.live hl
  have hsz : x.cells.length = z := hs
  have hlen : v.cells.toList.length = z := by simpa using h2.trans hs
  have hb : bs.size = cs.length := h.size
  have hfit : off + v.cells.toList.length ≤ bs.toList.length := by rw [hlen]; simp only [Array.length_toList]; omega
  have hfit' : off + x.cells.length ≤ cs.length := by rw [hsz]; exact hf
  have key : ∀ j (hj : j < (Go.Proofs.Ytfggemopnlffeaa.seg cs off x.cells).length), ((bs.toList.take off ++ v.cells.toList ++ bs.toList.drop (off + z)).toArray.getD j undef).oneCell' = true ∧
      R C (Go.Proofs.Ytfggemopnlffeaa.seg cs off x.cells)[j] ((bs.toList.take off ++ v.cells.toList ++ bs.toList.drop (off + z)).toArray.getD j undef) := by
    intro j hj
    obtain ⟨y, hy⟩ : ∃ y, (Go.Proofs.Ytfggemopnlffeaa.seg cs off x.cells)[j] = y := ⟨_, rfl⟩
    have e1 : (Go.Proofs.Ytfggemopnlffeaa.seg cs off x.cells)[j]? = some y := by rw [List.getElem?_eq_getElem hj, hy]
    rw [hy]
    have e2 : (bs.toList.take off ++ v.cells.toList ++ bs.toList.drop (off + z)).toArray.getD j undef = ((bs.toList.take off ++ v.cells.toList ++ bs.toList.drop (off + z))[j]?).getD undef := by simp [Array.getD_eq_getD_getElem?]
    have hjc : j < cs.length := by
      have : (Go.Proofs.Ytfggemopnlffeaa.seg cs off x.cells).length = cs.length := by simp [Go.Proofs.Ytfggemopnlffeaa.seg]; omega
      omega
    rw [e2]
    have e3 := getElem?_seg (bs := bs.toList) (us := v.cells.toList) (off := off) (j := j) hfit
    rw [hlen] at e3
    rw [e3]
    unfold Go.Proofs.Ytfggemopnlffeaa.seg at e1
    rw [getElem?_seg hfit', hsz] at e1
    have old : bs.toList[j]? = some (bs.getD j undef) := by
      have hjb : j < bs.size := by omega
      simp [hjb]
    by_cases q1 : j < off
    · rw [if_pos q1] at e1 ⊢
      rw [List.getElem?_eq_getElem hjc] at e1
      rw [← Option.some.inj e1, old]
      exact ⟨h.one j hjc, h.get j hjc⟩
    · rw [if_neg q1] at e1 ⊢
      by_cases q2 : j < off + z
      · rw [if_pos q2] at e1 ⊢
        have hjx : j - off < x.cells.length := by omega
        rw [List.getElem?_eq_getElem hjx] at e1
        rw [← Option.some.inj e1]
        have hjv : j - off < v.cells.size := by rw [h2, hs]; omega
        have := h3 (j - off) hjx
        simpa [hjv] using this
      · rw [if_neg q2] at e1 ⊢
        rw [List.getElem?_eq_getElem hjc] at e1
        rw [← Option.some.inj e1, old]
        exact ⟨h.one j hjc, h.get j hjc⟩
  exact ⟨by simp [Go.Proofs.Ytfggemopnlffeaa.seg, hb, hlen, hsz], fun j hj => (key j hj).1, fun j hj => (key j hj).2⟩
theorem fill_sound {C : Cf} {pl : Nat → Option (Nat × Nat)} : ∀ (ps : List (Nat × V)) (vs : List (Nat × Value)) (cs : List V) (bs : Array Value) (cs' : List V), RC C cs bs → ps.length = vs.length → (∀ i (h : i < ps.length) (h' : i < vs.length), vs[i].1 = ps[i].1 ∧ R C ps[i].2 vs[i].2) →
    fillV pl cs ps = some cs' → ∃ bs', Instr.fill pl bs vs = some bs' ∧ RC C cs' bs' := by
  intro ps
  induction ps with
  | nil =>
    intro vs cs bs cs' hc hl _ h
    obtain rfl := List.eq_nil_of_length_eq_zero hl.symm
    cases h
    exact ⟨bs, rfl, hc⟩
  | cons p ps ih =>
    intro vs cs bs cs' hc hl hR h
    cases vs with
    | nil => cases hl
    | cons v vs =>
      obtain ⟨h1, h2⟩ := hR 0 (by simp) (by simp)
      simp only [List.getElem_cons_zero] at h1 h2
      obtain ⟨i, v⟩ := v
      obtain ⟨i', x⟩ := p
      obtain rfl : i = i' := h1
      simp only [fillV] at h
      cases hpl : pl i with
      | none => rw [hpl] at h; cases h
      | some oz =>
        obtain ⟨off, z⟩ := oz
        rw [hpl] at h
        simp only at h
        split at h
        · rename_i hq
          obtain ⟨q1, q2, q3⟩ := hq
          have hseg := hc.seg h2 q1 q2 q3
          obtain ⟨hv, _⟩ := h2.live q1
          have hvz : v.cells.size = z := hv.trans q2
          have hb := hc.size
          obtain ⟨bs', k1, k2⟩ := ih vs _ _ cs' hseg (by simpa using hl) (fun j a b => hR (j + 1) (by simpa using a) (by simpa using b)) h
          refine ⟨bs', ?_, k2⟩
          have hcond : (decide (v.cells.size ≠ z) || decide (off + v.cells.size > bs.size)) = false := by
            simp only [hvz, ne_eq, not_true, decide_false, Bool.false_or, decide_eq_false_iff_not]; omega
          simp only [Instr.fill, hpl]
          have hnot : ¬ ((v.cells.size ≠ z) ∨ off + v.cells.size > bs.size) := by
            rw [hvz]; omega
          have hfold : (v.cells.zipIdx.foldl (fun cs (p : Value × Nat) => cs.setIfInBounds (off + p.2) p.1) bs) = (bs.toList.take off ++ v.cells.toList ++ bs.toList.drop (off + z)).toArray := by
            apply Array.ext'
            rw [← Array.foldl_toList, Array.toList_zipIdx]
            have := foldl_set v.cells.toList 0 off bs (by simp only [Array.length_toList]; omega)
            simpa [hvz] using this
          simp only [ne_eq, gt_iff_lt, Bool.or_eq_true, decide_eq_true_eq, hvz, not_true, false_or]
          rw [if_neg (by omega)]
          rw [hfold]
          exact k1
        · cases h
theorem zero_RC {C : Cf} {t : TypeId} {cs : List V} (h : alOf P t = some cs) : ∃ z, zrOf P t = some z ∧ RC C cs z.cells := by
  unfold alOf at h
  cases hz : zrOf P t with
  | none => rw [hz] at h; cases h
  | some z =>
    rw [hz] at h
    simp only [Option.bind_some] at h
    split at h
    · rename_i hall
      cases h
      refine ⟨z, rfl, by simp, fun j hj => ?_, fun j hj => ?_⟩
      · have hj' : j < z.cells.size := by simpa using hj
        simpa [hj'] using Array.all_eq_true.1 hall j hj'
      · have hj' : j < z.cells.size := by simpa using hj
        simp only [List.getElem_map, Array.getElem_toList, Array.getD, hj', dite_true]
        exact .ofCell _
    · cases h
theorem run_places {w : World} : ∀ (fs : List Field) (pl : List (Nat × Nat)), (fs.mapM fun f => (szOf P f.type).map fun z => (f.offset, z)) = some pl →
    Sem.run P (fs.mapM fun f => do pure (f.offset, ← sizeOf f.type)) w = Result.ok pl w := by
  intro fs
  induction fs with
  | nil => intro pl h; simp at h; subst h; rfl
  | cons f fs ih =>
    intro pl h
    rw [List.mapM_cons] at h ⊢
    cases hz : szOf P f.type with
    | none => rw [hz] at h; simp at h
    | some z =>
      rw [hz] at h
      cases hr : (fs.mapM fun f => (szOf P f.type).map fun z => (f.offset, z)) with
      | none => rw [hr] at h; simp at h
      | some pl' =>
        rw [hr] at h
        simp at h
        subst h
        simp only [Sem.run_bind, run_sizeOf hz, Result.andThen_ok, Sem.run_pure, ih pl' hr]
theorem step_build {t : TypeId} {parts : Array (Nat × Operand)} {pl : List (Nat × Nat)} {cs cs' : List V} (ho : o.op = .build t parts) (hst : stOf P t = some pl) (hal : alOf P t = some cs)
    (hf : fillV (fun i => pl[i]?) cs (parts.toList.map fun p => (p.1, ev p.2)) = some cs') : Step P o ev [] ⟨.ag cs', []⟩ :=
  Step.look fun C ρ hC hR _ => by
    obtain ⟨z, hz, hrc⟩ := zero_RC (C := C) hal
    have hop : ∀ p ∈ parts.toList, R C (ev p.2) (ρ p.2) := fun p hp => hR p.2 (by simp only [ho, Op.operands]; simpa using ⟨p.1, by simpa using hp⟩)
    obtain ⟨bs', k1, k2⟩ := fill_sound (C := C) (parts.toList.map fun p => (p.1, ev p.2)) (parts.toList.map fun p => (p.1, ρ p.2)) cs z.cells cs' hrc (by simp) (fun i h h' => by
      simp only [List.getElem_map]
      exact ⟨trivial, hop _ (List.getElem_mem _)⟩) hf
    refine ⟨.agg bs', ?_, .ag k2.size k2.one k2.get⟩
    unfold stOf at hst
    split at hst
    · rename_i fs hu
      have hp := run_places (P := P) (w := C.w) fs.toList pl hst
      have hmap : (fs.mapM fun f => (do pure (f.offset, ← sizeOf f.type) : Sem (Nat × Nat))) = List.toArray <$> fs.toList.mapM (fun f => (do pure (f.offset, ← sizeOf f.type) : Sem (Nat × Nat))) := by
        rw [← List.mapM_toArray, Array.toArray_toList]
      have hfn : (fun x : Nat => pl.toArray[x]?) = fun i : Nat => pl[i]? := by funext i; simp
      have hmp : (parts.map fun (i, x) => (i, ρ x)).toList = parts.toList.map fun p => (p.1, ρ p.2) := by simp
      simp only [execOp, ho, Instr.build, Sem.run_bind, run_zeroValue hz, Result.andThen_ok, run_underlying hu, hmap, map_eq_pure_bind, hp, Sem.run_pure, hfn, hmp, k1]
    · cases hst
theorem good_im {C : Cf} (hC : Ok C) (bs : Array Value) (t : TypeId) {x : V} {v : Value} (h : R (C.withW (C.w.alloc (.cells bs t))) x v) : Good C (wrs C.st []) x (C.w.alloc (.cells bs t)) v :=
  ⟨C.withW (C.w.alloc (.cells bs t)), rfl, rfl, hC.alloc _, Ev.alloc hC _, h⟩
theorem fill_slice {z : Nat} : ∀ (vs : List Value) (k : Nat) (bs : Array Value), (∀ v ∈ vs, v.cells.size = z) → (k + vs.length) * z ≤ bs.size →
    ∃ bs', Instr.fill (fun i => some (i * z, z)) bs ((List.range' k vs.length).zip vs) = some bs' ∧ bs'.size = bs.size ∧ (∀ j, j < k * z → bs'[j]? = bs[j]?) ∧
      ∀ i (h : i < vs.length) j, j < z → bs'[(k + i) * z + j]? = (vs[i]).cells[j]? := by
  intro vs
  induction vs with
  | nil => intro k bs _ _; exact ⟨bs, rfl, rfl, fun _ _ => rfl, fun i h => absurd h (Nat.not_lt_zero _)⟩
  | cons v vs ih =>
    intro k bs hz hfit
    have hv : v.cells.size = z := hz v (by simp)
    simp only [List.length_cons] at hfit
    have e1 : (k + (vs.length + 1)) * z = k * z + z + vs.length * z := by rw [← Nat.succ_mul, ← Nat.add_mul]; congr 1; omega
    have hfold : (v.cells.zipIdx.foldl (fun cs (p : Value × Nat) => cs.setIfInBounds (k * z + p.2) p.1) bs) = (bs.toList.take (k * z) ++ v.cells.toList ++ bs.toList.drop (k * z + z)).toArray := by
      apply Array.ext'
      rw [← Array.foldl_toList, Array.toList_zipIdx]
      have := foldl_set v.cells.toList 0 (k * z) bs (by simp only [Array.length_toList]; omega)
      simpa [hv] using this
    have hsz : (bs.toList.take (k * z) ++ v.cells.toList ++ bs.toList.drop (k * z + z)).toArray.size = bs.size := by simp [hv]; omega
    have e2 : (k + 1 + vs.length) * z = k * z + z + vs.length * z := by rw [← e1]; congr 1; omega
    obtain ⟨bs', h1, h2, h3, h4⟩ := ih (k + 1) _ (fun x hx => hz x (by simp [hx])) (by rw [hsz, e2]; omega)
    have hget : ∀ j, (bs.toList.take (k * z) ++ v.cells.toList ++ bs.toList.drop (k * z + z)).toArray[j]? = if j < k * z then bs[j]? else if j < k * z + z then v.cells[j - k * z]? else bs[j]? := fun j => by
      have := getElem?_seg (bs := bs.toList) (us := v.cells.toList) (off := k * z) (j := j) (by simp [hv]; omega)
      simp only [Array.length_toList, hv, Array.getElem?_toList] at this
      simpa using this
    have hk1 : (k + 1) * z = k * z + z := Nat.succ_mul k z
    refine ⟨bs', ?_, h2.trans hsz, fun j hj => ?_, fun i hi j hj => ?_⟩
    · rw [List.length_cons, List.range'_succ, List.zip_cons_cons]
      simp only [Instr.fill, ne_eq, gt_iff_lt, Bool.or_eq_true, decide_eq_true_eq, hv, not_true, false_or]
      rw [if_neg (by omega), hfold]
      exact h1
    · rw [h3 j (by omega), hget j, if_pos hj]
    · cases i with
      | zero =>
        simp only [Nat.add_zero, List.getElem_cons_zero]
        rw [h3 _ (by omega), hget, if_neg (by omega), if_pos (by omega)]
        congr 1
        omega
      | succ i =>
        have := h4 i (by simpa using hi) j hj
        rw [show k + (i + 1) = k + 1 + i by omega]
        simpa using this
/-- Is this a list of elements, in order, of z cells each? -/
def partsOk (ev : Operand → V) (z : Nat) (n k : Nat) : List (Nat × Operand) → Bool
  | [] => k == n
  | p :: l => p.1 == k && (ev p.2).live && decide ((ev p.2).size = z) && partsOk ev z n (k + 1) l
theorem partsOk_spec {z n : Nat} : ∀ (l : List (Nat × Operand)) (k : Nat), partsOk ev z n k l = true → k + l.length = n ∧ l.map Prod.fst = List.range' k l.length ∧ ∀ p ∈ l, (ev p.2).live = true ∧ (ev p.2).size = z := by
  intro l
  induction l with
  | nil => intro k h; simp only [partsOk, beq_iff_eq] at h; exact ⟨h, rfl, fun p hp => by cases hp⟩
  | cons p l ih =>
    intro k h
    simp only [partsOk, Bool.and_eq_true, beq_iff_eq, decide_eq_true_eq] at h
    obtain ⟨h1, h2, h3⟩ := ih (k + 1) h.2
    refine ⟨by simp; omega, by simp [h.1.1.1, h2, List.range'_succ], fun q hq => ?_⟩
    rcases List.mem_cons.1 hq with rfl | hq
    · exact ⟨h.1.1.2, h.1.2⟩
    · exact h3 q hq
theorem step_buildSlice {t e : TypeId} {z n : Nat} {cs : List V} {parts : Array (Nat × Operand)} (ho : o.op = .buildSlice t n parts) (he : elOf P t = some e) (hz : szOf P e = some z) (hal : alOf P e = some cs) (hn : n * z ≤ 16777216) (hz0 : 0 < z)
    (hp : partsOk ev z n 0 parts.toList = true) : Step P o ev [] ⟨.sl (parts.toList.map fun p => ev p.2) .full, []⟩ := by
  intro C ρ hC hR _
  obtain ⟨p1, p2, p3⟩ := partsOk_spec _ _ hp
  simp only [Nat.zero_add] at p1
  have hop : ∀ p ∈ parts.toList, R C (ev p.2) (ρ p.2) := fun p hp => hR p.2 (by simp only [ho, Op.operands]; simpa using ⟨p.1, by simpa using hp⟩)
  obtain ⟨zv, hzv, hrc⟩ := zero_RC (C := C) hal
  have hel := elOf_spec he
  generalize hzs : ((Array.range (n * z)).map fun i => zv.cells[i % zv.cells.size]!) = zs
  have hzsz : zs.size = n * z := by rw [← hzs]; simp
  have hlen : (parts.toList.map fun p => ρ p.2).length = n := by simpa using p1
  obtain ⟨bs, k1, k2, _, k4⟩ := fill_slice (z := z) (parts.toList.map fun p => ρ p.2) 0 zs (fun v hv => by
    obtain ⟨p, hp, rfl⟩ := List.mem_map.1 hv
    exact ((hop p hp).live (p3 p hp).1).1.trans (p3 p hp).2) (by rw [hlen, hzsz]; simp)
  have hmp : (parts.map fun (i, x) => (i, ρ x)).toList = (List.range' 0 (parts.toList.map fun p => ρ p.2).length).zip (parts.toList.map fun p => ρ p.2) := by
    have e2 : (parts.map fun (i, x) => (i, ρ x)).toList = parts.toList.map fun p => (p.1, ρ p.2) := by simp
    rw [e2, List.length_map, ← p2]
    rw [List.zip_map']
  have hzero : (if n * z = 0 then (pure #[] : Sem (Array Value)) else do pure (← zeroValue e).cells).run P C.w = .ok (if n * z = 0 then #[] else zv.cells) C.w := by
    split
    · rfl
    · simp only [Sem.run_bind, run_zeroValue hzv, Result.andThen_ok, Sem.run_pure]
  have hzs' : ((Array.range (n * z)).map fun i => (if n * z = 0 then #[] else zv.cells)[i % (if n * z = 0 then #[] else zv.cells).size]!) = zs := by
    rw [← hzs]
    by_cases h0 : n * z = 0
    · simp [h0]
    · simp [h0]
  have hlt : ¬ n * z > 2 ^ 24 := by omega
  have hrun : (execOp ρ o).run P C.w = .ok (.value (.slice (some ⟨C.w.heap.size, 0, none⟩) n n)) (C.w.alloc (.cells bs e)) := by
    simp only [execOp, ho, Instr.buildSlice, Sem.run_bind, run_underlying hel, Result.andThen_ok, run_sizeOf hz, hlt, if_false, Sem.run_pure, hmp]
    by_cases h0 : n * z = 0
    · simp only [h0, if_true] at hzs'
      simp only [h0, if_true, Sem.run_bind, Sem.run_pure, Result.andThen_ok, hzs', k1]
      rfl
    · simp only [h0, if_false] at hzs'
      simp only [h0, if_false, Sem.run_bind, Sem.run_pure, Result.andThen_ok, run_zeroValue hzv, hzs', k1]
      rfl
  rw [hrun]
  refine good_im hC bs e ?_
  have hel2 : (parts.toList.map fun p => ev p.2).length = n := by simpa using p1
  have hres : R (C.withW (C.w.alloc (.cells bs e))) (.sl (parts.toList.map fun p => ev p.2) .full) (.slice (some ⟨C.w.heap.size, 0, none⟩) (parts.toList.map fun p => ev p.2).length n) := by
    refine .sl (z := z) (u := fun i => (parts.toList.map fun p => ρ p.2).getD i undef) (by omega) (by unfold maxLen; have := Nat.le_mul_of_pos_right n hz0; omega) (fun i hi => ?_) (fun i hi => ?_) (fun i hi => ?_) (by rw [hel2]; rfl)
    · have hi' : i < parts.toList.length := by simpa using hi
      have hm := List.getElem_mem hi'
      have e2 : (parts.toList.map fun p => ρ p.2).getD i undef = ρ (parts.toList[i]).2 := by
        have : i < parts.size := by simpa using hi'
        simp [List.getD, this]
      rw [e2]
      simp only [List.getElem_map]
      exact ⟨(p3 _ hm).2, ((hop _ hm).live (p3 _ hm).1).1.trans (p3 _ hm).2⟩
    · have hi' : i < parts.toList.length := by simpa using hi
      have hm := List.getElem_mem hi'
      have e2 : (parts.toList.map fun p => ρ p.2).getD i undef = ρ (parts.toList[i]).2 := by
        have : i < parts.size := by simpa using hi'
        simp [List.getD, this]
      rw [e2]
      simp only [List.getElem_map]
      exact (hop _ hm).mono (Ev.alloc hC _)
    · have hi' : i < (parts.toList.map fun p => ρ p.2).length := by simpa using hi
      refine ⟨_, rfl, fun j c hj => ?_⟩
      rw [Addr.add_add, Addr.add_lit]
      refine ⟨?_, ?_⟩
      · have e2 : (parts.toList.map fun p => ρ p.2).getD i undef = (parts.toList.map fun p => ρ p.2)[i] := by simp only [List.getD, List.getElem?_eq_getElem hi', Option.getD_some]
        rw [e2] at hj
        have hjz : j < z := by
          have hm : (parts.toList.map fun p => ρ p.2)[i] ∈ parts.toList.map fun p => ρ p.2 := List.getElem_mem hi'
          obtain ⟨p, hp, hpe⟩ := List.mem_map.1 hm
          have h6 : (parts.toList.map fun p => ρ p.2)[i].cells.size = z := by rw [← hpe]; exact ((hop p hp).live (p3 p hp).1).1.trans (p3 p hp).2
          have := (Array.getElem?_eq_some_iff.1 hj).1
          omega
        have := k4 i hi' j hjz
        rw [hj] at this
        show (C.w.alloc (.cells bs e)).cell? ⟨C.w.heap.size, 0 + (i * z + j), none⟩ = some c
        rw [World.cell?_alloc_new]
        simpa using this
      · exact Cf.fix_new hC _
  rw [hel2] at hres
  exact hres
end

end Go.Proofs.Ytfggemopnlffeaa
/- Operations, continued: appends; slices of slices and of strings; slices over a box; bytes out of strings and back. -/
namespace Go.Proofs.Ytfggemopnlffeaa
set_option linter.unusedSimpArgs false
set_option linter.unusedVariables false
set_option linter.unnecessarySimpa false
open Go.RowKit

/-! ### A list of elements as cells -/
def flatU (u : Nat → Value) (z n : Nat) : List Value := (List.range (n * z)).map fun j => (u (j / z)).cells.getD (j % z) undef
theorem flatU_length (u : Nat → Value) (z n : Nat) : (flatU u z n).length = n * z := by simp [flatU]
theorem flatU_get {u : Nat → Value} {z n i j : Nat} (hi : i < n) (hj : j < z) : (flatU u z n)[i * z + j]? = some ((u i).cells.getD j undef) := by
  have h1 : i * z + j < n * z := by
    have : (i + 1) * z ≤ n * z := Nat.mul_le_mul_right z hi
    rw [Nat.succ_mul] at this
    omega
  have hz : 0 < z := by omega
  have e1 : (i * z + j) / z = i := by rw [Nat.add_comm, Nat.add_mul_div_right _ _ hz, Nat.div_eq_of_lt hj, Nat.zero_add]
  have e2 : (i * z + j) % z = j := by rw [Nat.add_comm, Nat.add_mul_mod_self_right, Nat.mod_eq_of_lt hj]
  simp [flatU, h1, e1, e2]
theorem flatU_inv {u : Nat → Value} {z n k : Nat} {v : Value} (h : (flatU u z n)[k]? = some v) : ∃ i j, i < n ∧ j < z ∧ k = i * z + j ∧ v = (u i).cells.getD j undef := by
  obtain ⟨hk, rfl⟩ := List.getElem?_eq_some_iff.1 h
  rw [flatU_length] at hk
  have hz : 0 < z := by
    rcases Nat.eq_zero_or_pos z with h0 | h0
    · subst h0; simp at hk
    · exact h0
  refine ⟨k / z, k % z, (Nat.div_lt_iff_lt_mul hz).2 hk, Nat.mod_lt _ hz, by rw [Nat.mul_comm]; exact (Nat.div_add_mod k z).symm, by simp [flatU]⟩
theorem add_mul_add (ad : Addr) (i z j : Nat) : (ad.add (i * z)).add j = ad.add (i * z + j) := by rw [Addr.add_add]
/-- The cells of a list of elements, read. -/
theorem flatU_read {w : World} {u : Nat → Value} {z n : Nat} {ad : Addr} (hz : ∀ i, i < n → (u i).cells.size = z) (h : ∀ i, i < n → ∀ j c, (u i).cells[j]? = some c → w.cell? ((ad.add (i * z)).add j) = some c) :
    ∀ k v, (flatU u z n)[k]? = some v → w.cell? (ad.add k) = some v := by
  intro k v hk
  obtain ⟨i, j, hi, hj, rfl, rfl⟩ := flatU_inv hk
  have hsz := hz i hi
  have hj' : j < (u i).cells.size := by omega
  have := h i hi j ((u i).cells.getD j undef) (by simp [hj'])
  rwa [add_mul_add] at this

/-! ### A new token -/
def Cf.ghost (C : Cf) (id : Nat) (e : TypeId) (z n : Nat) : Cf := ⟨fun i => if i = id then none else C.σ i, upd C.st id (.tip e z n), C.av, C.w⟩
section
variable {C : Cf} {id : Nat} {e : TypeId} {z n : Nat}
theorem Cf.ghost_fix {b o : Nat} (h : C.fix b o) : (C.ghost id e z n).fix b o := by
  refine ⟨h.1, fun i hi => ?_⟩
  have hi : (if i = id then none else C.σ i) = some b := hi
  by_cases he : i = id
  · rw [if_pos he] at hi; cases hi
  · rw [if_neg he] at hi
    simpa [Cf.ghost, upd, he] using h.2 i hi
theorem Ev.ghost (hf : C.st id = .free) : Ev C (C.ghost id e z n) := by
  have ne : ∀ i, C.st i ≠ .free → i ≠ id := fun i hi he => hi (he ▸ hf)
  refine ⟨rfl, rfl, rfl, Nat.le_refl _, rfl, fun a v h => ⟨h.1, Cf.ghost_fix h.2⟩, fun i cs h => ?_, fun i e' z' n' h => ?_, fun i s p h => ?_, fun _ _ _ => rfl, fun i b h h' => ?_⟩
  · have := ne i (by rw [h]; simp)
    exact ⟨by simp [Cf.ghost, this], cs, by simpa [Cf.ghost, upd, this] using h⟩
  · have := ne i (by rw [h]; simp)
    exact ⟨n', by simpa [Cf.ghost, upd, this] using h, Nat.le_refl _, fun _ => ⟨by simp [Cf.ghost, this], fun g cur _ hc => ⟨cur, hc, rfl⟩⟩⟩
  · have := ne i (by rw [h]; simp)
    exact ⟨by simp [Cf.ghost, this], s, p, by simpa [Cf.ghost, upd, this] using h⟩
  · have h' : (if i = id then none else C.σ i) = some b := h'
    by_cases he : i = id
    · rw [if_pos he] at h'; cases h'
    · rw [if_neg he] at h'
      exact .inl ⟨by simpa [Cf.ghost, upd, he] using h, h'⟩
theorem Ok.ghost (hC : Ok C) (hf : C.st id = .free) : Ok (C.ghost id e z n) := by
  have sg : ∀ {i g}, (C.ghost id e z n).σ i = some g → i ≠ id ∧ C.σ i = some g := fun {i g} h => by
    have h : (if i = id then none else C.σ i) = some g := h
    by_cases he : i = id
    · rw [if_pos he] at h; cases h
    · rw [if_neg he] at h; exact ⟨he, h⟩
  constructor
  · intro i cs h
    have hne : i ≠ id := fun he => by subst he; simp [Cf.ghost, upd] at h
    have h : C.st i = .box cs := by simpa [Cf.ghost, upd, hne] using h
    obtain ⟨g, bs, t, h1, h2, h3, h4, h5⟩ := hC.box i cs h
    exact ⟨g, bs, t, by simpa [Cf.ghost, hne] using h1, h2, h3, h4, fun j hj => (h5 j hj).mono (Ev.ghost hf)⟩
  · intro i e' z' n' g h h'
    obtain ⟨hne, h'⟩ := sg h'
    exact hC.tip i e' z' n' g (by simpa [Cf.ghost, upd, hne] using h) h'
  · intro i s p h
    have hne : i ≠ id := fun he => by subst he; simp [Cf.ghost, upd] at h
    obtain ⟨g, h1, h2⟩ := hC.iter i s p (by simpa [Cf.ghost, upd, hne] using h)
    exact ⟨g, by simpa [Cf.ghost, hne] using h1, h2⟩
  · intro i j g hi hj h h'
    obtain ⟨n1, h⟩ := sg h
    obtain ⟨n2, h'⟩ := sg h'
    exact hC.inj i j g (by simpa [Cf.ghost, upd, n1] using hi) (by simpa [Cf.ghost, upd, n2] using hj) h h'
  · exact hC.avl
  · intro i cs g o h h'
    obtain ⟨hne, h'⟩ := sg h'
    exact hC.bav i cs g o (by simpa [Cf.ghost, upd, hne] using h) h'
  · exact hC.gl.mono (Ev.ghost hf)
end
/-- A slice whose capacity is its length may be appended to, by a new token. -/
theorem R.ghost {C : Cf} {id : Nat} {e : TypeId} {z : Nat} {es : List V} {k : Slk} {v : Value} (hkk : k = .full ∨ k = .nl) (hf : C.st id = .free) (h : R C (.sl es k) v) (hz : ∀ x ∈ es, x.size = z) : R (C.ghost id e z es.length) (.sl es (.own id)) v := by
  cases h with
  | @sl _ _ a cap z' u hc hm hzs h0 hr hk =>
    have hk : cap = es.length := by
      rcases hkk with rfl | rfl
      · exact hk
      · exact hk.2
    have hz' : ∀ i (hi : i < es.length), z' = z := fun i hi => by rw [← (hzs i hi).1]; exact hz _ (List.getElem_mem hi)
    refine .sl (z := z) (u := u) hc hm (fun i hi => by rw [← hz' i hi]; exact hzs i hi) (fun i hi => (h0 i hi).mono (Ev.ghost hf)) (fun i hi => ?_) ⟨e, es.length, by simp [Cf.ghost, upd], Nat.le_refl _, fun _ => .inl ⟨by simp [Cf.ghost], hk⟩⟩
    rw [← hz' i hi]
    obtain ⟨ad, h1, h2⟩ := hr i hi
    exact ⟨ad, h1, fun j c hj => ⟨(h2 j c hj).1, Cf.ghost_fix (h2 j c hj).2⟩⟩

/-! ### Appending -/
theorem R.cast_len {C : Cf} {x : V} {a : Option Addr} {n m cap : Nat} (h : n = m) (hR : R C x (.slice a n cap)) : R C x (.slice a m cap) := h ▸ hR
/-- More elements lie behind the slice that token id owns: in its own block (cur'), or in a new one. -/
def Cf.tipTo (C : Cf) (id : Nat) (g : Nat) (e : TypeId) (z n : Nat) (w : World) : Cf := ⟨fun i => if i = id then some g else C.σ i, upd C.st id (.tip e z n), C.av, w⟩
section
variable {P : Program} {C : Cf} {id : Nat} {e : TypeId} {z n : Nat}
theorem run_append_none {w : World} (t tx ty e : TypeId) (i : TypeInfo) (ht : P.underlying t = some (.slice e)) (hi : P.info? e = some i) (base : Option Addr) (sLen sCap : Nat) (hle : sLen ≤ sCap) (x : Value) (hs : Src P i.size tx x 0 [] w) :
    (Builtin.append_ #[t, tx] ty #[.slice base sLen sCap, x]).run P w = .ok (.slice base sLen sCap) w := by
  rcases hs.kind with ⟨_, hk⟩ | hk <;> cases base <;> simp [Builtin.append_, run_underlying ht, run_underlying hk, sizeOf, typeInfo, hi, hs.len, hle, hs.cells, storeCells]
theorem run_append_room' {w : World} (t tx ty e : TypeId) (i : TypeInfo) (ht : P.underlying t = some (.slice e)) (hi : P.info? e = some i) (g sLen sCap : Nat) (x : Value) (m : Nat) (news : List Value) (hs : Src P i.size tx x m news w) {cur : Array Value} {e' : TypeId} (hg : w.heap[g]? = some (.cells cur e' (0, 0)))
    (hfit : sLen * i.size + news.length ≤ cur.size) (hroom : sLen + m ≤ sCap) :
    (Builtin.append_ #[t, tx] ty #[.slice (some ⟨g, 0, none⟩) sLen sCap, x]).run P w = .ok (.slice (some ⟨g, 0, none⟩) (sLen + m) sCap) (w.setRow g (cur.toList.take (sLen * i.size) ++ news ++ cur.toList.drop (sLen * i.size + news.length)).toArray) := by
  have hst := run_storeCells_at P g (sLen * i.size) e' news 0 cur w hg (by simpa using hfit) hs.one
  simp only [Nat.add_zero] at hst
  rcases hs.kind with ⟨e', hk⟩ | hk <;> simp [Builtin.append_, run_underlying ht, run_underlying hk, sizeOf, typeInfo, hi, hs.len, hroom, hs.cells, Addr.add_lit, hst]
theorem good_append (hC : Ok C) (hst : C.st id = .tip e z n) {t tx ty : TypeId} {i : TypeInfo} (ht : P.underlying t = some (.slice e)) (hi : P.info? e = some i) (hz : i.size = z) {zv : Value} (hzv : i.zero = some zv) (hzs : zv.cells.size = z) (hz0 : 0 < z)
    {es ys : List V} {a : Option Addr} {cap : Nat} (hR : R C (.sl es (.own id)) (.slice a es.length cap)) (hn : es.length = n) {x : Value} {news : List Value} {uy : Nat → Value} (hs : Src P z tx x ys.length news C.w)
    (hnews : ∀ k, k < ys.length → ∀ j, j < z → news[k * z + j]? = (uy k).cells[j]?) (huy : ∀ k (hk : k < ys.length), (uy k).cells.size = z ∧ ys[k].size = z ∧ R C ys[k] (uy k)) (h63 : n + ys.length ≤ maxLen) (hb : (n + ys.length) * i.bytes ≤ 140737488355328) :
    ∃ v w', (Builtin.append_ #[t, tx] ty #[.slice a es.length cap, x]).run P C.w = .ok v w' ∧ Good C (wrs C.st [(id, .tip e z (n + ys.length))]) (.sl (es ++ ys) (.own id)) w' v := by
  subst hz hn
  cases hR with
  | @sl _ _ _ _ z' u hc hm hzu h0 hr hk =>
    obtain ⟨e', n', k1, k2, k3⟩ := hk
    rw [hst] at k1
    cases k1
    have hown := k3 rfl
    clear k3 k2
    have hnl := hs.newsLen
    by_cases hm0 : ys = []
    · subst hm0
      have hnews0 : news = [] := List.length_eq_zero_iff.1 (by simpa using hnl)
      subst hnews0
      refine ⟨_, _, run_append_none t tx ty e i ht hi a es.length cap hc x hs, C, rfl, ?_, hC, Ev.refl C, ?_⟩
      · funext j
        simp only [wrs, upd, List.length_nil, Nat.add_zero]
        split
        · rename_i hj; rw [hj, hst]
        · rfl
      · rw [List.append_nil]
        exact .sl hc hm hzu h0 hr ⟨e, _, hst, Nat.le_refl _, fun _ => hown⟩
    have hmp : 0 < ys.length := List.length_pos_iff.2 hm0
    -- the elements, old and new
    have hall : ∀ k (hk : k < (es ++ ys).length), (es ++ ys)[k].size = i.size ∧ ((fun k => if k < es.length then u k else uy (k - es.length)) k).cells.size = i.size := by
      intro k hk
      simp only [List.getElem_append]
      by_cases q : k < es.length
      · simpa [q] using hzu k q
      · have : k - es.length < ys.length := by simp at hk; omega
        simp [q, (huy _ this).1, (huy _ this).2.1]
    have hRall : ∀ k (hk : k < (es ++ ys).length), R C (es ++ ys)[k] ((fun k => if k < es.length then u k else uy (k - es.length)) k) := by
      intro k hk
      simp only [List.getElem_append]
      by_cases q : k < es.length
      · simpa [q] using h0 k q
      · have : k - es.length < ys.length := by simp at hk; omega
        simpa [q] using (huy _ this).2.2
    have hsum : (es.length + ys.length) * i.size = es.length * i.size + ys.length * i.size := Nat.add_mul ..
    by_cases hroom : es.length + ys.length ≤ cap
    · -- there is room
      rcases hown with ⟨_, hcap⟩ | ⟨g, cur, hσ, rfl, hg, hcur⟩
      · omega
      have hcz : (es.length + ys.length) * i.size ≤ cap * i.size := Nat.mul_le_mul_right _ hroom
      have hfit : es.length * i.size + news.length ≤ cur.size := by rw [hnl, hcur]; omega
      have hrun := run_append_room' (P := P) (w := C.w) t tx ty e i ht hi g es.length cap x ys.length news hs hg hfit hroom
      generalize hcur' : (cur.toList.take (es.length * i.size) ++ news ++ cur.toList.drop (es.length * i.size + news.length)).toArray = cur' at hrun
      have hcs : cur'.size = cur.size := by rw [← hcur']; simp; omega
      have hget : ∀ j, cur'[j]? = if j < es.length * i.size then cur[j]? else if j < es.length * i.size + news.length then news[j - es.length * i.size]? else cur[j]? := fun j => by
        rw [← hcur']
        have := getElem?_seg (bs := cur.toList) (us := news) (off := es.length * i.size) (j := j) (by simpa using hfit)
        simpa using this
      have hheap : (C.w.setRow g cur').heap[g]? = some (.cells cur' e (0, 0)) := setRow_heap _ _ _ _ _ _ hg
      have hoth : ∀ b, b ≠ g → (C.w.setRow g cur').heap[b]? = C.w.heap[b]? := fun b hb => setRow_other _ _ _ _ hb
      refine ⟨_, _, hrun, C.tipTo id g e i.size (es.length + ys.length) (C.w.setRow g cur'), rfl, rfl, ?_, ?_, ?_⟩
      all_goals
        have hσ' : ∀ i', (C.tipTo id g e i.size (es.length + ys.length) (C.w.setRow g cur')).σ i' = C.σ i' := fun i' => by
          simp only [Cf.tipTo]
          split
          · rename_i h; rw [h, hσ]
          · rfl
        have hfix : ∀ b o, C.fix b o → (C.tipTo id g e i.size (es.length + ys.length) (C.w.setRow g cur')).fix b o := fun b o h => by
          refine ⟨h.1, fun i' hi' => ?_⟩
          rw [hσ'] at hi'
          by_cases he : i' = id
          · subst he
            rcases h.2 i' hi' with h1 | ⟨_, _, _, h1, h2⟩
            · rw [hst] at h1; cases h1
            · rw [hst] at h1; cases h1
              exact .inr ⟨e, i.size, es.length + ys.length, by simp [Cf.tipTo, upd], by omega⟩
          · simpa [Cf.tipTo, upd, he] using h.2 i' hi'
        have hrd : ∀ a v, C.rd a v → (C.tipTo id g e i.size (es.length + ys.length) (C.w.setRow g cur')).rd a v := fun a v h => by
          refine ⟨?_, hfix _ _ h.2⟩
          by_cases hb : a.block = g
          · have ho : a.off < es.length * i.size := by
              rcases h.2.2 id (hσ.trans (by rw [hb])) with h1 | ⟨_, _, _, h1, h2⟩
              · rw [hst] at h1; cases h1
              · rw [hst] at h1; cases h1; exact h2
            have h1 := h.1
            obtain ⟨ab, ao, asp⟩ := a
            subst hb
            cases asp with
            | some _ => 
              simp only [World.cell?] at h1 ⊢
              first | exact h1 | (simp [hg, hheap, Cf.tipTo] at h1 ⊢) 
            | none =>
              simp only [World.cell?, hg] at h1
              simp only [World.cell?, Cf.tipTo, hheap]
              rw [hget, if_pos ho]
              exact h1
          · exact (World.cell?_of_block (hoth _ hb)).trans h.1
        have hEv : Ev C (C.tipTo id g e i.size (es.length + ys.length) (C.w.setRow g cur')) := by
          refine ⟨rfl, rfl, rfl, by simp [Cf.tipTo, World.setRow], rfl, hrd, fun i' cs h => ?_, fun i' e' z' n' h => ?_, fun i' s p h => ?_, fun b hb hfr => ?_, fun i' b h h' => ?_⟩
          · have he : i' ≠ id := fun he => by subst he; rw [hst] at h; cases h
            exact ⟨hσ' _, cs, by simpa [Cf.tipTo, upd, he] using h⟩
          · by_cases he : i' = id
            · subst he
              rw [hst] at h; cases h
              exact ⟨es.length + ys.length, by simp [Cf.tipTo, upd], by omega, fun h => by omega⟩
            · refine ⟨n', by simpa [Cf.tipTo, upd, he] using h, Nat.le_refl _, fun _ => ⟨hσ' _, fun g' cur'' hg' hc' => ⟨cur'', ?_, rfl⟩⟩⟩
              have : g' ≠ g := fun e => he (hC.inj i' id g (by rw [h]; simp) (by rw [hst]; simp) (e ▸ hg') hσ)
              exact (hoth _ this).trans hc'
          · have he : i' ≠ id := fun he => by subst he; rw [hst] at h; cases h
            exact ⟨hσ' _, s, p, by simpa [Cf.tipTo, upd, he] using h⟩
          · exact hoth _ (fun e => by have := hfr id (e ▸ hσ); rw [hst] at this; cases this)
          · rw [hσ'] at h'
            by_cases he : i' = id
            · exact .inl ⟨by rw [he, hst]; simp, h'⟩
            · exact .inl ⟨by simpa [Cf.tipTo, upd, he] using h, h'⟩
      · -- Ok
        refine ⟨fun i' cs h => ?_, fun i' e' z' n' g' h h' => ?_, fun i' s p h => ?_, fun i' j' g' h1 h2 h3 h4 => ?_, fun b o h => ?_, fun i' cs g' o h h' => ?_, hC.gl.mono hEv⟩
        · have he : i' ≠ id := fun he => by subst he; simp [Cf.tipTo, upd] at h
          have h : C.st i' = .box cs := by simpa [Cf.tipTo, upd, he] using h
          obtain ⟨g', bs, t', q1, q2, q3, q4, q5⟩ := hC.box i' cs h
          have : g' ≠ g := fun e => he (hC.inj i' id g (by rw [h]; simp) (by rw [hst]; simp) (e ▸ q1) hσ)
          exact ⟨g', bs, t', (hσ' _).trans q1, (hoth _ this).trans q2, q3, q4, fun j hj => (q5 j hj).mono hEv⟩
        · rw [hσ'] at h'
          by_cases he : i' = id
          · subst he
            obtain rfl : g = g' := Option.some.inj (hσ.symm.trans h')
            have h : Ent.tip e i.size (es.length + ys.length) = .tip e' z' n' := by simpa [Cf.tipTo, upd] using h
            cases h
            exact ⟨cur', hheap, by rw [hcs, hcur]; exact hcz, (hC.tip i' e i.size es.length g hst hσ).choose_spec.2.2⟩
          · have h : C.st i' = .tip e' z' n' := by simpa [Cf.tipTo, upd, he] using h
            obtain ⟨cur'', q1, q2⟩ := hC.tip i' e' z' n' g' h h'
            have : g' ≠ g := fun e => he (hC.inj i' id g (by rw [h]; simp) (by rw [hst]; simp) (e ▸ h') hσ)
            exact ⟨cur'', (hoth _ this).trans q1, q2⟩
        · have he : i' ≠ id := fun he => by subst he; simp [Cf.tipTo, upd] at h
          have h : C.st i' = .iter s p := by simpa [Cf.tipTo, upd, he] using h
          obtain ⟨g', q1, q2⟩ := hC.iter i' s p h
          have : g' ≠ g := fun e => he (hC.inj i' id g (by rw [h]; simp) (by rw [hst]; simp) (e ▸ q1) hσ)
          exact ⟨g', (hσ' _).trans q1, (hoth _ this).trans q2⟩
        · rw [hσ'] at h3 h4
          refine hC.inj i' j' g' (fun e => h1 ?_) (fun e => h2 ?_) h3 h4
          · have : i' ≠ id := fun he => by subst he; rw [hst] at e; cases e
            simpa [Cf.tipTo, upd, this] using e
          · have : j' ≠ id := fun he => by subst he; rw [hst] at e; cases e
            simpa [Cf.tipTo, upd, this] using e
        · have := hC.avl b o h
          simpa [Cf.tipTo, World.setRow] using this
        · rw [hσ'] at h'
          have he : i' ≠ id := fun he => by subst he; simp [Cf.tipTo, upd] at h
          exact hC.bav i' cs g' o (by simpa [Cf.tipTo, upd, he] using h) h'
      · exact hEv
      · -- R
        have hlen : (es ++ ys).length = es.length + ys.length := List.length_append
        refine R.cast_len hlen ?_
        refine .sl (z := i.size) (u := fun k => if k < es.length then u k else uy (k - es.length)) (by omega) hm hall (fun k hk => (hRall k hk).mono hEv) (fun k hk => ⟨_, rfl, fun j c hj => ?_⟩)
          ⟨e, es.length + ys.length, by simp [Cf.tipTo, upd], by omega, fun _ => .inr ⟨g, cur', by simp [Cf.tipTo], rfl, hheap, hcs.trans hcur⟩⟩
        by_cases q : k < es.length
        · simp only [q, if_true] at hj
          obtain ⟨ad, q1, q2⟩ := hr k q
          cases q1
          exact hrd _ _ (q2 j c hj)
        · simp only [q, if_false] at hj
          have hk' : k - es.length < ys.length := by omega
          have hjz : j < i.size := by
            have := (Array.getElem?_eq_some_iff.1 hj).1
            rw [(huy _ hk').1] at this
            exact this
          have hkz : k * i.size = es.length * i.size + (k - es.length) * i.size := by rw [← Nat.add_mul]; congr 1; omega
          have hkz2 : (k - es.length) * i.size + j < ys.length * i.size := by
            have : (k - es.length + 1) * i.size ≤ ys.length * i.size := Nat.mul_le_mul_right _ hk'
            rw [Nat.succ_mul] at this
            omega
          rw [add_mul_add, Addr.add_lit]
          refine ⟨?_, ?_, fun i' hi' => ?_⟩
          · have c1 : ¬ (0 + (k * i.size + j) < es.length * i.size) := by omega
            have c2 : 0 + (k * i.size + j) < es.length * i.size + news.length := by omega
            simp only [World.cell?, Cf.tipTo, hheap]
            rw [hget, if_neg c1, if_pos c2]
            rw [show 0 + (k * i.size + j) - es.length * i.size = (k - es.length) * i.size + j by omega, hnews _ hk' j hjz]
            exact hj
          · exact (hC.tip id e i.size es.length g hst hσ).choose_spec.2.2 _
          · rw [hσ'] at hi'
            by_cases he : i' = id
            · subst he
              refine .inr ⟨e, i.size, es.length + ys.length, by simp [Cf.tipTo, upd], ?_⟩
              simp only
              omega
            · left
              refine Classical.byContradiction fun hne => he (hC.inj i' id g (fun e => hne ?_) (by rw [hst]; simp) hi' hσ)
              simpa [Cf.tipTo, upd, he] using e
    · -- there is none
      have hold : (Builtin.firstCells i.size es.length (.slice a es.length cap)).run P C.w.drew = .ok (flatU u i.size es.length).toArray C.w.drew := by
        by_cases hne : es.length = 0
        · rw [hne]
          cases a with
          | none => simp [run_firstCells_none, flatU]
          | some ad =>
            have := run_firstCells_some (P := P) C.w.drew i.size 0 ad 0 cap [] (by simp) (fun j v hj => by cases hj)
            simpa [flatU] using this
        · obtain ⟨ad, rfl, _⟩ := hr 0 (by omega)
          refine run_firstCells_some (P := P) C.w.drew i.size es.length ad es.length cap _ (flatU_length ..) (fun k v hk => ?_)
          have := flatU_read (w := C.w) (ad := ad) (fun k hk => (hzu k hk).2) (fun k hk j c hj => by
            obtain ⟨ad', q1, q2⟩ := hr k hk
            cases q1
            exact (q2 j c hj).1) k v hk
          simpa using this
      have hrun := run_append_grow_src (P := P) C.w t tx ty e i zv ht hi hzv a es.length cap (flatU u i.size es.length) hold x ys.length news hs (by omega) (by unfold maxLen at h63; omega) (growslice_fits (by omega) hb)
      have hge := grownCap_ge C.w (es.length + ys.length) cap e
      have hcm : grownCap C.w (es.length + ys.length) cap e ≤ maxLen := grownCap_le_maxLen C.w _ cap e h63
      generalize grownCap C.w (es.length + ys.length) cap e = nc at hrun hge hcm
      generalize hcur' : (flatU u i.size es.length ++ news).toArray ++ Builtin.zeroCells zv.cells (nc - (es.length + ys.length)) = cur' at hrun
      have hcs : cur'.size = nc * i.size := by
        rw [← hcur']
        simp only [Array.size_append, List.size_toArray, List.length_append, flatU_length, hnl, size_zeroCells, hzs, ← Nat.add_mul]
        congr 1
        omega
      have hget : ∀ j, j < es.length * i.size + news.length → cur'[j]? = if j < es.length * i.size then (flatU u i.size es.length)[j]? else news[j - es.length * i.size]? := fun j hj => by
        rw [← hcur']
        rw [Array.getElem?_append_left (by simp [flatU_length]; omega)]
        simp only [List.getElem?_toArray, List.getElem?_append, flatU_length]
      have hheap : (C.w.drew.alloc (.cells cur' e)).heap[C.w.heap.size]? = some (.cells cur' e (0, 0)) := heap_alloc_new C.w.drew _
      have hoth : ∀ b, b < C.w.heap.size → (C.w.drew.alloc (.cells cur' e)).heap[b]? = C.w.heap[b]? := fun b hb => heap_alloc_old C.w.drew _ hb
      have hncz : (es.length + ys.length) * i.size ≤ nc * i.size := Nat.mul_le_mul_right _ hge
      refine ⟨_, _, hrun, C.tipTo id C.w.heap.size e i.size (es.length + ys.length) (C.w.drew.alloc (.cells cur' e)), rfl, rfl, ?_, ?_, ?_⟩
      all_goals
        have hσ' : ∀ i', i' ≠ id → (C.tipTo id C.w.heap.size e i.size (es.length + ys.length) (C.w.drew.alloc (.cells cur' e))).σ i' = C.σ i' := fun i' he => by simp [Cf.tipTo, he]
        have hst' : ∀ i', i' ≠ id → (C.tipTo id C.w.heap.size e i.size (es.length + ys.length) (C.w.drew.alloc (.cells cur' e))).st i' = C.st i' := fun i' he => by simp [Cf.tipTo, upd, he]
        have hfix : ∀ b o, b < C.w.heap.size → C.fix b o → (C.tipTo id C.w.heap.size e i.size (es.length + ys.length) (C.w.drew.alloc (.cells cur' e))).fix b o := fun b o hb h => by
          refine ⟨h.1, fun i' hi' => ?_⟩
          by_cases he : i' = id
          · subst he
            have hi' : (if i' = i' then some C.w.heap.size else C.σ i') = some b := hi'
            rw [if_pos rfl] at hi'
            cases hi'
            omega
          · rw [hσ' _ he] at hi'
            rw [hst' _ he]
            exact h.2 i' hi'
        have hrd : ∀ a v, C.rd a v → (C.tipTo id C.w.heap.size e i.size (es.length + ys.length) (C.w.drew.alloc (.cells cur' e))).rd a v := fun a v h => by
          have hb := World.block_lt_of_cell? _ _ h.1
          exact ⟨(World.cell?_of_block (hoth _ hb)).trans h.1, hfix _ _ hb h.2⟩
        have hEv : Ev C (C.tipTo id C.w.heap.size e i.size (es.length + ys.length) (C.w.drew.alloc (.cells cur' e))) := by
          refine ⟨rfl, rfl, rfl, by simp [Cf.tipTo], rfl, hrd, fun i' cs h => ?_, fun i' e' z' n' h => ?_, fun i' s p h => ?_, fun b hb hfr => hoth _ hb, fun i' b h h' => ?_⟩
          · have he : i' ≠ id := fun he => by subst he; rw [hst] at h; cases h
            exact ⟨hσ' _ he, cs, (hst' _ he).trans h⟩
          · by_cases he : i' = id
            · subst he
              rw [hst] at h; cases h
              exact ⟨es.length + ys.length, by simp [Cf.tipTo, upd], by omega, fun h => by omega⟩
            · refine ⟨n', (hst' _ he).trans h, Nat.le_refl _, fun _ => ⟨hσ' _ he, fun g' cur'' hg' hc' => ⟨cur'', ?_, rfl⟩⟩⟩
              exact (hoth _ (Array.getElem?_eq_some_iff.1 hc').1).trans hc'
          · have he : i' ≠ id := fun he => by subst he; rw [hst] at h; cases h
            exact ⟨hσ' _ he, s, p, (hst' _ he).trans h⟩
          · by_cases he : i' = id
            · subst he
              have h' : (if i' = i' then some C.w.heap.size else C.σ i') = some b := h'
              rw [if_pos rfl] at h'
              cases h'
              exact .inr (Nat.le_refl _)
            · rw [hσ' _ he] at h'
              rw [hst' _ he] at h
              exact .inl ⟨h, h'⟩
      · -- Ok
        refine ⟨fun i' cs h => ?_, fun i' e' z' n' g' h h' => ?_, fun i' s p h => ?_, fun i' j' g' h1 h2 h3 h4 => ?_, fun b o h => ?_, fun i' cs g' o h h' => ?_, hC.gl.mono hEv⟩
        · have he : i' ≠ id := fun he => by subst he; simp [Cf.tipTo, upd] at h
          rw [hst' _ he] at h
          obtain ⟨g', bs, t', q1, q2, q3, q4, q5⟩ := hC.box i' cs h
          exact ⟨g', bs, t', (hσ' _ he).trans q1, (hoth _ (Array.getElem?_eq_some_iff.1 q2).1).trans q2, q3, q4, fun j hj => (q5 j hj).mono hEv⟩
        · by_cases he : i' = id
          · subst he
            have h' : (if i' = i' then some C.w.heap.size else C.σ i') = some g' := h'
            rw [if_pos rfl] at h'
            cases h'
            have h : Ent.tip e i.size (es.length + ys.length) = .tip e' z' n' := by simpa [Cf.tipTo, upd] using h
            cases h
            exact ⟨cur', hheap, by rw [hcs]; exact hncz, fun o ha => by have := hC.avl _ _ ha; omega⟩
          · rw [hst' _ he] at h
            rw [hσ' _ he] at h'
            obtain ⟨cur'', q1, q2⟩ := hC.tip i' e' z' n' g' h h'
            exact ⟨cur'', (hoth _ (Array.getElem?_eq_some_iff.1 q1).1).trans q1, q2⟩
        · have he : i' ≠ id := fun he => by subst he; simp [Cf.tipTo, upd] at h
          rw [hst' _ he] at h
          obtain ⟨g', q1, q2⟩ := hC.iter i' s p h
          exact ⟨g', (hσ' _ he).trans q1, (hoth _ (Array.getElem?_eq_some_iff.1 q2).1).trans q2⟩
        · by_cases e1 : i' = id <;> by_cases e2 : j' = id
          · exact e1.trans e2.symm
          · subst e1
            have h3 : (if i' = i' then some C.w.heap.size else C.σ i') = some g' := h3
            rw [if_pos rfl] at h3
            cases h3
            rw [hσ' _ e2] at h4
            rw [hst' _ e2] at h2
            have := hC.lt h2 h4
            omega
          · subst e2
            have h4 : (if j' = j' then some C.w.heap.size else C.σ j') = some g' := h4
            rw [if_pos rfl] at h4
            cases h4
            rw [hσ' _ e1] at h3
            rw [hst' _ e1] at h1
            have := hC.lt h1 h3
            omega
          · rw [hσ' _ e1] at h3
            rw [hst' _ e1] at h1
            rw [hσ' _ e2] at h4
            rw [hst' _ e2] at h2
            exact hC.inj i' j' g' h1 h2 h3 h4
        · exact Nat.lt_of_lt_of_le (hC.avl b o h) (by simp [Cf.tipTo])
        · have he : i' ≠ id := fun he => by subst he; simp [Cf.tipTo, upd] at h
          rw [hσ' _ he] at h'
          rw [hst' _ he] at h
          exact hC.bav i' cs g' o h h'
      · exact hEv
      · -- R
        have hlen : (es ++ ys).length = es.length + ys.length := List.length_append
        refine R.cast_len hlen ?_
        refine .sl (z := i.size) (u := fun k => if k < es.length then u k else uy (k - es.length)) (by omega) hcm hall (fun k hk => (hRall k hk).mono hEv) (fun k hk => ⟨_, rfl, fun j c hj => ?_⟩)
          ⟨e, es.length + ys.length, by simp [Cf.tipTo, upd], by omega, fun _ => .inr ⟨C.w.heap.size, cur', by simp [Cf.tipTo], rfl, hheap, hcs⟩⟩
        have hjz : j < i.size := by
          have := (Array.getElem?_eq_some_iff.1 hj).1
          rw [(hall k hk).2] at this
          exact this
        have hkb : k * i.size + j < es.length * i.size + ys.length * i.size := by
          have : (k + 1) * i.size ≤ (es.length + ys.length) * i.size := Nat.mul_le_mul_right _ (by omega)
          rw [Nat.succ_mul] at this
          omega
        rw [add_mul_add, Addr.add_lit]
        refine ⟨?_, fun ha => absurd (hC.avl _ _ ha) (Nat.lt_irrefl _), fun i' hi' => ?_⟩
        · simp only [World.cell?, Cf.tipTo, hheap]
          rw [hget _ (by omega), Nat.zero_add]
          by_cases q : k < es.length
          · have : (k + 1) * i.size ≤ es.length * i.size := Nat.mul_le_mul_right _ q
            rw [Nat.succ_mul] at this
            have c1 : k * i.size + j < es.length * i.size := by omega
            rw [if_pos c1, flatU_get q hjz]
            simp only [q, if_true] at hj
            rw [← hj]
            have := (Array.getElem?_eq_some_iff.1 hj).1
            simp [this]
          · simp only [q, if_false] at hj
            have hk' : k - es.length < ys.length := by omega
            have hkz : k * i.size = es.length * i.size + (k - es.length) * i.size := by rw [← Nat.add_mul]; congr 1; omega
            have c1 : ¬ (k * i.size + j < es.length * i.size) := by omega
            rw [if_neg c1, show k * i.size + j - es.length * i.size = (k - es.length) * i.size + j by omega, hnews _ hk' j hjz]
            exact hj
        · by_cases he : i' = id
          · subst he
            refine .inr ⟨e, i.size, es.length + ys.length, by simp [Cf.tipTo, upd], ?_⟩
            simp only
            omega
          · rw [hσ' _ he] at hi'
            left
            rw [hst' _ he]
            refine Classical.byContradiction fun hne => ?_
            have := hC.lt hne hi'
            simp only at this
            omega
end

/-! ### The operations -/
/-- Values that may be stored, of z cells each. -/
def allZ (z : Nat) (ys : List V) : Bool := ys.all fun y => y.live && (y.size == z)
def allS (z : Nat) (ys : List V) : Bool := ys.all fun y => y.size == z
theorem allZ_nil {z : Nat} : allZ z [] = true := rfl
theorem allZ_cons {z : Nat} {x : V} {l : List V} : allZ z (x :: l) = (x.live && (x.size == z) && allZ z l) := rfl
theorem allS_nil {z : Nat} : allS z [] = true := rfl
theorem allS_cons {z : Nat} {x : V} {l : List V} : allS z (x :: l) = ((x.size == z) && allS z l) := rfl
def byOf (P : Program) (t : TypeId) : Option Nat := (P.info? t).map (·.bytes)
theorem src_sl {P : Program} {C : Cf} {ys : List V} {k : Slk} {v : Value} {z : Nat} {tx e2 : TypeId} (htx : P.underlying tx = some (.slice e2)) (h : R C (.sl ys k) v) (hz : allZ z ys = true) :
    ∃ uy, Src P z tx v ys.length (flatU uy z ys.length) C.w ∧ ∀ k (hk : k < ys.length), (uy k).cells.size = z ∧ ys[k].size = z ∧ R C ys[k] (uy k) := by
  unfold allZ at hz
  rw [List.all_eq_true] at hz
  cases h with
  | @sl _ _ a cap z' u hc hm hzs h0 hr hk =>
    have hy : ∀ k (hk : k < ys.length), (u k).cells.size = z ∧ ys[k].size = z ∧ R C ys[k] (u k) := fun k hk => by
      have h1 := hz _ (List.getElem_mem hk)
      simp only [Bool.and_eq_true, beq_iff_eq] at h1
      exact ⟨((h0 k hk).live h1.1).1.trans h1.2, h1.2, h0 k hk⟩
    refine ⟨u, ?_, hy⟩
    have one : ∀ x ∈ flatU u z ys.length, x.oneCell' = true := fun x hx => by
      obtain ⟨k, hk, rfl⟩ := List.getElem_of_mem hx
      obtain ⟨i, j, hi, hj, _, e⟩ := flatU_inv (List.getElem?_eq_getElem hk)
      rw [e]
      have h1 := hz _ (List.getElem_mem hi)
      simp only [Bool.and_eq_true, beq_iff_eq] at h1
      exact (((h0 i hi).live h1.1).2 j (by have := h1.2; unfold V.size at this; omega)).1
    by_cases hne : ys.length = 0
    · rw [hne]
      have e0 : flatU u z 0 = [] := by simp [flatU]
      rw [e0]
      cases a with
      | none => exact Src.ofNil C.w htx cap
      | some ad => exact Src.ofSlice C.w htx ad 0 cap [] (by simp) (fun j v hj => by cases hj) (fun v hv => by cases hv)
    · obtain ⟨ad, rfl, _⟩ := hr 0 (by omega)
      have hzz : ∀ k, k < ys.length → z' = z := fun k hk => by rw [← (hzs k hk).1]; exact (hy k hk).2.1
      refine Src.ofSlice C.w htx ad ys.length cap _ (flatU_length ..) (flatU_read (fun k hk => (hy k hk).1) fun k hk j c hj => ?_) one
      obtain ⟨ad', q1, q2⟩ := hr k hk
      cases q1
      rw [← hzz k hk]
      exact (q2 j c hj).1
/-- A string's bytes, as trees. -/
def byV (s : ByteArray) : List V := s.data.toList.map fun b => V.im (.int .u8 b.toNat)
theorem byV_length (s : ByteArray) : (byV s).length = s.size := by
  unfold byV
  rw [List.length_map, Array.length_toList]
  rfl
theorem src_str {P : Program} {C : Cf} {s : ByteArray} {tx : TypeId} (htx : P.underlying tx = some .string) :
    ∃ uy, Src P 1 tx (.string s) (byV s).length (flatU uy 1 (byV s).length) C.w ∧ ∀ k (hk : k < (byV s).length), (uy k).cells.size = 1 ∧ (byV s)[k].size = 1 ∧ R C (byV s)[k] (uy k) := by
  refine ⟨fun k => (byteCells s).getD k undef, ?_, fun k hk => ?_⟩
  · have e : flatU (fun k => (byteCells s).getD k undef) 1 (byV s).length = byteCells s := by
      refine List.ext_getElem (by rw [flatU_length, byteCells_length, byV_length, Nat.mul_one]) fun k h1 h2 => ?_
      have : (byteCells s)[k].cells = #[(byteCells s)[k]] := by simp [byteCells, Value.cells]
      simp [flatU, Nat.mod_one, this, h2, List.getD]
    rw [e, byV_length]
    exact Src.ofString C.w htx s
  · have hk' : k < (byteCells s).length := by rw [byteCells_length, ← byV_length]; exact hk
    have e : (byteCells s).getD k undef = (byteCells s)[k] := by simp [List.getD, hk']
    have e2 : (byteCells s)[k] = .int .u8 (s.data.toList[k]'(by simpa [byteCells] using hk')).toNat := by simp [byteCells]
    simp only [e, e2, byV, List.getElem_map]
    exact ⟨rfl, rfl, .im rfl⟩
section
variable {P : Program} {o : Oper} {ev : Operand → V}
theorem zr_of_al {t : TypeId} {cs : List V} {z : Nat} {i : TypeInfo} (hi : P.info? t = some i) (h : alOf P t = some cs) (hl : cs.length = z) : ∃ zv, i.zero = some zv ∧ zv.cells.size = z := by
  unfold alOf zrOf at h
  rw [hi] at h
  simp only [Option.bind_some] at h
  cases hz : i.zero with
  | none => rw [hz] at h; cases h
  | some zv =>
    rw [hz] at h
    simp only [Option.bind_some] at h
    split at h
    · cases h
      exact ⟨zv, rfl, by rw [← hl]; simp⟩
    · cases h
/-- What is asked of the lists of an append. -/
def apOk (P : Program) (e : TypeId) (n m : Nat) : Option Nat :=
  match szOf P e with
  | some z => match byOf P e with
    | some b => match alOf P e with
      | some cs => if cs.length = z ∧ 0 < z ∧ 0 < b ∧ (n + m) * b ≤ 140737488355328 then some z else none
      | none => none
    | none => none
  | none => none
theorem apOk_spec {e : TypeId} {n m z : Nat} (h : apOk P e n m = some z) : ∃ i zv, P.info? e = some i ∧ i.size = z ∧ i.zero = some zv ∧ zv.cells.size = z ∧ 0 < z ∧ n + m ≤ maxLen ∧ (n + m) * i.bytes ≤ 140737488355328 := by
  unfold apOk at h
  split at h
  · rename_i z' h1
    split at h
    · rename_i b h2
      split at h
      · rename_i cs h3
        split at h
        · rename_i h4
          cases h
          unfold szOf at h1
          unfold byOf at h2
          cases hi : P.info? e with
          | none => rw [hi] at h1; cases h1
          | some i =>
            rw [hi] at h1 h2
            simp only [Option.map_some, Option.some.injEq] at h1 h2
            obtain ⟨zv, h5, h6⟩ := zr_of_al hi h3 h4.1
            refine ⟨i, zv, rfl, h1, h5, h6, h4.2.1, ?_, by rw [h2]; exact h4.2.2.2⟩
            have := Nat.le_mul_of_pos_right (n + m) h4.2.2.1
            unfold maxLen
            omega
        · cases h
      · cases h
    · cases h
  · cases h
theorem run_op_append {ρ : Operand → Value} {w : World} {s x : Operand} {t tx : TypeId} (ho : o.op = .call { callee := .builtin .append, args := #[s, x], argTypes := #[t, tx] }) {v : Value} {w' : World}
    (h : (Builtin.append_ #[t, tx] o.type #[ρ s, ρ x]).run P w = .ok v w') : (execOp ρ o).run P w = .ok (.value v) w' := by
  simp [execOp, ho, resolve, invoke, builtin, h]
theorem good_append' {C : Cf} {id : Nat} {e t tx ty : TypeId} {n z : Nat} {es ys : List V} {vs vx : Value} (hC : Ok C) (hst : C.st id = .tip e z n) (ht : elOf P t = some e) (hap : apOk P e n ys.length = some z) (hs : R C (.sl es (.own id)) vs) (hn : es.length = n)
    (hx : ∃ uy, Src P z tx vx ys.length (flatU uy z ys.length) C.w ∧ ∀ k (hk : k < ys.length), (uy k).cells.size = z ∧ ys[k].size = z ∧ R C ys[k] (uy k)) :
    ∃ v w', (Builtin.append_ #[t, tx] ty #[vs, vx]).run P C.w = .ok v w' ∧ Good C (wrs C.st [(id, .tip e z (n + ys.length))]) (.sl (es ++ ys) (.own id)) w' v := by
  obtain ⟨i, zv, a1, a2, a3, a4, a5, a6, a7⟩ := apOk_spec hap
  obtain ⟨uy, b1, b2⟩ := hx
  have hs' := hs
  cases hs with
  | @sl _ _ a cap z' u hc hm hzs h0 hr hk =>
    exact good_append hC hst (elOf_spec ht) a1 a2 a3 a4 a5 hs' hn b1 (fun k hk j hj => by
      rw [flatU_get hk hj]
      have : j < (uy k).cells.size := by rw [(b2 k hk).1]; exact hj
      simp [this]) b2 a6 a7
theorem step_append_own {s x : Operand} {t tx e : TypeId} {es ys : List V} {id n z : Nat} (ho : o.op = .call { callee := .builtin .append, args := #[s, x], argTypes := #[t, tx] }) (hs : ev s = .sl es (.own id)) (ht : elOf P t = some e)
    (hx : (∃ k e2, ev x = .sl ys k ∧ elOf P tx = some e2 ∧ allZ z ys = true) ∨ ∃ b, ev x = .im (.string b) ∧ P.underlying tx = some .string ∧ ys = byV b ∧ z = 1) (hn : es.length = n) (hap : apOk P e n ys.length = some z) :
    Step P o ev [(id, .tip e z n)] ⟨.sl (es ++ ys) (.own id), [(id, .tip e z (n + ys.length))]⟩ := by
  intro C ρ hC hR hf
  have hst : C.st id = .tip e z n := hf (id, .tip e z n) (by simp)
  have h1 := hR s (by simp [ho, Op.operands, Call.operands])
  have h2 := hR x (by simp [ho, Op.operands, Call.operands])
  rw [hs] at h1
  obtain ⟨v, w', k1, k2⟩ := good_append' (P := P) (t := t) (tx := tx) (ty := o.type) (vx := ρ x) hC hst ht hap h1 hn (by
    rcases hx with ⟨k, e2, q1, q2, q3⟩ | ⟨b, q1, q2, rfl, rfl⟩
    · rw [q1] at h2
      exact src_sl (elOf_spec q2) h2 q3
    · rw [q1] at h2
      rw [h2.im_eq]
      exact src_str q2)
  rw [run_op_append ho k1]
  exact k2
theorem step_append_full {s x : Operand} {t tx e : TypeId} {es ys : List V} {kk : Slk} {id z : Nat} (hkk : kk = .full ∨ kk = .nl) (ho : o.op = .call { callee := .builtin .append, args := #[s, x], argTypes := #[t, tx] }) (hs : ev s = .sl es kk) (ht : elOf P t = some e) (hes : allS z es = true)
    (hx : (∃ k e2, ev x = .sl ys k ∧ elOf P tx = some e2 ∧ allZ z ys = true) ∨ ∃ b, ev x = .im (.string b) ∧ P.underlying tx = some .string ∧ ys = byV b ∧ z = 1) (hap : apOk P e es.length ys.length = some z) :
    Step P o ev [(id, .free)] ⟨.sl (es ++ ys) (.own id), [(id, .tip e z (es.length + ys.length))]⟩ := by
  intro C ρ hC hR hf
  have hst : C.st id = .free := hf (id, .free) (by simp)
  have h1 := hR s (by simp [ho, Op.operands, Call.operands])
  have h2 := (hR x (by simp [ho, Op.operands, Call.operands])).mono (Ev.ghost (e := e) (z := z) (n := es.length) hst)
  rw [hs] at h1
  have h1 := R.ghost (e := e) (z := z) hkk hst h1 (fun y hy => by
    have := List.all_eq_true.1 hes y hy
    simpa using this)
  obtain ⟨v, w', k1, k2⟩ := good_append' (P := P) (t := t) (tx := tx) (ty := o.type) (vx := ρ x) (n := es.length) (hC.ghost hst) (by simp [Cf.ghost, upd]) ht hap h1 rfl (by
    rcases hx with ⟨k, e2, q1, q2, q3⟩ | ⟨b, q1, q2, rfl, rfl⟩
    · rw [q1] at h2
      exact src_sl (elOf_spec q2) h2 q3
    · rw [q1] at h2
      rw [h2.im_eq]
      exact src_str q2)
  have k1 : (Builtin.append_ #[t, tx] o.type #[ρ s, ρ x]).run P C.w = .ok v w' := k1
  rw [run_op_append ho k1]
  obtain ⟨D, q1, q2, q3, q4, q5⟩ := k2
  refine ⟨D, q1, q2.trans ?_, q3, (Ev.ghost hst).trans q4, q5⟩
  funext j
  simp only [wrs, upd, Cf.ghost]
  split <;> rfl

/-! #### slices of slices -/
/-- The bounds of a slice expression: lower, upper, and the new capacity's end, if it is told. -/
def slB (len : Nat) (lo hi mx : Option Int) : Option (Nat × Nat × Option Nat) :=
  match mx with
  | none => if 0 ≤ lo.getD 0 ∧ lo.getD 0 ≤ hi.getD len ∧ hi.getD len ≤ len then some ((lo.getD 0).toNat, (hi.getD len).toNat, none) else none
  | some m => if hi.isSome = true ∧ 0 ≤ lo.getD 0 ∧ lo.getD 0 ≤ hi.getD len ∧ hi.getD len ≤ m ∧ m ≤ len then some ((lo.getD 0).toNat, (hi.getD len).toNat, some m.toNat) else none
def intOf (ev : Operand → V) : Option Operand → Option (Option Int)
  | none => some none
  | some x => match ev x with
    | .im (.int _ n) => some (some n)
    | _ => none
theorem intOf_val {C : Cf} {ρ : Operand → Value} {x : Option Operand} {n : Option Int} (h : intOf ev x = some n) (hR : ∀ y, x = some y → R C (ev y) (ρ y)) : (x = none ∧ n = none) ∨ ∃ y k m, x = some y ∧ n = some m ∧ ρ y = .int k m := by
  cases x with
  | none => left; cases h; exact ⟨rfl, rfl⟩
  | some y =>
    right
    have h1 := hR y rfl
    unfold intOf at h
    simp only at h
    split at h
    · rename_i k m he
      cases h
      rw [he] at h1
      exact ⟨y, k, m, rfl, rfl, h1.im_eq⟩
    · cases h
theorem run_bounds {b : Bool} {len cap : Nat} {lo hi mx : Option Int} {l h : Nat} {m : Option Nat} (hc : len ≤ cap) (hb : slB len lo hi mx = some (l, h, m)) {lv hv mv : Option Value} (h1 : (lv = none ∧ lo = none) ∨ ∃ k n, lv = some (.int k n) ∧ lo = some n)
    (h2 : (hv = none ∧ hi = none) ∨ ∃ k n, hv = some (.int k n) ∧ hi = some n) (h3 : (mv = none ∧ mx = none) ∨ ∃ k n, mv = some (.int k n) ∧ mx = some n) (w : World) :
    (Instr.sliceBounds b len cap lv hv mv).run P w = .ok (l, h, m.getD cap) w ∧ l ≤ h ∧ h ≤ m.getD cap ∧ h ≤ len ∧ m.getD cap ≤ cap ∧ (∀ q, m = some q → q ≤ len) := by
  unfold slB at hb
  rcases h3 with ⟨rfl, rfl⟩ | ⟨km, nm, rfl, rfl⟩
  · simp only at hb
    split at hb
    · rename_i q
      simp only [Option.some.injEq, Prod.mk.injEq] at hb
      obtain ⟨rfl, rfl, rfl⟩ := hb
      rcases h1 with ⟨rfl, rfl⟩ | ⟨kl, nl, rfl, rfl⟩ <;> rcases h2 with ⟨rfl, rfl⟩ | ⟨kh, nh, rfl, rfl⟩ <;> simp only [Option.getD_none, Option.getD_some] at q ⊢ <;>
        refine ⟨?_, by omega, by omega, by omega, by omega, fun _ h => by cases h⟩
      · simp [Instr.sliceBounds]
      · have e : (nh.toNat : Int) = nh := Int.toNat_of_nonneg (by omega)
        simp [Instr.sliceBounds, run_sliceBound, (by omega : 0 ≤ nh), (by omega : nh ≤ cap)]
      · simp [Instr.sliceBounds, run_sliceBound, (by omega : 0 ≤ nl), (by omega : nl ≤ len)]
      · have e : (nh.toNat : Int) = nh := Int.toNat_of_nonneg (by omega)
        simp [Instr.sliceBounds, run_sliceBound, (by omega : 0 ≤ nh), (by omega : nh ≤ cap), (by omega : 0 ≤ nl), e, (by omega : nl ≤ nh)]
    · cases hb
  · simp only at hb
    split at hb
    · rename_i q
      simp only [Option.some.injEq, Prod.mk.injEq] at hb
      obtain ⟨rfl, rfl, rfl⟩ := hb
      rcases h2 with ⟨rfl, rfl⟩ | ⟨kh, nh, rfl, rfl⟩
      · simp at q
      · rcases h1 with ⟨rfl, rfl⟩ | ⟨kl, nl, rfl, rfl⟩ <;> simp only [Option.getD_none, Option.getD_some] at q ⊢ <;>
          refine ⟨?_, by omega, by omega, by omega, by omega, fun _ h => by cases h; omega⟩
        · have e : (nm.toNat : Int) = nm := Int.toNat_of_nonneg (by omega)
          simp [Instr.sliceBounds, run_sliceBound, (by omega : 0 ≤ nh), (by omega : nm ≤ cap), (by omega : 0 ≤ nm), e, (by omega : nh ≤ nm)]
        · have e : (nh.toNat : Int) = nh := Int.toNat_of_nonneg (by omega)
          have e' : (nm.toNat : Int) = nm := Int.toNat_of_nonneg (by omega)
          simp [Instr.sliceBounds, run_sliceBound, (by omega : 0 ≤ nh), (by omega : nm ≤ cap), (by omega : 0 ≤ nm), e, e', (by omega : nh ≤ nm), (by omega : 0 ≤ nl), (by omega : nl ≤ nh)]
    · cases hb
/-- What is known of the capacity of a slice of a slice. -/
def slK (len l h : Nat) (m : Option Nat) (k : Slk) : Slk :=
  match m with
  | some m => if h = m then .full else .ro
  | none => if h = len then (match k with | .full => .full | .own id => if l = 0 then .own id else .ro | .nl => .nl | .nn => .nn | .nz => .nz | .ro => .ro) else .ro
theorem step_slice_sl {t e : TypeId} {z : Nat} {x : Operand} {lo hi mx : Option Operand} {lo' hi' mx' : Option Int} {es : List V} {k : Slk} {l h : Nat} {m : Option Nat} (ho : o.op = .slice t x lo hi mx) (hx : ev x = .sl es k) (ht : elOf P t = some e) (hz : szOf P e = some z) (hes : allS z es = true)
    (h1 : intOf ev lo = some lo') (h2 : intOf ev hi = some hi') (h3 : intOf ev mx = some mx') (hb : slB es.length lo' hi' mx' = some (l, h, m)) : Step P o ev [] ⟨.sl ((es.drop l).take (h - l)) (slK es.length l h m k), []⟩ :=
  Step.look fun C ρ hC hR _ => by
    have r0 := hR x (by simp [ho, Op.operands])
    have r1 := intOf_val (C := C) (ρ := ρ) h1 (fun y e => hR y (by simp [ho, Op.operands, e]))
    have r2 := intOf_val (C := C) (ρ := ρ) h2 (fun y e => hR y (by simp [ho, Op.operands, e]))
    have r3 := intOf_val (C := C) (ρ := ρ) h3 (fun y e => hR y (by simp [ho, Op.operands, e]))
    rw [hx] at r0
    generalize hu : ρ x = u at r0
    have conv : ∀ {x : Option Operand} {n : Option Int}, ((x = none ∧ n = none) ∨ ∃ y k m, x = some y ∧ n = some m ∧ ρ y = .int k m) → (x.map ρ = none ∧ n = none) ∨ ∃ k m, x.map ρ = some (.int k m) ∧ n = some m := fun {x n} h => by
      rcases h with ⟨rfl, rfl⟩ | ⟨y, k, m, rfl, rfl, h⟩
      · exact .inl ⟨rfl, rfl⟩
      · exact .inr ⟨k, m, by simp [h], rfl⟩
    cases r0 with
    | @sl _ _ a cap z' us hc hm hzs h0 hr hk =>
      obtain ⟨b1, b2, b3, b4, b5, b6⟩ := run_bounds (P := P) (b := true) hc hb (conv r1) (conv r2) (conv r3) C.w
      have hel := elOf_spec ht
      have hrun : (execOp ρ o).run P C.w = .ok (.value (.slice (if m.getD cap = l then a else a.map (·.add (l * z))) (h - l) (m.getD cap - l))) C.w := by
        have e1 : (Instr.slice t (.slice a es.length cap) (lo.map ρ) (hi.map ρ) (mx.map ρ)).run P C.w = .ok (.slice (if m.getD cap = l then a else a.map (·.add (l * z))) (h - l) (m.getD cap - l)) C.w := by
          simp only [Instr.slice, Sem.run_bind, run_underlying hel, Result.andThen_ok, b1, run_sizeOf hz, Sem.run_pure]
        simp [execOp, ho, hu, Instr.sliceAt, run_underlying hel, e1]
      refine ⟨_, hrun, ?_⟩
      have hsz : ∀ i, i < es.length → z' = z := fun i hi => by
        have := List.all_eq_true.1 hes _ (List.getElem_mem hi)
        rw [← (hzs i hi).1]
        simpa using this
      have hlen : ((es.drop l).take (h - l)).length = h - l := by simp; omega
      have hget : ∀ i (hi : i < ((es.drop l).take (h - l)).length), ∃ hj : l + i < es.length, ((es.drop l).take (h - l))[i] = es[l + i] := fun i hi => by
        rw [hlen] at hi
        exact ⟨by omega, by simp⟩
      have hko : KO C (slK es.length l h m k) (if m.getD cap = l then a else a.map (·.add (l * z))) ((es.drop l).take (h - l)).length (m.getD cap - l) z' := by
        rw [hlen]
        unfold slK
        cases m with
        | some q =>
          simp only [Option.getD_some] at b3 b5 ⊢
          split
          · rename_i e; show q - l = h - l; omega
          · trivial
        | none =>
          simp only [Option.getD_none] at b3 b5 ⊢
          split
          · rename_i e
            cases k with
            | ro => trivial
            | nl =>
              have hk : a = none ∧ cap = es.length := hk
              obtain ⟨hk1, hk2⟩ := hk
              subst hk1
              refine ⟨?_, by omega⟩
              split <;> rfl
            | nz =>
              have hk : a = none := hk
              subst hk
              show (if _ then _ else _) = none
              split <;> rfl
            | nn =>
              have hk : a ≠ none := hk
              show (if _ then _ else _) ≠ none
              split
              · exact hk
              · cases a with
                | none => exact absurd rfl hk
                | some ad => simp
            | full => 
              have hk : cap = es.length := hk
              show cap - l = h - l
              omega
            | own id =>
              simp only
              split
              · rename_i e2
                subst e2 e
                obtain ⟨e', n, q1, q2, q3⟩ := hk
                refine ⟨e', n, q1, by omega, fun hn => ?_⟩
                rcases q3 (by omega) with ⟨s1, s2⟩ | ⟨g, cur, s1, s2, s3, s4⟩
                · exact .inl ⟨s1, by omega⟩
                · right
                  subst s2
                  refine ⟨g, cur, s1, ?_, s3, by simpa using s4⟩
                  split
                  · rfl
                  · simp [Addr.add]
              · trivial
          · trivial
      refine R.cast_len hlen ?_
      refine .sl (z := z') (u := fun i => us (l + i)) (by omega) (by omega) (fun i hi => ?_) (fun i hi => ?_) (fun i hi => ?_) hko
      · obtain ⟨hj, e⟩ := hget i hi
        rw [e]
        exact hzs _ hj
      · obtain ⟨hj, e⟩ := hget i hi
        rw [e]
        exact h0 _ hj
      · obtain ⟨hj, e⟩ := hget i hi
        obtain ⟨ad, q1, q2⟩ := hr _ hj
        subst q1
        have : m.getD cap ≠ l := by omega
        refine ⟨ad.add (l * z), by simp [this], fun j c hjc => ?_⟩
        have := q2 j c hjc
        rw [add_mul_add] at this ⊢
        rw [← hsz _ hj, Addr.add_add, ← Nat.add_assoc, ← Nat.add_mul]
        exact this
theorem step_slice_str {t : TypeId} {x : Operand} {lo hi : Option Operand} {lo' hi' : Option Int} {s : ByteArray} {l h : Nat} (ho : o.op = .slice t x lo hi none) (hx : ev x = .im (.string s)) (ht : P.underlying t = some .string)
    (h1 : intOf ev lo = some lo') (h2 : intOf ev hi = some hi') (hb : slB s.size lo' hi' none = some (l, h, none)) : Step P o ev [] ⟨.im (.string (s.extract l h)), []⟩ :=
  Step.look fun C ρ hC hR _ => by
    have r0 := hR x (by simp [ho, Op.operands])
    have r1 := intOf_val (C := C) (ρ := ρ) h1 (fun y e => hR y (by simp [ho, Op.operands, e]))
    have r2 := intOf_val (C := C) (ρ := ρ) h2 (fun y e => hR y (by simp [ho, Op.operands, e]))
    rw [hx] at r0
    have e0 : ρ x = .string s := r0.im_eq
    have conv : ∀ {x : Option Operand} {n : Option Int}, ((x = none ∧ n = none) ∨ ∃ y k m, x = some y ∧ n = some m ∧ ρ y = .int k m) → (x.map ρ = none ∧ n = none) ∨ ∃ k m, x.map ρ = some (.int k m) ∧ n = some m := fun {x n} h => by
      rcases h with ⟨rfl, rfl⟩ | ⟨y, k, m, rfl, rfl, h⟩
      · exact .inl ⟨rfl, rfl⟩
      · exact .inr ⟨k, m, by simp [h], rfl⟩
    obtain ⟨b1, _⟩ := run_bounds (P := P) (b := false) (Nat.le_refl _) hb (conv r1) (conv r2) (.inl ⟨rfl, rfl⟩) C.w
    refine ⟨.string (s.extract l h), ?_, .im rfl⟩
    have e1 : (Instr.slice t (.string s) (lo.map ρ) (hi.map ρ) none).run P C.w = .ok (.string (s.extract l h)) C.w := by
      simp [Instr.slice, run_underlying ht, b1]
    simp [execOp, ho, e0, Instr.sliceAt, run_underlying ht, e1]

/-! #### slices and structs, compared -/
def nilK (es : List V) (k : Slk) : Option Bool :=
  match k with
  | .nl => some true
  | .nn => some false
  | .nz => some true
  | _ => match es with
    | _ :: _ => some false
    | [] => none
theorem step_eqnil {t e u : TypeId} {x y : Operand} {es fs : List V} {k : Slk} {b : Bool} {op : BinOp} (hop : op = .eql ∨ op = .neq) (ho : o.op = .binOp op t x y u) (hx : ev x = .sl es k) (hy : ev y = .sl fs .nl) (ht : elOf P t = some e) (hb : nilK es k = some b) :
    Step P o ev [] ⟨.im (.bool (match op with | .eql => b | _ => !b)), []⟩ :=
  Step.look fun C ρ hC hR _ => by
    have h1 := hR x (by simp [ho, Op.operands])
    have h2 := hR y (by simp [ho, Op.operands])
    rw [hx] at h1
    rw [hy] at h2
    generalize hu : ρ x = v at h1
    generalize hv : ρ y = v' at h2
    cases h1 with
    | @sl _ _ a cap z us hc hm hzs h0 hr hk =>
      cases h2 with
      | @sl _ _ a' cap' z' us' hc' hm' hzs' h0' hr' hk' =>
        have hel := elOf_spec ht
        obtain ⟨rfl, hk'⟩ : a' = none ∧ cap' = fs.length := hk'
        have hn : a.isNone = b := by
          cases k with
          | nl =>
            obtain ⟨rfl, _⟩ : a = none ∧ cap = es.length := hk
            cases hb
            rfl
          | nz =>
            have hk : a = none := hk
            cases hb
            rw [hk]
            rfl
          | nn =>
            have hk : a ≠ none := hk
            cases hb
            cases a with
            | none => exact absurd rfl hk
            | some _ => rfl
          | _ =>
            cases es with
            | nil => cases hb
            | cons y l =>
              cases hb
              obtain ⟨ad, rfl, _⟩ := hr 0 (by simp)
              rfl
        have heq : (Op.equal t (.slice a es.length cap) (.slice none fs.length cap')).run P C.w = .ok b C.w := by
          rw [← hn]
          have key : ∀ d, (Op.equalIn (d + 1) t (.slice a es.length cap) (.slice none fs.length cap')).run P C.w = .ok a.isNone C.w := fun d => by cases a <;> simp [Op.equalIn, run_underlying hel]
          exact key 9999
        refine ⟨_, ?_, .im rfl⟩
        rcases hop with rfl | rfl
        · simp [execOp, ho, hu, hv, eqGuard, binOp, heq]
        · simp [execOp, ho, hu, hv, eqGuard, binOp, heq]
/-- The fields of a struct that is compared: where they lie; 0: an integer, 1: a string, 2: a bool. -/
def eqK (P : Program) (t : TypeId) : Option (List (Nat × Nat)) :=
  match P.underlying t with
  | some (.struct fs) => if P.stoodInHeld t = false ∧ P.eqGuardType P.depth t = false then fs.toList.mapM fun f => if f.name = "_" then none else match P.underlying f.type with
      | some (.int _) => some (f.offset, 0)
      | some .string => some (f.offset, 1)
      | some .bool => some (f.offset, 2)
      | _ => none
    else none
  | _ => none
def eqC (k : Nat) (a b : V) : Option Bool :=
  match a with
  | .im (.int q m) => match b with
    | .im (.int q' n) => if k = 0 ∧ q = q' then some (decide (m = n)) else none
    | _ => none
  | .im (.string m) => match b with
    | .im (.string n) => if k = 1 then some (m.toList == n.toList) else none
    | _ => none
  | .im (.bool m) => match b with
    | .im (.bool n) => if k = 2 then some (m == n) else none
    | _ => none
  | _ => none
def eqF (cs ds : List V) : List (Nat × Nat) → Option Bool
  | [] => some true
  | p :: l => match cs[p.1]? with
    | some a => match ds[p.1]? with
      | some b => match eqC p.2 a b with
        | some r => match eqF cs ds l with
          | some q => some (r && q)
          | none => none
        | none => none
      | none => none
    | none => none
theorem eqFields_sound {C : Cf} {cs ds : List V} {us vs : Array Value} (hc : us.size = cs.length) (hd : vs.size = ds.length) (h1 : ∀ i (hi : i < cs.length), R C cs[i] (us.getD i undef)) (h2 : ∀ i (hi : i < ds.length), R C ds[i] (vs.getD i undef)) (n : Nat) (w : World) :
    ∀ (fs : List Field) (ks : List (Nat × Nat)) (r : Bool), (fs.mapM fun f => if f.name = "_" then none else match P.underlying f.type with
      | some (.int _) => some (f.offset, 0)
      | some .string => some (f.offset, 1)
      | some .bool => some (f.offset, 2)
      | _ => none) = some ks → eqF cs ds ks = some r → (Op.eqFields (n + 1) us vs fs).run P w = .ok r w
  | [], ks, r, hk, hr => by
    simp only [List.mapM_nil] at hk
    cases hk
    cases hr
    rfl
  | f :: fs, ks, r, hk, hr => by
    rw [List.mapM_cons] at hk
    cases hf : (if f.name = "_" then none else match P.underlying f.type with
      | some (.int _) => some (f.offset, 0)
      | some .string => some (f.offset, 1)
      | some .bool => some (f.offset, 2)
      | _ => none : Option (Nat × Nat)) with
    | none => rw [hf] at hk; cases hk
    | some p =>
      rw [hf] at hk
      cases hl : (fs.mapM fun f => if f.name = "_" then none else match P.underlying f.type with
        | some (.int _) => some (f.offset, 0)
        | some .string => some (f.offset, 1)
        | some .bool => some (f.offset, 2)
        | _ => none : Option (List (Nat × Nat))) with
      | none => rw [hl] at hk; cases hk
      | some l =>
        rw [hl] at hk
        cases hk
        unfold eqF at hr
        split at hr
        case h_2 => cases hr
        rename_i a ha
        split at hr
        case h_2 => cases hr
        rename_i b hb
        split at hr
        case h_2 => cases hr
        rename_i r1 hr1
        split at hr
        case h_2 => cases hr
        rename_i r2 hr2
        cases hr
        have ih := eqFields_sound hc hd h1 h2 n w fs l r2 hl hr2
        split at hf
        · cases hf
        · rename_i hname
          obtain ⟨i1, rfl⟩ := List.getElem?_eq_some_iff.1 ha
          obtain ⟨i2, rfl⟩ := List.getElem?_eq_some_iff.1 hb
          have g1 := h1 _ i1
          have g2 := h2 _ i2
          have p1 : us[p.1]? = some (us.getD p.1 undef) := by simp [Array.getD_eq_getD_getElem?, show p.1 < us.size by omega]
          have p2 : vs[p.1]? = some (vs.getD p.1 undef) := by simp [Array.getD_eq_getD_getElem?, show p.1 < vs.size by omega]
          have key : ∀ (c : Bool), P.underlying f.type ≠ none → agOf P f.type = some false → p.1 = f.offset → (Op.equalIn (n + 1) f.type (us.getD p.1 undef) (vs.getD p.1 undef)).run P w = .ok c w → c = r1 → (Op.eqFields (n + 1) us vs (f :: fs)).run P w = .ok (r1 && r2) w := fun c _ hag hoff he hcr => by
            subst hcr
            rw [hoff] at p1 p2 he
            generalize us.getD f.offset undef = uu at p1 he
            generalize vs.getD f.offset undef = vv at p2 he
            have q1 : (part f.type us f.offset).run P w = .ok uu w := by simp [part, run_isAgg hag, p1]
            have q2 : (part f.type vs f.offset).run P w = .ok vv w := by simp [part, run_isAgg hag, p2]
            simp only [Op.eqFields, ne_eq, hname, not_false_eq_true, if_true, Sem.run_bind, q1, q2, he, Result.andThen_ok]
            cases c
            · simp
            · simpa using ih
          unfold eqC at hr1
          split at hf
          · rename_i q hu
            cases hf
            split at hr1
            · rename_i q1 m e1
              split at hr1
              · rename_i q2 k e2
                split at hr1
                · rename_i hq
                  obtain ⟨_, rfl⟩ := hq
                  cases hr1
                  rw [e1] at g1
                  rw [e2] at g2
                  refine key (m == k) (by rw [hu]; simp) (by simp [agOf, hu]) rfl ?_ rfl
                  rw [g1.im_eq, g2.im_eq]
                  exact run_equalIn_int w n f.type _ q _ _ hu
                · cases hr1
              · cases hr1
            · split at hr1
              · split at hr1
                · rename_i hq; cases hq
                · cases hr1
              · cases hr1
            · split at hr1
              · split at hr1
                · rename_i hq; cases hq
                · cases hr1
              · cases hr1
            · cases hr1
          · rename_i hu
            cases hf
            split at hr1
            · split at hr1
              · split at hr1
                · rename_i hq; cases hq.1
                · cases hr1
              · cases hr1
            · rename_i m e1
              split at hr1
              · rename_i k e2
                split at hr1
                · cases hr1
                  rw [e1] at g1
                  rw [e2] at g2
                  refine key (m.toList == k.toList) (by rw [hu]; simp) (by simp [agOf, hu]) rfl ?_ rfl
                  rw [g1.im_eq, g2.im_eq]
                  exact run_equalIn_string w n f.type _ _ hu
                · cases hr1
              · cases hr1
            · split at hr1
              · split at hr1
                · rename_i hq; cases hq
                · cases hr1
              · cases hr1
            · cases hr1
          · rename_i hu
            cases hf
            split at hr1
            · split at hr1
              · split at hr1
                · rename_i hq; cases hq.1
                · cases hr1
              · cases hr1
            · split at hr1
              · split at hr1
                · rename_i hq; cases hq
                · cases hr1
              · cases hr1
            · rename_i m e1
              split at hr1
              · rename_i k e2
                split at hr1
                · cases hr1
                  rw [e1] at g1
                  rw [e2] at g2
                  refine key (m == k) (by rw [hu]; simp) (by simp [agOf, hu]) rfl ?_ rfl
                  rw [g1.im_eq, g2.im_eq]
                  exact run_equalIn_bool' w n f.type _ _ hu
                · cases hr1
              · cases hr1
            · cases hr1
          · cases hf
theorem step_eqag {t u : TypeId} {x y : Operand} {cs ds : List V} {ks : List (Nat × Nat)} {b : Bool} {op : BinOp} (hop : op = .eql ∨ op = .neq) (ho : o.op = .binOp op t x y u) (hx : ev x = .ag cs) (hy : ev y = .ag ds) (hk : eqK P t = some ks) (hb : eqF cs ds ks = some b) :
    Step P o ev [] ⟨.im (.bool (match op with | .eql => b | _ => !b)), []⟩ :=
  Step.look fun C ρ hC hR _ => by
    have h1 := hR x (by simp [ho, Op.operands])
    have h2 := hR y (by simp [ho, Op.operands])
    rw [hx] at h1
    rw [hy] at h2
    generalize hu : ρ x = v at h1
    generalize hv : ρ y = v' at h2
    cases h1 with
    | @ag _ us hn h1 h =>
      cases h2 with
      | @ag _ vs hn' h1' h' =>
        unfold eqK at hk
        split at hk
        case h_2 => cases hk
        rename_i fs hfs
        split at hk
        case isFalse => cases hk
        rename_i hst
        have e1 : P.fieldsOf t = fs := by simp [Program.fieldsOf, hfs]
        have hs := eqFields_sound (P := P) hn hn' h h' 9998 C.w fs.toList ks b hk hb
        have he : (Op.equalIn 10000 t (.agg us) (.agg vs)).run P C.w = .ok b C.w := by
          rw [run_equalIn_agg C.w 9999 t us vs (by rw [e1]; exact hfs) hst.1, e1]
          exact hs
        refine ⟨_, ?_, .im rfl⟩
        rcases hop with rfl | rfl
        · have hb2 : (binOp .eql t (.agg us) (.agg vs)).run P C.w = .ok (.bool b) C.w := by
            have q := run_eql_struct (P := P) C.w t us vs
            rw [he] at q
            exact q
          simp only [execOp, ho, hu, hv, Sem.run_bind, run_eqGuard_agg C.w _ t _ _ _ _ hst.2, Result.andThen_ok, hb2, Sem.run_pure]
        · have hb2 : (binOp .neq t (.agg us) (.agg vs)).run P C.w = .ok (.bool (!b)) C.w := by
            have q := run_neq_struct (P := P) C.w t us vs
            rw [he] at q
            exact q
          simp only [execOp, ho, hu, hv, Sem.run_bind, run_eqGuard_agg C.w _ t _ _ _ _ hst.2, Result.andThen_ok, hb2, Sem.run_pure]
/-! #### slices over a box -/
theorem step_indexAddr_bs {t e : TypeId} {x i : Operand} {id m z : Nat} {j : IntKind} {n : Int} (ho : o.op = .indexAddr t x i) (hx : ev x = .bs id m) (hi : ev i = .im (.int j n)) (hn : 0 ≤ n ∧ n < m) (he : elOf P t = some e) (hz : szOf P e = some z) :
    Step P o ev [] ⟨.pt id (n.toNat * z), []⟩ :=
  Step.look fun C ρ hC hR _ => by
    have h1 := hR x (by simp [ho, Op.operands])
    have h2 := hR i (by simp [ho, Op.operands])
    rw [hx] at h1
    rw [hi] at h2
    have e2 : ρ i = .int j n := h2.im_eq
    generalize hu : ρ x = u at h1
    cases h1 with
    | @bs _ _ g cap cs hσ hb hc hm =>
      have hel := elOf_spec he
      refine ⟨.pointer (some ⟨g, n.toNat * z, none⟩), ?_, .pt hσ hb⟩
      simp [execOp, ho, hu, e2, Instr.indexAt, asIntOf, run_underlying hel, run_sizeOf hz, hn.1, hn.2, Addr.add_lit]
theorem step_len_bs {t e : TypeId} {x : Operand} {id m : Nat} (ho : o.op = .call { callee := .builtin .len, args := #[x], argTypes := #[t] }) (hx : ev x = .bs id m) (ht : elOf P t = some e) : Step P o ev [] ⟨.im (.int .i64 m), []⟩ :=
  Step.look fun C ρ hC hR _ => by
    have h1 := hR x (by simp [ho, Op.operands, Call.operands])
    rw [hx] at h1
    generalize hu : ρ x = u at h1
    cases h1 with
    | bs hσ hb hc hm =>
      have hel := elOf_spec ht
      refine ⟨_, ?_, .im rfl⟩
      simp [execOp, ho, hu, resolve, invoke, builtin, Builtin.len_, run_underlying hel, goInt]

/-! #### bytes and strings -/
/-- The bytes that are told by trees. -/
def bytesOf : List V → Option (List UInt8)
  | [] => some []
  | .im (.int .u8 n) :: l => if 0 ≤ n ∧ n < 256 then (match bytesOf l with | some r => some (UInt8.ofNat n.toNat :: r) | none => none) else none
  | _ :: _ => none
theorem bytesOf_nil : bytesOf [] = some [] := rfl
theorem bytesOf_get : ∀ {l : List V} {r : List UInt8}, bytesOf l = some r → r.length = l.length ∧ ∀ i (h : i < l.length) (h' : i < r.length), l[i] = .im (.int .u8 (r[i].toNat : Int))
  | [], r, h => by
    simp only [bytesOf, Option.some.injEq] at h
    subst h
    exact ⟨rfl, fun i h => by cases h⟩
  | x :: l, r, h => by
    unfold bytesOf at h
    split at h
    · rename_i e; cases e
    · rename_i n l' e
      cases e
      split at h
      · rename_i hn
        split at h
        · rename_i r' hr
          cases h
          obtain ⟨h1, h2⟩ := bytesOf_get hr
          refine ⟨by simp [h1], fun i hi hi' => ?_⟩
          cases i with
          | zero =>
            simp only [List.getElem_cons_zero, UInt8.toNat_ofNat']
            congr 2
            omega
          | succ i => exact h2 i (by simpa using hi) (by simpa using hi')
        · cases h
      · cases h
    · cases h
theorem step_conv_string {s d e : TypeId} {x : Operand} {es : List V} {k : Slk} {r : List UInt8} (ho : o.op = .convert s d x) (hx : ev x = .sl es k) (hs : elOf P s = some e) (he : P.underlying e = some (.int .u8)) (hd : P.underlying d = some .string) (hr : bytesOf es = some r) :
    Step P o ev [] ⟨.im (.string ⟨r.toArray⟩), []⟩ :=
  Step.look fun C ρ hC hR _ => by
    have h1 := hR x (by simp [ho, Op.operands])
    rw [hx] at h1
    generalize hu : ρ x = u at h1
    obtain ⟨g1, g2⟩ := bytesOf_get hr
    cases h1 with
    | @sl _ _ a cap z us hc hm hzs h0 hrd hk =>
      refine ⟨.string ⟨r.toArray⟩, ?_, .im rfl⟩
      have hrun : (convert s d (.slice a es.length cap)).run P C.w = .ok (.string ⟨r.toArray⟩) C.w := by
        by_cases hne : es.length = 0
        · have : r = [] := List.length_eq_zero_iff.1 (by omega)
          subst this
          rw [hne]
          cases a with
          | none => rw [run_convert_bytes_string C.w s d e none 0 cap (elOf_spec hs) he hd]; simp [Conv.bytesToString]; rfl
          | some ad => simpa using run_convert_bytes_back (P := P) C.w s d e ad cap [] (elOf_spec hs) he hd (fun j hj => by cases hj)
        · obtain ⟨ad, rfl, _⟩ := hrd 0 (by omega)
          have := run_convert_bytes_back (P := P) C.w s d e ad cap r (elOf_spec hs) he hd (fun j hj => by
            have hj' : j < es.length := by omega
            obtain ⟨ad', q1, q2⟩ := hrd j hj'
            cases q1
            have h3 := h0 j hj'
            rw [g2 j hj' hj] at h3
            have h4 := (hzs j hj').1
            rw [g2 j hj' hj] at h4
            have h4 : 1 = z := h4
            have h5 := (q2 0 (.int .u8 r[j].toNat) (by rw [h3.im_eq]; rfl)).1
            rw [← h4, Nat.mul_one, Addr.add_add] at h5
            simpa using h5)
          rwa [g1] at this
      simp [execOp, ho, hu, hrun]
theorem step_conv_bytes {s d e : TypeId} {x : Operand} {b : ByteArray} (ho : o.op = .convert s d x) (hx : ev x = .im (.string b)) (hs : P.underlying s = some .string) (hd : elOf P d = some e) (he : P.underlying e = some (.int .u8)) (hb : b.size ≤ 140737488355328) :
    Step P o ev [] ⟨.sl (byV b) .ro, []⟩ := by
  intro C ρ hC hR _
  have h1 := hR x (by simp [ho, Op.operands])
  rw [hx] at h1
  have e1 : ρ x = .string b := h1.im_eq
  have hrun := run_bytes_of_string (P := P) C.w s d e b hs (elOf_spec hd) he
  have hge := grownCap_ge C.w b.size 0 e
  have hcm : grownCap C.w b.size 0 e ≤ maxLen := grownCap_le_maxLen C.w _ 0 e (by unfold maxLen; omega)
  generalize grownCap C.w b.size 0 e = nc at hrun hge hcm
  have hr : (execOp ρ o).run P C.w = .ok (.value (.slice (some ⟨C.w.heap.size, 0, none⟩) b.size nc)) (C.w.drew.alloc (.cells (bytesRow b nc) e ((bytesRow b nc).size, (bytesRow b nc).size + 1))) := by
    simp [execOp, ho, e1, hrun]
  rw [hr]
  generalize hobj : Obj.cells (bytesRow b nc) e ((bytesRow b nc).size, (bytesRow b nc).size + 1) = obj
  have hC1 : Ok (C.withW C.w.drew) := hC.withW rfl rfl rfl rfl
  have hE1 : Ev C (C.withW C.w.drew) := Ev.withW rfl rfl rfl rfl
  refine ⟨(C.withW C.w.drew).withW (C.w.drew.alloc obj), rfl, rfl, hC1.alloc obj, hE1.trans (Ev.alloc hC1 obj), ?_⟩
  have hl := byV_length b
  rw [← hl]
  refine .sl (z := 1) (u := fun i => .int .u8 (b.data.toList.getD i 0).toNat) (by omega) hcm (fun i hi => ⟨by simp [byV]; rfl, rfl⟩) (fun i hi => ?_) (fun i hi => ⟨_, rfl, fun j c hj => ?_⟩) trivial
  · have hi' : i < b.data.toList.length := by simpa [byV] using hi
    have : b.data.toList.getD i 0 = b.data.toList[i] := by rw [List.getD_eq_getElem?_getD, List.getElem?_eq_getElem hi']; rfl
    rw [this]
    simp only [byV, List.getElem_map]
    exact .im rfl
  · have hi' : i < b.data.size := by simpa [byV] using hi
    have hj0 : j = 0 := by
      have := (Array.getElem?_eq_some_iff.1 hj).1
      simpa [Value.cells] using this
    subst hj0
    have hc : c = .int .u8 (b.data.toList.getD i 0).toNat := by simpa [Value.cells] using hj.symm
    rw [add_mul_add, Addr.add_lit]
    refine ⟨?_, ?_⟩
    · have hh : (C.w.drew.alloc obj).heap[C.w.heap.size]? = some obj := heap_alloc_new C.w.drew _
      have e3 : (bytesRow b nc)[i]? = some (.int .u8 (b.data.toList.getD i 0).toNat) := by
        unfold bytesRow
        rw [Array.getElem?_append_left (by rw [Array.size_map]; exact hi'), Array.getElem?_map, Array.getElem?_eq_getElem hi', List.getD_eq_getElem?_getD, List.getElem?_eq_getElem (by simpa using hi')]
        simp
      subst hobj
      simp only [World.cell?, Cf.withW, hh]
      rw [hc, ← e3]
      simp only [Nat.mul_one, Nat.add_zero, Nat.zero_add, Option.isSome_none, Bool.false_eq_true, if_false]
    · have := Cf.fix_new hC1 (0 + (i * 1 + 0))
      exact this

/-! ### Walks over a string -/
/-- A walk over a string, further on. -/
def Cf.setIter (C : Cf) (id g : Nat) (s : ByteArray) (p : Nat) : Cf := ⟨C.σ, upd C.st id (.iter s p), C.av, { C.w with heap := C.w.heap.setIfInBounds g (.stringIter s p) }⟩
theorem setIter_other (w : World) (g b : Nat) (o : Obj) (h : b ≠ g) : ({ w with heap := w.heap.setIfInBounds g o } : World).heap[b]? = w.heap[b]? := by
  show (w.heap.setIfInBounds g o)[b]? = _
  rw [Array.getElem?_setIfInBounds]
  rw [if_neg (fun e => h e.symm)]
theorem Ev.setIter {C : Cf} {id g p p0 : Nat} {s s0 : ByteArray} (hb : C.st id = .iter s0 p0) (hg : C.σ id = some g) (hC : Ok C) : Ev C (C.setIter id g s p) where
  os := rfl
  tape := rfl
  output := rfl
  size := by simp [Cf.setIter]
  av := rfl
  rd := fun a v h => by
    have hne : a.block ≠ g := fun e => by
      rcases h.2.2 id (hg.trans (by rw [e])) with h1 | ⟨_, _, _, h1, _⟩ <;> rw [hb] at h1 <;> cases h1
    refine ⟨by rw [← h.1]; exact World.cell?_of_block (setIter_other _ _ _ _ hne), h.2.1, fun i hi => ?_⟩
    have hi' : C.σ i = some a.block := hi
    by_cases he : i = id
    · subst he
      exact absurd (Option.some.inj (hi'.symm.trans hg)) hne
    · simpa [Cf.setIter, upd, he] using h.2.2 i hi'
  box := fun i c h => by
    have he : i ≠ id := fun e => by subst e; rw [hb] at h; cases h
    exact ⟨rfl, c, by simpa [Cf.setIter, upd, he] using h⟩
  tip := fun i e z n h => by
    have hne : i ≠ id := fun e => by subst e; rw [hb] at h; cases h
    refine ⟨n, by simpa [Cf.setIter, upd, hne] using h, Nat.le_refl _, fun _ => ⟨rfl, fun g' cur hg' hc => ⟨cur, ?_, rfl⟩⟩⟩
    have : g' ≠ g := fun e => hne (hC.inj i id g (by rw [h]; simp) (by rw [hb]; simp) (e ▸ hg') hg)
    exact (setIter_other _ _ _ _ this).trans hc
  itr := fun i s' p' h => by
    by_cases he : i = id
    · exact ⟨rfl, s, p, by simp [Cf.setIter, upd, he]⟩
    · exact ⟨rfl, s', p', by simpa [Cf.setIter, upd, he] using h⟩
  keep := fun b _ hf => setIter_other _ _ _ _ (fun e => by have := hf id (e ▸ hg); rw [hb] at this; cases this)
  fresh := fun i b h h' => by
    by_cases he : i = id
    · exact .inl ⟨by rw [he, hb]; simp, h'⟩
    · exact .inl ⟨by simpa [Cf.setIter, upd, he] using h, h'⟩
theorem Ok.setIter {C : Cf} {id g p p0 : Nat} {s s0 : ByteArray} (hC : Ok C) (hb : C.st id = .iter s0 p0) (hg : C.σ id = some g) (hh : C.w.heap[g]? = some (.stringIter s0 p0)) : Ok (C.setIter id g s p) where
  box := fun i c h => by
    have h : upd C.st id (.iter s p) i = .box c := h
    have hi : i ≠ id := fun e => by subst e; simp [upd] at h
    simp only [upd, hi, if_false] at h
    obtain ⟨g', bs', t', k1, k2, k3, k4, k5⟩ := hC.box i c h
    have : g' ≠ g := fun e => hi (hC.inj i id g (by rw [h]; simp) (by rw [hb]; simp) (e ▸ k1) hg)
    exact ⟨g', bs', t', k1, (setIter_other _ _ _ _ this).trans k2, k3, k4, fun j hj => (k5 j hj).mono (Ev.setIter hb hg hC)⟩
  tip := fun i e z n g' h h' => by
    have h : upd C.st id (.iter s p) i = .tip e z n := h
    have hi : i ≠ id := fun e => by subst e; simp [upd] at h
    simp only [upd, hi, if_false] at h
    obtain ⟨cur, k1, k2⟩ := hC.tip i e z n g' h h'
    have : g' ≠ g := fun e => hi (hC.inj i id g (by rw [h]; simp) (by rw [hb]; simp) (e ▸ h') hg)
    exact ⟨cur, (setIter_other _ _ _ _ this).trans k1, k2⟩
  iter := fun i s' p' h => by
    have h : upd C.st id (.iter s p) i = .iter s' p' := h
    by_cases hi : i = id
    · subst hi
      simp only [upd, if_true] at h
      cases h
      refine ⟨g, hg, ?_⟩
      have := (Array.getElem?_eq_some_iff.1 hh).1
      simp [Cf.setIter, this]
    · simp only [upd, hi, if_false] at h
      obtain ⟨g', k1, k2⟩ := hC.iter i s' p' h
      have : g' ≠ g := fun e => hi (hC.inj i id g (by rw [h]; simp) (by rw [hb]; simp) (e ▸ k1) hg)
      exact ⟨g', k1, (setIter_other _ _ _ _ this).trans k2⟩
  inj := fun i j g' hi hj h h' => by
    refine hC.inj i j g' (fun e => hi ?_) (fun e => hj ?_) h h'
    · have : i ≠ id := fun e' => by subst e'; rw [hb] at e; cases e
      simpa [Cf.setIter, upd, this] using e
    · have : j ≠ id := fun e' => by subst e'; rw [hb] at e; cases e
      simpa [Cf.setIter, upd, this] using e
  avl := fun b o h => by simp only [Cf.setIter, Array.size_setIfInBounds]; exact hC.avl b o h
  bav := fun i c g' o h h' => by
    have h : upd C.st id (.iter s p) i = .box c := h
    have hi : i ≠ id := fun e => by subst e; simp [upd] at h
    simp only [upd, hi, if_false] at h
    exact hC.bav i c g' o h h'
  gl := hC.gl.mono (Ev.setIter hb hg hC)
theorem step_range {t : TypeId} {id : Nat} {x : Operand} {s : ByteArray} (ho : o.op = .range t x) (hx : ev x = .im (.string s)) (ht : P.underlying t = some .string) :
    Step P o ev [(id, .free)] ⟨.itr id, [(id, .iter s 0)]⟩ := by
  intro C ρ hC hR hf
  have hf' : C.st id = .free := hf (id, .free) (by simp)
  have h1 := hR x (by simp [ho, Op.operands])
  rw [hx] at h1
  have e1 : ρ x = .string s := h1.im_eq
  have hr : (execOp ρ o).run P C.w = .ok (.value (.pointer (some ⟨C.w.heap.size, 0, none⟩))) (C.w.alloc (.stringIter s 0)) := by
    simp [execOp, ho, e1, Instr.range, run_underlying ht]
  rw [hr]
  exact ⟨C.newId id (.stringIter s 0) (.iter s 0), rfl, rfl, hC.newId hf' (fun _ e => by cases e) (fun _ _ _ e => by cases e) (fun _ _ e => by cases e; rfl), Ev.newId hf',
    .itr (s := s) (pos := 0) (by simp [Cf.newId]) (by simp [Cf.newId, upd])⟩
theorem step_next {id pos : Nat} {x : Operand} {s : ByteArray} (ho : o.op = .next x true) (hx : ev x = .itr id) (hp : pos < s.size) :
    Step P o ev [(id, .iter s pos)] ⟨.tu [.im (.bool true), .im (.int .i64 pos), .im (.int .i32 (Utf8.decode s pos).1)], [(id, .iter s (pos + (Utf8.decode s pos).2))]⟩ := by
  intro C ρ hC hR hf
  have hb : C.st id = .iter s pos := hf (id, .iter s pos) (by simp)
  have h1 := hR x (by simp [ho, Op.operands])
  rw [hx] at h1
  generalize hu : ρ x = u at h1
  cases h1 with
  | @itr _ g s' p' hg _ =>
    obtain ⟨g', k1, k2⟩ := hC.iter id s pos hb
    obtain rfl : g = g' := Option.some.inj (hg.symm.trans k1)
    have hr : (execOp ρ o).run P C.w = .ok (.value (.tuple #[.bool true, .int .i64 pos, .int .i32 (Utf8.decode s pos).1])) { C.w with heap := C.w.heap.setIfInBounds g (.stringIter s (pos + (Utf8.decode s pos).2)) } := by
      simp [execOp, ho, hu, Instr.next, getObj, setObj, Sem.run, k2, hp, Sem.run_bind, Result.andThen, goInt]
    rw [hr]
    refine ⟨C.setIter id g s (pos + (Utf8.decode s pos).2), rfl, rfl, hC.setIter hb hg k2, Ev.setIter hb hg hC, .tu rfl fun i hi => ?_⟩
    match i, hi with
    | 0, _ => exact .im rfl
    | 1, _ => exact .im rfl
    | 2, _ => exact .im rfl
theorem step_next_end {id pos : Nat} {x : Operand} {s : ByteArray} (ho : o.op = .next x true) (hx : ev x = .itr id) (hp : ¬ pos < s.size) :
    Step P o ev [(id, .iter s pos)] ⟨.tu [.im (.bool false)], []⟩ := by
  intro C ρ hC hR hf
  have hb : C.st id = .iter s pos := hf (id, .iter s pos) (by simp)
  have h1 := hR x (by simp [ho, Op.operands])
  rw [hx] at h1
  generalize hu : ρ x = u at h1
  cases h1 with
  | @itr _ g s' p' hg _ =>
    obtain ⟨g', k1, k2⟩ := hC.iter id s pos hb
    obtain rfl : g = g' := Option.some.inj (hg.symm.trans k1)
    have hr : (execOp ρ o).run P C.w = .ok (.value (.tuple #[.bool false])) C.w := by
      simp [execOp, ho, hu, Instr.next, getObj, setObj, Sem.run, k2, hp, Sem.run_bind, Result.andThen, goInt]
    rw [hr]
    refine ⟨C, rfl, rfl, hC, Ev.refl C, .tu rfl fun i hi => ?_⟩
    match i, hi with
    | 0, _ => exact .im rfl
end
end Go.Proofs.Ytfggemopnlffeaa
