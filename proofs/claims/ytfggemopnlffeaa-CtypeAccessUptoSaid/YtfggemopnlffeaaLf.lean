/- Opening: what is handed in, read as data, is a tree of values. -/
import Derived.Test.YtfggemopnlffeaaLe
import Derived.Deep.Slices
import Derived.Test.YtfggemopnlffeaaRows
import Derived.WalkKit
import Derived.ProofKit
import Derived.Below
import Derived.Carry
import Derived.WideShapes
import Derived.WideKeyArgs
import Derived.Deep.DeepHandedRow
import Derived.Shelf.Vars

namespace Go.Proofs.Ytfggemopnlffeaa
set_option linter.unusedSimpArgs false
set_option linter.unusedVariables false
set_option linter.unnecessarySimpa false
open Go.RowKit
variable {H : Type}

mutual
/-- A datum as a tree. -/
def dV : DataW H → V
  | .lit (.bool b) => .im (.bool b)
  | .lit (.int k n) => .im (.int k n)
  | .lit (.string s) => .im (.string ⟨s.toArray⟩)
  | .slice es _ => .sl (dVL es) .ro
  | .agg ps => .ag (dVF ps)
  | .nil => .sl [] .ro
  | _ => .dead
def dVL : List (DataW H) → List V
  | [] => []
  | x :: l => dV x :: dVL l
def dVF : List (DataW H) → List V
  | [] => []
  | x :: l => (dV x).cells ++ dVF l
end
theorem dVL_eq : ∀ l : List (DataW H), dVL l = l.map dV
  | [] => by simp [dVL]
  | x :: l => by simp [dVL, dVL_eq l]

/-- A datum of a type. -/
inductive Rd (P : Program) : TypeId → DataW H → Prop
  | bool {t : TypeId} {b : Bool} (ht : P.underlying t = some .bool) : Rd P t (.lit (.bool b))
  | int {t : TypeId} {k : IntKind} {n : Int} (ht : P.underlying t = some (.int k)) (hw : (Lit.int k n).wf = true) : Rd P t (.lit (.int k n))
  | string {t : TypeId} {s : ByteArray} (ht : P.underlying t = some .string) (hs : s.size ≤ maxLen) : Rd P t (.lit (.string s.data.toList))
  | nil {t e : TypeId} (ht : P.underlying t = some (.slice e)) : Rd P t .nil
  | slice {t e : TypeId} {es sp : List (DataW H)} (ht : P.underlying t = some (.slice e)) (h : ∀ x ∈ es, Rd P e x) : Rd P t (.slice es sp)
  | agg {t : TypeId} {fs : Array Field} {ps : List (DataW H)} (ht : P.underlying t = some (.struct fs)) (hl : ps.length = fs.size) (h : ∀ (i : Nat) (f : Field) (x : DataW H), fs[i]? = some f → ps[i]? = some x → Rd P f.type x) : Rd P t (.agg ps)

def contig (P : Program) : List Field → Nat → Nat → Bool
  | [], o, n => o == n
  | f :: fs, o, n => f.offset == o && contig P fs (o + P.cellsOf f.type) n
/-- Types that are made of truth values, integers, strings, slices and structures, and are closed. -/
def okTy (P : Program) (L : List TypeId) : Bool := L.all fun t => match P.underlying t with
  | some .bool => P.cellsOf t == 1
  | some (.int _) => P.cellsOf t == 1
  | some .string => P.cellsOf t == 1
  | some (.slice e) => P.cellsOf t == 1 && L.contains e
  | some (.struct fs) => contig P fs.toList 0 (P.cellsOf t) && fs.toList.all fun f => L.contains f.type
  | _ => false

/-- Nothing that may be written to. -/
def Cf.raw (W : World) : Cf := ⟨fun _ => none, fun _ => .free, fun _ _ => False, W⟩
theorem raw_rd {W : World} {a : Addr} {v : Value} (h : W.cell? a = some v) : (Cf.raw W).rd a v := ⟨h, fun h => h, fun _ h => by cases h⟩

def asV (d : DataW H) (cs : List Value) : Value := match d with
  | .agg _ => .agg cs.toArray
  | _ => cs.headD undef
theorem one_cells {v : Value} (h : v.oneCell' = true) : v.cells = #[v] := by
  cases v <;> first | rfl | simp [Value.oneCell'] at h

/-- What is known of the cells of a datum. -/
def Cl (C : Cf) (d : DataW H) (cs : List Value) : Prop := (dV d).cells.length = cs.length ∧ ∀ (j : Nat) (v : Value), cs[j]? = some v → v.oneCell' = true ∧ ∃ x, (dV d).cells[j]? = some x ∧ R C x v
theorem Cl.R {P : Program} {C : Cf} {t : TypeId} {d : DataW H} {cs : List Value} (hd : Rd P t d) (h : Cl C d cs) : R C (dV d) (asV d cs) ∧ (asV d cs).cells.toList = cs ∧ (dV d).size = cs.length := by
  refine ⟨?_, ?_, h.1⟩
  all_goals
    obtain ⟨h1, h2⟩ := h
    cases hd with
    | agg ht hl hf =>
      first
        | (refine .ag ?_ (fun i hi => ?_) (fun i hi => ?_)
           · simpa [dV, V.cells] using h1.symm
           · have hi' : i < cs.length := by rw [← h1]; simpa [dV, V.cells] using hi
             have := (h2 i cs[i] (by simp [hi'])).1
             simpa [hi'] using this
           · have hi' : i < cs.length := by rw [← h1]; simpa [dV, V.cells] using hi
             obtain ⟨_, x, hx, hR⟩ := h2 i cs[i] (by simp [hi'])
             have e : x = (dVF _)[i] := (Option.some.inj ((by rw [dV, V.cells]; exact List.getElem?_eq_getElem hi : (dV (DataW.agg _)).cells[i]? = _).symm.trans hx)).symm
             rw [← e]
             simpa [hi'] using hR)
        | simp [asV, Value.cells]
    | _ =>
      simp only [dV, V.cells, List.length_singleton, List.length_cons, List.length_nil] at h1 h2 ⊢
      match cs, h1 with
      | [v], _ =>
        obtain ⟨k1, x, hx, hR⟩ := h2 0 v rfl
        first
          | (simp only [List.getElem?_cons_zero, Option.some.injEq] at hx; subst hx; exact hR)
          | simp [asV, one_cells k1]

section
variable {enc : TypeId × Value → H} {P : Program} {W : World} {base : Nat} {spare : Nat → Bool} {held : Bool}
theorem open_fields {C : Cf} {L : List TypeId} {n : Nat} {cs : List Value} (hn : ∀ t cs' x, t ∈ L → DataW.trod enc P W base spare held n t cs' = some x → Rd P t x.1 ∧ cs'.length = P.cellsOf t ∧ Cl C x.1 cs') :
    ∀ (fs : List Field) (o m : Nat) (xs : List (DataW H × List MemPlace)), (∀ f ∈ fs, f.type ∈ L) → contig P fs o m = true → xs.length = fs.length → o ≤ cs.length →
      (∀ (i : Nat) (f : Field), fs[i]? = some f → DataW.trod enc P W base spare held n f.type ((cs.drop f.offset).take (P.cellsOf f.type)) = xs[i]?) →
      (∀ (i : Nat) (f : Field) x, fs[i]? = some f → xs[i]? = some x → Rd P f.type x.1) ∧ m ≤ cs.length ∧ o + (dVF (xs.map (·.1))).length = m ∧
      ∀ (j : Nat) (v : Value), j < (dVF (xs.map (·.1))).length → cs[o + j]? = some v → v.oneCell' = true ∧ ∃ x, (dVF (xs.map (·.1)))[j]? = some x ∧ R C x v
  | [], o, m, [], _, hc, _, ho, _ => by
    simp only [contig, beq_iff_eq] at hc
    refine ⟨fun i f x h => by simp at h, by omega, by simpa [dVF] using hc, fun j v hj => by simp [dVF] at hj⟩
  | f :: fs, o, m, x :: xs, hfL, hc, hl, ho, h => by
    simp only [contig, Bool.and_eq_true, beq_iff_eq] at hc
    obtain ⟨rfl, hc⟩ := hc
    have h0 := h 0 f rfl
    obtain ⟨k1, k2, k3, k4⟩ := hn f.type _ x (hfL f (by simp)) h0
    have hz : f.offset + P.cellsOf f.type ≤ cs.length := by
      rw [List.length_take, List.length_drop] at k2
      omega
    obtain ⟨i1, i2, i3, i4⟩ := open_fields hn fs _ m xs (fun g hg => hfL g (by simp [hg])) hc (by simpa using hl) hz (fun i g hg => by simpa using h (i + 1) g (by simpa using hg))
    rw [k2] at k3
    refine ⟨fun i g y hg hy => ?_, i2, ?_, fun j v hj hv => ?_⟩
    · cases i with
      | zero => cases hg; cases hy; exact k1
      | succ i => exact i1 i g y (by simpa using hg) (by simpa using hy)
    · simp only [List.map_cons, dVF, List.length_append, k3]
      omega
    · simp only [List.map_cons, dVF, List.length_append, k3] at hj ⊢
      by_cases hjz : j < P.cellsOf f.type
      · obtain ⟨q1, y, q2, q3⟩ := k4 j v (by rw [List.getElem?_take, if_pos hjz, List.getElem?_drop]; exact hv)
        refine ⟨q1, y, ?_, q3⟩
        rw [List.getElem?_append_left (by omega)]
        exact q2
      · obtain ⟨q1, y, q2, q3⟩ := i4 (j - P.cellsOf f.type) v (by omega) (by rw [← hv]; congr 1; omega)
        refine ⟨q1, y, ?_, q3⟩
        rw [List.getElem?_append_right (by omega), k3]
        exact q2
theorem open_rd {L : List TypeId} (hL : okTy P L = true) : ∀ (fuel : Nat) (t : TypeId) (cs : List Value) (x : DataW H × List MemPlace), t ∈ L → DataW.trod enc P W base spare held fuel t cs = some x → Rd P t x.1 ∧ cs.length = P.cellsOf t ∧ Cl (Cf.raw W) x.1 cs := by
  intro fuel
  induction fuel with
  | zero => intro t cs x _ h; simp [DataW.trod] at h
  | succ n ih =>
    intro t cs x ht h
    have hk := List.all_eq_true.1 hL t ht
    split at hk
    · rename_i hu
      obtain ⟨b, rfl, rfl⟩ := DataW.trod_bool hu h
      refine ⟨.bool hu, by simpa using (beq_iff_eq.1 hk).symm, rfl, fun j v hj => ?_⟩
      match j, hj with
      | 0, hj => cases hj; exact ⟨rfl, _, rfl, .im rfl⟩
    · rename_i k hu
      obtain ⟨b, rfl, rfl, hw⟩ := DataW.trod_int hu h
      refine ⟨.int hu hw, by simpa using (beq_iff_eq.1 hk).symm, rfl, fun j v hj => ?_⟩
      match j, hj with
      | 0, hj => cases hj; exact ⟨rfl, _, rfl, .im rfl⟩
    · rename_i hu
      obtain ⟨s, rfl, rfl, hw⟩ := DataW.trod_string hu h
      refine ⟨.string hu hw, by simpa using (beq_iff_eq.1 hk).symm, rfl, fun j v hj => ?_⟩
      match j, hj with
      | 0, hj => cases hj; exact ⟨rfl, _, rfl, .im rfl⟩
    · rename_i e hu
      simp only [Bool.and_eq_true, beq_iff_eq, List.contains_iff_mem] at hk
      rcases DataW.trod_slice hu h with ⟨rfl, rfl⟩ | ⟨a, len, cap, elems, rest, n', en, rfl, rfl, hb, hl, hm, hlen, hel, _, _⟩
      · refine ⟨.nil hu, by simpa using hk.1.symm, rfl, fun j v hj => ?_⟩
        match j, hj with
        | 0, hj =>
          cases hj
          exact ⟨rfl, _, rfl, .sl (z := 0) (u := fun _ => undef) (Nat.le_refl _) (by decide) (fun i hi => absurd hi (Nat.not_lt_zero _)) (fun i hi => absurd hi (Nat.not_lt_zero _)) (fun i hi => absurd hi (Nat.not_lt_zero _)) trivial⟩
      · obtain rfl : n = n' := by omega
        obtain ⟨csf, hcsf⟩ := Go.Deep.choose_lt (α := List Value) (n := len) (p := fun i cs' => W.cells? base (a.add (i * P.cellsOf e)) (P.cellsOf e) = some cs' ∧ ∃ hi : i < elems.length, DataW.trod enc P W base spare held n e cs' = some elems[i]) (fun i hi => by
          have h1 := hel i hi
          have hi' : i < elems.length := by omega
          rw [List.getElem?_eq_getElem hi'] at h1
          obtain ⟨cs', h2, h3⟩ := Option.bind_eq_some_iff.1 h1
          exact ⟨cs', h2, hi', h3⟩)
        have hI : ∀ i (hi : i < elems.length), Rd P e elems[i].1 ∧ (csf i).length = P.cellsOf e ∧ Cl (Cf.raw W) elems[i].1 (csf i) := fun i hi => by
          obtain ⟨_, _, h3⟩ := hcsf i (by omega)
          exact ih e _ _ hk.2 h3
        have hes : dVL (elems.map (·.1)) = elems.map fun p => dV p.1 := by rw [dVL_eq, List.map_map]; rfl
        refine ⟨.slice hu fun x hx => ?_, by simpa using hk.1.symm, rfl, fun j v hj => ?_⟩
        · obtain ⟨p, hp, rfl⟩ := List.mem_map.1 hx
          obtain ⟨i, hi, rfl⟩ := List.getElem_of_mem hp
          exact (hI i hi).1
        · match j, hj with
          | 0, hj =>
            cases hj
            refine ⟨rfl, _, rfl, ?_⟩
            simp only [dV, hes]
            have hlen' : (elems.map fun p => dV p.1).length = len := by simpa using hlen
            refine R.cast_len hlen' (.sl (z := P.cellsOf e) (u := fun i => asV (elems.getD i (.nil, [])).1 (csf i)) (by omega) hm (fun i hi => ?_) (fun i hi => ?_) (fun i hi => ?_) trivial)
            all_goals
              have hi' : i < elems.length := by simpa using hi
              obtain ⟨k1, k2, k3⟩ := hI i hi'
              obtain ⟨q1, q2, q3⟩ := k3.R k1
              have eg : elems.getD i (.nil, []) = elems[i] := by simp [List.getD, hi']
              simp only [eg]
            · refine ⟨by simpa using q3.trans k2, ?_⟩
              rw [← Array.length_toList, q2, k2]
            · simpa using q1
            · refine ⟨a, rfl, fun j c hj => raw_rd ?_⟩
              rw [← Array.getElem?_toList, q2] at hj
              obtain ⟨h2, _⟩ := hcsf i (by omega)
              obtain ⟨_, _, h3⟩ := World.cells?_some h2
              rw [h3 j (by have := (List.getElem?_eq_some_iff.1 hj).1; omega)]
              exact hj
    · rename_i fs hu
      simp only [Bool.and_eq_true, List.all_eq_true, List.contains_iff_mem] at hk
      obtain ⟨xs, n', e, rfl, hlen, hxl, hf⟩ := DataW.trod_struct hu h
      obtain rfl : n = n' := by omega
      obtain ⟨k1, k2, k3, k4⟩ := open_fields (C := Cf.raw W) ih fs.toList 0 (P.cellsOf t) xs (fun f hf => hk.2 f hf) hk.1 (by simpa using hxl) (Nat.zero_le _) (fun i f hf' => hf i f (by simpa using hf'))
      rw [Nat.zero_add] at k3
      refine ⟨.agg hu (by simpa using hxl) fun i f x hf' hx => ?_, hlen, ?_, fun j v hj => ?_⟩
      · obtain ⟨p, hp, rfl⟩ : ∃ p, xs[i]? = some p ∧ p.1 = x := by simpa using hx
        exact k1 i f p (by simpa using hf') hp
      · simpa [dV, V.cells, hlen] using k3
      · have hj' := (List.getElem?_eq_some_iff.1 hj).1
        exact k4 j v (by omega) (by simpa using hj)
    · cases hk
end
end Go.Proofs.Ytfggemopnlffeaa
/- Opening: data of the type api.Type are types, data of api.CExpr expressions. -/
namespace Go.Proofs.Ytfggemopnlffeaa
set_option linter.unusedSimpArgs false
set_option linter.unusedVariables false
set_option linter.unnecessarySimpa false
open Go.RowKit
variable {H : Type} {P : Program}

/-- The types of the fields. -/
def ftOf (P : Program) (t : TypeId) : Option (List TypeId) := match P.underlying t with
  | some (.struct fs) => some (fs.toList.map (·.type))
  | _ => none
def RdL (P : Program) : List TypeId → List (DataW H) → Prop
  | [], [] => True
  | t :: ts, x :: xs => Rd P t x ∧ RdL P ts xs
  | _, _ => False
theorem RdL_of : ∀ {ts : List TypeId} {ps : List (DataW H)}, ps.length = ts.length → (∀ (i : Nat) t x, ts[i]? = some t → ps[i]? = some x → Rd P t x) → RdL P ts ps
  | [], [], _, _ => trivial
  | t :: ts, x :: xs, hl, h => ⟨h 0 t x rfl rfl, RdL_of (by simpa using hl) fun i t y h1 h2 => h (i + 1) t y (by simpa using h1) (by simpa using h2)⟩
theorem Rd.agg_inv {t : TypeId} {d : DataW H} {ts : List TypeId} (h : Rd P t d) (ht : ftOf P t = some ts) : ∃ ps, d = .agg ps ∧ RdL P ts ps := by
  unfold ftOf at ht
  cases h with
  | agg hu hl hf =>
    rw [hu] at ht
    cases ht
    refine ⟨_, rfl, RdL_of (by simpa using hl) fun i t x h1 h2 => ?_⟩
    rw [List.getElem?_map] at h1
    obtain ⟨f, h3, rfl⟩ := Option.map_eq_some_iff.1 h1
    exact hf i f x (by simpa using h3) h2
  | bool hu => rw [hu] at ht; cases ht
  | int hu => rw [hu] at ht; cases ht
  | string hu => rw [hu] at ht; cases ht
  | nil hu => rw [hu] at ht; cases ht
  | slice hu => rw [hu] at ht; cases ht
theorem Rd.int_inv {t : TypeId} {d : DataW H} {k : IntKind} (h : Rd P t d) (ht : inOf P t = some k) : ∃ n, d = .lit (.int k n) ∧ k.min ≤ n ∧ n ≤ k.max := by
  unfold inOf at ht
  cases h with
  | int hu hw =>
    rw [hu] at ht
    cases ht
    simp only [Lit.wf, Bool.and_eq_true, decide_eq_true_eq] at hw
    exact ⟨_, rfl, hw⟩
  | bool hu => rw [hu] at ht; cases ht
  | agg hu => rw [hu] at ht; cases ht
  | string hu => rw [hu] at ht; cases ht
  | nil hu => rw [hu] at ht; cases ht
  | slice hu => rw [hu] at ht; cases ht
theorem Rd.string_inv {t : TypeId} {d : DataW H} (h : Rd P t d) (ht : P.underlying t = some .string) : ∃ s : ByteArray, d = .lit (.string s.data.toList) ∧ s.size ≤ maxLen := by
  cases h with
  | string hu hs => exact ⟨_, rfl, hs⟩
  | int hu => rw [hu] at ht; cases ht
  | bool hu => rw [hu] at ht; cases ht
  | agg hu => rw [hu] at ht; cases ht
  | nil hu => rw [hu] at ht; cases ht
  | slice hu => rw [hu] at ht; cases ht
theorem Rd.slice_inv {t e : TypeId} {d : DataW H} (h : Rd P t d) (ht : elOf P t = some e) : d = .nil ∨ ∃ es sp, d = .slice es sp ∧ ∀ x ∈ es, Rd P e x := by
  unfold elOf at ht
  cases h with
  | nil hu => exact .inl rfl
  | slice hu hs =>
    rw [hu] at ht
    cases ht
    exact .inr ⟨_, _, rfl, hs⟩
  | int hu => rw [hu] at ht; cases ht
  | bool hu => rw [hu] at ht; cases ht
  | string hu => rw [hu] at ht; cases ht
  | agg hu => rw [hu] at ht; cases ht

theorem bulk1 (d : DataW H) : 1 ≤ Rows.uptoBulk d := by
  cases d with
  | lit l => cases l <;> simp [Rows.uptoBulk]
  | nil => simp [Rows.uptoBulk]
  | ptr d => simp [Rows.uptoBulk]
  | slice elems spare => simp [Rows.uptoBulk]
  | agg parts => simp [Rows.uptoBulk]
  | iface t d => simp [Rows.uptoBulk]
  | map entries => simp [Rows.uptoBulk]
  | held h => simp [Rows.uptoBulk]
theorem bulk_mem {d : DataW H} {l : List (DataW H)} (h : d ∈ l) : Rows.uptoBulk d ≤ Rows.uptoBulkAll l := by
  induction l with
  | nil => cases h
  | cons x r ih =>
    simp only [Rows.uptoBulkAll]
    cases List.mem_cons.1 h with
    | inl e => subst e; omega
    | inr e => have := ih e; omega
theorem bulk_len (l : List (DataW H)) : l.length ≤ Rows.uptoBulkAll l := by
  induction l with
  | nil => simp [Rows.uptoBulkAll]
  | cons x r ih => have := bulk1 x; simp only [Rows.uptoBulkAll, List.length_cons]; omega
theorem bulk_sl (es sp : List (DataW H)) : Rows.uptoBulkAll es + 1 ≤ Rows.uptoBulk (.slice es sp) := by
  simp only [Rows.uptoBulk]
  omega

/-- A slice of such data is a list of trees. -/
theorem list_of {α : Type} {G : α → V} {Q : α → Prop} {es : List (DataW H)} (h : ∀ x ∈ es, ∃ a, dV x = G a ∧ Q a) : ∃ l : List α, dVL es = l.map G ∧ l.length = es.length ∧ ∀ a ∈ l, Q a := by
  induction es with
  | nil => exact ⟨[], by simp [dVL], rfl, fun a ha => by cases ha⟩
  | cons x r ih =>
    obtain ⟨a, h1, h2⟩ := h x (by simp)
    obtain ⟨l, h3, h4, h5⟩ := ih fun y hy => h y (by simp [hy])
    refine ⟨a :: l, by simp [dVL, h1, h3], by simp [h4], fun b hb => ?_⟩
    rcases List.mem_cons.1 hb with rfl | hb
    · exact h2
    · exact h5 b hb
theorem slice_of {α : Type} {G : α → V} {Q : α → Prop} {d : DataW H} {t e : TypeId} (hd : Rd P t d) (ht : elOf P t = some e) (h : ∀ x : DataW H, Rows.uptoBulk x < Rows.uptoBulk d → Rd P e x → ∃ a, dV x = G a ∧ Q a) : ∃ l : List α, dV d = .sl (l.map G) .ro ∧ l.length ≤ Rows.uptoBulk d ∧ ∀ a ∈ l, Q a := by
  rcases hd.slice_inv ht with rfl | ⟨es, sp, rfl, hes⟩
  · exact ⟨[], by simp [dV], by simp, fun a ha => by cases ha⟩
  · have h0 := bulk_sl es sp
    obtain ⟨l, h1, h2, h3⟩ := list_of (G := G) (Q := Q) (es := es) fun x hx => h x (by have := bulk_mem hx; omega) (hes x hx)
    refine ⟨l, by simp [dV, h1], ?_, h3⟩
    have := bulk_len es
    omega

theorem fit_mk' {o k s c : Int} {es fs : List Ty} (h0 : I64 o ∧ I64 k ∧ I64 s ∧ I64 c) (h1 : es.length ≤ 4194304) (h2 : fs.length ≤ 4194304) (h3 : ∀ t ∈ es, fit t) (h4 : ∀ t ∈ fs, fit t) : fit (.mk o k s c es fs) := by
  have e : fitB (.mk o k s c es fs) = _ := Ty.para_mk _ o k s c es fs
  show fitB (.mk o k s c es fs) = true
  rw [e]
  simp only [Bool.and_eq_true, decide_eq_true_eq, Ty.off, Ty.kind, Ty.size, Ty.count, Ty.elem, Ty.fields, List.all_map, List.all_eq_true]
  exact ⟨⟨⟨⟨decide_eq_true h0, decide_eq_true h1⟩, decide_eq_true h2⟩, h3⟩, h4⟩

theorem G_ty : ftOf Try.prog 25 = some [3, 3, 3, 22, 23] := by kernel_rfl
theorem G_fd : ftOf Try.prog 59 = some [3, 25] := by kernel_rfl
theorem G_tyL : elOf Try.prog 22 = some 25 := by kernel_rfl
theorem G_fdL : elOf Try.prog 23 = some 59 := by kernel_rfl
theorem G_int : inOf Try.prog 3 = some .i64 := by kernel_rfl
theorem I64_of {n : Int} (h : IntKind.i64.min ≤ n ∧ n ≤ IntKind.i64.max) : I64 n := h
/-- A datum of the type api.Type is a type. -/
theorem rd_ty : ∀ (N : Nat) (d : DataW H), Rows.uptoBulk d ≤ N → N ≤ 4194304 → Rd Try.prog 25 d → ∃ t : Ty, dV d = tyV t ∧ fit t ∧ t.off = 0 := by
  intro N
  induction N using Nat.strongRecOn with
  | _ N ih =>
    intro d hb hN hd
    obtain ⟨ps, rfl, hps⟩ := hd.agg_inv G_ty
    match ps, hps with
    | [d1, d2, d3, d4, d5], ⟨h1, h2, h3, h4, h5, _⟩ =>
      obtain ⟨k, rfl, hk⟩ := h1.int_inv G_int
      obtain ⟨s, rfl, hs⟩ := h2.int_inv G_int
      obtain ⟨c, rfl, hc⟩ := h3.int_inv G_int
      simp only [Rows.uptoBulk, Rows.uptoBulkAll] at hb
      obtain ⟨es, e1, e2, e3⟩ := slice_of (G := tyV) (Q := fit) h4 G_tyL fun x hx hr => by
        obtain ⟨t, q1, q2, _⟩ := ih (Rows.uptoBulk x) (by omega) x (Nat.le_refl _) (by omega) hr
        exact ⟨t, q1, q2⟩
      obtain ⟨fs, f1, f2, f3⟩ := slice_of (G := fdV) (Q := fit) h5 G_fdL fun x hx hr => by
        obtain ⟨qs, rfl, hqs⟩ := hr.agg_inv G_fd
        match qs, hqs with
        | [x1, x2], ⟨r1, r2, _⟩ =>
          obtain ⟨o, rfl, ho⟩ := r1.int_inv G_int
          simp only [Rows.uptoBulk, Rows.uptoBulkAll] at hx
          obtain ⟨t, q1, q2, _⟩ := ih (Rows.uptoBulk x2) (by omega) x2 (Nat.le_refl _) (by omega) r2
          refine ⟨.mk o t.kind t.size t.count t.elem t.fields, ?_, ?_⟩
          · simp only [dV, dVF, q1, tyV_eq, fdV_eq, V.cells, List.append_nil, List.cons_append, List.nil_append, Ty.off, Ty.kind, Ty.size, Ty.count, Ty.elem, Ty.fields]
          · cases t with
            | mk o' k s c es fs => exact fit_mk' ⟨I64_of ho, (fit_num q2).2⟩ (fit_mk q2).1 (fit_mk q2).2.1 (fit_mk q2).2.2.1 (fit_mk q2).2.2.2
      refine ⟨.mk 0 k s c es fs, ?_, fit_mk' ⟨by unfold I64; omega, I64_of hk, I64_of hs, I64_of hc⟩ (by omega) (by omega) e3 f3, rfl⟩
      simp only [dV, dVF, e1, f1, tyV_mk, V.cells, List.append_nil, List.cons_append, List.nil_append]

theorem G_ex : ftOf Try.prog 34 = some [3, 31, 9, 3, 32] := by kernel_rfl
theorem G_va : ftOf Try.prog 44 = some [9, 25] := by kernel_rfl
theorem G_exL : elOf Try.prog 32 = some 34 := by kernel_rfl
theorem G_vaL : elOf Try.prog 35 = some 44 := by kernel_rfl
theorem G_u32 : inOf Try.prog 31 = some .u32 := by kernel_rfl
theorem U32_of {n : Int} (h : IntKind.u32.min ≤ n ∧ n ≤ IntKind.u32.max) : 0 ≤ n ∧ n ≤ 4294967295 := h
theorem dV_str (s : ByteArray) : dV (H := H) (.lit (.string s.data.toList)) = .im (.string s) := by
  cases s; simp [dV]
theorem fitE_mk' {o n : Int} {s : ByteArray} {w : Int} {l : List Ex} (h0 : I64 o ∧ (0 ≤ n ∧ n ≤ 4294967295) ∧ I64 w) (h1 : l.length ≤ 4194304) (h2 : s.size ≤ 9223372036854775807) (h3 : ∀ t ∈ l, fitE t) : fitE (.mk o n s w l) := by
  have e : fitEB (.mk o n s w l) = _ := Ex.para_mk _ o n s w l
  show fitEB (.mk o n s w l) = true
  rw [e]
  simp only [Bool.and_eq_true, Ex.op, Ex.n, Ex.name, Ex.width, Ex.l, List.all_map, List.all_eq_true]
  exact ⟨⟨⟨decide_eq_true h0, decide_eq_true h1⟩, decide_eq_true h2⟩, h3⟩
/-- A datum of the type api.CExpr is an expression. -/
theorem rd_ex : ∀ (N : Nat) (d : DataW H), Rows.uptoBulk d ≤ N → N ≤ 4194304 → Rd Try.prog 34 d → ∃ t : Ex, dV d = exV t ∧ fitE t := by
  intro N
  induction N using Nat.strongRecOn with
  | _ N ih =>
    intro d hb hN hd
    obtain ⟨ps, rfl, hps⟩ := hd.agg_inv G_ex
    match ps, hps with
    | [d1, d2, d3, d4, d5], ⟨h1, h2, h3, h4, h5, _⟩ =>
      obtain ⟨o, rfl, ho⟩ := h1.int_inv G_int
      obtain ⟨n, rfl, hn⟩ := h2.int_inv G_u32
      obtain ⟨s, rfl, hs⟩ := h3.string_inv Try.underlying9
      obtain ⟨w, rfl, hw⟩ := h4.int_inv G_int
      simp only [Rows.uptoBulk, Rows.uptoBulkAll] at hb
      obtain ⟨l, e1, e2, e3⟩ := slice_of (G := exV) (Q := fitE) h5 G_exL fun x hx hr => ih (Rows.uptoBulk x) (by omega) x (Nat.le_refl _) (by omega) hr
      refine ⟨.mk o n s w l, ?_, fitE_mk' ⟨I64_of ho, U32_of hn, I64_of hw⟩ (by omega) (Nat.le_trans hs (by decide)) e3⟩
      simp only [dV, dVF, e1, exV_mk, V.cells, List.append_nil, List.cons_append, List.nil_append]
/-- A datum of the type api.Var is a variable. -/
theorem rd_va (d : DataW H) (hb : Rows.uptoBulk d ≤ 4194304) (hd : Rd Try.prog 44 d) : ∃ v : Va, dV d = vaV v ∧ fit v.ty := by
  obtain ⟨ps, rfl, hps⟩ := hd.agg_inv G_va
  match ps, hps with
  | [d1, d2], ⟨h1, h2, _⟩ =>
    obtain ⟨s, rfl, hs⟩ := h1.string_inv Try.underlying9
    simp only [Rows.uptoBulk, Rows.uptoBulkAll] at hb
    obtain ⟨t, e1, e2, _⟩ := rd_ty _ d2 (Nat.le_refl _) (by omega) h2
    refine ⟨⟨s, t⟩, ?_, e2⟩
    simp only [dV, dVF, e1, tyV_eq, vaV_eq, V.cells, List.append_nil, List.cons_append, List.nil_append]
theorem rd_vs (d : DataW H) (hb : Rows.uptoBulk d ≤ 4194304) (hd : Rd Try.prog 35 d) : ∃ vs : List Va, dV d = .sl (vs.map vaV) .ro ∧ fitV vs := by
  obtain ⟨l, e1, e2, e3⟩ := slice_of (G := vaV) (Q := fun v : Va => fit v.ty) hd G_vaL fun x hx hr => rd_va x (by omega) hr
  exact ⟨l, e1, by omega, e3⟩
end Go.Proofs.Ytfggemopnlffeaa
/- From a law's contract on trees to its statement: whatever comes in, of bulk at most the bound, reads as trees; the law returns true; what came in reads as it did. -/
namespace Go.Proofs.Ytfggemopnlffeaa
set_option linter.unusedSimpArgs false
set_option linter.unusedVariables false
set_option linter.unnecessarySimpa false
open Go.RowKit Go.ChangeShapes Go.WideShapes Go.WideMaps Go.WideElems

theorem raw_ok {W : World} (h : (Cf.raw W).known) : Ok (Cf.raw W) where
  box := fun i cs hb => by cases hb
  tip := fun i e z n g hb => by cases hb
  iter := fun i s p hb => by cases hb
  inj := fun i j g hi => absurd rfl hi
  avl := fun b o h => h.elim
  bav := fun i cs g o hb => by cases hb
  gl := h
theorem raw_below {W : World} {D : Cf} (h : Ev (Cf.raw W) D) : Below W.heap.size W D.w :=
  ⟨h.os, h.tape, h.output, h.size, fun k hk => h.keep k hk fun _ hi => by cases hi⟩

section
variable {H : Type} {enc : TypeId × Value → H} {P : Program} {W : World}
theorem asV_of {L : List TypeId} (hL : okTy P L = true) {t : TypeId} {v : Value} {d : DataW H} {p : List MemPlace} {base b : Nat} (ht : t ∈ L) (hv : Value.okWide P W .any b t v)
    (h : DataW.Trod enc P W base (fun _ => true) true t v d p) : Rd P t d ∧ R (Cf.raw W) (dV d) v := by
  obtain ⟨fuel, hf⟩ := h
  obtain ⟨h1, h2, h3⟩ := open_rd hL fuel t _ _ ht hf
  obtain ⟨k1, k2, _⟩ := h3.R h1
  refine ⟨h1, ?_⟩
  have e : asV d v.cells.toList = v := by
    cases h1 with
    | agg hu => obtain ⟨cs, rfl, _⟩ := okWide_struct hu hv; simp [asV, Value.cells]
    | int hu => obtain ⟨n, rfl⟩ := okWide_int hu hv; rfl
    | bool hu => obtain ⟨n, rfl⟩ := okWide_bool hu hv; rfl
    | string hu => obtain ⟨n, rfl⟩ := okWide_string hu hv; rfl
    | nil hu => obtain ⟨a, n, m, rfl⟩ := okWide_slice hu hv; rfl
    | slice hu => obtain ⟨a, n, m, rfl⟩ := okWide_slice hu hv; rfl
  rw [e] at k1
  exact k1
theorem args_of {L : List TypeId} (hL : okTy P L = true) {b : Nat} : ∀ (ts : List TypeId) (vs : List Value) (ds : List (DataW H)) (ps : List MemPlace), (∀ t ∈ ts, t ∈ L) →
    (∀ (j : Nat) t v, ts[j]? = some t → vs[j]? = some v → Value.okWide P W .any b t v) → DataW.TrodAll enc P W 0 (fun _ => true) true ts vs ds ps →
    RdL P ts ds ∧ vs.length = (ds.map dV).length ∧ ∀ i (h : i < (ds.map dV).length), R (Cf.raw W) (ds.map dV)[i] (vs.getD i undef)
  | [], [], [], _, _, _, _ => ⟨trivial, rfl, fun i h => absurd h (Nat.not_lt_zero _)⟩
  | t :: ts, v :: vs, d :: ds, ps, hl, hv, h => by
    obtain ⟨p, q, h1, h2, _⟩ := h
    obtain ⟨k1, k2⟩ := asV_of hL (hl t (by simp)) (hv 0 t v rfl rfl) h1
    obtain ⟨i1, i2, i3⟩ := args_of hL ts vs ds q (fun t' ht => hl t' (by simp [ht])) (fun j t' v' h3 h4 => hv (j + 1) t' v' (by simpa using h3) (by simpa using h4)) h2
    refine ⟨⟨k1, i1⟩, by simpa using i2, fun i hi => ?_⟩
    cases i with
    | zero => simpa using k2
    | succ i => exact i3 i (by simpa using hi)
  | [], [], _ :: _, _, _, _, h => h.elim
  | [], _ :: _, _, _, _, _, h => h.elim
  | _ :: _, [], _, _, _, _, h => h.elim
  | _ :: _, _ :: _, [], _, _, _, h => h.elim
theorem args_stay (hl : laidOutB P = true) {W' : World} (hb : Below W.heap.size W W') : ∀ (ts : List TypeId) (vs : List Value) (ds : List (DataW H)) (ps : List MemPlace), (∀ t ∈ ts, P.readableRec t = true ∧ t < P.types.size) →
    (∀ x ∈ ps, x.block < W.heap.size) → DataW.TrodAll enc P W 0 (fun _ => true) true ts vs ds ps → DataW.TrodAll enc P W' 0 (fun b => decide (b < W.heap.size)) true ts vs ds ps
  | [], [], [], _, _, _, h => h
  | t :: ts, v :: vs, d :: ds, ps, hr, hlt, h => by
    obtain ⟨p, q, h1, h2, rfl⟩ := h
    exact ⟨p, q, Below.trod hl (hr t (by simp)).1 (hr t (by simp)).2 h1 hb (fun x hx => hlt x (by simp [hx])), args_stay hl hb ts vs ds q (fun t' ht => hr t' (by simp [ht])) (fun x hx => hlt x (by simp [hx])) h2, rfl⟩
  | [], [], _ :: _, _, _, _, h => h.elim
  | [], _ :: _, _, _, _, _, h => h.elim
  | _ :: _, [], _, _, _, _, h => h.elim
  | _ :: _, _ :: _, [], _, _, _, h => h.elim
/-- From the contract on trees to what the statement asks. -/
theorem law_post {f : FuncId} {fn : Func} {s : ChangeSpec} {L : List TypeId} {B : TypeId} {b : Nat} {args : Array Value} {ds gs : List (DataW H)} {before : List MemPlace} (hL : okTy P L = true) (hl : laidOutB P = true) (hpar : ∀ t ∈ fn.params.toList, t ∈ L ∧ P.readableRec t = true ∧ t < P.types.size)
    (hvars : s.vars = []) (hres : fn.resultTypes = #[B]) (hB : P.underlying B = some .bool) (hs : ∀ ds : List (DataW H), RdL P fn.params.toList ds → s.fn H (ds ++ []) = { results := [.lit (.bool true)], args := ds })
    (hP : ∀ ds : List (DataW H), RdL P fn.params.toList ds → Rows.uptoBulkAll ds ≤ 1048576 → PC P f (ds.map dV) (.im (.bool true)))
    (hval : ∀ (j : Nat) t v, fn.params[j]? = some t → args[j]? = some v → Value.okWide P W .any b t v) (hW : DataW.Whole enc P fn.params.toList s.vars false W args.toList ds gs before)
    (hk : Rows.uptoSmall H (ds ++ gs) = true) (hg : (Cf.raw W).known) :
    Calls P f args W fun e W' => ∃ v, e = .returned v ∧ s.post enc P fn false true false false W args v W' := by
  have hlt := hW.lt
  have hW' := hW
  obtain ⟨p, q, hA, hV, rfl, _, _⟩ := hW
  rw [hvars] at hV
  obtain ⟨rfl, rfl⟩ := trodVars_none hV
  obtain ⟨h1, h2, h3⟩ := args_of hL (b := b) _ _ _ _ (fun t ht => (hpar t ht).1) (fun j t v h4 h5 => hval j t v (by simpa using h4) (by simpa using h5)) hA
  have hb : Rows.uptoBulkAll ds ≤ 1048576 := by
    have := of_decide_eq_true hk
    rwa [List.append_nil] at this
  refine ((hP ds h1 hb).2 (Cf.raw W) args rfl (raw_ok hg) (by simpa using h2) (fun i hi => ?_)).mono ?_
  · have := h3 i hi
    simpa [List.getD, Array.getD_eq_getD_getElem?] using this
  · rintro e W' ⟨v, x, st', rfl, ⟨rfl, rfl⟩, D, rfl, _, _, hE, hR⟩
    have hBel := raw_below hE
    obtain rfl := hR.of_some_bool
    refine ⟨_, rfl, ds, [], _, [], p, [], hW', ?_, ?_, ?_, hBel.frame _, fun h => by cases h⟩
    · rw [hs ds h1, hres]
      exact trodAll_mk1 (shut_bool hB true)
    · rw [hs ds h1]
      exact args_stay hl hBel _ _ _ _ (fun t ht => (hpar t ht).2) (fun x hx => hlt x (by simp [hx])) hA
    · rw [hs ds h1, hvars]
      rfl
end
theorem known_of {W : World} (h : W.ShapedOpen Try.prog) : (Cf.raw W).known := fun a ha => by
  rw [glL, List.mem_singleton] at ha
  subst ha
  obtain ⟨m, hm⟩ := cell_of_shapedOpen_int (zero := #[.int .i64 0]) (t := 3) h (of_decide_eq_true (by kernel_rfl)) (by kernel_rfl) rfl (by kernel_rfl) (by kernel_rfl) Try.underlying3
  exact ⟨m, raw_rd hm⟩
end Go.Proofs.Ytfggemopnlffeaa
