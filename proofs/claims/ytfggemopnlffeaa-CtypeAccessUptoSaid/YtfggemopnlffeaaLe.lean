/- Types as trees of values. -/
import Derived.Test.YtfggemopnlffeaaAg
import Derived.Test.YtfggemopnlffeaaPm
import Derived.Test.YtfggemopnlffeaaLd
import Derived.RangeFuncLeaves
import Derived.WalkKit
import Derived.Test.YtfggemopnlffeaaChecked

namespace Go.Proofs.Ytfggemopnlffeaa
set_option linter.unusedSimpArgs false
set_option linter.unusedVariables false
set_option linter.unnecessarySimpa false
open Go.RowKit

mutual
def tyV : Ty → V
  | .mk _ k s c es fs => .ag [.im (.int .i64 k), .im (.int .i64 s), .im (.int .i64 c), .sl (tyL es) .ro, .sl (fdL fs) .ro]
def fdV : Ty → V
  | .mk o k s c es fs => .ag [.im (.int .i64 o), .im (.int .i64 k), .im (.int .i64 s), .im (.int .i64 c), .sl (tyL es) .ro, .sl (fdL fs) .ro]
def tyL : List Ty → List V
  | [] => []
  | t :: r => tyV t :: tyL r
def fdL : List Ty → List V
  | [] => []
  | t :: r => fdV t :: fdL r
end
theorem tyL_eq : ∀ l, tyL l = l.map tyV
  | [] => by simp [tyL]
  | t :: r => by simp [tyL, tyL_eq r]
theorem fdL_eq : ∀ l, fdL l = l.map fdV
  | [] => by simp [fdL]
  | t :: r => by simp [fdL, fdL_eq r]
theorem tyV_eq (t : Ty) : tyV t = .ag [.im (.int .i64 t.kind), .im (.int .i64 t.size), .im (.int .i64 t.count), .sl (t.elem.map tyV) .ro, .sl (t.fields.map fdV) .ro] := by
  cases t; simp [tyV, tyL_eq, fdL_eq, Ty.kind, Ty.size, Ty.count, Ty.elem, Ty.fields]
theorem fdV_eq (t : Ty) : fdV t = .ag [.im (.int .i64 t.off), .im (.int .i64 t.kind), .im (.int .i64 t.size), .im (.int .i64 t.count), .sl (t.elem.map tyV) .ro, .sl (t.fields.map fdV) .ro] := by
  cases t; simp [fdV, tyL_eq, fdL_eq, Ty.kind, Ty.size, Ty.count, Ty.elem, Ty.fields, Ty.off]
theorem tyV_mk (o k s c : Int) (es fs : List Ty) : tyV (.mk o k s c es fs) = .ag [.im (.int .i64 k), .im (.int .i64 s), .im (.int .i64 c), .sl (es.map tyV) .ro, .sl (fs.map fdV) .ro] := tyV_eq _
theorem fdV_mk (o k s c : Int) (es fs : List Ty) : fdV (.mk o k s c es fs) = .ag [.im (.int .i64 o), .im (.int .i64 k), .im (.int .i64 s), .im (.int .i64 c), .sl (es.map tyV) .ro, .sl (fs.map fdV) .ro] := fdV_eq _
theorem tyV_isAg (t : Ty) : (tyV t).isAg = true := by rw [tyV_eq]; rfl
theorem fdV_isAg (t : Ty) : (fdV t).isAg = true := by rw [fdV_eq]; rfl
theorem tyV_live (t : Ty) : (tyV t).live = true := by rw [tyV_eq]; rfl
theorem fdV_live (t : Ty) : (fdV t).live = true := by rw [fdV_eq]; rfl
theorem tyV_firm (t : Ty) : (tyV t).firm = true := by rw [tyV_eq]; rfl
theorem fdV_firm (t : Ty) : (fdV t).firm = true := by rw [fdV_eq]; rfl
theorem tyV_strip (g : Bool) (t : Ty) : strip g (tyV t) = tyV t := by rw [tyV_eq]; rfl
theorem fdV_strip (g : Bool) (t : Ty) : strip g (fdV t) = fdV t := by rw [fdV_eq]; rfl
theorem tyV_size (t : Ty) : (tyV t).size = 5 := by rw [tyV_eq]; rfl
theorem fdV_size (t : Ty) : (fdV t).size = 6 := by rw [fdV_eq]; rfl
theorem tyV_cells (t : Ty) : (tyV t).cells = [.im (.int .i64 t.kind), .im (.int .i64 t.size), .im (.int .i64 t.count), .sl (t.elem.map tyV) .ro, .sl (t.fields.map fdV) .ro] := by rw [tyV_eq]; rfl
theorem fdV_cells (t : Ty) : (fdV t).cells = [.im (.int .i64 t.off), .im (.int .i64 t.kind), .im (.int .i64 t.size), .im (.int .i64 t.count), .sl (t.elem.map tyV) .ro, .sl (t.fields.map fdV) .ro] := by rw [fdV_eq]; rfl
theorem idsL_map {α : Type} {p : Nat → Bool} {f : α → V} (h : ∀ x, (f x).ids p = true) : ∀ l : List α, V.idsL p (l.map f) = true
  | [] => rfl
  | x :: l => by simp [V.idsL, h x, idsL_map h l]
theorem idsL_map' {α : Type} {p : Nat → Bool} {f : α → V} : ∀ l : List α, (∀ x ∈ l, (f x).ids p = true) → V.idsL p (l.map f) = true
  | [], _ => rfl
  | x :: l, h => by simp [V.idsL, h x (by simp), idsL_map' l (fun y hy => h y (by simp [hy]))]
theorem tyV_ids (p : Nat → Bool) : ∀ t : Ty, (tyV t).ids p = true ∧ (fdV t).ids p = true := by
  refine Ty.induct fun o k s c es fs hE hF => ?_
  rw [tyV_mk, fdV_mk]
  simp [V.ids, V.idsL, idsL_map' es (fun x hx => (hE x hx).1), idsL_map' fs (fun x hx => (hF x hx).2)]
theorem tyV_id (p : Nat → Bool) (t : Ty) : (tyV t).ids p = true := (tyV_ids p t).1
theorem fdV_id (p : Nat → Bool) (t : Ty) : (fdV t).ids p = true := (tyV_ids p t).2
theorem tyL_id (p : Nat → Bool) (l : List Ty) : V.idsL p (l.map tyV) = true := idsL_map (tyV_id p) l
theorem fdL_id (p : Nat → Bool) (l : List Ty) : V.idsL p (l.map fdV) = true := idsL_map (fdV_id p) l
/-- The bounds of what is handed in. -/
def I64 (n : Int) : Prop := -9223372036854775808 ≤ n ∧ n ≤ 9223372036854775807
instance (n : Int) : Decidable (I64 n) := by unfold I64; infer_instance
/-- f holds of the first m of a list. -/
def AllTo {α : Type} (f : α → Bool) (l : List α) (m : Nat) : Prop := ∀ j (hj : j < l.length), j < m → f l[j] = true
theorem AllTo.zero {α : Type} (f : α → Bool) (l : List α) : AllTo f l 0 := fun _ _ h => absurd h (Nat.not_lt_zero _)
theorem AllTo.succ {α : Type} {f : α → Bool} {l : List α} {m : Nat} (h : AllTo f l m) (hm : m < l.length) (hn : f l[m] = true) : AllTo f l (m + 1) := by
  intro j hj hlt
  rcases Nat.lt_succ_iff_lt_or_eq.1 hlt with h1 | rfl
  · exact h j hj h1
  · exact hn
theorem AllTo.done {α : Type} {f : α → Bool} {l : List α} {m : Nat} (h : AllTo f l m) (hm : l.length ≤ m) : l.all f = true := by
  rw [List.all_eq_true]
  intro x hx
  obtain ⟨j, hj, rfl⟩ := List.getElem_of_mem hx
  exact h j hj (Nat.lt_of_lt_of_le hj hm)
theorem not_all_of {α : Type} {l : List α} {f : α → Bool} {j : Nat} (hj : j < l.length) (h : f l[j] = false) : l.all f = false := by
  rw [List.all_eq_false]
  exact ⟨_, List.getElem_mem hj, by simp [h]⟩
/-- A fact kept from simp. -/
theorem get_some {α : Type} {l : List α} {m : Nat} (h : m < l.length) : l[m]? = some l[m] := List.getElem?_eq_getElem h
/-- The numbers are ints and the lists are no longer than what comes in may be. -/
def fitB : Ty → Bool := Ty.para fun t re rf => decide (I64 t.off ∧ I64 t.kind ∧ I64 t.size ∧ I64 t.count) && decide (t.elem.length ≤ 4194304) && decide (t.fields.length ≤ 4194304) && re.all id && rf.all id
def fit (t : Ty) : Prop := fitB t = true
theorem fit_mk {o k s c : Int} {es fs : List Ty} (h : fit (.mk o k s c es fs)) : es.length ≤ 4194304 ∧ fs.length ≤ 4194304 ∧ (∀ t ∈ es, fit t) ∧ ∀ t ∈ fs, fit t := by
  have e : fitB (.mk o k s c es fs) = _ := Ty.para_mk _ o k s c es fs
  unfold fit at h
  rw [e] at h
  simp only [Bool.and_eq_true, decide_eq_true_eq, Ty.elem, Ty.fields, List.all_map, List.all_eq_true] at h
  exact ⟨of_decide_eq_true h.1.1.1.2, of_decide_eq_true h.1.1.2, h.1.2, h.2⟩
theorem fit_num {o k s c : Int} {es fs : List Ty} (h : fit (.mk o k s c es fs)) : I64 o ∧ I64 k ∧ I64 s ∧ I64 c := by
  have e : fitB (.mk o k s c es fs) = _ := Ty.para_mk _ o k s c es fs
  unfold fit at h
  rw [e] at h
  simp only [Bool.and_eq_true] at h
  exact of_decide_eq_true h.1.1.1.1
end Go.Proofs.Ytfggemopnlffeaa
/- Calls that are handed boxes, and functions that are handed boxes, as rules of a walk. -/
namespace Go.Proofs.Ytfggemopnlffeaa
set_option linter.unusedSimpArgs false
set_option linter.unusedVariables false
set_option linter.unnecessarySimpa false
open Go.RowKit

theorem ofl_lt {l : List Ent} {i : Nat} (h : ofl l i ≠ .free) : i < l.length := by
  refine Nat.lt_of_not_le fun hle => h ?_
  simp [ofl, List.getD, List.getElem?_eq_none hle]
theorem DC.enter {P : Program} {f : FuncId} {fn : Func} {c : Code} {xs : List V} {s : List (Nat × V)} {l0 l1 : List Ent} {r : V} (N : Nat) (hf : P.funcs[f]? = some fn) (hb : fn.body = some c) (hn : fn.name ≠ "runtime.NumGoroutine") (hN : fn.ntmps = N) (hx : Nat.ble xs.length N = true) (hs : enum 0 xs = s)
    (h : AWp P (ofl l0) c (Fin P fn (ofl l0) fun z st => z = r ∧ st = ofl l1) ⟨dn N s, ofl l0⟩) : DC P f xs l0 r l1 := by
  subst hs hN
  rw [← enum_dn (by simpa using hx)] at h
  exact ACalls.enter hf hb hn h
theorem ofl_take (l : List Ent) (n : Nat) : (fun i => if ltB n i then ofl l i else .free) = ofl (l.take n) := by
  funext i
  unfold ofl ltB
  by_cases hi : i < n
  · simp [hi, List.getD, List.getElem?_take]
  · simp [hi, List.getD, List.getElem?_take]
theorem all_box {l : List Ent} {n : Nat} (hb : (l.take n).all (entOk (ltB n)) = true) (i : Nat) (cs : List V) (h1 : ofl l i = .box cs) (h2 : ltB n i = true) : V.idsL (ltB n) cs = true := by
  have hi : i < n := by simpa [ltB] using h2
  have hil : i < l.length := ofl_lt (by rw [h1]; simp)
  have he : l[i] = .box cs := by simpa [ofl, List.getD, hil] using h1
  have := List.all_eq_true.1 hb l[i] (by
    refine List.mem_iff_getElem?.2 ⟨i, ?_⟩
    simp [List.getElem?_take, hi, hil])
  rw [he] at this
  exact this
/-- A function that is handed boxes ends with one result. -/
theorem Fin.oneS {P : Program} {fn : Func} {N t : Nat} {s : List (Nat × V)} {l l0 l1 : List Ent} {e : Exit} {x : V} (hr : fn.results = #[.tmp t]) (ht : Nat.blt t N = true) (he : e = .normal ∨ e = .ret) (hw : Wk (look s t) x) (hl : l.take l0.length = l1) (hi : x.ids (ltB l0.length) = true) (hb : l1.all (entOk (ltB l0.length)) = true) :
    Fin P fn (ofl l0) (fun z st => z = x ∧ st = ofl l1) e ⟨dn N s, ofl l⟩ :=
  ⟨he, look s t, x, ltB l0.length, .inl ⟨_, hr, (St.ev_dn ht).symm⟩, .of hw hi, fun i h => by simpa [ltB] using ofl_lt h, all_box (hl ▸ hb), rfl, by rw [← hl]; exact ofl_take l _⟩

theorem wrs_same {st : Nat → Ent} : ∀ (ps : List (Nat × Ent)), (∀ p ∈ ps, st p.1 = p.2) → wrs st ps = st
  | [], _ => rfl
  | p :: ps, h => by
    rw [wrs]
    have : upd st p.1 p.2 = st := by
      funext j
      unfold upd
      split
      · rename_i e; rw [e]; exact (h p (by simp)).symm
      · rfl
    rw [this]
    exact wrs_same ps fun q hq => h q (by simp [hq])
section
variable {P : Program} {o : Oper} {ev : Operand → V}
/-- A call that leaves the boxes it is handed as they are. -/
theorem step_callQ {c : Operand} {args : Array Operand} {tys : Array TypeId} {f : FuncId} {us vs xs : List V} {r : V} {l0 : List Ent} (js : List Nat) (ho : o.op = .call { callee := .value c, args := args, argTypes := tys }) (hc : ev c = .fn (.func f) us vs) (h : DC P f xs l0 r l0)
    (hw : WkL (us ++ args.toList.map ev ++ vs) (V.renL (gOf js) xs)) (hi : V.idsL (ltB js.length) xs = true) (hnd : js.Nodup) (h0 : l0.length = js.length) (he : l0.all (entOk (ltB js.length)) = true) :
    Step P o ev (renE js 0 l0) ⟨V.ren (gOf js) r, []⟩ := by
  intro C ρ hC hR hfp
  have h1 := step_callS js ho hc h hw hi hnd h0 h0 he C ρ hC hR hfp
  have e : wrs C.st (renE js 0 l0) = C.st := wrs_same _ hfp
  simp only [e] at h1
  exact h1
end
/-- A call that is handed boxes, next. -/
theorem AR.callS {P : Program} {N : Nat} {ops : Array Oper} {dr : Bool} {Q : St → Prop} {d : Option Tmp} {c : Operand} {args : Array Operand} {tys : Array TypeId} {ty : TypeId} {pos : String} {af : Array Edge} {g : Option (Nat × Bool)} {os : List Oper} {k : Nat} {s : List (Nat × V)} {l l' : List Ent}
    {acc : List (Nat × List Nat × List Nat)} {f : FuncId} {us vs xs xs' : List V} {r r' : V} {l0 l1 : List Ent} (js : List Nat) (h : DC P f xs l0 r l1) (hg : gd ops ⟨d, .call { callee := .value c, args := args, argTypes := tys }, ty, pos, af, g⟩ ⟨dn N s, ofl l⟩ = some true) (hc : St.ev ⟨dn N s, ofl l⟩ c = .fn (.func f) us vs)
    (hx : V.renL (gOf js) xs = xs') (hr : V.ren (gOf js) r = r') (hw : WkL (us ++ args.toList.map (St.ev ⟨dn N s, ofl l⟩) ++ vs) xs') (hi : V.idsL (ltB js.length) xs = true) (hnd : decide js.Nodup = true) (h0 : l0.length = js.length) (h1 : l1.length = js.length) (he : l0.all (entOk (ltB js.length)) = true)
    (hl : ∀ p ∈ renE js 0 l0, ofl l p.1 = p.2) (hl' : wrl l (renE js 0 l1) = l')
    (hn : AR P ops dr Q os (k + 1) ⟨dn N (putA s d r'), ofl l'⟩ ((k, (renE js 0 l0).map Prod.fst, (renE js 0 l1).map Prod.fst) :: acc)) :
    AR P ops dr Q (⟨d, .call { callee := .value c, args := args, argTypes := tys }, ty, pos, af, g⟩ :: os) k ⟨dn N s, ofl l⟩ acc := by
  subst hx hr hl'
  refine .inr (.inl ⟨hg, _, _, step_callS js rfl hc h hw hi (of_decide_eq_true hnd) h0 h1 he, hl, ?_⟩)
  rw [ofl_wrl, ← put_dn N s (ofl l)] at hn
  exact hn
theorem AR.callQ {P : Program} {N : Nat} {ops : Array Oper} {dr : Bool} {Q : St → Prop} {d : Option Tmp} {c : Operand} {args : Array Operand} {tys : Array TypeId} {ty : TypeId} {pos : String} {af : Array Edge} {g : Option (Nat × Bool)} {os : List Oper} {k : Nat} {s : List (Nat × V)} {l : List Ent}
    {acc : List (Nat × List Nat × List Nat)} {f : FuncId} {us vs xs xs' : List V} {r r' : V} {l0 : List Ent} (js : List Nat) (h : DC P f xs l0 r l0) (hg : gd ops ⟨d, .call { callee := .value c, args := args, argTypes := tys }, ty, pos, af, g⟩ ⟨dn N s, ofl l⟩ = some true) (hc : St.ev ⟨dn N s, ofl l⟩ c = .fn (.func f) us vs)
    (hx : V.renL (gOf js) xs = xs') (hr : V.ren (gOf js) r = r') (hw : WkL (us ++ args.toList.map (St.ev ⟨dn N s, ofl l⟩) ++ vs) xs') (hi : V.idsL (ltB js.length) xs = true) (hnd : decide js.Nodup = true) (h0 : l0.length = js.length) (he : l0.all (entOk (ltB js.length)) = true)
    (hl : ∀ p ∈ renE js 0 l0, ofl l p.1 = p.2)
    (hn : AR P ops dr Q os (k + 1) ⟨dn N (putA s d r'), ofl l⟩ ((k, (renE js 0 l0).map Prod.fst, []) :: acc)) :
    AR P ops dr Q (⟨d, .call { callee := .value c, args := args, argTypes := tys }, ty, pos, af, g⟩ :: os) k ⟨dn N s, ofl l⟩ acc := by
  subst hx hr
  refine .inr (.inl ⟨hg, _, _, step_callQ js rfl hc h hw hi (of_decide_eq_true hnd) h0 he, hl, ?_⟩)
  show AR P ops dr Q os (k + 1) ⟨(St.put ⟨dn N s, ofl l⟩ d (V.ren (gOf js) r)).s, ofl l⟩ _
  rw [put_dn]
  exact hn
/-! ### Renaming, reckoned -/
theorem ren_im (g : Nat → Nat) (v : Value) : V.ren g (.im v) = .im v := by rw [V.ren]
theorem ren_ag (g : Nat → Nat) (v : List V) : V.ren g (.ag v) = .ag (V.renL g v) := by rw [V.ren]
theorem ren_tu (g : Nat → Nat) (v : List V) : V.ren g (.tu v) = .tu (V.renL g v) := by rw [V.ren]
theorem ren_ro (g : Nat → Nat) (v : List V) : V.ren g (.sl v .ro) = .sl (V.renL g v) .ro := by
  rw [V.ren]
  intro id h
  cases h
theorem ren_full (g : Nat → Nat) (v : List V) : V.ren g (.sl v .full) = .sl (V.renL g v) .full := by
  rw [V.ren]
  intro id h
  cases h
theorem ren_nl (g : Nat → Nat) (v : List V) : V.ren g (.sl v .nl) = .sl (V.renL g v) .nl := by
  rw [V.ren]
  intro id h
  cases h
theorem ren_nn (g : Nat → Nat) (v : List V) : V.ren g (.sl v .nn) = .sl (V.renL g v) .nn := by
  rw [V.ren]
  intro id h
  cases h
theorem ren_nz (g : Nat → Nat) (v : List V) : V.ren g (.sl v .nz) = .sl (V.renL g v) .nz := by
  rw [V.ren]
  intro id h
  cases h
theorem ren_own (g : Nat → Nat) (v : List V) (i : Nat) : V.ren g (.sl v (.own i)) = .sl (V.renL g v) (.own (g i)) := by rw [V.ren]
theorem ren_pt (g : Nat → Nat) (i o : Nat) : V.ren g (.pt i o) = .pt (g i) o := by rw [V.ren]
theorem ren_bs (g : Nat → Nat) (i n : Nat) : V.ren g (.bs i n) = .bs (g i) n := by rw [V.ren]
theorem ren_ep (g : Nat → Nat) (x : V) (o : Nat) : V.ren g (.ep x o) = .ep (V.ren g x) o := by rw [V.ren]
theorem ren_fn (g : Nat → Nat) (f : Fn) (v w : List V) : V.ren g (.fn f v w) = .fn f (V.renL g v) (V.renL g w) := by rw [V.ren]
theorem ren_dead (g : Nat → Nat) : V.ren g .dead = .dead := by rw [V.ren]
theorem renL_nil (g : Nat → Nat) : V.renL g [] = [] := by rw [V.renL]
theorem renL_cons (g : Nat → Nat) (x : V) (l : List V) : V.renL g (x :: l) = V.ren g x :: V.renL g l := by rw [V.renL]
theorem gOf_z (j : Nat) (js : List Nat) : gOf (j :: js) 0 = j := rfl
theorem gOf_s (j i : Nat) (js : List Nat) : gOf (j :: js) (i + 1) = gOf js i := rfl
theorem tyV_ren (g : Nat → Nat) (t : Ty) : V.ren g (tyV t) = tyV t := V.ren_id g _ (tyV_id _ t)
theorem fdV_ren (g : Nat → Nat) (t : Ty) : V.ren g (fdV t) = fdV t := V.ren_id g _ (fdV_id _ t)
theorem tyL_ren (g : Nat → Nat) (l : List Ty) : V.renL g (l.map tyV) = l.map tyV := V.renL_id g _ (tyL_id _ l)
theorem fdL_ren (g : Nat → Nat) (l : List Ty) : V.renL g (l.map fdV) = l.map fdV := V.renL_id g _ (fdL_id _ l)
theorem SR : type_of% (And.intro @ren_im (And.intro @ren_ag (And.intro @ren_tu (And.intro @ren_ro (And.intro @ren_full (And.intro @ren_nl (And.intro @ren_nz (And.intro @ren_nn (And.intro @ren_own (And.intro @ren_bs (And.intro @ren_pt (And.intro @ren_ep (And.intro @ren_fn (And.intro @ren_dead (And.intro @renL_nil (And.intro @renL_cons (And.intro @gOf_z (And.intro @gOf_s (And.intro @tyV_ren (And.intro @fdV_ren (And.intro @tyL_ren @fdL_ren))))))))))))))))))))) := And.intro @ren_im (And.intro @ren_ag (And.intro @ren_tu (And.intro @ren_ro (And.intro @ren_full (And.intro @ren_nl (And.intro @ren_nz (And.intro @ren_nn (And.intro @ren_own (And.intro @ren_bs (And.intro @ren_pt (And.intro @ren_ep (And.intro @ren_fn (And.intro @ren_dead (And.intro @renL_nil (And.intro @renL_cons (And.intro @gOf_z (And.intro @gOf_s (And.intro @tyV_ren (And.intro @fdV_ren (And.intro @tyL_ren @fdL_ren))))))))))))))))))))
end Go.Proofs.Ytfggemopnlffeaa
/- Expressions and variables as trees of values. -/
namespace Go.Proofs.Ytfggemopnlffeaa
set_option linter.unusedSimpArgs false
set_option linter.unusedVariables false
set_option linter.unnecessarySimpa false
open Go.RowKit

mutual
def exV : Ex → V
  | .mk o n s w l => .ag [.im (.int .i64 o), .im (.int .u32 n), .im (.string s), .im (.int .i64 w), .sl (exL l) .ro]
def exL : List Ex → List V
  | [] => []
  | t :: r => exV t :: exL r
end
theorem exL_eq : ∀ l, exL l = l.map exV
  | [] => by simp [exL]
  | t :: r => by simp [exL, exL_eq r]
theorem exV_eq (t : Ex) : exV t = .ag [.im (.int .i64 t.op), .im (.int .u32 t.n), .im (.string t.name), .im (.int .i64 t.width), .sl (t.l.map exV) .ro] := by
  cases t; simp [exV, exL_eq, Ex.op, Ex.n, Ex.name, Ex.width, Ex.l]
theorem exV_mk (o n : Int) (s : ByteArray) (w : Int) (l : List Ex) : exV (.mk o n s w l) = .ag [.im (.int .i64 o), .im (.int .u32 n), .im (.string s), .im (.int .i64 w), .sl (l.map exV) .ro] := exV_eq _
theorem exV_isAg (t : Ex) : (exV t).isAg = true := by rw [exV_eq]; rfl
theorem exV_live (t : Ex) : (exV t).live = true := by rw [exV_eq]; rfl
theorem exV_firm (t : Ex) : (exV t).firm = true := by rw [exV_eq]; rfl
theorem exV_strip (g : Bool) (t : Ex) : strip g (exV t) = exV t := by rw [exV_eq]; rfl
theorem exV_size (t : Ex) : (exV t).size = 5 := by rw [exV_eq]; rfl
theorem exV_cells (t : Ex) : (exV t).cells = [.im (.int .i64 t.op), .im (.int .u32 t.n), .im (.string t.name), .im (.int .i64 t.width), .sl (t.l.map exV) .ro] := by rw [exV_eq]; rfl
theorem exV_id (p : Nat → Bool) : ∀ t : Ex, (exV t).ids p = true := by
  refine Ex.induct fun o n s w l h => ?_
  rw [exV_mk]
  simp [V.ids, V.idsL, idsL_map' l h]
theorem exL_id (p : Nat → Bool) (l : List Ex) : V.idsL p (l.map exV) = true := idsL_map (exV_id p) l

/-- A variable. -/
def vaV (v : Va) : V := .ag [.im (.string v.name), .im (.int .i64 v.ty.kind), .im (.int .i64 v.ty.size), .im (.int .i64 v.ty.count), .sl (v.ty.elem.map tyV) .ro, .sl (v.ty.fields.map fdV) .ro]
theorem vaV_eq (v : Va) : vaV v = .ag [.im (.string v.name), .im (.int .i64 v.ty.kind), .im (.int .i64 v.ty.size), .im (.int .i64 v.ty.count), .sl (v.ty.elem.map tyV) .ro, .sl (v.ty.fields.map fdV) .ro] := rfl
theorem vaV_isAg (v : Va) : (vaV v).isAg = true := rfl
theorem vaV_live (v : Va) : (vaV v).live = true := rfl
theorem vaV_firm (v : Va) : (vaV v).firm = true := rfl
theorem vaV_strip (g : Bool) (v : Va) : strip g (vaV v) = vaV v := rfl
theorem vaV_size (v : Va) : (vaV v).size = 6 := rfl
theorem vaV_cells (v : Va) : (vaV v).cells = [.im (.string v.name), .im (.int .i64 v.ty.kind), .im (.int .i64 v.ty.size), .im (.int .i64 v.ty.count), .sl (v.ty.elem.map tyV) .ro, .sl (v.ty.fields.map fdV) .ro] := rfl
theorem vaV_id (p : Nat → Bool) (v : Va) : (vaV v).ids p = true := by simp [vaV, V.ids, V.idsL, tyL_id, fdL_id]
theorem vaL_id (p : Nat → Bool) (l : List Va) : V.idsL p (l.map vaV) = true := idsL_map (vaV_id p) l

theorem exV_ren (g : Nat → Nat) (t : Ex) : V.ren g (exV t) = exV t := V.ren_id g _ (exV_id _ t)
theorem exL_ren (g : Nat → Nat) (l : List Ex) : V.renL g (l.map exV) = l.map exV := V.renL_id g _ (exL_id _ l)
theorem vaV_ren (g : Nat → Nat) (v : Va) : V.ren g (vaV v) = vaV v := V.ren_id g _ (vaV_id _ v)
theorem vaL_ren (g : Nat → Nat) (l : List Va) : V.renL g (l.map vaV) = l.map vaV := V.renL_id g _ (vaL_id _ l)

/-- The numbers are numbers of the machine and the lists are no longer than what comes in may be. -/
def fitEB : Ex → Bool := Ex.para fun t r => decide (I64 t.op ∧ (0 ≤ t.n ∧ t.n ≤ 4294967295) ∧ I64 t.width) && decide (t.l.length ≤ 4194304) && decide (t.name.size ≤ 9223372036854775807) && r.all id
def fitE (t : Ex) : Prop := fitEB t = true
theorem fitE_mk {o n : Int} {s : ByteArray} {w : Int} {l : List Ex} (h : fitE (.mk o n s w l)) : l.length ≤ 4194304 ∧ ∀ t ∈ l, fitE t := by
  have e : fitEB (.mk o n s w l) = _ := Ex.para_mk _ o n s w l
  unfold fitE at h
  rw [e] at h
  simp only [Bool.and_eq_true, Ex.l, List.all_map, List.all_eq_true] at h
  exact ⟨of_decide_eq_true h.1.1.2, h.2⟩
theorem fitE_name {o n : Int} {s : ByteArray} {w : Int} {l : List Ex} (h : fitE (.mk o n s w l)) : s.size ≤ 9223372036854775807 := by
  have e : fitEB (.mk o n s w l) = _ := Ex.para_mk _ o n s w l
  unfold fitE at h
  rw [e] at h
  simp only [Bool.and_eq_true] at h
  exact of_decide_eq_true h.1.2
theorem fitE_num {o n : Int} {s : ByteArray} {w : Int} {l : List Ex} (h : fitE (.mk o n s w l)) : I64 o ∧ (0 ≤ n ∧ n ≤ 4294967295) ∧ I64 w := by
  have e : fitEB (.mk o n s w l) = _ := Ex.para_mk _ o n s w l
  unfold fitE at h
  rw [e] at h
  simp only [Bool.and_eq_true] at h
  exact of_decide_eq_true h.1.1.1
/-- Variables as they may come in. -/
def fitV (vs : List Va) : Prop := vs.length ≤ 4194304 ∧ ∀ v ∈ vs, fit v.ty
end Go.Proofs.Ytfggemopnlffeaa
/- How a body ends, in general: several results, results in boxes, slices over boxes that nobody writes to any more. -/
namespace Go.Proofs.Ytfggemopnlffeaa
set_option linter.unusedSimpArgs false
set_option linter.unusedVariables false
set_option linter.unnecessarySimpa false
open Go.RowKit

/-! ### The cells of a list of elements -/
def flatV (es : List V) : List V := es.flatMap V.cells
theorem flatV_length {z : Nat} : ∀ {es : List V}, allZ z es = true → (flatV es).length = es.length * z
  | [], _ => by simp [flatV]
  | x :: l, h => by
    rw [allZ_cons] at h
    simp only [Bool.and_eq_true, beq_iff_eq] at h
    have := flatV_length h.2
    unfold flatV at this ⊢
    rw [List.flatMap_cons, List.length_append, this, List.length_cons, Nat.succ_mul, Nat.add_comm]
    have := h.1.2
    unfold V.size at this
    omega
theorem flatV_get {z : Nat} : ∀ {es : List V}, allZ z es = true → ∀ {i j : Nat} (hi : i < es.length), j < z → (flatV es)[i * z + j]? = es[i].cells[j]?
  | x :: l, h, i, j, hi, hj => by
    rw [allZ_cons] at h
    simp only [Bool.and_eq_true, beq_iff_eq] at h
    have hx : x.cells.length = z := h.1.2
    show (x.cells ++ flatV l)[i * z + j]? = _
    cases i with
    | zero => simp only [Nat.zero_mul, Nat.zero_add, List.getElem_cons_zero]; rw [List.getElem?_append_left (by omega)]
    | succ i =>
      rw [Nat.succ_mul, List.getElem?_append_right (by omega), hx, show i * z + z + j - z = i * z + j by omega, flatV_get h.2 (by simpa using hi) hj, List.getElem_cons_succ]
theorem allZ_get {z : Nat} {es : List V} (h : allZ z es = true) {i : Nat} (hi : i < es.length) : es[i].live = true ∧ es[i].size = z := by
  have := List.all_eq_true.1 h _ (List.getElem_mem hi)
  simpa using this

/-! ### What is kept -/
theorem WkF.bs {st : Nat → Ent} {kp : Nat → Bool} {id n z : Nat} {es cs : List V} (hb : st id = .box cs) (hk : kp id = false) (hl : es.length = n) (hes : allZ z es = true) (hc : cs = flatV es) (hi : V.idsL kp es = true) : WkF st kp (.bs id n) (.sl es .ro) := by
  intro C v hst hC hR
  subst hst hl hc
  cases hR with
  | @bs _ _ g cap cs' hσ hb' hcap hmax =>
    obtain ⟨g', bs, t, k1, k2, k3, k4, k5⟩ := hC.box id _ hb
    obtain rfl : g = g' := Option.some.inj (hσ.symm.trans k1)
    rw [flatV_length hes] at k3
    have hcell : ∀ i (hi : i < es.length) j, j < z → i * z + j < (flatV es).length := fun i hi j hj => by
      rw [flatV_length hes]
      have : (i + 1) * z ≤ es.length * z := Nat.mul_le_mul_right z hi
      rw [Nat.succ_mul] at this
      omega
    have hR : ∀ i (hi : i < es.length) j (hj : j < es[i].cells.length), R C es[i].cells[j] (bs.getD (i * z + j) undef) := fun i hi j hj => by
      have hjz : j < z := by have := (allZ_get hes hi).2; unfold V.size at this; omega
      have h1 := k5 (i * z + j) (hcell i hi j hjz)
      have h2 := flatV_get hes hi hjz
      rw [List.getElem?_eq_getElem (hcell i hi j hjz), List.getElem?_eq_getElem hj] at h2
      rwa [Option.some.inj h2] at h1
    have hone : ∀ i (hi : i < es.length) j, j < z → (bs.getD (i * z + j) undef).oneCell' = true := fun i hi j hj => k4 _ (hcell i hi j hj)
    -- the values
    have hu : ∀ i (hi : i < es.length), ∃ u : Value, u.cells.size = z ∧ R C es[i] u ∧ ∀ j, j < z → u.cells[j]? = some (bs.getD (i * z + j) undef) := fun i hi => by
      obtain ⟨h1, h2⟩ := allZ_get hes hi
      cases he : es[i] with
      | ag ds =>
        have hds : ds.length = z := by rw [he] at h2; exact h2
        have hsz : i * z + z ≤ bs.size := by
          have : (i + 1) * z ≤ es.length * z := Nat.mul_le_mul_right z hi
          rw [Nat.succ_mul] at this
          omega
        refine ⟨.agg ((List.range z).map fun j => bs.getD (i * z + j) undef).toArray, by simp [Value.cells], .ag (by simp [hds]) (fun j hj => ?_) (fun j hj => ?_), fun j hj => by simp [Value.cells, hj]⟩
        · have : j < z := by omega
          simpa [Array.getD_eq_getD_getElem?, this] using hone i hi j this
        · have : j < z := by omega
          have h3 := hR i hi j (by rw [he]; exact hj)
          simp only [he] at h3
          simpa [Array.getD_eq_getD_getElem?, this, V.cells] using h3
      | tu vs => rw [he] at h1; cases h1
      | gi b x => rw [he] at h1; cases h1
      | dead => rw [he] at h1; cases h1
      | _ =>
        have hz : 1 = z := by rw [he] at h2; exact h2
        subst hz
        have h3 := hR i hi 0 (by rw [he]; exact Nat.one_pos)
        simp only [he] at h3
        have h4 := h3.one (by rfl) (fun cs e => by cases e)
        refine ⟨bs.getD (i * 1 + 0) undef, by rw [h4.2.2]; rfl, h3, fun j hj => ?_⟩
        obtain rfl : j = 0 := by omega
        rw [h4.2.2]
        rfl
    refine .sl (z := z) (u := fun i => if hi : i < es.length then (hu i hi).choose else undef) hcap hmax (fun i hi => ?_) (fun i hi => ?_) (fun i hi => ⟨_, rfl, fun j c hj => ?_⟩) trivial
    · simp only [hi, dif_pos]
      exact ⟨(allZ_get hes hi).2, (hu i hi).choose_spec.1⟩
    · simp only [hi, dif_pos]
      exact (hu i hi).choose_spec.2.1.only (V.idsL_get ‹V.idsL kp es = true› i hi)
    · simp only [hi, dif_pos] at hj
      have hjz : j < z := by
        have := (Array.getElem?_eq_some_iff.1 hj).1
        rw [(hu i hi).choose_spec.1] at this
        exact this
      rw [(hu i hi).choose_spec.2.2 j hjz] at hj
      cases hj
      rw [add_mul_add, Addr.add_lit]
      have hlt : i * z + j < bs.size := by
        have := hcell i hi j hjz
        rw [flatV_length hes] at this
        omega
      refine ⟨by simp [Cf.only, World.cell?, k2, hlt], hC.bav id _ g _ hb k1, fun i' hi' => ?_⟩
      left
      show (if kp i' then C.st i' else .free) = .free
      split
      · rename_i hkp
        refine Classical.byContradiction fun hne => ?_
        have := hC.inj i' id g hne (by rw [hb]; simp) hi' k1
        subst this
        rw [hk] at hkp
        cases hkp
      · rfl
inductive WkFL (st : Nat → Ent) (kp : Nat → Bool) : List V → List V → Prop
  | nil : WkFL st kp [] []
  | cons {x y : V} {l m : List V} (h : WkF st kp x y) (hl : WkFL st kp l m) : WkFL st kp (x :: l) (y :: m)
theorem WkFL.length {st : Nat → Ent} {kp : Nat → Bool} {l m : List V} (h : WkFL st kp l m) : l.length = m.length := by
  induction h with
  | nil => rfl
  | cons _ _ ih => simp [ih]
theorem WkFL.get {st : Nat → Ent} {kp : Nat → Bool} {l m : List V} (h : WkFL st kp l m) : ∀ i (h1 : i < l.length) (h2 : i < m.length), WkF st kp l[i] m[i] := by
  induction h with
  | nil => intro i h1; cases h1
  | cons h _ ih =>
    intro i h1 h2
    cases i with
    | zero => exact h
    | succ i => exact ih i (by simpa using h1) (by simpa using h2)
theorem WkF.ag {st : Nat → Ent} {kp : Nat → Bool} {cs ds : List V} (h : WkFL st kp cs ds) : WkF st kp (.ag cs) (.ag ds) := fun C v hst hC hR => by
  have hl := h.length
  cases hR with
  | ag hn h1 h0 => exact .ag (hn.trans hl) (fun i hi => h1 i (by omega)) (fun i hi => h.get i (by omega) hi C _ hst hC (h0 i (by omega)))
theorem WkF.tu {st : Nat → Ent} {kp : Nat → Bool} {cs ds : List V} (h : WkFL st kp cs ds) : WkF st kp (.tu cs) (.tu ds) := fun C v hst hC hR => by
  have hl := h.length
  cases hR with
  | tu hn h0 => exact .tu (hn.trans hl) (fun i hi => h.get i (by omega) hi C _ hst hC (h0 i (by omega)))

/-! ### Results -/
def resA (P : Program) (A : St) : ResultVar → Option V
  | .tmp t => some (A.ev (.tmp t))
  | .cell t ty => match A.ev (.tmp t) with
    | .pt id off => match A.st id with
      | .box cs => if off = 0 then match agOf P ty with
          | some true => match szOf P ty with
            | some z => if cs.length = z then some (.ag cs) else none
            | none => none
          | some false => cs[0]?
          | none => none
        else none
      | _ => none
    | _ => none
theorem resA_sound {P : Program} {A : St} {r : ResultVar} {x : V} (h : resA P A r = some x) : resC P A r x := by
  cases r with
  | tmp t => cases h; exact rfl
  | cell t ty =>
    unfold resA at h
    simp only at h
    split at h
    · rename_i id off he
      split at h
      · rename_i cs hs
        split at h
        · rename_i h0
          subst h0
          split at h
          · rename_i ha
            split at h
            · rename_i z hz
              split at h
              · rename_i hl
                cases h
                unfold szOf at hz
                cases hi : P.info? ty with
                | none => rw [hi] at hz; cases hz
                | some i =>
                  rw [hi] at hz
                  simp only [Option.map_some, Option.some.injEq] at hz
                  exact ⟨id, cs, he, hs, .inl ⟨i, hi, ha, by rw [hl, hz], rfl⟩⟩
              · cases h
            · cases h
          · rename_i ha
            exact ⟨id, cs, he, hs, .inr ⟨ha, h⟩⟩
          · cases h
        · cases h
      · cases h
    · cases h
def resX (P : Program) (rs : List ResultVar) (A : St) : Option V :=
  match rs with
  | [] => some (.tu [])
  | [r] => resA P A r
  | [r, q] => match resA P A r, resA P A q with
    | some x, some y => some (.tu [x, y])
    | _, _ => none
  | [r, q, s] => match resA P A r, resA P A q, resA P A s with
    | some x, some y, some z => some (.tu [x, y, z])
    | _, _, _ => none
  | _ => none
theorem resX_sound {P : Program} {fn : Func} {rs : List ResultVar} {A : St} {x : V} (hr : fn.results = rs.toArray) (h : resX P rs A = some x) : resV P fn A x := by
  unfold resX at h
  split at h
  · cases h
    exact .inr ⟨by simp [hr], [], rfl, by simp [hr], fun i hi => by simp [hr] at hi⟩
  · exact .inl ⟨_, hr, resA_sound h⟩
  · split at h
    · rename_i h1 h2
      cases h
      refine .inr ⟨by simp [hr], _, rfl, by simp [hr], fun i hi hi' => ?_⟩
      simp only [hr]
      match i, hi' with
      | 0, _ => exact resA_sound h1
      | 1, _ => exact resA_sound h2
    · cases h
  · split at h
    · rename_i h1 h2 h3
      cases h
      refine .inr ⟨by simp [hr], _, rfl, by simp [hr], fun i hi hi' => ?_⟩
      simp only [hr]
      match i, hi' with
      | 0, _ => exact resA_sound h1
      | 1, _ => exact resA_sound h2
      | 2, _ => exact resA_sound h3
    · cases h
  · cases h
/-- How a body ends, whatever its results. -/
theorem Fin.gen {P : Program} {fn : Func} {N : Nat} {s : List (Nat × V)} {l l0 l1 : List Ent} {e : Exit} {x y : V} {rs : List ResultVar} (hr : fn.results = rs.toArray) (he : e = .normal ∨ e = .ret) (hx : resX P rs ⟨dn N s, ofl l⟩ = some x)
    (hw : WkF (ofl l) (ltB l0.length) x y) (hl : l.take l0.length = l1) (hb : l1.all (entOk (ltB l0.length)) = true) : Fin P fn (ofl l0) (fun z st => z = y ∧ st = ofl l1) e ⟨dn N s, ofl l⟩ :=
  ⟨he, x, y, ltB l0.length, resX_sound hr hx, hw, fun i h => by simpa [ltB] using ofl_lt h, all_box (hl ▸ hb), rfl, by rw [← hl]; exact ofl_take l _⟩
/-- A body that is handed nothing. -/
theorem Fin.gen0 {P : Program} {fn : Func} {N : Nat} {s : List (Nat × V)} {l : List Ent} {e : Exit} {x y : V} {rs : List ResultVar} (hr : fn.results = rs.toArray) (he : e = .normal ∨ e = .ret) (hx : resX P rs ⟨dn N s, ofl l⟩ = some x)
    (hw : WkF (ofl l) noId x y) : Fin P fn stF (fun z st => z = y ∧ st = stF) e ⟨dn N s, ofl l⟩ :=
  ⟨he, x, y, noId, resX_sound hr hx, hw, fun i h => absurd rfl h, fun i cs _ h => (by cases h), rfl, rfl⟩

/-- A body that hands back new boxes. -/
theorem Fin.genK {P : Program} {fn : Func} {N : Nat} {s : List (Nat × V)} {l l1 : List Ent} {e : Exit} {x y : V} {rs : List ResultVar} (n : Nat) (hr : fn.results = rs.toArray) (he : e = .normal ∨ e = .ret) (hx : resX P rs ⟨dn N s, ofl l⟩ = some x)
    (hw : WkF (ofl l) (ltB n) x y) (hl : l.take n = l1) (hb : l1.all (entOk (ltB n)) = true) : Fin P fn (ofl []) (fun z st => z = y ∧ st = ofl l1) e ⟨dn N s, ofl l⟩ :=
  ⟨he, x, y, ltB n, resX_sound hr hx, hw, fun i h => absurd rfl h, all_box (hl ▸ hb), rfl, by rw [← hl]; exact ofl_take l _⟩
theorem ofl_frees (n : Nat) : ofl (List.replicate n .free) = ofl [] := by
  funext i
  simp only [ofl, List.getD, List.getElem?_replicate]
  split <;> rfl
/-- A function that hands back n new boxes. -/
theorem DC.enterN {P : Program} {f : FuncId} {fn : Func} {c : Code} {xs : List V} {s : List (Nat × V)} {l1 : List Ent} {r : V} (n : Nat) (N : Nat) (hf : P.funcs[f]? = some fn) (hb : fn.body = some c) (hn : fn.name ≠ "runtime.NumGoroutine") (hN : fn.ntmps = N) (hx : Nat.ble xs.length N = true) (hs : enum 0 xs = s)
    (h : AWp P (ofl []) c (Fin P fn (ofl []) fun z st => z = r ∧ st = ofl l1) ⟨dn N s, ofl []⟩) : DC P f xs (List.replicate n .free) r l1 := by
  have := DC.enter (l0 := []) N hf hb hn hN hx hs h
  unfold DC at this ⊢
  rw [ofl_frees]
  exact this

/-! ### An append into a box -/
theorem step_append_box {P : Program} {o : Oper} {ev : Operand → V} {s x : Operand} {t tx e e2 : TypeId} {ys : List V} {k : Slk} {id z : Nat} (ho : o.op = .call { callee := .builtin .append, args := #[s, x], argTypes := #[t, tx] }) (hs : ev s = .sl [] .full) (ht : elOf P t = some e)
    (hx : ev x = .sl ys k) (hx2 : elOf P tx = some e2) (hz : allZ z ys = true) (hne : 0 < ys.length) (hap : apOk P e 0 ys.length = some z) :
    Step P o ev [(id, .free)] ⟨.bs id ys.length, [(id, .box (flatV ys))]⟩ := by
  intro C ρ hC hR hf
  have hst : C.st id = .free := hf (id, .free) (by simp)
  have h1 := hR s (by simp [ho, Op.operands, Call.operands])
  have h2 := hR x (by simp [ho, Op.operands, Call.operands])
  rw [hs] at h1
  rw [hx] at h2
  obtain ⟨i, zv, a1, a2, a3, a4, a5, a6, a7⟩ := apOk_spec hap
  subst a2
  obtain ⟨uy, b1, b2⟩ := src_sl (elOf_spec hx2) h2 hz
  generalize hv : ρ s = v at h1
  cases h1 with
  | @sl _ _ a cap z' u hc hm hzs h0 hr hk =>
    have hk : cap = 0 := hk
    subst hk
    simp only [Nat.zero_add] at a6 a7
    have hold : (Builtin.firstCells i.size 0 (.slice a 0 0)).run P C.w.drew = .ok ([] : List Value).toArray C.w.drew := by
      cases a with
      | none => simp [run_firstCells_none]
      | some ad => exact run_firstCells_some (P := P) C.w.drew i.size 0 ad 0 0 [] (by simp) (fun j v hj => by cases hj)
    have hrun := run_append_grow_src (P := P) C.w t tx o.type e i zv (elOf_spec ht) a1 a3 a 0 0 [] hold (ρ x) ys.length (flatU uy i.size ys.length) b1 (by omega) (by unfold maxLen at a6; omega) (growslice_fits (by omega) (by simpa using a7))
    simp only [Nat.zero_add, List.nil_append] at hrun
    have hge := grownCap_ge C.w ys.length 0 e
    have hcm : grownCap C.w ys.length 0 e ≤ maxLen := grownCap_le_maxLen C.w _ 0 e a6
    generalize grownCap C.w ys.length 0 e = nc at hrun hge hcm
    rw [run_op_append ho (show (Builtin.append_ #[t, tx] o.type #[ρ s, ρ x]).run P C.w = _ by rw [hv]; exact hrun)]
    generalize hbs : (flatU uy i.size ys.length).toArray ++ Builtin.zeroCells zv.cells (nc - ys.length) = bs
    have hE1 : Ev C (C.withW C.w.drew) := Ev.withW rfl rfl rfl rfl
    have hC1 : Ok (C.withW C.w.drew) := hC.withW rfl rfl rfl rfl
    have hget : ∀ j (hj : j < (flatV ys).length), ∃ k l, ∃ (hk : k < ys.length) (hl : l < i.size) (hl' : l < ys[k].cells.length), (flatV ys)[j] = ys[k].cells[l] ∧ bs.getD j undef = (uy k).cells.getD l undef := fun j hj => by
      have hj' := hj
      rw [flatV_length hz] at hj'
      have hq : (flatU uy i.size ys.length)[j]? = some ((flatU uy i.size ys.length)[j]'(by rw [flatU_length]; exact hj')) := List.getElem?_eq_getElem _
      obtain ⟨k, l, hk, hl, e1, e2⟩ := flatU_inv hq
      subst e1
      have hl' : l < ys[k].cells.length := by have := (allZ_get hz hk).2; unfold V.size at this; omega
      refine ⟨k, l, hk, hl, hl', ?_, ?_⟩
      · have := flatV_get hz hk hl
        rw [List.getElem?_eq_getElem hj, List.getElem?_eq_getElem hl'] at this
        exact Option.some.inj this
      · rw [← hbs, Array.getD_eq_getD_getElem?, Array.getElem?_append_left (by simp [flatU_length]; exact hj')]
        rw [List.getElem?_toArray, hq, e2]
        rfl
    have hbox := good_new (id := id) hC1 hst (bs := bs) (cs := flatV ys) e (by
      rw [flatV_length hz, ← hbs]
      simp [flatU_length]) (fun j hj => by
        obtain ⟨k, l, hk, hl, hl', e1, e2⟩ := hget j hj
        rw [e2]
        exact (((b2 k hk).2.2).live (allZ_get hz hk).1).2 l hl' |>.1) (fun j hj => by
        obtain ⟨k, l, hk, hl, hl', e1, e2⟩ := hget j hj
        rw [e1, e2]
        exact ((((b2 k hk).2.2).live (allZ_get hz hk).1).2 l hl').2.mono hE1)
    obtain ⟨D, d1, d2, d3, d4, d5⟩ := hbox
    refine ⟨D, d1, d2, d3, hE1.trans d4, ?_⟩
    cases d5 with
    | pt q1 q2 => exact .bs q1 q2 hge hcm
/-- One operation. -/
theorem AR.one {P : Program} {N : Nat} {ops : Array Oper} {Q : St → Prop} {o : Oper} {os : List Oper} {k : Nat} {s : List (Nat × V)} {l : List Ent} {acc : List (Nat × List Nat × List Nat)} {v : V} {fp wr : List (Nat × Ent)} {s' : List (Nat × V)} {l' : List Ent} (hg : gd ops o ⟨dn N s, ofl l⟩ = some true) (he : evO P true o (St.ev ⟨dn N s, ofl l⟩) l = some (v, fp, wr))
    (hs : putA s o.dst v = s') (hl : wrl l wr = l') (hn : AR P ops false Q os (k + 1) ⟨dn N s', ofl l'⟩ acc) : AR P ops false Q (o :: os) k ⟨dn N s, ofl l⟩ acc := by
  subst hs hl
  obtain ⟨h1, h2⟩ := evO_sound rfl he
  refine .inr (.inl ⟨hg, fp, ⟨v, wr⟩, h1, h2, AR.acc (acc := acc) ?_⟩)
  rw [ofl_wrl, ← put_dn N s (ofl l)] at hn
  exact hn
/-- The same as a rule of a walk. -/
theorem AR.appB {P : Program} {N : Nat} {ops : Array Oper} {dr : Bool} {Q : St → Prop} {d : Option Tmp} {s0 x : Operand} {t tx e e2 ty : TypeId} {pos : String} {af : Array Edge} {g : Option (Nat × Bool)} {os : List Oper} {k : Nat} {s : List (Nat × V)} {l : List Ent}
    {acc : List (Nat × List Nat × List Nat)} {ys : List V} {kk : Slk} {z : Nat} (hg : gd ops ⟨d, .call { callee := .builtin .append, args := #[s0, x], argTypes := #[t, tx] }, ty, pos, af, g⟩ ⟨dn N s, ofl l⟩ = some true) (hs : St.ev ⟨dn N s, ofl l⟩ s0 = .sl [] .full) (ht : elOf P t = some e)
    (hx : St.ev ⟨dn N s, ofl l⟩ x = .sl ys kk) (hx2 : elOf P tx = some e2) (hz : allZ z ys = true) (hne : 0 < ys.length) (hap : apOk P e 0 ys.length = some z)
    (hn : AR P ops dr Q os (k + 1) ⟨dn N (putA s d (.bs l.length ys.length)), ofl (wrl l [(l.length, .box (flatV ys))])⟩ ((k, [l.length], [l.length]) :: acc)) :
    AR P ops dr Q (⟨d, .call { callee := .builtin .append, args := #[s0, x], argTypes := #[t, tx] }, ty, pos, af, g⟩ :: os) k ⟨dn N s, ofl l⟩ acc := by
  refine .inr (.inl ⟨hg, _, _, step_append_box (id := l.length) rfl hs ht hx hx2 hz hne hap, fun p hp => ?_, ?_⟩)
  · simp only [List.mem_singleton] at hp
    subst hp
    simp [ofl, List.getD]
  · rw [ofl_wrl, ← put_dn N s (ofl l)] at hn
    exact hn
/-! ### Slices, nil or not -/
theorem Wk.nn {es : List V} {k : Slk} (h : 0 < es.length) : Wk (.sl es k) (.sl es .nn) := fun C v hv => by
  cases hv with
  | sl hc hm hz h0 hr hk =>
    refine .sl hc hm hz h0 hr ?_
    obtain ⟨ad, h1, _⟩ := hr 0 h
    show _ ≠ none
    rw [h1]
    simp
/-- A first argument that is a slice: nil, or not. -/
theorem ACalls.nil1 {P : Program} {f : FuncId} {es : List V} {k : Slk} {xs : List V} {st : Nat → Ent} {Q : V → (Nat → Ent) → Prop} (h1 : ACalls P f (.sl es .nz :: xs) st Q) (h2 : ACalls P f (.sl es .nn :: xs) st Q) : ACalls P f (.sl es k :: xs) st Q := by
  refine ⟨h1.1, fun C vs hst hC hsz hR => ?_⟩
  have h0 := hR 0 (by simp)
  simp only [List.getElem_cons_zero] at h0
  generalize hv : vs.getD 0 undef = v at h0
  cases h0 with
  | @sl _ _ a cap z u hc hm hz h0 hr hk =>
    by_cases ha : a = none
    · refine h1.2 C vs hst hC hsz fun i hi => ?_
      cases i with
      | zero => rw [hv]; exact .sl hc hm hz h0 hr ha
      | succ i => exact hR (i + 1) hi
    · refine h2.2 C vs hst hC hsz fun i hi => ?_
      cases i with
      | zero => rw [hv]; exact .sl hc hm hz h0 hr ha
      | succ i => exact hR (i + 1) hi
theorem allZ_ty (l : List Ty) : allZ 5 (l.map tyV) = true := by
  unfold allZ
  rw [List.all_map, List.all_eq_true]
  intro x _
  simp [tyV_live, tyV_size]
theorem allZ_fd (l : List Ty) : allZ 6 (l.map fdV) = true := by
  unfold allZ
  rw [List.all_map, List.all_eq_true]
  intro x _
  simp [fdV_live, fdV_size]
theorem allS_ty (l : List Ty) : allS 5 (l.map tyV) = true := by
  unfold allS
  rw [List.all_map, List.all_eq_true]
  intro x _
  simp [tyV_size]
theorem allS_fd (l : List Ty) : allS 6 (l.map fdV) = true := by
  unfold allS
  rw [List.all_map, List.all_eq_true]
  intro x _
  simp [fdV_size]
/-- The cells of the types of a list, read and written one type at a time. -/
theorem flat_drop {z : Nat} {es : List V} (h : allZ z es = true) {i : Nat} (hi : i < es.length) : ((flatV es).drop (i * z)).take z = es[i].cells := by
  have hz := (allZ_get h hi).2
  have hl := flatV_length h
  have hle : (i + 1) * z ≤ es.length * z := Nat.mul_le_mul_right z hi
  rw [Nat.succ_mul] at hle
  refine List.ext_getElem (by simp [hl]; unfold V.size at hz; omega) fun j h1 h2 => ?_
  have hj : j < z := by unfold V.size at hz; omega
  have := flatV_get h hi hj
  rw [List.getElem?_eq_getElem (by omega), List.getElem?_eq_getElem h2] at this
  simpa using this
theorem flat_seg {z : Nat} {es : List V} (h : allZ z es = true) {i : Nat} (hi : i < es.length) : seg (flatV es) (i * z) es[i].cells = flatV es := by
  have hz := (allZ_get h hi).2
  have := flat_drop h hi
  unfold seg
  unfold V.size at hz
  rw [hz, ← this, List.append_assoc, ← List.drop_drop, List.take_append_drop, List.take_append_drop]
theorem flat_fit {z : Nat} {es : List V} (h : allZ z es = true) {i : Nat} (hi : i < es.length) : i * z + z ≤ (flatV es).length := by
  have hl := flatV_length h
  have hle : (i + 1) * z ≤ es.length * z := Nat.mul_le_mul_right z hi
  rw [Nat.succ_mul] at hle
  omega
theorem cells_ids {p : Nat → Bool} {x : V} (h : x.ids p = true) : V.idsL p x.cells = true := by
  cases x <;> simp_all [V.cells, V.ids, V.idsL]
theorem idsL_append {p : Nat → Bool} : ∀ {a b : List V}, V.idsL p a = true → V.idsL p b = true → V.idsL p (a ++ b) = true
  | [], _, _, h => h
  | x :: a, b, h, k => by
    simp only [V.idsL, Bool.and_eq_true, List.cons_append] at h ⊢
    exact ⟨h.1, idsL_append h.2 k⟩
theorem flat_ids {p : Nat → Bool} : ∀ {es : List V}, V.idsL p es = true → V.idsL p (flatV es) = true
  | [], _ => rfl
  | x :: es, h => by
    simp only [V.idsL, Bool.and_eq_true] at h
    exact idsL_append (cells_ids h.1) (flat_ids h.2)
theorem flT_id (p : Nat → Bool) (l : List Ty) : V.idsL p (flatV (l.map tyV)) = true := flat_ids (tyL_id p l)
theorem flF_id (p : Nat → Bool) (l : List Ty) : V.idsL p (flatV (l.map fdV)) = true := flat_ids (fdL_id p l)
theorem flT_ren (g : Nat → Nat) (l : List Ty) : V.renL g (flatV (l.map tyV)) = flatV (l.map tyV) := V.renL_id g _ (flT_id _ l)
theorem flF_ren (g : Nat → Nat) (l : List Ty) : V.renL g (flatV (l.map fdV)) = flatV (l.map fdV) := V.renL_id g _ (flF_id _ l)

/-! ### Less is said of the boxes -/
/-- Boxes stay boxes, whatever they hold. -/
def Kin (st st' : Nat → Ent) : Prop := ∀ i, st' i = st i ∨ ∃ cs cs', st i = .box cs ∧ st' i = .box cs'
def Cf.wst (C : Cf) (st : Nat → Ent) : Cf := { C with st := st }
theorem Cf.wst_fix {C : Cf} {st : Nat → Ent} (h : Kin C.st st) {b o : Nat} (hf : C.fix b o) : (C.wst st).fix b o := by
  refine ⟨hf.1, fun i hi => ?_⟩
  show st i = .free ∨ _
  rcases h i with h1 | ⟨cs, cs', h1, h2⟩
  · rw [h1]
    rcases hf.2 i hi with h3 | ⟨e, z, n, h3, h4⟩
    · exact .inl h3
    · exact .inr ⟨e, z, n, h1.trans h3, h4⟩
  · rcases hf.2 i hi with h3 | ⟨e, z, n, h3, _⟩ <;> rw [h1] at h3 <;> cases h3
theorem R.wst {C : Cf} {st : Nat → Ent} (h : Kin C.st st) {x : V} {v : Value} (hR : R C x v) : R (C.wst st) x v := by
  have rd : ∀ {a : Addr} {v : Value}, C.rd a v → (C.wst st).rd a v := fun k => ⟨k.1, Cf.wst_fix h k.2⟩
  induction hR with
  | im h => exact .im h
  | ag hn h1 _ ih => exact .ag hn h1 ih
  | tu hn _ ih => exact .tu hn ih
  | @sl es k a cap z u hc hm hz _ hr hk ih =>
    refine .sl hc hm hz ih (fun i hi => ?_) ?_
    · obtain ⟨ad, h1, h2⟩ := hr i hi
      exact ⟨ad, h1, fun j c hj => rd (h2 j c hj)⟩
    · cases k with
      | own id =>
        obtain ⟨e, n, h1, h2⟩ := hk
        refine ⟨e, n, ?_, h2⟩
        rcases h id with h3 | ⟨cs, cs', h3, _⟩
        · exact h3.trans h1
        · rw [h3] at h1; cases h1
      | _ => exact hk
  | @pt id off g cs hs hb =>
    rcases h id with h3 | ⟨_, cs', _, h3⟩
    · exact .pt hs (h3.trans hb)
    · exact .pt hs h3
  | @itr id g s p hs hb =>
    rcases h id with h3 | ⟨cs, cs', h3, _⟩
    · exact .itr hs (h3.trans hb)
    · rw [h3] at hb; cases hb
  | @bs id n g cap cs hs hb hc hm =>
    rcases h id with h3 | ⟨_, cs', _, h3⟩
    · exact .bs hs (h3.trans hb) hc hm
    · exact .bs hs h3 hc hm
  | ep _ hz hr ih => exact .ep ih hz fun j c hj => rd (hr j c hj)
  | fn h1 h2 _ _ ih1 ih2 => exact .fn h1 h2 ih1 ih2
  | gi _ h0 ih => exact .gi ih h0
  | dead => exact .dead
inductive WkFE (st : Nat → Ent) (kp : Nat → Bool) : List Ent → List Ent → Prop
  | nil : WkFE st kp [] []
  | same {e : Ent} {l m : List Ent} (h : ∀ cs, e ≠ .box cs) (hl : WkFE st kp l m) : WkFE st kp (e :: l) (e :: m)
  | box {cs ds : List V} {l m : List Ent} (h : WkFL st kp cs ds) (hl : WkFE st kp l m) : WkFE st kp (.box cs :: l) (.box ds :: m)
theorem WkFE.length {st : Nat → Ent} {kp : Nat → Bool} {l m : List Ent} (h : WkFE st kp l m) : l.length = m.length := by
  induction h with
  | nil => rfl
  | same _ _ ih => simp [ih]
  | box _ _ ih => simp [ih]
theorem WkFE.get {st : Nat → Ent} {kp : Nat → Bool} {l m : List Ent} (h : WkFE st kp l m) : ∀ i, (ofl m i = ofl l i ∧ ∀ cs, ofl l i ≠ .box cs) ∨ ∃ cs ds, ofl l i = .box cs ∧ ofl m i = .box ds ∧ WkFL st kp cs ds := by
  induction h with
  | nil => intro i; exact .inl ⟨rfl, fun cs e => by simp [ofl] at e⟩
  | same h _ ih =>
    intro i
    cases i with
    | zero => exact .inl ⟨rfl, h⟩
    | succ i => exact ih i
  | box h _ ih =>
    intro i
    cases i with
    | zero => exact .inr ⟨_, _, rfl, rfl, h⟩
    | succ i => exact ih i
inductive WkFA (st : Nat → Ent) (kp : Nat → Bool) (s : List (Nat × V)) : List (Nat × V) → Prop
  | nil : WkFA st kp s []
  | cons {i : Nat} {y : V} {l : List (Nat × V)} (h : WkF st kp (look s i) y) (hl : WkFA st kp s l) : WkFA st kp s ((i, y) :: l)
theorem WkFA.look {st : Nat → Ent} {kp : Nat → Bool} {s l : List (Nat × V)} (h : WkFA st kp s l) (t : Nat) : WkF st kp (look s t) (look l t) := by
  induction h with
  | nil => exact .of (.dead _) rfl
  | @cons i y l h _ ih =>
    rw [look_cons]
    split
    · rename_i e; exact e ▸ h
    · exact ih
theorem take_box {l : List Ent} {n i : Nat} (h : i < n) : ofl (l.take n) i = ofl l i := by simp [ofl, List.getD, List.getElem?_take, h]
/-- Less may be said of slots and boxes; boxes that are forgotten may live on as slices. -/
theorem AWp.frz {K : Option Nat → Prop} {P : Program} {st0 : Nat → Ent} {Q : Exit → St → Prop} {c : Code} {N : Nat} {s : List (Nat × V)} {l : List Ent} (n : Nat) (s' : List (Nat × V)) (l' : List Ent) (h : AWpK K P st0 c Q ⟨dn N s', ofl l'⟩) (hn : n ≤ l.length) (hs : WkFA (ofl l) (ltB n) s s')
    (hb : WkFE (ofl l) (ltB n) (l.take n) l') (h0 : ∀ i, st0 i ≠ .free → i < n) : AWpK K P st0 c Q ⟨dn N s, ofl l⟩ := by
  intro C0 C a ro m hK h0' hE hS
  have hlen : l'.length = n := by rw [← hb.length]; simp; omega
  have hst : C.st = ofl l := hS.st
  have hkin : Kin (C.only (ltB n)).st (ofl l') := fun i => by
    show ofl l' i = (if ltB n i then C.st i else .free) ∨ ∃ cs cs', (if ltB n i then C.st i else .free) = .box cs ∧ ofl l' i = .box cs'
    by_cases hi : i < n
    · have h1 : ltB n i = true := by simpa [ltB] using hi
      rw [h1, if_pos rfl, hst, ← take_box (l := l) hi]
      rcases hb.get i with ⟨h2, _⟩ | ⟨cs, ds, h2, h3, _⟩
      · exact .inl h2
      · exact .inr ⟨cs, ds, h2, h3⟩
    · have h1 : ltB n i = false := by simpa [ltB] using hi
      rw [h1]
      left
      have : l'[i]? = none := List.getElem?_eq_none (by omega)
      simp [ofl, List.getD, this]
  have hk0 : ∀ i, C0.st i ≠ .free → ltB n i = true := fun i hi => by rw [h0'] at hi; simpa [ltB] using h0 i hi
  -- the memory, less being said of it
  have hR : ∀ {x y : V} {v : Value}, WkF (ofl l) (ltB n) x y → R C x v → R ((C.only (ltB n)).wst (ofl l')) y v := fun hw hR => (hw C _ hst hS.ok hR).wst hkin
  have hR0 : ∀ {x : V} {v : Value}, R (C.only (ltB n)) x v → R ((C.only (ltB n)).wst (ofl l')) x v := fun hR => hR.wst hkin
  have hof : ∀ {i : Nat} {e : Ent}, ofl l' i = e → e ≠ .free → i < n ∧ ltB n i = true := fun {i e} he hne => by
    have : i < l'.length := ofl_lt (by rw [he]; exact hne)
    exact ⟨by omega, by simp [ltB]; omega⟩
  have hnb : ∀ {i : Nat} {e : Ent}, ofl l' i = e → e ≠ .free → (∀ cs, e ≠ .box cs) → C.st i = e := fun {i e} he hne hbx => by
    obtain ⟨hi, _⟩ := hof he hne
    rw [hst, ← take_box (l := l) hi]
    rcases hb.get i with ⟨h2, _⟩ | ⟨cs, ds, h2, h3, _⟩
    · rw [← h2]; exact he
    · rw [he] at h3; exact absurd h3 (hbx ds)
  have hok : Ok ((C.only (ltB n)).wst (ofl l')) := by
    refine ⟨fun i ds h => ?_, fun i e z k g h h' => ?_, fun i t p h => ?_, fun i j g h1 h2 h3 h4 => ?_, hS.ok.avl, fun i ds g o h h' => ?_, fun a ha => ?_⟩
    · have h : ofl l' i = .box ds := h
      obtain ⟨hi, _⟩ := hof h (by simp)
      rcases hb.get i with ⟨h2, h3⟩ | ⟨cs, ds', h2, h3, h4⟩
      · rw [← h2] at h3; exact absurd h (h3 ds)
      · rw [h] at h3
        cases h3
        have hcb : C.st i = .box cs := by rw [hst, ← take_box (l := l) hi]; exact h2
        obtain ⟨g, bs, t, k1, k2, k3, k4, k5⟩ := hS.ok.box i cs hcb
        have hl := h4.length
        exact ⟨g, bs, t, k1, k2, by omega, fun j hj => k4 j (by omega), fun j hj => hR (h4.get j (by omega) hj) (k5 j (by omega))⟩
    · exact hS.ok.tip i e z k g (hnb h (by simp) (fun _ e => by cases e)) h'
    · exact hS.ok.iter i t p (hnb h (by simp) (fun _ e => by cases e))
    · have key : ∀ i, ((C.only (ltB n)).wst (ofl l')).st i ≠ .free → C.st i ≠ .free := fun i hi => by
        have hi : ofl l' i ≠ .free := hi
        obtain ⟨q1, q2⟩ := hof rfl hi
        rcases hkin i with q3 | ⟨cs, _, q3, _⟩
        · rw [q3] at hi
          intro e
          apply hi
          show (if ltB n i then C.st i else .free) = .free
          rw [q2, if_pos rfl, e]
        · have q3 : (if ltB n i then C.st i else .free) = .box cs := q3
          rw [q2, if_pos rfl] at q3
          rw [q3]
          simp
      exact hS.ok.inj i j g (key i h1) (key j h2) h3 h4
    · have h : ofl l' i = .box ds := h
      obtain ⟨hi, _⟩ := hof h (by simp)
      rcases hb.get i with ⟨h2, h3⟩ | ⟨cs, ds', h2, h3, h4⟩
      · rw [← h2] at h3; exact absurd h (h3 ds)
      · exact hS.ok.bav i cs g o (by rw [hst, ← take_box (l := l) hi]; exact h2) h'
    · obtain ⟨q, q1, q2⟩ := hS.ok.gl a ha
      exact ⟨q, q1, Cf.wst_fix hkin (Cf.only_fix q2)⟩
  have hE' : Ev C0 ((C.only (ltB n)).wst (ofl l')) := by
    have hE1 := hE.only (kp := ltB n) hk0
    refine ⟨hE1.os, hE1.tape, hE1.output, hE1.size, hE1.av, fun a v h => ⟨(hE1.rd a v h).1, Cf.wst_fix hkin (hE1.rd a v h).2⟩, fun i cs h => ?_, fun i e z k h => ?_, fun i t p h => ?_, hE1.keep, fun i b h h' => ?_⟩
    · obtain ⟨q1, cs', q2⟩ := hE1.box i cs h
      rcases hkin i with q3 | ⟨_, cs'', _, q3⟩
      · exact ⟨q1, cs', q3.trans q2⟩
      · exact ⟨q1, cs'', q3⟩
    · obtain ⟨k', q1, q2, q3⟩ := hE1.tip i e z k h
      rcases hkin i with q4 | ⟨_, cs'', q4, _⟩
      · exact ⟨k', q4.trans q1, q2, q3⟩
      · rw [q4] at q1; cases q1
    · obtain ⟨q1, s', p', q2⟩ := hE1.itr i t p h
      rcases hkin i with q4 | ⟨_, cs'', q4, _⟩
      · exact ⟨q1, s', p', q4.trans q2⟩
      · rw [q4] at q2; cases q2
    · refine hE1.fresh i b (fun e => h ?_) h'
      rcases hkin i with q4 | ⟨_, cs'', q4, _⟩
      · exact q4.trans e
      · rw [q4] at e; cases e
  refine h C0 ((C.only (ltB n)).wst (ofl l')) a ro m hK h0' hE' ⟨rfl, hok, ?_, ?_, fun t ht => ?_⟩
  · obtain ⟨bs, d1, d2, d3⟩ := hS.defers
    refine ⟨bs, d1, d2, fun b hbm => ?_⟩
    obtain ⟨e1, e2, d4⟩ := d3 b hbm
    refine ⟨e1, e2, fun i hi => ?_⟩
    refine Classical.byContradiction fun hne => ?_
    obtain ⟨q1, q2⟩ := hof (i := i) rfl hne
    have hf := d4 i hi
    rcases hkin i with q3 | ⟨cs, _, q3, _⟩
    · apply hne
      show ofl l' i = .free
      rw [q3]
      show (if ltB n i then C.st i else .free) = .free
      rw [q2, if_pos rfl, hf]
    · have q3 : (if ltB n i then C.st i else .free) = .box cs := q3
      rw [q2, if_pos rfl, hf] at q3
      cases q3
  · rw [hS.size]
    simp [dn_length]
  · have ht' : t < N := by simpa [dn_length] using ht
    have h1 := hS.slot t (by simpa [dn_length] using ht')
    rw [getD_dn, if_pos ht'] at h1 ⊢
    exact hR (hs.look t) h1
/-- The same for w cells from place j of an element. -/
theorem flat_fit1 {z : Nat} {es : List V} (h : allZ z es = true) {i : Nat} (hi : i < es.length) {j w : Nat} (hj : j + w ≤ z) : i * z + j + w ≤ (flatV es).length := by
  have := flat_fit h hi
  omega
theorem flat_drop1 {z : Nat} {es : List V} (h : allZ z es = true) {i : Nat} (hi : i < es.length) {j w : Nat} (hj : j + w ≤ z) : ((flatV es).drop (i * z + j)).take w = (es[i].cells.drop j).take w := by
  rw [← flat_drop h hi, List.drop_take, List.drop_drop, List.take_take]
  congr 1
  omega
theorem flat_seg1 {z : Nat} {es : List V} (h : allZ z es = true) {i : Nat} (hi : i < es.length) {j w : Nat} (hj : j + w ≤ z) : seg (flatV es) (i * z + j) ((es[i].cells.drop j).take w) = flatV es := by
  have hl : ((es[i].cells.drop j).take w).length = w := by
    have := (allZ_get h hi).2
    unfold V.size at this
    simp
    omega
  unfold seg
  rw [hl, ← flat_drop1 h hi hj, List.append_assoc, ← List.drop_drop (i := w) (j := i * z + j), List.take_append_drop, List.take_append_drop]
end Go.Proofs.Ytfggemopnlffeaa
/- Rules of the walks whose side conditions are proved by tactics that lie in the rules themselves. -/
namespace Go.Proofs.Ytfggemopnlffeaa
set_option linter.unusedSimpArgs false
set_option linter.unusedVariables false
set_option linter.unnecessarySimpa false
open Go.RowKit
/-- How the evaluators reckon. -/
theorem SE : type_of% (And.intro @valG.eq_1 (And.intro @valG.eq_2 (And.intro @fpsG.eq_1 (And.intro @fpsG.eq_2 (And.intro @evO.eq_1 (And.intro @evB.eq_def (And.intro @evA.eq_def (And.intro @evA1.eq_1 (And.intro @evA1.eq_2 (And.intro @evA1.eq_3 (And.intro @nilK.eq_def (And.intro @eqF.eq_1 (And.intro @eqF.eq_2 (And.intro @eqC.eq_def (And.intro @apOk.eq_1 (And.intro @intOf.eq_1 (And.intro @intOf.eq_2 (And.intro @slB.eq_1 (And.intro @slB.eq_2 (And.intro @slK.eq_def (And.intro @gd.eq_1 (And.intro @putA.eq_1 (And.intro @putA.eq_2 (And.intro @ofl.eq_1 (And.intro @wrl.eq_1 (And.intro @wrl.eq_2 (And.intro @putE.eq_1 (And.intro @bin2.eq_def (And.intro @un1.eq_def (And.intro @seg.eq_1 (And.intro @fillV.eq_1 (And.intro @fillV.eq_2 (And.intro @partsOk.eq_1 (And.intro @partsOk.eq_2 (And.intro @St.ev.eq_1 (And.intro @St.ev.eq_2 (And.intro @St.ev.eq_3 (And.intro @St.ev.eq_4 (And.intro @V.ofVal.eq_1 (And.intro @V.ofVal.eq_2 (And.intro @V.ofCell.eq_1 (And.intro @V.ofCell.eq_2 (And.intro @V.ofCell.eq_3 (And.intro @V.ofCell.eq_4 (And.intro @Value.oneCell'.eq_1 (And.intro @Value.oneCell'.eq_2 (@Value.oneCell'.eq_3))))))))))))))))))))))))))))))))))))))))))))))) := And.intro @valG.eq_1 (And.intro @valG.eq_2 (And.intro @fpsG.eq_1 (And.intro @fpsG.eq_2 (And.intro @evO.eq_1 (And.intro @evB.eq_def (And.intro @evA.eq_def (And.intro @evA1.eq_1 (And.intro @evA1.eq_2 (And.intro @evA1.eq_3 (And.intro @nilK.eq_def (And.intro @eqF.eq_1 (And.intro @eqF.eq_2 (And.intro @eqC.eq_def (And.intro @apOk.eq_1 (And.intro @intOf.eq_1 (And.intro @intOf.eq_2 (And.intro @slB.eq_1 (And.intro @slB.eq_2 (And.intro @slK.eq_def (And.intro @gd.eq_1 (And.intro @putA.eq_1 (And.intro @putA.eq_2 (And.intro @ofl.eq_1 (And.intro @wrl.eq_1 (And.intro @wrl.eq_2 (And.intro @putE.eq_1 (And.intro @bin2.eq_def (And.intro @un1.eq_def (And.intro @seg.eq_1 (And.intro @fillV.eq_1 (And.intro @fillV.eq_2 (And.intro @partsOk.eq_1 (And.intro @partsOk.eq_2 (And.intro @St.ev.eq_1 (And.intro @St.ev.eq_2 (And.intro @St.ev.eq_3 (And.intro @St.ev.eq_4 (And.intro @V.ofVal.eq_1 (And.intro @V.ofVal.eq_2 (And.intro @V.ofCell.eq_1 (And.intro @V.ofCell.eq_2 (And.intro @V.ofCell.eq_3 (And.intro @V.ofCell.eq_4 (And.intro @Value.oneCell'.eq_1 (And.intro @Value.oneCell'.eq_2 (@Value.oneCell'.eq_3))))))))))))))))))))))))))))))))))))))))))))))
theorem AR.callP {P : Program} {N : Nat} {ops : Array Oper} {dr : Bool} {Q : St → Prop} {d : Option Tmp} {c : Operand} {args : Array Operand} {tys : Array TypeId} {ty : TypeId} {pos : String} {af : Array Edge} {g : Option (Nat × Bool)} {os : List Oper} {k : Nat} {s : List (Nat × V)} {l : List Ent}
    {acc : List (Nat × List Nat × List Nat)} {f : FuncId} {us vs xs : List V} {r : V} {F E : Prop} (h : PC P f xs r) (fa : F) (fi : E) (n : AR P ops dr Q os (k + 1) ⟨dn N (putA s d r), ofl l⟩ ((k, [], []) :: acc)) (hg : gd ops ⟨d, .call { callee := .value c, args := args, argTypes := tys }, ty, pos, af, g⟩ ⟨dn N s, ofl l⟩ = some true := by rfl) (hc : St.ev ⟨dn N s, ofl l⟩ c = .fn (.func f) us vs := by rfl)
    (hw : F → WkL (us ++ args.toList.map (St.ev ⟨dn N s, ofl l⟩) ++ vs) xs := by intro f; exact WkL.of_eq (by simp only [St.ev, V.ofVal, V.ofCell, V.size_im, getD_dn, look_cons, look_nil, Nat.reduceLT, Nat.reduceEqDiff, reduceIte, if_true, if_false, List.map_cons, List.map_nil, List.nil_append, List.cons_append, List.append_nil, f])) (hi : E → V.idsL noId xs = true := by intro f; first | rfl | simp only [List.length_cons, List.length_nil, Nat.reduceAdd, V.ids, V.idsL, idsA, entOk, List.all_cons, List.all_nil, Bool.and_self, Bool.and_true, Bool.true_and, ltB, noId, Nat.reduceLT, decide_true, Bool.true_eq_false, tyV_id, fdV_id, tyL_id, fdL_id, f]) :
    AR P ops dr Q (⟨d, .call { callee := .value c, args := args, argTypes := tys }, ty, pos, af, g⟩ :: os) k ⟨dn N s, ofl l⟩ acc := AR.call h hg hc (hw fa) (hi fi) n
theorem AR.callQP {P : Program} {N : Nat} {ops : Array Oper} {dr : Bool} {Q : St → Prop} {d : Option Tmp} {c : Operand} {args : Array Operand} {tys : Array TypeId} {ty : TypeId} {pos : String} {af : Array Edge} {g : Option (Nat × Bool)} {os : List Oper} {k : Nat} {s : List (Nat × V)} {l : List Ent}
    {acc : List (Nat × List Nat × List Nat)} {f : FuncId} {us vs xs xs' : List V} {r r' : V} {l0 : List Ent} {F E M : Prop} (js : List Nat) (h : DC P f xs l0 r l0) (fa : F) (fi : E) (fr : M)
    (n : AR P ops dr Q os (k + 1) ⟨dn N (putA s d r'), ofl l⟩ ((k, (renE js 0 l0).map Prod.fst, []) :: acc)) (hg : gd ops ⟨d, .call { callee := .value c, args := args, argTypes := tys }, ty, pos, af, g⟩ ⟨dn N s, ofl l⟩ = some true := by rfl) (hc : St.ev ⟨dn N s, ofl l⟩ c = .fn (.func f) us vs := by rfl)
    (hx : M → V.renL (gOf js) xs = xs' := by intro f; first | (simp only [SR, f]; done) | (simp only [SR, f]; with_reducible exact rfl)) (hr : M → V.ren (gOf js) r = r' := by intro f; first | (simp only [SR, f]; done) | (simp only [SR, f]; with_reducible exact rfl))
    (hw : F → WkL (us ++ args.toList.map (St.ev ⟨dn N s, ofl l⟩) ++ vs) xs' := by intro f; exact WkL.of_eq (by simp only [St.ev, V.ofVal, V.ofCell, V.size_im, getD_dn, look_cons, look_nil, Nat.reduceLT, Nat.reduceEqDiff, reduceIte, if_true, if_false, List.map_cons, List.map_nil, List.nil_append, List.cons_append, List.append_nil, f])) (hi : E → V.idsL (ltB js.length) xs = true := by intro f; first | rfl | simp only [List.length_cons, List.length_nil, Nat.reduceAdd, V.ids, V.idsL, idsA, entOk, List.all_cons, List.all_nil, Bool.and_self, Bool.and_true, Bool.true_and, ltB, noId, Nat.reduceLT, decide_true, Bool.true_eq_false, tyV_id, fdV_id, tyL_id, fdL_id, f])
    (hnd : decide js.Nodup = true := by rfl) (h0 : l0.length = js.length := by rfl) (he : E → l0.all (entOk (ltB js.length)) = true := by intro f; first | rfl | simp only [List.length_cons, List.length_nil, Nat.reduceAdd, V.ids, V.idsL, idsA, entOk, List.all_cons, List.all_nil, Bool.and_self, Bool.and_true, Bool.true_and, ltB, noId, Nat.reduceLT, decide_true, Bool.true_eq_false, tyV_id, fdV_id, tyL_id, fdL_id, f])
    (hl : M → ∀ p ∈ renE js 0 l0, ofl l p.1 = p.2 := by intro f p hp; simp only [renE, SR, Ent.ren, List.mem_cons, List.not_mem_nil, or_false, f] at hp; first | (rcases hp with rfl <;> rfl) | (rcases hp with rfl | rfl <;> rfl) | (rcases hp with rfl | rfl | rfl <;> rfl)) :
    AR P ops dr Q (⟨d, .call { callee := .value c, args := args, argTypes := tys }, ty, pos, af, g⟩ :: os) k ⟨dn N s, ofl l⟩ acc := AR.callQ js h hg hc (hx fr) (hr fr) (hw fa) (hi fi) hnd h0 (he fi) (hl fr) n
section
variable {K : Option Nat → Prop} {P : Program} {st0 : Nat → Ent} {Q : Exit → St → Prop}
theorem ALp.cutP {c : Code} {N : Nat} {s : List (Nat × V)} {l : List Ent} {E : Prop} (n : Nat) (s' : List (Nat × V)) (l' : List Ent) (fi : E) (h : ALp K P st0 c Q ⟨dn N s', ofl l'⟩) (hl : l.take n = l' := by rfl)
    (hw : WkA s s' := by repeat (first | exact WkA.nil | refine WkA.cons (Wk.refl _) ?_)) (h0 : ∀ i, st0 i ≠ .free → i < n := by exact fun i hi => by first | exact absurd rfl hi | exact Nat.lt_of_lt_of_le (ofl_lt hi) (by simp))
    (hs : E → idsA (ltB n) s' = true := by intro f; first | rfl | simp only [List.length_cons, List.length_nil, Nat.reduceAdd, V.ids, V.idsL, idsA, entOk, List.all_cons, List.all_nil, Bool.and_self, Bool.and_true, Bool.true_and, ltB, noId, Nat.reduceLT, decide_true, Bool.true_eq_false, tyV_id, fdV_id, tyL_id, fdL_id, f]) (hb : E → l'.all (entOk (ltB n)) = true := by intro f; first | rfl | simp only [List.length_cons, List.length_nil, Nat.reduceAdd, V.ids, V.idsL, idsA, entOk, List.all_cons, List.all_nil, Bool.and_self, Bool.and_true, Bool.true_and, ltB, noId, Nat.reduceLT, decide_true, Bool.true_eq_false, tyV_id, fdV_id, tyL_id, fdL_id, f]) : ALp K P st0 c Q ⟨dn N s, ofl l⟩ :=
  ALp.cut n s' l' h hl hw h0 (hs fi) (hb fi)
end
theorem Fin.oneP {P : Program} {fn : Func} {N t : Nat} {s : List (Nat × V)} {st : Nat → Ent} {e : Exit} {x : V} (hr : fn.results = #[.tmp t] := by rfl) (ht : Nat.blt t N = true := by rfl) (he : e = .normal ∨ e = .ret := by first | exact .inl rfl | exact .inr rfl)
    (hw : Wk (look s t) x := by exact Wk.refl _) (hi : x.ids noId = true := by first | rfl | simp only [List.length_cons, List.length_nil, Nat.reduceAdd, V.ids, V.idsL, idsA, entOk, List.all_cons, List.all_nil, Bool.and_self, Bool.and_true, Bool.true_and, ltB, noId, Nat.reduceLT, decide_true, Bool.true_eq_false, tyV_id, fdV_id, tyL_id, fdL_id]) : Fin P fn stF (fun z st => z = x ∧ st = stF) e ⟨dn N s, st⟩ := Fin.one hr ht he hw hi
theorem Fin.oneSP {P : Program} {fn : Func} {N t : Nat} {s : List (Nat × V)} {l l0 l1 : List Ent} {e : Exit} {x : V} {E : Prop} (fi : E) (hr : fn.results = #[.tmp t] := by rfl) (ht : Nat.blt t N = true := by rfl) (he : e = .normal ∨ e = .ret := by first | exact .inl rfl | exact .inr rfl)
    (hw : Wk (look s t) x := by exact Wk.refl _) (hl : l.take l0.length = l1 := by rfl) (hi : E → x.ids (ltB l0.length) = true := by intro f; first | rfl | simp only [List.length_cons, List.length_nil, Nat.reduceAdd, V.ids, V.idsL, idsA, entOk, List.all_cons, List.all_nil, Bool.and_self, Bool.and_true, Bool.true_and, ltB, noId, Nat.reduceLT, decide_true, Bool.true_eq_false, tyV_id, fdV_id, tyL_id, fdL_id, f]) (hb : E → l1.all (entOk (ltB l0.length)) = true := by intro f; first | rfl | simp only [List.length_cons, List.length_nil, Nat.reduceAdd, V.ids, V.idsL, idsA, entOk, List.all_cons, List.all_nil, Bool.and_self, Bool.and_true, Bool.true_and, ltB, noId, Nat.reduceLT, decide_true, Bool.true_eq_false, tyV_id, fdV_id, tyL_id, fdL_id, f]) :
    Fin P fn (ofl l0) (fun z st => z = x ∧ st = ofl l1) e ⟨dn N s, ofl l⟩ := Fin.oneS hr ht he hw hl (hi fi) (hb fi)
end Go.Proofs.Ytfggemopnlffeaa
/- One rule more: a nil slice is given a token, so that it may be appended to in a loop. -/
namespace Go.Proofs.Ytfggemopnlffeaa
set_option linter.unusedSimpArgs false
set_option linter.unusedVariables false
set_option linter.unnecessarySimpa false
open Go.RowKit
theorem ofl_end (l : List Ent) : ofl l l.length = .free := by simp [ofl, List.getD]
theorem ofl_snoc (l : List Ent) (x : Ent) : upd (ofl l) l.length x = ofl (l ++ [x]) := by
  rw [← ofl_putE]
  simp [putE]
theorem Sim.ghost {B : Option Nat} {C : Cf} {a : Act} {N : Nat} {s : List (Nat × V)} {l : List Ent} {t : Nat} {es : List V} {kk : Slk} {e : TypeId} {z : Nat} (hS : Sim B C ⟨dn N s, ofl l⟩ a)
    (hk : kk = .full ∨ kk = .nl) (ht : look s t = .sl es kk) (hz : allS z es = true) : Sim B (C.ghost l.length e z es.length) ⟨dn N (putA s (some t) (.sl es (.own l.length))), ofl (l ++ [.tip e z es.length])⟩ a := by
  have hf : C.st l.length = .free := by rw [hS.st]; exact ofl_end l
  refine ⟨?_, hS.ok.ghost hf, hS.defers.mono (Ev.ghost hf), ?_, fun t' ht' => ?_⟩
  · show upd C.st l.length (.tip e z es.length) = _
    rw [hS.st]
    exact ofl_snoc l _
  · rw [hS.size]; simp [dn_length]
  · have hlt : t' < N := by simpa [dn_length] using ht'
    have h1 := hS.slot t' (by simpa [dn_length] using hlt)
    simp only at h1
    rw [getD_dn, if_pos hlt] at h1 ⊢
    by_cases he : t = t'
    · subst he
      rw [ht] at h1
      have h2 : ∀ x ∈ es, x.size = z := fun x hx => by simpa using List.all_eq_true.1 hz x hx
      have h3 := R.ghost (id := l.length) (e := e) hk hf h1 h2
      simpa [putA, look_cons] using h3
    · simp only [putA, look_cons, if_neg he]
      exact h1.mono (Ev.ghost hf)
theorem ALp.ghost {K : Option Nat → Prop} {P : Program} {st0 : Nat → Ent} {Q : Exit → St → Prop} {c : Code} {N : Nat} {s : List (Nat × V)} {l : List Ent} (t : Nat) (es : List V) (kk : Slk) (e : TypeId) (z : Nat)
    (h : ALp K P st0 c Q ⟨dn N (putA s (some t) (.sl es (.own l.length))), ofl (l ++ [.tip e z es.length])⟩) (ht : look s t = .sl es kk := by rfl) (hk : kk = .full ∨ kk = .nl := by first | exact .inl rfl | exact .inr rfl) (hz : allS z es = true := by rfl) : ALp K P st0 c Q ⟨dn N s, ofl l⟩ := by
  intro C0 C a ro n hK h0 hE hS
  have hf : C.st l.length = .free := by rw [hS.st]; exact ofl_end l
  exact h C0 (C.ghost l.length e z es.length) a ro n hK h0 (hE.trans (Ev.ghost hf)) (hS.ghost hk ht hz)
theorem Wk.agL {cs ds : List V} (h : WkL cs ds) : Wk (.ag cs) (.ag ds) := Wk.ag h.length h.get
/-- Element by element, of the same sizes. -/
def WkS (es fs : List V) : Prop := es.length = fs.length ∧ ∀ i (h1 : i < es.length) (h2 : i < fs.length), Wk es[i] fs[i] ∧ fs[i].size = es[i].size
theorem WkS.nil : WkS [] [] := ⟨rfl, fun i h => absurd h (Nat.not_lt_zero i)⟩
theorem WkS.cons {x y : V} {l m : List V} (h : Wk x y) (hz : y.size = x.size) (k : WkS l m) : WkS (x :: l) (y :: m) := by
  refine ⟨by simp [k.1], fun i h1 h2 => ?_⟩
  cases i with
  | zero => exact ⟨h, hz⟩
  | succ i => exact k.2 i (by simpa using h1) (by simpa using h2)
theorem Wk.slL {es fs : List V} {k : Slk} (h : WkS es fs) : Wk (.sl es k) (.sl fs .ro) := (Wk.sl h.1 h.2).trans (Wk.ro _ _)
/-- A call whose arguments are handed over with less said of them. -/
theorem AR.callW {P : Program} {N : Nat} {ops : Array Oper} {dr : Bool} {Q : St → Prop} {d : Option Tmp} {c : Operand} {args : Array Operand} {tys : Array TypeId} {ty : TypeId} {pos : String} {af : Array Edge} {g : Option (Nat × Bool)} {os : List Oper} {k : Nat} {s : List (Nat × V)} {l : List Ent}
    {acc : List (Nat × List Nat × List Nat)} {f : FuncId} {us vs xs : List V} {r : V} {F E : Prop} (h : PC P f xs r) (fa : F) (fi : E) (n : AR P ops dr Q os (k + 1) ⟨dn N (putA s d r), ofl l⟩ ((k, [], []) :: acc)) (hg : gd ops ⟨d, .call { callee := .value c, args := args, argTypes := tys }, ty, pos, af, g⟩ ⟨dn N s, ofl l⟩ = some true := by rfl) (hc : St.ev ⟨dn N s, ofl l⟩ c = .fn (.func f) us vs := by rfl)
    (hw : F → WkL (us ++ args.toList.map (St.ev ⟨dn N s, ofl l⟩) ++ vs) xs := by intro f; simp only [St.ev, V.ofVal, V.ofCell, V.size_im, getD_dn, look_cons, look_nil, Nat.reduceLT, Nat.reduceEqDiff, reduceIte, if_true, if_false, List.map_cons, List.map_nil, List.nil_append, List.cons_append, List.append_nil, f]; repeat (first | exact Wk.refl _ | exact Wk.ro _ _ | exact WkL.nil | exact WkS.nil | refine WkL.cons ?_ ?_ | refine WkS.cons ?_ rfl ?_ | refine Wk.agL ?_ | refine Wk.slL ?_)) (hi : E → V.idsL noId xs = true := by intro f; first | rfl | simp only [List.length_cons, List.length_nil, Nat.reduceAdd, V.ids, V.idsL, idsA, entOk, List.all_cons, List.all_nil, Bool.and_self, Bool.and_true, Bool.true_and, ltB, noId, Nat.reduceLT, decide_true, Bool.true_eq_false, tyV_id, fdV_id, tyL_id, fdL_id, f]) :
    AR P ops dr Q (⟨d, .call { callee := .value c, args := args, argTypes := tys }, ty, pos, af, g⟩ :: os) k ⟨dn N s, ofl l⟩ acc := AR.call h hg hc (hw fa) (hi fi) n
theorem WkF.wk {st : Nat → Ent} {kp : Nat → Bool} {x y : V} (hw : Wk x y := by repeat (first | exact Wk.refl _ | exact Wk.ro _ _ | exact WkL.nil | exact WkS.nil | refine WkL.cons ?_ ?_ | refine WkS.cons ?_ rfl ?_ | refine Wk.agL ?_ | refine Wk.slL ?_))
    (hi : y.ids kp = true := by first | rfl | simp only [List.length_cons, List.length_nil, Nat.reduceAdd, V.ids, V.idsL, idsA, entOk, List.all_cons, List.all_nil, Bool.and_self, Bool.and_true, Bool.true_and, ltB, noId, Nat.reduceLT, decide_true, Bool.true_eq_false, tyV_id, fdV_id, tyL_id, fdL_id]) : WkF st kp x y := WkF.of hw hi
end Go.Proofs.Ytfggemopnlffeaa
