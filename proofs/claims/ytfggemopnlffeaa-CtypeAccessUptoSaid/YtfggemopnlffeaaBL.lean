/- Walks: through which variable an address goes; the type of a variable. -/
import Derived.Test.YtfggemopnlffeaaHw
import Derived.Test.YtfggemopnlffeaaBH
import Derived.Test.YtfggemopnlffeaaBC
namespace Go.Proofs.Ytfggemopnlffeaa
set_option linter.unusedSimpArgs false
set_option linter.unusedVariables false
set_option linter.unnecessarySimpa false
open Go.RowKit
/-- An offset as the program reckons it. -/
def offT (o n : Int) : Int := IntKind.i64.wrap (IntKind.i32.wrap (if o == 4 then IntKind.u32.wrap (0 - n) else n))
/-- Through which variable, at which offset; whether at all. -/
def thr : Ex → ByteArray × Int × Bool
  | .mk o _ s _ l => if o == 2 then (s, 0, true) else if o == 3 || o == 4 then
      match l with
      | [a, b] => if a.op == 2 && b.op == 1 then (a.name, offT o b.n, true) else (ByteArray.empty, 0, false)
      | _ => (ByteArray.empty, 0, false)
    else (ByteArray.empty, 0, false)
theorem thr_mk (o n : Int) (s : ByteArray) (w : Int) (l : List Ex) : thr (.mk o n s w l) = if o == 2 then (s, 0, true) else if o == 3 || o == 4 then
      match l with
      | [a, b] => if a.op == 2 && b.op == 1 then (a.name, offT o b.n, true) else (ByteArray.empty, 0, false)
      | _ => (ByteArray.empty, 0, false)
    else (ByteArray.empty, 0, false) := rfl
theorem offT_I64 (o n : Int) : I64 (offT o n) := by
  unfold offT I64
  rw [IntWalk.i64_left]
  unfold RowKit.wrap64
  omega
def tyOf (vs : List Va) (s : ByteArray) : Ty := match vs.find? fun v => eqS v.name s with
  | some v => v.ty
  | none => tz
theorem tyOf_none {vs : List Va} {s : ByteArray} (h : AllTo (fun x => !eqS x.name s) vs vs.length) : tyOf vs s = tz := by
  unfold tyOf
  have : vs.find? (fun v => eqS v.name s) = none := by
    rw [List.find?_eq_none]
    intro x hx
    obtain ⟨j, hj, rfl⟩ := List.getElem_of_mem hx
    simpa using h j hj hj
  rw [this]
theorem tyOf_some {vs : List Va} {s : ByteArray} {m : Nat} (hm : m < vs.length) (h : AllTo (fun x => !eqS x.name s) vs m) (hp : eqS vs[m].name s = true) : tyOf vs s = vs[m].ty := by
  unfold tyOf
  have : vs.find? (fun v => eqS v.name s) = some vs[m] := by
    rw [List.find?_eq_some_iff_getElem]
    exact ⟨hp, m, hm, rfl, fun j hj => by simpa using h j (by omega) hj⟩
  rw [this]
theorem fit_tz : fit tz := by
  unfold fit
  kernel_rfl
theorem fit_tyOf {vs : List Va} (hv : fitV vs) (s : ByteArray) : fit (tyOf vs s) := by
  unfold tyOf
  cases h : vs.find? fun v => eqS v.name s with
  | none => exact fit_tz
  | some v => exact hv.2 v (List.mem_of_find?_eq_some h)
theorem efm_two {o n : Int} {s : ByteArray} {w : Int} {l : List Ex} (h : efm (.mk o n s w l) = true) (ho : o = 3 ∨ o = 4) : ∃ a b, l = [a, b] := by
  rw [efm_mk, Bool.and_eq_true] at h
  have h1 := h.1
  have h2 : l.length = 2 := by
    rcases ho with rfl | rfl <;> simp [ebase] at h1 <;> exact h1.2
  match l, h2 with
  | [a, b], _ => exact ⟨a, b, rfl⟩
theorem c_through (e : Ex) (hf : efm e = true) : PC Try.prog 108 [exV e] (.tu [.im (.string (thr e).1), (.im (.int .i64 ((thr e).2.1))), (.im (.bool ((thr e).2.2)))]) := by
  obtain ⟨o, n, s, w, l⟩ := e
  refine PC.enter 53 Try.func108 rfl (by decide) rfl rfl (s := [(0, exV (.mk o n s w l))]) (by rfl) ?_
  simp only [exV_mk]
  rw [thr_mk]
  by_cases h2 : o = 2
  · have e2 : (o == 2) = true := by simp [h2]
    rw [e2]
    simp only [if_true]
    refine w108 h2 ?_
    refine Fin.gen0 (rs := [.tmp 2, .tmp 3, .tmp 4]) rfl (by first | exact .inl rfl | exact .inr rfl) (by simp only [resX, resA, ↓accU_f, ↓reduceIte, SA, SB, SC, SD, T108, valG, fpsG, evO, evB, evA, evA1, nilK, eqF, eqC, apOk, intOf, slB, slK,  gd, St.ev, putA, ofl, wrl, putE, V.ofVal, V.ofCell, bin2, un1, seg, fillV, partsOk, Value.oneCell', Nat.reduceBEq, Nat.reduceLT, Nat.reduceSub, Nat.reduceAdd, Nat.reduceMul, Nat.reduceLeDiff, Nat.reduceEqDiff, reduceCtorEq, Int.reduceLT, Int.reduceLE, Int.reduceEq, Int.reduceNe, Int.reduceBEq, Int.reduceBNe, Int.reduceAdd, Int.reduceSub, Int.reduceMul, Int.reduceToNat]; with_reducible exact rfl) ?_
    repeat (first | exact WkF.of (Wk.refl _) (by first | rfl | simp only [List.length_cons, List.length_nil, Nat.reduceAdd, V.ids, V.idsL, idsA, entOk, List.all_cons, List.all_nil, Bool.and_self, Bool.and_true, Bool.true_and, ltB, noId, Nat.reduceLT, decide_true, Bool.true_eq_false, tyV_id, fdV_id, tyL_id, fdL_id, exL_id, vaL_id, exV_id, vaV_id]) | exact WkF.of (Wk.ro _ _) (by first | rfl | simp only [List.length_cons, List.length_nil, Nat.reduceAdd, V.ids, V.idsL, idsA, entOk, List.all_cons, List.all_nil, Bool.and_self, Bool.and_true, Bool.true_and, ltB, noId, Nat.reduceLT, decide_true, Bool.true_eq_false, tyV_id, fdV_id, tyL_id, fdL_id, exL_id, vaL_id, exV_id, vaV_id]) | refine WkF.tu ?_ | refine WkF.ag ?_ | refine WkFL.cons ?_ ?_ | exact WkFL.nil)
  have e2 : (o == 2) = false := by simp [h2]
  rw [e2]
  by_cases h34 : o = 3 ∨ o = 4
  · obtain ⟨a, b, rfl⟩ := efm_two hf h34
    have e34 : (o == 3 || o == 4) = true := by simp [h34]
    rw [e34]
    simp only [if_true, Bool.false_eq_true, if_false]
    have hg0 : (List.map exV [a, b])[0]? = some (exV a) := rfl
    have hg1 : (List.map exV [a, b])[1]? = some (exV b) := rfl
    by_cases ha : a.op = 2
    case neg =>
      have ea : (a.op == 2 && b.op == 1) = false := by simp [ha]
      rw [ea]
      simp only [Bool.false_eq_true, if_false]
      rcases h34 with rfl | rfl
      all_goals
        refine w108 (And.intro hg0 (And.intro hg1 ha)) ?_
        refine Fin.gen0 (rs := [.tmp 2, .tmp 3, .tmp 4]) rfl (by first | exact .inl rfl | exact .inr rfl) (by simp only [resX, resA, ↓accU_f, ↓reduceIte, SA, SB, SC, SD, T108, valG, fpsG, evO, evB, evA, evA1, nilK, eqF, eqC, apOk, intOf, slB, slK,  gd, St.ev, putA, ofl, wrl, putE, V.ofVal, V.ofCell, bin2, un1, seg, fillV, partsOk, Value.oneCell', Nat.reduceBEq, Nat.reduceLT, Nat.reduceSub, Nat.reduceAdd, Nat.reduceMul, Nat.reduceLeDiff, Nat.reduceEqDiff, reduceCtorEq, Int.reduceLT, Int.reduceLE, Int.reduceEq, Int.reduceNe, Int.reduceBEq, Int.reduceBNe, Int.reduceAdd, Int.reduceSub, Int.reduceMul, Int.reduceToNat]; with_reducible exact rfl) ?_
        repeat (first | exact WkF.of (Wk.refl _) (by first | rfl | simp only [List.length_cons, List.length_nil, Nat.reduceAdd, V.ids, V.idsL, idsA, entOk, List.all_cons, List.all_nil, Bool.and_self, Bool.and_true, Bool.true_and, ltB, noId, Nat.reduceLT, decide_true, Bool.true_eq_false, tyV_id, fdV_id, tyL_id, fdL_id, exL_id, vaL_id, exV_id, vaV_id]) | exact WkF.of (Wk.ro _ _) (by first | rfl | simp only [List.length_cons, List.length_nil, Nat.reduceAdd, V.ids, V.idsL, idsA, entOk, List.all_cons, List.all_nil, Bool.and_self, Bool.and_true, Bool.true_and, ltB, noId, Nat.reduceLT, decide_true, Bool.true_eq_false, tyV_id, fdV_id, tyL_id, fdL_id, exL_id, vaL_id, exV_id, vaV_id]) | refine WkF.tu ?_ | refine WkF.ag ?_ | refine WkFL.cons ?_ ?_ | exact WkFL.nil)
    by_cases hb : b.op = 1
    case neg =>
      have ea : (a.op == 2 && b.op == 1) = false := by simp [hb]
      rw [ea]
      simp only [Bool.false_eq_true, if_false]
      rcases h34 with rfl | rfl
      all_goals
        refine w108 (And.intro hg0 (And.intro hg1 (And.intro ha hb))) ?_
        refine Fin.gen0 (rs := [.tmp 2, .tmp 3, .tmp 4]) rfl (by first | exact .inl rfl | exact .inr rfl) (by simp only [resX, resA, ↓accU_f, ↓reduceIte, SA, SB, SC, SD, T108, valG, fpsG, evO, evB, evA, evA1, nilK, eqF, eqC, apOk, intOf, slB, slK,  gd, St.ev, putA, ofl, wrl, putE, V.ofVal, V.ofCell, bin2, un1, seg, fillV, partsOk, Value.oneCell', Nat.reduceBEq, Nat.reduceLT, Nat.reduceSub, Nat.reduceAdd, Nat.reduceMul, Nat.reduceLeDiff, Nat.reduceEqDiff, reduceCtorEq, Int.reduceLT, Int.reduceLE, Int.reduceEq, Int.reduceNe, Int.reduceBEq, Int.reduceBNe, Int.reduceAdd, Int.reduceSub, Int.reduceMul, Int.reduceToNat]; with_reducible exact rfl) ?_
        repeat (first | exact WkF.of (Wk.refl _) (by first | rfl | simp only [List.length_cons, List.length_nil, Nat.reduceAdd, V.ids, V.idsL, idsA, entOk, List.all_cons, List.all_nil, Bool.and_self, Bool.and_true, Bool.true_and, ltB, noId, Nat.reduceLT, decide_true, Bool.true_eq_false, tyV_id, fdV_id, tyL_id, fdL_id, exL_id, vaL_id, exV_id, vaV_id]) | exact WkF.of (Wk.ro _ _) (by first | rfl | simp only [List.length_cons, List.length_nil, Nat.reduceAdd, V.ids, V.idsL, idsA, entOk, List.all_cons, List.all_nil, Bool.and_self, Bool.and_true, Bool.true_and, ltB, noId, Nat.reduceLT, decide_true, Bool.true_eq_false, tyV_id, fdV_id, tyL_id, fdL_id, exL_id, vaL_id, exV_id, vaV_id]) | refine WkF.tu ?_ | refine WkF.ag ?_ | refine WkFL.cons ?_ ?_ | exact WkFL.nil)
    have ea : (a.op == 2 && b.op == 1) = true := by simp [ha, hb]
    rw [ea]
    simp only [if_true]
    rcases h34 with rfl | rfl
    all_goals
      refine w108 (And.intro hg0 (And.intro hg1 (And.intro ha hb))) ?_
      refine Fin.gen0 (rs := [.tmp 2, .tmp 3, .tmp 4]) rfl (by first | exact .inl rfl | exact .inr rfl) (by simp only [resX, resA, ↓accU_f, ↓reduceIte, SA, SB, SC, SD, T108, valG, fpsG, evO, evB, evA, evA1, nilK, eqF, eqC, apOk, intOf, slB, slK,  gd, St.ev, putA, ofl, wrl, putE, V.ofVal, V.ofCell, bin2, un1, seg, fillV, partsOk, Value.oneCell', Nat.reduceBEq, Nat.reduceLT, Nat.reduceSub, Nat.reduceAdd, Nat.reduceMul, Nat.reduceLeDiff, Nat.reduceEqDiff, reduceCtorEq, Int.reduceLT, Int.reduceLE, Int.reduceEq, Int.reduceNe, Int.reduceBEq, Int.reduceBNe, Int.reduceAdd, Int.reduceSub, Int.reduceMul, Int.reduceToNat]; with_reducible exact rfl) ?_
      simp only [offT, Int.reduceBEq, Bool.false_eq_true, if_true, if_false]
      repeat (first | exact WkF.of (Wk.refl _) (by first | rfl | simp only [List.length_cons, List.length_nil, Nat.reduceAdd, V.ids, V.idsL, idsA, entOk, List.all_cons, List.all_nil, Bool.and_self, Bool.and_true, Bool.true_and, ltB, noId, Nat.reduceLT, decide_true, Bool.true_eq_false, tyV_id, fdV_id, tyL_id, fdL_id, exL_id, vaL_id, exV_id, vaV_id]) | exact WkF.of (Wk.ro _ _) (by first | rfl | simp only [List.length_cons, List.length_nil, Nat.reduceAdd, V.ids, V.idsL, idsA, entOk, List.all_cons, List.all_nil, Bool.and_self, Bool.and_true, Bool.true_and, ltB, noId, Nat.reduceLT, decide_true, Bool.true_eq_false, tyV_id, fdV_id, tyL_id, fdL_id, exL_id, vaL_id, exV_id, vaV_id]) | refine WkF.tu ?_ | refine WkF.ag ?_ | refine WkFL.cons ?_ ?_ | exact WkFL.nil)
  · have e34 : (o == 3 || o == 4) = false := by
      simp only [Bool.or_eq_false_iff, beq_eq_false_iff_ne]
      omega
    rw [e34]
    simp only [Bool.false_eq_true, if_false]
    have h3 : ¬ o = 3 := by omega
    have h4 : ¬ o = 4 := by omega
    refine w108 (And.intro h2 (And.intro h3 h4)) ?_
    refine Fin.gen0 (rs := [.tmp 2, .tmp 3, .tmp 4]) rfl (by first | exact .inl rfl | exact .inr rfl) (by simp only [resX, resA, ↓accU_f, ↓reduceIte, SA, SB, SC, SD, T108, valG, fpsG, evO, evB, evA, evA1, nilK, eqF, eqC, apOk, intOf, slB, slK,  gd, St.ev, putA, ofl, wrl, putE, V.ofVal, V.ofCell, bin2, un1, seg, fillV, partsOk, Value.oneCell', Nat.reduceBEq, Nat.reduceLT, Nat.reduceSub, Nat.reduceAdd, Nat.reduceMul, Nat.reduceLeDiff, Nat.reduceEqDiff, reduceCtorEq, Int.reduceLT, Int.reduceLE, Int.reduceEq, Int.reduceNe, Int.reduceBEq, Int.reduceBNe, Int.reduceAdd, Int.reduceSub, Int.reduceMul, Int.reduceToNat]; with_reducible exact rfl) ?_
    repeat (first | exact WkF.of (Wk.refl _) (by first | rfl | simp only [List.length_cons, List.length_nil, Nat.reduceAdd, V.ids, V.idsL, idsA, entOk, List.all_cons, List.all_nil, Bool.and_self, Bool.and_true, Bool.true_and, ltB, noId, Nat.reduceLT, decide_true, Bool.true_eq_false, tyV_id, fdV_id, tyL_id, fdL_id, exL_id, vaL_id, exV_id, vaV_id]) | exact WkF.of (Wk.ro _ _) (by first | rfl | simp only [List.length_cons, List.length_nil, Nat.reduceAdd, V.ids, V.idsL, idsA, entOk, List.all_cons, List.all_nil, Bool.and_self, Bool.and_true, Bool.true_and, ltB, noId, Nat.reduceLT, decide_true, Bool.true_eq_false, tyV_id, fdV_id, tyL_id, fdL_id, exL_id, vaL_id, exV_id, vaV_id]) | refine WkF.tu ?_ | refine WkF.ag ?_ | refine WkFL.cons ?_ ?_ | exact WkFL.nil)
theorem c_throughR (e : Ex) (hf : efm e = true) : PC Try.prog 111 [exV e] (.tu [.im (.string (thr e).1), (.im (.int .i64 ((thr e).2.1))), (.im (.bool ((thr e).2.2)))]) := by
  obtain ⟨o, n, s, w, l⟩ := e
  refine PC.enter 59 Try.func111 rfl (by decide) rfl rfl (s := [(0, exV (.mk o n s w l))]) (by rfl) ?_
  simp only [exV_mk]
  rw [thr_mk]
  by_cases h2 : o = 2
  · have e2 : (o == 2) = true := by simp [h2]
    rw [e2]
    simp only [if_true]
    refine w111 h2 ?_
    refine Fin.gen0 (rs := [.tmp 2, .tmp 3, .tmp 4]) rfl (by first | exact .inl rfl | exact .inr rfl) (by simp only [resX, resA, ↓accU_f, ↓reduceIte, SA, SB, SC, SD, T111, valG, fpsG, evO, evB, evA, evA1, nilK, eqF, eqC, apOk, intOf, slB, slK,  gd, St.ev, putA, ofl, wrl, putE, V.ofVal, V.ofCell, bin2, un1, seg, fillV, partsOk, Value.oneCell', Nat.reduceBEq, Nat.reduceLT, Nat.reduceSub, Nat.reduceAdd, Nat.reduceMul, Nat.reduceLeDiff, Nat.reduceEqDiff, reduceCtorEq, Int.reduceLT, Int.reduceLE, Int.reduceEq, Int.reduceNe, Int.reduceBEq, Int.reduceBNe, Int.reduceAdd, Int.reduceSub, Int.reduceMul, Int.reduceToNat]; with_reducible exact rfl) ?_
    repeat (first | exact WkF.of (Wk.refl _) (by first | rfl | simp only [List.length_cons, List.length_nil, Nat.reduceAdd, V.ids, V.idsL, idsA, entOk, List.all_cons, List.all_nil, Bool.and_self, Bool.and_true, Bool.true_and, ltB, noId, Nat.reduceLT, decide_true, Bool.true_eq_false, tyV_id, fdV_id, tyL_id, fdL_id, exL_id, vaL_id, exV_id, vaV_id]) | exact WkF.of (Wk.ro _ _) (by first | rfl | simp only [List.length_cons, List.length_nil, Nat.reduceAdd, V.ids, V.idsL, idsA, entOk, List.all_cons, List.all_nil, Bool.and_self, Bool.and_true, Bool.true_and, ltB, noId, Nat.reduceLT, decide_true, Bool.true_eq_false, tyV_id, fdV_id, tyL_id, fdL_id, exL_id, vaL_id, exV_id, vaV_id]) | refine WkF.tu ?_ | refine WkF.ag ?_ | refine WkFL.cons ?_ ?_ | exact WkFL.nil)
  have e2 : (o == 2) = false := by simp [h2]
  rw [e2]
  by_cases h34 : o = 3 ∨ o = 4
  · obtain ⟨a, b, rfl⟩ := efm_two hf h34
    have e34 : (o == 3 || o == 4) = true := by simp [h34]
    rw [e34]
    simp only [if_true, Bool.false_eq_true, if_false]
    have hlen : (([a, b] : List Ex).length : Int) = 2 := rfl
    have hg0 : (List.map exV [a, b])[0]? = some (exV a) := rfl
    have hg1 : (List.map exV [a, b])[1]? = some (exV b) := rfl
    by_cases ha : a.op = 2
    case neg =>
      have ea : (a.op == 2 && b.op == 1) = false := by simp [ha]
      rw [ea]
      simp only [Bool.false_eq_true, if_false]
      rcases h34 with rfl | rfl
      all_goals
        refine w111 (And.intro hg0 (And.intro hg1 ha)) ?_
        refine Fin.gen0 (rs := [.tmp 2, .tmp 3, .tmp 4]) rfl (by first | exact .inl rfl | exact .inr rfl) (by simp only [resX, resA, ↓accU_f, ↓reduceIte, SA, SB, SC, SD, T111, valG, fpsG, evO, evB, evA, evA1, nilK, eqF, eqC, apOk, intOf, slB, slK,  gd, St.ev, putA, ofl, wrl, putE, V.ofVal, V.ofCell, bin2, un1, seg, fillV, partsOk, Value.oneCell', Nat.reduceBEq, Nat.reduceLT, Nat.reduceSub, Nat.reduceAdd, Nat.reduceMul, Nat.reduceLeDiff, Nat.reduceEqDiff, reduceCtorEq, Int.reduceLT, Int.reduceLE, Int.reduceEq, Int.reduceNe, Int.reduceBEq, Int.reduceBNe, Int.reduceAdd, Int.reduceSub, Int.reduceMul, Int.reduceToNat]; with_reducible exact rfl) ?_
        repeat (first | exact WkF.of (Wk.refl _) (by first | rfl | simp only [List.length_cons, List.length_nil, Nat.reduceAdd, V.ids, V.idsL, idsA, entOk, List.all_cons, List.all_nil, Bool.and_self, Bool.and_true, Bool.true_and, ltB, noId, Nat.reduceLT, decide_true, Bool.true_eq_false, tyV_id, fdV_id, tyL_id, fdL_id, exL_id, vaL_id, exV_id, vaV_id]) | exact WkF.of (Wk.ro _ _) (by first | rfl | simp only [List.length_cons, List.length_nil, Nat.reduceAdd, V.ids, V.idsL, idsA, entOk, List.all_cons, List.all_nil, Bool.and_self, Bool.and_true, Bool.true_and, ltB, noId, Nat.reduceLT, decide_true, Bool.true_eq_false, tyV_id, fdV_id, tyL_id, fdL_id, exL_id, vaL_id, exV_id, vaV_id]) | refine WkF.tu ?_ | refine WkF.ag ?_ | refine WkFL.cons ?_ ?_ | exact WkFL.nil)
    by_cases hb : b.op = 1
    case neg =>
      have ea : (a.op == 2 && b.op == 1) = false := by simp [hb]
      rw [ea]
      simp only [Bool.false_eq_true, if_false]
      rcases h34 with rfl | rfl
      all_goals
        refine w111 (And.intro hg0 (And.intro hg1 (And.intro ha hb))) ?_
        refine Fin.gen0 (rs := [.tmp 2, .tmp 3, .tmp 4]) rfl (by first | exact .inl rfl | exact .inr rfl) (by simp only [resX, resA, ↓accU_f, ↓reduceIte, SA, SB, SC, SD, T111, valG, fpsG, evO, evB, evA, evA1, nilK, eqF, eqC, apOk, intOf, slB, slK,  gd, St.ev, putA, ofl, wrl, putE, V.ofVal, V.ofCell, bin2, un1, seg, fillV, partsOk, Value.oneCell', Nat.reduceBEq, Nat.reduceLT, Nat.reduceSub, Nat.reduceAdd, Nat.reduceMul, Nat.reduceLeDiff, Nat.reduceEqDiff, reduceCtorEq, Int.reduceLT, Int.reduceLE, Int.reduceEq, Int.reduceNe, Int.reduceBEq, Int.reduceBNe, Int.reduceAdd, Int.reduceSub, Int.reduceMul, Int.reduceToNat]; with_reducible exact rfl) ?_
        repeat (first | exact WkF.of (Wk.refl _) (by first | rfl | simp only [List.length_cons, List.length_nil, Nat.reduceAdd, V.ids, V.idsL, idsA, entOk, List.all_cons, List.all_nil, Bool.and_self, Bool.and_true, Bool.true_and, ltB, noId, Nat.reduceLT, decide_true, Bool.true_eq_false, tyV_id, fdV_id, tyL_id, fdL_id, exL_id, vaL_id, exV_id, vaV_id]) | exact WkF.of (Wk.ro _ _) (by first | rfl | simp only [List.length_cons, List.length_nil, Nat.reduceAdd, V.ids, V.idsL, idsA, entOk, List.all_cons, List.all_nil, Bool.and_self, Bool.and_true, Bool.true_and, ltB, noId, Nat.reduceLT, decide_true, Bool.true_eq_false, tyV_id, fdV_id, tyL_id, fdL_id, exL_id, vaL_id, exV_id, vaV_id]) | refine WkF.tu ?_ | refine WkF.ag ?_ | refine WkFL.cons ?_ ?_ | exact WkFL.nil)
    have ea : (a.op == 2 && b.op == 1) = true := by simp [ha, hb]
    rw [ea]
    simp only [if_true]
    rcases h34 with rfl | rfl
    all_goals
      refine w111 (And.intro hg0 (And.intro hg1 (And.intro ha hb))) ?_
      refine Fin.gen0 (rs := [.tmp 2, .tmp 3, .tmp 4]) rfl (by first | exact .inl rfl | exact .inr rfl) (by simp only [resX, resA, ↓accU_f, ↓reduceIte, SA, SB, SC, SD, T111, valG, fpsG, evO, evB, evA, evA1, nilK, eqF, eqC, apOk, intOf, slB, slK,  gd, St.ev, putA, ofl, wrl, putE, V.ofVal, V.ofCell, bin2, un1, seg, fillV, partsOk, Value.oneCell', Nat.reduceBEq, Nat.reduceLT, Nat.reduceSub, Nat.reduceAdd, Nat.reduceMul, Nat.reduceLeDiff, Nat.reduceEqDiff, reduceCtorEq, Int.reduceLT, Int.reduceLE, Int.reduceEq, Int.reduceNe, Int.reduceBEq, Int.reduceBNe, Int.reduceAdd, Int.reduceSub, Int.reduceMul, Int.reduceToNat]; with_reducible exact rfl) ?_
      simp only [offT, Int.reduceBEq, Bool.false_eq_true, if_true, if_false]
      repeat (first | exact WkF.of (Wk.refl _) (by first | rfl | simp only [List.length_cons, List.length_nil, Nat.reduceAdd, V.ids, V.idsL, idsA, entOk, List.all_cons, List.all_nil, Bool.and_self, Bool.and_true, Bool.true_and, ltB, noId, Nat.reduceLT, decide_true, Bool.true_eq_false, tyV_id, fdV_id, tyL_id, fdL_id, exL_id, vaL_id, exV_id, vaV_id]) | exact WkF.of (Wk.ro _ _) (by first | rfl | simp only [List.length_cons, List.length_nil, Nat.reduceAdd, V.ids, V.idsL, idsA, entOk, List.all_cons, List.all_nil, Bool.and_self, Bool.and_true, Bool.true_and, ltB, noId, Nat.reduceLT, decide_true, Bool.true_eq_false, tyV_id, fdV_id, tyL_id, fdL_id, exL_id, vaL_id, exV_id, vaV_id]) | refine WkF.tu ?_ | refine WkF.ag ?_ | refine WkFL.cons ?_ ?_ | exact WkFL.nil)
  · have e34 : (o == 3 || o == 4) = false := by
      simp only [Bool.or_eq_false_iff, beq_eq_false_iff_ne]
      omega
    rw [e34]
    simp only [Bool.false_eq_true, if_false]
    have h3 : ¬ o = 3 := by omega
    have h4 : ¬ o = 4 := by omega
    refine w111 (And.intro h2 (And.intro h3 h4)) ?_
    refine Fin.gen0 (rs := [.tmp 2, .tmp 3, .tmp 4]) rfl (by first | exact .inl rfl | exact .inr rfl) (by simp only [resX, resA, ↓accU_f, ↓reduceIte, SA, SB, SC, SD, T111, valG, fpsG, evO, evB, evA, evA1, nilK, eqF, eqC, apOk, intOf, slB, slK,  gd, St.ev, putA, ofl, wrl, putE, V.ofVal, V.ofCell, bin2, un1, seg, fillV, partsOk, Value.oneCell', Nat.reduceBEq, Nat.reduceLT, Nat.reduceSub, Nat.reduceAdd, Nat.reduceMul, Nat.reduceLeDiff, Nat.reduceEqDiff, reduceCtorEq, Int.reduceLT, Int.reduceLE, Int.reduceEq, Int.reduceNe, Int.reduceBEq, Int.reduceBNe, Int.reduceAdd, Int.reduceSub, Int.reduceMul, Int.reduceToNat]; with_reducible exact rfl) ?_
    repeat (first | exact WkF.of (Wk.refl _) (by first | rfl | simp only [List.length_cons, List.length_nil, Nat.reduceAdd, V.ids, V.idsL, idsA, entOk, List.all_cons, List.all_nil, Bool.and_self, Bool.and_true, Bool.true_and, ltB, noId, Nat.reduceLT, decide_true, Bool.true_eq_false, tyV_id, fdV_id, tyL_id, fdL_id, exL_id, vaL_id, exV_id, vaV_id]) | exact WkF.of (Wk.ro _ _) (by first | rfl | simp only [List.length_cons, List.length_nil, Nat.reduceAdd, V.ids, V.idsL, idsA, entOk, List.all_cons, List.all_nil, Bool.and_self, Bool.and_true, Bool.true_and, ltB, noId, Nat.reduceLT, decide_true, Bool.true_eq_false, tyV_id, fdV_id, tyL_id, fdL_id, exL_id, vaL_id, exV_id, vaV_id]) | refine WkF.tu ?_ | refine WkF.ag ?_ | refine WkFL.cons ?_ ?_ | exact WkFL.nil)
theorem c_typeOf (vs : List Va) (hv : vs.length ≤ 4194304) (s : ByteArray) : PC Try.prog 74 [(V.sl (vs.map vaV) .ro), .im (.string s)] (tyV (tyOf vs s)) := by
  refine PC.enter 21 Try.func74 rfl (by decide) rfl rfl (s := [(0, (V.sl (vs.map vaV) .ro)), (1, .im (.string s))]) (by rfl) ?_
  refine w74 True.intro ?_
  refine AWp.loop ?_
  refine ALp.cutP 1 [(1, .im (.string s)), (4, .pt 0 0), (7, (V.sl (vs.map vaV) .ro)), (8, (.im (.int .i64 (vs.length)))), (9, (.im (.int .i64 ((((0 : Nat)) : Int)))))] [.box [.im (.int .i64 0), .im (.int .i64 0), .im (.int .i64 0), .sl [] .nl, .sl [] .nl]] (And.intro (@exL_id) (And.intro (@vaL_id) (And.intro (@exV_id) @vaV_id))) ?_
  refine ALp.upto vs.length (AllTo (fun x => !eqS x.name s) vs) (fun m => ⟨dn 21 [(1, .im (.string s)), (4, .pt 0 0), (7, (V.sl (vs.map vaV) .ro)), (8, (.im (.int .i64 (vs.length)))), (9, (.im (.int .i64 ((((m : Nat)) : Int)))))], ofl [.box [.im (.int .i64 0), .im (.int .i64 0), .im (.int .i64 0), .sl [] .nl, .sl [] .nl]]⟩) ?_ 0 (Nat.zero_le _) (AllTo.zero _ _)
  intro m hm hI hnext
  by_cases hlt : m < vs.length
  · have hlt' : (m : Int) < (vs.length : Int) := by omega
    have hg := get_some hlt
    have hm1 := wrap_succ hlt (by omega)
    cases b : eqS vs[m].name s with
    | true =>
      have b' : (vs[m].name.toList == s.toList) = true := b
      rw [tyOf_some hlt hI b]
      refine w74 (And.intro hlt' (And.intro hg (And.intro hm1 b'))) ?_
      refine Fin.gen0 (rs := [.cell 4 25]) rfl (by first | exact .inl rfl | exact .inr rfl) (by simp only [resX, resA, ↓accU_f, ↓reduceIte, SA, SB, SC, SD, T74, valG, fpsG, evO, evB, evA, evA1, nilK, eqF, eqC, apOk, intOf, slB, slK,  gd, St.ev, putA, ofl, wrl, putE, V.ofVal, V.ofCell, bin2, un1, seg, fillV, partsOk, Value.oneCell', Nat.reduceBEq, Nat.reduceLT, Nat.reduceSub, Nat.reduceAdd, Nat.reduceMul, Nat.reduceLeDiff, Nat.reduceEqDiff, reduceCtorEq, Int.reduceLT, Int.reduceLE, Int.reduceEq, Int.reduceNe, Int.reduceBEq, Int.reduceBNe, Int.reduceAdd, Int.reduceSub, Int.reduceMul, Int.reduceToNat]; with_reducible exact rfl) ?_
      simp only [tyV_eq]
      repeat (first | exact WkF.of (Wk.refl _) (by first | rfl | simp only [List.length_cons, List.length_nil, Nat.reduceAdd, V.ids, V.idsL, idsA, entOk, List.all_cons, List.all_nil, Bool.and_self, Bool.and_true, Bool.true_and, ltB, noId, Nat.reduceLT, decide_true, Bool.true_eq_false, tyV_id, fdV_id, tyL_id, fdL_id, exL_id, vaL_id, exV_id, vaV_id]) | exact WkF.of (Wk.ro _ _) (by first | rfl | simp only [List.length_cons, List.length_nil, Nat.reduceAdd, V.ids, V.idsL, idsA, entOk, List.all_cons, List.all_nil, Bool.and_self, Bool.and_true, Bool.true_and, ltB, noId, Nat.reduceLT, decide_true, Bool.true_eq_false, tyV_id, fdV_id, tyL_id, fdL_id, exL_id, vaL_id, exV_id, vaV_id]) | refine WkF.tu ?_ | refine WkF.ag ?_ | refine WkFL.cons ?_ ?_ | exact WkFL.nil)
    | false =>
      have b' : (vs[m].name.toList == s.toList) = false := b
      refine w74 (And.intro hlt' (And.intro hg (And.intro hm1 b'))) ?_
      refine ALp.cutP 1 [(1, .im (.string s)), (4, .pt 0 0), (7, (V.sl (vs.map vaV) .ro)), (8, (.im (.int .i64 (vs.length)))), (9, (.im (.int .i64 ((((m + 1 : Nat)) : Int)))))] [.box [.im (.int .i64 0), .im (.int .i64 0), .im (.int .i64 0), .sl [] .nl, .sl [] .nl]] (And.intro (@exL_id) (And.intro (@vaL_id) (And.intro (@exV_id) @vaV_id))) ?_
      exact hnext (m + 1) (by omega) (by omega) (hI.succ hlt (by rw [b]; rfl))
  · obtain rfl : m = vs.length := by omega
    have hlt' : ¬ (vs.length : Int) < (vs.length : Int) := by omega
    clear hnext
    rw [tyOf_none hI]
    refine w74 hlt' ?_
    refine Fin.gen0 (rs := [.cell 4 25]) rfl (by first | exact .inl rfl | exact .inr rfl) (by simp only [resX, resA, ↓accU_f, ↓reduceIte, SA, SB, SC, SD, T74, valG, fpsG, evO, evB, evA, evA1, nilK, eqF, eqC, apOk, intOf, slB, slK,  gd, St.ev, putA, ofl, wrl, putE, V.ofVal, V.ofCell, bin2, un1, seg, fillV, partsOk, Value.oneCell', Nat.reduceBEq, Nat.reduceLT, Nat.reduceSub, Nat.reduceAdd, Nat.reduceMul, Nat.reduceLeDiff, Nat.reduceEqDiff, reduceCtorEq, Int.reduceLT, Int.reduceLE, Int.reduceEq, Int.reduceNe, Int.reduceBEq, Int.reduceBNe, Int.reduceAdd, Int.reduceSub, Int.reduceMul, Int.reduceToNat]; with_reducible exact rfl) ?_
    simp only [tz, tyV_mk, List.map_nil]
    repeat (first | exact WkF.of (Wk.refl _) (by first | rfl | simp only [List.length_cons, List.length_nil, Nat.reduceAdd, V.ids, V.idsL, idsA, entOk, List.all_cons, List.all_nil, Bool.and_self, Bool.and_true, Bool.true_and, ltB, noId, Nat.reduceLT, decide_true, Bool.true_eq_false, tyV_id, fdV_id, tyL_id, fdL_id, exL_id, vaL_id, exV_id, vaV_id]) | exact WkF.of (Wk.ro _ _) (by first | rfl | simp only [List.length_cons, List.length_nil, Nat.reduceAdd, V.ids, V.idsL, idsA, entOk, List.all_cons, List.all_nil, Bool.and_self, Bool.and_true, Bool.true_and, ltB, noId, Nat.reduceLT, decide_true, Bool.true_eq_false, tyV_id, fdV_id, tyL_id, fdL_id, exL_id, vaL_id, exV_id, vaV_id]) | refine WkF.tu ?_ | refine WkF.ag ?_ | refine WkFL.cons ?_ ?_ | exact WkFL.nil)
theorem c_typeOfR (vs : List Va) (hv : vs.length ≤ 4194304) (s : ByteArray) : PC Try.prog 80 [(V.sl (vs.map vaV) .ro), .im (.string s)] (tyV (tyOf vs s)) := by
  refine PC.enter 25 Try.func80 rfl (by decide) rfl rfl (s := [(0, (V.sl (vs.map vaV) .ro)), (1, .im (.string s))]) (by rfl) ?_
  refine w80 True.intro ?_
  refine AWp.loop ?_
  refine ALp.cutP 1 [(0, (V.sl (vs.map vaV) .ro)), (1, .im (.string s)), (4, .pt 0 0), (5, (.im (.int .i64 ((((0 : Nat)) : Int)))))] [.box [.im (.int .i64 0), .im (.int .i64 0), .im (.int .i64 0), .sl [] .nl, .sl [] .nl]] (And.intro (@exL_id) (And.intro (@vaL_id) (And.intro (@exV_id) @vaV_id))) ?_
  refine ALp.upto vs.length (AllTo (fun x => !eqS x.name s) vs) (fun m => ⟨dn 25 [(0, (V.sl (vs.map vaV) .ro)), (1, .im (.string s)), (4, .pt 0 0), (5, (.im (.int .i64 ((((m : Nat)) : Int)))))], ofl [.box [.im (.int .i64 0), .im (.int .i64 0), .im (.int .i64 0), .sl [] .nl, .sl [] .nl]]⟩) ?_ 0 (Nat.zero_le _) (AllTo.zero _ _)
  intro m hm hI hnext
  by_cases hlt : m < vs.length
  · have hlt' : (m : Int) < (vs.length : Int) := by omega
    have hg := get_some hlt
    have hm1 := wrap_succ hlt (by omega)
    cases b : eqS vs[m].name s with
    | true =>
      have b' : (vs[m].name.toList == s.toList) = true := b
      rw [tyOf_some hlt hI b]
      refine w80 (And.intro hlt' (And.intro hg (And.intro hm1 b'))) ?_
      refine Fin.gen0 (rs := [.cell 4 25]) rfl (by first | exact .inl rfl | exact .inr rfl) (by simp only [resX, resA, ↓accU_f, ↓reduceIte, SA, SB, SC, SD, T80, valG, fpsG, evO, evB, evA, evA1, nilK, eqF, eqC, apOk, intOf, slB, slK,  gd, St.ev, putA, ofl, wrl, putE, V.ofVal, V.ofCell, bin2, un1, seg, fillV, partsOk, Value.oneCell', Nat.reduceBEq, Nat.reduceLT, Nat.reduceSub, Nat.reduceAdd, Nat.reduceMul, Nat.reduceLeDiff, Nat.reduceEqDiff, reduceCtorEq, Int.reduceLT, Int.reduceLE, Int.reduceEq, Int.reduceNe, Int.reduceBEq, Int.reduceBNe, Int.reduceAdd, Int.reduceSub, Int.reduceMul, Int.reduceToNat]; with_reducible exact rfl) ?_
      simp only [tyV_eq]
      repeat (first | exact WkF.of (Wk.refl _) (by first | rfl | simp only [List.length_cons, List.length_nil, Nat.reduceAdd, V.ids, V.idsL, idsA, entOk, List.all_cons, List.all_nil, Bool.and_self, Bool.and_true, Bool.true_and, ltB, noId, Nat.reduceLT, decide_true, Bool.true_eq_false, tyV_id, fdV_id, tyL_id, fdL_id, exL_id, vaL_id, exV_id, vaV_id]) | exact WkF.of (Wk.ro _ _) (by first | rfl | simp only [List.length_cons, List.length_nil, Nat.reduceAdd, V.ids, V.idsL, idsA, entOk, List.all_cons, List.all_nil, Bool.and_self, Bool.and_true, Bool.true_and, ltB, noId, Nat.reduceLT, decide_true, Bool.true_eq_false, tyV_id, fdV_id, tyL_id, fdL_id, exL_id, vaL_id, exV_id, vaV_id]) | refine WkF.tu ?_ | refine WkF.ag ?_ | refine WkFL.cons ?_ ?_ | exact WkFL.nil)
    | false =>
      have b' : (vs[m].name.toList == s.toList) = false := b
      refine w80 (And.intro hlt' (And.intro hg (And.intro hm1 b'))) ?_
      refine ALp.cutP 1 [(0, (V.sl (vs.map vaV) .ro)), (1, .im (.string s)), (4, .pt 0 0), (5, (.im (.int .i64 ((((m + 1 : Nat)) : Int)))))] [.box [.im (.int .i64 0), .im (.int .i64 0), .im (.int .i64 0), .sl [] .nl, .sl [] .nl]] (And.intro (@exL_id) (And.intro (@vaL_id) (And.intro (@exV_id) @vaV_id))) ?_
      exact hnext (m + 1) (by omega) (by omega) (hI.succ hlt (by rw [b]; rfl))
  · obtain rfl : m = vs.length := by omega
    have hlt' : ¬ (vs.length : Int) < (vs.length : Int) := by omega
    clear hnext
    rw [tyOf_none hI]
    refine w80 hlt' ?_
    refine Fin.gen0 (rs := [.cell 4 25]) rfl (by first | exact .inl rfl | exact .inr rfl) (by simp only [resX, resA, ↓accU_f, ↓reduceIte, SA, SB, SC, SD, T80, valG, fpsG, evO, evB, evA, evA1, nilK, eqF, eqC, apOk, intOf, slB, slK,  gd, St.ev, putA, ofl, wrl, putE, V.ofVal, V.ofCell, bin2, un1, seg, fillV, partsOk, Value.oneCell', Nat.reduceBEq, Nat.reduceLT, Nat.reduceSub, Nat.reduceAdd, Nat.reduceMul, Nat.reduceLeDiff, Nat.reduceEqDiff, reduceCtorEq, Int.reduceLT, Int.reduceLE, Int.reduceEq, Int.reduceNe, Int.reduceBEq, Int.reduceBNe, Int.reduceAdd, Int.reduceSub, Int.reduceMul, Int.reduceToNat]; with_reducible exact rfl) ?_
    simp only [tz, tyV_mk, List.map_nil]
    repeat (first | exact WkF.of (Wk.refl _) (by first | rfl | simp only [List.length_cons, List.length_nil, Nat.reduceAdd, V.ids, V.idsL, idsA, entOk, List.all_cons, List.all_nil, Bool.and_self, Bool.and_true, Bool.true_and, ltB, noId, Nat.reduceLT, decide_true, Bool.true_eq_false, tyV_id, fdV_id, tyL_id, fdL_id, exL_id, vaL_id, exV_id, vaV_id]) | exact WkF.of (Wk.ro _ _) (by first | rfl | simp only [List.length_cons, List.length_nil, Nat.reduceAdd, V.ids, V.idsL, idsA, entOk, List.all_cons, List.all_nil, Bool.and_self, Bool.and_true, Bool.true_and, ltB, noId, Nat.reduceLT, decide_true, Bool.true_eq_false, tyV_id, fdV_id, tyL_id, fdL_id, exL_id, vaL_id, exV_id, vaV_id]) | refine WkF.tu ?_ | refine WkF.ag ?_ | refine WkFL.cons ?_ ?_ | exact WkFL.nil)
end Go.Proofs.Ytfggemopnlffeaa

