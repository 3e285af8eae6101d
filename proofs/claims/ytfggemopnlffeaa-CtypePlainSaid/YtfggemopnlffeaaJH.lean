/- Walks: what a load through a pointer finds. Walks: the type of an expression. Walks: Expr of the reference. -/
import Derived.Test.YtfggemopnlffeaaHv
import Derived.Test.YtfggemopnlffeaaJG
import Derived.Test.YtfggemopnlffeaaBJ
namespace Go.Proofs.Ytfggemopnlffeaa
set_option linter.unusedSimpArgs false
set_option linter.unusedVariables false
set_option linter.unnecessarySimpa false
open Go.RowKit
/-- What a load of w bytes through e finds; whether e goes through a pointer. -/
def fnd (vs : List Va) (e : Ex) (w : Int) : Ty × Bool :=
  if (thr e).2.2 && (tyOf vs (thr e).1).kind == 3 then
    (if good (tyOf vs (thr e).1) then (fieldA ((tyOf vs (thr e).1).elem.headD tz) (thr e).2.1 w).getD tz else tz, true)
  else (tz, false)
theorem Y75_BO : type_of% (And.intro @F_ag_22 (And.intro @F_ag_25 (And.intro @F_ag_3 (And.intro @F_ag_34 (And.intro @F_al_25 (And.intro @F_el_22 (And.intro @F_fl_25_0 (And.intro @F_fl_25_3 (And.intro @F_st_25 (And.intro @F_sz_22 (And.intro @F_sz_25 (And.intro @F_sz_3 (@F_sz_34))))))))))))) := And.intro @F_ag_22 (And.intro @F_ag_25 (And.intro @F_ag_3 (And.intro @F_ag_34 (And.intro @F_al_25 (And.intro @F_el_22 (And.intro @F_fl_25_0 (And.intro @F_fl_25_3 (And.intro @F_st_25 (And.intro @F_sz_22 (And.intro @F_sz_25 (And.intro @F_sz_3 (@F_sz_34))))))))))))
theorem G75_BO : type_of% (And.intro (@tyV_firm) (And.intro (@fdV_firm) (And.intro (@tyV_strip) (And.intro (@fdV_strip) (And.intro (@tyV_live) (And.intro (@tyV_size) (And.intro (@tyV_isAg) (And.intro (@tyV_cells) (And.intro (@fdV_live) (And.intro (@fdV_size) (And.intro (@fdV_isAg) (And.intro (@fdV_cells) (And.intro (@List.getElem?_map.{0, 0}) @Int.natCast_nonneg))))))))))))) := (And.intro (@tyV_firm) (And.intro (@fdV_firm) (And.intro (@tyV_strip) (And.intro (@fdV_strip) (And.intro (@tyV_live) (And.intro (@tyV_size) (And.intro (@tyV_isAg) (And.intro (@tyV_cells) (And.intro (@fdV_live) (And.intro (@fdV_size) (And.intro (@fdV_isAg) (And.intro (@fdV_cells) (And.intro (@List.getElem?_map.{0, 0}) @Int.natCast_nonneg)))))))))))))
theorem c_found (vs : List Va) (hv : fitV vs) (e : Ex) (hf : efm e = true) : PC Try.prog 75 [exV e, (V.sl (vs.map vaV) .ro)] (.tu [tyV (fnd vs e 4).1, (.im (.bool ((fnd vs e 4).2)))]) := by
  have h1 := c_through e hf
  have hi := thr_I64 e
  unfold fnd
  obtain ⟨⟨nm, off, ok⟩, ht⟩ : ∃ x, thr e = x := ⟨_, rfl⟩
  rw [ht] at h1 hi
  rw [ht]
  simp only at h1 hi ⊢
  have h2 := c_typeOf vs hv.1 nm
  have hft := fit_tyOf hv nm
  generalize tyOf vs nm = t at h2 hft ⊢
  have h3 := c_check t hft
  refine PC.enter 42 Try.func75 rfl (by decide) rfl rfl (s := [(0, exV e), (1, (V.sl (vs.map vaV) .ro))]) (by rfl) ?_
  simp only [exV_eq]
  cases ok with
  | false =>
    simp only [Bool.false_and, Bool.false_eq_true, if_false]
    refine wG Y75_BO @G75_BO ?_
    refine AR.callP h1 @exV_eq (And.intro (@exL_id) (And.intro (@vaL_id) (And.intro (@exV_id) @vaV_id))) ?_
    refine goG Y75_BO @G75_BO ?_
    refine wG Y75_BO @G75_BO ?_
    refine Fin.gen0 (rs := [.cell 4 25, .tmp 5]) rfl (by first | exact .inl rfl | exact .inr rfl) (by simp only [resX, resA, ↓accU_f, ↓reduceIte, SA, SB, SC, SD, Y75_BO, valG, fpsG, evO, evB, evA, evA1, nilK, eqF, eqC, apOk, intOf, slB, slK,  gd, St.ev, putA, ofl, wrl, putE, V.ofVal, V.ofCell, bin2, un1, seg, fillV, partsOk, Value.oneCell', Nat.reduceBEq, Nat.reduceLT, Nat.reduceSub, Nat.reduceAdd, Nat.reduceMul, Nat.reduceLeDiff, Nat.reduceEqDiff, reduceCtorEq, Int.reduceLT, Int.reduceLE, Int.reduceEq, Int.reduceNe, Int.reduceBEq, Int.reduceBNe, Int.reduceAdd, Int.reduceSub, Int.reduceMul, Int.reduceToNat]; with_reducible exact rfl) ?_
    simp only [tz, tyV_mk, List.map_nil]
    repeat (first | exact WkF.of (Wk.refl _) (by first | rfl | simp only [List.length_cons, List.length_nil, Nat.reduceAdd, V.ids, V.idsL, idsA, entOk, List.all_cons, List.all_nil, Bool.and_self, Bool.and_true, Bool.true_and, ltB, noId, Nat.reduceLT, decide_true, Bool.true_eq_false, tyV_id, fdV_id, tyL_id, fdL_id, exL_id, vaL_id, exV_id, vaV_id]) | exact WkF.of (Wk.ro _ _) (by first | rfl | simp only [List.length_cons, List.length_nil, Nat.reduceAdd, V.ids, V.idsL, idsA, entOk, List.all_cons, List.all_nil, Bool.and_self, Bool.and_true, Bool.true_and, ltB, noId, Nat.reduceLT, decide_true, Bool.true_eq_false, tyV_id, fdV_id, tyL_id, fdL_id, exL_id, vaL_id, exV_id, vaV_id]) | refine WkF.tu ?_ | refine WkF.ag ?_ | refine WkFL.cons ?_ ?_ | exact WkFL.nil)
  | true =>
  refine wG Y75_BO @G75_BO ?_
  refine AR.callP h1 @exV_eq (And.intro (@exL_id) (And.intro (@vaL_id) (And.intro (@exV_id) @vaV_id))) ?_
  refine goG Y75_BO @G75_BO ?_
  refine wG Y75_BO @G75_BO ?_
  refine AR.callP h2 True.intro (And.intro (@exL_id) (And.intro (@vaL_id) (And.intro (@exV_id) @vaV_id))) ?_
  by_cases hk : t.kind = 3
  case neg =>
    have e3 : (true && t.kind == 3) = false := by simp [hk]
    rw [e3]
    simp only [Bool.false_eq_true, if_false]
    refine goG Y75_BO @G75_BO ?_
    refine wG Y75_BO (And.intro (@G75_BO) hk) ?_
    refine Fin.gen0 (rs := [.cell 4 25, .tmp 5]) rfl (by first | exact .inl rfl | exact .inr rfl) (by simp only [resX, resA, ↓accU_f, ↓reduceIte, SA, SB, SC, SD, Y75_BO, valG, fpsG, evO, evB, evA, evA1, nilK, eqF, eqC, apOk, intOf, slB, slK,  gd, St.ev, putA, ofl, wrl, putE, V.ofVal, V.ofCell, bin2, un1, seg, fillV, partsOk, Value.oneCell', Nat.reduceBEq, Nat.reduceLT, Nat.reduceSub, Nat.reduceAdd, Nat.reduceMul, Nat.reduceLeDiff, Nat.reduceEqDiff, reduceCtorEq, Int.reduceLT, Int.reduceLE, Int.reduceEq, Int.reduceNe, Int.reduceBEq, Int.reduceBNe, Int.reduceAdd, Int.reduceSub, Int.reduceMul, Int.reduceToNat]; with_reducible exact rfl) ?_
    simp only [tz, tyV_mk, List.map_nil]
    repeat (first | exact WkF.of (Wk.refl _) (by first | rfl | simp only [List.length_cons, List.length_nil, Nat.reduceAdd, V.ids, V.idsL, idsA, entOk, List.all_cons, List.all_nil, Bool.and_self, Bool.and_true, Bool.true_and, ltB, noId, Nat.reduceLT, decide_true, Bool.true_eq_false, tyV_id, fdV_id, tyL_id, fdL_id, exL_id, vaL_id, exV_id, vaV_id]) | exact WkF.of (Wk.ro _ _) (by first | rfl | simp only [List.length_cons, List.length_nil, Nat.reduceAdd, V.ids, V.idsL, idsA, entOk, List.all_cons, List.all_nil, Bool.and_self, Bool.and_true, Bool.true_and, ltB, noId, Nat.reduceLT, decide_true, Bool.true_eq_false, tyV_id, fdV_id, tyL_id, fdL_id, exL_id, vaL_id, exV_id, vaV_id]) | refine WkF.tu ?_ | refine WkF.ag ?_ | refine WkFL.cons ?_ ?_ | exact WkFL.nil)
  have e3 : (true && t.kind == 3) = true := by simp [hk]
  rw [e3]
  simp only [if_true]
  cases hg : good t with
  | false =>
    have cb := bad_chk hg
    simp only [Bool.false_eq_true, if_false]
    refine goG Y75_BO @G75_BO ?_
    refine wG Y75_BO (And.intro (@G75_BO) hk) ?_
    refine AR.callP h3 (And.intro (@tyV_eq) hk) (And.intro (@exL_id) (And.intro (@vaL_id) (And.intro (@exV_id) @vaV_id))) ?_
    refine goG Y75_BO (And.intro (@G75_BO) cb) ?_
    refine wG Y75_BO @G75_BO ?_
    refine Fin.gen0 (rs := [.cell 4 25, .tmp 5]) rfl (by first | exact .inl rfl | exact .inr rfl) (by simp only [resX, resA, ↓accU_f, ↓reduceIte, SA, SB, SC, SD, Y75_BO, valG, fpsG, evO, evB, evA, evA1, nilK, eqF, eqC, apOk, intOf, slB, slK,  gd, St.ev, putA, ofl, wrl, putE, V.ofVal, V.ofCell, bin2, un1, seg, fillV, partsOk, Value.oneCell', Nat.reduceBEq, Nat.reduceLT, Nat.reduceSub, Nat.reduceAdd, Nat.reduceMul, Nat.reduceLeDiff, Nat.reduceEqDiff, reduceCtorEq, Int.reduceLT, Int.reduceLE, Int.reduceEq, Int.reduceNe, Int.reduceBEq, Int.reduceBNe, Int.reduceAdd, Int.reduceSub, Int.reduceMul, Int.reduceToNat]; with_reducible exact rfl) ?_
    simp only [tz, tyV_mk, List.map_nil]
    repeat (first | exact WkF.of (Wk.refl _) (by first | rfl | simp only [List.length_cons, List.length_nil, Nat.reduceAdd, V.ids, V.idsL, idsA, entOk, List.all_cons, List.all_nil, Bool.and_self, Bool.and_true, Bool.true_and, ltB, noId, Nat.reduceLT, decide_true, Bool.true_eq_false, tyV_id, fdV_id, tyL_id, fdL_id, exL_id, vaL_id, exV_id, vaV_id]) | exact WkF.of (Wk.ro _ _) (by first | rfl | simp only [List.length_cons, List.length_nil, Nat.reduceAdd, V.ids, V.idsL, idsA, entOk, List.all_cons, List.all_nil, Bool.and_self, Bool.and_true, Bool.true_and, ltB, noId, Nat.reduceLT, decide_true, Bool.true_eq_false, tyV_id, fdV_id, tyL_id, fdL_id, exL_id, vaL_id, exV_id, vaV_id]) | refine WkF.tu ?_ | refine WkF.ag ?_ | refine WkFL.cons ?_ ?_ | exact WkFL.nil)
  | true =>
    have cg := good_chk hg
    obtain ⟨x, hx, hxf⟩ := ptr_elem hg hk
    have hfx := fit_elem hft (x := x) (by rw [hx]; simp)
    have h4 := c_FieldAt x hfx off 4 hi
    simp only [if_true, hx, List.headD_cons]
    refine goG Y75_BO @G75_BO ?_
    refine wG Y75_BO (And.intro (@G75_BO) hk) ?_
    refine AR.callP h3 (And.intro (@tyV_eq) hk) (And.intro (@exL_id) (And.intro (@vaL_id) (And.intro (@exV_id) @vaV_id))) ?_
    refine goG Y75_BO (And.intro (@G75_BO) cg) ?_
    refine wG Y75_BO (And.intro (@G75_BO) hx) ?_
    refine AR.callP h4 @tyV_eq (And.intro (@exL_id) (And.intro (@vaL_id) (And.intro (@exV_id) @vaV_id))) ?_
    refine goG Y75_BO @G75_BO ?_
    refine wG Y75_BO @G75_BO ?_
    refine Fin.gen0 (rs := [.cell 4 25, .tmp 5]) rfl (by first | exact .inl rfl | exact .inr rfl) (by simp only [resX, resA, ↓accU_f, ↓reduceIte, SA, SB, SC, SD, Y75_BO, valG, fpsG, evO, evB, evA, evA1, nilK, eqF, eqC, apOk, intOf, slB, slK,  gd, St.ev, putA, ofl, wrl, putE, V.ofVal, V.ofCell, bin2, un1, seg, fillV, partsOk, Value.oneCell', Nat.reduceBEq, Nat.reduceLT, Nat.reduceSub, Nat.reduceAdd, Nat.reduceMul, Nat.reduceLeDiff, Nat.reduceEqDiff, reduceCtorEq, Int.reduceLT, Int.reduceLE, Int.reduceEq, Int.reduceNe, Int.reduceBEq, Int.reduceBNe, Int.reduceAdd, Int.reduceSub, Int.reduceMul, Int.reduceToNat]; with_reducible exact rfl) ?_
    simp only [tyV_eq]
    repeat (first | exact WkF.of (Wk.refl _) (by first | rfl | simp only [List.length_cons, List.length_nil, Nat.reduceAdd, V.ids, V.idsL, idsA, entOk, List.all_cons, List.all_nil, Bool.and_self, Bool.and_true, Bool.true_and, ltB, noId, Nat.reduceLT, decide_true, Bool.true_eq_false, tyV_id, fdV_id, tyL_id, fdL_id, exL_id, vaL_id, exV_id, vaV_id]) | exact WkF.of (Wk.ro _ _) (by first | rfl | simp only [List.length_cons, List.length_nil, Nat.reduceAdd, V.ids, V.idsL, idsA, entOk, List.all_cons, List.all_nil, Bool.and_self, Bool.and_true, Bool.true_and, ltB, noId, Nat.reduceLT, decide_true, Bool.true_eq_false, tyV_id, fdV_id, tyL_id, fdL_id, exL_id, vaL_id, exV_id, vaV_id]) | refine WkF.tu ?_ | refine WkF.ag ?_ | refine WkFL.cons ?_ ?_ | exact WkFL.nil)
theorem Y81_BO : type_of% (And.intro @F_ag_22 (And.intro @F_ag_25 (And.intro @F_ag_3 (And.intro @F_ag_34 (And.intro @F_al_25 (And.intro @F_el_22 (And.intro @F_fl_25_0 (And.intro @F_fl_25_3 (And.intro @F_st_25 (And.intro @F_sz_22 (And.intro @F_sz_25 (And.intro @F_sz_3 (@F_sz_34))))))))))))) := And.intro @F_ag_22 (And.intro @F_ag_25 (And.intro @F_ag_3 (And.intro @F_ag_34 (And.intro @F_al_25 (And.intro @F_el_22 (And.intro @F_fl_25_0 (And.intro @F_fl_25_3 (And.intro @F_st_25 (And.intro @F_sz_22 (And.intro @F_sz_25 (And.intro @F_sz_3 (@F_sz_34))))))))))))
theorem G81_BO : type_of% (And.intro (@tyV_firm) (And.intro (@fdV_firm) (And.intro (@tyV_strip) (And.intro (@fdV_strip) (And.intro (@tyV_live) (And.intro (@tyV_size) (And.intro (@tyV_isAg) (And.intro (@tyV_cells) (And.intro (@fdV_live) (And.intro (@fdV_size) (And.intro (@fdV_isAg) (And.intro (@fdV_cells) (And.intro (@List.getElem?_map.{0, 0}) @Int.natCast_nonneg))))))))))))) := (And.intro (@tyV_firm) (And.intro (@fdV_firm) (And.intro (@tyV_strip) (And.intro (@fdV_strip) (And.intro (@tyV_live) (And.intro (@tyV_size) (And.intro (@tyV_isAg) (And.intro (@tyV_cells) (And.intro (@fdV_live) (And.intro (@fdV_size) (And.intro (@fdV_isAg) (And.intro (@fdV_cells) (And.intro (@List.getElem?_map.{0, 0}) @Int.natCast_nonneg)))))))))))))
theorem c_foundR (vs : List Va) (hv : fitV vs) (e : Ex) (hf : efm e = true) (w : Int) : PC Try.prog 81 [exV e, (.im (.int .i64 (w))), (V.sl (vs.map vaV) .ro)] (.tu [tyV (fnd vs e w).1, (.im (.bool ((fnd vs e w).2)))]) := by
  have h1 := c_throughR e hf
  have hi := thr_I64 e
  unfold fnd
  obtain ⟨⟨nm, off, ok⟩, ht⟩ : ∃ x, thr e = x := ⟨_, rfl⟩
  rw [ht] at h1 hi
  rw [ht]
  simp only at h1 hi ⊢
  have h2 := c_typeOfR vs hv.1 nm
  have hft := fit_tyOf hv nm
  generalize tyOf vs nm = t at h2 hft ⊢
  have h3 := c_checkR t hft
  refine PC.enter 48 Try.func81 rfl (by decide) rfl rfl (s := [(0, exV e), (1, (.im (.int .i64 (w)))), (2, (V.sl (vs.map vaV) .ro))]) (by rfl) ?_
  simp only [exV_eq]
  cases ok with
  | false =>
    simp only [Bool.false_and, Bool.false_eq_true, if_false]
    refine wG Y81_BO @G81_BO ?_
    refine AR.callP h1 @exV_eq (And.intro (@exL_id) (And.intro (@vaL_id) (And.intro (@exV_id) @vaV_id))) ?_
    refine goG Y81_BO @G81_BO ?_
    refine wG Y81_BO @G81_BO ?_
    refine Fin.gen0 (rs := [.cell 6 25, .tmp 7]) rfl (by first | exact .inl rfl | exact .inr rfl) (by simp only [resX, resA, ↓accU_f, ↓reduceIte, SA, SB, SC, SD, Y81_BO, valG, fpsG, evO, evB, evA, evA1, nilK, eqF, eqC, apOk, intOf, slB, slK,  gd, St.ev, putA, ofl, wrl, putE, V.ofVal, V.ofCell, bin2, un1, seg, fillV, partsOk, Value.oneCell', Nat.reduceBEq, Nat.reduceLT, Nat.reduceSub, Nat.reduceAdd, Nat.reduceMul, Nat.reduceLeDiff, Nat.reduceEqDiff, reduceCtorEq, Int.reduceLT, Int.reduceLE, Int.reduceEq, Int.reduceNe, Int.reduceBEq, Int.reduceBNe, Int.reduceAdd, Int.reduceSub, Int.reduceMul, Int.reduceToNat]; with_reducible exact rfl) ?_
    simp only [tz, tyV_mk, List.map_nil]
    repeat (first | exact WkF.of (Wk.refl _) (by first | rfl | simp only [List.length_cons, List.length_nil, Nat.reduceAdd, V.ids, V.idsL, idsA, entOk, List.all_cons, List.all_nil, Bool.and_self, Bool.and_true, Bool.true_and, ltB, noId, Nat.reduceLT, decide_true, Bool.true_eq_false, tyV_id, fdV_id, tyL_id, fdL_id, exL_id, vaL_id, exV_id, vaV_id]) | exact WkF.of (Wk.ro _ _) (by first | rfl | simp only [List.length_cons, List.length_nil, Nat.reduceAdd, V.ids, V.idsL, idsA, entOk, List.all_cons, List.all_nil, Bool.and_self, Bool.and_true, Bool.true_and, ltB, noId, Nat.reduceLT, decide_true, Bool.true_eq_false, tyV_id, fdV_id, tyL_id, fdL_id, exL_id, vaL_id, exV_id, vaV_id]) | refine WkF.tu ?_ | refine WkF.ag ?_ | refine WkFL.cons ?_ ?_ | exact WkFL.nil)
  | true =>
  refine wG Y81_BO @G81_BO ?_
  refine AR.callP h1 @exV_eq (And.intro (@exL_id) (And.intro (@vaL_id) (And.intro (@exV_id) @vaV_id))) ?_
  refine goG Y81_BO @G81_BO ?_
  refine wG Y81_BO @G81_BO ?_
  refine AR.callP h2 True.intro (And.intro (@exL_id) (And.intro (@vaL_id) (And.intro (@exV_id) @vaV_id))) ?_
  by_cases hk : t.kind = 3
  case neg =>
    have e3 : (true && t.kind == 3) = false := by simp [hk]
    rw [e3]
    simp only [Bool.false_eq_true, if_false]
    refine goG Y81_BO @G81_BO ?_
    refine wG Y81_BO (And.intro (@G81_BO) hk) ?_
    refine Fin.gen0 (rs := [.cell 6 25, .tmp 7]) rfl (by first | exact .inl rfl | exact .inr rfl) (by simp only [resX, resA, ↓accU_f, ↓reduceIte, SA, SB, SC, SD, Y81_BO, valG, fpsG, evO, evB, evA, evA1, nilK, eqF, eqC, apOk, intOf, slB, slK,  gd, St.ev, putA, ofl, wrl, putE, V.ofVal, V.ofCell, bin2, un1, seg, fillV, partsOk, Value.oneCell', Nat.reduceBEq, Nat.reduceLT, Nat.reduceSub, Nat.reduceAdd, Nat.reduceMul, Nat.reduceLeDiff, Nat.reduceEqDiff, reduceCtorEq, Int.reduceLT, Int.reduceLE, Int.reduceEq, Int.reduceNe, Int.reduceBEq, Int.reduceBNe, Int.reduceAdd, Int.reduceSub, Int.reduceMul, Int.reduceToNat]; with_reducible exact rfl) ?_
    simp only [tz, tyV_mk, List.map_nil]
    repeat (first | exact WkF.of (Wk.refl _) (by first | rfl | simp only [List.length_cons, List.length_nil, Nat.reduceAdd, V.ids, V.idsL, idsA, entOk, List.all_cons, List.all_nil, Bool.and_self, Bool.and_true, Bool.true_and, ltB, noId, Nat.reduceLT, decide_true, Bool.true_eq_false, tyV_id, fdV_id, tyL_id, fdL_id, exL_id, vaL_id, exV_id, vaV_id]) | exact WkF.of (Wk.ro _ _) (by first | rfl | simp only [List.length_cons, List.length_nil, Nat.reduceAdd, V.ids, V.idsL, idsA, entOk, List.all_cons, List.all_nil, Bool.and_self, Bool.and_true, Bool.true_and, ltB, noId, Nat.reduceLT, decide_true, Bool.true_eq_false, tyV_id, fdV_id, tyL_id, fdL_id, exL_id, vaL_id, exV_id, vaV_id]) | refine WkF.tu ?_ | refine WkF.ag ?_ | refine WkFL.cons ?_ ?_ | exact WkFL.nil)
  have e3 : (true && t.kind == 3) = true := by simp [hk]
  rw [e3]
  simp only [if_true]
  cases hg : good t with
  | false =>
    have cb := bad_chk hg
    simp only [Bool.false_eq_true, if_false]
    refine goG Y81_BO @G81_BO ?_
    refine wG Y81_BO (And.intro (@G81_BO) hk) ?_
    refine AR.callP h3 (And.intro (@tyV_eq) hk) (And.intro (@exL_id) (And.intro (@vaL_id) (And.intro (@exV_id) @vaV_id))) ?_
    refine goG Y81_BO (And.intro (@G81_BO) cb) ?_
    refine wG Y81_BO @G81_BO ?_
    refine Fin.gen0 (rs := [.cell 6 25, .tmp 7]) rfl (by first | exact .inl rfl | exact .inr rfl) (by simp only [resX, resA, ↓accU_f, ↓reduceIte, SA, SB, SC, SD, Y81_BO, valG, fpsG, evO, evB, evA, evA1, nilK, eqF, eqC, apOk, intOf, slB, slK,  gd, St.ev, putA, ofl, wrl, putE, V.ofVal, V.ofCell, bin2, un1, seg, fillV, partsOk, Value.oneCell', Nat.reduceBEq, Nat.reduceLT, Nat.reduceSub, Nat.reduceAdd, Nat.reduceMul, Nat.reduceLeDiff, Nat.reduceEqDiff, reduceCtorEq, Int.reduceLT, Int.reduceLE, Int.reduceEq, Int.reduceNe, Int.reduceBEq, Int.reduceBNe, Int.reduceAdd, Int.reduceSub, Int.reduceMul, Int.reduceToNat]; with_reducible exact rfl) ?_
    simp only [tz, tyV_mk, List.map_nil]
    repeat (first | exact WkF.of (Wk.refl _) (by first | rfl | simp only [List.length_cons, List.length_nil, Nat.reduceAdd, V.ids, V.idsL, idsA, entOk, List.all_cons, List.all_nil, Bool.and_self, Bool.and_true, Bool.true_and, ltB, noId, Nat.reduceLT, decide_true, Bool.true_eq_false, tyV_id, fdV_id, tyL_id, fdL_id, exL_id, vaL_id, exV_id, vaV_id]) | exact WkF.of (Wk.ro _ _) (by first | rfl | simp only [List.length_cons, List.length_nil, Nat.reduceAdd, V.ids, V.idsL, idsA, entOk, List.all_cons, List.all_nil, Bool.and_self, Bool.and_true, Bool.true_and, ltB, noId, Nat.reduceLT, decide_true, Bool.true_eq_false, tyV_id, fdV_id, tyL_id, fdL_id, exL_id, vaL_id, exV_id, vaV_id]) | refine WkF.tu ?_ | refine WkF.ag ?_ | refine WkFL.cons ?_ ?_ | exact WkFL.nil)
  | true =>
    have cg := good_chk hg
    obtain ⟨x, hx, hxf⟩ := ptr_elem hg hk
    have hfx := fit_elem hft (x := x) (by rw [hx]; simp)
    have h4 := c_FieldAtR x hfx off w hi
    simp only [if_true, hx, List.headD_cons]
    refine goG Y81_BO @G81_BO ?_
    refine wG Y81_BO (And.intro (@G81_BO) hk) ?_
    refine AR.callP h3 (And.intro (@tyV_eq) hk) (And.intro (@exL_id) (And.intro (@vaL_id) (And.intro (@exV_id) @vaV_id))) ?_
    refine goG Y81_BO (And.intro (@G81_BO) cg) ?_
    refine wG Y81_BO (And.intro (@G81_BO) hx) ?_
    cases b : fieldA x off w with
    | none =>
      rw [b] at h4
      simp only [Option.getD_none, Option.isSome_none] at h4 ⊢
      refine AR.callP h4 @tyV_eq (And.intro (@exL_id) (And.intro (@vaL_id) (And.intro (@exV_id) @vaV_id))) ?_
      refine goG Y81_BO @G81_BO ?_
      refine wG Y81_BO @G81_BO ?_
      refine Fin.gen0 (rs := [.cell 6 25, .tmp 7]) rfl (by first | exact .inl rfl | exact .inr rfl) (by simp only [resX, resA, ↓accU_f, ↓reduceIte, SA, SB, SC, SD, Y81_BO, valG, fpsG, evO, evB, evA, evA1, nilK, eqF, eqC, apOk, intOf, slB, slK,  gd, St.ev, putA, ofl, wrl, putE, V.ofVal, V.ofCell, bin2, un1, seg, fillV, partsOk, Value.oneCell', Nat.reduceBEq, Nat.reduceLT, Nat.reduceSub, Nat.reduceAdd, Nat.reduceMul, Nat.reduceLeDiff, Nat.reduceEqDiff, reduceCtorEq, Int.reduceLT, Int.reduceLE, Int.reduceEq, Int.reduceNe, Int.reduceBEq, Int.reduceBNe, Int.reduceAdd, Int.reduceSub, Int.reduceMul, Int.reduceToNat]; with_reducible exact rfl) ?_
      simp only [tz, tyV_mk, List.map_nil]
      repeat (first | exact WkF.of (Wk.refl _) (by first | rfl | simp only [List.length_cons, List.length_nil, Nat.reduceAdd, V.ids, V.idsL, idsA, entOk, List.all_cons, List.all_nil, Bool.and_self, Bool.and_true, Bool.true_and, ltB, noId, Nat.reduceLT, decide_true, Bool.true_eq_false, tyV_id, fdV_id, tyL_id, fdL_id, exL_id, vaL_id, exV_id, vaV_id]) | exact WkF.of (Wk.ro _ _) (by first | rfl | simp only [List.length_cons, List.length_nil, Nat.reduceAdd, V.ids, V.idsL, idsA, entOk, List.all_cons, List.all_nil, Bool.and_self, Bool.and_true, Bool.true_and, ltB, noId, Nat.reduceLT, decide_true, Bool.true_eq_false, tyV_id, fdV_id, tyL_id, fdL_id, exL_id, vaL_id, exV_id, vaV_id]) | refine WkF.tu ?_ | refine WkF.ag ?_ | refine WkFL.cons ?_ ?_ | exact WkFL.nil)
    | some y =>
      rw [b] at h4
      simp only [Option.getD_some, Option.isSome_some] at h4 ⊢
      refine AR.callP h4 @tyV_eq (And.intro (@exL_id) (And.intro (@vaL_id) (And.intro (@exV_id) @vaV_id))) ?_
      refine goG Y81_BO @G81_BO ?_
      refine wG Y81_BO @G81_BO ?_
      refine Fin.gen0 (rs := [.cell 6 25, .tmp 7]) rfl (by first | exact .inl rfl | exact .inr rfl) (by simp only [resX, resA, ↓accU_f, ↓reduceIte, SA, SB, SC, SD, Y81_BO, valG, fpsG, evO, evB, evA, evA1, nilK, eqF, eqC, apOk, intOf, slB, slK,  gd, St.ev, putA, ofl, wrl, putE, V.ofVal, V.ofCell, bin2, un1, seg, fillV, partsOk, Value.oneCell', Nat.reduceBEq, Nat.reduceLT, Nat.reduceSub, Nat.reduceAdd, Nat.reduceMul, Nat.reduceLeDiff, Nat.reduceEqDiff, reduceCtorEq, Int.reduceLT, Int.reduceLE, Int.reduceEq, Int.reduceNe, Int.reduceBEq, Int.reduceBNe, Int.reduceAdd, Int.reduceSub, Int.reduceMul, Int.reduceToNat]; with_reducible exact rfl) ?_
      simp only [tyV_eq]
      repeat (first | exact WkF.of (Wk.refl _) (by first | rfl | simp only [List.length_cons, List.length_nil, Nat.reduceAdd, V.ids, V.idsL, idsA, entOk, List.all_cons, List.all_nil, Bool.and_self, Bool.and_true, Bool.true_and, ltB, noId, Nat.reduceLT, decide_true, Bool.true_eq_false, tyV_id, fdV_id, tyL_id, fdL_id, exL_id, vaL_id, exV_id, vaV_id]) | exact WkF.of (Wk.ro _ _) (by first | rfl | simp only [List.length_cons, List.length_nil, Nat.reduceAdd, V.ids, V.idsL, idsA, entOk, List.all_cons, List.all_nil, Bool.and_self, Bool.and_true, Bool.true_and, ltB, noId, Nat.reduceLT, decide_true, Bool.true_eq_false, tyV_id, fdV_id, tyL_id, fdL_id, exL_id, vaL_id, exV_id, vaV_id]) | refine WkF.tu ?_ | refine WkF.ag ?_ | refine WkFL.cons ?_ ?_ | exact WkFL.nil)
end Go.Proofs.Ytfggemopnlffeaa
namespace Go.Proofs.Ytfggemopnlffeaa
set_option linter.unusedSimpArgs false
set_option linter.unusedVariables false
set_option linter.unnecessarySimpa false
open Go.RowKit
/-- The type of an expression. -/
def typ (vs : List Va) (e : Ex) : Ty :=
  if e.op == 2 then tyOf vs e.name
  else if e.op == 5 || e.op == 9 || e.op == 10 then .mk 0 2 4 0 [] []
  else if e.op == 11 || e.op == 17 || e.op == 19 then .mk 0 1 4 0 [] []
  else if e.op == 18 && e.width == 4 then (match e.l with | x :: _ => (fnd vs x 4).1 | [] => tz)
  else tz
theorem typ_mk (vs : List Va) (o n : Int) (s : ByteArray) (w : Int) (l : List Ex) : typ vs (.mk o n s w l) = if o == 2 then tyOf vs s
  else if o == 5 || o == 9 || o == 10 then .mk 0 2 4 0 [] []
  else if o == 11 || o == 17 || o == 19 then .mk 0 1 4 0 [] []
  else if o == 18 && w == 4 then (match l with | x :: _ => (fnd vs x 4).1 | [] => tz)
  else tz := rfl
theorem Y40_BP : type_of% (And.intro @F_ag_25 (And.intro @F_ag_3 (And.intro @F_ag_32 (And.intro @F_ag_34 (And.intro @F_ag_9 (And.intro @F_al_25 (And.intro @F_el_32 (And.intro @F_fl_34_0 (And.intro @F_fl_34_2 (And.intro @F_fl_34_3 (And.intro @F_fl_34_4 (And.intro @F_st_25 (And.intro @F_sz_25 (And.intro @F_sz_3 (And.intro @F_sz_32 (And.intro @F_sz_34 (@F_sz_9))))))))))))))))) := And.intro @F_ag_25 (And.intro @F_ag_3 (And.intro @F_ag_32 (And.intro @F_ag_34 (And.intro @F_ag_9 (And.intro @F_al_25 (And.intro @F_el_32 (And.intro @F_fl_34_0 (And.intro @F_fl_34_2 (And.intro @F_fl_34_3 (And.intro @F_fl_34_4 (And.intro @F_st_25 (And.intro @F_sz_25 (And.intro @F_sz_3 (And.intro @F_sz_32 (And.intro @F_sz_34 (@F_sz_9))))))))))))))))
theorem G40_BP : type_of% (And.intro (@tyV_firm) (And.intro (@fdV_firm) (And.intro (@tyV_strip) (And.intro (@fdV_strip) (And.intro (@tyV_live) (And.intro (@tyV_size) (And.intro (@tyV_isAg) (And.intro (@tyV_cells) (And.intro (@fdV_live) (And.intro (@fdV_size) (And.intro (@fdV_isAg) (And.intro (@fdV_cells) (And.intro (@List.getElem?_map.{0, 0}) (And.intro (@Int.natCast_nonneg) (And.intro (@exV_firm) (And.intro (@exV_strip) (And.intro (@exV_live) (And.intro (@exV_size) (And.intro (@exV_isAg) @exV_cells))))))))))))))))))) := (And.intro (@tyV_firm) (And.intro (@fdV_firm) (And.intro (@tyV_strip) (And.intro (@fdV_strip) (And.intro (@tyV_live) (And.intro (@tyV_size) (And.intro (@tyV_isAg) (And.intro (@tyV_cells) (And.intro (@fdV_live) (And.intro (@fdV_size) (And.intro (@fdV_isAg) (And.intro (@fdV_cells) (And.intro (@List.getElem?_map.{0, 0}) (And.intro (@Int.natCast_nonneg) (And.intro (@exV_firm) (And.intro (@exV_strip) (And.intro (@exV_live) (And.intro (@exV_size) (And.intro (@exV_isAg) @exV_cells)))))))))))))))))))
theorem c_typed (vs : List Va) (hv : fitV vs) (e : Ex) (hf : efm e = true) : PC Try.prog 40 [exV e, (V.sl (vs.map vaV) .ro)] (tyV (typ vs e)) := by
  obtain ⟨o, n, s, w, l⟩ := e
  have hfl := hf
  rw [efm_mk, Bool.and_eq_true, List.all_eq_true] at hfl
  have h1 := c_typeOf vs hv.1 s
  refine PC.enter 41 Try.func40 rfl (by decide) rfl rfl (s := [(0, exV (.mk o n s w l)), (1, (V.sl (vs.map vaV) .ro))]) (by rfl) ?_
  simp only [exV_mk]
  rw [typ_mk]
  by_cases h2 : o = 2
  · subst h2
    simp only [Int.reduceBEq, if_true]
    generalize tyOf vs s = t at h1 ⊢
    refine wG Y40_BP @G40_BP ?_
    refine AR.callP h1 True.intro (And.intro (@exL_id) (And.intro (@vaL_id) (And.intro (@exV_id) @vaV_id))) ?_
    refine goG Y40_BP @G40_BP ?_
    refine wG Y40_BP @G40_BP ?_
    refine Fin.gen0 (rs := [.cell 4 25]) rfl (by first | exact .inl rfl | exact .inr rfl) (by simp only [resX, resA, ↓accU_f, ↓reduceIte, SA, SB, SC, SD, Y40_BP, valG, fpsG, evO, evB, evA, evA1, nilK, eqF, eqC, apOk, intOf, slB, slK,  gd, St.ev, putA, ofl, wrl, putE, V.ofVal, V.ofCell, bin2, un1, seg, fillV, partsOk, Value.oneCell', Nat.reduceBEq, Nat.reduceLT, Nat.reduceSub, Nat.reduceAdd, Nat.reduceMul, Nat.reduceLeDiff, Nat.reduceEqDiff, reduceCtorEq, Int.reduceLT, Int.reduceLE, Int.reduceEq, Int.reduceNe, Int.reduceBEq, Int.reduceBNe, Int.reduceAdd, Int.reduceSub, Int.reduceMul, Int.reduceToNat]; with_reducible exact rfl) ?_
    simp only [tyV_eq]
    repeat (first | exact WkF.of (Wk.refl _) (by first | rfl | simp only [List.length_cons, List.length_nil, Nat.reduceAdd, V.ids, V.idsL, idsA, entOk, List.all_cons, List.all_nil, Bool.and_self, Bool.and_true, Bool.true_and, ltB, noId, Nat.reduceLT, decide_true, Bool.true_eq_false, tyV_id, fdV_id, tyL_id, fdL_id, exL_id, vaL_id, exV_id, vaV_id]) | exact WkF.of (Wk.ro _ _) (by first | rfl | simp only [List.length_cons, List.length_nil, Nat.reduceAdd, V.ids, V.idsL, idsA, entOk, List.all_cons, List.all_nil, Bool.and_self, Bool.and_true, Bool.true_and, ltB, noId, Nat.reduceLT, decide_true, Bool.true_eq_false, tyV_id, fdV_id, tyL_id, fdL_id, exL_id, vaL_id, exV_id, vaV_id]) | refine WkF.tu ?_ | refine WkF.ag ?_ | refine WkFL.cons ?_ ?_ | exact WkFL.nil)
  by_cases h5 : o = 5 ∨ o = 9 ∨ o = 10
  · rcases h5 with rfl | rfl | rfl
    all_goals
      simp only [Int.reduceBEq, Bool.or_false, Bool.false_or, Bool.or_true, Bool.true_or, Bool.false_eq_true, if_true, if_false]
      refine wG Y40_BP @G40_BP ?_
      refine Fin.gen0 (rs := [.cell 4 25]) rfl (by first | exact .inl rfl | exact .inr rfl) (by simp only [resX, resA, ↓accU_f, ↓reduceIte, SA, SB, SC, SD, Y40_BP, valG, fpsG, evO, evB, evA, evA1, nilK, eqF, eqC, apOk, intOf, slB, slK,  gd, St.ev, putA, ofl, wrl, putE, V.ofVal, V.ofCell, bin2, un1, seg, fillV, partsOk, Value.oneCell', Nat.reduceBEq, Nat.reduceLT, Nat.reduceSub, Nat.reduceAdd, Nat.reduceMul, Nat.reduceLeDiff, Nat.reduceEqDiff, reduceCtorEq, Int.reduceLT, Int.reduceLE, Int.reduceEq, Int.reduceNe, Int.reduceBEq, Int.reduceBNe, Int.reduceAdd, Int.reduceSub, Int.reduceMul, Int.reduceToNat]; with_reducible exact rfl) ?_
      simp only [tyV_mk, List.map_nil]
      repeat (first | exact WkF.of (Wk.refl _) (by first | rfl | simp only [List.length_cons, List.length_nil, Nat.reduceAdd, V.ids, V.idsL, idsA, entOk, List.all_cons, List.all_nil, Bool.and_self, Bool.and_true, Bool.true_and, ltB, noId, Nat.reduceLT, decide_true, Bool.true_eq_false, tyV_id, fdV_id, tyL_id, fdL_id, exL_id, vaL_id, exV_id, vaV_id]) | exact WkF.of (Wk.ro _ _) (by first | rfl | simp only [List.length_cons, List.length_nil, Nat.reduceAdd, V.ids, V.idsL, idsA, entOk, List.all_cons, List.all_nil, Bool.and_self, Bool.and_true, Bool.true_and, ltB, noId, Nat.reduceLT, decide_true, Bool.true_eq_false, tyV_id, fdV_id, tyL_id, fdL_id, exL_id, vaL_id, exV_id, vaV_id]) | refine WkF.tu ?_ | refine WkF.ag ?_ | refine WkFL.cons ?_ ?_ | exact WkFL.nil)
  by_cases h11 : o = 11 ∨ o = 17 ∨ o = 19
  · rcases h11 with rfl | rfl | rfl
    all_goals
      simp only [Int.reduceBEq, Bool.or_false, Bool.false_or, Bool.or_true, Bool.true_or, Bool.false_eq_true, if_true, if_false]
      refine wG Y40_BP @G40_BP ?_
      refine Fin.gen0 (rs := [.cell 4 25]) rfl (by first | exact .inl rfl | exact .inr rfl) (by simp only [resX, resA, ↓accU_f, ↓reduceIte, SA, SB, SC, SD, Y40_BP, valG, fpsG, evO, evB, evA, evA1, nilK, eqF, eqC, apOk, intOf, slB, slK,  gd, St.ev, putA, ofl, wrl, putE, V.ofVal, V.ofCell, bin2, un1, seg, fillV, partsOk, Value.oneCell', Nat.reduceBEq, Nat.reduceLT, Nat.reduceSub, Nat.reduceAdd, Nat.reduceMul, Nat.reduceLeDiff, Nat.reduceEqDiff, reduceCtorEq, Int.reduceLT, Int.reduceLE, Int.reduceEq, Int.reduceNe, Int.reduceBEq, Int.reduceBNe, Int.reduceAdd, Int.reduceSub, Int.reduceMul, Int.reduceToNat]; with_reducible exact rfl) ?_
      simp only [tyV_mk, List.map_nil]
      repeat (first | exact WkF.of (Wk.refl _) (by first | rfl | simp only [List.length_cons, List.length_nil, Nat.reduceAdd, V.ids, V.idsL, idsA, entOk, List.all_cons, List.all_nil, Bool.and_self, Bool.and_true, Bool.true_and, ltB, noId, Nat.reduceLT, decide_true, Bool.true_eq_false, tyV_id, fdV_id, tyL_id, fdL_id, exL_id, vaL_id, exV_id, vaV_id]) | exact WkF.of (Wk.ro _ _) (by first | rfl | simp only [List.length_cons, List.length_nil, Nat.reduceAdd, V.ids, V.idsL, idsA, entOk, List.all_cons, List.all_nil, Bool.and_self, Bool.and_true, Bool.true_and, ltB, noId, Nat.reduceLT, decide_true, Bool.true_eq_false, tyV_id, fdV_id, tyL_id, fdL_id, exL_id, vaL_id, exV_id, vaV_id]) | refine WkF.tu ?_ | refine WkF.ag ?_ | refine WkFL.cons ?_ ?_ | exact WkFL.nil)
  have k5 : ¬ o = 5 := by omega
  have k9 : ¬ o = 9 := by omega
  have k10 : ¬ o = 10 := by omega
  have k11 : ¬ o = 11 := by omega
  have k17 : ¬ o = 17 := by omega
  have k19 : ¬ o = 19 := by omega
  have e2 : (o == 2) = false := by simp [h2]
  have e5 : (o == 5 || o == 9 || o == 10) = false := by simp [k5, k9, k10]
  have e11 : (o == 11 || o == 17 || o == 19) = false := by simp [k11, k17, k19]
  rw [e2, e5, e11]
  simp only [Bool.false_eq_true, if_false]
  by_cases h18 : o = 18
  case neg =>
    have e18 : (o == 18 && w == 4) = false := by simp [h18]
    rw [e18]
    simp only [Bool.false_eq_true, if_false]
    refine wG Y40_BP (And.intro (@G40_BP) (And.intro h2 (And.intro k5 (And.intro k9 (And.intro k10 (And.intro k11 (And.intro k17 (And.intro k19 h18)))))))) ?_
    refine Fin.gen0 (rs := [.cell 4 25]) rfl (by first | exact .inl rfl | exact .inr rfl) (by simp only [resX, resA, ↓accU_f, ↓reduceIte, SA, SB, SC, SD, Y40_BP, valG, fpsG, evO, evB, evA, evA1, nilK, eqF, eqC, apOk, intOf, slB, slK,  gd, St.ev, putA, ofl, wrl, putE, V.ofVal, V.ofCell, bin2, un1, seg, fillV, partsOk, Value.oneCell', Nat.reduceBEq, Nat.reduceLT, Nat.reduceSub, Nat.reduceAdd, Nat.reduceMul, Nat.reduceLeDiff, Nat.reduceEqDiff, reduceCtorEq, Int.reduceLT, Int.reduceLE, Int.reduceEq, Int.reduceNe, Int.reduceBEq, Int.reduceBNe, Int.reduceAdd, Int.reduceSub, Int.reduceMul, Int.reduceToNat]; with_reducible exact rfl) ?_
    simp only [tz, tyV_mk, List.map_nil]
    repeat (first | exact WkF.of (Wk.refl _) (by first | rfl | simp only [List.length_cons, List.length_nil, Nat.reduceAdd, V.ids, V.idsL, idsA, entOk, List.all_cons, List.all_nil, Bool.and_self, Bool.and_true, Bool.true_and, ltB, noId, Nat.reduceLT, decide_true, Bool.true_eq_false, tyV_id, fdV_id, tyL_id, fdL_id, exL_id, vaL_id, exV_id, vaV_id]) | exact WkF.of (Wk.ro _ _) (by first | rfl | simp only [List.length_cons, List.length_nil, Nat.reduceAdd, V.ids, V.idsL, idsA, entOk, List.all_cons, List.all_nil, Bool.and_self, Bool.and_true, Bool.true_and, ltB, noId, Nat.reduceLT, decide_true, Bool.true_eq_false, tyV_id, fdV_id, tyL_id, fdL_id, exL_id, vaL_id, exV_id, vaV_id]) | refine WkF.tu ?_ | refine WkF.ag ?_ | refine WkFL.cons ?_ ?_ | exact WkFL.nil)
  subst h18
  by_cases hw : w = 4
  case neg =>
    have e18 : ((18 : Int) == 18 && w == 4) = false := by simp [hw]
    rw [e18]
    simp only [Bool.false_eq_true, if_false]
    refine wG Y40_BP (And.intro (@G40_BP) hw) ?_
    refine Fin.gen0 (rs := [.cell 4 25]) rfl (by first | exact .inl rfl | exact .inr rfl) (by simp only [resX, resA, ↓accU_f, ↓reduceIte, SA, SB, SC, SD, Y40_BP, valG, fpsG, evO, evB, evA, evA1, nilK, eqF, eqC, apOk, intOf, slB, slK,  gd, St.ev, putA, ofl, wrl, putE, V.ofVal, V.ofCell, bin2, un1, seg, fillV, partsOk, Value.oneCell', Nat.reduceBEq, Nat.reduceLT, Nat.reduceSub, Nat.reduceAdd, Nat.reduceMul, Nat.reduceLeDiff, Nat.reduceEqDiff, reduceCtorEq, Int.reduceLT, Int.reduceLE, Int.reduceEq, Int.reduceNe, Int.reduceBEq, Int.reduceBNe, Int.reduceAdd, Int.reduceSub, Int.reduceMul, Int.reduceToNat]; with_reducible exact rfl) ?_
    simp only [tz, tyV_mk, List.map_nil]
    repeat (first | exact WkF.of (Wk.refl _) (by first | rfl | simp only [List.length_cons, List.length_nil, Nat.reduceAdd, V.ids, V.idsL, idsA, entOk, List.all_cons, List.all_nil, Bool.and_self, Bool.and_true, Bool.true_and, ltB, noId, Nat.reduceLT, decide_true, Bool.true_eq_false, tyV_id, fdV_id, tyL_id, fdL_id, exL_id, vaL_id, exV_id, vaV_id]) | exact WkF.of (Wk.ro _ _) (by first | rfl | simp only [List.length_cons, List.length_nil, Nat.reduceAdd, V.ids, V.idsL, idsA, entOk, List.all_cons, List.all_nil, Bool.and_self, Bool.and_true, Bool.true_and, ltB, noId, Nat.reduceLT, decide_true, Bool.true_eq_false, tyV_id, fdV_id, tyL_id, fdL_id, exL_id, vaL_id, exV_id, vaV_id]) | refine WkF.tu ?_ | refine WkF.ag ?_ | refine WkFL.cons ?_ ?_ | exact WkFL.nil)
  subst hw
  obtain ⟨x, rfl⟩ := efm_one hf
  have hp := c_found vs hv x (hfl.2 x (by simp))
  have hg0 : (List.map exV [x])[0]? = some (exV x) := rfl
  have hq : (if ((18 : Int) == 18 && (4 : Int) == 4) = true then (match [x] with | x :: _ => (fnd vs x 4).1 | [] => tz) else tz) = (fnd vs x 4).1 := rfl
  rw [hq]
  generalize fnd vs x 4 = q at hp ⊢
  refine wG Y40_BP (And.intro (@G40_BP) hg0) ?_
  refine AR.callP hp @exV_eq (And.intro (@exL_id) (And.intro (@vaL_id) (And.intro (@exV_id) @vaV_id))) ?_
  refine goG Y40_BP @G40_BP ?_
  refine wG Y40_BP @G40_BP ?_
  refine Fin.gen0 (rs := [.cell 4 25]) rfl (by first | exact .inl rfl | exact .inr rfl) (by simp only [resX, resA, ↓accU_f, ↓reduceIte, SA, SB, SC, SD, Y40_BP, valG, fpsG, evO, evB, evA, evA1, nilK, eqF, eqC, apOk, intOf, slB, slK,  gd, St.ev, putA, ofl, wrl, putE, V.ofVal, V.ofCell, bin2, un1, seg, fillV, partsOk, Value.oneCell', Nat.reduceBEq, Nat.reduceLT, Nat.reduceSub, Nat.reduceAdd, Nat.reduceMul, Nat.reduceLeDiff, Nat.reduceEqDiff, reduceCtorEq, Int.reduceLT, Int.reduceLE, Int.reduceEq, Int.reduceNe, Int.reduceBEq, Int.reduceBNe, Int.reduceAdd, Int.reduceSub, Int.reduceMul, Int.reduceToNat]; with_reducible exact rfl) ?_
  simp only [tyV_eq]
  repeat (first | exact WkF.of (Wk.refl _) (by first | rfl | simp only [List.length_cons, List.length_nil, Nat.reduceAdd, V.ids, V.idsL, idsA, entOk, List.all_cons, List.all_nil, Bool.and_self, Bool.and_true, Bool.true_and, ltB, noId, Nat.reduceLT, decide_true, Bool.true_eq_false, tyV_id, fdV_id, tyL_id, fdL_id, exL_id, vaL_id, exV_id, vaV_id]) | exact WkF.of (Wk.ro _ _) (by first | rfl | simp only [List.length_cons, List.length_nil, Nat.reduceAdd, V.ids, V.idsL, idsA, entOk, List.all_cons, List.all_nil, Bool.and_self, Bool.and_true, Bool.true_and, ltB, noId, Nat.reduceLT, decide_true, Bool.true_eq_false, tyV_id, fdV_id, tyL_id, fdL_id, exL_id, vaL_id, exV_id, vaV_id]) | refine WkF.tu ?_ | refine WkF.ag ?_ | refine WkFL.cons ?_ ?_ | exact WkFL.nil)
theorem Y43_BP : type_of% (And.intro @F_ag_25 (And.intro @F_ag_3 (And.intro @F_ag_32 (And.intro @F_ag_34 (And.intro @F_ag_9 (And.intro @F_al_25 (And.intro @F_el_32 (And.intro @F_fl_34_0 (And.intro @F_fl_34_2 (And.intro @F_fl_34_3 (And.intro @F_fl_34_4 (And.intro @F_st_25 (And.intro @F_sz_25 (And.intro @F_sz_3 (And.intro @F_sz_32 (And.intro @F_sz_34 (@F_sz_9))))))))))))))))) := And.intro @F_ag_25 (And.intro @F_ag_3 (And.intro @F_ag_32 (And.intro @F_ag_34 (And.intro @F_ag_9 (And.intro @F_al_25 (And.intro @F_el_32 (And.intro @F_fl_34_0 (And.intro @F_fl_34_2 (And.intro @F_fl_34_3 (And.intro @F_fl_34_4 (And.intro @F_st_25 (And.intro @F_sz_25 (And.intro @F_sz_3 (And.intro @F_sz_32 (And.intro @F_sz_34 (@F_sz_9))))))))))))))))
theorem G43_BP : type_of% (And.intro (@tyV_firm) (And.intro (@fdV_firm) (And.intro (@tyV_strip) (And.intro (@fdV_strip) (And.intro (@tyV_live) (And.intro (@tyV_size) (And.intro (@tyV_isAg) (And.intro (@tyV_cells) (And.intro (@fdV_live) (And.intro (@fdV_size) (And.intro (@fdV_isAg) (And.intro (@fdV_cells) (And.intro (@List.getElem?_map.{0, 0}) (And.intro (@Int.natCast_nonneg) (And.intro (@exV_firm) (And.intro (@exV_strip) (And.intro (@exV_live) (And.intro (@exV_size) (And.intro (@exV_isAg) @exV_cells))))))))))))))))))) := (And.intro (@tyV_firm) (And.intro (@fdV_firm) (And.intro (@tyV_strip) (And.intro (@fdV_strip) (And.intro (@tyV_live) (And.intro (@tyV_size) (And.intro (@tyV_isAg) (And.intro (@tyV_cells) (And.intro (@fdV_live) (And.intro (@fdV_size) (And.intro (@fdV_isAg) (And.intro (@fdV_cells) (And.intro (@List.getElem?_map.{0, 0}) (And.intro (@Int.natCast_nonneg) (And.intro (@exV_firm) (And.intro (@exV_strip) (And.intro (@exV_live) (And.intro (@exV_size) (And.intro (@exV_isAg) @exV_cells)))))))))))))))))))
theorem c_kindR (vs : List Va) (hv : fitV vs) (e : Ex) (hf : efm e = true) : PC Try.prog 43 [exV e, (V.sl (vs.map vaV) .ro)] (tyV (typ vs e)) := by
  obtain ⟨o, n, s, w, l⟩ := e
  have hfl := hf
  rw [efm_mk, Bool.and_eq_true, List.all_eq_true] at hfl
  have h1 := c_typeOfR vs hv.1 s
  refine PC.enter 41 Try.func43 rfl (by decide) rfl rfl (s := [(0, exV (.mk o n s w l)), (1, (V.sl (vs.map vaV) .ro))]) (by rfl) ?_
  simp only [exV_mk]
  rw [typ_mk]
  by_cases h2 : o = 2
  · subst h2
    simp only [Int.reduceBEq, if_true]
    generalize tyOf vs s = t at h1 ⊢
    refine wG Y43_BP @G43_BP ?_
    refine AR.callP h1 True.intro (And.intro (@exL_id) (And.intro (@vaL_id) (And.intro (@exV_id) @vaV_id))) ?_
    refine goG Y43_BP @G43_BP ?_
    refine wG Y43_BP @G43_BP ?_
    refine Fin.gen0 (rs := [.cell 4 25]) rfl (by first | exact .inl rfl | exact .inr rfl) (by simp only [resX, resA, ↓accU_f, ↓reduceIte, SA, SB, SC, SD, Y43_BP, valG, fpsG, evO, evB, evA, evA1, nilK, eqF, eqC, apOk, intOf, slB, slK,  gd, St.ev, putA, ofl, wrl, putE, V.ofVal, V.ofCell, bin2, un1, seg, fillV, partsOk, Value.oneCell', Nat.reduceBEq, Nat.reduceLT, Nat.reduceSub, Nat.reduceAdd, Nat.reduceMul, Nat.reduceLeDiff, Nat.reduceEqDiff, reduceCtorEq, Int.reduceLT, Int.reduceLE, Int.reduceEq, Int.reduceNe, Int.reduceBEq, Int.reduceBNe, Int.reduceAdd, Int.reduceSub, Int.reduceMul, Int.reduceToNat]; with_reducible exact rfl) ?_
    simp only [tyV_eq]
    repeat (first | exact WkF.of (Wk.refl _) (by first | rfl | simp only [List.length_cons, List.length_nil, Nat.reduceAdd, V.ids, V.idsL, idsA, entOk, List.all_cons, List.all_nil, Bool.and_self, Bool.and_true, Bool.true_and, ltB, noId, Nat.reduceLT, decide_true, Bool.true_eq_false, tyV_id, fdV_id, tyL_id, fdL_id, exL_id, vaL_id, exV_id, vaV_id]) | exact WkF.of (Wk.ro _ _) (by first | rfl | simp only [List.length_cons, List.length_nil, Nat.reduceAdd, V.ids, V.idsL, idsA, entOk, List.all_cons, List.all_nil, Bool.and_self, Bool.and_true, Bool.true_and, ltB, noId, Nat.reduceLT, decide_true, Bool.true_eq_false, tyV_id, fdV_id, tyL_id, fdL_id, exL_id, vaL_id, exV_id, vaV_id]) | refine WkF.tu ?_ | refine WkF.ag ?_ | refine WkFL.cons ?_ ?_ | exact WkFL.nil)
  by_cases h5 : o = 5 ∨ o = 9 ∨ o = 10
  · rcases h5 with rfl | rfl | rfl
    all_goals
      simp only [Int.reduceBEq, Bool.or_false, Bool.false_or, Bool.or_true, Bool.true_or, Bool.false_eq_true, if_true, if_false]
      refine wG Y43_BP @G43_BP ?_
      refine Fin.gen0 (rs := [.cell 4 25]) rfl (by first | exact .inl rfl | exact .inr rfl) (by simp only [resX, resA, ↓accU_f, ↓reduceIte, SA, SB, SC, SD, Y43_BP, valG, fpsG, evO, evB, evA, evA1, nilK, eqF, eqC, apOk, intOf, slB, slK,  gd, St.ev, putA, ofl, wrl, putE, V.ofVal, V.ofCell, bin2, un1, seg, fillV, partsOk, Value.oneCell', Nat.reduceBEq, Nat.reduceLT, Nat.reduceSub, Nat.reduceAdd, Nat.reduceMul, Nat.reduceLeDiff, Nat.reduceEqDiff, reduceCtorEq, Int.reduceLT, Int.reduceLE, Int.reduceEq, Int.reduceNe, Int.reduceBEq, Int.reduceBNe, Int.reduceAdd, Int.reduceSub, Int.reduceMul, Int.reduceToNat]; with_reducible exact rfl) ?_
      simp only [tyV_mk, List.map_nil]
      repeat (first | exact WkF.of (Wk.refl _) (by first | rfl | simp only [List.length_cons, List.length_nil, Nat.reduceAdd, V.ids, V.idsL, idsA, entOk, List.all_cons, List.all_nil, Bool.and_self, Bool.and_true, Bool.true_and, ltB, noId, Nat.reduceLT, decide_true, Bool.true_eq_false, tyV_id, fdV_id, tyL_id, fdL_id, exL_id, vaL_id, exV_id, vaV_id]) | exact WkF.of (Wk.ro _ _) (by first | rfl | simp only [List.length_cons, List.length_nil, Nat.reduceAdd, V.ids, V.idsL, idsA, entOk, List.all_cons, List.all_nil, Bool.and_self, Bool.and_true, Bool.true_and, ltB, noId, Nat.reduceLT, decide_true, Bool.true_eq_false, tyV_id, fdV_id, tyL_id, fdL_id, exL_id, vaL_id, exV_id, vaV_id]) | refine WkF.tu ?_ | refine WkF.ag ?_ | refine WkFL.cons ?_ ?_ | exact WkFL.nil)
  by_cases h11 : o = 11 ∨ o = 17 ∨ o = 19
  · rcases h11 with rfl | rfl | rfl
    all_goals
      simp only [Int.reduceBEq, Bool.or_false, Bool.false_or, Bool.or_true, Bool.true_or, Bool.false_eq_true, if_true, if_false]
      refine wG Y43_BP @G43_BP ?_
      refine Fin.gen0 (rs := [.cell 4 25]) rfl (by first | exact .inl rfl | exact .inr rfl) (by simp only [resX, resA, ↓accU_f, ↓reduceIte, SA, SB, SC, SD, Y43_BP, valG, fpsG, evO, evB, evA, evA1, nilK, eqF, eqC, apOk, intOf, slB, slK,  gd, St.ev, putA, ofl, wrl, putE, V.ofVal, V.ofCell, bin2, un1, seg, fillV, partsOk, Value.oneCell', Nat.reduceBEq, Nat.reduceLT, Nat.reduceSub, Nat.reduceAdd, Nat.reduceMul, Nat.reduceLeDiff, Nat.reduceEqDiff, reduceCtorEq, Int.reduceLT, Int.reduceLE, Int.reduceEq, Int.reduceNe, Int.reduceBEq, Int.reduceBNe, Int.reduceAdd, Int.reduceSub, Int.reduceMul, Int.reduceToNat]; with_reducible exact rfl) ?_
      simp only [tyV_mk, List.map_nil]
      repeat (first | exact WkF.of (Wk.refl _) (by first | rfl | simp only [List.length_cons, List.length_nil, Nat.reduceAdd, V.ids, V.idsL, idsA, entOk, List.all_cons, List.all_nil, Bool.and_self, Bool.and_true, Bool.true_and, ltB, noId, Nat.reduceLT, decide_true, Bool.true_eq_false, tyV_id, fdV_id, tyL_id, fdL_id, exL_id, vaL_id, exV_id, vaV_id]) | exact WkF.of (Wk.ro _ _) (by first | rfl | simp only [List.length_cons, List.length_nil, Nat.reduceAdd, V.ids, V.idsL, idsA, entOk, List.all_cons, List.all_nil, Bool.and_self, Bool.and_true, Bool.true_and, ltB, noId, Nat.reduceLT, decide_true, Bool.true_eq_false, tyV_id, fdV_id, tyL_id, fdL_id, exL_id, vaL_id, exV_id, vaV_id]) | refine WkF.tu ?_ | refine WkF.ag ?_ | refine WkFL.cons ?_ ?_ | exact WkFL.nil)
  have k5 : ¬ o = 5 := by omega
  have k9 : ¬ o = 9 := by omega
  have k10 : ¬ o = 10 := by omega
  have k11 : ¬ o = 11 := by omega
  have k17 : ¬ o = 17 := by omega
  have k19 : ¬ o = 19 := by omega
  have e2 : (o == 2) = false := by simp [h2]
  have e5 : (o == 5 || o == 9 || o == 10) = false := by simp [k5, k9, k10]
  have e11 : (o == 11 || o == 17 || o == 19) = false := by simp [k11, k17, k19]
  rw [e2, e5, e11]
  simp only [Bool.false_eq_true, if_false]
  by_cases h18 : o = 18
  case neg =>
    have e18 : (o == 18 && w == 4) = false := by simp [h18]
    rw [e18]
    simp only [Bool.false_eq_true, if_false]
    refine wG Y43_BP (And.intro (@G43_BP) (And.intro h2 (And.intro k5 (And.intro k9 (And.intro k10 (And.intro k11 (And.intro k17 (And.intro k19 h18)))))))) ?_
    refine Fin.gen0 (rs := [.cell 4 25]) rfl (by first | exact .inl rfl | exact .inr rfl) (by simp only [resX, resA, ↓accU_f, ↓reduceIte, SA, SB, SC, SD, Y43_BP, valG, fpsG, evO, evB, evA, evA1, nilK, eqF, eqC, apOk, intOf, slB, slK,  gd, St.ev, putA, ofl, wrl, putE, V.ofVal, V.ofCell, bin2, un1, seg, fillV, partsOk, Value.oneCell', Nat.reduceBEq, Nat.reduceLT, Nat.reduceSub, Nat.reduceAdd, Nat.reduceMul, Nat.reduceLeDiff, Nat.reduceEqDiff, reduceCtorEq, Int.reduceLT, Int.reduceLE, Int.reduceEq, Int.reduceNe, Int.reduceBEq, Int.reduceBNe, Int.reduceAdd, Int.reduceSub, Int.reduceMul, Int.reduceToNat]; with_reducible exact rfl) ?_
    simp only [tz, tyV_mk, List.map_nil]
    repeat (first | exact WkF.of (Wk.refl _) (by first | rfl | simp only [List.length_cons, List.length_nil, Nat.reduceAdd, V.ids, V.idsL, idsA, entOk, List.all_cons, List.all_nil, Bool.and_self, Bool.and_true, Bool.true_and, ltB, noId, Nat.reduceLT, decide_true, Bool.true_eq_false, tyV_id, fdV_id, tyL_id, fdL_id, exL_id, vaL_id, exV_id, vaV_id]) | exact WkF.of (Wk.ro _ _) (by first | rfl | simp only [List.length_cons, List.length_nil, Nat.reduceAdd, V.ids, V.idsL, idsA, entOk, List.all_cons, List.all_nil, Bool.and_self, Bool.and_true, Bool.true_and, ltB, noId, Nat.reduceLT, decide_true, Bool.true_eq_false, tyV_id, fdV_id, tyL_id, fdL_id, exL_id, vaL_id, exV_id, vaV_id]) | refine WkF.tu ?_ | refine WkF.ag ?_ | refine WkFL.cons ?_ ?_ | exact WkFL.nil)
  subst h18
  by_cases hw : w = 4
  case neg =>
    have e18 : ((18 : Int) == 18 && w == 4) = false := by simp [hw]
    rw [e18]
    simp only [Bool.false_eq_true, if_false]
    refine wG Y43_BP (And.intro (@G43_BP) hw) ?_
    refine Fin.gen0 (rs := [.cell 4 25]) rfl (by first | exact .inl rfl | exact .inr rfl) (by simp only [resX, resA, ↓accU_f, ↓reduceIte, SA, SB, SC, SD, Y43_BP, valG, fpsG, evO, evB, evA, evA1, nilK, eqF, eqC, apOk, intOf, slB, slK,  gd, St.ev, putA, ofl, wrl, putE, V.ofVal, V.ofCell, bin2, un1, seg, fillV, partsOk, Value.oneCell', Nat.reduceBEq, Nat.reduceLT, Nat.reduceSub, Nat.reduceAdd, Nat.reduceMul, Nat.reduceLeDiff, Nat.reduceEqDiff, reduceCtorEq, Int.reduceLT, Int.reduceLE, Int.reduceEq, Int.reduceNe, Int.reduceBEq, Int.reduceBNe, Int.reduceAdd, Int.reduceSub, Int.reduceMul, Int.reduceToNat]; with_reducible exact rfl) ?_
    simp only [tz, tyV_mk, List.map_nil]
    repeat (first | exact WkF.of (Wk.refl _) (by first | rfl | simp only [List.length_cons, List.length_nil, Nat.reduceAdd, V.ids, V.idsL, idsA, entOk, List.all_cons, List.all_nil, Bool.and_self, Bool.and_true, Bool.true_and, ltB, noId, Nat.reduceLT, decide_true, Bool.true_eq_false, tyV_id, fdV_id, tyL_id, fdL_id, exL_id, vaL_id, exV_id, vaV_id]) | exact WkF.of (Wk.ro _ _) (by first | rfl | simp only [List.length_cons, List.length_nil, Nat.reduceAdd, V.ids, V.idsL, idsA, entOk, List.all_cons, List.all_nil, Bool.and_self, Bool.and_true, Bool.true_and, ltB, noId, Nat.reduceLT, decide_true, Bool.true_eq_false, tyV_id, fdV_id, tyL_id, fdL_id, exL_id, vaL_id, exV_id, vaV_id]) | refine WkF.tu ?_ | refine WkF.ag ?_ | refine WkFL.cons ?_ ?_ | exact WkFL.nil)
  subst hw
  obtain ⟨x, rfl⟩ := efm_one hf
  have hp := c_foundR vs hv x (hfl.2 x (by simp)) 4
  have hg0 : (List.map exV [x])[0]? = some (exV x) := rfl
  have hq : (if ((18 : Int) == 18 && (4 : Int) == 4) = true then (match [x] with | x :: _ => (fnd vs x 4).1 | [] => tz) else tz) = (fnd vs x 4).1 := rfl
  rw [hq]
  generalize fnd vs x 4 = q at hp ⊢
  refine wG Y43_BP (And.intro (@G43_BP) hg0) ?_
  refine AR.callP hp @exV_eq (And.intro (@exL_id) (And.intro (@vaL_id) (And.intro (@exV_id) @vaV_id))) ?_
  refine goG Y43_BP @G43_BP ?_
  refine wG Y43_BP @G43_BP ?_
  refine Fin.gen0 (rs := [.cell 4 25]) rfl (by first | exact .inl rfl | exact .inr rfl) (by simp only [resX, resA, ↓accU_f, ↓reduceIte, SA, SB, SC, SD, Y43_BP, valG, fpsG, evO, evB, evA, evA1, nilK, eqF, eqC, apOk, intOf, slB, slK,  gd, St.ev, putA, ofl, wrl, putE, V.ofVal, V.ofCell, bin2, un1, seg, fillV, partsOk, Value.oneCell', Nat.reduceBEq, Nat.reduceLT, Nat.reduceSub, Nat.reduceAdd, Nat.reduceMul, Nat.reduceLeDiff, Nat.reduceEqDiff, reduceCtorEq, Int.reduceLT, Int.reduceLE, Int.reduceEq, Int.reduceNe, Int.reduceBEq, Int.reduceBNe, Int.reduceAdd, Int.reduceSub, Int.reduceMul, Int.reduceToNat]; with_reducible exact rfl) ?_
  simp only [tyV_eq]
  repeat (first | exact WkF.of (Wk.refl _) (by first | rfl | simp only [List.length_cons, List.length_nil, Nat.reduceAdd, V.ids, V.idsL, idsA, entOk, List.all_cons, List.all_nil, Bool.and_self, Bool.and_true, Bool.true_and, ltB, noId, Nat.reduceLT, decide_true, Bool.true_eq_false, tyV_id, fdV_id, tyL_id, fdL_id, exL_id, vaL_id, exV_id, vaV_id]) | exact WkF.of (Wk.ro _ _) (by first | rfl | simp only [List.length_cons, List.length_nil, Nat.reduceAdd, V.ids, V.idsL, idsA, entOk, List.all_cons, List.all_nil, Bool.and_self, Bool.and_true, Bool.true_and, ltB, noId, Nat.reduceLT, decide_true, Bool.true_eq_false, tyV_id, fdV_id, tyL_id, fdL_id, exL_id, vaL_id, exV_id, vaV_id]) | refine WkF.tu ?_ | refine WkF.ag ?_ | refine WkFL.cons ?_ ?_ | exact WkFL.nil)
end Go.Proofs.Ytfggemopnlffeaa
namespace Go.Proofs.Ytfggemopnlffeaa
set_option linter.unusedSimpArgs false
set_option linter.unusedVariables false
set_option linter.unnecessarySimpa false
open Go.RowKit
/-- What Expr says: a type and 0, or the number of an error. -/
def exT (vs : List Va) (e : Ex) : Ty × Int := if chkE vs e == 0 then (if acs vs e then (typ vs e, 0) else (tz, 16)) else (tz, chkE vs e)
theorem chkE_efm {vs : List Va} {e : Ex} (h : chkE vs e = 0) : efm e = true := by
  unfold chkE at h
  cases b : efm e with
  | true => rfl
  | false =>
    rw [b] at h
    split at h
    · cases h
    · simp at h
theorem Y17_BQ : type_of% (And.intro @F_ag_25 (And.intro @F_ag_34 (And.intro @F_al_25 (And.intro @F_st_25 (And.intro @F_sz_25 (@F_sz_34)))))) := And.intro @F_ag_25 (And.intro @F_ag_34 (And.intro @F_al_25 (And.intro @F_st_25 (And.intro @F_sz_25 (@F_sz_34)))))
theorem G17_BQ : type_of% (And.intro (@tyV_firm) (And.intro (@fdV_firm) (And.intro (@tyV_strip) (And.intro (@fdV_strip) (And.intro (@tyV_live) (And.intro (@tyV_size) (And.intro (@tyV_isAg) (And.intro (@tyV_cells) (And.intro (@fdV_live) (And.intro (@fdV_size) (And.intro (@fdV_isAg) (And.intro (@fdV_cells) (And.intro (@List.getElem?_map.{0, 0}) @Int.natCast_nonneg))))))))))))) := (And.intro (@tyV_firm) (And.intro (@fdV_firm) (And.intro (@tyV_strip) (And.intro (@fdV_strip) (And.intro (@tyV_live) (And.intro (@tyV_size) (And.intro (@tyV_isAg) (And.intro (@tyV_cells) (And.intro (@fdV_live) (And.intro (@fdV_size) (And.intro (@fdV_isAg) (And.intro (@fdV_cells) (And.intro (@List.getElem?_map.{0, 0}) @Int.natCast_nonneg)))))))))))))
theorem c_ExprR (vs : List Va) (hv : fitV vs) (e : Ex) (he : fitE e) : PC Try.prog 17 [exV e, (V.sl (vs.map vaV) .ro)] (.tu [tyV (exT vs e).1, (.im (.int .i64 ((exT vs e).2)))]) := by
  have h1 := c_CheckER vs hv.1 e he
  unfold exT
  refine PC.enter 22 Try.func17 rfl (by decide) rfl rfl (s := [(0, exV e), (1, (V.sl (vs.map vaV) .ro))]) (by rfl) ?_
  simp only [exV_eq]
  by_cases hc : chkE vs e = 0
  case neg =>
    have ec : (chkE vs e == 0) = false := by simp [hc]
    rw [ec]
    simp only [Bool.false_eq_true, if_false]
    refine wG Y17_BQ @G17_BQ ?_
    refine AR.callP h1 @exV_eq (And.intro (@exL_id) (And.intro (@vaL_id) (And.intro (@exV_id) @vaV_id))) ?_
    refine goG Y17_BQ (And.intro (@G17_BQ) hc) ?_
    refine wG Y17_BQ (And.intro (@G17_BQ) hc) ?_
    refine Fin.gen0 (rs := [.cell 4 25, .tmp 5]) rfl (by first | exact .inl rfl | exact .inr rfl) (by simp only [resX, resA, ↓accU_f, ↓reduceIte, SA, SB, SC, SD, Y17_BQ, valG, fpsG, evO, evB, evA, evA1, nilK, eqF, eqC, apOk, intOf, slB, slK,  gd, St.ev, putA, ofl, wrl, putE, V.ofVal, V.ofCell, bin2, un1, seg, fillV, partsOk, Value.oneCell', Nat.reduceBEq, Nat.reduceLT, Nat.reduceSub, Nat.reduceAdd, Nat.reduceMul, Nat.reduceLeDiff, Nat.reduceEqDiff, reduceCtorEq, Int.reduceLT, Int.reduceLE, Int.reduceEq, Int.reduceNe, Int.reduceBEq, Int.reduceBNe, Int.reduceAdd, Int.reduceSub, Int.reduceMul, Int.reduceToNat]; with_reducible exact rfl) ?_
    simp only [tz, tyV_mk, List.map_nil]
    repeat (first | exact WkF.of (Wk.refl _) (by first | rfl | simp only [List.length_cons, List.length_nil, Nat.reduceAdd, V.ids, V.idsL, idsA, entOk, List.all_cons, List.all_nil, Bool.and_self, Bool.and_true, Bool.true_and, ltB, noId, Nat.reduceLT, decide_true, Bool.true_eq_false, tyV_id, fdV_id, tyL_id, fdL_id, exL_id, vaL_id, exV_id, vaV_id]) | exact WkF.of (Wk.ro _ _) (by first | rfl | simp only [List.length_cons, List.length_nil, Nat.reduceAdd, V.ids, V.idsL, idsA, entOk, List.all_cons, List.all_nil, Bool.and_self, Bool.and_true, Bool.true_and, ltB, noId, Nat.reduceLT, decide_true, Bool.true_eq_false, tyV_id, fdV_id, tyL_id, fdL_id, exL_id, vaL_id, exV_id, vaV_id]) | refine WkF.tu ?_ | refine WkF.ag ?_ | refine WkFL.cons ?_ ?_ | exact WkFL.nil)
  have hf := chkE_efm hc
  have ec : (chkE vs e == 0) = true := by simp [hc]
  rw [ec]
  simp only [if_true]
  rw [hc] at h1
  have h2 := c_accessesR vs hv e he hf
  have h3 := c_kindR vs hv e hf
  cases ha : acs vs e with
  | false =>
    rw [ha] at h2
    simp only [Bool.false_eq_true, if_false]
    refine wG Y17_BQ @G17_BQ ?_
    refine AR.callP h1 @exV_eq (And.intro (@exL_id) (And.intro (@vaL_id) (And.intro (@exV_id) @vaV_id))) ?_
    refine goG Y17_BQ @G17_BQ ?_
    refine wG Y17_BQ @G17_BQ ?_
    refine AR.callP h2 @exV_eq (And.intro (@exL_id) (And.intro (@vaL_id) (And.intro (@exV_id) @vaV_id))) ?_
    refine goG Y17_BQ @G17_BQ ?_
    refine wG Y17_BQ @G17_BQ ?_
    refine Fin.gen0 (rs := [.cell 4 25, .tmp 5]) rfl (by first | exact .inl rfl | exact .inr rfl) (by simp only [resX, resA, ↓accU_f, ↓reduceIte, SA, SB, SC, SD, Y17_BQ, valG, fpsG, evO, evB, evA, evA1, nilK, eqF, eqC, apOk, intOf, slB, slK,  gd, St.ev, putA, ofl, wrl, putE, V.ofVal, V.ofCell, bin2, un1, seg, fillV, partsOk, Value.oneCell', Nat.reduceBEq, Nat.reduceLT, Nat.reduceSub, Nat.reduceAdd, Nat.reduceMul, Nat.reduceLeDiff, Nat.reduceEqDiff, reduceCtorEq, Int.reduceLT, Int.reduceLE, Int.reduceEq, Int.reduceNe, Int.reduceBEq, Int.reduceBNe, Int.reduceAdd, Int.reduceSub, Int.reduceMul, Int.reduceToNat]; with_reducible exact rfl) ?_
    simp only [tz, tyV_mk, List.map_nil]
    repeat (first | exact WkF.of (Wk.refl _) (by first | rfl | simp only [List.length_cons, List.length_nil, Nat.reduceAdd, V.ids, V.idsL, idsA, entOk, List.all_cons, List.all_nil, Bool.and_self, Bool.and_true, Bool.true_and, ltB, noId, Nat.reduceLT, decide_true, Bool.true_eq_false, tyV_id, fdV_id, tyL_id, fdL_id, exL_id, vaL_id, exV_id, vaV_id]) | exact WkF.of (Wk.ro _ _) (by first | rfl | simp only [List.length_cons, List.length_nil, Nat.reduceAdd, V.ids, V.idsL, idsA, entOk, List.all_cons, List.all_nil, Bool.and_self, Bool.and_true, Bool.true_and, ltB, noId, Nat.reduceLT, decide_true, Bool.true_eq_false, tyV_id, fdV_id, tyL_id, fdL_id, exL_id, vaL_id, exV_id, vaV_id]) | refine WkF.tu ?_ | refine WkF.ag ?_ | refine WkFL.cons ?_ ?_ | exact WkFL.nil)
  | true =>
    rw [ha] at h2
    simp only [if_true]
    generalize typ vs e = t at h3 ⊢
    refine wG Y17_BQ @G17_BQ ?_
    refine AR.callP h1 @exV_eq (And.intro (@exL_id) (And.intro (@vaL_id) (And.intro (@exV_id) @vaV_id))) ?_
    refine goG Y17_BQ @G17_BQ ?_
    refine wG Y17_BQ @G17_BQ ?_
    refine AR.callP h2 @exV_eq (And.intro (@exL_id) (And.intro (@vaL_id) (And.intro (@exV_id) @vaV_id))) ?_
    refine goG Y17_BQ @G17_BQ ?_
    refine wG Y17_BQ @G17_BQ ?_
    refine AR.callP h3 @exV_eq (And.intro (@exL_id) (And.intro (@vaL_id) (And.intro (@exV_id) @vaV_id))) ?_
    refine goG Y17_BQ @G17_BQ ?_
    refine wG Y17_BQ @G17_BQ ?_
    refine Fin.gen0 (rs := [.cell 4 25, .tmp 5]) rfl (by first | exact .inl rfl | exact .inr rfl) (by simp only [resX, resA, ↓accU_f, ↓reduceIte, SA, SB, SC, SD, Y17_BQ, valG, fpsG, evO, evB, evA, evA1, nilK, eqF, eqC, apOk, intOf, slB, slK,  gd, St.ev, putA, ofl, wrl, putE, V.ofVal, V.ofCell, bin2, un1, seg, fillV, partsOk, Value.oneCell', Nat.reduceBEq, Nat.reduceLT, Nat.reduceSub, Nat.reduceAdd, Nat.reduceMul, Nat.reduceLeDiff, Nat.reduceEqDiff, reduceCtorEq, Int.reduceLT, Int.reduceLE, Int.reduceEq, Int.reduceNe, Int.reduceBEq, Int.reduceBNe, Int.reduceAdd, Int.reduceSub, Int.reduceMul, Int.reduceToNat]; with_reducible exact rfl) ?_
    simp only [tyV_eq]
    repeat (first | exact WkF.of (Wk.refl _) (by first | rfl | simp only [List.length_cons, List.length_nil, Nat.reduceAdd, V.ids, V.idsL, idsA, entOk, List.all_cons, List.all_nil, Bool.and_self, Bool.and_true, Bool.true_and, ltB, noId, Nat.reduceLT, decide_true, Bool.true_eq_false, tyV_id, fdV_id, tyL_id, fdL_id, exL_id, vaL_id, exV_id, vaV_id]) | exact WkF.of (Wk.ro _ _) (by first | rfl | simp only [List.length_cons, List.length_nil, Nat.reduceAdd, V.ids, V.idsL, idsA, entOk, List.all_cons, List.all_nil, Bool.and_self, Bool.and_true, Bool.true_and, ltB, noId, Nat.reduceLT, decide_true, Bool.true_eq_false, tyV_id, fdV_id, tyL_id, fdL_id, exL_id, vaL_id, exV_id, vaV_id]) | refine WkF.tu ?_ | refine WkF.ag ?_ | refine WkFL.cons ?_ ?_ | exact WkFL.nil)
end Go.Proofs.Ytfggemopnlffeaa
