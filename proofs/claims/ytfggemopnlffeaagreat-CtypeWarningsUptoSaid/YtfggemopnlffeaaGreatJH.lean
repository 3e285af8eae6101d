import Derived.Test.YtfggemopnlffeaaGreatHv
import Derived.Test.YtfggemopnlffeaaGreatJG
import Derived.Test.YtfggemopnlffeaaGreatBJ
namespace Go.Proofs.YtfggemopnlffeaaGreat
set_option linter.unusedSimpArgs false
set_option linter.unusedVariables false
set_option linter.unnecessarySimpa false
open Go.RowKit
def fnd (vs : List Va) (e : Ex) (w : Int) : Ty × Bool :=
  if (thr e).2.2 && (tyOf vs (thr e).1).kind == 3 then
    (if good (tyOf vs (thr e).1) then (fieldA ((tyOf vs (thr e).1).elem.headD tz) (thr e).2.1 w).getD tz else tz, true)
  else (tz, false)
theorem Y59_BO : type_of% (AI @F_ag_3 (AI @F_ag_38 (AI @F_ag_41 (AI @F_ag_48 (AI @F_al_41 (AI @F_el_38 (AI @F_fl_41_0 (AI @F_fl_41_3 (AI @F_st_41 (AI @F_sz_3 (AI @F_sz_38 (AI @F_sz_41 (@F_sz_48))))))))))))) := AI @F_ag_3 (AI @F_ag_38 (AI @F_ag_41 (AI @F_ag_48 (AI @F_al_41 (AI @F_el_38 (AI @F_fl_41_0 (AI @F_fl_41_3 (AI @F_st_41 (AI @F_sz_3 (AI @F_sz_38 (AI @F_sz_41 (@F_sz_48))))))))))))
theorem G59_BO : type_of% (AI (@tyV_firm) (AI (@fdV_firm) (AI (@tyV_strip) (AI (@fdV_strip) (AI (@tyV_live) (AI (@tyV_size) (AI (@tyV_isAg) (AI (@tyV_cells) (AI (@fdV_live) (AI (@fdV_size) (AI (@fdV_isAg) (AI (@fdV_cells) (AI (@List.getElem?_map.{0, 0}) @Int.natCast_nonneg))))))))))))) := (AI (@tyV_firm) (AI (@fdV_firm) (AI (@tyV_strip) (AI (@fdV_strip) (AI (@tyV_live) (AI (@tyV_size) (AI (@tyV_isAg) (AI (@tyV_cells) (AI (@fdV_live) (AI (@fdV_size) (AI (@fdV_isAg) (AI (@fdV_cells) (AI (@List.getElem?_map.{0, 0}) @Int.natCast_nonneg)))))))))))))
theorem c_found (vs : List Va) (hv : fitV vs) (e : Ex) (hf : efm e = true) : PC Tryz.prog 59 [exV e, (V.sl (vs.map vaV) .ro)] (.tu [tyV (fnd vs e 4).1, (.im (.bool ((fnd vs e 4).2)))]) := by
  have h1 := c_through e hf
  have hi := thr_I64 e
  unfold fnd
  obtain ⟨⟨nm, off, ok⟩, ht⟩ : ∃ x, thr e = x := ⟨_, rfl⟩
  rw [ht] at h1 hi
  rw [ht]
  simp only at h1 hi ⊢
  have h2 := c_typeOf vs hv.1 nm
  have hft := fit_tyOf hv nm
  generalize tyOf vs nm = t at h2 hft ⊢
  have h3 := c_check t hft
  refine PC.enter 42 Tryz.func59 rfl (by decide) rfl rfl (s := [(0, exV e), (1, (V.sl (vs.map vaV) .ro))]) (by rfl) ?_
  simp only [exV_eq]
  cases ok with
  | false =>
    simp only [Bool.false_and, Bool.false_eq_true, if_false]
    refine wG Y59_BO @G59_BO ?_
    refine AR.callP h1 @exV_eq (AI (@exL_id) (AI (@vaL_id) (AI (@exV_id) @vaV_id))) ?_
    refine goG Y59_BO @G59_BO ?_
    refine wG Y59_BO @G59_BO ?_
    refine Fin.gen0 (rs := [.cell 4 41, .tmp 5]) rfl (by first | exact .inl rfl | exact .inr rfl) (by simp only [resX, resA, ↓accU_f, ↓reduceIte, SA, SB, SC, SD, Y59_BO, valG, fpsG, evO, evB, evA, evA1, nilK, eqF, eqC, apOk, intOf, slB, slK,  gd, St.ev, putA, ofl, wrl, putE, V.ofVal, V.ofCell, bin2, un1, seg, fillV, partsOk, Value.oneCell', Nat.reduceBEq, Nat.reduceLT, Nat.reduceSub, Nat.reduceAdd, Nat.reduceMul, Nat.reduceLeDiff, Nat.reduceEqDiff, reduceCtorEq, Int.reduceLT, Int.reduceLE, Int.reduceEq, Int.reduceNe, Int.reduceBEq, Int.reduceBNe, Int.reduceAdd, Int.reduceSub, Int.reduceMul, Int.reduceToNat]; with_reducible exact rfl) ?_
    simp only [tz, tyV_mk, List.map_nil]
    repeat (first | exact WkF.of (Wk.refl _) (by first | rfl | simp only [List.length_cons, List.length_nil, Nat.reduceAdd, V.ids, V.idsL, idsA, entOk, List.all_cons, List.all_nil, Bool.and_self, Bool.and_true, Bool.true_and, ltB, noId, Nat.reduceLT, decide_true, Bool.true_eq_false, tyV_id, fdV_id, tyL_id, fdL_id, exL_id, vaL_id, exV_id, vaV_id]) | exact WkF.of (Wk.ro _ _) (by first | rfl | simp only [List.length_cons, List.length_nil, Nat.reduceAdd, V.ids, V.idsL, idsA, entOk, List.all_cons, List.all_nil, Bool.and_self, Bool.and_true, Bool.true_and, ltB, noId, Nat.reduceLT, decide_true, Bool.true_eq_false, tyV_id, fdV_id, tyL_id, fdL_id, exL_id, vaL_id, exV_id, vaV_id]) | refine WkF.tu ?_ | refine WkF.ag ?_ | refine WkFL.cons ?_ ?_ | exact WkFL.nil)
  | true =>
  refine wG Y59_BO @G59_BO ?_
  refine AR.callP h1 @exV_eq (AI (@exL_id) (AI (@vaL_id) (AI (@exV_id) @vaV_id))) ?_
  refine goG Y59_BO @G59_BO ?_
  refine wG Y59_BO @G59_BO ?_
  refine AR.callP h2 True.intro (AI (@exL_id) (AI (@vaL_id) (AI (@exV_id) @vaV_id))) ?_
  by_cases hk : t.kind = 3
  case neg =>
    have e3 : (true && t.kind == 3) = false := by simp [hk]
    rw [e3]
    simp only [Bool.false_eq_true, if_false]
    refine goG Y59_BO @G59_BO ?_
    refine wG Y59_BO (AI (@G59_BO) hk) ?_
    refine Fin.gen0 (rs := [.cell 4 41, .tmp 5]) rfl (by first | exact .inl rfl | exact .inr rfl) (by simp only [resX, resA, ↓accU_f, ↓reduceIte, SA, SB, SC, SD, Y59_BO, valG, fpsG, evO, evB, evA, evA1, nilK, eqF, eqC, apOk, intOf, slB, slK,  gd, St.ev, putA, ofl, wrl, putE, V.ofVal, V.ofCell, bin2, un1, seg, fillV, partsOk, Value.oneCell', Nat.reduceBEq, Nat.reduceLT, Nat.reduceSub, Nat.reduceAdd, Nat.reduceMul, Nat.reduceLeDiff, Nat.reduceEqDiff, reduceCtorEq, Int.reduceLT, Int.reduceLE, Int.reduceEq, Int.reduceNe, Int.reduceBEq, Int.reduceBNe, Int.reduceAdd, Int.reduceSub, Int.reduceMul, Int.reduceToNat]; with_reducible exact rfl) ?_
    simp only [tz, tyV_mk, List.map_nil]
    repeat (first | exact WkF.of (Wk.refl _) (by first | rfl | simp only [List.length_cons, List.length_nil, Nat.reduceAdd, V.ids, V.idsL, idsA, entOk, List.all_cons, List.all_nil, Bool.and_self, Bool.and_true, Bool.true_and, ltB, noId, Nat.reduceLT, decide_true, Bool.true_eq_false, tyV_id, fdV_id, tyL_id, fdL_id, exL_id, vaL_id, exV_id, vaV_id]) | exact WkF.of (Wk.ro _ _) (by first | rfl | simp only [List.length_cons, List.length_nil, Nat.reduceAdd, V.ids, V.idsL, idsA, entOk, List.all_cons, List.all_nil, Bool.and_self, Bool.and_true, Bool.true_and, ltB, noId, Nat.reduceLT, decide_true, Bool.true_eq_false, tyV_id, fdV_id, tyL_id, fdL_id, exL_id, vaL_id, exV_id, vaV_id]) | refine WkF.tu ?_ | refine WkF.ag ?_ | refine WkFL.cons ?_ ?_ | exact WkFL.nil)
  have e3 : (true && t.kind == 3) = true := by simp [hk]
  rw [e3]
  simp only [if_true]
  cases hg : good t with
  | false =>
    have cb := bad_chk hg
    simp only [Bool.false_eq_true, if_false]
    refine goG Y59_BO @G59_BO ?_
    refine wG Y59_BO (AI (@G59_BO) hk) ?_
    refine AR.callP h3 (AI (@tyV_eq) hk) (AI (@exL_id) (AI (@vaL_id) (AI (@exV_id) @vaV_id))) ?_
    refine goG Y59_BO (AI (@G59_BO) cb) ?_
    refine wG Y59_BO @G59_BO ?_
    refine Fin.gen0 (rs := [.cell 4 41, .tmp 5]) rfl (by first | exact .inl rfl | exact .inr rfl) (by simp only [resX, resA, ↓accU_f, ↓reduceIte, SA, SB, SC, SD, Y59_BO, valG, fpsG, evO, evB, evA, evA1, nilK, eqF, eqC, apOk, intOf, slB, slK,  gd, St.ev, putA, ofl, wrl, putE, V.ofVal, V.ofCell, bin2, un1, seg, fillV, partsOk, Value.oneCell', Nat.reduceBEq, Nat.reduceLT, Nat.reduceSub, Nat.reduceAdd, Nat.reduceMul, Nat.reduceLeDiff, Nat.reduceEqDiff, reduceCtorEq, Int.reduceLT, Int.reduceLE, Int.reduceEq, Int.reduceNe, Int.reduceBEq, Int.reduceBNe, Int.reduceAdd, Int.reduceSub, Int.reduceMul, Int.reduceToNat]; with_reducible exact rfl) ?_
    simp only [tz, tyV_mk, List.map_nil]
    repeat (first | exact WkF.of (Wk.refl _) (by first | rfl | simp only [List.length_cons, List.length_nil, Nat.reduceAdd, V.ids, V.idsL, idsA, entOk, List.all_cons, List.all_nil, Bool.and_self, Bool.and_true, Bool.true_and, ltB, noId, Nat.reduceLT, decide_true, Bool.true_eq_false, tyV_id, fdV_id, tyL_id, fdL_id, exL_id, vaL_id, exV_id, vaV_id]) | exact WkF.of (Wk.ro _ _) (by first | rfl | simp only [List.length_cons, List.length_nil, Nat.reduceAdd, V.ids, V.idsL, idsA, entOk, List.all_cons, List.all_nil, Bool.and_self, Bool.and_true, Bool.true_and, ltB, noId, Nat.reduceLT, decide_true, Bool.true_eq_false, tyV_id, fdV_id, tyL_id, fdL_id, exL_id, vaL_id, exV_id, vaV_id]) | refine WkF.tu ?_ | refine WkF.ag ?_ | refine WkFL.cons ?_ ?_ | exact WkFL.nil)
  | true =>
    have cg := good_chk hg
    obtain ⟨x, hx, hxf⟩ := ptr_elem hg hk
    have hfx := fit_elem hft (x := x) (by rw [hx]; simp)
    have h4 := c_FieldAt x hfx off 4 hi
    simp only [if_true, hx, List.headD_cons]
    refine goG Y59_BO @G59_BO ?_
    refine wG Y59_BO (AI (@G59_BO) hk) ?_
    refine AR.callP h3 (AI (@tyV_eq) hk) (AI (@exL_id) (AI (@vaL_id) (AI (@exV_id) @vaV_id))) ?_
    refine goG Y59_BO (AI (@G59_BO) cg) ?_
    refine wG Y59_BO (AI (@G59_BO) hx) ?_
    refine AR.callP h4 @tyV_eq (AI (@exL_id) (AI (@vaL_id) (AI (@exV_id) @vaV_id))) ?_
    refine goG Y59_BO @G59_BO ?_
    refine wG Y59_BO @G59_BO ?_
    refine Fin.gen0 (rs := [.cell 4 41, .tmp 5]) rfl (by first | exact .inl rfl | exact .inr rfl) (by simp only [resX, resA, ↓accU_f, ↓reduceIte, SA, SB, SC, SD, Y59_BO, valG, fpsG, evO, evB, evA, evA1, nilK, eqF, eqC, apOk, intOf, slB, slK,  gd, St.ev, putA, ofl, wrl, putE, V.ofVal, V.ofCell, bin2, un1, seg, fillV, partsOk, Value.oneCell', Nat.reduceBEq, Nat.reduceLT, Nat.reduceSub, Nat.reduceAdd, Nat.reduceMul, Nat.reduceLeDiff, Nat.reduceEqDiff, reduceCtorEq, Int.reduceLT, Int.reduceLE, Int.reduceEq, Int.reduceNe, Int.reduceBEq, Int.reduceBNe, Int.reduceAdd, Int.reduceSub, Int.reduceMul, Int.reduceToNat]; with_reducible exact rfl) ?_
    simp only [tyV_eq]
    repeat (first | exact WkF.of (Wk.refl _) (by first | rfl | simp only [List.length_cons, List.length_nil, Nat.reduceAdd, V.ids, V.idsL, idsA, entOk, List.all_cons, List.all_nil, Bool.and_self, Bool.and_true, Bool.true_and, ltB, noId, Nat.reduceLT, decide_true, Bool.true_eq_false, tyV_id, fdV_id, tyL_id, fdL_id, exL_id, vaL_id, exV_id, vaV_id]) | exact WkF.of (Wk.ro _ _) (by first | rfl | simp only [List.length_cons, List.length_nil, Nat.reduceAdd, V.ids, V.idsL, idsA, entOk, List.all_cons, List.all_nil, Bool.and_self, Bool.and_true, Bool.true_and, ltB, noId, Nat.reduceLT, decide_true, Bool.true_eq_false, tyV_id, fdV_id, tyL_id, fdL_id, exL_id, vaL_id, exV_id, vaV_id]) | refine WkF.tu ?_ | refine WkF.ag ?_ | refine WkFL.cons ?_ ?_ | exact WkFL.nil)
theorem Y50_BO : type_of% (AI @F_ag_3 (AI @F_ag_38 (AI @F_ag_41 (AI @F_ag_48 (AI @F_al_41 (AI @F_el_38 (AI @F_fl_41_0 (AI @F_fl_41_3 (AI @F_st_41 (AI @F_sz_3 (AI @F_sz_38 (AI @F_sz_41 (@F_sz_48))))))))))))) := AI @F_ag_3 (AI @F_ag_38 (AI @F_ag_41 (AI @F_ag_48 (AI @F_al_41 (AI @F_el_38 (AI @F_fl_41_0 (AI @F_fl_41_3 (AI @F_st_41 (AI @F_sz_3 (AI @F_sz_38 (AI @F_sz_41 (@F_sz_48))))))))))))
theorem G50_BO : type_of% (AI (@tyV_firm) (AI (@fdV_firm) (AI (@tyV_strip) (AI (@fdV_strip) (AI (@tyV_live) (AI (@tyV_size) (AI (@tyV_isAg) (AI (@tyV_cells) (AI (@fdV_live) (AI (@fdV_size) (AI (@fdV_isAg) (AI (@fdV_cells) (AI (@List.getElem?_map.{0, 0}) @Int.natCast_nonneg))))))))))))) := (AI (@tyV_firm) (AI (@fdV_firm) (AI (@tyV_strip) (AI (@fdV_strip) (AI (@tyV_live) (AI (@tyV_size) (AI (@tyV_isAg) (AI (@tyV_cells) (AI (@fdV_live) (AI (@fdV_size) (AI (@fdV_isAg) (AI (@fdV_cells) (AI (@List.getElem?_map.{0, 0}) @Int.natCast_nonneg)))))))))))))
theorem c_foundR (vs : List Va) (hv : fitV vs) (e : Ex) (hf : efm e = true) (w : Int) : PC Tryz.prog 50 [exV e, (.im (.int .i64 (w))), (V.sl (vs.map vaV) .ro)] (.tu [tyV (fnd vs e w).1, (.im (.bool ((fnd vs e w).2)))]) := by
  have h1 := c_throughR e hf
  have hi := thr_I64 e
  unfold fnd
  obtain ⟨⟨nm, off, ok⟩, ht⟩ : ∃ x, thr e = x := ⟨_, rfl⟩
  rw [ht] at h1 hi
  rw [ht]
  simp only at h1 hi ⊢
  have h2 := c_typeOfR vs hv.1 nm
  have hft := fit_tyOf hv nm
  generalize tyOf vs nm = t at h2 hft ⊢
  have h3 := c_checkR t hft
  refine PC.enter 48 Tryz.func50 rfl (by decide) rfl rfl (s := [(0, exV e), (1, (.im (.int .i64 (w)))), (2, (V.sl (vs.map vaV) .ro))]) (by rfl) ?_
  simp only [exV_eq]
  cases ok with
  | false =>
    simp only [Bool.false_and, Bool.false_eq_true, if_false]
    refine wG Y50_BO @G50_BO ?_
    refine AR.callP h1 @exV_eq (AI (@exL_id) (AI (@vaL_id) (AI (@exV_id) @vaV_id))) ?_
    refine goG Y50_BO @G50_BO ?_
    refine wG Y50_BO @G50_BO ?_
    refine Fin.gen0 (rs := [.cell 6 41, .tmp 7]) rfl (by first | exact .inl rfl | exact .inr rfl) (by simp only [resX, resA, ↓accU_f, ↓reduceIte, SA, SB, SC, SD, Y50_BO, valG, fpsG, evO, evB, evA, evA1, nilK, eqF, eqC, apOk, intOf, slB, slK,  gd, St.ev, putA, ofl, wrl, putE, V.ofVal, V.ofCell, bin2, un1, seg, fillV, partsOk, Value.oneCell', Nat.reduceBEq, Nat.reduceLT, Nat.reduceSub, Nat.reduceAdd, Nat.reduceMul, Nat.reduceLeDiff, Nat.reduceEqDiff, reduceCtorEq, Int.reduceLT, Int.reduceLE, Int.reduceEq, Int.reduceNe, Int.reduceBEq, Int.reduceBNe, Int.reduceAdd, Int.reduceSub, Int.reduceMul, Int.reduceToNat]; with_reducible exact rfl) ?_
    simp only [tz, tyV_mk, List.map_nil]
    repeat (first | exact WkF.of (Wk.refl _) (by first | rfl | simp only [List.length_cons, List.length_nil, Nat.reduceAdd, V.ids, V.idsL, idsA, entOk, List.all_cons, List.all_nil, Bool.and_self, Bool.and_true, Bool.true_and, ltB, noId, Nat.reduceLT, decide_true, Bool.true_eq_false, tyV_id, fdV_id, tyL_id, fdL_id, exL_id, vaL_id, exV_id, vaV_id]) | exact WkF.of (Wk.ro _ _) (by first | rfl | simp only [List.length_cons, List.length_nil, Nat.reduceAdd, V.ids, V.idsL, idsA, entOk, List.all_cons, List.all_nil, Bool.and_self, Bool.and_true, Bool.true_and, ltB, noId, Nat.reduceLT, decide_true, Bool.true_eq_false, tyV_id, fdV_id, tyL_id, fdL_id, exL_id, vaL_id, exV_id, vaV_id]) | refine WkF.tu ?_ | refine WkF.ag ?_ | refine WkFL.cons ?_ ?_ | exact WkFL.nil)
  | true =>
  refine wG Y50_BO @G50_BO ?_
  refine AR.callP h1 @exV_eq (AI (@exL_id) (AI (@vaL_id) (AI (@exV_id) @vaV_id))) ?_
  refine goG Y50_BO @G50_BO ?_
  refine wG Y50_BO @G50_BO ?_
  refine AR.callP h2 True.intro (AI (@exL_id) (AI (@vaL_id) (AI (@exV_id) @vaV_id))) ?_
  by_cases hk : t.kind = 3
  case neg =>
    have e3 : (true && t.kind == 3) = false := by simp [hk]
    rw [e3]
    simp only [Bool.false_eq_true, if_false]
    refine goG Y50_BO @G50_BO ?_
    refine wG Y50_BO (AI (@G50_BO) hk) ?_
    refine Fin.gen0 (rs := [.cell 6 41, .tmp 7]) rfl (by first | exact .inl rfl | exact .inr rfl) (by simp only [resX, resA, ↓accU_f, ↓reduceIte, SA, SB, SC, SD, Y50_BO, valG, fpsG, evO, evB, evA, evA1, nilK, eqF, eqC, apOk, intOf, slB, slK,  gd, St.ev, putA, ofl, wrl, putE, V.ofVal, V.ofCell, bin2, un1, seg, fillV, partsOk, Value.oneCell', Nat.reduceBEq, Nat.reduceLT, Nat.reduceSub, Nat.reduceAdd, Nat.reduceMul, Nat.reduceLeDiff, Nat.reduceEqDiff, reduceCtorEq, Int.reduceLT, Int.reduceLE, Int.reduceEq, Int.reduceNe, Int.reduceBEq, Int.reduceBNe, Int.reduceAdd, Int.reduceSub, Int.reduceMul, Int.reduceToNat]; with_reducible exact rfl) ?_
    simp only [tz, tyV_mk, List.map_nil]
    repeat (first | exact WkF.of (Wk.refl _) (by first | rfl | simp only [List.length_cons, List.length_nil, Nat.reduceAdd, V.ids, V.idsL, idsA, entOk, List.all_cons, List.all_nil, Bool.and_self, Bool.and_true, Bool.true_and, ltB, noId, Nat.reduceLT, decide_true, Bool.true_eq_false, tyV_id, fdV_id, tyL_id, fdL_id, exL_id, vaL_id, exV_id, vaV_id]) | exact WkF.of (Wk.ro _ _) (by first | rfl | simp only [List.length_cons, List.length_nil, Nat.reduceAdd, V.ids, V.idsL, idsA, entOk, List.all_cons, List.all_nil, Bool.and_self, Bool.and_true, Bool.true_and, ltB, noId, Nat.reduceLT, decide_true, Bool.true_eq_false, tyV_id, fdV_id, tyL_id, fdL_id, exL_id, vaL_id, exV_id, vaV_id]) | refine WkF.tu ?_ | refine WkF.ag ?_ | refine WkFL.cons ?_ ?_ | exact WkFL.nil)
  have e3 : (true && t.kind == 3) = true := by simp [hk]
  rw [e3]
  simp only [if_true]
  cases hg : good t with
  | false =>
    have cb := bad_chk hg
    simp only [Bool.false_eq_true, if_false]
    refine goG Y50_BO @G50_BO ?_
    refine wG Y50_BO (AI (@G50_BO) hk) ?_
    refine AR.callP h3 (AI (@tyV_eq) hk) (AI (@exL_id) (AI (@vaL_id) (AI (@exV_id) @vaV_id))) ?_
    refine goG Y50_BO (AI (@G50_BO) cb) ?_
    refine wG Y50_BO @G50_BO ?_
    refine Fin.gen0 (rs := [.cell 6 41, .tmp 7]) rfl (by first | exact .inl rfl | exact .inr rfl) (by simp only [resX, resA, ↓accU_f, ↓reduceIte, SA, SB, SC, SD, Y50_BO, valG, fpsG, evO, evB, evA, evA1, nilK, eqF, eqC, apOk, intOf, slB, slK,  gd, St.ev, putA, ofl, wrl, putE, V.ofVal, V.ofCell, bin2, un1, seg, fillV, partsOk, Value.oneCell', Nat.reduceBEq, Nat.reduceLT, Nat.reduceSub, Nat.reduceAdd, Nat.reduceMul, Nat.reduceLeDiff, Nat.reduceEqDiff, reduceCtorEq, Int.reduceLT, Int.reduceLE, Int.reduceEq, Int.reduceNe, Int.reduceBEq, Int.reduceBNe, Int.reduceAdd, Int.reduceSub, Int.reduceMul, Int.reduceToNat]; with_reducible exact rfl) ?_
    simp only [tz, tyV_mk, List.map_nil]
    repeat (first | exact WkF.of (Wk.refl _) (by first | rfl | simp only [List.length_cons, List.length_nil, Nat.reduceAdd, V.ids, V.idsL, idsA, entOk, List.all_cons, List.all_nil, Bool.and_self, Bool.and_true, Bool.true_and, ltB, noId, Nat.reduceLT, decide_true, Bool.true_eq_false, tyV_id, fdV_id, tyL_id, fdL_id, exL_id, vaL_id, exV_id, vaV_id]) | exact WkF.of (Wk.ro _ _) (by first | rfl | simp only [List.length_cons, List.length_nil, Nat.reduceAdd, V.ids, V.idsL, idsA, entOk, List.all_cons, List.all_nil, Bool.and_self, Bool.and_true, Bool.true_and, ltB, noId, Nat.reduceLT, decide_true, Bool.true_eq_false, tyV_id, fdV_id, tyL_id, fdL_id, exL_id, vaL_id, exV_id, vaV_id]) | refine WkF.tu ?_ | refine WkF.ag ?_ | refine WkFL.cons ?_ ?_ | exact WkFL.nil)
  | true =>
    have cg := good_chk hg
    obtain ⟨x, hx, hxf⟩ := ptr_elem hg hk
    have hfx := fit_elem hft (x := x) (by rw [hx]; simp)
    have h4 := c_FieldAtR x hfx off w hi
    simp only [if_true, hx, List.headD_cons]
    refine goG Y50_BO @G50_BO ?_
    refine wG Y50_BO (AI (@G50_BO) hk) ?_
    refine AR.callP h3 (AI (@tyV_eq) hk) (AI (@exL_id) (AI (@vaL_id) (AI (@exV_id) @vaV_id))) ?_
    refine goG Y50_BO (AI (@G50_BO) cg) ?_
    refine wG Y50_BO (AI (@G50_BO) hx) ?_
    cases b : fieldA x off w with
    | none =>
      rw [b] at h4
      simp only [Option.getD_none, Option.isSome_none] at h4 ⊢
      refine AR.callP h4 @tyV_eq (AI (@exL_id) (AI (@vaL_id) (AI (@exV_id) @vaV_id))) ?_
      refine goG Y50_BO @G50_BO ?_
      refine wG Y50_BO @G50_BO ?_
      refine Fin.gen0 (rs := [.cell 6 41, .tmp 7]) rfl (by first | exact .inl rfl | exact .inr rfl) (by simp only [resX, resA, ↓accU_f, ↓reduceIte, SA, SB, SC, SD, Y50_BO, valG, fpsG, evO, evB, evA, evA1, nilK, eqF, eqC, apOk, intOf, slB, slK,  gd, St.ev, putA, ofl, wrl, putE, V.ofVal, V.ofCell, bin2, un1, seg, fillV, partsOk, Value.oneCell', Nat.reduceBEq, Nat.reduceLT, Nat.reduceSub, Nat.reduceAdd, Nat.reduceMul, Nat.reduceLeDiff, Nat.reduceEqDiff, reduceCtorEq, Int.reduceLT, Int.reduceLE, Int.reduceEq, Int.reduceNe, Int.reduceBEq, Int.reduceBNe, Int.reduceAdd, Int.reduceSub, Int.reduceMul, Int.reduceToNat]; with_reducible exact rfl) ?_
      simp only [tz, tyV_mk, List.map_nil]
      repeat (first | exact WkF.of (Wk.refl _) (by first | rfl | simp only [List.length_cons, List.length_nil, Nat.reduceAdd, V.ids, V.idsL, idsA, entOk, List.all_cons, List.all_nil, Bool.and_self, Bool.and_true, Bool.true_and, ltB, noId, Nat.reduceLT, decide_true, Bool.true_eq_false, tyV_id, fdV_id, tyL_id, fdL_id, exL_id, vaL_id, exV_id, vaV_id]) | exact WkF.of (Wk.ro _ _) (by first | rfl | simp only [List.length_cons, List.length_nil, Nat.reduceAdd, V.ids, V.idsL, idsA, entOk, List.all_cons, List.all_nil, Bool.and_self, Bool.and_true, Bool.true_and, ltB, noId, Nat.reduceLT, decide_true, Bool.true_eq_false, tyV_id, fdV_id, tyL_id, fdL_id, exL_id, vaL_id, exV_id, vaV_id]) | refine WkF.tu ?_ | refine WkF.ag ?_ | refine WkFL.cons ?_ ?_ | exact WkFL.nil)
    | some y =>
      rw [b] at h4
      simp only [Option.getD_some, Option.isSome_some] at h4 ⊢
      refine AR.callP h4 @tyV_eq (AI (@exL_id) (AI (@vaL_id) (AI (@exV_id) @vaV_id))) ?_
      refine goG Y50_BO @G50_BO ?_
      refine wG Y50_BO @G50_BO ?_
      refine Fin.gen0 (rs := [.cell 6 41, .tmp 7]) rfl (by first | exact .inl rfl | exact .inr rfl) (by simp only [resX, resA, ↓accU_f, ↓reduceIte, SA, SB, SC, SD, Y50_BO, valG, fpsG, evO, evB, evA, evA1, nilK, eqF, eqC, apOk, intOf, slB, slK,  gd, St.ev, putA, ofl, wrl, putE, V.ofVal, V.ofCell, bin2, un1, seg, fillV, partsOk, Value.oneCell', Nat.reduceBEq, Nat.reduceLT, Nat.reduceSub, Nat.reduceAdd, Nat.reduceMul, Nat.reduceLeDiff, Nat.reduceEqDiff, reduceCtorEq, Int.reduceLT, Int.reduceLE, Int.reduceEq, Int.reduceNe, Int.reduceBEq, Int.reduceBNe, Int.reduceAdd, Int.reduceSub, Int.reduceMul, Int.reduceToNat]; with_reducible exact rfl) ?_
      simp only [tyV_eq]
      repeat (first | exact WkF.of (Wk.refl _) (by first | rfl | simp only [List.length_cons, List.length_nil, Nat.reduceAdd, V.ids, V.idsL, idsA, entOk, List.all_cons, List.all_nil, Bool.and_self, Bool.and_true, Bool.true_and, ltB, noId, Nat.reduceLT, decide_true, Bool.true_eq_false, tyV_id, fdV_id, tyL_id, fdL_id, exL_id, vaL_id, exV_id, vaV_id]) | exact WkF.of (Wk.ro _ _) (by first | rfl | simp only [List.length_cons, List.length_nil, Nat.reduceAdd, V.ids, V.idsL, idsA, entOk, List.all_cons, List.all_nil, Bool.and_self, Bool.and_true, Bool.true_and, ltB, noId, Nat.reduceLT, decide_true, Bool.true_eq_false, tyV_id, fdV_id, tyL_id, fdL_id, exL_id, vaL_id, exV_id, vaV_id]) | refine WkF.tu ?_ | refine WkF.ag ?_ | refine WkFL.cons ?_ ?_ | exact WkFL.nil)
end Go.Proofs.YtfggemopnlffeaaGreat
namespace Go.Proofs.YtfggemopnlffeaaGreat
set_option linter.unusedSimpArgs false
set_option linter.unusedVariables false
set_option linter.unnecessarySimpa false
open Go.RowKit
def typ (vs : List Va) (e : Ex) : Ty :=
  if e.op == 2 then tyOf vs e.name
  else if e.op == 5 || e.op == 9 || e.op == 10 then .mk 0 2 4 0 [] []
  else if e.op == 11 || e.op == 17 || e.op == 19 then .mk 0 1 4 0 [] []
  else if e.op == 18 && e.width == 4 then (match e.l with | x :: _ => (fnd vs x 4).1 | [] => tz)
  else tz
theorem typ_mk (vs : List Va) (o n : Int) (s : ByteArray) (w : Int) (l : List Ex) : typ vs (.mk o n s w l) = if o == 2 then tyOf vs s
  else if o == 5 || o == 9 || o == 10 then .mk 0 2 4 0 [] []
  else if o == 11 || o == 17 || o == 19 then .mk 0 1 4 0 [] []
  else if o == 18 && w == 4 then (match l with | x :: _ => (fnd vs x 4).1 | [] => tz)
  else tz := rfl
theorem Y30_BP : type_of% (AI @F_ag_3 (AI @F_ag_41 (AI @F_ag_46 (AI @F_ag_48 (AI @F_ag_9 (AI @F_al_41 (AI @F_el_46 (AI @F_fl_48_0 (AI @F_fl_48_2 (AI @F_fl_48_3 (AI @F_fl_48_4 (AI @F_st_41 (AI @F_sz_3 (AI @F_sz_41 (AI @F_sz_46 (AI @F_sz_48 (@F_sz_9))))))))))))))))) := AI @F_ag_3 (AI @F_ag_41 (AI @F_ag_46 (AI @F_ag_48 (AI @F_ag_9 (AI @F_al_41 (AI @F_el_46 (AI @F_fl_48_0 (AI @F_fl_48_2 (AI @F_fl_48_3 (AI @F_fl_48_4 (AI @F_st_41 (AI @F_sz_3 (AI @F_sz_41 (AI @F_sz_46 (AI @F_sz_48 (@F_sz_9))))))))))))))))
theorem G30_BP : type_of% (AI (@tyV_firm) (AI (@fdV_firm) (AI (@tyV_strip) (AI (@fdV_strip) (AI (@tyV_live) (AI (@tyV_size) (AI (@tyV_isAg) (AI (@tyV_cells) (AI (@fdV_live) (AI (@fdV_size) (AI (@fdV_isAg) (AI (@fdV_cells) (AI (@List.getElem?_map.{0, 0}) (AI (@Int.natCast_nonneg) (AI (@exV_firm) (AI (@exV_strip) (AI (@exV_live) (AI (@exV_size) (AI (@exV_isAg) @exV_cells))))))))))))))))))) := (AI (@tyV_firm) (AI (@fdV_firm) (AI (@tyV_strip) (AI (@fdV_strip) (AI (@tyV_live) (AI (@tyV_size) (AI (@tyV_isAg) (AI (@tyV_cells) (AI (@fdV_live) (AI (@fdV_size) (AI (@fdV_isAg) (AI (@fdV_cells) (AI (@List.getElem?_map.{0, 0}) (AI (@Int.natCast_nonneg) (AI (@exV_firm) (AI (@exV_strip) (AI (@exV_live) (AI (@exV_size) (AI (@exV_isAg) @exV_cells)))))))))))))))))))
theorem c_typed (vs : List Va) (hv : fitV vs) (e : Ex) (hf : efm e = true) : PC Tryz.prog 30 [exV e, (V.sl (vs.map vaV) .ro)] (tyV (typ vs e)) := by
  obtain ⟨o, n, s, w, l⟩ := e
  have hfl := hf
  rw [efm_mk, Bool.and_eq_true, List.all_eq_true] at hfl
  have h1 := c_typeOf vs hv.1 s
  refine PC.enter 41 Tryz.func30 rfl (by decide) rfl rfl (s := [(0, exV (.mk o n s w l)), (1, (V.sl (vs.map vaV) .ro))]) (by rfl) ?_
  simp only [exV_mk]
  rw [typ_mk]
  by_cases h2 : o = 2
  · subst h2
    simp only [Int.reduceBEq, if_true]
    generalize tyOf vs s = t at h1 ⊢
    refine wG Y30_BP @G30_BP ?_
    refine AR.callP h1 True.intro (AI (@exL_id) (AI (@vaL_id) (AI (@exV_id) @vaV_id))) ?_
    refine goG Y30_BP @G30_BP ?_
    refine wG Y30_BP @G30_BP ?_
    refine Fin.gen0 (rs := [.cell 4 41]) rfl (by first | exact .inl rfl | exact .inr rfl) (by simp only [resX, resA, ↓accU_f, ↓reduceIte, SA, SB, SC, SD, Y30_BP, valG, fpsG, evO, evB, evA, evA1, nilK, eqF, eqC, apOk, intOf, slB, slK,  gd, St.ev, putA, ofl, wrl, putE, V.ofVal, V.ofCell, bin2, un1, seg, fillV, partsOk, Value.oneCell', Nat.reduceBEq, Nat.reduceLT, Nat.reduceSub, Nat.reduceAdd, Nat.reduceMul, Nat.reduceLeDiff, Nat.reduceEqDiff, reduceCtorEq, Int.reduceLT, Int.reduceLE, Int.reduceEq, Int.reduceNe, Int.reduceBEq, Int.reduceBNe, Int.reduceAdd, Int.reduceSub, Int.reduceMul, Int.reduceToNat]; with_reducible exact rfl) ?_
    simp only [tyV_eq]
    repeat (first | exact WkF.of (Wk.refl _) (by first | rfl | simp only [List.length_cons, List.length_nil, Nat.reduceAdd, V.ids, V.idsL, idsA, entOk, List.all_cons, List.all_nil, Bool.and_self, Bool.and_true, Bool.true_and, ltB, noId, Nat.reduceLT, decide_true, Bool.true_eq_false, tyV_id, fdV_id, tyL_id, fdL_id, exL_id, vaL_id, exV_id, vaV_id]) | exact WkF.of (Wk.ro _ _) (by first | rfl | simp only [List.length_cons, List.length_nil, Nat.reduceAdd, V.ids, V.idsL, idsA, entOk, List.all_cons, List.all_nil, Bool.and_self, Bool.and_true, Bool.true_and, ltB, noId, Nat.reduceLT, decide_true, Bool.true_eq_false, tyV_id, fdV_id, tyL_id, fdL_id, exL_id, vaL_id, exV_id, vaV_id]) | refine WkF.tu ?_ | refine WkF.ag ?_ | refine WkFL.cons ?_ ?_ | exact WkFL.nil)
  by_cases h5 : o = 5 ∨ o = 9 ∨ o = 10
  · rcases h5 with rfl | rfl | rfl
    all_goals
      simp only [Int.reduceBEq, Bool.or_false, Bool.false_or, Bool.or_true, Bool.true_or, Bool.false_eq_true, if_true, if_false]
      refine wG Y30_BP @G30_BP ?_
      refine Fin.gen0 (rs := [.cell 4 41]) rfl (by first | exact .inl rfl | exact .inr rfl) (by simp only [resX, resA, ↓accU_f, ↓reduceIte, SA, SB, SC, SD, Y30_BP, valG, fpsG, evO, evB, evA, evA1, nilK, eqF, eqC, apOk, intOf, slB, slK,  gd, St.ev, putA, ofl, wrl, putE, V.ofVal, V.ofCell, bin2, un1, seg, fillV, partsOk, Value.oneCell', Nat.reduceBEq, Nat.reduceLT, Nat.reduceSub, Nat.reduceAdd, Nat.reduceMul, Nat.reduceLeDiff, Nat.reduceEqDiff, reduceCtorEq, Int.reduceLT, Int.reduceLE, Int.reduceEq, Int.reduceNe, Int.reduceBEq, Int.reduceBNe, Int.reduceAdd, Int.reduceSub, Int.reduceMul, Int.reduceToNat]; with_reducible exact rfl) ?_
      simp only [tyV_mk, List.map_nil]
      repeat (first | exact WkF.of (Wk.refl _) (by first | rfl | simp only [List.length_cons, List.length_nil, Nat.reduceAdd, V.ids, V.idsL, idsA, entOk, List.all_cons, List.all_nil, Bool.and_self, Bool.and_true, Bool.true_and, ltB, noId, Nat.reduceLT, decide_true, Bool.true_eq_false, tyV_id, fdV_id, tyL_id, fdL_id, exL_id, vaL_id, exV_id, vaV_id]) | exact WkF.of (Wk.ro _ _) (by first | rfl | simp only [List.length_cons, List.length_nil, Nat.reduceAdd, V.ids, V.idsL, idsA, entOk, List.all_cons, List.all_nil, Bool.and_self, Bool.and_true, Bool.true_and, ltB, noId, Nat.reduceLT, decide_true, Bool.true_eq_false, tyV_id, fdV_id, tyL_id, fdL_id, exL_id, vaL_id, exV_id, vaV_id]) | refine WkF.tu ?_ | refine WkF.ag ?_ | refine WkFL.cons ?_ ?_ | exact WkFL.nil)
  by_cases h11 : o = 11 ∨ o = 17 ∨ o = 19
  · rcases h11 with rfl | rfl | rfl
    all_goals
      simp only [Int.reduceBEq, Bool.or_false, Bool.false_or, Bool.or_true, Bool.true_or, Bool.false_eq_true, if_true, if_false]
      refine wG Y30_BP @G30_BP ?_
      refine Fin.gen0 (rs := [.cell 4 41]) rfl (by first | exact .inl rfl | exact .inr rfl) (by simp only [resX, resA, ↓accU_f, ↓reduceIte, SA, SB, SC, SD, Y30_BP, valG, fpsG, evO, evB, evA, evA1, nilK, eqF, eqC, apOk, intOf, slB, slK,  gd, St.ev, putA, ofl, wrl, putE, V.ofVal, V.ofCell, bin2, un1, seg, fillV, partsOk, Value.oneCell', Nat.reduceBEq, Nat.reduceLT, Nat.reduceSub, Nat.reduceAdd, Nat.reduceMul, Nat.reduceLeDiff, Nat.reduceEqDiff, reduceCtorEq, Int.reduceLT, Int.reduceLE, Int.reduceEq, Int.reduceNe, Int.reduceBEq, Int.reduceBNe, Int.reduceAdd, Int.reduceSub, Int.reduceMul, Int.reduceToNat]; with_reducible exact rfl) ?_
      simp only [tyV_mk, List.map_nil]
      repeat (first | exact WkF.of (Wk.refl _) (by first | rfl | simp only [List.length_cons, List.length_nil, Nat.reduceAdd, V.ids, V.idsL, idsA, entOk, List.all_cons, List.all_nil, Bool.and_self, Bool.and_true, Bool.true_and, ltB, noId, Nat.reduceLT, decide_true, Bool.true_eq_false, tyV_id, fdV_id, tyL_id, fdL_id, exL_id, vaL_id, exV_id, vaV_id]) | exact WkF.of (Wk.ro _ _) (by first | rfl | simp only [List.length_cons, List.length_nil, Nat.reduceAdd, V.ids, V.idsL, idsA, entOk, List.all_cons, List.all_nil, Bool.and_self, Bool.and_true, Bool.true_and, ltB, noId, Nat.reduceLT, decide_true, Bool.true_eq_false, tyV_id, fdV_id, tyL_id, fdL_id, exL_id, vaL_id, exV_id, vaV_id]) | refine WkF.tu ?_ | refine WkF.ag ?_ | refine WkFL.cons ?_ ?_ | exact WkFL.nil)
  have k5 : ¬ o = 5 := by omega
  have k9 : ¬ o = 9 := by omega
  have k10 : ¬ o = 10 := by omega
  have k11 : ¬ o = 11 := by omega
  have k17 : ¬ o = 17 := by omega
  have k19 : ¬ o = 19 := by omega
  have e2 : (o == 2) = false := by simp [h2]
  have e5 : (o == 5 || o == 9 || o == 10) = false := by simp [k5, k9, k10]
  have e11 : (o == 11 || o == 17 || o == 19) = false := by simp [k11, k17, k19]
  rw [e2, e5, e11]
  simp only [Bool.false_eq_true, if_false]
  by_cases h18 : o = 18
  case neg =>
    have e18 : (o == 18 && w == 4) = false := by simp [h18]
    rw [e18]
    simp only [Bool.false_eq_true, if_false]
    refine wG Y30_BP (AI (@G30_BP) (AI h2 (AI k5 (AI k9 (AI k10 (AI k11 (AI k17 (AI k19 h18)))))))) ?_
    refine Fin.gen0 (rs := [.cell 4 41]) rfl (by first | exact .inl rfl | exact .inr rfl) (by simp only [resX, resA, ↓accU_f, ↓reduceIte, SA, SB, SC, SD, Y30_BP, valG, fpsG, evO, evB, evA, evA1, nilK, eqF, eqC, apOk, intOf, slB, slK,  gd, St.ev, putA, ofl, wrl, putE, V.ofVal, V.ofCell, bin2, un1, seg, fillV, partsOk, Value.oneCell', Nat.reduceBEq, Nat.reduceLT, Nat.reduceSub, Nat.reduceAdd, Nat.reduceMul, Nat.reduceLeDiff, Nat.reduceEqDiff, reduceCtorEq, Int.reduceLT, Int.reduceLE, Int.reduceEq, Int.reduceNe, Int.reduceBEq, Int.reduceBNe, Int.reduceAdd, Int.reduceSub, Int.reduceMul, Int.reduceToNat]; with_reducible exact rfl) ?_
    simp only [tz, tyV_mk, List.map_nil]
    repeat (first | exact WkF.of (Wk.refl _) (by first | rfl | simp only [List.length_cons, List.length_nil, Nat.reduceAdd, V.ids, V.idsL, idsA, entOk, List.all_cons, List.all_nil, Bool.and_self, Bool.and_true, Bool.true_and, ltB, noId, Nat.reduceLT, decide_true, Bool.true_eq_false, tyV_id, fdV_id, tyL_id, fdL_id, exL_id, vaL_id, exV_id, vaV_id]) | exact WkF.of (Wk.ro _ _) (by first | rfl | simp only [List.length_cons, List.length_nil, Nat.reduceAdd, V.ids, V.idsL, idsA, entOk, List.all_cons, List.all_nil, Bool.and_self, Bool.and_true, Bool.true_and, ltB, noId, Nat.reduceLT, decide_true, Bool.true_eq_false, tyV_id, fdV_id, tyL_id, fdL_id, exL_id, vaL_id, exV_id, vaV_id]) | refine WkF.tu ?_ | refine WkF.ag ?_ | refine WkFL.cons ?_ ?_ | exact WkFL.nil)
  subst h18
  by_cases hw : w = 4
  case neg =>
    have e18 : ((18 : Int) == 18 && w == 4) = false := by simp [hw]
    rw [e18]
    simp only [Bool.false_eq_true, if_false]
    refine wG Y30_BP (AI (@G30_BP) hw) ?_
    refine Fin.gen0 (rs := [.cell 4 41]) rfl (by first | exact .inl rfl | exact .inr rfl) (by simp only [resX, resA, ↓accU_f, ↓reduceIte, SA, SB, SC, SD, Y30_BP, valG, fpsG, evO, evB, evA, evA1, nilK, eqF, eqC, apOk, intOf, slB, slK,  gd, St.ev, putA, ofl, wrl, putE, V.ofVal, V.ofCell, bin2, un1, seg, fillV, partsOk, Value.oneCell', Nat.reduceBEq, Nat.reduceLT, Nat.reduceSub, Nat.reduceAdd, Nat.reduceMul, Nat.reduceLeDiff, Nat.reduceEqDiff, reduceCtorEq, Int.reduceLT, Int.reduceLE, Int.reduceEq, Int.reduceNe, Int.reduceBEq, Int.reduceBNe, Int.reduceAdd, Int.reduceSub, Int.reduceMul, Int.reduceToNat]; with_reducible exact rfl) ?_
    simp only [tz, tyV_mk, List.map_nil]
    repeat (first | exact WkF.of (Wk.refl _) (by first | rfl | simp only [List.length_cons, List.length_nil, Nat.reduceAdd, V.ids, V.idsL, idsA, entOk, List.all_cons, List.all_nil, Bool.and_self, Bool.and_true, Bool.true_and, ltB, noId, Nat.reduceLT, decide_true, Bool.true_eq_false, tyV_id, fdV_id, tyL_id, fdL_id, exL_id, vaL_id, exV_id, vaV_id]) | exact WkF.of (Wk.ro _ _) (by first | rfl | simp only [List.length_cons, List.length_nil, Nat.reduceAdd, V.ids, V.idsL, idsA, entOk, List.all_cons, List.all_nil, Bool.and_self, Bool.and_true, Bool.true_and, ltB, noId, Nat.reduceLT, decide_true, Bool.true_eq_false, tyV_id, fdV_id, tyL_id, fdL_id, exL_id, vaL_id, exV_id, vaV_id]) | refine WkF.tu ?_ | refine WkF.ag ?_ | refine WkFL.cons ?_ ?_ | exact WkFL.nil)
  subst hw
  obtain ⟨x, rfl⟩ := efm_one hf
  have hp := c_found vs hv x (hfl.2 x (by simp))
  have hg0 : (List.map exV [x])[0]? = some (exV x) := rfl
  have hq : (if ((18 : Int) == 18 && (4 : Int) == 4) = true then (match [x] with | x :: _ => (fnd vs x 4).1 | [] => tz) else tz) = (fnd vs x 4).1 := rfl
  rw [hq]
  generalize fnd vs x 4 = q at hp ⊢
  refine wG Y30_BP (AI (@G30_BP) hg0) ?_
  refine AR.callP hp @exV_eq (AI (@exL_id) (AI (@vaL_id) (AI (@exV_id) @vaV_id))) ?_
  refine goG Y30_BP @G30_BP ?_
  refine wG Y30_BP @G30_BP ?_
  refine Fin.gen0 (rs := [.cell 4 41]) rfl (by first | exact .inl rfl | exact .inr rfl) (by simp only [resX, resA, ↓accU_f, ↓reduceIte, SA, SB, SC, SD, Y30_BP, valG, fpsG, evO, evB, evA, evA1, nilK, eqF, eqC, apOk, intOf, slB, slK,  gd, St.ev, putA, ofl, wrl, putE, V.ofVal, V.ofCell, bin2, un1, seg, fillV, partsOk, Value.oneCell', Nat.reduceBEq, Nat.reduceLT, Nat.reduceSub, Nat.reduceAdd, Nat.reduceMul, Nat.reduceLeDiff, Nat.reduceEqDiff, reduceCtorEq, Int.reduceLT, Int.reduceLE, Int.reduceEq, Int.reduceNe, Int.reduceBEq, Int.reduceBNe, Int.reduceAdd, Int.reduceSub, Int.reduceMul, Int.reduceToNat]; with_reducible exact rfl) ?_
  simp only [tyV_eq]
  repeat (first | exact WkF.of (Wk.refl _) (by first | rfl | simp only [List.length_cons, List.length_nil, Nat.reduceAdd, V.ids, V.idsL, idsA, entOk, List.all_cons, List.all_nil, Bool.and_self, Bool.and_true, Bool.true_and, ltB, noId, Nat.reduceLT, decide_true, Bool.true_eq_false, tyV_id, fdV_id, tyL_id, fdL_id, exL_id, vaL_id, exV_id, vaV_id]) | exact WkF.of (Wk.ro _ _) (by first | rfl | simp only [List.length_cons, List.length_nil, Nat.reduceAdd, V.ids, V.idsL, idsA, entOk, List.all_cons, List.all_nil, Bool.and_self, Bool.and_true, Bool.true_and, ltB, noId, Nat.reduceLT, decide_true, Bool.true_eq_false, tyV_id, fdV_id, tyL_id, fdL_id, exL_id, vaL_id, exV_id, vaV_id]) | refine WkF.tu ?_ | refine WkF.ag ?_ | refine WkFL.cons ?_ ?_ | exact WkFL.nil)
theorem Y48_BP : type_of% (AI @F_ag_3 (AI @F_ag_41 (AI @F_ag_46 (AI @F_ag_48 (AI @F_ag_9 (AI @F_al_41 (AI @F_el_46 (AI @F_fl_48_0 (AI @F_fl_48_2 (AI @F_fl_48_3 (AI @F_fl_48_4 (AI @F_st_41 (AI @F_sz_3 (AI @F_sz_41 (AI @F_sz_46 (AI @F_sz_48 (@F_sz_9))))))))))))))))) := AI @F_ag_3 (AI @F_ag_41 (AI @F_ag_46 (AI @F_ag_48 (AI @F_ag_9 (AI @F_al_41 (AI @F_el_46 (AI @F_fl_48_0 (AI @F_fl_48_2 (AI @F_fl_48_3 (AI @F_fl_48_4 (AI @F_st_41 (AI @F_sz_3 (AI @F_sz_41 (AI @F_sz_46 (AI @F_sz_48 (@F_sz_9))))))))))))))))
theorem G48_BP : type_of% (AI (@tyV_firm) (AI (@fdV_firm) (AI (@tyV_strip) (AI (@fdV_strip) (AI (@tyV_live) (AI (@tyV_size) (AI (@tyV_isAg) (AI (@tyV_cells) (AI (@fdV_live) (AI (@fdV_size) (AI (@fdV_isAg) (AI (@fdV_cells) (AI (@List.getElem?_map.{0, 0}) (AI (@Int.natCast_nonneg) (AI (@exV_firm) (AI (@exV_strip) (AI (@exV_live) (AI (@exV_size) (AI (@exV_isAg) @exV_cells))))))))))))))))))) := (AI (@tyV_firm) (AI (@fdV_firm) (AI (@tyV_strip) (AI (@fdV_strip) (AI (@tyV_live) (AI (@tyV_size) (AI (@tyV_isAg) (AI (@tyV_cells) (AI (@fdV_live) (AI (@fdV_size) (AI (@fdV_isAg) (AI (@fdV_cells) (AI (@List.getElem?_map.{0, 0}) (AI (@Int.natCast_nonneg) (AI (@exV_firm) (AI (@exV_strip) (AI (@exV_live) (AI (@exV_size) (AI (@exV_isAg) @exV_cells)))))))))))))))))))
theorem c_kindR (vs : List Va) (hv : fitV vs) (e : Ex) (hf : efm e = true) : PC Tryz.prog 48 [exV e, (V.sl (vs.map vaV) .ro)] (tyV (typ vs e)) := by
  obtain ⟨o, n, s, w, l⟩ := e
  have hfl := hf
  rw [efm_mk, Bool.and_eq_true, List.all_eq_true] at hfl
  have h1 := c_typeOfR vs hv.1 s
  refine PC.enter 41 Tryz.func48 rfl (by decide) rfl rfl (s := [(0, exV (.mk o n s w l)), (1, (V.sl (vs.map vaV) .ro))]) (by rfl) ?_
  simp only [exV_mk]
  rw [typ_mk]
  by_cases h2 : o = 2
  · subst h2
    simp only [Int.reduceBEq, if_true]
    generalize tyOf vs s = t at h1 ⊢
    refine wG Y48_BP @G48_BP ?_
    refine AR.callP h1 True.intro (AI (@exL_id) (AI (@vaL_id) (AI (@exV_id) @vaV_id))) ?_
    refine goG Y48_BP @G48_BP ?_
    refine wG Y48_BP @G48_BP ?_
    refine Fin.gen0 (rs := [.cell 4 41]) rfl (by first | exact .inl rfl | exact .inr rfl) (by simp only [resX, resA, ↓accU_f, ↓reduceIte, SA, SB, SC, SD, Y48_BP, valG, fpsG, evO, evB, evA, evA1, nilK, eqF, eqC, apOk, intOf, slB, slK,  gd, St.ev, putA, ofl, wrl, putE, V.ofVal, V.ofCell, bin2, un1, seg, fillV, partsOk, Value.oneCell', Nat.reduceBEq, Nat.reduceLT, Nat.reduceSub, Nat.reduceAdd, Nat.reduceMul, Nat.reduceLeDiff, Nat.reduceEqDiff, reduceCtorEq, Int.reduceLT, Int.reduceLE, Int.reduceEq, Int.reduceNe, Int.reduceBEq, Int.reduceBNe, Int.reduceAdd, Int.reduceSub, Int.reduceMul, Int.reduceToNat]; with_reducible exact rfl) ?_
    simp only [tyV_eq]
    repeat (first | exact WkF.of (Wk.refl _) (by first | rfl | simp only [List.length_cons, List.length_nil, Nat.reduceAdd, V.ids, V.idsL, idsA, entOk, List.all_cons, List.all_nil, Bool.and_self, Bool.and_true, Bool.true_and, ltB, noId, Nat.reduceLT, decide_true, Bool.true_eq_false, tyV_id, fdV_id, tyL_id, fdL_id, exL_id, vaL_id, exV_id, vaV_id]) | exact WkF.of (Wk.ro _ _) (by first | rfl | simp only [List.length_cons, List.length_nil, Nat.reduceAdd, V.ids, V.idsL, idsA, entOk, List.all_cons, List.all_nil, Bool.and_self, Bool.and_true, Bool.true_and, ltB, noId, Nat.reduceLT, decide_true, Bool.true_eq_false, tyV_id, fdV_id, tyL_id, fdL_id, exL_id, vaL_id, exV_id, vaV_id]) | refine WkF.tu ?_ | refine WkF.ag ?_ | refine WkFL.cons ?_ ?_ | exact WkFL.nil)
  by_cases h5 : o = 5 ∨ o = 9 ∨ o = 10
  · rcases h5 with rfl | rfl | rfl
    all_goals
      simp only [Int.reduceBEq, Bool.or_false, Bool.false_or, Bool.or_true, Bool.true_or, Bool.false_eq_true, if_true, if_false]
      refine wG Y48_BP @G48_BP ?_
      refine Fin.gen0 (rs := [.cell 4 41]) rfl (by first | exact .inl rfl | exact .inr rfl) (by simp only [resX, resA, ↓accU_f, ↓reduceIte, SA, SB, SC, SD, Y48_BP, valG, fpsG, evO, evB, evA, evA1, nilK, eqF, eqC, apOk, intOf, slB, slK,  gd, St.ev, putA, ofl, wrl, putE, V.ofVal, V.ofCell, bin2, un1, seg, fillV, partsOk, Value.oneCell', Nat.reduceBEq, Nat.reduceLT, Nat.reduceSub, Nat.reduceAdd, Nat.reduceMul, Nat.reduceLeDiff, Nat.reduceEqDiff, reduceCtorEq, Int.reduceLT, Int.reduceLE, Int.reduceEq, Int.reduceNe, Int.reduceBEq, Int.reduceBNe, Int.reduceAdd, Int.reduceSub, Int.reduceMul, Int.reduceToNat]; with_reducible exact rfl) ?_
      simp only [tyV_mk, List.map_nil]
      repeat (first | exact WkF.of (Wk.refl _) (by first | rfl | simp only [List.length_cons, List.length_nil, Nat.reduceAdd, V.ids, V.idsL, idsA, entOk, List.all_cons, List.all_nil, Bool.and_self, Bool.and_true, Bool.true_and, ltB, noId, Nat.reduceLT, decide_true, Bool.true_eq_false, tyV_id, fdV_id, tyL_id, fdL_id, exL_id, vaL_id, exV_id, vaV_id]) | exact WkF.of (Wk.ro _ _) (by first | rfl | simp only [List.length_cons, List.length_nil, Nat.reduceAdd, V.ids, V.idsL, idsA, entOk, List.all_cons, List.all_nil, Bool.and_self, Bool.and_true, Bool.true_and, ltB, noId, Nat.reduceLT, decide_true, Bool.true_eq_false, tyV_id, fdV_id, tyL_id, fdL_id, exL_id, vaL_id, exV_id, vaV_id]) | refine WkF.tu ?_ | refine WkF.ag ?_ | refine WkFL.cons ?_ ?_ | exact WkFL.nil)
  by_cases h11 : o = 11 ∨ o = 17 ∨ o = 19
  · rcases h11 with rfl | rfl | rfl
    all_goals
      simp only [Int.reduceBEq, Bool.or_false, Bool.false_or, Bool.or_true, Bool.true_or, Bool.false_eq_true, if_true, if_false]
      refine wG Y48_BP @G48_BP ?_
      refine Fin.gen0 (rs := [.cell 4 41]) rfl (by first | exact .inl rfl | exact .inr rfl) (by simp only [resX, resA, ↓accU_f, ↓reduceIte, SA, SB, SC, SD, Y48_BP, valG, fpsG, evO, evB, evA, evA1, nilK, eqF, eqC, apOk, intOf, slB, slK,  gd, St.ev, putA, ofl, wrl, putE, V.ofVal, V.ofCell, bin2, un1, seg, fillV, partsOk, Value.oneCell', Nat.reduceBEq, Nat.reduceLT, Nat.reduceSub, Nat.reduceAdd, Nat.reduceMul, Nat.reduceLeDiff, Nat.reduceEqDiff, reduceCtorEq, Int.reduceLT, Int.reduceLE, Int.reduceEq, Int.reduceNe, Int.reduceBEq, Int.reduceBNe, Int.reduceAdd, Int.reduceSub, Int.reduceMul, Int.reduceToNat]; with_reducible exact rfl) ?_
      simp only [tyV_mk, List.map_nil]
      repeat (first | exact WkF.of (Wk.refl _) (by first | rfl | simp only [List.length_cons, List.length_nil, Nat.reduceAdd, V.ids, V.idsL, idsA, entOk, List.all_cons, List.all_nil, Bool.and_self, Bool.and_true, Bool.true_and, ltB, noId, Nat.reduceLT, decide_true, Bool.true_eq_false, tyV_id, fdV_id, tyL_id, fdL_id, exL_id, vaL_id, exV_id, vaV_id]) | exact WkF.of (Wk.ro _ _) (by first | rfl | simp only [List.length_cons, List.length_nil, Nat.reduceAdd, V.ids, V.idsL, idsA, entOk, List.all_cons, List.all_nil, Bool.and_self, Bool.and_true, Bool.true_and, ltB, noId, Nat.reduceLT, decide_true, Bool.true_eq_false, tyV_id, fdV_id, tyL_id, fdL_id, exL_id, vaL_id, exV_id, vaV_id]) | refine WkF.tu ?_ | refine WkF.ag ?_ | refine WkFL.cons ?_ ?_ | exact WkFL.nil)
  have k5 : ¬ o = 5 := by omega
  have k9 : ¬ o = 9 := by omega
  have k10 : ¬ o = 10 := by omega
  have k11 : ¬ o = 11 := by omega
  have k17 : ¬ o = 17 := by omega
  have k19 : ¬ o = 19 := by omega
  have e2 : (o == 2) = false := by simp [h2]
  have e5 : (o == 5 || o == 9 || o == 10) = false := by simp [k5, k9, k10]
  have e11 : (o == 11 || o == 17 || o == 19) = false := by simp [k11, k17, k19]
  rw [e2, e5, e11]
  simp only [Bool.false_eq_true, if_false]
  by_cases h18 : o = 18
  case neg =>
    have e18 : (o == 18 && w == 4) = false := by simp [h18]
    rw [e18]
    simp only [Bool.false_eq_true, if_false]
    refine wG Y48_BP (AI (@G48_BP) (AI h2 (AI k5 (AI k9 (AI k10 (AI k11 (AI k17 (AI k19 h18)))))))) ?_
    refine Fin.gen0 (rs := [.cell 4 41]) rfl (by first | exact .inl rfl | exact .inr rfl) (by simp only [resX, resA, ↓accU_f, ↓reduceIte, SA, SB, SC, SD, Y48_BP, valG, fpsG, evO, evB, evA, evA1, nilK, eqF, eqC, apOk, intOf, slB, slK,  gd, St.ev, putA, ofl, wrl, putE, V.ofVal, V.ofCell, bin2, un1, seg, fillV, partsOk, Value.oneCell', Nat.reduceBEq, Nat.reduceLT, Nat.reduceSub, Nat.reduceAdd, Nat.reduceMul, Nat.reduceLeDiff, Nat.reduceEqDiff, reduceCtorEq, Int.reduceLT, Int.reduceLE, Int.reduceEq, Int.reduceNe, Int.reduceBEq, Int.reduceBNe, Int.reduceAdd, Int.reduceSub, Int.reduceMul, Int.reduceToNat]; with_reducible exact rfl) ?_
    simp only [tz, tyV_mk, List.map_nil]
    repeat (first | exact WkF.of (Wk.refl _) (by first | rfl | simp only [List.length_cons, List.length_nil, Nat.reduceAdd, V.ids, V.idsL, idsA, entOk, List.all_cons, List.all_nil, Bool.and_self, Bool.and_true, Bool.true_and, ltB, noId, Nat.reduceLT, decide_true, Bool.true_eq_false, tyV_id, fdV_id, tyL_id, fdL_id, exL_id, vaL_id, exV_id, vaV_id]) | exact WkF.of (Wk.ro _ _) (by first | rfl | simp only [List.length_cons, List.length_nil, Nat.reduceAdd, V.ids, V.idsL, idsA, entOk, List.all_cons, List.all_nil, Bool.and_self, Bool.and_true, Bool.true_and, ltB, noId, Nat.reduceLT, decide_true, Bool.true_eq_false, tyV_id, fdV_id, tyL_id, fdL_id, exL_id, vaL_id, exV_id, vaV_id]) | refine WkF.tu ?_ | refine WkF.ag ?_ | refine WkFL.cons ?_ ?_ | exact WkFL.nil)
  subst h18
  by_cases hw : w = 4
  case neg =>
    have e18 : ((18 : Int) == 18 && w == 4) = false := by simp [hw]
    rw [e18]
    simp only [Bool.false_eq_true, if_false]
    refine wG Y48_BP (AI (@G48_BP) hw) ?_
    refine Fin.gen0 (rs := [.cell 4 41]) rfl (by first | exact .inl rfl | exact .inr rfl) (by simp only [resX, resA, ↓accU_f, ↓reduceIte, SA, SB, SC, SD, Y48_BP, valG, fpsG, evO, evB, evA, evA1, nilK, eqF, eqC, apOk, intOf, slB, slK,  gd, St.ev, putA, ofl, wrl, putE, V.ofVal, V.ofCell, bin2, un1, seg, fillV, partsOk, Value.oneCell', Nat.reduceBEq, Nat.reduceLT, Nat.reduceSub, Nat.reduceAdd, Nat.reduceMul, Nat.reduceLeDiff, Nat.reduceEqDiff, reduceCtorEq, Int.reduceLT, Int.reduceLE, Int.reduceEq, Int.reduceNe, Int.reduceBEq, Int.reduceBNe, Int.reduceAdd, Int.reduceSub, Int.reduceMul, Int.reduceToNat]; with_reducible exact rfl) ?_
    simp only [tz, tyV_mk, List.map_nil]
    repeat (first | exact WkF.of (Wk.refl _) (by first | rfl | simp only [List.length_cons, List.length_nil, Nat.reduceAdd, V.ids, V.idsL, idsA, entOk, List.all_cons, List.all_nil, Bool.and_self, Bool.and_true, Bool.true_and, ltB, noId, Nat.reduceLT, decide_true, Bool.true_eq_false, tyV_id, fdV_id, tyL_id, fdL_id, exL_id, vaL_id, exV_id, vaV_id]) | exact WkF.of (Wk.ro _ _) (by first | rfl | simp only [List.length_cons, List.length_nil, Nat.reduceAdd, V.ids, V.idsL, idsA, entOk, List.all_cons, List.all_nil, Bool.and_self, Bool.and_true, Bool.true_and, ltB, noId, Nat.reduceLT, decide_true, Bool.true_eq_false, tyV_id, fdV_id, tyL_id, fdL_id, exL_id, vaL_id, exV_id, vaV_id]) | refine WkF.tu ?_ | refine WkF.ag ?_ | refine WkFL.cons ?_ ?_ | exact WkFL.nil)
  subst hw
  obtain ⟨x, rfl⟩ := efm_one hf
  have hp := c_foundR vs hv x (hfl.2 x (by simp)) 4
  have hg0 : (List.map exV [x])[0]? = some (exV x) := rfl
  have hq : (if ((18 : Int) == 18 && (4 : Int) == 4) = true then (match [x] with | x :: _ => (fnd vs x 4).1 | [] => tz) else tz) = (fnd vs x 4).1 := rfl
  rw [hq]
  generalize fnd vs x 4 = q at hp ⊢
  refine wG Y48_BP (AI (@G48_BP) hg0) ?_
  refine AR.callP hp @exV_eq (AI (@exL_id) (AI (@vaL_id) (AI (@exV_id) @vaV_id))) ?_
  refine goG Y48_BP @G48_BP ?_
  refine wG Y48_BP @G48_BP ?_
  refine Fin.gen0 (rs := [.cell 4 41]) rfl (by first | exact .inl rfl | exact .inr rfl) (by simp only [resX, resA, ↓accU_f, ↓reduceIte, SA, SB, SC, SD, Y48_BP, valG, fpsG, evO, evB, evA, evA1, nilK, eqF, eqC, apOk, intOf, slB, slK,  gd, St.ev, putA, ofl, wrl, putE, V.ofVal, V.ofCell, bin2, un1, seg, fillV, partsOk, Value.oneCell', Nat.reduceBEq, Nat.reduceLT, Nat.reduceSub, Nat.reduceAdd, Nat.reduceMul, Nat.reduceLeDiff, Nat.reduceEqDiff, reduceCtorEq, Int.reduceLT, Int.reduceLE, Int.reduceEq, Int.reduceNe, Int.reduceBEq, Int.reduceBNe, Int.reduceAdd, Int.reduceSub, Int.reduceMul, Int.reduceToNat]; with_reducible exact rfl) ?_
  simp only [tyV_eq]
  repeat (first | exact WkF.of (Wk.refl _) (by first | rfl | simp only [List.length_cons, List.length_nil, Nat.reduceAdd, V.ids, V.idsL, idsA, entOk, List.all_cons, List.all_nil, Bool.and_self, Bool.and_true, Bool.true_and, ltB, noId, Nat.reduceLT, decide_true, Bool.true_eq_false, tyV_id, fdV_id, tyL_id, fdL_id, exL_id, vaL_id, exV_id, vaV_id]) | exact WkF.of (Wk.ro _ _) (by first | rfl | simp only [List.length_cons, List.length_nil, Nat.reduceAdd, V.ids, V.idsL, idsA, entOk, List.all_cons, List.all_nil, Bool.and_self, Bool.and_true, Bool.true_and, ltB, noId, Nat.reduceLT, decide_true, Bool.true_eq_false, tyV_id, fdV_id, tyL_id, fdL_id, exL_id, vaL_id, exV_id, vaV_id]) | refine WkF.tu ?_ | refine WkF.ag ?_ | refine WkFL.cons ?_ ?_ | exact WkFL.nil)
end Go.Proofs.YtfggemopnlffeaaGreat
namespace Go.Proofs.YtfggemopnlffeaaGreat
set_option linter.unusedSimpArgs false
set_option linter.unusedVariables false
set_option linter.unnecessarySimpa false
open Go.RowKit
def exT (vs : List Va) (e : Ex) : Ty × Int := if chkE vs e == 0 then (if acs vs e then (typ vs e, 0) else (tz, 16)) else (tz, chkE vs e)
theorem chkE_efm {vs : List Va} {e : Ex} (h : chkE vs e = 0) : efm e = true := by
  unfold chkE at h
  cases b : efm e with
  | true => rfl
  | false =>
    rw [b] at h
    split at h
    · cases h
    · simp at h
end Go.Proofs.YtfggemopnlffeaaGreat
