import Derived.Test.YtfggemopnlffeaaGreatHv
import Derived.Test.YtfggemopnlffeaaGreatPm
import Derived.Test.YtfggemopnlffeaaGreatLe
import Derived.Test.YtfggemopnlffeaaGreatJA
import Derived.Test.YtfggemopnlffeaaGreatAo
namespace Go.Proofs.YtfggemopnlffeaaGreat
set_option linter.unusedSimpArgs false
set_option linter.unusedVariables false
set_option linter.unnecessarySimpa false
open Go.RowKit
theorem Y84_B7 : type_of% (AI @F_al_41 (AI @F_by_41 (AI @F_el_38 (@F_sz_41)))) := AI @F_al_41 (AI @F_by_41 (AI @F_el_38 (@F_sz_41)))
theorem G84_B7 : type_of% @List.length_map.{0, 0} := @List.length_map.{0, 0}
theorem c_clT0 : PC Tryz.prog 84 [.sl [] .ro] (.sl [] .ro) := by
  refine ACalls.nil1 ?_ ?_
  · refine PC.enter 8 Tryz.func84 rfl (by decide) rfl rfl (s := [(0, .sl [] .nz)]) (by rfl) ?_
    refine wG Y84_B7 @G84_B7 ?_
    refine Fin.gen0 (rs := [.tmp 2]) rfl (by first | exact .inl rfl | exact .inr rfl) (by simp only [resX, resA, ↓accU_f, ↓reduceIte, SA, SB, SC, SD, Y84_B7, valG, fpsG, evO, evB, evA, evA1, nilK, eqF, eqC, apOk, intOf, slB, slK,  gd, St.ev, putA, ofl, wrl, putE, V.ofVal, V.ofCell, bin2, un1, seg, fillV, partsOk, Value.oneCell', Nat.reduceBEq, Nat.reduceLT, Nat.reduceSub, Nat.reduceAdd, Nat.reduceMul, Nat.reduceLeDiff, Nat.reduceEqDiff, reduceCtorEq, Int.reduceLT, Int.reduceLE, Int.reduceEq, Int.reduceNe, Int.reduceBEq, Int.reduceBNe, Int.reduceAdd, Int.reduceSub, Int.reduceMul, Int.reduceToNat]; with_reducible exact rfl) ?_
    repeat (first | exact WkF.of (Wk.refl _) (by first | rfl | simp only [List.length_cons, List.length_nil, Nat.reduceAdd, V.ids, V.idsL, idsA, entOk, List.all_cons, List.all_nil, Bool.and_self, Bool.and_true, Bool.true_and, ltB, noId, Nat.reduceLT, decide_true, Bool.true_eq_false, tyV_id, fdV_id, tyL_id, fdL_id, flT_id, flF_id]) | exact WkF.of (Wk.ro _ _) (by first | rfl | simp only [List.length_cons, List.length_nil, Nat.reduceAdd, V.ids, V.idsL, idsA, entOk, List.all_cons, List.all_nil, Bool.and_self, Bool.and_true, Bool.true_and, ltB, noId, Nat.reduceLT, decide_true, Bool.true_eq_false, tyV_id, fdV_id, tyL_id, fdL_id, flT_id, flF_id]) | refine WkF.tu ?_ | refine WkF.ag ?_ | refine WkFL.cons ?_ ?_ | exact WkFL.nil)
  · refine PC.enter 8 Tryz.func84 rfl (by decide) rfl rfl (s := [(0, .sl [] .nn)]) (by rfl) ?_
    refine wG Y84_B7 @G84_B7 ?_
    refine Fin.gen0 (rs := [.tmp 2]) rfl (by first | exact .inl rfl | exact .inr rfl) (by simp only [resX, resA, ↓accU_f, ↓reduceIte, SA, SB, SC, SD, Y84_B7, valG, fpsG, evO, evB, evA, evA1, nilK, eqF, eqC, apOk, intOf, slB, slK,  gd, St.ev, putA, ofl, wrl, putE, V.ofVal, V.ofCell, bin2, un1, seg, fillV, partsOk, Value.oneCell', Nat.reduceBEq, Nat.reduceLT, Nat.reduceSub, Nat.reduceAdd, Nat.reduceMul, Nat.reduceLeDiff, Nat.reduceEqDiff, reduceCtorEq, Int.reduceLT, Int.reduceLE, Int.reduceEq, Int.reduceNe, Int.reduceBEq, Int.reduceBNe, Int.reduceAdd, Int.reduceSub, Int.reduceMul, Int.reduceToNat]; with_reducible exact rfl) ?_
    repeat (first | exact WkF.of (Wk.refl _) (by first | rfl | simp only [List.length_cons, List.length_nil, Nat.reduceAdd, V.ids, V.idsL, idsA, entOk, List.all_cons, List.all_nil, Bool.and_self, Bool.and_true, Bool.true_and, ltB, noId, Nat.reduceLT, decide_true, Bool.true_eq_false, tyV_id, fdV_id, tyL_id, fdL_id, flT_id, flF_id]) | exact WkF.of (Wk.ro _ _) (by first | rfl | simp only [List.length_cons, List.length_nil, Nat.reduceAdd, V.ids, V.idsL, idsA, entOk, List.all_cons, List.all_nil, Bool.and_self, Bool.and_true, Bool.true_and, ltB, noId, Nat.reduceLT, decide_true, Bool.true_eq_false, tyV_id, fdV_id, tyL_id, fdL_id, flT_id, flF_id]) | refine WkF.tu ?_ | refine WkF.ag ?_ | refine WkFL.cons ?_ ?_ | exact WkFL.nil)
theorem c_clT1 {l : List Ty} (hne : 0 < l.length) (hl : l.length * 72 ≤ 140737488355328) : DC Tryz.prog 84 [.sl (l.map tyV) .nn] [.free] (.bs 0 l.length) [.box (flatV (l.map tyV))] := by
  refine DC.enterN 1 8 Tryz.func84 rfl (by decide) rfl rfl (s := [(0, .sl (l.map tyV) .nn)]) (by rfl) ?_
  refine wG Y84_B7 @G84_B7 ?_
  refine AWp.region ?_
  refine AR.one rfl (by simp only [↓accU_f, ↓reduceIte, SA, SB, SC, SD, Y84_B7, valG, fpsG, evO, evB, evA, evA1, nilK, eqF, eqC, apOk, intOf, slB, slK,  gd, St.ev, putA, ofl, wrl, putE, V.ofVal, V.ofCell, bin2, un1, seg, fillV, partsOk, Value.oneCell', Nat.reduceBEq, Nat.reduceLT, Nat.reduceSub, Nat.reduceAdd, Nat.reduceMul, Nat.reduceLeDiff, Nat.reduceEqDiff, reduceCtorEq, Int.reduceLT, Int.reduceLE, Int.reduceEq, Int.reduceNe, Int.reduceBEq, Int.reduceBNe, Int.reduceAdd, Int.reduceSub, Int.reduceMul, Int.reduceToNat]; with_reducible exact rfl) (by simp only [↓accU_f, ↓reduceIte, SA, SB, SC, SD, Y84_B7, valG, fpsG, evO, evB, evA, evA1, nilK, eqF, eqC, apOk, intOf, slB, slK,  gd, St.ev, putA, ofl, wrl, putE, V.ofVal, V.ofCell, bin2, un1, seg, fillV, partsOk, Value.oneCell', Nat.reduceBEq, Nat.reduceLT, Nat.reduceSub, Nat.reduceAdd, Nat.reduceMul, Nat.reduceLeDiff, Nat.reduceEqDiff, reduceCtorEq, Int.reduceLT, Int.reduceLE, Int.reduceEq, Int.reduceNe, Int.reduceBEq, Int.reduceBNe, Int.reduceAdd, Int.reduceSub, Int.reduceMul, Int.reduceToNat]; with_reducible exact rfl) (by simp only [↓accU_f, ↓reduceIte, SA, SB, SC, SD, Y84_B7, valG, fpsG, evO, evB, evA, evA1, nilK, eqF, eqC, apOk, intOf, slB, slK,  gd, St.ev, putA, ofl, wrl, putE, V.ofVal, V.ofCell, bin2, un1, seg, fillV, partsOk, Value.oneCell', Nat.reduceBEq, Nat.reduceLT, Nat.reduceSub, Nat.reduceAdd, Nat.reduceMul, Nat.reduceLeDiff, Nat.reduceEqDiff, reduceCtorEq, Int.reduceLT, Int.reduceLE, Int.reduceEq, Int.reduceNe, Int.reduceBEq, Int.reduceBNe, Int.reduceAdd, Int.reduceSub, Int.reduceMul, Int.reduceToNat]; with_reducible exact rfl) ?_
  refine AR.one rfl (by simp only [↓accU_f, ↓reduceIte, SA, SB, SC, SD, Y84_B7, valG, fpsG, evO, evB, evA, evA1, nilK, eqF, eqC, apOk, intOf, slB, slK,  gd, St.ev, putA, ofl, wrl, putE, V.ofVal, V.ofCell, bin2, un1, seg, fillV, partsOk, Value.oneCell', Nat.reduceBEq, Nat.reduceLT, Nat.reduceSub, Nat.reduceAdd, Nat.reduceMul, Nat.reduceLeDiff, Nat.reduceEqDiff, reduceCtorEq, Int.reduceLT, Int.reduceLE, Int.reduceEq, Int.reduceNe, Int.reduceBEq, Int.reduceBNe, Int.reduceAdd, Int.reduceSub, Int.reduceMul, Int.reduceToNat]; with_reducible exact rfl) (by simp only [↓accU_f, ↓reduceIte, SA, SB, SC, SD, Y84_B7, valG, fpsG, evO, evB, evA, evA1, nilK, eqF, eqC, apOk, intOf, slB, slK,  gd, St.ev, putA, ofl, wrl, putE, V.ofVal, V.ofCell, bin2, un1, seg, fillV, partsOk, Value.oneCell', Nat.reduceBEq, Nat.reduceLT, Nat.reduceSub, Nat.reduceAdd, Nat.reduceMul, Nat.reduceLeDiff, Nat.reduceEqDiff, reduceCtorEq, Int.reduceLT, Int.reduceLE, Int.reduceEq, Int.reduceNe, Int.reduceBEq, Int.reduceBNe, Int.reduceAdd, Int.reduceSub, Int.reduceMul, Int.reduceToNat]; with_reducible exact rfl) (by simp only [↓accU_f, ↓reduceIte, SA, SB, SC, SD, Y84_B7, valG, fpsG, evO, evB, evA, evA1, nilK, eqF, eqC, apOk, intOf, slB, slK,  gd, St.ev, putA, ofl, wrl, putE, V.ofVal, V.ofCell, bin2, un1, seg, fillV, partsOk, Value.oneCell', Nat.reduceBEq, Nat.reduceLT, Nat.reduceSub, Nat.reduceAdd, Nat.reduceMul, Nat.reduceLeDiff, Nat.reduceEqDiff, reduceCtorEq, Int.reduceLT, Int.reduceLE, Int.reduceEq, Int.reduceNe, Int.reduceBEq, Int.reduceBNe, Int.reduceAdd, Int.reduceSub, Int.reduceMul, Int.reduceToNat]; with_reducible exact rfl) ?_
  refine AR.appB (z := 5) rfl (by simp only [↓accU_f, ↓reduceIte, SA, SB, SC, SD, Y84_B7, valG, fpsG, evO, evB, evA, evA1, nilK, eqF, eqC, apOk, intOf, slB, slK,  gd, St.ev, putA, ofl, wrl, putE, V.ofVal, V.ofCell, bin2, un1, seg, fillV, partsOk, Value.oneCell', Nat.reduceBEq, Nat.reduceLT, Nat.reduceSub, Nat.reduceAdd, Nat.reduceMul, Nat.reduceLeDiff, Nat.reduceEqDiff, reduceCtorEq, Int.reduceLT, Int.reduceLE, Int.reduceEq, Int.reduceNe, Int.reduceBEq, Int.reduceBNe, Int.reduceAdd, Int.reduceSub, Int.reduceMul, Int.reduceToNat, hl, allZ_ty, Nat.zero_add]) (by simp only [↓accU_f, ↓reduceIte, SA, SB, SC, SD, Y84_B7, valG, fpsG, evO, evB, evA, evA1, nilK, eqF, eqC, apOk, intOf, slB, slK,  gd, St.ev, putA, ofl, wrl, putE, V.ofVal, V.ofCell, bin2, un1, seg, fillV, partsOk, Value.oneCell', Nat.reduceBEq, Nat.reduceLT, Nat.reduceSub, Nat.reduceAdd, Nat.reduceMul, Nat.reduceLeDiff, Nat.reduceEqDiff, reduceCtorEq, Int.reduceLT, Int.reduceLE, Int.reduceEq, Int.reduceNe, Int.reduceBEq, Int.reduceBNe, Int.reduceAdd, Int.reduceSub, Int.reduceMul, Int.reduceToNat, hl, allZ_ty, Nat.zero_add]; with_reducible exact rfl) (by simp only [↓accU_f, ↓reduceIte, SA, SB, SC, SD, Y84_B7, valG, fpsG, evO, evB, evA, evA1, nilK, eqF, eqC, apOk, intOf, slB, slK,  gd, St.ev, putA, ofl, wrl, putE, V.ofVal, V.ofCell, bin2, un1, seg, fillV, partsOk, Value.oneCell', Nat.reduceBEq, Nat.reduceLT, Nat.reduceSub, Nat.reduceAdd, Nat.reduceMul, Nat.reduceLeDiff, Nat.reduceEqDiff, reduceCtorEq, Int.reduceLT, Int.reduceLE, Int.reduceEq, Int.reduceNe, Int.reduceBEq, Int.reduceBNe, Int.reduceAdd, Int.reduceSub, Int.reduceMul, Int.reduceToNat, hl, allZ_ty, Nat.zero_add]; with_reducible exact rfl) (by simp only [↓accU_f, ↓reduceIte, SA, SB, SC, SD, Y84_B7, valG, fpsG, evO, evB, evA, evA1, nilK, eqF, eqC, apOk, intOf, slB, slK,  gd, St.ev, putA, ofl, wrl, putE, V.ofVal, V.ofCell, bin2, un1, seg, fillV, partsOk, Value.oneCell', Nat.reduceBEq, Nat.reduceLT, Nat.reduceSub, Nat.reduceAdd, Nat.reduceMul, Nat.reduceLeDiff, Nat.reduceEqDiff, reduceCtorEq, Int.reduceLT, Int.reduceLE, Int.reduceEq, Int.reduceNe, Int.reduceBEq, Int.reduceBNe, Int.reduceAdd, Int.reduceSub, Int.reduceMul, Int.reduceToNat, hl, allZ_ty, Nat.zero_add]; with_reducible exact rfl) (by simp only [↓accU_f, ↓reduceIte, SA, SB, SC, SD, Y84_B7, valG, fpsG, evO, evB, evA, evA1, nilK, eqF, eqC, apOk, intOf, slB, slK,  gd, St.ev, putA, ofl, wrl, putE, V.ofVal, V.ofCell, bin2, un1, seg, fillV, partsOk, Value.oneCell', Nat.reduceBEq, Nat.reduceLT, Nat.reduceSub, Nat.reduceAdd, Nat.reduceMul, Nat.reduceLeDiff, Nat.reduceEqDiff, reduceCtorEq, Int.reduceLT, Int.reduceLE, Int.reduceEq, Int.reduceNe, Int.reduceBEq, Int.reduceBNe, Int.reduceAdd, Int.reduceSub, Int.reduceMul, Int.reduceToNat, hl, allZ_ty, Nat.zero_add]) (by simp only [List.length_map]; exact hne) (by simp only [List.length_map, ↓accU_f, ↓reduceIte, SA, SB, SC, SD, Y84_B7, valG, fpsG, evO, evB, evA, evA1, nilK, eqF, eqC, apOk, intOf, slB, slK,  gd, St.ev, putA, ofl, wrl, putE, V.ofVal, V.ofCell, bin2, un1, seg, fillV, partsOk, Value.oneCell', Nat.reduceBEq, Nat.reduceLT, Nat.reduceSub, Nat.reduceAdd, Nat.reduceMul, Nat.reduceLeDiff, Nat.reduceEqDiff, reduceCtorEq, Int.reduceLT, Int.reduceLE, Int.reduceEq, Int.reduceNe, Int.reduceBEq, Int.reduceBNe, Int.reduceAdd, Int.reduceSub, Int.reduceMul, Int.reduceToNat, hl, allZ_ty, Nat.zero_add]) ?_

  refine goG Y84_B7 @G84_B7 ?_
  refine wG Y84_B7 @G84_B7 ?_
  refine Fin.genK 1 (rs := [.tmp 2]) rfl (by first | exact .inl rfl | exact .inr rfl) (by simp only [resX, resA, ↓accU_f, ↓reduceIte, SA, SB, SC, SD, Y84_B7, valG, fpsG, evO, evB, evA, evA1, nilK, eqF, eqC, apOk, intOf, slB, slK,  gd, St.ev, putA, ofl, wrl, putE, V.ofVal, V.ofCell, bin2, un1, seg, fillV, partsOk, Value.oneCell', Nat.reduceBEq, Nat.reduceLT, Nat.reduceSub, Nat.reduceAdd, Nat.reduceMul, Nat.reduceLeDiff, Nat.reduceEqDiff, reduceCtorEq, Int.reduceLT, Int.reduceLE, Int.reduceEq, Int.reduceNe, Int.reduceBEq, Int.reduceBNe, Int.reduceAdd, Int.reduceSub, Int.reduceMul, Int.reduceToNat]; with_reducible exact rfl) ?_ rfl (by first | rfl | simp only [List.length_cons, List.length_nil, Nat.reduceAdd, V.ids, V.idsL, idsA, entOk, List.all_cons, List.all_nil, Bool.and_self, Bool.and_true, Bool.true_and, ltB, noId, Nat.reduceLT, decide_true, Bool.true_eq_false, tyV_id, fdV_id, tyL_id, fdL_id, flT_id, flF_id])
  repeat (first | exact WkF.of (Wk.refl _) (by first | rfl | simp only [List.length_cons, List.length_nil, Nat.reduceAdd, V.ids, V.idsL, idsA, entOk, List.all_cons, List.all_nil, Bool.and_self, Bool.and_true, Bool.true_and, ltB, noId, Nat.reduceLT, decide_true, Bool.true_eq_false, tyV_id, fdV_id, tyL_id, fdL_id, flT_id, flF_id]) | exact WkF.of (Wk.ro _ _) (by first | rfl | simp only [List.length_cons, List.length_nil, Nat.reduceAdd, V.ids, V.idsL, idsA, entOk, List.all_cons, List.all_nil, Bool.and_self, Bool.and_true, Bool.true_and, ltB, noId, Nat.reduceLT, decide_true, Bool.true_eq_false, tyV_id, fdV_id, tyL_id, fdL_id, flT_id, flF_id]) | refine WkF.tu ?_ | refine WkF.ag ?_ | refine WkFL.cons ?_ ?_ | exact WkFL.nil)
theorem Y85_B7 : type_of% (AI @F_al_64 (AI @F_by_64 (AI @F_el_39 (@F_sz_64)))) := AI @F_al_64 (AI @F_by_64 (AI @F_el_39 (@F_sz_64)))
theorem G85_B7 : type_of% @List.length_map.{0, 0} := @List.length_map.{0, 0}
theorem c_clF0 : PC Tryz.prog 85 [.sl [] .ro] (.sl [] .ro) := by
  refine ACalls.nil1 ?_ ?_
  · refine PC.enter 8 Tryz.func85 rfl (by decide) rfl rfl (s := [(0, .sl [] .nz)]) (by rfl) ?_
    refine wG Y85_B7 @G85_B7 ?_
    refine Fin.gen0 (rs := [.tmp 2]) rfl (by first | exact .inl rfl | exact .inr rfl) (by simp only [resX, resA, ↓accU_f, ↓reduceIte, SA, SB, SC, SD, Y85_B7, valG, fpsG, evO, evB, evA, evA1, nilK, eqF, eqC, apOk, intOf, slB, slK,  gd, St.ev, putA, ofl, wrl, putE, V.ofVal, V.ofCell, bin2, un1, seg, fillV, partsOk, Value.oneCell', Nat.reduceBEq, Nat.reduceLT, Nat.reduceSub, Nat.reduceAdd, Nat.reduceMul, Nat.reduceLeDiff, Nat.reduceEqDiff, reduceCtorEq, Int.reduceLT, Int.reduceLE, Int.reduceEq, Int.reduceNe, Int.reduceBEq, Int.reduceBNe, Int.reduceAdd, Int.reduceSub, Int.reduceMul, Int.reduceToNat]; with_reducible exact rfl) ?_
    repeat (first | exact WkF.of (Wk.refl _) (by first | rfl | simp only [List.length_cons, List.length_nil, Nat.reduceAdd, V.ids, V.idsL, idsA, entOk, List.all_cons, List.all_nil, Bool.and_self, Bool.and_true, Bool.true_and, ltB, noId, Nat.reduceLT, decide_true, Bool.true_eq_false, tyV_id, fdV_id, tyL_id, fdL_id, flT_id, flF_id]) | exact WkF.of (Wk.ro _ _) (by first | rfl | simp only [List.length_cons, List.length_nil, Nat.reduceAdd, V.ids, V.idsL, idsA, entOk, List.all_cons, List.all_nil, Bool.and_self, Bool.and_true, Bool.true_and, ltB, noId, Nat.reduceLT, decide_true, Bool.true_eq_false, tyV_id, fdV_id, tyL_id, fdL_id, flT_id, flF_id]) | refine WkF.tu ?_ | refine WkF.ag ?_ | refine WkFL.cons ?_ ?_ | exact WkFL.nil)
  · refine PC.enter 8 Tryz.func85 rfl (by decide) rfl rfl (s := [(0, .sl [] .nn)]) (by rfl) ?_
    refine wG Y85_B7 @G85_B7 ?_
    refine Fin.gen0 (rs := [.tmp 2]) rfl (by first | exact .inl rfl | exact .inr rfl) (by simp only [resX, resA, ↓accU_f, ↓reduceIte, SA, SB, SC, SD, Y85_B7, valG, fpsG, evO, evB, evA, evA1, nilK, eqF, eqC, apOk, intOf, slB, slK,  gd, St.ev, putA, ofl, wrl, putE, V.ofVal, V.ofCell, bin2, un1, seg, fillV, partsOk, Value.oneCell', Nat.reduceBEq, Nat.reduceLT, Nat.reduceSub, Nat.reduceAdd, Nat.reduceMul, Nat.reduceLeDiff, Nat.reduceEqDiff, reduceCtorEq, Int.reduceLT, Int.reduceLE, Int.reduceEq, Int.reduceNe, Int.reduceBEq, Int.reduceBNe, Int.reduceAdd, Int.reduceSub, Int.reduceMul, Int.reduceToNat]; with_reducible exact rfl) ?_
    repeat (first | exact WkF.of (Wk.refl _) (by first | rfl | simp only [List.length_cons, List.length_nil, Nat.reduceAdd, V.ids, V.idsL, idsA, entOk, List.all_cons, List.all_nil, Bool.and_self, Bool.and_true, Bool.true_and, ltB, noId, Nat.reduceLT, decide_true, Bool.true_eq_false, tyV_id, fdV_id, tyL_id, fdL_id, flT_id, flF_id]) | exact WkF.of (Wk.ro _ _) (by first | rfl | simp only [List.length_cons, List.length_nil, Nat.reduceAdd, V.ids, V.idsL, idsA, entOk, List.all_cons, List.all_nil, Bool.and_self, Bool.and_true, Bool.true_and, ltB, noId, Nat.reduceLT, decide_true, Bool.true_eq_false, tyV_id, fdV_id, tyL_id, fdL_id, flT_id, flF_id]) | refine WkF.tu ?_ | refine WkF.ag ?_ | refine WkFL.cons ?_ ?_ | exact WkFL.nil)
theorem c_clF1 {l : List Ty} (hne : 0 < l.length) (hl : l.length * 80 ≤ 140737488355328) : DC Tryz.prog 85 [.sl (l.map fdV) .nn] [.free] (.bs 0 l.length) [.box (flatV (l.map fdV))] := by
  refine DC.enterN 1 8 Tryz.func85 rfl (by decide) rfl rfl (s := [(0, .sl (l.map fdV) .nn)]) (by rfl) ?_
  refine wG Y85_B7 @G85_B7 ?_
  refine AWp.region ?_
  refine AR.one rfl (by simp only [↓accU_f, ↓reduceIte, SA, SB, SC, SD, Y85_B7, valG, fpsG, evO, evB, evA, evA1, nilK, eqF, eqC, apOk, intOf, slB, slK,  gd, St.ev, putA, ofl, wrl, putE, V.ofVal, V.ofCell, bin2, un1, seg, fillV, partsOk, Value.oneCell', Nat.reduceBEq, Nat.reduceLT, Nat.reduceSub, Nat.reduceAdd, Nat.reduceMul, Nat.reduceLeDiff, Nat.reduceEqDiff, reduceCtorEq, Int.reduceLT, Int.reduceLE, Int.reduceEq, Int.reduceNe, Int.reduceBEq, Int.reduceBNe, Int.reduceAdd, Int.reduceSub, Int.reduceMul, Int.reduceToNat]; with_reducible exact rfl) (by simp only [↓accU_f, ↓reduceIte, SA, SB, SC, SD, Y85_B7, valG, fpsG, evO, evB, evA, evA1, nilK, eqF, eqC, apOk, intOf, slB, slK,  gd, St.ev, putA, ofl, wrl, putE, V.ofVal, V.ofCell, bin2, un1, seg, fillV, partsOk, Value.oneCell', Nat.reduceBEq, Nat.reduceLT, Nat.reduceSub, Nat.reduceAdd, Nat.reduceMul, Nat.reduceLeDiff, Nat.reduceEqDiff, reduceCtorEq, Int.reduceLT, Int.reduceLE, Int.reduceEq, Int.reduceNe, Int.reduceBEq, Int.reduceBNe, Int.reduceAdd, Int.reduceSub, Int.reduceMul, Int.reduceToNat]; with_reducible exact rfl) (by simp only [↓accU_f, ↓reduceIte, SA, SB, SC, SD, Y85_B7, valG, fpsG, evO, evB, evA, evA1, nilK, eqF, eqC, apOk, intOf, slB, slK,  gd, St.ev, putA, ofl, wrl, putE, V.ofVal, V.ofCell, bin2, un1, seg, fillV, partsOk, Value.oneCell', Nat.reduceBEq, Nat.reduceLT, Nat.reduceSub, Nat.reduceAdd, Nat.reduceMul, Nat.reduceLeDiff, Nat.reduceEqDiff, reduceCtorEq, Int.reduceLT, Int.reduceLE, Int.reduceEq, Int.reduceNe, Int.reduceBEq, Int.reduceBNe, Int.reduceAdd, Int.reduceSub, Int.reduceMul, Int.reduceToNat]; with_reducible exact rfl) ?_
  refine AR.one rfl (by simp only [↓accU_f, ↓reduceIte, SA, SB, SC, SD, Y85_B7, valG, fpsG, evO, evB, evA, evA1, nilK, eqF, eqC, apOk, intOf, slB, slK,  gd, St.ev, putA, ofl, wrl, putE, V.ofVal, V.ofCell, bin2, un1, seg, fillV, partsOk, Value.oneCell', Nat.reduceBEq, Nat.reduceLT, Nat.reduceSub, Nat.reduceAdd, Nat.reduceMul, Nat.reduceLeDiff, Nat.reduceEqDiff, reduceCtorEq, Int.reduceLT, Int.reduceLE, Int.reduceEq, Int.reduceNe, Int.reduceBEq, Int.reduceBNe, Int.reduceAdd, Int.reduceSub, Int.reduceMul, Int.reduceToNat]; with_reducible exact rfl) (by simp only [↓accU_f, ↓reduceIte, SA, SB, SC, SD, Y85_B7, valG, fpsG, evO, evB, evA, evA1, nilK, eqF, eqC, apOk, intOf, slB, slK,  gd, St.ev, putA, ofl, wrl, putE, V.ofVal, V.ofCell, bin2, un1, seg, fillV, partsOk, Value.oneCell', Nat.reduceBEq, Nat.reduceLT, Nat.reduceSub, Nat.reduceAdd, Nat.reduceMul, Nat.reduceLeDiff, Nat.reduceEqDiff, reduceCtorEq, Int.reduceLT, Int.reduceLE, Int.reduceEq, Int.reduceNe, Int.reduceBEq, Int.reduceBNe, Int.reduceAdd, Int.reduceSub, Int.reduceMul, Int.reduceToNat]; with_reducible exact rfl) (by simp only [↓accU_f, ↓reduceIte, SA, SB, SC, SD, Y85_B7, valG, fpsG, evO, evB, evA, evA1, nilK, eqF, eqC, apOk, intOf, slB, slK,  gd, St.ev, putA, ofl, wrl, putE, V.ofVal, V.ofCell, bin2, un1, seg, fillV, partsOk, Value.oneCell', Nat.reduceBEq, Nat.reduceLT, Nat.reduceSub, Nat.reduceAdd, Nat.reduceMul, Nat.reduceLeDiff, Nat.reduceEqDiff, reduceCtorEq, Int.reduceLT, Int.reduceLE, Int.reduceEq, Int.reduceNe, Int.reduceBEq, Int.reduceBNe, Int.reduceAdd, Int.reduceSub, Int.reduceMul, Int.reduceToNat]; with_reducible exact rfl) ?_
  refine AR.appB (z := 6) rfl (by simp only [↓accU_f, ↓reduceIte, SA, SB, SC, SD, Y85_B7, valG, fpsG, evO, evB, evA, evA1, nilK, eqF, eqC, apOk, intOf, slB, slK,  gd, St.ev, putA, ofl, wrl, putE, V.ofVal, V.ofCell, bin2, un1, seg, fillV, partsOk, Value.oneCell', Nat.reduceBEq, Nat.reduceLT, Nat.reduceSub, Nat.reduceAdd, Nat.reduceMul, Nat.reduceLeDiff, Nat.reduceEqDiff, reduceCtorEq, Int.reduceLT, Int.reduceLE, Int.reduceEq, Int.reduceNe, Int.reduceBEq, Int.reduceBNe, Int.reduceAdd, Int.reduceSub, Int.reduceMul, Int.reduceToNat, hl, allZ_fd, Nat.zero_add]) (by simp only [↓accU_f, ↓reduceIte, SA, SB, SC, SD, Y85_B7, valG, fpsG, evO, evB, evA, evA1, nilK, eqF, eqC, apOk, intOf, slB, slK,  gd, St.ev, putA, ofl, wrl, putE, V.ofVal, V.ofCell, bin2, un1, seg, fillV, partsOk, Value.oneCell', Nat.reduceBEq, Nat.reduceLT, Nat.reduceSub, Nat.reduceAdd, Nat.reduceMul, Nat.reduceLeDiff, Nat.reduceEqDiff, reduceCtorEq, Int.reduceLT, Int.reduceLE, Int.reduceEq, Int.reduceNe, Int.reduceBEq, Int.reduceBNe, Int.reduceAdd, Int.reduceSub, Int.reduceMul, Int.reduceToNat, hl, allZ_fd, Nat.zero_add]; with_reducible exact rfl) (by simp only [↓accU_f, ↓reduceIte, SA, SB, SC, SD, Y85_B7, valG, fpsG, evO, evB, evA, evA1, nilK, eqF, eqC, apOk, intOf, slB, slK,  gd, St.ev, putA, ofl, wrl, putE, V.ofVal, V.ofCell, bin2, un1, seg, fillV, partsOk, Value.oneCell', Nat.reduceBEq, Nat.reduceLT, Nat.reduceSub, Nat.reduceAdd, Nat.reduceMul, Nat.reduceLeDiff, Nat.reduceEqDiff, reduceCtorEq, Int.reduceLT, Int.reduceLE, Int.reduceEq, Int.reduceNe, Int.reduceBEq, Int.reduceBNe, Int.reduceAdd, Int.reduceSub, Int.reduceMul, Int.reduceToNat, hl, allZ_fd, Nat.zero_add]; with_reducible exact rfl) (by simp only [↓accU_f, ↓reduceIte, SA, SB, SC, SD, Y85_B7, valG, fpsG, evO, evB, evA, evA1, nilK, eqF, eqC, apOk, intOf, slB, slK,  gd, St.ev, putA, ofl, wrl, putE, V.ofVal, V.ofCell, bin2, un1, seg, fillV, partsOk, Value.oneCell', Nat.reduceBEq, Nat.reduceLT, Nat.reduceSub, Nat.reduceAdd, Nat.reduceMul, Nat.reduceLeDiff, Nat.reduceEqDiff, reduceCtorEq, Int.reduceLT, Int.reduceLE, Int.reduceEq, Int.reduceNe, Int.reduceBEq, Int.reduceBNe, Int.reduceAdd, Int.reduceSub, Int.reduceMul, Int.reduceToNat, hl, allZ_fd, Nat.zero_add]; with_reducible exact rfl) (by simp only [↓accU_f, ↓reduceIte, SA, SB, SC, SD, Y85_B7, valG, fpsG, evO, evB, evA, evA1, nilK, eqF, eqC, apOk, intOf, slB, slK,  gd, St.ev, putA, ofl, wrl, putE, V.ofVal, V.ofCell, bin2, un1, seg, fillV, partsOk, Value.oneCell', Nat.reduceBEq, Nat.reduceLT, Nat.reduceSub, Nat.reduceAdd, Nat.reduceMul, Nat.reduceLeDiff, Nat.reduceEqDiff, reduceCtorEq, Int.reduceLT, Int.reduceLE, Int.reduceEq, Int.reduceNe, Int.reduceBEq, Int.reduceBNe, Int.reduceAdd, Int.reduceSub, Int.reduceMul, Int.reduceToNat, hl, allZ_fd, Nat.zero_add]) (by simp only [List.length_map]; exact hne) (by simp only [List.length_map, ↓accU_f, ↓reduceIte, SA, SB, SC, SD, Y85_B7, valG, fpsG, evO, evB, evA, evA1, nilK, eqF, eqC, apOk, intOf, slB, slK,  gd, St.ev, putA, ofl, wrl, putE, V.ofVal, V.ofCell, bin2, un1, seg, fillV, partsOk, Value.oneCell', Nat.reduceBEq, Nat.reduceLT, Nat.reduceSub, Nat.reduceAdd, Nat.reduceMul, Nat.reduceLeDiff, Nat.reduceEqDiff, reduceCtorEq, Int.reduceLT, Int.reduceLE, Int.reduceEq, Int.reduceNe, Int.reduceBEq, Int.reduceBNe, Int.reduceAdd, Int.reduceSub, Int.reduceMul, Int.reduceToNat, hl, allZ_fd, Nat.zero_add]) ?_
  refine goG Y85_B7 @G85_B7 ?_
  refine wG Y85_B7 @G85_B7 ?_
  refine Fin.genK 1 (rs := [.tmp 2]) rfl (by first | exact .inl rfl | exact .inr rfl) (by simp only [resX, resA, ↓accU_f, ↓reduceIte, SA, SB, SC, SD, Y85_B7, valG, fpsG, evO, evB, evA, evA1, nilK, eqF, eqC, apOk, intOf, slB, slK,  gd, St.ev, putA, ofl, wrl, putE, V.ofVal, V.ofCell, bin2, un1, seg, fillV, partsOk, Value.oneCell', Nat.reduceBEq, Nat.reduceLT, Nat.reduceSub, Nat.reduceAdd, Nat.reduceMul, Nat.reduceLeDiff, Nat.reduceEqDiff, reduceCtorEq, Int.reduceLT, Int.reduceLE, Int.reduceEq, Int.reduceNe, Int.reduceBEq, Int.reduceBNe, Int.reduceAdd, Int.reduceSub, Int.reduceMul, Int.reduceToNat]; with_reducible exact rfl) ?_ rfl (by first | rfl | simp only [List.length_cons, List.length_nil, Nat.reduceAdd, V.ids, V.idsL, idsA, entOk, List.all_cons, List.all_nil, Bool.and_self, Bool.and_true, Bool.true_and, ltB, noId, Nat.reduceLT, decide_true, Bool.true_eq_false, tyV_id, fdV_id, tyL_id, fdL_id, flT_id, flF_id])
  repeat (first | exact WkF.of (Wk.refl _) (by first | rfl | simp only [List.length_cons, List.length_nil, Nat.reduceAdd, V.ids, V.idsL, idsA, entOk, List.all_cons, List.all_nil, Bool.and_self, Bool.and_true, Bool.true_and, ltB, noId, Nat.reduceLT, decide_true, Bool.true_eq_false, tyV_id, fdV_id, tyL_id, fdL_id, flT_id, flF_id]) | exact WkF.of (Wk.ro _ _) (by first | rfl | simp only [List.length_cons, List.length_nil, Nat.reduceAdd, V.ids, V.idsL, idsA, entOk, List.all_cons, List.all_nil, Bool.and_self, Bool.and_true, Bool.true_and, ltB, noId, Nat.reduceLT, decide_true, Bool.true_eq_false, tyV_id, fdV_id, tyL_id, fdL_id, flT_id, flF_id]) | refine WkF.tu ?_ | refine WkF.ag ?_ | refine WkFL.cons ?_ ?_ | exact WkFL.nil)
theorem Y51_B7 : type_of% (AI @F_ag_38 (AI @F_ag_39 (AI @F_ag_41 (AI @F_al_41 (AI @F_el_38 (AI @F_el_39 (AI @F_fl_41_3 (AI @F_fl_41_4 (AI @F_fl_64_1 (AI @F_sz_38 (AI @F_sz_39 (AI @F_sz_41 (@F_sz_64))))))))))))) := AI @F_ag_38 (AI @F_ag_39 (AI @F_ag_41 (AI @F_al_41 (AI @F_el_38 (AI @F_el_39 (AI @F_fl_41_3 (AI @F_fl_41_4 (AI @F_fl_64_1 (AI @F_sz_38 (AI @F_sz_39 (AI @F_sz_41 (@F_sz_64))))))))))))
theorem G51_B7 : type_of% (AI (@List.length_nil.{0}) (AI (@Int.natCast_nonneg) (AI (@tyV_firm) (AI (@fdV_firm) (AI (@tyV_strip) (AI (@fdV_strip) (AI (@tyV_live) (AI (@tyV_size) (AI (@tyV_isAg) (AI (@tyV_cells) (AI (@fdV_live) (AI (@fdV_size) (AI (@fdV_isAg) (AI (@fdV_cells) @List.getElem?_map.{0, 0})))))))))))))) := (AI (@List.length_nil.{0}) (AI (@Int.natCast_nonneg) (AI (@tyV_firm) (AI (@fdV_firm) (AI (@tyV_strip) (AI (@fdV_strip) (AI (@tyV_live) (AI (@tyV_size) (AI (@tyV_isAg) (AI (@tyV_cells) (AI (@fdV_live) (AI (@fdV_size) (AI (@fdV_isAg) (AI (@fdV_cells) @List.getElem?_map.{0, 0}))))))))))))))
theorem c_own : ∀ (t : Ty), fit t → PC Tryz.prog 51 [tyV t] (tyV t) := by
  refine Ty.induct fun o k s c es fs hE hF => ?_
  intro hfit
  obtain ⟨hl1, hl2, hfE, hfF⟩ := fit_mk hfit
  refine PC.enter 50 Tryz.func51 rfl (by decide) rfl rfl (s := [(0, tyV (.mk o k s c es fs))]) (by rfl) ?_
  simp only [tyV_mk]
  refine wG Y51_B7 @G51_B7 ?_
  rcases Nat.eq_zero_or_pos es.length with h0 | h0
  case' inl =>
    have he : es.map tyV = [] := by rw [List.length_eq_zero_iff.1 h0]; rfl
    refine AR.callP c_clT0 he (AI flT_id flF_id) ?_
    refine goG Y51_B7 @G51_B7 ?_
    refine wG Y51_B7 @G51_B7 ?_
    refine AWp.loop ?_
    refine ALp.round ?_
    have hlt' : ¬ (0 : Int) < (es.length : Int) := by omega
    refine whG Y51_B7 (AI (@G51_B7) hlt') ?_
    refine Blk'.here (Thn.n ?_)
    refine AWp.frz 2 [(1, .pt 0 0), (2, .pt 1 0)] [.box [.im (.int .i64 k), .im (.int .i64 s), .im (.int .i64 c), .sl (es.map tyV) .ro, .sl (fs.map fdV) .ro], .box [.im (.int .i64 0), .im (.int .i64 0), .im (.int .i64 0), .sl [] .nl, .sl [] .nl]] ?_ (by simp) (by repeat (first | exact WkFA.nil | refine WkFA.cons (by first | exact .of (Wk.refl _) (by first | rfl | simp only [List.length_cons, List.length_nil, Nat.reduceAdd, V.ids, V.idsL, idsA, entOk, List.all_cons, List.all_nil, Bool.and_self, Bool.and_true, Bool.true_and, ltB, noId, Nat.reduceLT, decide_true, Bool.true_eq_false, tyV_id, fdV_id, tyL_id, fdL_id, flT_id, flF_id]) | (rw [he]; exact .of (Wk.refl _) rfl)) ?_)) (by repeat (first | exact WkFE.nil | refine WkFE.box (by repeat (first | exact WkFL.nil | refine WkFL.cons (by first | exact .of (Wk.refl _) (by first | rfl | simp only [List.length_cons, List.length_nil, Nat.reduceAdd, V.ids, V.idsL, idsA, entOk, List.all_cons, List.all_nil, Bool.and_self, Bool.and_true, Bool.true_and, ltB, noId, Nat.reduceLT, decide_true, Bool.true_eq_false, tyV_id, fdV_id, tyL_id, fdL_id, flT_id, flF_id]) | (rw [he]; exact .of (Wk.refl _) rfl)) ?_)) ?_ | refine WkFE.same (fun _ e => by cases e) ?_)) (fun i hi => by first | exact absurd rfl hi | exact Nat.lt_of_lt_of_le (ofl_lt hi) (by simp))
  case' inr =>
    have hcl := c_clT1 (l := es) h0 (by omega)
    refine AR.callS [2] hcl rfl rfl (by first | (simp only [SR, flT_ren, flF_ren]; done) | (simp only [SR, flT_ren, flF_ren]; with_reducible exact rfl)) (by first | (simp only [SR, flT_ren, flF_ren]; done) | (simp only [SR, flT_ren, flF_ren]; with_reducible exact rfl)) (WkL.cons (Wk.nn (by simpa using h0)) .nil) (by first | rfl | simp only [List.length_cons, List.length_nil, Nat.reduceAdd, V.ids, V.idsL, idsA, entOk, List.all_cons, List.all_nil, Bool.and_self, Bool.and_true, Bool.true_and, ltB, noId, Nat.reduceLT, decide_true, Bool.true_eq_false, tyV_id, fdV_id, tyL_id, fdL_id, flT_id, flF_id]) rfl rfl rfl (by first | rfl | simp only [List.length_cons, List.length_nil, Nat.reduceAdd, V.ids, V.idsL, idsA, entOk, List.all_cons, List.all_nil, Bool.and_self, Bool.and_true, Bool.true_and, ltB, noId, Nat.reduceLT, decide_true, Bool.true_eq_false, tyV_id, fdV_id, tyL_id, fdL_id, flT_id, flF_id]) (by intro p hp; simp only [renE, SR, Ent.ren, List.mem_cons, List.not_mem_nil, or_false, flT_ren, flF_ren] at hp; rcases hp with rfl <;> rfl) (by simp only [renE, Ent.ren, SR, flT_ren, flF_ren, wrl, putE, SC, SD, Nat.reduceBEq, Nat.reduceLT, Nat.reduceSub, Nat.reduceAdd, Nat.reduceMul, Nat.reduceLeDiff, Nat.reduceEqDiff, reduceCtorEq, Int.reduceLT, Int.reduceLE, Int.reduceEq, Int.reduceNe, Int.reduceBEq, Int.reduceBNe, Int.reduceAdd, Int.reduceSub, Int.reduceMul, Int.reduceToNat]; with_reducible exact rfl) ?_
    refine goG Y51_B7 @G51_B7 ?_
    refine wG Y51_B7 @G51_B7 ?_
    refine AWp.loop ?_
    refine ALp.cutP 3 [(1, .pt 0 0), (2, .pt 1 0), (11, (.im (.int .i64 (es.length)))), (12, (.im (.int .i64 ((((0 : Nat)) : Int)))))] [.box [.im (.int .i64 k), .im (.int .i64 s), .im (.int .i64 c), .bs 2 es.length, .sl (fs.map fdV) .ro], .box [.im (.int .i64 0), .im (.int .i64 0), .im (.int .i64 0), .sl [] .nl, .sl [] .nl], .box (flatV (es.map tyV))] (AI flT_id flF_id) ?_
    refine ALp.upto es.length (fun _ => True) (fun m => ⟨dn 50 [(1, .pt 0 0), (2, .pt 1 0), (11, (.im (.int .i64 (es.length)))), (12, (.im (.int .i64 ((((m : Nat)) : Int)))))], ofl [.box [.im (.int .i64 k), .im (.int .i64 s), .im (.int .i64 c), .bs 2 es.length, .sl (fs.map fdV) .ro], .box [.im (.int .i64 0), .im (.int .i64 0), .im (.int .i64 0), .sl [] .nl, .sl [] .nl], .box (flatV (es.map tyV))]⟩) ?_ 0 (Nat.zero_le _) trivial
    intro m hm _ hnext
    by_cases hlt : m < es.length
    case pos =>
      have hlt' : (m : Int) < (es.length : Int) := by omega
      have hm1 := wrap_succ hlt (by omega)
      have hm' : m < (es.map tyV).length := by simpa using hlt
      have hd := flat_drop (allZ_ty es) hm'
      have hs := flat_seg (allZ_ty es) hm'
      have hf := flat_fit (allZ_ty es) hm'
      simp only [List.getElem_map, tyV_cells, seg, List.length_cons, List.length_nil, Nat.reduceAdd] at hd hs
      have hc := hE es[m] (List.getElem_mem hlt) (hfE _ (List.getElem_mem hlt))
      refine wdG Y51_B7 (AI (@G51_B7) (AI hlt' (AI hd hf))) ?_
      refine AR.callP hc @tyV_eq (AI flT_id flF_id) ?_
      refine goG Y51_B7 (AI (@G51_B7) (AI hlt' (AI hd (AI hf hs)))) ?_
      refine wdG Y51_B7 (AI (@G51_B7) hm1) ?_
      refine ALp.cutP 3 [(1, .pt 0 0), (2, .pt 1 0), (11, (.im (.int .i64 (es.length)))), (12, (.im (.int .i64 ((((m + 1 : Nat)) : Int)))))] [.box [.im (.int .i64 k), .im (.int .i64 s), .im (.int .i64 c), .bs 2 es.length, .sl (fs.map fdV) .ro], .box [.im (.int .i64 0), .im (.int .i64 0), .im (.int .i64 0), .sl [] .nl, .sl [] .nl], .box (flatV (es.map tyV))] (AI flT_id flF_id) ?_
      exact hnext (m + 1) (by omega) (by omega) trivial
    have hlt' : ¬ (m : Int) < (es.length : Int) := by omega
    clear hnext
    refine whG Y51_B7 (AI (@G51_B7) hlt') ?_
    refine Blk'.here (Thn.n ?_)
    refine AWp.frz 2 [(1, .pt 0 0), (2, .pt 1 0)] [.box [.im (.int .i64 k), .im (.int .i64 s), .im (.int .i64 c), .sl (es.map tyV) .ro, .sl (fs.map fdV) .ro], .box [.im (.int .i64 0), .im (.int .i64 0), .im (.int .i64 0), .sl [] .nl, .sl [] .nl]] ?_ (by simp) (by repeat (first | exact WkFA.nil | refine WkFA.cons (by first | exact .of (Wk.refl _) (by first | rfl | simp only [List.length_cons, List.length_nil, Nat.reduceAdd, V.ids, V.idsL, idsA, entOk, List.all_cons, List.all_nil, Bool.and_self, Bool.and_true, Bool.true_and, ltB, noId, Nat.reduceLT, decide_true, Bool.true_eq_false, tyV_id, fdV_id, tyL_id, fdL_id, flT_id, flF_id]) | exact WkF.bs (z := 5) rfl rfl (by simp) (allZ_ty es) rfl (tyL_id _ _)) ?_)) (by repeat (first | exact WkFE.nil | refine WkFE.box (by repeat (first | exact WkFL.nil | refine WkFL.cons (by first | exact .of (Wk.refl _) (by first | rfl | simp only [List.length_cons, List.length_nil, Nat.reduceAdd, V.ids, V.idsL, idsA, entOk, List.all_cons, List.all_nil, Bool.and_self, Bool.and_true, Bool.true_and, ltB, noId, Nat.reduceLT, decide_true, Bool.true_eq_false, tyV_id, fdV_id, tyL_id, fdL_id, flT_id, flF_id]) | exact WkF.bs (z := 5) rfl rfl (by simp) (allZ_ty es) rfl (tyL_id _ _)) ?_)) ?_ | refine WkFE.same (fun _ e => by cases e) ?_)) (fun i hi => by first | exact absurd rfl hi | exact Nat.lt_of_lt_of_le (ofl_lt hi) (by simp))
    clear hlt' hlt hm hcl
  all_goals
    clear h0
    refine wG Y51_B7 @G51_B7 ?_
    rcases Nat.eq_zero_or_pos fs.length with h0 | h0
    case inl =>
      have he : fs.map fdV = [] := by rw [List.length_eq_zero_iff.1 h0]; rfl
      refine AR.callP c_clF0 he (AI flT_id flF_id) ?_
      refine goG Y51_B7 @G51_B7 ?_
      refine wG Y51_B7 @G51_B7 ?_
      refine AWp.loop ?_
      refine ALp.round ?_
      have hlt' : ¬ (0 : Int) < (fs.length : Int) := by omega
      refine wG Y51_B7 (AI (@G51_B7) hlt') ?_
      rw [he]
      refine Fin.gen0 (rs := [.cell 2 41]) rfl (by first | exact .inl rfl | exact .inr rfl) (by simp only [resX, resA, ↓accU_f, ↓reduceIte, SA, SB, SC, SD, Y51_B7, valG, fpsG, evO, evB, evA, evA1, nilK, eqF, eqC, apOk, intOf, slB, slK,  gd, St.ev, putA, ofl, wrl, putE, V.ofVal, V.ofCell, bin2, un1, seg, fillV, partsOk, Value.oneCell', Nat.reduceBEq, Nat.reduceLT, Nat.reduceSub, Nat.reduceAdd, Nat.reduceMul, Nat.reduceLeDiff, Nat.reduceEqDiff, reduceCtorEq, Int.reduceLT, Int.reduceLE, Int.reduceEq, Int.reduceNe, Int.reduceBEq, Int.reduceBNe, Int.reduceAdd, Int.reduceSub, Int.reduceMul, Int.reduceToNat]; with_reducible exact rfl) ?_
      repeat (first | exact WkF.of (Wk.refl _) (by first | rfl | simp only [List.length_cons, List.length_nil, Nat.reduceAdd, V.ids, V.idsL, idsA, entOk, List.all_cons, List.all_nil, Bool.and_self, Bool.and_true, Bool.true_and, ltB, noId, Nat.reduceLT, decide_true, Bool.true_eq_false, tyV_id, fdV_id, tyL_id, fdL_id, flT_id, flF_id]) | exact WkF.of (Wk.ro _ _) (by first | rfl | simp only [List.length_cons, List.length_nil, Nat.reduceAdd, V.ids, V.idsL, idsA, entOk, List.all_cons, List.all_nil, Bool.and_self, Bool.and_true, Bool.true_and, ltB, noId, Nat.reduceLT, decide_true, Bool.true_eq_false, tyV_id, fdV_id, tyL_id, fdL_id, flT_id, flF_id]) | refine WkF.tu ?_ | refine WkF.ag ?_ | refine WkFL.cons ?_ ?_ | exact WkFL.nil)
    have hcl := c_clF1 (l := fs) h0 (by omega)
    refine AR.callS [2] hcl rfl rfl (by first | (simp only [SR, flT_ren, flF_ren]; done) | (simp only [SR, flT_ren, flF_ren]; with_reducible exact rfl)) (by first | (simp only [SR, flT_ren, flF_ren]; done) | (simp only [SR, flT_ren, flF_ren]; with_reducible exact rfl)) (WkL.cons (Wk.nn (by simpa using h0)) .nil) (by first | rfl | simp only [List.length_cons, List.length_nil, Nat.reduceAdd, V.ids, V.idsL, idsA, entOk, List.all_cons, List.all_nil, Bool.and_self, Bool.and_true, Bool.true_and, ltB, noId, Nat.reduceLT, decide_true, Bool.true_eq_false, tyV_id, fdV_id, tyL_id, fdL_id, flT_id, flF_id]) rfl rfl rfl (by first | rfl | simp only [List.length_cons, List.length_nil, Nat.reduceAdd, V.ids, V.idsL, idsA, entOk, List.all_cons, List.all_nil, Bool.and_self, Bool.and_true, Bool.true_and, ltB, noId, Nat.reduceLT, decide_true, Bool.true_eq_false, tyV_id, fdV_id, tyL_id, fdL_id, flT_id, flF_id]) (by intro p hp; simp only [renE, SR, Ent.ren, List.mem_cons, List.not_mem_nil, or_false, flT_ren, flF_ren] at hp; rcases hp with rfl <;> rfl) (by simp only [renE, Ent.ren, SR, flT_ren, flF_ren, wrl, putE, SC, SD, Nat.reduceBEq, Nat.reduceLT, Nat.reduceSub, Nat.reduceAdd, Nat.reduceMul, Nat.reduceLeDiff, Nat.reduceEqDiff, reduceCtorEq, Int.reduceLT, Int.reduceLE, Int.reduceEq, Int.reduceNe, Int.reduceBEq, Int.reduceBNe, Int.reduceAdd, Int.reduceSub, Int.reduceMul, Int.reduceToNat]; with_reducible exact rfl) ?_
    refine goG Y51_B7 @G51_B7 ?_
    refine wG Y51_B7 @G51_B7 ?_
    refine AWp.loop ?_
    refine ALp.cutP 3 [(1, .pt 0 0), (2, .pt 1 0), (32, (.im (.int .i64 (fs.length)))), (33, (.im (.int .i64 ((((0 : Nat)) : Int)))))] [.box [.im (.int .i64 k), .im (.int .i64 s), .im (.int .i64 c), .sl (es.map tyV) .ro, .bs 2 fs.length], .box [.im (.int .i64 0), .im (.int .i64 0), .im (.int .i64 0), .sl [] .nl, .sl [] .nl], .box (flatV (fs.map fdV))] (AI flT_id flF_id) ?_
    refine ALp.upto fs.length (fun _ => True) (fun m => ⟨dn 50 [(1, .pt 0 0), (2, .pt 1 0), (32, (.im (.int .i64 (fs.length)))), (33, (.im (.int .i64 ((((m : Nat)) : Int)))))], ofl [.box [.im (.int .i64 k), .im (.int .i64 s), .im (.int .i64 c), .sl (es.map tyV) .ro, .bs 2 fs.length], .box [.im (.int .i64 0), .im (.int .i64 0), .im (.int .i64 0), .sl [] .nl, .sl [] .nl], .box (flatV (fs.map fdV))]⟩) ?_ 0 (Nat.zero_le _) trivial
    intro m hm _ hnext
    by_cases hlt : m < fs.length
    case pos =>
      have hlt' : (m : Int) < (fs.length : Int) := by omega
      have hm1 := wrap_succ hlt (by omega)
      have hm' : m < (fs.map fdV).length := by simpa using hlt
      have hd := flat_drop1 (allZ_fd fs) hm' (j := 1) (w := 5) (by simp [fdV_cells])
      have hs := flat_seg1 (allZ_fd fs) hm' (j := 1) (w := 5) (by simp [fdV_cells])
      have hf := flat_fit1 (allZ_fd fs) hm' (j := 1) (w := 5) (by omega)
      simp only [List.getElem_map, fdV_cells, seg, List.length_cons, List.length_nil, Nat.reduceAdd, List.drop_succ_cons, List.drop_zero, List.take_succ_cons, List.take_zero] at hd hs
      have hc := hF fs[m] (List.getElem_mem hlt) (hfF _ (List.getElem_mem hlt))
      refine wdG Y51_B7 (AI (@G51_B7) (AI hlt' (AI hd hf))) ?_
      refine AR.callP hc @tyV_eq (AI flT_id flF_id) ?_
      refine goG Y51_B7 (AI (@G51_B7) (AI hlt' (AI hd (AI hf hs)))) ?_
      refine wdG Y51_B7 (AI (@G51_B7) hm1) ?_
      refine ALp.cutP 3 [(1, .pt 0 0), (2, .pt 1 0), (32, (.im (.int .i64 (fs.length)))), (33, (.im (.int .i64 ((((m + 1 : Nat)) : Int)))))] [.box [.im (.int .i64 k), .im (.int .i64 s), .im (.int .i64 c), .sl (es.map tyV) .ro, .bs 2 fs.length], .box [.im (.int .i64 0), .im (.int .i64 0), .im (.int .i64 0), .sl [] .nl, .sl [] .nl], .box (flatV (fs.map fdV))] (AI flT_id flF_id) ?_
      exact hnext (m + 1) (by omega) (by omega) trivial
    have hlt' : ¬ (m : Int) < (fs.length : Int) := by omega
    clear hnext
    refine wG Y51_B7 (AI (@G51_B7) hlt') ?_
    refine Fin.gen0 (rs := [.cell 2 41]) rfl (by first | exact .inl rfl | exact .inr rfl) (by simp only [resX, resA, ↓accU_f, ↓reduceIte, SA, SB, SC, SD, Y51_B7, valG, fpsG, evO, evB, evA, evA1, nilK, eqF, eqC, apOk, intOf, slB, slK,  gd, St.ev, putA, ofl, wrl, putE, V.ofVal, V.ofCell, bin2, un1, seg, fillV, partsOk, Value.oneCell', Nat.reduceBEq, Nat.reduceLT, Nat.reduceSub, Nat.reduceAdd, Nat.reduceMul, Nat.reduceLeDiff, Nat.reduceEqDiff, reduceCtorEq, Int.reduceLT, Int.reduceLE, Int.reduceEq, Int.reduceNe, Int.reduceBEq, Int.reduceBNe, Int.reduceAdd, Int.reduceSub, Int.reduceMul, Int.reduceToNat]; with_reducible exact rfl) ?_
    refine WkF.ag ?_
    repeat (first | exact WkF.of (Wk.refl _) (by first | rfl | simp only [List.length_cons, List.length_nil, Nat.reduceAdd, V.ids, V.idsL, idsA, entOk, List.all_cons, List.all_nil, Bool.and_self, Bool.and_true, Bool.true_and, ltB, noId, Nat.reduceLT, decide_true, Bool.true_eq_false, tyV_id, fdV_id, tyL_id, fdL_id, flT_id, flF_id]) | exact WkF.of (Wk.ro _ _) (by first | rfl | simp only [List.length_cons, List.length_nil, Nat.reduceAdd, V.ids, V.idsL, idsA, entOk, List.all_cons, List.all_nil, Bool.and_self, Bool.and_true, Bool.true_and, ltB, noId, Nat.reduceLT, decide_true, Bool.true_eq_false, tyV_id, fdV_id, tyL_id, fdL_id, flT_id, flF_id]) | refine WkF.tu ?_ | refine WkF.ag ?_ | refine WkFL.cons ?_ ?_ | exact WkFL.nil)
    · exact WkF.bs (z := 6) rfl rfl (by simp) (allZ_fd fs) rfl (fdL_id _ _)
    · exact WkFL.nil
end Go.Proofs.YtfggemopnlffeaaGreat
namespace Go.Proofs.YtfggemopnlffeaaGreat
set_option linter.unusedSimpArgs false
set_option linter.unusedVariables false
set_option linter.unnecessarySimpa false
open Go.RowKit
theorem c_backF {l : List Ty} : PC Tryz.prog 130 [.sl (l.map fdV) .ro] (.fn (.func gfB) [] [.ep (.sl (l.map fdV) .ro) 0]) := by
  refine PC.enter 4 Tryz.func130 rfl (by decide) rfl rfl (s := [(0, .sl (l.map fdV) .ro)]) (by rfl) ?_
  refine wG True.intro True.intro ?_
  refine Fin.gen0 (rs := [.tmp 2]) rfl (by first | exact .inl rfl | exact .inr rfl) (by simp only [resX, resA, ↓accU_f, ↓reduceIte, SA, SB, SC, SD, valG, fpsG, evO, evB, evA, evA1, nilK, eqF, eqC, apOk, intOf, slB, slK,  gd, St.ev, putA, ofl, wrl, putE, V.ofVal, V.ofCell, bin2, un1, seg, fillV, partsOk, Value.oneCell', Nat.reduceBEq, Nat.reduceLT, Nat.reduceSub, Nat.reduceAdd, Nat.reduceMul, Nat.reduceLeDiff, Nat.reduceEqDiff, reduceCtorEq, Int.reduceLT, Int.reduceLE, Int.reduceEq, Int.reduceNe, Int.reduceBEq, Int.reduceBNe, Int.reduceAdd, Int.reduceSub, Int.reduceMul, Int.reduceToNat]; with_reducible exact rfl) ?_
  repeat (first | exact WkF.of (Wk.refl _) (by first | rfl | simp only [List.length_cons, List.length_nil, Nat.reduceAdd, V.ids, V.idsL, idsA, entOk, List.all_cons, List.all_nil, Bool.and_self, Bool.and_true, Bool.true_and, ltB, noId, Nat.reduceLT, decide_true, Bool.true_eq_false, tyV_id, fdV_id, tyL_id, fdL_id]) | exact WkF.of (Wk.ro _ _) (by first | rfl | simp only [List.length_cons, List.length_nil, Nat.reduceAdd, V.ids, V.idsL, idsA, entOk, List.all_cons, List.all_nil, Bool.and_self, Bool.and_true, Bool.true_and, ltB, noId, Nat.reduceLT, decide_true, Bool.true_eq_false, tyV_id, fdV_id, tyL_id, fdL_id]) | refine WkF.tu ?_ | refine WkF.ag ?_ | refine WkFL.cons ?_ ?_ | exact WkFL.nil)
  refine fun C v hst hC hR => ?_
  cases hR with
  | @fn _ _ _ us vs h1 h2 h3 h4 => exact .fn h1 h2 (fun i hi => absurd hi (Nat.not_lt_zero _)) (fun i hi => by
      obtain rfl : i = 0 := by simpa using hi
      exact WkF.ep rfl rfl rfl rfl (by simp [V.ids, fdL_id]) C _ hst hC (h4 0 (by simp)))
theorem Y119_B8 : type_of% (AI @F_ag_3 (AI @F_ag_38 (AI @F_ag_39 (AI @F_ag_4 (AI @F_ag_41 (AI @F_al_4 (AI @F_al_41 (AI @F_al_64 (AI @F_el_38 (AI @F_fl_41_0 (AI @F_fl_41_3 (AI @F_fl_41_4 (AI @F_fl_64_0 (AI @F_fl_64_1 (AI @F_sz_3 (AI @F_sz_38 (AI @F_sz_39 (AI @F_sz_4 (AI @F_sz_41 (@F_sz_64)))))))))))))))))))) := AI @F_ag_3 (AI @F_ag_38 (AI @F_ag_39 (AI @F_ag_4 (AI @F_ag_41 (AI @F_al_4 (AI @F_al_41 (AI @F_al_64 (AI @F_el_38 (AI @F_fl_41_0 (AI @F_fl_41_3 (AI @F_fl_41_4 (AI @F_fl_64_0 (AI @F_fl_64_1 (AI @F_sz_3 (AI @F_sz_38 (AI @F_sz_39 (AI @F_sz_4 (AI @F_sz_41 (@F_sz_64)))))))))))))))))))
theorem G119_B8 : type_of% (AI (@tyV_firm) (AI (@fdV_firm) (AI (@tyV_strip) (AI (@fdV_strip) (AI (@tyV_live) (AI (@tyV_size) (AI (@tyV_isAg) (AI (@tyV_cells) (AI (@fdV_live) (AI (@fdV_size) (AI (@fdV_isAg) (AI (@fdV_cells) (AI (@List.getElem?_map.{0, 0}) @Int.natCast_nonneg))))))))))))) := (AI (@tyV_firm) (AI (@fdV_firm) (AI (@tyV_strip) (AI (@fdV_strip) (AI (@tyV_live) (AI (@tyV_size) (AI (@tyV_isAg) (AI (@tyV_cells) (AI (@fdV_live) (AI (@fdV_size) (AI (@fdV_isAg) (AI (@fdV_cells) (AI (@List.getElem?_map.{0, 0}) @Int.natCast_nonneg)))))))))))))
theorem c_fatP : ∀ (t : Ty), fit t → frm t = true → ∀ off w : Int, I64 off → PC Tryz.prog 119 [tyV t, (.im (.int .i64 (off))), (.im (.int .i64 (w)))] (.tu [tyV ((fat t off w).getD (failP t off w)), (.im (.bool ((fat t off w).isSome)))]) := by
  refine Ty.induct fun o k s c es fs hE hF => ?_
  intro hfit hfrm off w hoff
  have hs := c_size _ hfit hfrm
  obtain ⟨hl1, hl2, hfE, hfF⟩ := fit_mk hfit
  obtain ⟨hb, hof, hfs, hes⟩ := frm_inv hfrm
  refine PC.enter 81 Tryz.func119 rfl (by decide) rfl rfl (s := [(0, tyV (.mk o k s c es fs)), (1, (.im (.int .i64 (off)))), (2, (.im (.int .i64 (w))))]) (by rfl) ?_
  simp only [tyV_mk]
  rw [fat_mk, failP_mk]
  rcases base_cases hb with h | h | h | h | h
  · obtain ⟨h, rfl, rfl, h4, h5⟩ := h
    have hk4 : (k == 4) = false := by rcases h with rfl | rfl <;> rfl
    have hk0 : (k == 0 || k == 6) = true := by rcases h with rfl | rfl <;> rfl
    rw [hk4, hk0]
    simp only [Bool.false_and, if_true, Bool.false_eq_true, if_false]
    by_cases h0 : off ≥ 0
    · rw [if_pos h0]
      simp only [tyV_mk, Option.getD_some, Option.getD_none, Option.isSome_some, Option.isSome_none]
      rcases h with rfl | rfl
      · refine wdG Y119_B8 (AI (@G119_B8) h0) ?_
        refine Fin.gen0 (rs := [.cell 6 41, .cell 7 4]) rfl (by first | exact .inl rfl | exact .inr rfl) (by simp only [resX, resA, ↓accU_f, ↓reduceIte, SA, SB, SC, SD, Y119_B8, valG, fpsG, evO, evB, evA, evA1, nilK, eqF, eqC, apOk, intOf, slB, slK,  gd, St.ev, putA, ofl, wrl, putE, V.ofVal, V.ofCell, bin2, un1, seg, fillV, partsOk, Value.oneCell', Nat.reduceBEq, Nat.reduceLT, Nat.reduceSub, Nat.reduceAdd, Nat.reduceMul, Nat.reduceLeDiff, Nat.reduceEqDiff, reduceCtorEq, Int.reduceLT, Int.reduceLE, Int.reduceEq, Int.reduceNe, Int.reduceBEq, Int.reduceBNe, Int.reduceAdd, Int.reduceSub, Int.reduceMul, Int.reduceToNat]; with_reducible exact rfl) ?_
        repeat (first | exact WkF.of (Wk.refl _) (by first | rfl | simp only [List.length_cons, List.length_nil, Nat.reduceAdd, V.ids, V.idsL, idsA, entOk, List.all_cons, List.all_nil, Bool.and_self, Bool.and_true, Bool.true_and, ltB, noId, Nat.reduceLT, decide_true, Bool.true_eq_false, tyV_id, fdV_id, tyL_id, fdL_id]) | exact WkF.of (Wk.ro _ _) (by first | rfl | simp only [List.length_cons, List.length_nil, Nat.reduceAdd, V.ids, V.idsL, idsA, entOk, List.all_cons, List.all_nil, Bool.and_self, Bool.and_true, Bool.true_and, ltB, noId, Nat.reduceLT, decide_true, Bool.true_eq_false, tyV_id, fdV_id, tyL_id, fdL_id]) | refine WkF.tu ?_ | refine WkF.ag ?_ | refine WkFL.cons ?_ ?_ | exact WkFL.nil)
      · refine wdG Y119_B8 (AI (@G119_B8) h0) ?_
        refine Fin.gen0 (rs := [.cell 6 41, .cell 7 4]) rfl (by first | exact .inl rfl | exact .inr rfl) (by simp only [resX, resA, ↓accU_f, ↓reduceIte, SA, SB, SC, SD, Y119_B8, valG, fpsG, evO, evB, evA, evA1, nilK, eqF, eqC, apOk, intOf, slB, slK,  gd, St.ev, putA, ofl, wrl, putE, V.ofVal, V.ofCell, bin2, un1, seg, fillV, partsOk, Value.oneCell', Nat.reduceBEq, Nat.reduceLT, Nat.reduceSub, Nat.reduceAdd, Nat.reduceMul, Nat.reduceLeDiff, Nat.reduceEqDiff, reduceCtorEq, Int.reduceLT, Int.reduceLE, Int.reduceEq, Int.reduceNe, Int.reduceBEq, Int.reduceBNe, Int.reduceAdd, Int.reduceSub, Int.reduceMul, Int.reduceToNat]; with_reducible exact rfl) ?_
        repeat (first | exact WkF.of (Wk.refl _) (by first | rfl | simp only [List.length_cons, List.length_nil, Nat.reduceAdd, V.ids, V.idsL, idsA, entOk, List.all_cons, List.all_nil, Bool.and_self, Bool.and_true, Bool.true_and, ltB, noId, Nat.reduceLT, decide_true, Bool.true_eq_false, tyV_id, fdV_id, tyL_id, fdL_id]) | exact WkF.of (Wk.ro _ _) (by first | rfl | simp only [List.length_cons, List.length_nil, Nat.reduceAdd, V.ids, V.idsL, idsA, entOk, List.all_cons, List.all_nil, Bool.and_self, Bool.and_true, Bool.true_and, ltB, noId, Nat.reduceLT, decide_true, Bool.true_eq_false, tyV_id, fdV_id, tyL_id, fdL_id]) | refine WkF.tu ?_ | refine WkF.ag ?_ | refine WkFL.cons ?_ ?_ | exact WkFL.nil)
    · rw [if_neg h0]
      simp only [tyV_mk, Option.getD_some, Option.getD_none, Option.isSome_some, Option.isSome_none]
      rcases h with rfl | rfl
      · refine wdG Y119_B8 (AI (@G119_B8) h0) ?_
        refine Fin.gen0 (rs := [.cell 6 41, .cell 7 4]) rfl (by first | exact .inl rfl | exact .inr rfl) (by simp only [resX, resA, ↓accU_f, ↓reduceIte, SA, SB, SC, SD, Y119_B8, valG, fpsG, evO, evB, evA, evA1, nilK, eqF, eqC, apOk, intOf, slB, slK,  gd, St.ev, putA, ofl, wrl, putE, V.ofVal, V.ofCell, bin2, un1, seg, fillV, partsOk, Value.oneCell', Nat.reduceBEq, Nat.reduceLT, Nat.reduceSub, Nat.reduceAdd, Nat.reduceMul, Nat.reduceLeDiff, Nat.reduceEqDiff, reduceCtorEq, Int.reduceLT, Int.reduceLE, Int.reduceEq, Int.reduceNe, Int.reduceBEq, Int.reduceBNe, Int.reduceAdd, Int.reduceSub, Int.reduceMul, Int.reduceToNat]; with_reducible exact rfl) ?_
        repeat (first | exact WkF.of (Wk.refl _) (by first | rfl | simp only [List.length_cons, List.length_nil, Nat.reduceAdd, V.ids, V.idsL, idsA, entOk, List.all_cons, List.all_nil, Bool.and_self, Bool.and_true, Bool.true_and, ltB, noId, Nat.reduceLT, decide_true, Bool.true_eq_false, tyV_id, fdV_id, tyL_id, fdL_id]) | exact WkF.of (Wk.ro _ _) (by first | rfl | simp only [List.length_cons, List.length_nil, Nat.reduceAdd, V.ids, V.idsL, idsA, entOk, List.all_cons, List.all_nil, Bool.and_self, Bool.and_true, Bool.true_and, ltB, noId, Nat.reduceLT, decide_true, Bool.true_eq_false, tyV_id, fdV_id, tyL_id, fdL_id]) | refine WkF.tu ?_ | refine WkF.ag ?_ | refine WkFL.cons ?_ ?_ | exact WkFL.nil)
      · refine wdG Y119_B8 (AI (@G119_B8) h0) ?_
        refine Fin.gen0 (rs := [.cell 6 41, .cell 7 4]) rfl (by first | exact .inl rfl | exact .inr rfl) (by simp only [resX, resA, ↓accU_f, ↓reduceIte, SA, SB, SC, SD, Y119_B8, valG, fpsG, evO, evB, evA, evA1, nilK, eqF, eqC, apOk, intOf, slB, slK,  gd, St.ev, putA, ofl, wrl, putE, V.ofVal, V.ofCell, bin2, un1, seg, fillV, partsOk, Value.oneCell', Nat.reduceBEq, Nat.reduceLT, Nat.reduceSub, Nat.reduceAdd, Nat.reduceMul, Nat.reduceLeDiff, Nat.reduceEqDiff, reduceCtorEq, Int.reduceLT, Int.reduceLE, Int.reduceEq, Int.reduceNe, Int.reduceBEq, Int.reduceBNe, Int.reduceAdd, Int.reduceSub, Int.reduceMul, Int.reduceToNat]; with_reducible exact rfl) ?_
        repeat (first | exact WkF.of (Wk.refl _) (by first | rfl | simp only [List.length_cons, List.length_nil, Nat.reduceAdd, V.ids, V.idsL, idsA, entOk, List.all_cons, List.all_nil, Bool.and_self, Bool.and_true, Bool.true_and, ltB, noId, Nat.reduceLT, decide_true, Bool.true_eq_false, tyV_id, fdV_id, tyL_id, fdL_id]) | exact WkF.of (Wk.ro _ _) (by first | rfl | simp only [List.length_cons, List.length_nil, Nat.reduceAdd, V.ids, V.idsL, idsA, entOk, List.all_cons, List.all_nil, Bool.and_self, Bool.and_true, Bool.true_and, ltB, noId, Nat.reduceLT, decide_true, Bool.true_eq_false, tyV_id, fdV_id, tyL_id, fdL_id]) | refine WkF.tu ?_ | refine WkF.ag ?_ | refine WkFL.cons ?_ ?_ | exact WkFL.nil)
  · obtain ⟨h, h3, rfl, h4, h5⟩ := h
    have hk4 : (k == 4) = false := by rcases h with rfl | rfl <;> rfl
    have hk0 : (k == 0 || k == 6) = false := by rcases h with rfl | rfl <;> rfl
    have hk1 : (k == 1 || k == 2 || k == 3) = true := by rcases h with rfl | rfl <;> rfl
    rw [hk4, hk0, hk1]
    simp only [Bool.false_and, if_true, Bool.false_eq_true, if_false]
    by_cases h0 : off = 0
    · by_cases h1 : w = siz (.mk o k s 0 es fs)
      · have e : (off == 0 && w == siz (.mk o k s 0 es fs)) = true := by simp [h0, h1]
        rw [e]
        simp only [tyV_mk, Option.getD_some, Option.getD_none, Option.isSome_some, Option.isSome_none, if_true]
        rcases h with rfl | rfl
        · refine wdG Y119_B8 (AI (@G119_B8) h0) ?_
          refine AR.callP hs @tyV_mk True.intro ?_
          refine goG Y119_B8 (AI (@G119_B8) (AI h0 h1)) ?_
          refine wdG Y119_B8 (AI (@G119_B8) h0) ?_
          refine Fin.gen0 (rs := [.cell 6 41, .cell 7 4]) rfl (by first | exact .inl rfl | exact .inr rfl) (by simp only [resX, resA, ↓accU_f, ↓reduceIte, SA, SB, SC, SD, Y119_B8, valG, fpsG, evO, evB, evA, evA1, nilK, eqF, eqC, apOk, intOf, slB, slK,  gd, St.ev, putA, ofl, wrl, putE, V.ofVal, V.ofCell, bin2, un1, seg, fillV, partsOk, Value.oneCell', Nat.reduceBEq, Nat.reduceLT, Nat.reduceSub, Nat.reduceAdd, Nat.reduceMul, Nat.reduceLeDiff, Nat.reduceEqDiff, reduceCtorEq, Int.reduceLT, Int.reduceLE, Int.reduceEq, Int.reduceNe, Int.reduceBEq, Int.reduceBNe, Int.reduceAdd, Int.reduceSub, Int.reduceMul, Int.reduceToNat]; with_reducible exact rfl) ?_
          repeat (first | exact WkF.of (Wk.refl _) (by first | rfl | simp only [List.length_cons, List.length_nil, Nat.reduceAdd, V.ids, V.idsL, idsA, entOk, List.all_cons, List.all_nil, Bool.and_self, Bool.and_true, Bool.true_and, ltB, noId, Nat.reduceLT, decide_true, Bool.true_eq_false, tyV_id, fdV_id, tyL_id, fdL_id]) | exact WkF.of (Wk.ro _ _) (by first | rfl | simp only [List.length_cons, List.length_nil, Nat.reduceAdd, V.ids, V.idsL, idsA, entOk, List.all_cons, List.all_nil, Bool.and_self, Bool.and_true, Bool.true_and, ltB, noId, Nat.reduceLT, decide_true, Bool.true_eq_false, tyV_id, fdV_id, tyL_id, fdL_id]) | refine WkF.tu ?_ | refine WkF.ag ?_ | refine WkFL.cons ?_ ?_ | exact WkFL.nil)
        · refine wdG Y119_B8 (AI (@G119_B8) h0) ?_
          refine AR.callP hs @tyV_mk True.intro ?_
          refine goG Y119_B8 (AI (@G119_B8) (AI h0 h1)) ?_
          refine wdG Y119_B8 (AI (@G119_B8) h0) ?_
          refine Fin.gen0 (rs := [.cell 6 41, .cell 7 4]) rfl (by first | exact .inl rfl | exact .inr rfl) (by simp only [resX, resA, ↓accU_f, ↓reduceIte, SA, SB, SC, SD, Y119_B8, valG, fpsG, evO, evB, evA, evA1, nilK, eqF, eqC, apOk, intOf, slB, slK,  gd, St.ev, putA, ofl, wrl, putE, V.ofVal, V.ofCell, bin2, un1, seg, fillV, partsOk, Value.oneCell', Nat.reduceBEq, Nat.reduceLT, Nat.reduceSub, Nat.reduceAdd, Nat.reduceMul, Nat.reduceLeDiff, Nat.reduceEqDiff, reduceCtorEq, Int.reduceLT, Int.reduceLE, Int.reduceEq, Int.reduceNe, Int.reduceBEq, Int.reduceBNe, Int.reduceAdd, Int.reduceSub, Int.reduceMul, Int.reduceToNat]; with_reducible exact rfl) ?_
          repeat (first | exact WkF.of (Wk.refl _) (by first | rfl | simp only [List.length_cons, List.length_nil, Nat.reduceAdd, V.ids, V.idsL, idsA, entOk, List.all_cons, List.all_nil, Bool.and_self, Bool.and_true, Bool.true_and, ltB, noId, Nat.reduceLT, decide_true, Bool.true_eq_false, tyV_id, fdV_id, tyL_id, fdL_id]) | exact WkF.of (Wk.ro _ _) (by first | rfl | simp only [List.length_cons, List.length_nil, Nat.reduceAdd, V.ids, V.idsL, idsA, entOk, List.all_cons, List.all_nil, Bool.and_self, Bool.and_true, Bool.true_and, ltB, noId, Nat.reduceLT, decide_true, Bool.true_eq_false, tyV_id, fdV_id, tyL_id, fdL_id]) | refine WkF.tu ?_ | refine WkF.ag ?_ | refine WkFL.cons ?_ ?_ | exact WkFL.nil)
      · have e : (off == 0 && w == siz (.mk o k s 0 es fs)) = false := by simp [h1]
        rw [e]
        simp only [tyV_mk, Option.getD_some, Option.getD_none, Option.isSome_some, Option.isSome_none, if_false, Bool.false_eq_true]
        rcases h with rfl | rfl
        · refine wdG Y119_B8 (AI (@G119_B8) h0) ?_
          refine AR.callP hs @tyV_mk True.intro ?_
          refine goG Y119_B8 (AI (@G119_B8) (AI h0 h1)) ?_
          refine wdG Y119_B8 (AI (@G119_B8) h0) ?_
          refine Fin.gen0 (rs := [.cell 6 41, .cell 7 4]) rfl (by first | exact .inl rfl | exact .inr rfl) (by simp only [resX, resA, ↓accU_f, ↓reduceIte, SA, SB, SC, SD, Y119_B8, valG, fpsG, evO, evB, evA, evA1, nilK, eqF, eqC, apOk, intOf, slB, slK,  gd, St.ev, putA, ofl, wrl, putE, V.ofVal, V.ofCell, bin2, un1, seg, fillV, partsOk, Value.oneCell', Nat.reduceBEq, Nat.reduceLT, Nat.reduceSub, Nat.reduceAdd, Nat.reduceMul, Nat.reduceLeDiff, Nat.reduceEqDiff, reduceCtorEq, Int.reduceLT, Int.reduceLE, Int.reduceEq, Int.reduceNe, Int.reduceBEq, Int.reduceBNe, Int.reduceAdd, Int.reduceSub, Int.reduceMul, Int.reduceToNat]; with_reducible exact rfl) ?_
          repeat (first | exact WkF.of (Wk.refl _) (by first | rfl | simp only [List.length_cons, List.length_nil, Nat.reduceAdd, V.ids, V.idsL, idsA, entOk, List.all_cons, List.all_nil, Bool.and_self, Bool.and_true, Bool.true_and, ltB, noId, Nat.reduceLT, decide_true, Bool.true_eq_false, tyV_id, fdV_id, tyL_id, fdL_id]) | exact WkF.of (Wk.ro _ _) (by first | rfl | simp only [List.length_cons, List.length_nil, Nat.reduceAdd, V.ids, V.idsL, idsA, entOk, List.all_cons, List.all_nil, Bool.and_self, Bool.and_true, Bool.true_and, ltB, noId, Nat.reduceLT, decide_true, Bool.true_eq_false, tyV_id, fdV_id, tyL_id, fdL_id]) | refine WkF.tu ?_ | refine WkF.ag ?_ | refine WkFL.cons ?_ ?_ | exact WkFL.nil)
        · refine wdG Y119_B8 (AI (@G119_B8) h0) ?_
          refine AR.callP hs @tyV_mk True.intro ?_
          refine goG Y119_B8 (AI (@G119_B8) (AI h0 h1)) ?_
          refine wdG Y119_B8 (AI (@G119_B8) h0) ?_
          refine Fin.gen0 (rs := [.cell 6 41, .cell 7 4]) rfl (by first | exact .inl rfl | exact .inr rfl) (by simp only [resX, resA, ↓accU_f, ↓reduceIte, SA, SB, SC, SD, Y119_B8, valG, fpsG, evO, evB, evA, evA1, nilK, eqF, eqC, apOk, intOf, slB, slK,  gd, St.ev, putA, ofl, wrl, putE, V.ofVal, V.ofCell, bin2, un1, seg, fillV, partsOk, Value.oneCell', Nat.reduceBEq, Nat.reduceLT, Nat.reduceSub, Nat.reduceAdd, Nat.reduceMul, Nat.reduceLeDiff, Nat.reduceEqDiff, reduceCtorEq, Int.reduceLT, Int.reduceLE, Int.reduceEq, Int.reduceNe, Int.reduceBEq, Int.reduceBNe, Int.reduceAdd, Int.reduceSub, Int.reduceMul, Int.reduceToNat]; with_reducible exact rfl) ?_
          repeat (first | exact WkF.of (Wk.refl _) (by first | rfl | simp only [List.length_cons, List.length_nil, Nat.reduceAdd, V.ids, V.idsL, idsA, entOk, List.all_cons, List.all_nil, Bool.and_self, Bool.and_true, Bool.true_and, ltB, noId, Nat.reduceLT, decide_true, Bool.true_eq_false, tyV_id, fdV_id, tyL_id, fdL_id]) | exact WkF.of (Wk.ro _ _) (by first | rfl | simp only [List.length_cons, List.length_nil, Nat.reduceAdd, V.ids, V.idsL, idsA, entOk, List.all_cons, List.all_nil, Bool.and_self, Bool.and_true, Bool.true_and, ltB, noId, Nat.reduceLT, decide_true, Bool.true_eq_false, tyV_id, fdV_id, tyL_id, fdL_id]) | refine WkF.tu ?_ | refine WkF.ag ?_ | refine WkFL.cons ?_ ?_ | exact WkFL.nil)
    · have e : (off == 0 && w == siz (.mk o k s 0 es fs)) = false := by simp [h0]
      rw [e]
      simp only [tyV_mk, Option.getD_some, Option.getD_none, Option.isSome_some, Option.isSome_none, if_false, Bool.false_eq_true]
      rcases h with rfl | rfl
      · refine wdG Y119_B8 (AI (@G119_B8) h0) ?_
        refine Fin.gen0 (rs := [.cell 6 41, .cell 7 4]) rfl (by first | exact .inl rfl | exact .inr rfl) (by simp only [resX, resA, ↓accU_f, ↓reduceIte, SA, SB, SC, SD, Y119_B8, valG, fpsG, evO, evB, evA, evA1, nilK, eqF, eqC, apOk, intOf, slB, slK,  gd, St.ev, putA, ofl, wrl, putE, V.ofVal, V.ofCell, bin2, un1, seg, fillV, partsOk, Value.oneCell', Nat.reduceBEq, Nat.reduceLT, Nat.reduceSub, Nat.reduceAdd, Nat.reduceMul, Nat.reduceLeDiff, Nat.reduceEqDiff, reduceCtorEq, Int.reduceLT, Int.reduceLE, Int.reduceEq, Int.reduceNe, Int.reduceBEq, Int.reduceBNe, Int.reduceAdd, Int.reduceSub, Int.reduceMul, Int.reduceToNat]; with_reducible exact rfl) ?_
        repeat (first | exact WkF.of (Wk.refl _) (by first | rfl | simp only [List.length_cons, List.length_nil, Nat.reduceAdd, V.ids, V.idsL, idsA, entOk, List.all_cons, List.all_nil, Bool.and_self, Bool.and_true, Bool.true_and, ltB, noId, Nat.reduceLT, decide_true, Bool.true_eq_false, tyV_id, fdV_id, tyL_id, fdL_id]) | exact WkF.of (Wk.ro _ _) (by first | rfl | simp only [List.length_cons, List.length_nil, Nat.reduceAdd, V.ids, V.idsL, idsA, entOk, List.all_cons, List.all_nil, Bool.and_self, Bool.and_true, Bool.true_and, ltB, noId, Nat.reduceLT, decide_true, Bool.true_eq_false, tyV_id, fdV_id, tyL_id, fdL_id]) | refine WkF.tu ?_ | refine WkF.ag ?_ | refine WkFL.cons ?_ ?_ | exact WkFL.nil)
      · refine wdG Y119_B8 (AI (@G119_B8) h0) ?_
        refine Fin.gen0 (rs := [.cell 6 41, .cell 7 4]) rfl (by first | exact .inl rfl | exact .inr rfl) (by simp only [resX, resA, ↓accU_f, ↓reduceIte, SA, SB, SC, SD, Y119_B8, valG, fpsG, evO, evB, evA, evA1, nilK, eqF, eqC, apOk, intOf, slB, slK,  gd, St.ev, putA, ofl, wrl, putE, V.ofVal, V.ofCell, bin2, un1, seg, fillV, partsOk, Value.oneCell', Nat.reduceBEq, Nat.reduceLT, Nat.reduceSub, Nat.reduceAdd, Nat.reduceMul, Nat.reduceLeDiff, Nat.reduceEqDiff, reduceCtorEq, Int.reduceLT, Int.reduceLE, Int.reduceEq, Int.reduceNe, Int.reduceBEq, Int.reduceBNe, Int.reduceAdd, Int.reduceSub, Int.reduceMul, Int.reduceToNat]; with_reducible exact rfl) ?_
        repeat (first | exact WkF.of (Wk.refl _) (by first | rfl | simp only [List.length_cons, List.length_nil, Nat.reduceAdd, V.ids, V.idsL, idsA, entOk, List.all_cons, List.all_nil, Bool.and_self, Bool.and_true, Bool.true_and, ltB, noId, Nat.reduceLT, decide_true, Bool.true_eq_false, tyV_id, fdV_id, tyL_id, fdL_id]) | exact WkF.of (Wk.ro _ _) (by first | rfl | simp only [List.length_cons, List.length_nil, Nat.reduceAdd, V.ids, V.idsL, idsA, entOk, List.all_cons, List.all_nil, Bool.and_self, Bool.and_true, Bool.true_and, ltB, noId, Nat.reduceLT, decide_true, Bool.true_eq_false, tyV_id, fdV_id, tyL_id, fdL_id]) | refine WkF.tu ?_ | refine WkF.ag ?_ | refine WkFL.cons ?_ ?_ | exact WkFL.nil)
  · obtain ⟨rfl, rfl, rfl, h4, h5⟩ := h
    simp only [Int.reduceBEq, Bool.false_and, Bool.or_true, Bool.or_false, if_true, Bool.false_eq_true, if_false]
    by_cases h0 : off = 0
    · by_cases h1 : w = siz (.mk o 3 0 0 es fs)
      · have e : (off == 0 && w == siz (.mk o 3 0 0 es fs)) = true := by simp [h0, h1]
        rw [e]
        simp only [tyV_mk, Option.getD_some, Option.getD_none, Option.isSome_some, Option.isSome_none, if_true]
        refine wdG Y119_B8 (AI (@G119_B8) h0) ?_
        refine AR.callP hs @tyV_mk True.intro ?_
        refine goG Y119_B8 (AI (@G119_B8) (AI h0 h1)) ?_
        refine wdG Y119_B8 (AI (@G119_B8) h0) ?_
        refine Fin.gen0 (rs := [.cell 6 41, .cell 7 4]) rfl (by first | exact .inl rfl | exact .inr rfl) (by simp only [resX, resA, ↓accU_f, ↓reduceIte, SA, SB, SC, SD, Y119_B8, valG, fpsG, evO, evB, evA, evA1, nilK, eqF, eqC, apOk, intOf, slB, slK,  gd, St.ev, putA, ofl, wrl, putE, V.ofVal, V.ofCell, bin2, un1, seg, fillV, partsOk, Value.oneCell', Nat.reduceBEq, Nat.reduceLT, Nat.reduceSub, Nat.reduceAdd, Nat.reduceMul, Nat.reduceLeDiff, Nat.reduceEqDiff, reduceCtorEq, Int.reduceLT, Int.reduceLE, Int.reduceEq, Int.reduceNe, Int.reduceBEq, Int.reduceBNe, Int.reduceAdd, Int.reduceSub, Int.reduceMul, Int.reduceToNat]; with_reducible exact rfl) ?_
        repeat (first | exact WkF.of (Wk.refl _) (by first | rfl | simp only [List.length_cons, List.length_nil, Nat.reduceAdd, V.ids, V.idsL, idsA, entOk, List.all_cons, List.all_nil, Bool.and_self, Bool.and_true, Bool.true_and, ltB, noId, Nat.reduceLT, decide_true, Bool.true_eq_false, tyV_id, fdV_id, tyL_id, fdL_id]) | exact WkF.of (Wk.ro _ _) (by first | rfl | simp only [List.length_cons, List.length_nil, Nat.reduceAdd, V.ids, V.idsL, idsA, entOk, List.all_cons, List.all_nil, Bool.and_self, Bool.and_true, Bool.true_and, ltB, noId, Nat.reduceLT, decide_true, Bool.true_eq_false, tyV_id, fdV_id, tyL_id, fdL_id]) | refine WkF.tu ?_ | refine WkF.ag ?_ | refine WkFL.cons ?_ ?_ | exact WkFL.nil)
      · have e : (off == 0 && w == siz (.mk o 3 0 0 es fs)) = false := by simp [h1]
        rw [e]
        simp only [tyV_mk, Option.getD_some, Option.getD_none, Option.isSome_some, Option.isSome_none, if_false, Bool.false_eq_true]
        refine wdG Y119_B8 (AI (@G119_B8) h0) ?_
        refine AR.callP hs @tyV_mk True.intro ?_
        refine goG Y119_B8 (AI (@G119_B8) (AI h0 h1)) ?_
        refine wdG Y119_B8 (AI (@G119_B8) h0) ?_
        refine Fin.gen0 (rs := [.cell 6 41, .cell 7 4]) rfl (by first | exact .inl rfl | exact .inr rfl) (by simp only [resX, resA, ↓accU_f, ↓reduceIte, SA, SB, SC, SD, Y119_B8, valG, fpsG, evO, evB, evA, evA1, nilK, eqF, eqC, apOk, intOf, slB, slK,  gd, St.ev, putA, ofl, wrl, putE, V.ofVal, V.ofCell, bin2, un1, seg, fillV, partsOk, Value.oneCell', Nat.reduceBEq, Nat.reduceLT, Nat.reduceSub, Nat.reduceAdd, Nat.reduceMul, Nat.reduceLeDiff, Nat.reduceEqDiff, reduceCtorEq, Int.reduceLT, Int.reduceLE, Int.reduceEq, Int.reduceNe, Int.reduceBEq, Int.reduceBNe, Int.reduceAdd, Int.reduceSub, Int.reduceMul, Int.reduceToNat]; with_reducible exact rfl) ?_
        repeat (first | exact WkF.of (Wk.refl _) (by first | rfl | simp only [List.length_cons, List.length_nil, Nat.reduceAdd, V.ids, V.idsL, idsA, entOk, List.all_cons, List.all_nil, Bool.and_self, Bool.and_true, Bool.true_and, ltB, noId, Nat.reduceLT, decide_true, Bool.true_eq_false, tyV_id, fdV_id, tyL_id, fdL_id]) | exact WkF.of (Wk.ro _ _) (by first | rfl | simp only [List.length_cons, List.length_nil, Nat.reduceAdd, V.ids, V.idsL, idsA, entOk, List.all_cons, List.all_nil, Bool.and_self, Bool.and_true, Bool.true_and, ltB, noId, Nat.reduceLT, decide_true, Bool.true_eq_false, tyV_id, fdV_id, tyL_id, fdL_id]) | refine WkF.tu ?_ | refine WkF.ag ?_ | refine WkFL.cons ?_ ?_ | exact WkFL.nil)
    · have e : (off == 0 && w == siz (.mk o 3 0 0 es fs)) = false := by simp [h0]
      rw [e]
      simp only [tyV_mk, Option.getD_some, Option.getD_none, Option.isSome_some, Option.isSome_none, if_false, Bool.false_eq_true]
      refine wdG Y119_B8 (AI (@G119_B8) h0) ?_
      refine Fin.gen0 (rs := [.cell 6 41, .cell 7 4]) rfl (by first | exact .inl rfl | exact .inr rfl) (by simp only [resX, resA, ↓accU_f, ↓reduceIte, SA, SB, SC, SD, Y119_B8, valG, fpsG, evO, evB, evA, evA1, nilK, eqF, eqC, apOk, intOf, slB, slK,  gd, St.ev, putA, ofl, wrl, putE, V.ofVal, V.ofCell, bin2, un1, seg, fillV, partsOk, Value.oneCell', Nat.reduceBEq, Nat.reduceLT, Nat.reduceSub, Nat.reduceAdd, Nat.reduceMul, Nat.reduceLeDiff, Nat.reduceEqDiff, reduceCtorEq, Int.reduceLT, Int.reduceLE, Int.reduceEq, Int.reduceNe, Int.reduceBEq, Int.reduceBNe, Int.reduceAdd, Int.reduceSub, Int.reduceMul, Int.reduceToNat]; with_reducible exact rfl) ?_
      repeat (first | exact WkF.of (Wk.refl _) (by first | rfl | simp only [List.length_cons, List.length_nil, Nat.reduceAdd, V.ids, V.idsL, idsA, entOk, List.all_cons, List.all_nil, Bool.and_self, Bool.and_true, Bool.true_and, ltB, noId, Nat.reduceLT, decide_true, Bool.true_eq_false, tyV_id, fdV_id, tyL_id, fdL_id]) | exact WkF.of (Wk.ro _ _) (by first | rfl | simp only [List.length_cons, List.length_nil, Nat.reduceAdd, V.ids, V.idsL, idsA, entOk, List.all_cons, List.all_nil, Bool.and_self, Bool.and_true, Bool.true_and, ltB, noId, Nat.reduceLT, decide_true, Bool.true_eq_false, tyV_id, fdV_id, tyL_id, fdL_id]) | refine WkF.tu ?_ | refine WkF.ag ?_ | refine WkFL.cons ?_ ?_ | exact WkFL.nil)
  · obtain ⟨rfl, rfl, hc1, hc2, h4, h5⟩ := h
    simp only [Int.reduceBEq, Bool.true_and, Bool.or_false, if_true, Bool.false_eq_true, if_false]
    obtain ⟨x, rfl⟩ := List.length_eq_one_iff.1 h4
    by_cases h0 : off < 0
    · rw [if_pos (.inl h0)]
      have e : (!decide (off < 0 ∨ siz (.mk o 4 0 c [x] fs) ≤ off)) = false := by simp [h0]
      rw [e]
      simp only [tyV_mk, Option.getD_some, Option.getD_none, Option.isSome_some, Option.isSome_none, Bool.false_eq_true, if_false]
      refine wdG Y119_B8 (AI (@G119_B8) h0) ?_
      refine Fin.gen0 (rs := [.cell 6 41, .cell 7 4]) rfl (by first | exact .inl rfl | exact .inr rfl) (by simp only [resX, resA, ↓accU_f, ↓reduceIte, SA, SB, SC, SD, Y119_B8, valG, fpsG, evO, evB, evA, evA1, nilK, eqF, eqC, apOk, intOf, slB, slK,  gd, St.ev, putA, ofl, wrl, putE, V.ofVal, V.ofCell, bin2, un1, seg, fillV, partsOk, Value.oneCell', Nat.reduceBEq, Nat.reduceLT, Nat.reduceSub, Nat.reduceAdd, Nat.reduceMul, Nat.reduceLeDiff, Nat.reduceEqDiff, reduceCtorEq, Int.reduceLT, Int.reduceLE, Int.reduceEq, Int.reduceNe, Int.reduceBEq, Int.reduceBNe, Int.reduceAdd, Int.reduceSub, Int.reduceMul, Int.reduceToNat]; with_reducible exact rfl) ?_
      repeat (first | exact WkF.of (Wk.refl _) (by first | rfl | simp only [List.length_cons, List.length_nil, Nat.reduceAdd, V.ids, V.idsL, idsA, entOk, List.all_cons, List.all_nil, Bool.and_self, Bool.and_true, Bool.true_and, ltB, noId, Nat.reduceLT, decide_true, Bool.true_eq_false, tyV_id, fdV_id, tyL_id, fdL_id]) | exact WkF.of (Wk.ro _ _) (by first | rfl | simp only [List.length_cons, List.length_nil, Nat.reduceAdd, V.ids, V.idsL, idsA, entOk, List.all_cons, List.all_nil, Bool.and_self, Bool.and_true, Bool.true_and, ltB, noId, Nat.reduceLT, decide_true, Bool.true_eq_false, tyV_id, fdV_id, tyL_id, fdL_id]) | refine WkF.tu ?_ | refine WkF.ag ?_ | refine WkFL.cons ?_ ?_ | exact WkFL.nil)
    by_cases h1 : off ≥ siz (.mk o 4 0 c [x] fs)
    · rw [if_pos (.inr h1)]
      have e : (!decide (off < 0 ∨ siz (.mk o 4 0 c [x] fs) ≤ off)) = false := by simp [h1]
      rw [e]
      simp only [tyV_mk, Option.getD_some, Option.getD_none, Option.isSome_some, Option.isSome_none, Bool.false_eq_true, if_false]
      refine wdG Y119_B8 (AI (@G119_B8) h0) ?_
      refine AR.callP hs @tyV_mk True.intro ?_
      refine goG Y119_B8 (AI (@G119_B8) (AI h0 h1)) ?_
      refine wdG Y119_B8 (AI (@G119_B8) h0) ?_
      refine Fin.gen0 (rs := [.cell 6 41, .cell 7 4]) rfl (by first | exact .inl rfl | exact .inr rfl) (by simp only [resX, resA, ↓accU_f, ↓reduceIte, SA, SB, SC, SD, Y119_B8, valG, fpsG, evO, evB, evA, evA1, nilK, eqF, eqC, apOk, intOf, slB, slK,  gd, St.ev, putA, ofl, wrl, putE, V.ofVal, V.ofCell, bin2, un1, seg, fillV, partsOk, Value.oneCell', Nat.reduceBEq, Nat.reduceLT, Nat.reduceSub, Nat.reduceAdd, Nat.reduceMul, Nat.reduceLeDiff, Nat.reduceEqDiff, reduceCtorEq, Int.reduceLT, Int.reduceLE, Int.reduceEq, Int.reduceNe, Int.reduceBEq, Int.reduceBNe, Int.reduceAdd, Int.reduceSub, Int.reduceMul, Int.reduceToNat]; with_reducible exact rfl) ?_
      repeat (first | exact WkF.of (Wk.refl _) (by first | rfl | simp only [List.length_cons, List.length_nil, Nat.reduceAdd, V.ids, V.idsL, idsA, entOk, List.all_cons, List.all_nil, Bool.and_self, Bool.and_true, Bool.true_and, ltB, noId, Nat.reduceLT, decide_true, Bool.true_eq_false, tyV_id, fdV_id, tyL_id, fdL_id]) | exact WkF.of (Wk.ro _ _) (by first | rfl | simp only [List.length_cons, List.length_nil, Nat.reduceAdd, V.ids, V.idsL, idsA, entOk, List.all_cons, List.all_nil, Bool.and_self, Bool.and_true, Bool.true_and, ltB, noId, Nat.reduceLT, decide_true, Bool.true_eq_false, tyV_id, fdV_id, tyL_id, fdL_id]) | refine WkF.tu ?_ | refine WkF.ag ?_ | refine WkFL.cons ?_ ?_ | exact WkFL.nil)
    · have hn : ¬ (off < 0 ∨ siz (.mk o 4 0 c [x] fs) ≤ off) := by omega
      rw [if_neg hn]
      have e : (!decide (off < 0 ∨ siz (.mk o 4 0 c [x] fs) ≤ off)) = true := by simp [hn]
      rw [e]
      simp only [if_true]
      have hx := c_size x (hfE x (by simp)) (hes x (by simp))
      have hx0 : ¬ siz x = 0 := fun hx => by
        have : siz (.mk o 4 0 c [x] fs) = 0 := by rw [siz_mk]; simp [hx]; omega
        omega
      have hxn := siz_nonneg x (hes x (by simp))
      have hxl := siz_le x
      have hrem : off.tmod (siz x) = off % siz x := Int.tmod_eq_emod_of_nonneg (by omega)
      have hm1 := Int.emod_nonneg off (show siz x ≠ 0 from hx0)
      have hm2 := Int.emod_lt_of_pos off (show 0 < siz x by omega)
      have hr := hE x (by simp) (hfE x (by simp)) (hes x (by simp)) (off % siz x) w (by unfold I64; omega)
      refine wdG Y119_B8 (AI (@G119_B8) h0) ?_
      refine AR.callP hs @tyV_mk True.intro ?_
      refine goG Y119_B8 (AI (@G119_B8) (AI h0 h1)) ?_
      refine wdG Y119_B8 (AI (@G119_B8) h0) ?_
      refine AR.callP hx @tyV_eq True.intro ?_
      refine goG Y119_B8 (AI (@G119_B8) (AI hx0 hrem)) ?_
      refine AR.callP hr @tyV_eq True.intro ?_
      refine goG Y119_B8 @G119_B8 ?_
      refine wdG Y119_B8 @G119_B8 ?_
      refine Fin.gen0 (rs := [.cell 6 41, .cell 7 4]) rfl (by first | exact .inl rfl | exact .inr rfl) (by simp only [resX, resA, ↓accU_f, ↓reduceIte, SA, SB, SC, SD, Y119_B8, valG, fpsG, evO, evB, evA, evA1, nilK, eqF, eqC, apOk, intOf, slB, slK,  gd, St.ev, putA, ofl, wrl, putE, V.ofVal, V.ofCell, bin2, un1, seg, fillV, partsOk, Value.oneCell', Nat.reduceBEq, Nat.reduceLT, Nat.reduceSub, Nat.reduceAdd, Nat.reduceMul, Nat.reduceLeDiff, Nat.reduceEqDiff, reduceCtorEq, Int.reduceLT, Int.reduceLE, Int.reduceEq, Int.reduceNe, Int.reduceBEq, Int.reduceBNe, Int.reduceAdd, Int.reduceSub, Int.reduceMul, Int.reduceToNat]; with_reducible exact rfl) ?_
      simp only [tyV_eq]
      repeat (first | exact WkF.of (Wk.refl _) (by first | rfl | simp only [List.length_cons, List.length_nil, Nat.reduceAdd, V.ids, V.idsL, idsA, entOk, List.all_cons, List.all_nil, Bool.and_self, Bool.and_true, Bool.true_and, ltB, noId, Nat.reduceLT, decide_true, Bool.true_eq_false, tyV_id, fdV_id, tyL_id, fdL_id]) | exact WkF.of (Wk.ro _ _) (by first | rfl | simp only [List.length_cons, List.length_nil, Nat.reduceAdd, V.ids, V.idsL, idsA, entOk, List.all_cons, List.all_nil, Bool.and_self, Bool.and_true, Bool.true_and, ltB, noId, Nat.reduceLT, decide_true, Bool.true_eq_false, tyV_id, fdV_id, tyL_id, fdL_id]) | refine WkF.tu ?_ | refine WkF.ag ?_ | refine WkFL.cons ?_ ?_ | exact WkFL.nil)
  · obtain ⟨rfl, rfl, rfl, h4⟩ := h
    simp only [Int.reduceBEq, Bool.false_and, Bool.or_false, if_true, Bool.false_eq_true, if_false]
    by_cases h0 : off < 0
    · rw [if_pos h0]
      simp only [tyV_mk, Option.getD_some, Option.getD_none, Option.isSome_some, Option.isSome_none]
      refine wdG Y119_B8 (AI (@G119_B8) h0) ?_
      refine Fin.gen0 (rs := [.cell 6 41, .cell 7 4]) rfl (by first | exact .inl rfl | exact .inr rfl) (by simp only [resX, resA, ↓accU_f, ↓reduceIte, SA, SB, SC, SD, Y119_B8, valG, fpsG, evO, evB, evA, evA1, nilK, eqF, eqC, apOk, intOf, slB, slK,  gd, St.ev, putA, ofl, wrl, putE, V.ofVal, V.ofCell, bin2, un1, seg, fillV, partsOk, Value.oneCell', Nat.reduceBEq, Nat.reduceLT, Nat.reduceSub, Nat.reduceAdd, Nat.reduceMul, Nat.reduceLeDiff, Nat.reduceEqDiff, reduceCtorEq, Int.reduceLT, Int.reduceLE, Int.reduceEq, Int.reduceNe, Int.reduceBEq, Int.reduceBNe, Int.reduceAdd, Int.reduceSub, Int.reduceMul, Int.reduceToNat]; with_reducible exact rfl) ?_
      repeat (first | exact WkF.of (Wk.refl _) (by first | rfl | simp only [List.length_cons, List.length_nil, Nat.reduceAdd, V.ids, V.idsL, idsA, entOk, List.all_cons, List.all_nil, Bool.and_self, Bool.and_true, Bool.true_and, ltB, noId, Nat.reduceLT, decide_true, Bool.true_eq_false, tyV_id, fdV_id, tyL_id, fdL_id]) | exact WkF.of (Wk.ro _ _) (by first | rfl | simp only [List.length_cons, List.length_nil, Nat.reduceAdd, V.ids, V.idsL, idsA, entOk, List.all_cons, List.all_nil, Bool.and_self, Bool.and_true, Bool.true_and, ltB, noId, Nat.reduceLT, decide_true, Bool.true_eq_false, tyV_id, fdV_id, tyL_id, fdL_id]) | refine WkF.tu ?_ | refine WkF.ag ?_ | refine WkFL.cons ?_ ?_ | exact WkFL.nil)
    rw [if_neg h0]
    refine wdG Y119_B8 (AI (@G119_B8) h0) ?_
    have hbk := c_backF (l := fs)
    refine AR.callP hbk True.intro True.intro ?_
    refine goG Y119_B8 @G119_B8 ?_
    refine wG Y119_B8 @G119_B8 ?_
    refine AWp.frz 5 [(3, .pt 0 0), (4, .pt 1 0), (5, .pt 2 0), (6, .pt 3 0), (7, .pt 4 0), (64, .fn (.func gfB) [] [.ep (.sl (fs.map fdV) .ro) 0])] [.box [.im (.int .i64 5), .im (.int .i64 0), .im (.int .i64 0), .sl (es.map tyV) .ro, .sl (fs.map fdV) .ro], .box [(.im (.int .i64 (off)))], .box [(.im (.int .i64 (w)))], .box [.im (.int .i64 0), .im (.int .i64 0), .im (.int .i64 0), .sl [] .nl, .sl [] .nl], .box [.im (.bool false)]] ?_ (by simp) (by repeat (first | exact WkFA.nil | refine WkFA.cons (by first | exact .of (Wk.refl _) (by first | rfl | simp only [List.length_cons, List.length_nil, Nat.reduceAdd, V.ids, V.idsL, idsA, entOk, List.all_cons, List.all_nil, Bool.and_self, Bool.and_true, Bool.true_and, ltB, noId, Nat.reduceLT, decide_true, Bool.true_eq_false, tyV_id, fdV_id, tyL_id, fdL_id])) ?_)) (by repeat (first | exact WkFE.nil | refine WkFE.box (by repeat (first | exact WkFL.nil | refine WkFL.cons (by first | exact .of (Wk.refl _) (by first | rfl | simp only [List.length_cons, List.length_nil, Nat.reduceAdd, V.ids, V.idsL, idsA, entOk, List.all_cons, List.all_nil, Bool.and_self, Bool.and_true, Bool.true_and, ltB, noId, Nat.reduceLT, decide_true, Bool.true_eq_false, tyV_id, fdV_id, tyL_id, fdL_id])) ?_)) ?_ | refine WkFE.same (fun _ e => by cases e) ?_)) (fun i hi => by first | exact absurd rfl hi | exact Nat.lt_of_lt_of_le (ofl_lt hi) (by simp))
    obtain ⟨ff, hff⟩ : ∃ ff : Nat → Ty, ∀ i (hi : i < fs.length), fs[i] = ff i := ⟨fun i => (fs[i]?).getD (.mk 0 0 0 0 [] []), fun i hi => by simp [hi]⟩
    refine AWp.backward (es := fs.map fdV) (k := .ro) (by simp only [St.ev, getD_dn, look_cons, Nat.reduceLT, Nat.reduceEqDiff, if_true, if_false]) (allZ_fd fs) (fun x hx => by obtain ⟨y, _, rfl⟩ := List.mem_map.1 hx; exact fdV_isAg y) (by simp; omega) (by first | rfl | simp [entOk, V.idsL, V.ids, tyL_id, fdL_id]) (by first | rfl | simp [idsA, ltB, V.ids, V.idsL, fdL_id]) (noIter rfl)
      (fun i => ∀ h : i < fs.length, fat (fs[i]) (off - fs[i].off) w = none) (fun i l3 => ∃ x, (∀ h : i < fs.length, fat (fs[i]) (off - fs[i].off) w = some x) ∧ l3 = [.box [.im (.int .i64 5), .im (.int .i64 0), .im (.int .i64 0), .sl (es.map tyV) .ro, .sl (fs.map fdV) .ro], .box [(.im (.int .i64 (off)))], .box [(.im (.int .i64 (w)))], .box [.im (.int .i64 x.kind), .im (.int .i64 x.size), .im (.int .i64 x.count), .sl (x.elem.map tyV) .ro, .sl (x.fields.map fdV) .ro], .box [.im (.bool true)]])
      (fun i => [(3, .pt 0 0), (4, .pt 1 0), (5, .pt 2 0), (6, .pt 3 0), (7, .pt 4 0), (9, .pt 5 0), (64, .fn (.func gfB) [] [.ep (.sl (fs.map fdV) .ro) 0]), (65, .im (.int .i64 i)), (66, fdV (ff i))])
      (fun i => [.box [.im (.int .i64 5), .im (.int .i64 0), .im (.int .i64 0), .sl (es.map tyV) .ro, .sl (fs.map fdV) .ro], .box [(.im (.int .i64 (off)))], .box [(.im (.int .i64 (w)))], .box [.im (.int .i64 0), .im (.int .i64 0), .im (.int .i64 0), .sl [] .nl, .sl [] .nl], .box [.im (.bool false)], .box [.im (.int .i64 (ff i).off), .im (.int .i64 (ff i).kind), .im (.int .i64 (ff i).size), .im (.int .i64 (ff i).count), .sl ((ff i).elem.map tyV) .ro, .sl ((ff i).fields.map fdV) .ro]]) (fun i => rfl) (fun i => noIter rfl) ?_ ?_ ?_ ?_
    · intro i hi
      have hi' : i < fs.length := by simpa using hi
      simp only [List.getElem_map, hff i hi', fdV_eq]
      refine wG Y119_B8 @G119_B8 ?_

      exact ⟨rfl, rfl⟩
    · intro i hi
      have hi' : i < fs.length := by simpa using hi
      have hf1 := hF fs[i] (List.getElem_mem hi') (hfF _ (List.getElem_mem hi')) (hfs _ (List.getElem_mem hi'))
      have ho1 := fok_off hi' (hof i hi')
      rw [hff i hi'] at hf1 ho1
      have hofI : I64 (off - (ff i).off) := by unfold I64 at hoff ⊢; omega
      have hf1 := hf1 (off - (ff i).off) w hofI
      have hw := wrap_in hofI
      refine wG Y119_B8 (AI (@G119_B8) hw) ?_
      cases hfat : fat (ff i) (off - (ff i).off) w with
      | none =>
        rw [hfat] at hf1
        simp only [tyV_mk, Option.getD_some, Option.getD_none, Option.isSome_some, Option.isSome_none] at hf1
        refine AR.callP hf1 @tyV_eq True.intro ?_
        refine goG Y119_B8 (AI (@G119_B8) hw) ?_
        refine wG Y119_B8 @G119_B8 ?_
        exact .inl ⟨rfl, fun h => by rw [hff i hi']; exact hfat, _, rfl, rfl⟩
      | some x =>
        rw [hfat] at hf1
        simp only [tyV_mk, Option.getD_some, Option.getD_none, Option.isSome_some, Option.isSome_none] at hf1
        refine AR.callP hf1 @tyV_eq True.intro ?_
        refine goG Y119_B8 (AI (@G119_B8) hw) ?_
        refine wG Y119_B8 @G119_B8 ?_
        exact .inr ⟨rfl, _, _, rfl, rfl, rfl, by simp [entOk, V.idsL, V.ids, tyL_id, fdL_id], noIter rfl, x, fun h => by rw [hff i hi']; exact hfat, rfl⟩
    · intro hall
      have hn : lastSome (fs.map fun f => fat f (off - f.off) w) = none := lastSome_none fun i hi => by
        have hi' : i < fs.length := by simpa using hi
        simpa using hall i (by simpa using hi') hi'
      rw [hn]
      simp only [tyV_mk, Option.getD_some, Option.getD_none, Option.isSome_some, Option.isSome_none]
      refine wG Y119_B8 @G119_B8 ?_
      refine Fin.gen0 (rs := [.cell 6 41, .cell 7 4]) rfl (by first | exact .inl rfl | exact .inr rfl) (by simp only [resX, resA, ↓accU_f, ↓reduceIte, SA, SB, SC, SD, Y119_B8, valG, fpsG, evO, evB, evA, evA1, nilK, eqF, eqC, apOk, intOf, slB, slK,  gd, St.ev, putA, ofl, wrl, putE, V.ofVal, V.ofCell, bin2, un1, seg, fillV, partsOk, Value.oneCell', Nat.reduceBEq, Nat.reduceLT, Nat.reduceSub, Nat.reduceAdd, Nat.reduceMul, Nat.reduceLeDiff, Nat.reduceEqDiff, reduceCtorEq, Int.reduceLT, Int.reduceLE, Int.reduceEq, Int.reduceNe, Int.reduceBEq, Int.reduceBNe, Int.reduceAdd, Int.reduceSub, Int.reduceMul, Int.reduceToNat]; with_reducible exact rfl) ?_
      repeat (first | exact WkF.of (Wk.refl _) (by first | rfl | simp only [List.length_cons, List.length_nil, Nat.reduceAdd, V.ids, V.idsL, idsA, entOk, List.all_cons, List.all_nil, Bool.and_self, Bool.and_true, Bool.true_and, ltB, noId, Nat.reduceLT, decide_true, Bool.true_eq_false, tyV_id, fdV_id, tyL_id, fdL_id]) | exact WkF.of (Wk.ro _ _) (by first | rfl | simp only [List.length_cons, List.length_nil, Nat.reduceAdd, V.ids, V.idsL, idsA, entOk, List.all_cons, List.all_nil, Bool.and_self, Bool.and_true, Bool.true_and, ltB, noId, Nat.reduceLT, decide_true, Bool.true_eq_false, tyV_id, fdV_id, tyL_id, fdL_id]) | refine WkF.tu ?_ | refine WkF.ag ?_ | refine WkFL.cons ?_ ?_ | exact WkFL.nil)
    · intro i hi hj l3 hT
      obtain ⟨x, hx, rfl⟩ := hT
      have hi' : i < fs.length := by simpa using hi
      have hn : lastSome (fs.map fun f => fat f (off - f.off) w) = some x := lastSome_some (k := i) (by simpa using hi') (by simpa using hx hi') fun j h1 h2 => by
        have hj' : j < fs.length := by simpa using h1
        simpa using hj j h2 (by simpa using hj') hj'
      rw [hn]
      simp only [tyV_mk, Option.getD_some, Option.getD_none, Option.isSome_some, Option.isSome_none]
      refine wG Y119_B8 @G119_B8 ?_
      refine Fin.gen0 (rs := [.cell 6 41, .cell 7 4]) rfl (by first | exact .inl rfl | exact .inr rfl) (by simp only [resX, resA, ↓accU_f, ↓reduceIte, SA, SB, SC, SD, Y119_B8, valG, fpsG, evO, evB, evA, evA1, nilK, eqF, eqC, apOk, intOf, slB, slK,  gd, St.ev, putA, ofl, wrl, putE, V.ofVal, V.ofCell, bin2, un1, seg, fillV, partsOk, Value.oneCell', Nat.reduceBEq, Nat.reduceLT, Nat.reduceSub, Nat.reduceAdd, Nat.reduceMul, Nat.reduceLeDiff, Nat.reduceEqDiff, reduceCtorEq, Int.reduceLT, Int.reduceLE, Int.reduceEq, Int.reduceNe, Int.reduceBEq, Int.reduceBNe, Int.reduceAdd, Int.reduceSub, Int.reduceMul, Int.reduceToNat]; with_reducible exact rfl) ?_
      simp only [tyV_eq]
      repeat (first | exact WkF.of (Wk.refl _) (by first | rfl | simp only [List.length_cons, List.length_nil, Nat.reduceAdd, V.ids, V.idsL, idsA, entOk, List.all_cons, List.all_nil, Bool.and_self, Bool.and_true, Bool.true_and, ltB, noId, Nat.reduceLT, decide_true, Bool.true_eq_false, tyV_id, fdV_id, tyL_id, fdL_id]) | exact WkF.of (Wk.ro _ _) (by first | rfl | simp only [List.length_cons, List.length_nil, Nat.reduceAdd, V.ids, V.idsL, idsA, entOk, List.all_cons, List.all_nil, Bool.and_self, Bool.and_true, Bool.true_and, ltB, noId, Nat.reduceLT, decide_true, Bool.true_eq_false, tyV_id, fdV_id, tyL_id, fdL_id]) | refine WkF.tu ?_ | refine WkF.ag ?_ | refine WkFL.cons ?_ ?_ | exact WkFL.nil)
end Go.Proofs.YtfggemopnlffeaaGreat
namespace Go.Proofs.YtfggemopnlffeaaGreat
set_option linter.unusedSimpArgs false
set_option linter.unusedVariables false
set_option linter.unnecessarySimpa false
open Go.RowKit
theorem fit_at {t : Ty} (h : fit t) : fit (t.at_ 0) := by
  cases t with
  | mk o k s c es fs =>
    obtain ⟨h1, h2, h3, h4⟩ := fit_mk h
    obtain ⟨_, g2, g3, g4⟩ := fit_num h
    have e : fitB (.mk 0 k s c es fs) = _ := Ty.para_mk _ 0 k s c es fs
    show fitB (.mk 0 k s c es fs) = true
    rw [e]
    simp only [Bool.and_eq_true, decide_eq_true_eq, Ty.off, Ty.kind, Ty.size, Ty.count, Ty.elem, Ty.fields, List.all_map, List.all_eq_true]
    exact ⟨⟨⟨⟨decide_eq_true ⟨by unfold I64; omega, g2, g3, g4⟩, decide_eq_true h1⟩, decide_eq_true h2⟩, h3⟩, h4⟩
theorem fat_fit {t : Ty} {off w : Int} {x : Ty} (h : fit t) (hx : fat t off w = some x) : fit x :=
  fat_part (P := fit) (fun _ => fit_at) (fun _ _ _ _ _ _ h => ⟨(fit_mk h).2.2.1, (fit_mk h).2.2.2⟩) t off w x h hx
theorem Y95_B9 : type_of% (AI @F_ag_41 (AI @F_al_41 (AI @F_st_41 (@F_sz_41)))) := AI @F_ag_41 (AI @F_al_41 (AI @F_st_41 (@F_sz_41)))
theorem G95_B9 : type_of% (AI (@tyV_firm) (AI (@fdV_firm) (AI (@tyV_strip) (AI (@fdV_strip) (AI (@tyV_live) (AI (@tyV_size) (AI (@tyV_isAg) (AI (@tyV_cells) (AI (@fdV_live) (AI (@fdV_size) (AI (@fdV_isAg) (AI (@fdV_cells) (AI (@List.getElem?_map.{0, 0}) (AI (@Int.natCast_nonneg) (AI (@tyV_mk) (AI (@Option.getD_some.{0}) (AI (@Option.getD_none.{0}) (AI (@Option.isSome_some.{0}) @Option.isSome_none.{0})))))))))))))))))) := (AI (@tyV_firm) (AI (@fdV_firm) (AI (@tyV_strip) (AI (@fdV_strip) (AI (@tyV_live) (AI (@tyV_size) (AI (@tyV_isAg) (AI (@tyV_cells) (AI (@fdV_live) (AI (@fdV_size) (AI (@fdV_isAg) (AI (@fdV_cells) (AI (@List.getElem?_map.{0, 0}) (AI (@Int.natCast_nonneg) (AI (@tyV_mk) (AI (@Option.getD_some.{0}) (AI (@Option.getD_none.{0}) (AI (@Option.isSome_some.{0}) @Option.isSome_none.{0}))))))))))))))))))
theorem c_FieldAt (t : Ty) (hfit : fit t) (off w : Int) (hoff : I64 off) : PC Tryz.prog 95 [tyV t, (.im (.int .i64 (off))), (.im (.int .i64 (w)))] (.tu [tyV ((fieldA t off w).getD tz), (.im (.bool ((fieldA t off w).isSome)))]) := by
  have hg := c_good t hfit
  refine PC.enter 38 Tryz.func95 rfl (by decide) rfl rfl (s := [(0, tyV t), (1, (.im (.int .i64 (off)))), (2, (.im (.int .i64 (w))))]) (by rfl) ?_
  rw [tyV_eq t]
  unfold fieldA
  cases b : good t with
  | false =>
    rw [b] at hg
    simp only [Bool.false_and, Bool.false_eq_true, if_false, tyV_mk, Option.getD_some, Option.getD_none, Option.isSome_some, Option.isSome_none]
    refine wG Y95_B9 @G95_B9 ?_
    refine AR.callP hg @tyV_eq True.intro ?_
    refine goG Y95_B9 @G95_B9 ?_
    refine wG Y95_B9 @G95_B9 ?_
    refine Fin.gen0 (rs := [.cell 6 41, .tmp 7]) rfl (by first | exact .inl rfl | exact .inr rfl) (by simp only [resX, resA, ↓accU_f, ↓reduceIte, SA, SB, SC, SD, Y95_B9, valG, fpsG, evO, evB, evA, evA1, nilK, eqF, eqC, apOk, intOf, slB, slK,  gd, St.ev, putA, ofl, wrl, putE, V.ofVal, V.ofCell, bin2, un1, seg, fillV, partsOk, Value.oneCell', Nat.reduceBEq, Nat.reduceLT, Nat.reduceSub, Nat.reduceAdd, Nat.reduceMul, Nat.reduceLeDiff, Nat.reduceEqDiff, reduceCtorEq, Int.reduceLT, Int.reduceLE, Int.reduceEq, Int.reduceNe, Int.reduceBEq, Int.reduceBNe, Int.reduceAdd, Int.reduceSub, Int.reduceMul, Int.reduceToNat]; with_reducible exact rfl) ?_
    simp only [tz, tyV_mk, List.map_nil]
    repeat (first | exact WkF.of (Wk.refl _) (by first | rfl | simp only [List.length_cons, List.length_nil, Nat.reduceAdd, V.ids, V.idsL, idsA, entOk, List.all_cons, List.all_nil, Bool.and_self, Bool.and_true, Bool.true_and, ltB, noId, Nat.reduceLT, decide_true, Bool.true_eq_false, tyV_id, fdV_id, tyL_id, fdL_id]) | exact WkF.of (Wk.ro _ _) (by first | rfl | simp only [List.length_cons, List.length_nil, Nat.reduceAdd, V.ids, V.idsL, idsA, entOk, List.all_cons, List.all_nil, Bool.and_self, Bool.and_true, Bool.true_and, ltB, noId, Nat.reduceLT, decide_true, Bool.true_eq_false, tyV_id, fdV_id, tyL_id, fdL_id]) | refine WkF.tu ?_ | refine WkF.ag ?_ | refine WkFL.cons ?_ ?_ | exact WkFL.nil)
  | true =>
    rw [b] at hg
    have hf := c_fatP t hfit (good_frm b) off w hoff
    by_cases hw : w = 1 ∨ w = 2 ∨ w = 4
    · have e : (w == 1 || w == 2 || w == 4) = true := by rcases hw with rfl | rfl | rfl <;> rfl
      rw [e]
      simp only [Bool.and_self, if_true]
      rcases hw with rfl | rfl | rfl
      all_goals
        refine wG Y95_B9 @G95_B9 ?_
        refine AR.callP hg @tyV_eq True.intro ?_
        refine goG Y95_B9 @G95_B9 ?_
        refine wG Y95_B9 @G95_B9 ?_
        refine AR.callP hf @tyV_eq True.intro ?_
        refine goG Y95_B9 @G95_B9 ?_
        cases hfat : fat t off _ with
        | none =>
          simp only [tyV_mk, Option.getD_some, Option.getD_none, Option.isSome_some, Option.isSome_none]
          refine wG Y95_B9 @G95_B9 ?_
          refine Fin.gen0 (rs := [.cell 6 41, .tmp 7]) rfl (by first | exact .inl rfl | exact .inr rfl) (by simp only [resX, resA, ↓accU_f, ↓reduceIte, SA, SB, SC, SD, Y95_B9, valG, fpsG, evO, evB, evA, evA1, nilK, eqF, eqC, apOk, intOf, slB, slK,  gd, St.ev, putA, ofl, wrl, putE, V.ofVal, V.ofCell, bin2, un1, seg, fillV, partsOk, Value.oneCell', Nat.reduceBEq, Nat.reduceLT, Nat.reduceSub, Nat.reduceAdd, Nat.reduceMul, Nat.reduceLeDiff, Nat.reduceEqDiff, reduceCtorEq, Int.reduceLT, Int.reduceLE, Int.reduceEq, Int.reduceNe, Int.reduceBEq, Int.reduceBNe, Int.reduceAdd, Int.reduceSub, Int.reduceMul, Int.reduceToNat]; with_reducible exact rfl) ?_
          simp only [tz, tyV_mk, List.map_nil]
          repeat (first | exact WkF.of (Wk.refl _) (by first | rfl | simp only [List.length_cons, List.length_nil, Nat.reduceAdd, V.ids, V.idsL, idsA, entOk, List.all_cons, List.all_nil, Bool.and_self, Bool.and_true, Bool.true_and, ltB, noId, Nat.reduceLT, decide_true, Bool.true_eq_false, tyV_id, fdV_id, tyL_id, fdL_id]) | exact WkF.of (Wk.ro _ _) (by first | rfl | simp only [List.length_cons, List.length_nil, Nat.reduceAdd, V.ids, V.idsL, idsA, entOk, List.all_cons, List.all_nil, Bool.and_self, Bool.and_true, Bool.true_and, ltB, noId, Nat.reduceLT, decide_true, Bool.true_eq_false, tyV_id, fdV_id, tyL_id, fdL_id]) | refine WkF.tu ?_ | refine WkF.ag ?_ | refine WkFL.cons ?_ ?_ | exact WkFL.nil)
        | some x =>
          simp only [tyV_mk, Option.getD_some, Option.getD_none, Option.isSome_some, Option.isSome_none]
          refine wG Y95_B9 @G95_B9 ?_
          have ho := c_own x (fat_fit hfit hfat)
          refine AR.callP ho @tyV_eq True.intro ?_
          refine goG Y95_B9 @G95_B9 ?_
          refine wG Y95_B9 @G95_B9 ?_
          refine Fin.gen0 (rs := [.cell 6 41, .tmp 7]) rfl (by first | exact .inl rfl | exact .inr rfl) (by simp only [resX, resA, ↓accU_f, ↓reduceIte, SA, SB, SC, SD, Y95_B9, valG, fpsG, evO, evB, evA, evA1, nilK, eqF, eqC, apOk, intOf, slB, slK,  gd, St.ev, putA, ofl, wrl, putE, V.ofVal, V.ofCell, bin2, un1, seg, fillV, partsOk, Value.oneCell', Nat.reduceBEq, Nat.reduceLT, Nat.reduceSub, Nat.reduceAdd, Nat.reduceMul, Nat.reduceLeDiff, Nat.reduceEqDiff, reduceCtorEq, Int.reduceLT, Int.reduceLE, Int.reduceEq, Int.reduceNe, Int.reduceBEq, Int.reduceBNe, Int.reduceAdd, Int.reduceSub, Int.reduceMul, Int.reduceToNat]; with_reducible exact rfl) ?_
          simp only [tyV_eq]
          repeat (first | exact WkF.of (Wk.refl _) (by first | rfl | simp only [List.length_cons, List.length_nil, Nat.reduceAdd, V.ids, V.idsL, idsA, entOk, List.all_cons, List.all_nil, Bool.and_self, Bool.and_true, Bool.true_and, ltB, noId, Nat.reduceLT, decide_true, Bool.true_eq_false, tyV_id, fdV_id, tyL_id, fdL_id]) | exact WkF.of (Wk.ro _ _) (by first | rfl | simp only [List.length_cons, List.length_nil, Nat.reduceAdd, V.ids, V.idsL, idsA, entOk, List.all_cons, List.all_nil, Bool.and_self, Bool.and_true, Bool.true_and, ltB, noId, Nat.reduceLT, decide_true, Bool.true_eq_false, tyV_id, fdV_id, tyL_id, fdL_id]) | refine WkF.tu ?_ | refine WkF.ag ?_ | refine WkFL.cons ?_ ?_ | exact WkFL.nil)
    · have e : (w == 1 || w == 2 || w == 4) = false := by simp; omega
      rw [e]
      simp only [Bool.and_false, Bool.false_eq_true, if_false, tyV_mk, Option.getD_some, Option.getD_none, Option.isSome_some, Option.isSome_none]
      have h1 : ¬ w = 1 := by omega
      have h2 : ¬ w = 2 := by omega
      have h4 : ¬ w = 4 := by omega
      refine wG Y95_B9 @G95_B9 ?_
      refine AR.callP hg @tyV_eq True.intro ?_
      refine goG Y95_B9 (AI (@G95_B9) (AI h1 (AI h2 h4))) ?_
      refine wG Y95_B9 (AI (@G95_B9) (AI h1 (AI h2 h4))) ?_
      refine Fin.gen0 (rs := [.cell 6 41, .tmp 7]) rfl (by first | exact .inl rfl | exact .inr rfl) (by simp only [resX, resA, ↓accU_f, ↓reduceIte, SA, SB, SC, SD, Y95_B9, valG, fpsG, evO, evB, evA, evA1, nilK, eqF, eqC, apOk, intOf, slB, slK,  gd, St.ev, putA, ofl, wrl, putE, V.ofVal, V.ofCell, bin2, un1, seg, fillV, partsOk, Value.oneCell', Nat.reduceBEq, Nat.reduceLT, Nat.reduceSub, Nat.reduceAdd, Nat.reduceMul, Nat.reduceLeDiff, Nat.reduceEqDiff, reduceCtorEq, Int.reduceLT, Int.reduceLE, Int.reduceEq, Int.reduceNe, Int.reduceBEq, Int.reduceBNe, Int.reduceAdd, Int.reduceSub, Int.reduceMul, Int.reduceToNat]; with_reducible exact rfl) ?_
      simp only [tz, tyV_mk, List.map_nil]
      repeat (first | exact WkF.of (Wk.refl _) (by first | rfl | simp only [List.length_cons, List.length_nil, Nat.reduceAdd, V.ids, V.idsL, idsA, entOk, List.all_cons, List.all_nil, Bool.and_self, Bool.and_true, Bool.true_and, ltB, noId, Nat.reduceLT, decide_true, Bool.true_eq_false, tyV_id, fdV_id, tyL_id, fdL_id]) | exact WkF.of (Wk.ro _ _) (by first | rfl | simp only [List.length_cons, List.length_nil, Nat.reduceAdd, V.ids, V.idsL, idsA, entOk, List.all_cons, List.all_nil, Bool.and_self, Bool.and_true, Bool.true_and, ltB, noId, Nat.reduceLT, decide_true, Bool.true_eq_false, tyV_id, fdV_id, tyL_id, fdL_id]) | refine WkF.tu ?_ | refine WkF.ag ?_ | refine WkFL.cons ?_ ?_ | exact WkFL.nil)
theorem Y116_B9 : type_of% (AI @F_ag_3 (AI @F_ag_38 (AI @F_ag_39 (AI @F_ag_41 (AI @F_al_41 (AI @F_el_38 (AI @F_el_39 (AI @F_fl_41_0 (AI @F_fl_41_3 (AI @F_fl_41_4 (AI @F_fl_64_0 (AI @F_fl_64_1 (AI @F_st_41 (AI @F_sz_3 (AI @F_sz_38 (AI @F_sz_39 (AI @F_sz_41 (@F_sz_64)))))))))))))))))) := AI @F_ag_3 (AI @F_ag_38 (AI @F_ag_39 (AI @F_ag_41 (AI @F_al_41 (AI @F_el_38 (AI @F_el_39 (AI @F_fl_41_0 (AI @F_fl_41_3 (AI @F_fl_41_4 (AI @F_fl_64_0 (AI @F_fl_64_1 (AI @F_st_41 (AI @F_sz_3 (AI @F_sz_38 (AI @F_sz_39 (AI @F_sz_41 (@F_sz_64)))))))))))))))))
theorem G116_B9 : type_of% (AI (@tyV_firm) (AI (@fdV_firm) (AI (@tyV_strip) (AI (@fdV_strip) (AI (@tyV_live) (AI (@tyV_size) (AI (@tyV_isAg) (AI (@tyV_cells) (AI (@fdV_live) (AI (@fdV_size) (AI (@fdV_isAg) (AI (@fdV_cells) (AI (@List.getElem?_map.{0, 0}) @Int.natCast_nonneg))))))))))))) := (AI (@tyV_firm) (AI (@fdV_firm) (AI (@tyV_strip) (AI (@fdV_strip) (AI (@tyV_live) (AI (@tyV_size) (AI (@tyV_isAg) (AI (@tyV_cells) (AI (@fdV_live) (AI (@fdV_size) (AI (@fdV_isAg) (AI (@fdV_cells) (AI (@List.getElem?_map.{0, 0}) @Int.natCast_nonneg)))))))))))))
theorem c_fatR : ∀ (t : Ty), fit t → frm t = true → ∀ off w : Int, I64 off → PC Tryz.prog 116 [tyV t, (.im (.int .i64 (off))), (.im (.int .i64 (w)))] (.tu [tyV ((fat t off w).getD tz), (.im (.bool ((fat t off w).isSome)))]) := by
  refine Ty.induct fun o k s c es fs hE hF => ?_
  intro hfit hfrm off w hoff
  have hs := c_sizeR _ hfit hfrm
  obtain ⟨hl1, hl2, hfE, hfF⟩ := fit_mk hfit
  obtain ⟨hb, hof, hfs, hes⟩ := frm_inv hfrm
  refine PC.enter 94 Tryz.func116 rfl (by decide) rfl rfl (s := [(0, tyV (.mk o k s c es fs)), (1, (.im (.int .i64 (off)))), (2, (.im (.int .i64 (w))))]) (by rfl) ?_
  simp only [tyV_mk]
  by_cases h0 : off < 0
  · rw [fat_neg _ _ _ h0]
    simp only [tyV_mk, Option.getD_some, Option.getD_none, Option.isSome_some, Option.isSome_none]
    refine wG Y116_B9 (AI (@G116_B9) h0) ?_
    refine Fin.gen0 (rs := [.cell 6 41, .tmp 7]) rfl (by first | exact .inl rfl | exact .inr rfl) (by simp only [resX, resA, ↓accU_f, ↓reduceIte, SA, SB, SC, SD, Y116_B9, valG, fpsG, evO, evB, evA, evA1, nilK, eqF, eqC, apOk, intOf, slB, slK,  gd, St.ev, putA, ofl, wrl, putE, V.ofVal, V.ofCell, bin2, un1, seg, fillV, partsOk, Value.oneCell', Nat.reduceBEq, Nat.reduceLT, Nat.reduceSub, Nat.reduceAdd, Nat.reduceMul, Nat.reduceLeDiff, Nat.reduceEqDiff, reduceCtorEq, Int.reduceLT, Int.reduceLE, Int.reduceEq, Int.reduceNe, Int.reduceBEq, Int.reduceBNe, Int.reduceAdd, Int.reduceSub, Int.reduceMul, Int.reduceToNat]; with_reducible exact rfl) ?_
    simp only [tz, tyV_mk, List.map_nil]
    repeat (first | exact WkF.of (Wk.refl _) (by first | rfl | simp only [List.length_cons, List.length_nil, Nat.reduceAdd, V.ids, V.idsL, idsA, entOk, List.all_cons, List.all_nil, Bool.and_self, Bool.and_true, Bool.true_and, ltB, noId, Nat.reduceLT, decide_true, Bool.true_eq_false, tyV_id, fdV_id, tyL_id, fdL_id]) | exact WkF.of (Wk.ro _ _) (by first | rfl | simp only [List.length_cons, List.length_nil, Nat.reduceAdd, V.ids, V.idsL, idsA, entOk, List.all_cons, List.all_nil, Bool.and_self, Bool.and_true, Bool.true_and, ltB, noId, Nat.reduceLT, decide_true, Bool.true_eq_false, tyV_id, fdV_id, tyL_id, fdL_id]) | refine WkF.tu ?_ | refine WkF.ag ?_ | refine WkFL.cons ?_ ?_ | exact WkFL.nil)
  have h0' : 0 ≤ off := by omega
  rw [fat_mk]
  rcases base_cases hb with h | h | h | h | h
  · obtain ⟨h, rfl, rfl, h4, h5⟩ := h
    have hk0 : (k == 0 || k == 6) = true := by rcases h with rfl | rfl <;> rfl
    rw [hk0]
    simp only [if_true, h0', tyV_mk, Option.getD_some, Option.getD_none, Option.isSome_some, Option.isSome_none]
    rcases h with rfl | rfl
    all_goals
      refine wG Y116_B9 (AI (@G116_B9) h0) ?_
      refine Fin.gen0 (rs := [.cell 6 41, .tmp 7]) rfl (by first | exact .inl rfl | exact .inr rfl) (by simp only [resX, resA, ↓accU_f, ↓reduceIte, SA, SB, SC, SD, Y116_B9, valG, fpsG, evO, evB, evA, evA1, nilK, eqF, eqC, apOk, intOf, slB, slK,  gd, St.ev, putA, ofl, wrl, putE, V.ofVal, V.ofCell, bin2, un1, seg, fillV, partsOk, Value.oneCell', Nat.reduceBEq, Nat.reduceLT, Nat.reduceSub, Nat.reduceAdd, Nat.reduceMul, Nat.reduceLeDiff, Nat.reduceEqDiff, reduceCtorEq, Int.reduceLT, Int.reduceLE, Int.reduceEq, Int.reduceNe, Int.reduceBEq, Int.reduceBNe, Int.reduceAdd, Int.reduceSub, Int.reduceMul, Int.reduceToNat]; with_reducible exact rfl) ?_
      repeat (first | exact WkF.of (Wk.refl _) (by first | rfl | simp only [List.length_cons, List.length_nil, Nat.reduceAdd, V.ids, V.idsL, idsA, entOk, List.all_cons, List.all_nil, Bool.and_self, Bool.and_true, Bool.true_and, ltB, noId, Nat.reduceLT, decide_true, Bool.true_eq_false, tyV_id, fdV_id, tyL_id, fdL_id]) | exact WkF.of (Wk.ro _ _) (by first | rfl | simp only [List.length_cons, List.length_nil, Nat.reduceAdd, V.ids, V.idsL, idsA, entOk, List.all_cons, List.all_nil, Bool.and_self, Bool.and_true, Bool.true_and, ltB, noId, Nat.reduceLT, decide_true, Bool.true_eq_false, tyV_id, fdV_id, tyL_id, fdL_id]) | refine WkF.tu ?_ | refine WkF.ag ?_ | refine WkFL.cons ?_ ?_ | exact WkFL.nil)
  · obtain ⟨h, h3, rfl, h4, h5⟩ := h
    have hk0 : (k == 0 || k == 6) = false := by rcases h with rfl | rfl <;> rfl
    have hk1 : (k == 1 || k == 2 || k == 3) = true := by rcases h with rfl | rfl <;> rfl
    rw [hk0, hk1]
    simp only [if_true, Bool.false_eq_true, if_false]
    by_cases h1 : off = 0
    · by_cases h2 : w = siz (.mk o k s 0 es fs)
      · have e : (off == 0 && w == siz (.mk o k s 0 es fs)) = true := by simp [h1, h2]
        rw [e]
        simp only [tyV_mk, Option.getD_some, Option.getD_none, Option.isSome_some, Option.isSome_none, if_true]
        rcases h with rfl | rfl
        all_goals
          refine wG Y116_B9 (AI (@G116_B9) (AI h0 h1)) ?_
          refine AR.callP hs @tyV_mk True.intro ?_
          refine goG Y116_B9 (AI (@G116_B9) (AI h0 (AI h1 h2))) ?_
          refine wG Y116_B9 (AI (@G116_B9) (AI h0 h1)) ?_
          refine Fin.gen0 (rs := [.cell 6 41, .tmp 7]) rfl (by first | exact .inl rfl | exact .inr rfl) (by simp only [resX, resA, ↓accU_f, ↓reduceIte, SA, SB, SC, SD, Y116_B9, valG, fpsG, evO, evB, evA, evA1, nilK, eqF, eqC, apOk, intOf, slB, slK,  gd, St.ev, putA, ofl, wrl, putE, V.ofVal, V.ofCell, bin2, un1, seg, fillV, partsOk, Value.oneCell', Nat.reduceBEq, Nat.reduceLT, Nat.reduceSub, Nat.reduceAdd, Nat.reduceMul, Nat.reduceLeDiff, Nat.reduceEqDiff, reduceCtorEq, Int.reduceLT, Int.reduceLE, Int.reduceEq, Int.reduceNe, Int.reduceBEq, Int.reduceBNe, Int.reduceAdd, Int.reduceSub, Int.reduceMul, Int.reduceToNat]; with_reducible exact rfl) ?_
          repeat (first | exact WkF.of (Wk.refl _) (by first | rfl | simp only [List.length_cons, List.length_nil, Nat.reduceAdd, V.ids, V.idsL, idsA, entOk, List.all_cons, List.all_nil, Bool.and_self, Bool.and_true, Bool.true_and, ltB, noId, Nat.reduceLT, decide_true, Bool.true_eq_false, tyV_id, fdV_id, tyL_id, fdL_id]) | exact WkF.of (Wk.ro _ _) (by first | rfl | simp only [List.length_cons, List.length_nil, Nat.reduceAdd, V.ids, V.idsL, idsA, entOk, List.all_cons, List.all_nil, Bool.and_self, Bool.and_true, Bool.true_and, ltB, noId, Nat.reduceLT, decide_true, Bool.true_eq_false, tyV_id, fdV_id, tyL_id, fdL_id]) | refine WkF.tu ?_ | refine WkF.ag ?_ | refine WkFL.cons ?_ ?_ | exact WkFL.nil)
      · have e : (off == 0 && w == siz (.mk o k s 0 es fs)) = false := by simp [h2]
        rw [e]
        simp only [tyV_mk, Option.getD_some, Option.getD_none, Option.isSome_some, Option.isSome_none, if_false, Bool.false_eq_true]
        rcases h with rfl | rfl
        all_goals
          refine wG Y116_B9 (AI (@G116_B9) (AI h0 h1)) ?_
          refine AR.callP hs @tyV_mk True.intro ?_
          refine goG Y116_B9 (AI (@G116_B9) (AI h0 (AI h1 h2))) ?_
          refine wG Y116_B9 (AI (@G116_B9) (AI h0 h1)) ?_
          refine Fin.gen0 (rs := [.cell 6 41, .tmp 7]) rfl (by first | exact .inl rfl | exact .inr rfl) (by simp only [resX, resA, ↓accU_f, ↓reduceIte, SA, SB, SC, SD, Y116_B9, valG, fpsG, evO, evB, evA, evA1, nilK, eqF, eqC, apOk, intOf, slB, slK,  gd, St.ev, putA, ofl, wrl, putE, V.ofVal, V.ofCell, bin2, un1, seg, fillV, partsOk, Value.oneCell', Nat.reduceBEq, Nat.reduceLT, Nat.reduceSub, Nat.reduceAdd, Nat.reduceMul, Nat.reduceLeDiff, Nat.reduceEqDiff, reduceCtorEq, Int.reduceLT, Int.reduceLE, Int.reduceEq, Int.reduceNe, Int.reduceBEq, Int.reduceBNe, Int.reduceAdd, Int.reduceSub, Int.reduceMul, Int.reduceToNat]; with_reducible exact rfl) ?_
          simp only [tz, tyV_mk, List.map_nil]
          repeat (first | exact WkF.of (Wk.refl _) (by first | rfl | simp only [List.length_cons, List.length_nil, Nat.reduceAdd, V.ids, V.idsL, idsA, entOk, List.all_cons, List.all_nil, Bool.and_self, Bool.and_true, Bool.true_and, ltB, noId, Nat.reduceLT, decide_true, Bool.true_eq_false, tyV_id, fdV_id, tyL_id, fdL_id]) | exact WkF.of (Wk.ro _ _) (by first | rfl | simp only [List.length_cons, List.length_nil, Nat.reduceAdd, V.ids, V.idsL, idsA, entOk, List.all_cons, List.all_nil, Bool.and_self, Bool.and_true, Bool.true_and, ltB, noId, Nat.reduceLT, decide_true, Bool.true_eq_false, tyV_id, fdV_id, tyL_id, fdL_id]) | refine WkF.tu ?_ | refine WkF.ag ?_ | refine WkFL.cons ?_ ?_ | exact WkFL.nil)
    · have e : (off == 0 && w == siz (.mk o k s 0 es fs)) = false := by simp [h1]
      rw [e]
      simp only [tyV_mk, Option.getD_some, Option.getD_none, Option.isSome_some, Option.isSome_none, if_false, Bool.false_eq_true]
      rcases h with rfl | rfl
      all_goals
        refine wG Y116_B9 (AI (@G116_B9) (AI h0 h1)) ?_
        refine Fin.gen0 (rs := [.cell 6 41, .tmp 7]) rfl (by first | exact .inl rfl | exact .inr rfl) (by simp only [resX, resA, ↓accU_f, ↓reduceIte, SA, SB, SC, SD, Y116_B9, valG, fpsG, evO, evB, evA, evA1, nilK, eqF, eqC, apOk, intOf, slB, slK,  gd, St.ev, putA, ofl, wrl, putE, V.ofVal, V.ofCell, bin2, un1, seg, fillV, partsOk, Value.oneCell', Nat.reduceBEq, Nat.reduceLT, Nat.reduceSub, Nat.reduceAdd, Nat.reduceMul, Nat.reduceLeDiff, Nat.reduceEqDiff, reduceCtorEq, Int.reduceLT, Int.reduceLE, Int.reduceEq, Int.reduceNe, Int.reduceBEq, Int.reduceBNe, Int.reduceAdd, Int.reduceSub, Int.reduceMul, Int.reduceToNat]; with_reducible exact rfl) ?_
        simp only [tz, tyV_mk, List.map_nil]
        repeat (first | exact WkF.of (Wk.refl _) (by first | rfl | simp only [List.length_cons, List.length_nil, Nat.reduceAdd, V.ids, V.idsL, idsA, entOk, List.all_cons, List.all_nil, Bool.and_self, Bool.and_true, Bool.true_and, ltB, noId, Nat.reduceLT, decide_true, Bool.true_eq_false, tyV_id, fdV_id, tyL_id, fdL_id]) | exact WkF.of (Wk.ro _ _) (by first | rfl | simp only [List.length_cons, List.length_nil, Nat.reduceAdd, V.ids, V.idsL, idsA, entOk, List.all_cons, List.all_nil, Bool.and_self, Bool.and_true, Bool.true_and, ltB, noId, Nat.reduceLT, decide_true, Bool.true_eq_false, tyV_id, fdV_id, tyL_id, fdL_id]) | refine WkF.tu ?_ | refine WkF.ag ?_ | refine WkFL.cons ?_ ?_ | exact WkFL.nil)
  · obtain ⟨rfl, rfl, rfl, h4, h5⟩ := h
    simp only [Int.reduceBEq, Bool.or_true, Bool.or_false, if_true, Bool.false_eq_true, if_false]
    by_cases h1 : off = 0
    · by_cases h2 : w = siz (.mk o 3 0 0 es fs)
      · have e : (off == 0 && w == siz (.mk o 3 0 0 es fs)) = true := by simp [h1, h2]
        rw [e]
        simp only [tyV_mk, Option.getD_some, Option.getD_none, Option.isSome_some, Option.isSome_none, if_true]
        refine wG Y116_B9 (AI (@G116_B9) (AI h0 h1)) ?_
        refine AR.callP hs @tyV_mk True.intro ?_
        refine goG Y116_B9 (AI (@G116_B9) (AI h0 (AI h1 h2))) ?_
        refine wG Y116_B9 (AI (@G116_B9) (AI h0 h1)) ?_
        refine Fin.gen0 (rs := [.cell 6 41, .tmp 7]) rfl (by first | exact .inl rfl | exact .inr rfl) (by simp only [resX, resA, ↓accU_f, ↓reduceIte, SA, SB, SC, SD, Y116_B9, valG, fpsG, evO, evB, evA, evA1, nilK, eqF, eqC, apOk, intOf, slB, slK,  gd, St.ev, putA, ofl, wrl, putE, V.ofVal, V.ofCell, bin2, un1, seg, fillV, partsOk, Value.oneCell', Nat.reduceBEq, Nat.reduceLT, Nat.reduceSub, Nat.reduceAdd, Nat.reduceMul, Nat.reduceLeDiff, Nat.reduceEqDiff, reduceCtorEq, Int.reduceLT, Int.reduceLE, Int.reduceEq, Int.reduceNe, Int.reduceBEq, Int.reduceBNe, Int.reduceAdd, Int.reduceSub, Int.reduceMul, Int.reduceToNat]; with_reducible exact rfl) ?_
        repeat (first | exact WkF.of (Wk.refl _) (by first | rfl | simp only [List.length_cons, List.length_nil, Nat.reduceAdd, V.ids, V.idsL, idsA, entOk, List.all_cons, List.all_nil, Bool.and_self, Bool.and_true, Bool.true_and, ltB, noId, Nat.reduceLT, decide_true, Bool.true_eq_false, tyV_id, fdV_id, tyL_id, fdL_id]) | exact WkF.of (Wk.ro _ _) (by first | rfl | simp only [List.length_cons, List.length_nil, Nat.reduceAdd, V.ids, V.idsL, idsA, entOk, List.all_cons, List.all_nil, Bool.and_self, Bool.and_true, Bool.true_and, ltB, noId, Nat.reduceLT, decide_true, Bool.true_eq_false, tyV_id, fdV_id, tyL_id, fdL_id]) | refine WkF.tu ?_ | refine WkF.ag ?_ | refine WkFL.cons ?_ ?_ | exact WkFL.nil)
      · have e : (off == 0 && w == siz (.mk o 3 0 0 es fs)) = false := by simp [h2]
        rw [e]
        simp only [tyV_mk, Option.getD_some, Option.getD_none, Option.isSome_some, Option.isSome_none, if_false, Bool.false_eq_true]
        refine wG Y116_B9 (AI (@G116_B9) (AI h0 h1)) ?_
        refine AR.callP hs @tyV_mk True.intro ?_
        refine goG Y116_B9 (AI (@G116_B9) (AI h0 (AI h1 h2))) ?_
        refine wG Y116_B9 (AI (@G116_B9) (AI h0 h1)) ?_
        refine Fin.gen0 (rs := [.cell 6 41, .tmp 7]) rfl (by first | exact .inl rfl | exact .inr rfl) (by simp only [resX, resA, ↓accU_f, ↓reduceIte, SA, SB, SC, SD, Y116_B9, valG, fpsG, evO, evB, evA, evA1, nilK, eqF, eqC, apOk, intOf, slB, slK,  gd, St.ev, putA, ofl, wrl, putE, V.ofVal, V.ofCell, bin2, un1, seg, fillV, partsOk, Value.oneCell', Nat.reduceBEq, Nat.reduceLT, Nat.reduceSub, Nat.reduceAdd, Nat.reduceMul, Nat.reduceLeDiff, Nat.reduceEqDiff, reduceCtorEq, Int.reduceLT, Int.reduceLE, Int.reduceEq, Int.reduceNe, Int.reduceBEq, Int.reduceBNe, Int.reduceAdd, Int.reduceSub, Int.reduceMul, Int.reduceToNat]; with_reducible exact rfl) ?_
        simp only [tz, tyV_mk, List.map_nil]
        repeat (first | exact WkF.of (Wk.refl _) (by first | rfl | simp only [List.length_cons, List.length_nil, Nat.reduceAdd, V.ids, V.idsL, idsA, entOk, List.all_cons, List.all_nil, Bool.and_self, Bool.and_true, Bool.true_and, ltB, noId, Nat.reduceLT, decide_true, Bool.true_eq_false, tyV_id, fdV_id, tyL_id, fdL_id]) | exact WkF.of (Wk.ro _ _) (by first | rfl | simp only [List.length_cons, List.length_nil, Nat.reduceAdd, V.ids, V.idsL, idsA, entOk, List.all_cons, List.all_nil, Bool.and_self, Bool.and_true, Bool.true_and, ltB, noId, Nat.reduceLT, decide_true, Bool.true_eq_false, tyV_id, fdV_id, tyL_id, fdL_id]) | refine WkF.tu ?_ | refine WkF.ag ?_ | refine WkFL.cons ?_ ?_ | exact WkFL.nil)
    · have e : (off == 0 && w == siz (.mk o 3 0 0 es fs)) = false := by simp [h1]
      rw [e]
      simp only [tyV_mk, Option.getD_some, Option.getD_none, Option.isSome_some, Option.isSome_none, if_false, Bool.false_eq_true]
      refine wG Y116_B9 (AI (@G116_B9) (AI h0 h1)) ?_
      refine Fin.gen0 (rs := [.cell 6 41, .tmp 7]) rfl (by first | exact .inl rfl | exact .inr rfl) (by simp only [resX, resA, ↓accU_f, ↓reduceIte, SA, SB, SC, SD, Y116_B9, valG, fpsG, evO, evB, evA, evA1, nilK, eqF, eqC, apOk, intOf, slB, slK,  gd, St.ev, putA, ofl, wrl, putE, V.ofVal, V.ofCell, bin2, un1, seg, fillV, partsOk, Value.oneCell', Nat.reduceBEq, Nat.reduceLT, Nat.reduceSub, Nat.reduceAdd, Nat.reduceMul, Nat.reduceLeDiff, Nat.reduceEqDiff, reduceCtorEq, Int.reduceLT, Int.reduceLE, Int.reduceEq, Int.reduceNe, Int.reduceBEq, Int.reduceBNe, Int.reduceAdd, Int.reduceSub, Int.reduceMul, Int.reduceToNat]; with_reducible exact rfl) ?_
      simp only [tz, tyV_mk, List.map_nil]
      repeat (first | exact WkF.of (Wk.refl _) (by first | rfl | simp only [List.length_cons, List.length_nil, Nat.reduceAdd, V.ids, V.idsL, idsA, entOk, List.all_cons, List.all_nil, Bool.and_self, Bool.and_true, Bool.true_and, ltB, noId, Nat.reduceLT, decide_true, Bool.true_eq_false, tyV_id, fdV_id, tyL_id, fdL_id]) | exact WkF.of (Wk.ro _ _) (by first | rfl | simp only [List.length_cons, List.length_nil, Nat.reduceAdd, V.ids, V.idsL, idsA, entOk, List.all_cons, List.all_nil, Bool.and_self, Bool.and_true, Bool.true_and, ltB, noId, Nat.reduceLT, decide_true, Bool.true_eq_false, tyV_id, fdV_id, tyL_id, fdL_id]) | refine WkF.tu ?_ | refine WkF.ag ?_ | refine WkFL.cons ?_ ?_ | exact WkFL.nil)
  · obtain ⟨rfl, rfl, hc1, hc2, h4, h5⟩ := h
    simp only [Int.reduceBEq, Bool.or_false, if_true, Bool.false_eq_true, if_false]
    obtain ⟨x, rfl⟩ := List.length_eq_one_iff.1 h4
    by_cases h1 : off < siz (.mk o 4 0 c [x] fs)
    · have hn : ¬ (off < 0 ∨ siz (.mk o 4 0 c [x] fs) ≤ off) := by omega
      rw [if_neg hn]
      have hx := c_sizeR x (hfE x (by simp)) (hes x (by simp))
      have hx0 : ¬ siz x = 0 := fun hx => by
        have : siz (.mk o 4 0 c [x] fs) = 0 := by rw [siz_mk]; simp [hx]; omega
        omega
      have hxn := siz_nonneg x (hes x (by simp))
      have hxl := siz_le x
      have hrem : off.tmod (siz x) = off % siz x := Int.tmod_eq_emod_of_nonneg (by omega)
      have hm1 := Int.emod_nonneg off (show siz x ≠ 0 from hx0)
      have hm2 := Int.emod_lt_of_pos off (show 0 < siz x by omega)
      have hr := hE x (by simp) (hfE x (by simp)) (hes x (by simp)) (off % siz x) w (by unfold I64; omega)
      refine wG Y116_B9 (AI (@G116_B9) h0) ?_
      refine AR.callP hs @tyV_mk True.intro ?_
      refine goG Y116_B9 (AI (@G116_B9) (AI h0 h1)) ?_
      refine wdG Y116_B9 (AI (@G116_B9) h0) ?_
      refine AR.callP hx @tyV_eq True.intro ?_
      refine goG Y116_B9 (AI (@G116_B9) (AI hx0 hrem)) ?_
      refine AR.callP hr @tyV_eq True.intro ?_
      refine goG Y116_B9 @G116_B9 ?_
      refine wdG Y116_B9 @G116_B9 ?_
      refine Fin.gen0 (rs := [.cell 6 41, .tmp 7]) rfl (by first | exact .inl rfl | exact .inr rfl) (by simp only [resX, resA, ↓accU_f, ↓reduceIte, SA, SB, SC, SD, Y116_B9, valG, fpsG, evO, evB, evA, evA1, nilK, eqF, eqC, apOk, intOf, slB, slK,  gd, St.ev, putA, ofl, wrl, putE, V.ofVal, V.ofCell, bin2, un1, seg, fillV, partsOk, Value.oneCell', Nat.reduceBEq, Nat.reduceLT, Nat.reduceSub, Nat.reduceAdd, Nat.reduceMul, Nat.reduceLeDiff, Nat.reduceEqDiff, reduceCtorEq, Int.reduceLT, Int.reduceLE, Int.reduceEq, Int.reduceNe, Int.reduceBEq, Int.reduceBNe, Int.reduceAdd, Int.reduceSub, Int.reduceMul, Int.reduceToNat]; with_reducible exact rfl) ?_
      simp only [tyV_eq]
      repeat (first | exact WkF.of (Wk.refl _) (by first | rfl | simp only [List.length_cons, List.length_nil, Nat.reduceAdd, V.ids, V.idsL, idsA, entOk, List.all_cons, List.all_nil, Bool.and_self, Bool.and_true, Bool.true_and, ltB, noId, Nat.reduceLT, decide_true, Bool.true_eq_false, tyV_id, fdV_id, tyL_id, fdL_id]) | exact WkF.of (Wk.ro _ _) (by first | rfl | simp only [List.length_cons, List.length_nil, Nat.reduceAdd, V.ids, V.idsL, idsA, entOk, List.all_cons, List.all_nil, Bool.and_self, Bool.and_true, Bool.true_and, ltB, noId, Nat.reduceLT, decide_true, Bool.true_eq_false, tyV_id, fdV_id, tyL_id, fdL_id]) | refine WkF.tu ?_ | refine WkF.ag ?_ | refine WkFL.cons ?_ ?_ | exact WkFL.nil)
    · rw [if_pos (.inr (by omega))]
      simp only [tyV_mk, Option.getD_some, Option.getD_none, Option.isSome_some, Option.isSome_none]
      refine wG Y116_B9 (AI (@G116_B9) h0) ?_
      refine AR.callP hs @tyV_mk True.intro ?_
      refine goG Y116_B9 (AI (@G116_B9) (AI h0 h1)) ?_
      refine wG Y116_B9 (AI (@G116_B9) h0) ?_
      refine Fin.gen0 (rs := [.cell 6 41, .tmp 7]) rfl (by first | exact .inl rfl | exact .inr rfl) (by simp only [resX, resA, ↓accU_f, ↓reduceIte, SA, SB, SC, SD, Y116_B9, valG, fpsG, evO, evB, evA, evA1, nilK, eqF, eqC, apOk, intOf, slB, slK,  gd, St.ev, putA, ofl, wrl, putE, V.ofVal, V.ofCell, bin2, un1, seg, fillV, partsOk, Value.oneCell', Nat.reduceBEq, Nat.reduceLT, Nat.reduceSub, Nat.reduceAdd, Nat.reduceMul, Nat.reduceLeDiff, Nat.reduceEqDiff, reduceCtorEq, Int.reduceLT, Int.reduceLE, Int.reduceEq, Int.reduceNe, Int.reduceBEq, Int.reduceBNe, Int.reduceAdd, Int.reduceSub, Int.reduceMul, Int.reduceToNat]; with_reducible exact rfl) ?_
      simp only [tz, tyV_mk, List.map_nil]
      repeat (first | exact WkF.of (Wk.refl _) (by first | rfl | simp only [List.length_cons, List.length_nil, Nat.reduceAdd, V.ids, V.idsL, idsA, entOk, List.all_cons, List.all_nil, Bool.and_self, Bool.and_true, Bool.true_and, ltB, noId, Nat.reduceLT, decide_true, Bool.true_eq_false, tyV_id, fdV_id, tyL_id, fdL_id]) | exact WkF.of (Wk.ro _ _) (by first | rfl | simp only [List.length_cons, List.length_nil, Nat.reduceAdd, V.ids, V.idsL, idsA, entOk, List.all_cons, List.all_nil, Bool.and_self, Bool.and_true, Bool.true_and, ltB, noId, Nat.reduceLT, decide_true, Bool.true_eq_false, tyV_id, fdV_id, tyL_id, fdL_id]) | refine WkF.tu ?_ | refine WkF.ag ?_ | refine WkFL.cons ?_ ?_ | exact WkFL.nil)
  · obtain ⟨rfl, rfl, rfl, h4⟩ := h
    simp only [Int.reduceBEq, Bool.or_false, if_true, Bool.false_eq_true, if_false]
    rw [if_neg h0]
    have hw0 : IntKind.i64.wrap ((fs.length : Int) - 1) = (fs.length : Int) - 1 := wrap_in (by omega)
    refine wG Y116_B9 (AI (@G116_B9) (AI h0 hw0)) ?_
    refine AWp.loop ?_
    have e0 : (fs.length : Int) - 1 = (fs.length : Int) - 1 - ((0 : Nat) : Int) := by omega
    rw [e0]
    refine ALp.cutP 2 [(1, (.im (.int .i64 (off)))), (2, (.im (.int .i64 (w)))), (3, .pt 0 0), (6, .pt 1 0), (8, (.im (.int .i64 ((fs.length : Int) - 1 - (((0 : Nat)) : Int)))))] [.box [.im (.int .i64 5), .im (.int .i64 0), .im (.int .i64 0), .sl (es.map tyV) .ro, .sl (fs.map fdV) .ro], .box [.im (.int .i64 0), .im (.int .i64 0), .im (.int .i64 0), .sl [] .nl, .sl [] .nl]] True.intro ?_
    refine ALp.upto fs.length (fun m => ∀ j (h : j < fs.length), fs.length - m ≤ j → fat fs[j] (off - fs[j].off) w = none) (fun m => ⟨dn 94 [(1, (.im (.int .i64 (off)))), (2, (.im (.int .i64 (w)))), (3, .pt 0 0), (6, .pt 1 0), (8, (.im (.int .i64 ((fs.length : Int) - 1 - (((m : Nat)) : Int)))))], ofl [.box [.im (.int .i64 5), .im (.int .i64 0), .im (.int .i64 0), .sl (es.map tyV) .ro, .sl (fs.map fdV) .ro], .box [.im (.int .i64 0), .im (.int .i64 0), .im (.int .i64 0), .sl [] .nl, .sl [] .nl]]⟩) ?_ 0 (Nat.zero_le _) (fun j h h' => by omega)
    intro m hm hI hnext
    by_cases hlt : m < fs.length
    · have hge : (fs.length : Int) - 1 - (m : Int) ≥ 0 := by omega
      have hge' : 0 ≤ (fs.length : Int) - 1 - (m : Int) := by omega
      have htn : ((fs.length : Int) - 1 - (m : Int)).toNat = fs.length - 1 - m := by omega
      have hi' : fs.length - 1 - m < fs.length := by omega
      have hg := get_some hi'
      have hm1 : IntKind.i64.wrap ((fs.length : Int) - 1 - (m : Int) - 1) = (fs.length : Int) - 1 - ((m + 1 : Nat) : Int) := by rw [wrap_in (by omega)]; omega
      have hc := hF fs[fs.length - 1 - m] (List.getElem_mem hi') (hfF _ (List.getElem_mem hi')) (hfs _ (List.getElem_mem hi'))
      have ho1 := fok_off hi' (hof _ hi')
      generalize hfd : fs[fs.length - 1 - m] = f at hg hc ho1
      have hofI : I64 (off - f.off) := by unfold I64 at hoff ⊢; omega
      have hw := wrap_in hofI
      have hc := hc (off - f.off) w hofI
      have hstep : fat f (off - f.off) w = none → ∀ j (h : j < fs.length), fs.length - (m + 1) ≤ j → fat fs[j] (off - fs[j].off) w = none := fun hn j h h' => by
        by_cases he : fs.length - m ≤ j
        · exact hI j h he
        · have : j = fs.length - 1 - m := by omega
          subst this
          rw [hfd]
          exact hn
      by_cases hcont : off < f.off
      · refine wG Y116_B9 (AI (@G116_B9) (AI hge (AI hge' (AI htn (AI hg (AI hcont hm1)))))) ?_
        refine ALp.cutP 2 [(1, (.im (.int .i64 (off)))), (2, (.im (.int .i64 (w)))), (3, .pt 0 0), (6, .pt 1 0), (8, (.im (.int .i64 ((fs.length : Int) - 1 - (((m + 1 : Nat)) : Int)))))] [.box [.im (.int .i64 5), .im (.int .i64 0), .im (.int .i64 0), .sl (es.map tyV) .ro, .sl (fs.map fdV) .ro], .box [.im (.int .i64 0), .im (.int .i64 0), .im (.int .i64 0), .sl [] .nl, .sl [] .nl]] True.intro ?_
        exact hnext (m + 1) (by omega) (by omega) (hstep (fat_neg _ _ _ (by omega)))
      · cases hfat : fat f (off - f.off) w with
        | none =>
          rw [hfat] at hc
          simp only [tyV_mk, Option.getD_some, Option.getD_none, Option.isSome_some, Option.isSome_none] at hc
          refine wdG Y116_B9 (AI (@G116_B9) (AI hge (AI hge' (AI htn (AI hg (AI hcont hw)))))) ?_
          refine AR.callP hc @tyV_eq True.intro ?_
          refine goG Y116_B9 @G116_B9 ?_
          refine wdG Y116_B9 (AI (@G116_B9) hm1) ?_
          refine ALp.cutP 2 [(1, (.im (.int .i64 (off)))), (2, (.im (.int .i64 (w)))), (3, .pt 0 0), (6, .pt 1 0), (8, (.im (.int .i64 ((fs.length : Int) - 1 - (((m + 1 : Nat)) : Int)))))] [.box [.im (.int .i64 5), .im (.int .i64 0), .im (.int .i64 0), .sl (es.map tyV) .ro, .sl (fs.map fdV) .ro], .box [.im (.int .i64 0), .im (.int .i64 0), .im (.int .i64 0), .sl [] .nl, .sl [] .nl]] True.intro ?_
          exact hnext (m + 1) (by omega) (by omega) (hstep hfat)
        | some x =>
          rw [hfat] at hc
          simp only [tyV_mk, Option.getD_some, Option.getD_none, Option.isSome_some, Option.isSome_none] at hc
          have hn : lastSome (fs.map fun f => fat f (off - f.off) w) = some x := lastSome_some (k := fs.length - 1 - m) (by simpa using hi') (by simpa [hfd] using hfat) fun j h1 h2 => by
            have hj' : j < fs.length := by simpa using h1
            simpa using hI j hj' (by omega)
          rw [hn]
          simp only [tyV_mk, Option.getD_some, Option.getD_none, Option.isSome_some, Option.isSome_none]
          refine wdG Y116_B9 (AI (@G116_B9) (AI hge (AI hge' (AI htn (AI hg (AI hcont hw)))))) ?_
          refine AR.callP hc @tyV_eq True.intro ?_
          refine goG Y116_B9 @G116_B9 ?_
          refine wdG Y116_B9 @G116_B9 ?_
          refine Fin.gen0 (rs := [.cell 6 41, .tmp 7]) rfl (by first | exact .inl rfl | exact .inr rfl) (by simp only [resX, resA, ↓accU_f, ↓reduceIte, SA, SB, SC, SD, Y116_B9, valG, fpsG, evO, evB, evA, evA1, nilK, eqF, eqC, apOk, intOf, slB, slK,  gd, St.ev, putA, ofl, wrl, putE, V.ofVal, V.ofCell, bin2, un1, seg, fillV, partsOk, Value.oneCell', Nat.reduceBEq, Nat.reduceLT, Nat.reduceSub, Nat.reduceAdd, Nat.reduceMul, Nat.reduceLeDiff, Nat.reduceEqDiff, reduceCtorEq, Int.reduceLT, Int.reduceLE, Int.reduceEq, Int.reduceNe, Int.reduceBEq, Int.reduceBNe, Int.reduceAdd, Int.reduceSub, Int.reduceMul, Int.reduceToNat]; with_reducible exact rfl) ?_
          simp only [tyV_eq]
          repeat (first | exact WkF.of (Wk.refl _) (by first | rfl | simp only [List.length_cons, List.length_nil, Nat.reduceAdd, V.ids, V.idsL, idsA, entOk, List.all_cons, List.all_nil, Bool.and_self, Bool.and_true, Bool.true_and, ltB, noId, Nat.reduceLT, decide_true, Bool.true_eq_false, tyV_id, fdV_id, tyL_id, fdL_id]) | exact WkF.of (Wk.ro _ _) (by first | rfl | simp only [List.length_cons, List.length_nil, Nat.reduceAdd, V.ids, V.idsL, idsA, entOk, List.all_cons, List.all_nil, Bool.and_self, Bool.and_true, Bool.true_and, ltB, noId, Nat.reduceLT, decide_true, Bool.true_eq_false, tyV_id, fdV_id, tyL_id, fdL_id]) | refine WkF.tu ?_ | refine WkF.ag ?_ | refine WkFL.cons ?_ ?_ | exact WkFL.nil)
    · have hlt' : ¬ (fs.length : Int) - 1 - (m : Int) ≥ 0 := by omega
      have hn : lastSome (fs.map fun f => fat f (off - f.off) w) = none := lastSome_none fun i hi => by
        have hi' : i < fs.length := by simpa using hi
        simpa using hI i hi' (by omega)
      rw [hn]
      simp only [tyV_mk, Option.getD_some, Option.getD_none, Option.isSome_some, Option.isSome_none]
      clear hnext
      refine wG Y116_B9 (AI (@G116_B9) hlt') ?_
      refine Fin.gen0 (rs := [.cell 6 41, .tmp 7]) rfl (by first | exact .inl rfl | exact .inr rfl) (by simp only [resX, resA, ↓accU_f, ↓reduceIte, SA, SB, SC, SD, Y116_B9, valG, fpsG, evO, evB, evA, evA1, nilK, eqF, eqC, apOk, intOf, slB, slK,  gd, St.ev, putA, ofl, wrl, putE, V.ofVal, V.ofCell, bin2, un1, seg, fillV, partsOk, Value.oneCell', Nat.reduceBEq, Nat.reduceLT, Nat.reduceSub, Nat.reduceAdd, Nat.reduceMul, Nat.reduceLeDiff, Nat.reduceEqDiff, reduceCtorEq, Int.reduceLT, Int.reduceLE, Int.reduceEq, Int.reduceNe, Int.reduceBEq, Int.reduceBNe, Int.reduceAdd, Int.reduceSub, Int.reduceMul, Int.reduceToNat]; with_reducible exact rfl) ?_
      simp only [tz, tyV_mk, List.map_nil]
      repeat (first | exact WkF.of (Wk.refl _) (by first | rfl | simp only [List.length_cons, List.length_nil, Nat.reduceAdd, V.ids, V.idsL, idsA, entOk, List.all_cons, List.all_nil, Bool.and_self, Bool.and_true, Bool.true_and, ltB, noId, Nat.reduceLT, decide_true, Bool.true_eq_false, tyV_id, fdV_id, tyL_id, fdL_id]) | exact WkF.of (Wk.ro _ _) (by first | rfl | simp only [List.length_cons, List.length_nil, Nat.reduceAdd, V.ids, V.idsL, idsA, entOk, List.all_cons, List.all_nil, Bool.and_self, Bool.and_true, Bool.true_and, ltB, noId, Nat.reduceLT, decide_true, Bool.true_eq_false, tyV_id, fdV_id, tyL_id, fdL_id]) | refine WkF.tu ?_ | refine WkF.ag ?_ | refine WkFL.cons ?_ ?_ | exact WkFL.nil)
theorem Y83_B9 : type_of% (AI @F_ag_41 (AI @F_al_41 (AI @F_st_41 (@F_sz_41)))) := AI @F_ag_41 (AI @F_al_41 (AI @F_st_41 (@F_sz_41)))
theorem G83_B9 : type_of% (AI (@tyV_firm) (AI (@fdV_firm) (AI (@tyV_strip) (AI (@fdV_strip) (AI (@tyV_live) (AI (@tyV_size) (AI (@tyV_isAg) (AI (@tyV_cells) (AI (@fdV_live) (AI (@fdV_size) (AI (@fdV_isAg) (AI (@fdV_cells) (AI (@List.getElem?_map.{0, 0}) @Int.natCast_nonneg))))))))))))) := (AI (@tyV_firm) (AI (@fdV_firm) (AI (@tyV_strip) (AI (@fdV_strip) (AI (@tyV_live) (AI (@tyV_size) (AI (@tyV_isAg) (AI (@tyV_cells) (AI (@fdV_live) (AI (@fdV_size) (AI (@fdV_isAg) (AI (@fdV_cells) (AI (@List.getElem?_map.{0, 0}) @Int.natCast_nonneg)))))))))))))
theorem c_FieldAtR (t : Ty) (hfit : fit t) (off w : Int) (hoff : I64 off) : PC Tryz.prog 83 [tyV t, (.im (.int .i64 (off))), (.im (.int .i64 (w)))] (.tu [tyV ((fieldA t off w).getD tz), (.im (.bool ((fieldA t off w).isSome)))]) := by
  have hg := c_checkR t hfit
  refine PC.enter 30 Tryz.func83 rfl (by decide) rfl rfl (s := [(0, tyV t), (1, (.im (.int .i64 (off)))), (2, (.im (.int .i64 (w))))]) (by rfl) ?_
  rw [tyV_eq t]
  unfold fieldA
  cases b : good t with
  | false =>
    have hb : ¬ chk t = 0 := by unfold good at b; simpa using b
    simp only [Bool.false_and, Bool.false_eq_true, if_false, tyV_mk, Option.getD_some, Option.getD_none, Option.isSome_some, Option.isSome_none]
    refine wG Y83_B9 @G83_B9 ?_
    refine AR.callP hg @tyV_eq True.intro ?_
    refine goG Y83_B9 (AI (@G83_B9) hb) ?_
    refine wG Y83_B9 @G83_B9 ?_
    refine Fin.gen0 (rs := [.cell 6 41, .tmp 7]) rfl (by first | exact .inl rfl | exact .inr rfl) (by simp only [resX, resA, ↓accU_f, ↓reduceIte, SA, SB, SC, SD, Y83_B9, valG, fpsG, evO, evB, evA, evA1, nilK, eqF, eqC, apOk, intOf, slB, slK,  gd, St.ev, putA, ofl, wrl, putE, V.ofVal, V.ofCell, bin2, un1, seg, fillV, partsOk, Value.oneCell', Nat.reduceBEq, Nat.reduceLT, Nat.reduceSub, Nat.reduceAdd, Nat.reduceMul, Nat.reduceLeDiff, Nat.reduceEqDiff, reduceCtorEq, Int.reduceLT, Int.reduceLE, Int.reduceEq, Int.reduceNe, Int.reduceBEq, Int.reduceBNe, Int.reduceAdd, Int.reduceSub, Int.reduceMul, Int.reduceToNat]; with_reducible exact rfl) ?_
    simp only [tz, tyV_mk, List.map_nil]
    repeat (first | exact WkF.of (Wk.refl _) (by first | rfl | simp only [List.length_cons, List.length_nil, Nat.reduceAdd, V.ids, V.idsL, idsA, entOk, List.all_cons, List.all_nil, Bool.and_self, Bool.and_true, Bool.true_and, ltB, noId, Nat.reduceLT, decide_true, Bool.true_eq_false, tyV_id, fdV_id, tyL_id, fdL_id]) | exact WkF.of (Wk.ro _ _) (by first | rfl | simp only [List.length_cons, List.length_nil, Nat.reduceAdd, V.ids, V.idsL, idsA, entOk, List.all_cons, List.all_nil, Bool.and_self, Bool.and_true, Bool.true_and, ltB, noId, Nat.reduceLT, decide_true, Bool.true_eq_false, tyV_id, fdV_id, tyL_id, fdL_id]) | refine WkF.tu ?_ | refine WkF.ag ?_ | refine WkFL.cons ?_ ?_ | exact WkFL.nil)
  | true =>
    have hb : chk t = 0 := by unfold good at b; simpa using b
    have hf := c_fatR t hfit (good_frm b) off w hoff
    by_cases hw : w = 1 ∨ w = 2 ∨ w = 4
    · have e : (w == 1 || w == 2 || w == 4) = true := by rcases hw with rfl | rfl | rfl <;> rfl
      rw [e]
      simp only [Bool.and_self, if_true]
      rcases hw with rfl | rfl | rfl
      all_goals
        refine wG Y83_B9 @G83_B9 ?_
        refine AR.callP hg @tyV_eq True.intro ?_
        refine goG Y83_B9 (AI (@G83_B9) hb) ?_
        refine wG Y83_B9 @G83_B9 ?_
        refine AR.callP hf @tyV_eq True.intro ?_
        refine goG Y83_B9 @G83_B9 ?_
        refine wG Y83_B9 @G83_B9 ?_
        refine Fin.gen0 (rs := [.cell 6 41, .tmp 7]) rfl (by first | exact .inl rfl | exact .inr rfl) (by simp only [resX, resA, ↓accU_f, ↓reduceIte, SA, SB, SC, SD, Y83_B9, valG, fpsG, evO, evB, evA, evA1, nilK, eqF, eqC, apOk, intOf, slB, slK,  gd, St.ev, putA, ofl, wrl, putE, V.ofVal, V.ofCell, bin2, un1, seg, fillV, partsOk, Value.oneCell', Nat.reduceBEq, Nat.reduceLT, Nat.reduceSub, Nat.reduceAdd, Nat.reduceMul, Nat.reduceLeDiff, Nat.reduceEqDiff, reduceCtorEq, Int.reduceLT, Int.reduceLE, Int.reduceEq, Int.reduceNe, Int.reduceBEq, Int.reduceBNe, Int.reduceAdd, Int.reduceSub, Int.reduceMul, Int.reduceToNat]; with_reducible exact rfl) ?_
        simp only [tyV_eq]
        repeat (first | exact WkF.of (Wk.refl _) (by first | rfl | simp only [List.length_cons, List.length_nil, Nat.reduceAdd, V.ids, V.idsL, idsA, entOk, List.all_cons, List.all_nil, Bool.and_self, Bool.and_true, Bool.true_and, ltB, noId, Nat.reduceLT, decide_true, Bool.true_eq_false, tyV_id, fdV_id, tyL_id, fdL_id]) | exact WkF.of (Wk.ro _ _) (by first | rfl | simp only [List.length_cons, List.length_nil, Nat.reduceAdd, V.ids, V.idsL, idsA, entOk, List.all_cons, List.all_nil, Bool.and_self, Bool.and_true, Bool.true_and, ltB, noId, Nat.reduceLT, decide_true, Bool.true_eq_false, tyV_id, fdV_id, tyL_id, fdL_id]) | refine WkF.tu ?_ | refine WkF.ag ?_ | refine WkFL.cons ?_ ?_ | exact WkFL.nil)
    · have e : (w == 1 || w == 2 || w == 4) = false := by simp; omega
      rw [e]
      simp only [Bool.and_false, Bool.false_eq_true, if_false, tyV_mk, Option.getD_some, Option.getD_none, Option.isSome_some, Option.isSome_none]
      have h1 : ¬ w = 1 := by omega
      have h2 : ¬ w = 2 := by omega
      have h4 : ¬ w = 4 := by omega
      refine wG Y83_B9 @G83_B9 ?_
      refine AR.callP hg @tyV_eq True.intro ?_
      refine goG Y83_B9 (AI (@G83_B9) (AI hb (AI h1 (AI h2 h4)))) ?_
      refine wG Y83_B9 (AI (@G83_B9) (AI h1 (AI h2 h4))) ?_
      refine Fin.gen0 (rs := [.cell 6 41, .tmp 7]) rfl (by first | exact .inl rfl | exact .inr rfl) (by simp only [resX, resA, ↓accU_f, ↓reduceIte, SA, SB, SC, SD, Y83_B9, valG, fpsG, evO, evB, evA, evA1, nilK, eqF, eqC, apOk, intOf, slB, slK,  gd, St.ev, putA, ofl, wrl, putE, V.ofVal, V.ofCell, bin2, un1, seg, fillV, partsOk, Value.oneCell', Nat.reduceBEq, Nat.reduceLT, Nat.reduceSub, Nat.reduceAdd, Nat.reduceMul, Nat.reduceLeDiff, Nat.reduceEqDiff, reduceCtorEq, Int.reduceLT, Int.reduceLE, Int.reduceEq, Int.reduceNe, Int.reduceBEq, Int.reduceBNe, Int.reduceAdd, Int.reduceSub, Int.reduceMul, Int.reduceToNat]; with_reducible exact rfl) ?_
      simp only [tz, tyV_mk, List.map_nil]
      repeat (first | exact WkF.of (Wk.refl _) (by first | rfl | simp only [List.length_cons, List.length_nil, Nat.reduceAdd, V.ids, V.idsL, idsA, entOk, List.all_cons, List.all_nil, Bool.and_self, Bool.and_true, Bool.true_and, ltB, noId, Nat.reduceLT, decide_true, Bool.true_eq_false, tyV_id, fdV_id, tyL_id, fdL_id]) | exact WkF.of (Wk.ro _ _) (by first | rfl | simp only [List.length_cons, List.length_nil, Nat.reduceAdd, V.ids, V.idsL, idsA, entOk, List.all_cons, List.all_nil, Bool.and_self, Bool.and_true, Bool.true_and, ltB, noId, Nat.reduceLT, decide_true, Bool.true_eq_false, tyV_id, fdV_id, tyL_id, fdL_id]) | refine WkF.tu ?_ | refine WkF.ag ?_ | refine WkFL.cons ?_ ?_ | exact WkFL.nil)
end Go.Proofs.YtfggemopnlffeaaGreat
