/- Walks: copies of types. Walks: the type of an access, in the program. Walks: the type of an access. -/
import Derived.Test.YtchjncoadhigmaaGreatDoorHv
import Derived.Test.YtchjncoadhigmaaGreatDoorPm
import Derived.Test.YtchjncoadhigmaaGreatDoorLe
import Derived.Test.YtchjncoadhigmaaGreatDoorJA
import Derived.Test.YtchjncoadhigmaaGreatDoorAo
namespace Go.Proofs.YtchjncoadhigmaaGreatDoor
set_option linter.unusedSimpArgs false
set_option linter.unusedVariables false
set_option linter.unnecessarySimpa false
open Go.RowKit
theorem Y63_B7 : type_of% (And.intro @F_al_25 (And.intro @F_by_25 (And.intro @F_el_22 (@F_sz_25)))) := And.intro @F_al_25 (And.intro @F_by_25 (And.intro @F_el_22 (@F_sz_25)))
theorem c_clT0 : PC Tryz.prog 63 [.sl [] .ro] (.sl [] .ro) := by
  refine ACalls.nil1 ?_ ?_
  · refine PC.enter 8 Tryz.func63 rfl (by decide) rfl rfl (s := [(0, .sl [] .nz)]) (by rfl) ?_
    refine wG Y63_B7 True.intro ?_
    refine Fin.gen0 (rs := [.tmp 2]) rfl (by first | exact .inl rfl | exact .inr rfl) (finG Y63_B7) ?_
    all_goals exact wkG (And.intro flT_id flF_id)
  · refine PC.enter 8 Tryz.func63 rfl (by decide) rfl rfl (s := [(0, .sl [] .nn)]) (by rfl) ?_
    refine wG Y63_B7 True.intro ?_
    refine Fin.gen0 (rs := [.tmp 2]) rfl (by first | exact .inl rfl | exact .inr rfl) (finG Y63_B7) ?_
    all_goals exact wkG (And.intro flT_id flF_id)
theorem c_clT1 {l : List Ty} (hne : 0 < l.length) (hl : l.length * 72 ≤ 140737488355328) : DC Tryz.prog 63 [.sl (l.map tyV) .nn] [.free] (.bs 0 l.length) [.box (flatV (l.map tyV))] := by
  refine DC.enterN 1 8 Tryz.func63 rfl (by decide) rfl rfl (s := [(0, .sl (l.map tyV) .nn)]) (by rfl) ?_
  refine wG Y63_B7 True.intro ?_
  refine AWp.region ?_
  refine AR.one rfl (by simp only [↓accU_f, ↓reduceIte, SA, SB, SC, SD, Y63_B7, valG, fpsG, evO, evB, evA, evA1, nilK, eqF, eqC, apOk, intOf, slB, slK,  gd, St.ev, putA, ofl, wrl, putE, V.ofVal, V.ofCell, bin2, un1, seg, fillV, partsOk, Value.oneCell', Nat.reduceBEq, Nat.reduceLT, Nat.reduceSub, Nat.reduceAdd, Nat.reduceMul, Nat.reduceLeDiff, Nat.reduceEqDiff, reduceCtorEq, Int.reduceLT, Int.reduceLE, Int.reduceEq, Int.reduceNe, Int.reduceBEq, Int.reduceBNe, Int.reduceAdd, Int.reduceSub, Int.reduceMul, Int.reduceToNat]; with_reducible exact rfl) (by simp only [↓accU_f, ↓reduceIte, SA, SB, SC, SD, Y63_B7, valG, fpsG, evO, evB, evA, evA1, nilK, eqF, eqC, apOk, intOf, slB, slK,  gd, St.ev, putA, ofl, wrl, putE, V.ofVal, V.ofCell, bin2, un1, seg, fillV, partsOk, Value.oneCell', Nat.reduceBEq, Nat.reduceLT, Nat.reduceSub, Nat.reduceAdd, Nat.reduceMul, Nat.reduceLeDiff, Nat.reduceEqDiff, reduceCtorEq, Int.reduceLT, Int.reduceLE, Int.reduceEq, Int.reduceNe, Int.reduceBEq, Int.reduceBNe, Int.reduceAdd, Int.reduceSub, Int.reduceMul, Int.reduceToNat]; with_reducible exact rfl) (by simp only [↓accU_f, ↓reduceIte, SA, SB, SC, SD, Y63_B7, valG, fpsG, evO, evB, evA, evA1, nilK, eqF, eqC, apOk, intOf, slB, slK,  gd, St.ev, putA, ofl, wrl, putE, V.ofVal, V.ofCell, bin2, un1, seg, fillV, partsOk, Value.oneCell', Nat.reduceBEq, Nat.reduceLT, Nat.reduceSub, Nat.reduceAdd, Nat.reduceMul, Nat.reduceLeDiff, Nat.reduceEqDiff, reduceCtorEq, Int.reduceLT, Int.reduceLE, Int.reduceEq, Int.reduceNe, Int.reduceBEq, Int.reduceBNe, Int.reduceAdd, Int.reduceSub, Int.reduceMul, Int.reduceToNat]; with_reducible exact rfl) ?_
  refine AR.one rfl (by simp only [↓accU_f, ↓reduceIte, SA, SB, SC, SD, Y63_B7, valG, fpsG, evO, evB, evA, evA1, nilK, eqF, eqC, apOk, intOf, slB, slK,  gd, St.ev, putA, ofl, wrl, putE, V.ofVal, V.ofCell, bin2, un1, seg, fillV, partsOk, Value.oneCell', Nat.reduceBEq, Nat.reduceLT, Nat.reduceSub, Nat.reduceAdd, Nat.reduceMul, Nat.reduceLeDiff, Nat.reduceEqDiff, reduceCtorEq, Int.reduceLT, Int.reduceLE, Int.reduceEq, Int.reduceNe, Int.reduceBEq, Int.reduceBNe, Int.reduceAdd, Int.reduceSub, Int.reduceMul, Int.reduceToNat]; with_reducible exact rfl) (by simp only [↓accU_f, ↓reduceIte, SA, SB, SC, SD, Y63_B7, valG, fpsG, evO, evB, evA, evA1, nilK, eqF, eqC, apOk, intOf, slB, slK,  gd, St.ev, putA, ofl, wrl, putE, V.ofVal, V.ofCell, bin2, un1, seg, fillV, partsOk, Value.oneCell', Nat.reduceBEq, Nat.reduceLT, Nat.reduceSub, Nat.reduceAdd, Nat.reduceMul, Nat.reduceLeDiff, Nat.reduceEqDiff, reduceCtorEq, Int.reduceLT, Int.reduceLE, Int.reduceEq, Int.reduceNe, Int.reduceBEq, Int.reduceBNe, Int.reduceAdd, Int.reduceSub, Int.reduceMul, Int.reduceToNat]; with_reducible exact rfl) (by simp only [↓accU_f, ↓reduceIte, SA, SB, SC, SD, Y63_B7, valG, fpsG, evO, evB, evA, evA1, nilK, eqF, eqC, apOk, intOf, slB, slK,  gd, St.ev, putA, ofl, wrl, putE, V.ofVal, V.ofCell, bin2, un1, seg, fillV, partsOk, Value.oneCell', Nat.reduceBEq, Nat.reduceLT, Nat.reduceSub, Nat.reduceAdd, Nat.reduceMul, Nat.reduceLeDiff, Nat.reduceEqDiff, reduceCtorEq, Int.reduceLT, Int.reduceLE, Int.reduceEq, Int.reduceNe, Int.reduceBEq, Int.reduceBNe, Int.reduceAdd, Int.reduceSub, Int.reduceMul, Int.reduceToNat]; with_reducible exact rfl) ?_
  refine AR.appB (z := 5) rfl (by simp only [↓accU_f, ↓reduceIte, SA, SB, SC, SD, Y63_B7, valG, fpsG, evO, evB, evA, evA1, nilK, eqF, eqC, apOk, intOf, slB, slK,  gd, St.ev, putA, ofl, wrl, putE, V.ofVal, V.ofCell, bin2, un1, seg, fillV, partsOk, Value.oneCell', Nat.reduceBEq, Nat.reduceLT, Nat.reduceSub, Nat.reduceAdd, Nat.reduceMul, Nat.reduceLeDiff, Nat.reduceEqDiff, reduceCtorEq, Int.reduceLT, Int.reduceLE, Int.reduceEq, Int.reduceNe, Int.reduceBEq, Int.reduceBNe, Int.reduceAdd, Int.reduceSub, Int.reduceMul, Int.reduceToNat, hl, allZ_ty, Nat.zero_add]) (by simp only [↓accU_f, ↓reduceIte, SA, SB, SC, SD, Y63_B7, valG, fpsG, evO, evB, evA, evA1, nilK, eqF, eqC, apOk, intOf, slB, slK,  gd, St.ev, putA, ofl, wrl, putE, V.ofVal, V.ofCell, bin2, un1, seg, fillV, partsOk, Value.oneCell', Nat.reduceBEq, Nat.reduceLT, Nat.reduceSub, Nat.reduceAdd, Nat.reduceMul, Nat.reduceLeDiff, Nat.reduceEqDiff, reduceCtorEq, Int.reduceLT, Int.reduceLE, Int.reduceEq, Int.reduceNe, Int.reduceBEq, Int.reduceBNe, Int.reduceAdd, Int.reduceSub, Int.reduceMul, Int.reduceToNat, hl, allZ_ty, Nat.zero_add]; with_reducible exact rfl) (by simp only [↓accU_f, ↓reduceIte, SA, SB, SC, SD, Y63_B7, valG, fpsG, evO, evB, evA, evA1, nilK, eqF, eqC, apOk, intOf, slB, slK,  gd, St.ev, putA, ofl, wrl, putE, V.ofVal, V.ofCell, bin2, un1, seg, fillV, partsOk, Value.oneCell', Nat.reduceBEq, Nat.reduceLT, Nat.reduceSub, Nat.reduceAdd, Nat.reduceMul, Nat.reduceLeDiff, Nat.reduceEqDiff, reduceCtorEq, Int.reduceLT, Int.reduceLE, Int.reduceEq, Int.reduceNe, Int.reduceBEq, Int.reduceBNe, Int.reduceAdd, Int.reduceSub, Int.reduceMul, Int.reduceToNat, hl, allZ_ty, Nat.zero_add]; with_reducible exact rfl) (by simp only [↓accU_f, ↓reduceIte, SA, SB, SC, SD, Y63_B7, valG, fpsG, evO, evB, evA, evA1, nilK, eqF, eqC, apOk, intOf, slB, slK,  gd, St.ev, putA, ofl, wrl, putE, V.ofVal, V.ofCell, bin2, un1, seg, fillV, partsOk, Value.oneCell', Nat.reduceBEq, Nat.reduceLT, Nat.reduceSub, Nat.reduceAdd, Nat.reduceMul, Nat.reduceLeDiff, Nat.reduceEqDiff, reduceCtorEq, Int.reduceLT, Int.reduceLE, Int.reduceEq, Int.reduceNe, Int.reduceBEq, Int.reduceBNe, Int.reduceAdd, Int.reduceSub, Int.reduceMul, Int.reduceToNat, hl, allZ_ty, Nat.zero_add]; with_reducible exact rfl) (by simp only [↓accU_f, ↓reduceIte, SA, SB, SC, SD, Y63_B7, valG, fpsG, evO, evB, evA, evA1, nilK, eqF, eqC, apOk, intOf, slB, slK,  gd, St.ev, putA, ofl, wrl, putE, V.ofVal, V.ofCell, bin2, un1, seg, fillV, partsOk, Value.oneCell', Nat.reduceBEq, Nat.reduceLT, Nat.reduceSub, Nat.reduceAdd, Nat.reduceMul, Nat.reduceLeDiff, Nat.reduceEqDiff, reduceCtorEq, Int.reduceLT, Int.reduceLE, Int.reduceEq, Int.reduceNe, Int.reduceBEq, Int.reduceBNe, Int.reduceAdd, Int.reduceSub, Int.reduceMul, Int.reduceToNat, hl, allZ_ty, Nat.zero_add]) (by simp only [List.length_map]; exact hne) (by simp only [List.length_map, ↓accU_f, ↓reduceIte, SA, SB, SC, SD, Y63_B7, valG, fpsG, evO, evB, evA, evA1, nilK, eqF, eqC, apOk, intOf, slB, slK,  gd, St.ev, putA, ofl, wrl, putE, V.ofVal, V.ofCell, bin2, un1, seg, fillV, partsOk, Value.oneCell', Nat.reduceBEq, Nat.reduceLT, Nat.reduceSub, Nat.reduceAdd, Nat.reduceMul, Nat.reduceLeDiff, Nat.reduceEqDiff, reduceCtorEq, Int.reduceLT, Int.reduceLE, Int.reduceEq, Int.reduceNe, Int.reduceBEq, Int.reduceBNe, Int.reduceAdd, Int.reduceSub, Int.reduceMul, Int.reduceToNat, hl, allZ_ty, Nat.zero_add]) ?_

  refine goG Y63_B7 @List.length_map.{0, 0} ?_
  refine wG Y63_B7 True.intro ?_
  refine Fin.genK 1 (rs := [.tmp 2]) rfl (by first | exact .inl rfl | exact .inr rfl) (by simp only [resX, resA, ↓accU_f, ↓reduceIte, SA, SB, SC, SD, Y63_B7, valG, fpsG, evO, evB, evA, evA1, nilK, eqF, eqC, apOk, intOf, slB, slK,  gd, St.ev, putA, ofl, wrl, putE, V.ofVal, V.ofCell, bin2, un1, seg, fillV, partsOk, Value.oneCell', Nat.reduceBEq, Nat.reduceLT, Nat.reduceSub, Nat.reduceAdd, Nat.reduceMul, Nat.reduceLeDiff, Nat.reduceEqDiff, reduceCtorEq, Int.reduceLT, Int.reduceLE, Int.reduceEq, Int.reduceNe, Int.reduceBEq, Int.reduceBNe, Int.reduceAdd, Int.reduceSub, Int.reduceMul, Int.reduceToNat]; with_reducible exact rfl) ?_ rfl (by first | rfl | simp only [List.length_cons, List.length_nil, Nat.reduceAdd, V.ids, V.idsL, idsA, entOk, List.all_cons, List.all_nil, Bool.and_self, Bool.and_true, Bool.true_and, ltB, noId, Nat.reduceLT, decide_true, Bool.true_eq_false, tyV_id, fdV_id, tyL_id, fdL_id, flT_id, flF_id])
  repeat (first | exact WkF.of (Wk.refl _) (by first | rfl | simp only [List.length_cons, List.length_nil, Nat.reduceAdd, V.ids, V.idsL, idsA, entOk, List.all_cons, List.all_nil, Bool.and_self, Bool.and_true, Bool.true_and, ltB, noId, Nat.reduceLT, decide_true, Bool.true_eq_false, tyV_id, fdV_id, tyL_id, fdL_id, flT_id, flF_id]) | exact WkF.of (Wk.ro _ _) (by first | rfl | simp only [List.length_cons, List.length_nil, Nat.reduceAdd, V.ids, V.idsL, idsA, entOk, List.all_cons, List.all_nil, Bool.and_self, Bool.and_true, Bool.true_and, ltB, noId, Nat.reduceLT, decide_true, Bool.true_eq_false, tyV_id, fdV_id, tyL_id, fdL_id, flT_id, flF_id]) | refine WkF.tu ?_ | refine WkF.ag ?_ | refine WkFL.cons ?_ ?_ | exact WkFL.nil)
theorem Y64_B7 : type_of% (And.intro @F_al_47 (And.intro @F_by_47 (And.intro @F_el_23 (@F_sz_47)))) := And.intro @F_al_47 (And.intro @F_by_47 (And.intro @F_el_23 (@F_sz_47)))
theorem c_clF0 : PC Tryz.prog 64 [.sl [] .ro] (.sl [] .ro) := by
  refine ACalls.nil1 ?_ ?_
  · refine PC.enter 8 Tryz.func64 rfl (by decide) rfl rfl (s := [(0, .sl [] .nz)]) (by rfl) ?_
    refine wG Y64_B7 True.intro ?_
    refine Fin.gen0 (rs := [.tmp 2]) rfl (by first | exact .inl rfl | exact .inr rfl) (finG Y64_B7) ?_
    all_goals exact wkG (And.intro flT_id flF_id)
  · refine PC.enter 8 Tryz.func64 rfl (by decide) rfl rfl (s := [(0, .sl [] .nn)]) (by rfl) ?_
    refine wG Y64_B7 True.intro ?_
    refine Fin.gen0 (rs := [.tmp 2]) rfl (by first | exact .inl rfl | exact .inr rfl) (finG Y64_B7) ?_
    all_goals exact wkG (And.intro flT_id flF_id)
theorem c_clF1 {l : List Ty} (hne : 0 < l.length) (hl : l.length * 80 ≤ 140737488355328) : DC Tryz.prog 64 [.sl (l.map fdV) .nn] [.free] (.bs 0 l.length) [.box (flatV (l.map fdV))] := by
  refine DC.enterN 1 8 Tryz.func64 rfl (by decide) rfl rfl (s := [(0, .sl (l.map fdV) .nn)]) (by rfl) ?_
  refine wG Y64_B7 True.intro ?_
  refine AWp.region ?_
  refine AR.one rfl (by simp only [↓accU_f, ↓reduceIte, SA, SB, SC, SD, Y64_B7, valG, fpsG, evO, evB, evA, evA1, nilK, eqF, eqC, apOk, intOf, slB, slK,  gd, St.ev, putA, ofl, wrl, putE, V.ofVal, V.ofCell, bin2, un1, seg, fillV, partsOk, Value.oneCell', Nat.reduceBEq, Nat.reduceLT, Nat.reduceSub, Nat.reduceAdd, Nat.reduceMul, Nat.reduceLeDiff, Nat.reduceEqDiff, reduceCtorEq, Int.reduceLT, Int.reduceLE, Int.reduceEq, Int.reduceNe, Int.reduceBEq, Int.reduceBNe, Int.reduceAdd, Int.reduceSub, Int.reduceMul, Int.reduceToNat]; with_reducible exact rfl) (by simp only [↓accU_f, ↓reduceIte, SA, SB, SC, SD, Y64_B7, valG, fpsG, evO, evB, evA, evA1, nilK, eqF, eqC, apOk, intOf, slB, slK,  gd, St.ev, putA, ofl, wrl, putE, V.ofVal, V.ofCell, bin2, un1, seg, fillV, partsOk, Value.oneCell', Nat.reduceBEq, Nat.reduceLT, Nat.reduceSub, Nat.reduceAdd, Nat.reduceMul, Nat.reduceLeDiff, Nat.reduceEqDiff, reduceCtorEq, Int.reduceLT, Int.reduceLE, Int.reduceEq, Int.reduceNe, Int.reduceBEq, Int.reduceBNe, Int.reduceAdd, Int.reduceSub, Int.reduceMul, Int.reduceToNat]; with_reducible exact rfl) (by simp only [↓accU_f, ↓reduceIte, SA, SB, SC, SD, Y64_B7, valG, fpsG, evO, evB, evA, evA1, nilK, eqF, eqC, apOk, intOf, slB, slK,  gd, St.ev, putA, ofl, wrl, putE, V.ofVal, V.ofCell, bin2, un1, seg, fillV, partsOk, Value.oneCell', Nat.reduceBEq, Nat.reduceLT, Nat.reduceSub, Nat.reduceAdd, Nat.reduceMul, Nat.reduceLeDiff, Nat.reduceEqDiff, reduceCtorEq, Int.reduceLT, Int.reduceLE, Int.reduceEq, Int.reduceNe, Int.reduceBEq, Int.reduceBNe, Int.reduceAdd, Int.reduceSub, Int.reduceMul, Int.reduceToNat]; with_reducible exact rfl) ?_
  refine AR.one rfl (by simp only [↓accU_f, ↓reduceIte, SA, SB, SC, SD, Y64_B7, valG, fpsG, evO, evB, evA, evA1, nilK, eqF, eqC, apOk, intOf, slB, slK,  gd, St.ev, putA, ofl, wrl, putE, V.ofVal, V.ofCell, bin2, un1, seg, fillV, partsOk, Value.oneCell', Nat.reduceBEq, Nat.reduceLT, Nat.reduceSub, Nat.reduceAdd, Nat.reduceMul, Nat.reduceLeDiff, Nat.reduceEqDiff, reduceCtorEq, Int.reduceLT, Int.reduceLE, Int.reduceEq, Int.reduceNe, Int.reduceBEq, Int.reduceBNe, Int.reduceAdd, Int.reduceSub, Int.reduceMul, Int.reduceToNat]; with_reducible exact rfl) (by simp only [↓accU_f, ↓reduceIte, SA, SB, SC, SD, Y64_B7, valG, fpsG, evO, evB, evA, evA1, nilK, eqF, eqC, apOk, intOf, slB, slK,  gd, St.ev, putA, ofl, wrl, putE, V.ofVal, V.ofCell, bin2, un1, seg, fillV, partsOk, Value.oneCell', Nat.reduceBEq, Nat.reduceLT, Nat.reduceSub, Nat.reduceAdd, Nat.reduceMul, Nat.reduceLeDiff, Nat.reduceEqDiff, reduceCtorEq, Int.reduceLT, Int.reduceLE, Int.reduceEq, Int.reduceNe, Int.reduceBEq, Int.reduceBNe, Int.reduceAdd, Int.reduceSub, Int.reduceMul, Int.reduceToNat]; with_reducible exact rfl) (by simp only [↓accU_f, ↓reduceIte, SA, SB, SC, SD, Y64_B7, valG, fpsG, evO, evB, evA, evA1, nilK, eqF, eqC, apOk, intOf, slB, slK,  gd, St.ev, putA, ofl, wrl, putE, V.ofVal, V.ofCell, bin2, un1, seg, fillV, partsOk, Value.oneCell', Nat.reduceBEq, Nat.reduceLT, Nat.reduceSub, Nat.reduceAdd, Nat.reduceMul, Nat.reduceLeDiff, Nat.reduceEqDiff, reduceCtorEq, Int.reduceLT, Int.reduceLE, Int.reduceEq, Int.reduceNe, Int.reduceBEq, Int.reduceBNe, Int.reduceAdd, Int.reduceSub, Int.reduceMul, Int.reduceToNat]; with_reducible exact rfl) ?_
  refine AR.appB (z := 6) rfl (by simp only [↓accU_f, ↓reduceIte, SA, SB, SC, SD, Y64_B7, valG, fpsG, evO, evB, evA, evA1, nilK, eqF, eqC, apOk, intOf, slB, slK,  gd, St.ev, putA, ofl, wrl, putE, V.ofVal, V.ofCell, bin2, un1, seg, fillV, partsOk, Value.oneCell', Nat.reduceBEq, Nat.reduceLT, Nat.reduceSub, Nat.reduceAdd, Nat.reduceMul, Nat.reduceLeDiff, Nat.reduceEqDiff, reduceCtorEq, Int.reduceLT, Int.reduceLE, Int.reduceEq, Int.reduceNe, Int.reduceBEq, Int.reduceBNe, Int.reduceAdd, Int.reduceSub, Int.reduceMul, Int.reduceToNat, hl, allZ_fd, Nat.zero_add]) (by simp only [↓accU_f, ↓reduceIte, SA, SB, SC, SD, Y64_B7, valG, fpsG, evO, evB, evA, evA1, nilK, eqF, eqC, apOk, intOf, slB, slK,  gd, St.ev, putA, ofl, wrl, putE, V.ofVal, V.ofCell, bin2, un1, seg, fillV, partsOk, Value.oneCell', Nat.reduceBEq, Nat.reduceLT, Nat.reduceSub, Nat.reduceAdd, Nat.reduceMul, Nat.reduceLeDiff, Nat.reduceEqDiff, reduceCtorEq, Int.reduceLT, Int.reduceLE, Int.reduceEq, Int.reduceNe, Int.reduceBEq, Int.reduceBNe, Int.reduceAdd, Int.reduceSub, Int.reduceMul, Int.reduceToNat, hl, allZ_fd, Nat.zero_add]; with_reducible exact rfl) (by simp only [↓accU_f, ↓reduceIte, SA, SB, SC, SD, Y64_B7, valG, fpsG, evO, evB, evA, evA1, nilK, eqF, eqC, apOk, intOf, slB, slK,  gd, St.ev, putA, ofl, wrl, putE, V.ofVal, V.ofCell, bin2, un1, seg, fillV, partsOk, Value.oneCell', Nat.reduceBEq, Nat.reduceLT, Nat.reduceSub, Nat.reduceAdd, Nat.reduceMul, Nat.reduceLeDiff, Nat.reduceEqDiff, reduceCtorEq, Int.reduceLT, Int.reduceLE, Int.reduceEq, Int.reduceNe, Int.reduceBEq, Int.reduceBNe, Int.reduceAdd, Int.reduceSub, Int.reduceMul, Int.reduceToNat, hl, allZ_fd, Nat.zero_add]; with_reducible exact rfl) (by simp only [↓accU_f, ↓reduceIte, SA, SB, SC, SD, Y64_B7, valG, fpsG, evO, evB, evA, evA1, nilK, eqF, eqC, apOk, intOf, slB, slK,  gd, St.ev, putA, ofl, wrl, putE, V.ofVal, V.ofCell, bin2, un1, seg, fillV, partsOk, Value.oneCell', Nat.reduceBEq, Nat.reduceLT, Nat.reduceSub, Nat.reduceAdd, Nat.reduceMul, Nat.reduceLeDiff, Nat.reduceEqDiff, reduceCtorEq, Int.reduceLT, Int.reduceLE, Int.reduceEq, Int.reduceNe, Int.reduceBEq, Int.reduceBNe, Int.reduceAdd, Int.reduceSub, Int.reduceMul, Int.reduceToNat, hl, allZ_fd, Nat.zero_add]; with_reducible exact rfl) (by simp only [↓accU_f, ↓reduceIte, SA, SB, SC, SD, Y64_B7, valG, fpsG, evO, evB, evA, evA1, nilK, eqF, eqC, apOk, intOf, slB, slK,  gd, St.ev, putA, ofl, wrl, putE, V.ofVal, V.ofCell, bin2, un1, seg, fillV, partsOk, Value.oneCell', Nat.reduceBEq, Nat.reduceLT, Nat.reduceSub, Nat.reduceAdd, Nat.reduceMul, Nat.reduceLeDiff, Nat.reduceEqDiff, reduceCtorEq, Int.reduceLT, Int.reduceLE, Int.reduceEq, Int.reduceNe, Int.reduceBEq, Int.reduceBNe, Int.reduceAdd, Int.reduceSub, Int.reduceMul, Int.reduceToNat, hl, allZ_fd, Nat.zero_add]) (by simp only [List.length_map]; exact hne) (by simp only [List.length_map, ↓accU_f, ↓reduceIte, SA, SB, SC, SD, Y64_B7, valG, fpsG, evO, evB, evA, evA1, nilK, eqF, eqC, apOk, intOf, slB, slK,  gd, St.ev, putA, ofl, wrl, putE, V.ofVal, V.ofCell, bin2, un1, seg, fillV, partsOk, Value.oneCell', Nat.reduceBEq, Nat.reduceLT, Nat.reduceSub, Nat.reduceAdd, Nat.reduceMul, Nat.reduceLeDiff, Nat.reduceEqDiff, reduceCtorEq, Int.reduceLT, Int.reduceLE, Int.reduceEq, Int.reduceNe, Int.reduceBEq, Int.reduceBNe, Int.reduceAdd, Int.reduceSub, Int.reduceMul, Int.reduceToNat, hl, allZ_fd, Nat.zero_add]) ?_
  refine goG Y64_B7 @List.length_map.{0, 0} ?_
  refine wG Y64_B7 True.intro ?_
  refine Fin.genK 1 (rs := [.tmp 2]) rfl (by first | exact .inl rfl | exact .inr rfl) (by simp only [resX, resA, ↓accU_f, ↓reduceIte, SA, SB, SC, SD, Y64_B7, valG, fpsG, evO, evB, evA, evA1, nilK, eqF, eqC, apOk, intOf, slB, slK,  gd, St.ev, putA, ofl, wrl, putE, V.ofVal, V.ofCell, bin2, un1, seg, fillV, partsOk, Value.oneCell', Nat.reduceBEq, Nat.reduceLT, Nat.reduceSub, Nat.reduceAdd, Nat.reduceMul, Nat.reduceLeDiff, Nat.reduceEqDiff, reduceCtorEq, Int.reduceLT, Int.reduceLE, Int.reduceEq, Int.reduceNe, Int.reduceBEq, Int.reduceBNe, Int.reduceAdd, Int.reduceSub, Int.reduceMul, Int.reduceToNat]; with_reducible exact rfl) ?_ rfl (by first | rfl | simp only [List.length_cons, List.length_nil, Nat.reduceAdd, V.ids, V.idsL, idsA, entOk, List.all_cons, List.all_nil, Bool.and_self, Bool.and_true, Bool.true_and, ltB, noId, Nat.reduceLT, decide_true, Bool.true_eq_false, tyV_id, fdV_id, tyL_id, fdL_id, flT_id, flF_id])
  repeat (first | exact WkF.of (Wk.refl _) (by first | rfl | simp only [List.length_cons, List.length_nil, Nat.reduceAdd, V.ids, V.idsL, idsA, entOk, List.all_cons, List.all_nil, Bool.and_self, Bool.and_true, Bool.true_and, ltB, noId, Nat.reduceLT, decide_true, Bool.true_eq_false, tyV_id, fdV_id, tyL_id, fdL_id, flT_id, flF_id]) | exact WkF.of (Wk.ro _ _) (by first | rfl | simp only [List.length_cons, List.length_nil, Nat.reduceAdd, V.ids, V.idsL, idsA, entOk, List.all_cons, List.all_nil, Bool.and_self, Bool.and_true, Bool.true_and, ltB, noId, Nat.reduceLT, decide_true, Bool.true_eq_false, tyV_id, fdV_id, tyL_id, fdL_id, flT_id, flF_id]) | refine WkF.tu ?_ | refine WkF.ag ?_ | refine WkFL.cons ?_ ?_ | exact WkFL.nil)
theorem Y39_B7 : type_of% (And.intro @F_ag_22 (And.intro @F_ag_23 (And.intro @F_ag_25 (And.intro @F_al_25 (And.intro @F_el_22 (And.intro @F_el_23 (And.intro @F_fl_25_3 (And.intro @F_fl_25_4 (And.intro @F_fl_47_1 (And.intro @F_sz_22 (And.intro @F_sz_23 (And.intro @F_sz_25 (@F_sz_47))))))))))))) := And.intro @F_ag_22 (And.intro @F_ag_23 (And.intro @F_ag_25 (And.intro @F_al_25 (And.intro @F_el_22 (And.intro @F_el_23 (And.intro @F_fl_25_3 (And.intro @F_fl_25_4 (And.intro @F_fl_47_1 (And.intro @F_sz_22 (And.intro @F_sz_23 (And.intro @F_sz_25 (@F_sz_47))))))))))))
theorem c_own : ∀ (t : Ty), fit t → PC Tryz.prog 39 [tyV t] (tyV t) := by
  refine Ty.induct fun o k s c es fs hE hF => ?_
  intro hfit
  obtain ⟨hl1, hl2, hfE, hfF⟩ := fit_mk hfit
  refine PC.enter 50 Tryz.func39 rfl (by decide) rfl rfl (s := [(0, tyV (.mk o k s c es fs))]) (by rfl) ?_
  simp only [tyV_mk]
  refine wG Y39_B7 True.intro ?_
  rcases Nat.eq_zero_or_pos es.length with h0 | h0
  case' inl =>
    have he : es.map tyV = [] := by rw [List.length_eq_zero_iff.1 h0]; rfl
    refine AR.callP c_clT0 he (And.intro flT_id flF_id) ?_
    refine goG Y39_B7 True.intro ?_
    refine wG Y39_B7 True.intro ?_
    refine AWp.loop ?_
    refine ALp.round ?_
    have hlt' : ¬ (0 : Int) < (es.length : Int) := by omega
    refine whG Y39_B7 (And.intro hlt' @List.length_nil.{0}) ?_
    refine Blk'.here (Thn.n ?_)
    refine AWp.frz 2 [(1, .pt 0 0), (2, .pt 1 0)] [.box [.im (.int .i64 k), .im (.int .i64 s), .im (.int .i64 c), .sl (es.map tyV) .ro, .sl (fs.map fdV) .ro], .box [.im (.int .i64 0), .im (.int .i64 0), .im (.int .i64 0), .sl [] .nl, .sl [] .nl]] ?_ (by simp) (by repeat (first | exact WkFA.nil | refine WkFA.cons (by first | exact .of (Wk.refl _) (by first | rfl | simp only [List.length_cons, List.length_nil, Nat.reduceAdd, V.ids, V.idsL, idsA, entOk, List.all_cons, List.all_nil, Bool.and_self, Bool.and_true, Bool.true_and, ltB, noId, Nat.reduceLT, decide_true, Bool.true_eq_false, tyV_id, fdV_id, tyL_id, fdL_id, flT_id, flF_id]) | (rw [he]; exact .of (Wk.refl _) rfl)) ?_)) (by repeat (first | exact WkFE.nil | refine WkFE.box (by repeat (first | exact WkFL.nil | refine WkFL.cons (by first | exact .of (Wk.refl _) (by first | rfl | simp only [List.length_cons, List.length_nil, Nat.reduceAdd, V.ids, V.idsL, idsA, entOk, List.all_cons, List.all_nil, Bool.and_self, Bool.and_true, Bool.true_and, ltB, noId, Nat.reduceLT, decide_true, Bool.true_eq_false, tyV_id, fdV_id, tyL_id, fdL_id, flT_id, flF_id]) | (rw [he]; exact .of (Wk.refl _) rfl)) ?_)) ?_ | refine WkFE.same (fun _ e => by cases e) ?_)) (fun i hi => by first | exact absurd rfl hi | exact Nat.lt_of_lt_of_le (ofl_lt hi) (by simp))
  case' inr =>
    have hcl := c_clT1 (l := es) h0 (by omega)
    refine AR.callS [2] hcl rfl rfl (by first | (simp only [SR, flT_ren, flF_ren]; done) | (simp only [SR, flT_ren, flF_ren]; with_reducible exact rfl)) (by first | (simp only [SR, flT_ren, flF_ren]; done) | (simp only [SR, flT_ren, flF_ren]; with_reducible exact rfl)) (WkL.cons (Wk.nn (by simpa using h0)) .nil) (by first | rfl | simp only [List.length_cons, List.length_nil, Nat.reduceAdd, V.ids, V.idsL, idsA, entOk, List.all_cons, List.all_nil, Bool.and_self, Bool.and_true, Bool.true_and, ltB, noId, Nat.reduceLT, decide_true, Bool.true_eq_false, tyV_id, fdV_id, tyL_id, fdL_id, flT_id, flF_id]) rfl rfl rfl (by first | rfl | simp only [List.length_cons, List.length_nil, Nat.reduceAdd, V.ids, V.idsL, idsA, entOk, List.all_cons, List.all_nil, Bool.and_self, Bool.and_true, Bool.true_and, ltB, noId, Nat.reduceLT, decide_true, Bool.true_eq_false, tyV_id, fdV_id, tyL_id, fdL_id, flT_id, flF_id]) (by intro p hp; simp only [renE, SR, Ent.ren, List.mem_cons, List.not_mem_nil, or_false, flT_ren, flF_ren] at hp; rcases hp with rfl <;> rfl) (by simp only [renE, Ent.ren, SR, flT_ren, flF_ren, wrl, putE, SC, SD, Nat.reduceBEq, Nat.reduceLT, Nat.reduceSub, Nat.reduceAdd, Nat.reduceMul, Nat.reduceLeDiff, Nat.reduceEqDiff, reduceCtorEq, Int.reduceLT, Int.reduceLE, Int.reduceEq, Int.reduceNe, Int.reduceBEq, Int.reduceBNe, Int.reduceAdd, Int.reduceSub, Int.reduceMul, Int.reduceToNat]; with_reducible exact rfl) ?_
    refine goG Y39_B7 True.intro ?_
    refine wG Y39_B7 True.intro ?_
    refine AWp.loop ?_
    refine ALp.cutP 3 [(1, .pt 0 0), (2, .pt 1 0), (11, (.im (.int .i64 (es.length)))), (12, (.im (.int .i64 ((((0 : Nat)) : Int)))))] [.box [.im (.int .i64 k), .im (.int .i64 s), .im (.int .i64 c), .bs 2 es.length, .sl (fs.map fdV) .ro], .box [.im (.int .i64 0), .im (.int .i64 0), .im (.int .i64 0), .sl [] .nl, .sl [] .nl], .box (flatV (es.map tyV))] (And.intro flT_id flF_id) ?_
    refine ALp.upto es.length (fun _ => True) (fun m => ⟨dn 50 [(1, .pt 0 0), (2, .pt 1 0), (11, (.im (.int .i64 (es.length)))), (12, (.im (.int .i64 ((((m : Nat)) : Int)))))], ofl [.box [.im (.int .i64 k), .im (.int .i64 s), .im (.int .i64 c), .bs 2 es.length, .sl (fs.map fdV) .ro], .box [.im (.int .i64 0), .im (.int .i64 0), .im (.int .i64 0), .sl [] .nl, .sl [] .nl], .box (flatV (es.map tyV))]⟩) ?_ 0 (Nat.zero_le _) trivial
    intro m hm _ hnext
    by_cases hlt : m < es.length
    case pos =>
      have hlt' : (m : Int) < (es.length : Int) := by omega
      have hm1 := wrap_succ hlt (by omega)
      have hm' : m < (es.map tyV).length := by simpa using hlt
      have hd := flat_drop (allZ_ty es) hm'
      have hs := flat_seg (allZ_ty es) hm'
      have hf := flat_fit (allZ_ty es) hm'
      simp only [List.getElem_map, tyV_cells, seg, List.length_cons, List.length_nil, Nat.reduceAdd] at hd hs
      have hc := hE es[m] (List.getElem_mem hlt) (hfE _ (List.getElem_mem hlt))
      refine wdG Y39_B7 (And.intro hlt' (And.intro (@Int.natCast_nonneg) (And.intro hd hf))) ?_
      refine AR.callP hc @tyV_eq (And.intro flT_id flF_id) ?_
      refine goG Y39_B7 (And.intro hlt' (And.intro (@Int.natCast_nonneg) (And.intro hd (And.intro hf (And.intro hs (And.intro (@tyV_firm) (And.intro (@fdV_firm) (And.intro (@tyV_strip) (And.intro (@fdV_strip) (And.intro (@tyV_live) (And.intro (@tyV_size) (And.intro (@tyV_isAg) (And.intro (@tyV_cells) (And.intro (@fdV_live) (And.intro (@fdV_size) (And.intro (@fdV_isAg) (And.intro (@fdV_cells) (And.intro (@List.getElem?_map.{0, 0}) @Int.natCast_nonneg)))))))))))))))))) ?_
      refine wdG Y39_B7 hm1 ?_
      refine ALp.cutP 3 [(1, .pt 0 0), (2, .pt 1 0), (11, (.im (.int .i64 (es.length)))), (12, (.im (.int .i64 ((((m + 1 : Nat)) : Int)))))] [.box [.im (.int .i64 k), .im (.int .i64 s), .im (.int .i64 c), .bs 2 es.length, .sl (fs.map fdV) .ro], .box [.im (.int .i64 0), .im (.int .i64 0), .im (.int .i64 0), .sl [] .nl, .sl [] .nl], .box (flatV (es.map tyV))] (And.intro flT_id flF_id) ?_
      exact hnext (m + 1) (by omega) (by omega) trivial
    have hlt' : ¬ (m : Int) < (es.length : Int) := by omega
    clear hnext
    refine whG Y39_B7 hlt' ?_
    refine Blk'.here (Thn.n ?_)
    refine AWp.frz 2 [(1, .pt 0 0), (2, .pt 1 0)] [.box [.im (.int .i64 k), .im (.int .i64 s), .im (.int .i64 c), .sl (es.map tyV) .ro, .sl (fs.map fdV) .ro], .box [.im (.int .i64 0), .im (.int .i64 0), .im (.int .i64 0), .sl [] .nl, .sl [] .nl]] ?_ (by simp) (by repeat (first | exact WkFA.nil | refine WkFA.cons (by first | exact .of (Wk.refl _) (by first | rfl | simp only [List.length_cons, List.length_nil, Nat.reduceAdd, V.ids, V.idsL, idsA, entOk, List.all_cons, List.all_nil, Bool.and_self, Bool.and_true, Bool.true_and, ltB, noId, Nat.reduceLT, decide_true, Bool.true_eq_false, tyV_id, fdV_id, tyL_id, fdL_id, flT_id, flF_id]) | exact WkF.bs (z := 5) rfl rfl (by simp) (allZ_ty es) rfl (tyL_id _ _)) ?_)) (by repeat (first | exact WkFE.nil | refine WkFE.box (by repeat (first | exact WkFL.nil | refine WkFL.cons (by first | exact .of (Wk.refl _) (by first | rfl | simp only [List.length_cons, List.length_nil, Nat.reduceAdd, V.ids, V.idsL, idsA, entOk, List.all_cons, List.all_nil, Bool.and_self, Bool.and_true, Bool.true_and, ltB, noId, Nat.reduceLT, decide_true, Bool.true_eq_false, tyV_id, fdV_id, tyL_id, fdL_id, flT_id, flF_id]) | exact WkF.bs (z := 5) rfl rfl (by simp) (allZ_ty es) rfl (tyL_id _ _)) ?_)) ?_ | refine WkFE.same (fun _ e => by cases e) ?_)) (fun i hi => by first | exact absurd rfl hi | exact Nat.lt_of_lt_of_le (ofl_lt hi) (by simp))
    clear hlt' hlt hm hcl
  all_goals
    clear h0
    refine wG Y39_B7 True.intro ?_
    rcases Nat.eq_zero_or_pos fs.length with h0 | h0
    case inl =>
      have he : fs.map fdV = [] := by rw [List.length_eq_zero_iff.1 h0]; rfl
      refine AR.callP c_clF0 he (And.intro flT_id flF_id) ?_
      refine goG Y39_B7 True.intro ?_
      refine wG Y39_B7 True.intro ?_
      refine AWp.loop ?_
      refine ALp.round ?_
      have hlt' : ¬ (0 : Int) < (fs.length : Int) := by omega
      refine wG Y39_B7 (And.intro hlt' @List.length_nil.{0}) ?_
      rw [he]
      refine Fin.gen0 (rs := [.cell 2 25]) rfl (by first | exact .inl rfl | exact .inr rfl) (finG Y39_B7) ?_
      all_goals exact wkG (And.intro flT_id flF_id)
    have hcl := c_clF1 (l := fs) h0 (by omega)
    refine AR.callS [2] hcl rfl rfl (by first | (simp only [SR, flT_ren, flF_ren]; done) | (simp only [SR, flT_ren, flF_ren]; with_reducible exact rfl)) (by first | (simp only [SR, flT_ren, flF_ren]; done) | (simp only [SR, flT_ren, flF_ren]; with_reducible exact rfl)) (WkL.cons (Wk.nn (by simpa using h0)) .nil) (by first | rfl | simp only [List.length_cons, List.length_nil, Nat.reduceAdd, V.ids, V.idsL, idsA, entOk, List.all_cons, List.all_nil, Bool.and_self, Bool.and_true, Bool.true_and, ltB, noId, Nat.reduceLT, decide_true, Bool.true_eq_false, tyV_id, fdV_id, tyL_id, fdL_id, flT_id, flF_id]) rfl rfl rfl (by first | rfl | simp only [List.length_cons, List.length_nil, Nat.reduceAdd, V.ids, V.idsL, idsA, entOk, List.all_cons, List.all_nil, Bool.and_self, Bool.and_true, Bool.true_and, ltB, noId, Nat.reduceLT, decide_true, Bool.true_eq_false, tyV_id, fdV_id, tyL_id, fdL_id, flT_id, flF_id]) (by intro p hp; simp only [renE, SR, Ent.ren, List.mem_cons, List.not_mem_nil, or_false, flT_ren, flF_ren] at hp; rcases hp with rfl <;> rfl) (by simp only [renE, Ent.ren, SR, flT_ren, flF_ren, wrl, putE, SC, SD, Nat.reduceBEq, Nat.reduceLT, Nat.reduceSub, Nat.reduceAdd, Nat.reduceMul, Nat.reduceLeDiff, Nat.reduceEqDiff, reduceCtorEq, Int.reduceLT, Int.reduceLE, Int.reduceEq, Int.reduceNe, Int.reduceBEq, Int.reduceBNe, Int.reduceAdd, Int.reduceSub, Int.reduceMul, Int.reduceToNat]; with_reducible exact rfl) ?_
    refine goG Y39_B7 True.intro ?_
    refine wG Y39_B7 True.intro ?_
    refine AWp.loop ?_
    refine ALp.cutP 3 [(1, .pt 0 0), (2, .pt 1 0), (32, (.im (.int .i64 (fs.length)))), (33, (.im (.int .i64 ((((0 : Nat)) : Int)))))] [.box [.im (.int .i64 k), .im (.int .i64 s), .im (.int .i64 c), .sl (es.map tyV) .ro, .bs 2 fs.length], .box [.im (.int .i64 0), .im (.int .i64 0), .im (.int .i64 0), .sl [] .nl, .sl [] .nl], .box (flatV (fs.map fdV))] (And.intro flT_id flF_id) ?_
    refine ALp.upto fs.length (fun _ => True) (fun m => ⟨dn 50 [(1, .pt 0 0), (2, .pt 1 0), (32, (.im (.int .i64 (fs.length)))), (33, (.im (.int .i64 ((((m : Nat)) : Int)))))], ofl [.box [.im (.int .i64 k), .im (.int .i64 s), .im (.int .i64 c), .sl (es.map tyV) .ro, .bs 2 fs.length], .box [.im (.int .i64 0), .im (.int .i64 0), .im (.int .i64 0), .sl [] .nl, .sl [] .nl], .box (flatV (fs.map fdV))]⟩) ?_ 0 (Nat.zero_le _) trivial
    intro m hm _ hnext
    by_cases hlt : m < fs.length
    case pos =>
      have hlt' : (m : Int) < (fs.length : Int) := by omega
      have hm1 := wrap_succ hlt (by omega)
      have hm' : m < (fs.map fdV).length := by simpa using hlt
      have hd := flat_drop1 (allZ_fd fs) hm' (j := 1) (w := 5) (by simp [fdV_cells])
      have hs := flat_seg1 (allZ_fd fs) hm' (j := 1) (w := 5) (by simp [fdV_cells])
      have hf := flat_fit1 (allZ_fd fs) hm' (j := 1) (w := 5) (by omega)
      simp only [List.getElem_map, fdV_cells, seg, List.length_cons, List.length_nil, Nat.reduceAdd, List.drop_succ_cons, List.drop_zero, List.take_succ_cons, List.take_zero] at hd hs
      have hc := hF fs[m] (List.getElem_mem hlt) (hfF _ (List.getElem_mem hlt))
      refine wdG Y39_B7 (And.intro hlt' (And.intro (@Int.natCast_nonneg) (And.intro hd hf))) ?_
      refine AR.callP hc @tyV_eq (And.intro flT_id flF_id) ?_
      refine goG Y39_B7 (And.intro hlt' (And.intro (@Int.natCast_nonneg) (And.intro hd (And.intro hf (And.intro hs (And.intro (@tyV_firm) (And.intro (@fdV_firm) (And.intro (@tyV_strip) (And.intro (@fdV_strip) (And.intro (@tyV_live) (And.intro (@tyV_size) (And.intro (@tyV_isAg) (And.intro (@tyV_cells) (And.intro (@fdV_live) (And.intro (@fdV_size) (And.intro (@fdV_isAg) (And.intro (@fdV_cells) (And.intro (@List.getElem?_map.{0, 0}) @Int.natCast_nonneg)))))))))))))))))) ?_
      refine wdG Y39_B7 hm1 ?_
      refine ALp.cutP 3 [(1, .pt 0 0), (2, .pt 1 0), (32, (.im (.int .i64 (fs.length)))), (33, (.im (.int .i64 ((((m + 1 : Nat)) : Int)))))] [.box [.im (.int .i64 k), .im (.int .i64 s), .im (.int .i64 c), .sl (es.map tyV) .ro, .bs 2 fs.length], .box [.im (.int .i64 0), .im (.int .i64 0), .im (.int .i64 0), .sl [] .nl, .sl [] .nl], .box (flatV (fs.map fdV))] (And.intro flT_id flF_id) ?_
      exact hnext (m + 1) (by omega) (by omega) trivial
    have hlt' : ¬ (m : Int) < (fs.length : Int) := by omega
    clear hnext
    refine wG Y39_B7 hlt' ?_
    refine Fin.gen0 (rs := [.cell 2 25]) rfl (by first | exact .inl rfl | exact .inr rfl) (by simp only [resX, resA, ↓accU_f, ↓reduceIte, SA, SB, SC, SD, Y39_B7, valG, fpsG, evO, evB, evA, evA1, nilK, eqF, eqC, apOk, intOf, slB, slK,  gd, St.ev, putA, ofl, wrl, putE, V.ofVal, V.ofCell, bin2, un1, seg, fillV, partsOk, Value.oneCell', Nat.reduceBEq, Nat.reduceLT, Nat.reduceSub, Nat.reduceAdd, Nat.reduceMul, Nat.reduceLeDiff, Nat.reduceEqDiff, reduceCtorEq, Int.reduceLT, Int.reduceLE, Int.reduceEq, Int.reduceNe, Int.reduceBEq, Int.reduceBNe, Int.reduceAdd, Int.reduceSub, Int.reduceMul, Int.reduceToNat]; with_reducible exact rfl) ?_
    refine WkF.ag ?_
    repeat (first | exact WkF.of (Wk.refl _) (by first | rfl | simp only [List.length_cons, List.length_nil, Nat.reduceAdd, V.ids, V.idsL, idsA, entOk, List.all_cons, List.all_nil, Bool.and_self, Bool.and_true, Bool.true_and, ltB, noId, Nat.reduceLT, decide_true, Bool.true_eq_false, tyV_id, fdV_id, tyL_id, fdL_id, flT_id, flF_id]) | exact WkF.of (Wk.ro _ _) (by first | rfl | simp only [List.length_cons, List.length_nil, Nat.reduceAdd, V.ids, V.idsL, idsA, entOk, List.all_cons, List.all_nil, Bool.and_self, Bool.and_true, Bool.true_and, ltB, noId, Nat.reduceLT, decide_true, Bool.true_eq_false, tyV_id, fdV_id, tyL_id, fdL_id, flT_id, flF_id]) | refine WkF.tu ?_ | refine WkF.ag ?_ | refine WkFL.cons ?_ ?_ | exact WkFL.nil)
    · exact WkF.bs (z := 6) rfl rfl (by simp) (allZ_fd fs) rfl (fdL_id _ _)
    · exact WkFL.nil
end Go.Proofs.YtchjncoadhigmaaGreatDoor
namespace Go.Proofs.YtchjncoadhigmaaGreatDoor
set_option linter.unusedSimpArgs false
set_option linter.unusedVariables false
set_option linter.unnecessarySimpa false
open Go.RowKit

theorem c_backF {l : List Ty} : PC Tryz.prog 83 [.sl (l.map fdV) .ro] (.fn (.func gfB) [] [.ep (.sl (l.map fdV) .ro) 0]) := by
  refine PC.enter 4 Tryz.func83 rfl (by decide) rfl rfl (s := [(0, .sl (l.map fdV) .ro)]) (by rfl) ?_
  refine wG True.intro True.intro ?_
  refine Fin.gen0 (rs := [.tmp 2]) rfl (by first | exact .inl rfl | exact .inr rfl) (by simp only [resX, resA, ↓accU_f, ↓reduceIte, SA, SB, SC, SD, valG, fpsG, evO, evB, evA, evA1, nilK, eqF, eqC, apOk, intOf, slB, slK,  gd, St.ev, putA, ofl, wrl, putE, V.ofVal, V.ofCell, bin2, un1, seg, fillV, partsOk, Value.oneCell', Nat.reduceBEq, Nat.reduceLT, Nat.reduceSub, Nat.reduceAdd, Nat.reduceMul, Nat.reduceLeDiff, Nat.reduceEqDiff, reduceCtorEq, Int.reduceLT, Int.reduceLE, Int.reduceEq, Int.reduceNe, Int.reduceBEq, Int.reduceBNe, Int.reduceAdd, Int.reduceSub, Int.reduceMul, Int.reduceToNat]; with_reducible exact rfl) ?_
  repeat (first | exact WkF.of (Wk.refl _) (by first | rfl | simp only [List.length_cons, List.length_nil, Nat.reduceAdd, V.ids, V.idsL, idsA, entOk, List.all_cons, List.all_nil, Bool.and_self, Bool.and_true, Bool.true_and, ltB, noId, Nat.reduceLT, decide_true, Bool.true_eq_false, tyV_id, fdV_id, tyL_id, fdL_id]) | exact WkF.of (Wk.ro _ _) (by first | rfl | simp only [List.length_cons, List.length_nil, Nat.reduceAdd, V.ids, V.idsL, idsA, entOk, List.all_cons, List.all_nil, Bool.and_self, Bool.and_true, Bool.true_and, ltB, noId, Nat.reduceLT, decide_true, Bool.true_eq_false, tyV_id, fdV_id, tyL_id, fdL_id]) | refine WkF.tu ?_ | refine WkF.ag ?_ | refine WkFL.cons ?_ ?_ | exact WkFL.nil)
  refine fun C v hst hC hR => ?_
  cases hR with
  | @fn _ _ _ us vs h1 h2 h3 h4 => exact .fn h1 h2 (fun i hi => absurd hi (Nat.not_lt_zero _)) (fun i hi => by
      obtain rfl : i = 0 := by simpa using hi
      exact WkF.ep rfl rfl rfl rfl (by simp [V.ids, fdL_id]) C _ hst hC (h4 0 (by simp)))
theorem Y59_B8 : type_of% (And.intro @F_ag_22 (And.intro @F_ag_23 (And.intro @F_ag_25 (And.intro @F_ag_3 (And.intro @F_ag_4 (And.intro @F_al_25 (And.intro @F_al_4 (And.intro @F_al_47 (And.intro @F_el_22 (And.intro @F_fl_25_0 (And.intro @F_fl_25_3 (And.intro @F_fl_25_4 (And.intro @F_fl_47_0 (And.intro @F_fl_47_1 (And.intro @F_sz_22 (And.intro @F_sz_23 (And.intro @F_sz_25 (And.intro @F_sz_3 (And.intro @F_sz_4 (@F_sz_47)))))))))))))))))))) := And.intro @F_ag_22 (And.intro @F_ag_23 (And.intro @F_ag_25 (And.intro @F_ag_3 (And.intro @F_ag_4 (And.intro @F_al_25 (And.intro @F_al_4 (And.intro @F_al_47 (And.intro @F_el_22 (And.intro @F_fl_25_0 (And.intro @F_fl_25_3 (And.intro @F_fl_25_4 (And.intro @F_fl_47_0 (And.intro @F_fl_47_1 (And.intro @F_sz_22 (And.intro @F_sz_23 (And.intro @F_sz_25 (And.intro @F_sz_3 (And.intro @F_sz_4 (@F_sz_47)))))))))))))))))))
theorem c_fatP : ∀ (t : Ty), fit t → frm t = true → ∀ off w : Int, I64 off → PC Tryz.prog 59 [tyV t, (.im (.int .i64 (off))), (.im (.int .i64 (w)))] (.tu [tyV ((fat t off w).getD (failP t off w)), (.im (.bool ((fat t off w).isSome)))]) := by
  refine Ty.induct fun o k s c es fs hE hF => ?_
  intro hfit hfrm off w hoff
  have hs := c_size _ hfit hfrm
  obtain ⟨hl1, hl2, hfE, hfF⟩ := fit_mk hfit
  obtain ⟨hb, hof, hfs, hes⟩ := frm_inv hfrm
  refine PC.enter 81 Tryz.func59 rfl (by decide) rfl rfl (s := [(0, tyV (.mk o k s c es fs)), (1, (.im (.int .i64 (off)))), (2, (.im (.int .i64 (w))))]) (by rfl) ?_
  simp only [tyV_mk]
  rw [fat_mk, failP_mk]
  rcases base_cases hb with h | h | h | h | h
  · obtain ⟨h, rfl, rfl, h4, h5⟩ := h
    have hk4 : (k == 4) = false := by rcases h with rfl | rfl <;> rfl
    have hk0 : (k == 0 || k == 6) = true := by rcases h with rfl | rfl <;> rfl
    rw [hk4, hk0]
    simp only [Bool.false_and, if_true, Bool.false_eq_true, if_false]
    by_cases h0 : off ≥ 0
    · rw [if_pos h0]
      simp only [tyV_mk, Option.getD_some, Option.getD_none, Option.isSome_some, Option.isSome_none]
      rcases h with rfl | rfl
      · refine wdG Y59_B8 h0 ?_
        refine Fin.gen0 (rs := [.cell 6 25, .cell 7 4]) rfl (by first | exact .inl rfl | exact .inr rfl) (finG Y59_B8) ?_
        all_goals exact wkG True.intro
      · refine wdG Y59_B8 h0 ?_
        refine Fin.gen0 (rs := [.cell 6 25, .cell 7 4]) rfl (by first | exact .inl rfl | exact .inr rfl) (finG Y59_B8) ?_
        all_goals exact wkG True.intro
    · rw [if_neg h0]
      simp only [tyV_mk, Option.getD_some, Option.getD_none, Option.isSome_some, Option.isSome_none]
      rcases h with rfl | rfl
      · refine wdG Y59_B8 h0 ?_
        refine Fin.gen0 (rs := [.cell 6 25, .cell 7 4]) rfl (by first | exact .inl rfl | exact .inr rfl) (finG Y59_B8) ?_
        all_goals exact wkG True.intro
      · refine wdG Y59_B8 h0 ?_
        refine Fin.gen0 (rs := [.cell 6 25, .cell 7 4]) rfl (by first | exact .inl rfl | exact .inr rfl) (finG Y59_B8) ?_
        all_goals exact wkG True.intro
  · obtain ⟨h, h3, rfl, h4, h5⟩ := h
    have hk4 : (k == 4) = false := by rcases h with rfl | rfl <;> rfl
    have hk0 : (k == 0 || k == 6) = false := by rcases h with rfl | rfl <;> rfl
    have hk1 : (k == 1 || k == 2 || k == 3) = true := by rcases h with rfl | rfl <;> rfl
    rw [hk4, hk0, hk1]
    simp only [Bool.false_and, if_true, Bool.false_eq_true, if_false]
    by_cases h0 : off = 0
    · by_cases h1 : w = siz (.mk o k s 0 es fs)
      · have e : (off == 0 && w == siz (.mk o k s 0 es fs)) = true := by simp [h0, h1]
        rw [e]
        simp only [tyV_mk, Option.getD_some, Option.getD_none, Option.isSome_some, Option.isSome_none, if_true]
        rcases h with rfl | rfl
        · refine wdG Y59_B8 h0 ?_
          refine AR.callP hs @tyV_mk True.intro ?_
          refine goG Y59_B8 (And.intro h0 h1) ?_
          refine wdG Y59_B8 h0 ?_
          refine Fin.gen0 (rs := [.cell 6 25, .cell 7 4]) rfl (by first | exact .inl rfl | exact .inr rfl) (finG Y59_B8) ?_
          all_goals exact wkG True.intro
        · refine wdG Y59_B8 h0 ?_
          refine AR.callP hs @tyV_mk True.intro ?_
          refine goG Y59_B8 (And.intro h0 h1) ?_
          refine wdG Y59_B8 h0 ?_
          refine Fin.gen0 (rs := [.cell 6 25, .cell 7 4]) rfl (by first | exact .inl rfl | exact .inr rfl) (finG Y59_B8) ?_
          all_goals exact wkG True.intro
      · have e : (off == 0 && w == siz (.mk o k s 0 es fs)) = false := by simp [h1]
        rw [e]
        simp only [tyV_mk, Option.getD_some, Option.getD_none, Option.isSome_some, Option.isSome_none, if_false, Bool.false_eq_true]
        rcases h with rfl | rfl
        · refine wdG Y59_B8 h0 ?_
          refine AR.callP hs @tyV_mk True.intro ?_
          refine goG Y59_B8 (And.intro h0 h1) ?_
          refine wdG Y59_B8 h0 ?_
          refine Fin.gen0 (rs := [.cell 6 25, .cell 7 4]) rfl (by first | exact .inl rfl | exact .inr rfl) (finG Y59_B8) ?_
          all_goals exact wkG True.intro
        · refine wdG Y59_B8 h0 ?_
          refine AR.callP hs @tyV_mk True.intro ?_
          refine goG Y59_B8 (And.intro h0 h1) ?_
          refine wdG Y59_B8 h0 ?_
          refine Fin.gen0 (rs := [.cell 6 25, .cell 7 4]) rfl (by first | exact .inl rfl | exact .inr rfl) (finG Y59_B8) ?_
          all_goals exact wkG True.intro
    · have e : (off == 0 && w == siz (.mk o k s 0 es fs)) = false := by simp [h0]
      rw [e]
      simp only [tyV_mk, Option.getD_some, Option.getD_none, Option.isSome_some, Option.isSome_none, if_false, Bool.false_eq_true]
      rcases h with rfl | rfl
      · refine wdG Y59_B8 h0 ?_
        refine Fin.gen0 (rs := [.cell 6 25, .cell 7 4]) rfl (by first | exact .inl rfl | exact .inr rfl) (finG Y59_B8) ?_
        all_goals exact wkG True.intro
      · refine wdG Y59_B8 h0 ?_
        refine Fin.gen0 (rs := [.cell 6 25, .cell 7 4]) rfl (by first | exact .inl rfl | exact .inr rfl) (finG Y59_B8) ?_
        all_goals exact wkG True.intro
  · obtain ⟨rfl, rfl, rfl, h4, h5⟩ := h
    simp only [Int.reduceBEq, Bool.false_and, Bool.or_true, Bool.or_false, if_true, Bool.false_eq_true, if_false]
    by_cases h0 : off = 0
    · by_cases h1 : w = siz (.mk o 3 0 0 es fs)
      · have e : (off == 0 && w == siz (.mk o 3 0 0 es fs)) = true := by simp [h0, h1]
        rw [e]
        simp only [tyV_mk, Option.getD_some, Option.getD_none, Option.isSome_some, Option.isSome_none, if_true]
        refine wdG Y59_B8 h0 ?_
        refine AR.callP hs @tyV_mk True.intro ?_
        refine goG Y59_B8 (And.intro h0 h1) ?_
        refine wdG Y59_B8 h0 ?_
        refine Fin.gen0 (rs := [.cell 6 25, .cell 7 4]) rfl (by first | exact .inl rfl | exact .inr rfl) (finG Y59_B8) ?_
        all_goals exact wkG True.intro
      · have e : (off == 0 && w == siz (.mk o 3 0 0 es fs)) = false := by simp [h1]
        rw [e]
        simp only [tyV_mk, Option.getD_some, Option.getD_none, Option.isSome_some, Option.isSome_none, if_false, Bool.false_eq_true]
        refine wdG Y59_B8 h0 ?_
        refine AR.callP hs @tyV_mk True.intro ?_
        refine goG Y59_B8 (And.intro h0 h1) ?_
        refine wdG Y59_B8 h0 ?_
        refine Fin.gen0 (rs := [.cell 6 25, .cell 7 4]) rfl (by first | exact .inl rfl | exact .inr rfl) (finG Y59_B8) ?_
        all_goals exact wkG True.intro
    · have e : (off == 0 && w == siz (.mk o 3 0 0 es fs)) = false := by simp [h0]
      rw [e]
      simp only [tyV_mk, Option.getD_some, Option.getD_none, Option.isSome_some, Option.isSome_none, if_false, Bool.false_eq_true]
      refine wdG Y59_B8 h0 ?_
      refine Fin.gen0 (rs := [.cell 6 25, .cell 7 4]) rfl (by first | exact .inl rfl | exact .inr rfl) (finG Y59_B8) ?_
      all_goals exact wkG True.intro
  · obtain ⟨rfl, rfl, hc1, hc2, h4, h5⟩ := h
    simp only [Int.reduceBEq, Bool.true_and, Bool.or_false, if_true, Bool.false_eq_true, if_false]
    obtain ⟨x, rfl⟩ := List.length_eq_one_iff.1 h4
    by_cases h0 : off < 0
    · rw [if_pos (.inl h0)]
      have e : (!decide (off < 0 ∨ siz (.mk o 4 0 c [x] fs) ≤ off)) = false := by simp [h0]
      rw [e]
      simp only [tyV_mk, Option.getD_some, Option.getD_none, Option.isSome_some, Option.isSome_none, Bool.false_eq_true, if_false]
      refine wdG Y59_B8 h0 ?_
      refine Fin.gen0 (rs := [.cell 6 25, .cell 7 4]) rfl (by first | exact .inl rfl | exact .inr rfl) (finG Y59_B8) ?_
      all_goals exact wkG True.intro
    by_cases h1 : off ≥ siz (.mk o 4 0 c [x] fs)
    · rw [if_pos (.inr h1)]
      have e : (!decide (off < 0 ∨ siz (.mk o 4 0 c [x] fs) ≤ off)) = false := by simp [h1]
      rw [e]
      simp only [tyV_mk, Option.getD_some, Option.getD_none, Option.isSome_some, Option.isSome_none, Bool.false_eq_true, if_false]
      refine wdG Y59_B8 h0 ?_
      refine AR.callP hs @tyV_mk True.intro ?_
      refine goG Y59_B8 (And.intro h0 h1) ?_
      refine wdG Y59_B8 h0 ?_
      refine Fin.gen0 (rs := [.cell 6 25, .cell 7 4]) rfl (by first | exact .inl rfl | exact .inr rfl) (finG Y59_B8) ?_
      all_goals exact wkG True.intro
    · have hn : ¬ (off < 0 ∨ siz (.mk o 4 0 c [x] fs) ≤ off) := by omega
      rw [if_neg hn]
      have e : (!decide (off < 0 ∨ siz (.mk o 4 0 c [x] fs) ≤ off)) = true := by simp [hn]
      rw [e]
      simp only [if_true]
      have hx := c_size x (hfE x (by simp)) (hes x (by simp))
      have hx0 : ¬ siz x = 0 := fun hx => by
        have : siz (.mk o 4 0 c [x] fs) = 0 := by rw [siz_mk]; simp [hx]; omega
        omega
      have hxn := siz_nonneg x (hes x (by simp))
      have hxl := siz_le x
      have hrem : off.tmod (siz x) = off % siz x := Int.tmod_eq_emod_of_nonneg (by omega)
      have hm1 := Int.emod_nonneg off (show siz x ≠ 0 from hx0)
      have hm2 := Int.emod_lt_of_pos off (show 0 < siz x by omega)
      have hr := hE x (by simp) (hfE x (by simp)) (hes x (by simp)) (off % siz x) w (by unfold I64; omega)
      refine wdG Y59_B8 h0 ?_
      refine AR.callP hs @tyV_mk True.intro ?_
      refine goG Y59_B8 (And.intro h0 h1) ?_
      refine wdG Y59_B8 (And.intro (@tyV_firm) (And.intro (@fdV_firm) (And.intro (@tyV_strip) (And.intro (@fdV_strip) (And.intro (@tyV_live) (And.intro (@tyV_size) (And.intro (@tyV_isAg) (And.intro (@tyV_cells) (And.intro (@fdV_live) (And.intro (@fdV_size) (And.intro (@fdV_isAg) (And.intro (@fdV_cells) (And.intro (@List.getElem?_map.{0, 0}) (And.intro (@Int.natCast_nonneg) h0)))))))))))))) ?_
      refine AR.callP hx @tyV_eq True.intro ?_
      refine goG Y59_B8 (And.intro (@tyV_firm) (And.intro (@fdV_firm) (And.intro (@tyV_strip) (And.intro (@fdV_strip) (And.intro (@tyV_live) (And.intro (@tyV_size) (And.intro (@tyV_isAg) (And.intro (@tyV_cells) (And.intro (@fdV_live) (And.intro (@fdV_size) (And.intro (@fdV_isAg) (And.intro (@fdV_cells) (And.intro (@List.getElem?_map.{0, 0}) (And.intro (@Int.natCast_nonneg) (And.intro hx0 hrem))))))))))))))) ?_
      refine AR.callP hr @tyV_eq True.intro ?_
      refine goG Y59_B8 (And.intro (@tyV_firm) (And.intro (@fdV_firm) (And.intro (@tyV_strip) (And.intro (@fdV_strip) (And.intro (@tyV_live) (And.intro (@tyV_size) (And.intro (@tyV_isAg) (And.intro (@tyV_cells) (And.intro (@fdV_live) (And.intro (@fdV_size) (And.intro (@fdV_isAg) (And.intro (@fdV_cells) (And.intro (@List.getElem?_map.{0, 0}) @Int.natCast_nonneg))))))))))))) ?_
      refine wdG Y59_B8 (And.intro (@tyV_firm) (And.intro (@fdV_firm) (And.intro (@tyV_strip) (And.intro (@fdV_strip) (And.intro (@tyV_live) (And.intro (@tyV_size) (And.intro (@tyV_isAg) (And.intro (@tyV_cells) (And.intro (@fdV_live) (And.intro (@fdV_size) (And.intro (@fdV_isAg) (And.intro (@fdV_cells) (And.intro (@List.getElem?_map.{0, 0}) @Int.natCast_nonneg))))))))))))) ?_
      refine Fin.gen0 (rs := [.cell 6 25, .cell 7 4]) rfl (by first | exact .inl rfl | exact .inr rfl) (finG Y59_B8) ?_
      simp only [tyV_eq]
      all_goals exact wkG True.intro
  · obtain ⟨rfl, rfl, rfl, h4⟩ := h
    simp only [Int.reduceBEq, Bool.false_and, Bool.or_false, if_true, Bool.false_eq_true, if_false]
    by_cases h0 : off < 0
    · rw [if_pos h0]
      simp only [tyV_mk, Option.getD_some, Option.getD_none, Option.isSome_some, Option.isSome_none]
      refine wdG Y59_B8 h0 ?_
      refine Fin.gen0 (rs := [.cell 6 25, .cell 7 4]) rfl (by first | exact .inl rfl | exact .inr rfl) (finG Y59_B8) ?_
      all_goals exact wkG True.intro
    rw [if_neg h0]
    refine wdG Y59_B8 h0 ?_
    have hbk := c_backF (l := fs)
    refine AR.callP hbk True.intro True.intro ?_
    refine goG Y59_B8 True.intro ?_
    refine wG Y59_B8 True.intro ?_
    refine AWp.frz 5 [(3, .pt 0 0), (4, .pt 1 0), (5, .pt 2 0), (6, .pt 3 0), (7, .pt 4 0), (64, .fn (.func gfB) [] [.ep (.sl (fs.map fdV) .ro) 0])] [.box [.im (.int .i64 5), .im (.int .i64 0), .im (.int .i64 0), .sl (es.map tyV) .ro, .sl (fs.map fdV) .ro], .box [(.im (.int .i64 (off)))], .box [(.im (.int .i64 (w)))], .box [.im (.int .i64 0), .im (.int .i64 0), .im (.int .i64 0), .sl [] .nl, .sl [] .nl], .box [.im (.bool false)]] ?_ (by simp) (by repeat (first | exact WkFA.nil | refine WkFA.cons (by first | exact .of (Wk.refl _) (by first | rfl | simp only [List.length_cons, List.length_nil, Nat.reduceAdd, V.ids, V.idsL, idsA, entOk, List.all_cons, List.all_nil, Bool.and_self, Bool.and_true, Bool.true_and, ltB, noId, Nat.reduceLT, decide_true, Bool.true_eq_false, tyV_id, fdV_id, tyL_id, fdL_id])) ?_)) (by repeat (first | exact WkFE.nil | refine WkFE.box (by repeat (first | exact WkFL.nil | refine WkFL.cons (by first | exact .of (Wk.refl _) (by first | rfl | simp only [List.length_cons, List.length_nil, Nat.reduceAdd, V.ids, V.idsL, idsA, entOk, List.all_cons, List.all_nil, Bool.and_self, Bool.and_true, Bool.true_and, ltB, noId, Nat.reduceLT, decide_true, Bool.true_eq_false, tyV_id, fdV_id, tyL_id, fdL_id])) ?_)) ?_ | refine WkFE.same (fun _ e => by cases e) ?_)) (fun i hi => by first | exact absurd rfl hi | exact Nat.lt_of_lt_of_le (ofl_lt hi) (by simp))
    obtain ⟨ff, hff⟩ : ∃ ff : Nat → Ty, ∀ i (hi : i < fs.length), fs[i] = ff i := ⟨fun i => (fs[i]?).getD (.mk 0 0 0 0 [] []), fun i hi => by simp [hi]⟩
    refine AWp.backward (es := fs.map fdV) (k := .ro) (by simp only [St.ev, getD_dn, look_cons, Nat.reduceLT, Nat.reduceEqDiff, if_true, if_false]) (allZ_fd fs) (fun x hx => by obtain ⟨y, _, rfl⟩ := List.mem_map.1 hx; exact fdV_isAg y) (by simp; omega) (by first | rfl | simp [entOk, V.idsL, V.ids, tyL_id, fdL_id]) (by first | rfl | simp [idsA, ltB, V.ids, V.idsL, fdL_id]) (noIter rfl)
      (fun i => ∀ h : i < fs.length, fat (fs[i]) (off - fs[i].off) w = none) (fun i l3 => ∃ x, (∀ h : i < fs.length, fat (fs[i]) (off - fs[i].off) w = some x) ∧ l3 = [.box [.im (.int .i64 5), .im (.int .i64 0), .im (.int .i64 0), .sl (es.map tyV) .ro, .sl (fs.map fdV) .ro], .box [(.im (.int .i64 (off)))], .box [(.im (.int .i64 (w)))], .box [.im (.int .i64 x.kind), .im (.int .i64 x.size), .im (.int .i64 x.count), .sl (x.elem.map tyV) .ro, .sl (x.fields.map fdV) .ro], .box [.im (.bool true)]])
      (fun i => [(3, .pt 0 0), (4, .pt 1 0), (5, .pt 2 0), (6, .pt 3 0), (7, .pt 4 0), (9, .pt 5 0), (64, .fn (.func gfB) [] [.ep (.sl (fs.map fdV) .ro) 0]), (65, .im (.int .i64 i)), (66, fdV (ff i))])
      (fun i => [.box [.im (.int .i64 5), .im (.int .i64 0), .im (.int .i64 0), .sl (es.map tyV) .ro, .sl (fs.map fdV) .ro], .box [(.im (.int .i64 (off)))], .box [(.im (.int .i64 (w)))], .box [.im (.int .i64 0), .im (.int .i64 0), .im (.int .i64 0), .sl [] .nl, .sl [] .nl], .box [.im (.bool false)], .box [.im (.int .i64 (ff i).off), .im (.int .i64 (ff i).kind), .im (.int .i64 (ff i).size), .im (.int .i64 (ff i).count), .sl ((ff i).elem.map tyV) .ro, .sl ((ff i).fields.map fdV) .ro]]) (fun i => rfl) (fun i => noIter rfl) ?_ ?_ ?_ ?_
    · intro i hi
      have hi' : i < fs.length := by simpa using hi
      simp only [List.getElem_map, hff i hi', fdV_eq]
      refine wG Y59_B8 True.intro ?_

      exact ⟨rfl, rfl⟩
    · intro i hi
      have hi' : i < fs.length := by simpa using hi
      have hf1 := hF fs[i] (List.getElem_mem hi') (hfF _ (List.getElem_mem hi')) (hfs _ (List.getElem_mem hi'))
      have ho1 := fok_off hi' (hof i hi')
      rw [hff i hi'] at hf1 ho1
      have hofI : I64 (off - (ff i).off) := by unfold I64 at hoff ⊢; omega
      have hf1 := hf1 (off - (ff i).off) w hofI
      have hw := wrap_in hofI
      refine wG Y59_B8 hw ?_
      cases hfat : fat (ff i) (off - (ff i).off) w with
      | none =>
        rw [hfat] at hf1
        simp only [tyV_mk, Option.getD_some, Option.getD_none, Option.isSome_some, Option.isSome_none] at hf1
        refine AR.callP hf1 @tyV_eq True.intro ?_
        refine goG Y59_B8 (And.intro hw (And.intro (@tyV_firm) (And.intro (@fdV_firm) (And.intro (@tyV_strip) (And.intro (@fdV_strip) (And.intro (@tyV_live) (And.intro (@tyV_size) (And.intro (@tyV_isAg) (And.intro (@tyV_cells) (And.intro (@fdV_live) (And.intro (@fdV_size) (And.intro (@fdV_isAg) (And.intro (@fdV_cells) (And.intro (@List.getElem?_map.{0, 0}) @Int.natCast_nonneg)))))))))))))) ?_
        refine wG Y59_B8 (And.intro (@tyV_firm) (And.intro (@fdV_firm) (And.intro (@tyV_strip) (And.intro (@fdV_strip) (And.intro (@tyV_live) (And.intro (@tyV_size) (And.intro (@tyV_isAg) (And.intro (@tyV_cells) (And.intro (@fdV_live) (And.intro (@fdV_size) (And.intro (@fdV_isAg) (And.intro (@fdV_cells) (And.intro (@List.getElem?_map.{0, 0}) @Int.natCast_nonneg))))))))))))) ?_
        exact .inl ⟨rfl, fun h => by rw [hff i hi']; exact hfat, _, rfl, rfl⟩
      | some x =>
        rw [hfat] at hf1
        simp only [tyV_mk, Option.getD_some, Option.getD_none, Option.isSome_some, Option.isSome_none] at hf1
        refine AR.callP hf1 @tyV_eq True.intro ?_
        refine goG Y59_B8 (And.intro hw (And.intro (@tyV_firm) (And.intro (@fdV_firm) (And.intro (@tyV_strip) (And.intro (@fdV_strip) (And.intro (@tyV_live) (And.intro (@tyV_size) (And.intro (@tyV_isAg) (And.intro (@tyV_cells) (And.intro (@fdV_live) (And.intro (@fdV_size) (And.intro (@fdV_isAg) (And.intro (@fdV_cells) (And.intro (@List.getElem?_map.{0, 0}) @Int.natCast_nonneg)))))))))))))) ?_
        refine wG Y59_B8 (And.intro (@tyV_firm) (And.intro (@fdV_firm) (And.intro (@tyV_strip) (And.intro (@fdV_strip) (And.intro (@tyV_live) (And.intro (@tyV_size) (And.intro (@tyV_isAg) (And.intro (@tyV_cells) (And.intro (@fdV_live) (And.intro (@fdV_size) (And.intro (@fdV_isAg) (And.intro (@fdV_cells) (And.intro (@List.getElem?_map.{0, 0}) @Int.natCast_nonneg))))))))))))) ?_
        exact .inr ⟨rfl, _, _, rfl, rfl, rfl, by simp [entOk, V.idsL, V.ids, tyL_id, fdL_id], noIter rfl, x, fun h => by rw [hff i hi']; exact hfat, rfl⟩
    · intro hall
      have hn : lastSome (fs.map fun f => fat f (off - f.off) w) = none := lastSome_none fun i hi => by
        have hi' : i < fs.length := by simpa using hi
        simpa using hall i (by simpa using hi') hi'
      rw [hn]
      simp only [tyV_mk, Option.getD_some, Option.getD_none, Option.isSome_some, Option.isSome_none]
      refine wG Y59_B8 True.intro ?_
      refine Fin.gen0 (rs := [.cell 6 25, .cell 7 4]) rfl (by first | exact .inl rfl | exact .inr rfl) (finG Y59_B8) ?_
      all_goals exact wkG True.intro
    · intro i hi hj l3 hT
      obtain ⟨x, hx, rfl⟩ := hT
      have hi' : i < fs.length := by simpa using hi
      have hn : lastSome (fs.map fun f => fat f (off - f.off) w) = some x := lastSome_some (k := i) (by simpa using hi') (by simpa using hx hi') fun j h1 h2 => by
        have hj' : j < fs.length := by simpa using h1
        simpa using hj j h2 (by simpa using hj') hj'
      rw [hn]
      simp only [tyV_mk, Option.getD_some, Option.getD_none, Option.isSome_some, Option.isSome_none]
      refine wG Y59_B8 True.intro ?_
      refine Fin.gen0 (rs := [.cell 6 25, .cell 7 4]) rfl (by first | exact .inl rfl | exact .inr rfl) (finG Y59_B8) ?_
      simp only [tyV_eq]
      all_goals exact wkG True.intro
end Go.Proofs.YtchjncoadhigmaaGreatDoor
namespace Go.Proofs.YtchjncoadhigmaaGreatDoor
set_option linter.unusedSimpArgs false
set_option linter.unusedVariables false
set_option linter.unnecessarySimpa false
open Go.RowKit
theorem fit_at {t : Ty} (h : fit t) : fit (t.at_ 0) := by
  cases t with
  | mk o k s c es fs =>
    obtain ⟨h1, h2, h3, h4⟩ := fit_mk h
    obtain ⟨_, g2, g3, g4⟩ := fit_num h
    have e : fitB (.mk 0 k s c es fs) = _ := Ty.para_mk _ 0 k s c es fs
    show fitB (.mk 0 k s c es fs) = true
    rw [e]
    simp only [Bool.and_eq_true, decide_eq_true_eq, Ty.off, Ty.kind, Ty.size, Ty.count, Ty.elem, Ty.fields, List.all_map, List.all_eq_true]
    exact ⟨⟨⟨⟨decide_eq_true ⟨by unfold I64; omega, g2, g3, g4⟩, decide_eq_true h1⟩, decide_eq_true h2⟩, h3⟩, h4⟩
theorem fat_fit {t : Ty} {off w : Int} {x : Ty} (h : fit t) (hx : fat t off w = some x) : fit x :=
  fat_part (P := fit) (fun _ => fit_at) (fun _ _ _ _ _ _ h => ⟨(fit_mk h).2.2.1, (fit_mk h).2.2.2⟩) t off w x h hx
theorem Y34_B9 : type_of% (And.intro @F_ag_25 (And.intro @F_al_25 (And.intro @F_st_25 (@F_sz_25)))) := And.intro @F_ag_25 (And.intro @F_al_25 (And.intro @F_st_25 (@F_sz_25)))
theorem c_FieldAt (t : Ty) (hfit : fit t) (off w : Int) (hoff : I64 off) : PC Tryz.prog 34 [tyV t, (.im (.int .i64 (off))), (.im (.int .i64 (w)))] (.tu [tyV ((fieldA t off w).getD tz), (.im (.bool ((fieldA t off w).isSome)))]) := by
  have hg := c_good t hfit
  refine PC.enter 38 Tryz.func34 rfl (by decide) rfl rfl (s := [(0, tyV t), (1, (.im (.int .i64 (off)))), (2, (.im (.int .i64 (w))))]) (by rfl) ?_
  rw [tyV_eq t]
  unfold fieldA
  cases b : good t with
  | false =>
    rw [b] at hg
    simp only [Bool.false_and, Bool.false_eq_true, if_false, tyV_mk, Option.getD_some, Option.getD_none, Option.isSome_some, Option.isSome_none]
    refine wG Y34_B9 True.intro ?_
    refine AR.callP hg @tyV_eq True.intro ?_
    refine goG Y34_B9 True.intro ?_
    refine wG Y34_B9 True.intro ?_
    refine Fin.gen0 (rs := [.cell 6 25, .tmp 7]) rfl (by first | exact .inl rfl | exact .inr rfl) (finG Y34_B9) ?_
    simp only [tz, tyV_mk, List.map_nil]
    all_goals exact wkG True.intro
  | true =>
    rw [b] at hg
    have hf := c_fatP t hfit (good_frm b) off w hoff
    by_cases hw : w = 1 ∨ w = 2 ∨ w = 4
    · have e : (w == 1 || w == 2 || w == 4) = true := by rcases hw with rfl | rfl | rfl <;> rfl
      rw [e]
      simp only [Bool.and_self, if_true]
      rcases hw with rfl | rfl | rfl
      all_goals
        refine wG Y34_B9 True.intro ?_
        refine AR.callP hg @tyV_eq True.intro ?_
        refine goG Y34_B9 True.intro ?_
        refine wG Y34_B9 True.intro ?_
        refine AR.callP hf @tyV_eq True.intro ?_
        refine goG Y34_B9 (And.intro (@tyV_firm) (And.intro (@fdV_firm) (And.intro (@tyV_strip) (And.intro (@fdV_strip) (And.intro (@tyV_live) (And.intro (@tyV_size) (And.intro (@tyV_isAg) (And.intro (@tyV_cells) (And.intro (@fdV_live) (And.intro (@fdV_size) (And.intro (@fdV_isAg) (And.intro (@fdV_cells) (And.intro (@List.getElem?_map.{0, 0}) @Int.natCast_nonneg))))))))))))) ?_
        cases hfat : fat t off _ with
        | none =>
          simp only [tyV_mk, Option.getD_some, Option.getD_none, Option.isSome_some, Option.isSome_none]
          refine wG Y34_B9 (And.intro (@tyV_firm) (And.intro (@fdV_firm) (And.intro (@tyV_strip) (And.intro (@fdV_strip) (And.intro (@tyV_live) (And.intro (@tyV_size) (And.intro (@tyV_isAg) (And.intro (@tyV_cells) (And.intro (@fdV_live) (And.intro (@fdV_size) (And.intro (@fdV_isAg) (And.intro (@fdV_cells) (And.intro (@List.getElem?_map.{0, 0}) (And.intro (@Int.natCast_nonneg) (And.intro (@tyV_mk) (And.intro (@Option.getD_some.{0}) (And.intro (@Option.getD_none.{0}) (And.intro (@Option.isSome_some.{0}) @Option.isSome_none.{0})))))))))))))))))) ?_
          refine Fin.gen0 (rs := [.cell 6 25, .tmp 7]) rfl (by first | exact .inl rfl | exact .inr rfl) (finG Y34_B9) ?_
          simp only [tz, tyV_mk, List.map_nil]
          all_goals exact wkG True.intro
        | some x =>
          simp only [tyV_mk, Option.getD_some, Option.getD_none, Option.isSome_some, Option.isSome_none]
          refine wG Y34_B9 (And.intro (@tyV_firm) (And.intro (@fdV_firm) (And.intro (@tyV_strip) (And.intro (@fdV_strip) (And.intro (@tyV_live) (And.intro (@tyV_size) (And.intro (@tyV_isAg) (And.intro (@tyV_cells) (And.intro (@fdV_live) (And.intro (@fdV_size) (And.intro (@fdV_isAg) (And.intro (@fdV_cells) (And.intro (@List.getElem?_map.{0, 0}) (And.intro (@Int.natCast_nonneg) (And.intro (@tyV_mk) (And.intro (@Option.getD_some.{0}) (And.intro (@Option.getD_none.{0}) (And.intro (@Option.isSome_some.{0}) @Option.isSome_none.{0})))))))))))))))))) ?_
          have ho := c_own x (fat_fit hfit hfat)
          refine AR.callP ho @tyV_eq True.intro ?_
          refine goG Y34_B9 (And.intro (@tyV_firm) (And.intro (@fdV_firm) (And.intro (@tyV_strip) (And.intro (@fdV_strip) (And.intro (@tyV_live) (And.intro (@tyV_size) (And.intro (@tyV_isAg) (And.intro (@tyV_cells) (And.intro (@fdV_live) (And.intro (@fdV_size) (And.intro (@fdV_isAg) (And.intro (@fdV_cells) (And.intro (@List.getElem?_map.{0, 0}) @Int.natCast_nonneg))))))))))))) ?_
          refine wG Y34_B9 (And.intro (@tyV_firm) (And.intro (@fdV_firm) (And.intro (@tyV_strip) (And.intro (@fdV_strip) (And.intro (@tyV_live) (And.intro (@tyV_size) (And.intro (@tyV_isAg) (And.intro (@tyV_cells) (And.intro (@fdV_live) (And.intro (@fdV_size) (And.intro (@fdV_isAg) (And.intro (@fdV_cells) (And.intro (@List.getElem?_map.{0, 0}) @Int.natCast_nonneg))))))))))))) ?_
          refine Fin.gen0 (rs := [.cell 6 25, .tmp 7]) rfl (by first | exact .inl rfl | exact .inr rfl) (finG Y34_B9) ?_
          simp only [tyV_eq]
          all_goals exact wkG True.intro
    · have e : (w == 1 || w == 2 || w == 4) = false := by simp; omega
      rw [e]
      simp only [Bool.and_false, Bool.false_eq_true, if_false, tyV_mk, Option.getD_some, Option.getD_none, Option.isSome_some, Option.isSome_none]
      have h1 : ¬ w = 1 := by omega
      have h2 : ¬ w = 2 := by omega
      have h4 : ¬ w = 4 := by omega
      refine wG Y34_B9 True.intro ?_
      refine AR.callP hg @tyV_eq True.intro ?_
      refine goG Y34_B9 (And.intro h1 (And.intro h2 h4)) ?_
      refine wG Y34_B9 (And.intro h1 (And.intro h2 h4)) ?_
      refine Fin.gen0 (rs := [.cell 6 25, .tmp 7]) rfl (by first | exact .inl rfl | exact .inr rfl) (finG Y34_B9) ?_
      simp only [tz, tyV_mk, List.map_nil]
      all_goals exact wkG True.intro
end Go.Proofs.YtchjncoadhigmaaGreatDoor
