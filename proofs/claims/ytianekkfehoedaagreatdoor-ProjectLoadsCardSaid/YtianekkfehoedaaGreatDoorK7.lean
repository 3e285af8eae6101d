/- Walks: copies of lists of entries; the list after Put. Walks: the list after Put. Walks: a change of a project; New, usable. Walks: Put, Remove. Walks: Get, All, Undo, Redo. -/
import Derived.Test.YtianekkfehoedaaGreatDoorHv
import Derived.Test.YtianekkfehoedaaGreatDoorK6
import Derived.Test.YtianekkfehoedaaGreatDoorK4
namespace Go.Proofs.YtianekkfehoedaaGreatDoor
set_option linter.unusedSimpArgs false
set_option linter.unusedVariables false
set_option linter.unnecessarySimpa false
open Go.RowKit
theorem flE_id (p : Nat → Bool) (l : List En) : V.idsL p (flatV (l.map enV)) = true := by
  rw [imL_fl]
  exact idsL_map (fun _ => rfl) _
theorem flE_ren (g : Nat → Nat) (l : List En) : V.renL g (flatV (l.map enV)) = flatV (l.map enV) := V.renL_id g _ (flE_id _ l)
theorem flE_len (l : List En) : (flatV (l.map enV)).length = l.length * 4 := by rw [flatV_length (enL_all l), List.length_map]
/-- An element is written. -/
theorem flE_set (l : List En) (i : Nat) (hi : i < l.length) (e : En) : List.take (i * 4) (flatV (l.map enV)) ++ (enV e).cells ++ List.drop (i * 4 + 4) (flatV (l.map enV)) = flatV ((l.set i e).map enV) := by
  rw [imL_fl, imL_fl, ← List.map_take, ← List.map_drop, imL_take _ _ (by omega), show i * 4 + 4 = (i + 1) * 4 by omega, imL_drop _ _ (by omega), List.set_eq_take_append_cons_drop, if_pos hi, imL_app, List.map_append, List.append_assoc]
  rfl
theorem Y34_Z6 : type_of% (And.intro @F_al_46 (And.intro @F_by_46 (And.intro @F_el_28 (@F_sz_46)))) := And.intro @F_al_46 (And.intro @F_by_46 (And.intro @F_el_28 (@F_sz_46)))
theorem I1_Z6 : type_of% (And.intro enV_id (And.intro enL_id (And.intro byL_id (And.intro lsV_id (And.intro lsL_id (And.intro (@tyV_id) flE_id)))))) := (And.intro enV_id (And.intro enL_id (And.intro byL_id (And.intro lsV_id (And.intro lsL_id (And.intro (@tyV_id) flE_id))))))
theorem c_clN : PC Tryz.prog 34 [.sl [] .nz] (.sl [] .nl) := by
  refine PC.enter 8 Tryz.func34 rfl (by decide) rfl rfl (s := [(0, .sl [] .nz)]) (by rfl) ?_
  refine wG Y34_Z6 True.intro ?_
  refine Fin.gen0 (rs := [.tmp 2]) rfl (by first | exact .inl rfl | exact .inr rfl) (finG Y34_Z6) ?_
  skip
  all_goals exact wkG I1_Z6
theorem c_clB {l : List En} (hne : 0 < l.length) (hl : l.length * 40 ≤ 140737488355328) : DC Tryz.prog 34 [.sl (l.map enV) .nn] [.free] (.bs 0 l.length) [.box (flatV (l.map enV))] := by
  refine DC.enterN 1 8 Tryz.func34 rfl (by decide) rfl rfl (s := [(0, .sl (l.map enV) .nn)]) (by rfl) ?_
  refine wG Y34_Z6 True.intro ?_
  refine AWp.region ?_
  refine AR.one rfl (by simp only [↓accU_f, ↓reduceIte, SA, SB, SC, SD, Y34_Z6, valG, fpsG, evO, evB, evA, evA1, nilK, eqF, eqC, apOk, intOf, slB, slK,  gd, St.ev, putA, ofl, wrl, putE, V.ofVal, V.ofCell, bin2, un1, seg, fillV, partsOk, Value.oneCell', Nat.reduceBEq, Nat.reduceLT, Nat.reduceSub, Nat.reduceAdd, Nat.reduceMul, Nat.reduceLeDiff, Nat.reduceEqDiff, reduceCtorEq, Int.reduceLT, Int.reduceLE, Int.reduceEq, Int.reduceNe, Int.reduceBEq, Int.reduceBNe, Int.reduceAdd, Int.reduceSub, Int.reduceMul, Int.reduceToNat]; with_reducible exact rfl) (by simp only [↓accU_f, ↓reduceIte, SA, SB, SC, SD, Y34_Z6, valG, fpsG, evO, evB, evA, evA1, nilK, eqF, eqC, apOk, intOf, slB, slK,  gd, St.ev, putA, ofl, wrl, putE, V.ofVal, V.ofCell, bin2, un1, seg, fillV, partsOk, Value.oneCell', Nat.reduceBEq, Nat.reduceLT, Nat.reduceSub, Nat.reduceAdd, Nat.reduceMul, Nat.reduceLeDiff, Nat.reduceEqDiff, reduceCtorEq, Int.reduceLT, Int.reduceLE, Int.reduceEq, Int.reduceNe, Int.reduceBEq, Int.reduceBNe, Int.reduceAdd, Int.reduceSub, Int.reduceMul, Int.reduceToNat]; with_reducible exact rfl) (by simp only [↓accU_f, ↓reduceIte, SA, SB, SC, SD, Y34_Z6, valG, fpsG, evO, evB, evA, evA1, nilK, eqF, eqC, apOk, intOf, slB, slK,  gd, St.ev, putA, ofl, wrl, putE, V.ofVal, V.ofCell, bin2, un1, seg, fillV, partsOk, Value.oneCell', Nat.reduceBEq, Nat.reduceLT, Nat.reduceSub, Nat.reduceAdd, Nat.reduceMul, Nat.reduceLeDiff, Nat.reduceEqDiff, reduceCtorEq, Int.reduceLT, Int.reduceLE, Int.reduceEq, Int.reduceNe, Int.reduceBEq, Int.reduceBNe, Int.reduceAdd, Int.reduceSub, Int.reduceMul, Int.reduceToNat]; with_reducible exact rfl) ?_
  refine AR.one rfl (by simp only [↓accU_f, ↓reduceIte, SA, SB, SC, SD, Y34_Z6, valG, fpsG, evO, evB, evA, evA1, nilK, eqF, eqC, apOk, intOf, slB, slK,  gd, St.ev, putA, ofl, wrl, putE, V.ofVal, V.ofCell, bin2, un1, seg, fillV, partsOk, Value.oneCell', Nat.reduceBEq, Nat.reduceLT, Nat.reduceSub, Nat.reduceAdd, Nat.reduceMul, Nat.reduceLeDiff, Nat.reduceEqDiff, reduceCtorEq, Int.reduceLT, Int.reduceLE, Int.reduceEq, Int.reduceNe, Int.reduceBEq, Int.reduceBNe, Int.reduceAdd, Int.reduceSub, Int.reduceMul, Int.reduceToNat]; with_reducible exact rfl) (by simp only [↓accU_f, ↓reduceIte, SA, SB, SC, SD, Y34_Z6, valG, fpsG, evO, evB, evA, evA1, nilK, eqF, eqC, apOk, intOf, slB, slK,  gd, St.ev, putA, ofl, wrl, putE, V.ofVal, V.ofCell, bin2, un1, seg, fillV, partsOk, Value.oneCell', Nat.reduceBEq, Nat.reduceLT, Nat.reduceSub, Nat.reduceAdd, Nat.reduceMul, Nat.reduceLeDiff, Nat.reduceEqDiff, reduceCtorEq, Int.reduceLT, Int.reduceLE, Int.reduceEq, Int.reduceNe, Int.reduceBEq, Int.reduceBNe, Int.reduceAdd, Int.reduceSub, Int.reduceMul, Int.reduceToNat]; with_reducible exact rfl) (by simp only [↓accU_f, ↓reduceIte, SA, SB, SC, SD, Y34_Z6, valG, fpsG, evO, evB, evA, evA1, nilK, eqF, eqC, apOk, intOf, slB, slK,  gd, St.ev, putA, ofl, wrl, putE, V.ofVal, V.ofCell, bin2, un1, seg, fillV, partsOk, Value.oneCell', Nat.reduceBEq, Nat.reduceLT, Nat.reduceSub, Nat.reduceAdd, Nat.reduceMul, Nat.reduceLeDiff, Nat.reduceEqDiff, reduceCtorEq, Int.reduceLT, Int.reduceLE, Int.reduceEq, Int.reduceNe, Int.reduceBEq, Int.reduceBNe, Int.reduceAdd, Int.reduceSub, Int.reduceMul, Int.reduceToNat]; with_reducible exact rfl) ?_
  refine AR.appB (z := 4) rfl (by simp only [↓accU_f, ↓reduceIte, SA, SB, SC, SD, Y34_Z6, valG, fpsG, evO, evB, evA, evA1, nilK, eqF, eqC, apOk, intOf, slB, slK,  gd, St.ev, putA, ofl, wrl, putE, V.ofVal, V.ofCell, bin2, un1, seg, fillV, partsOk, Value.oneCell', Nat.reduceBEq, Nat.reduceLT, Nat.reduceSub, Nat.reduceAdd, Nat.reduceMul, Nat.reduceLeDiff, Nat.reduceEqDiff, reduceCtorEq, Int.reduceLT, Int.reduceLE, Int.reduceEq, Int.reduceNe, Int.reduceBEq, Int.reduceBNe, Int.reduceAdd, Int.reduceSub, Int.reduceMul, Int.reduceToNat, hl, enL_all, Nat.zero_add]) (by simp only [↓accU_f, ↓reduceIte, SA, SB, SC, SD, Y34_Z6, valG, fpsG, evO, evB, evA, evA1, nilK, eqF, eqC, apOk, intOf, slB, slK,  gd, St.ev, putA, ofl, wrl, putE, V.ofVal, V.ofCell, bin2, un1, seg, fillV, partsOk, Value.oneCell', Nat.reduceBEq, Nat.reduceLT, Nat.reduceSub, Nat.reduceAdd, Nat.reduceMul, Nat.reduceLeDiff, Nat.reduceEqDiff, reduceCtorEq, Int.reduceLT, Int.reduceLE, Int.reduceEq, Int.reduceNe, Int.reduceBEq, Int.reduceBNe, Int.reduceAdd, Int.reduceSub, Int.reduceMul, Int.reduceToNat, hl, enL_all, Nat.zero_add]; with_reducible exact rfl) (by simp only [↓accU_f, ↓reduceIte, SA, SB, SC, SD, Y34_Z6, valG, fpsG, evO, evB, evA, evA1, nilK, eqF, eqC, apOk, intOf, slB, slK,  gd, St.ev, putA, ofl, wrl, putE, V.ofVal, V.ofCell, bin2, un1, seg, fillV, partsOk, Value.oneCell', Nat.reduceBEq, Nat.reduceLT, Nat.reduceSub, Nat.reduceAdd, Nat.reduceMul, Nat.reduceLeDiff, Nat.reduceEqDiff, reduceCtorEq, Int.reduceLT, Int.reduceLE, Int.reduceEq, Int.reduceNe, Int.reduceBEq, Int.reduceBNe, Int.reduceAdd, Int.reduceSub, Int.reduceMul, Int.reduceToNat, hl, enL_all, Nat.zero_add]; with_reducible exact rfl) (by simp only [↓accU_f, ↓reduceIte, SA, SB, SC, SD, Y34_Z6, valG, fpsG, evO, evB, evA, evA1, nilK, eqF, eqC, apOk, intOf, slB, slK,  gd, St.ev, putA, ofl, wrl, putE, V.ofVal, V.ofCell, bin2, un1, seg, fillV, partsOk, Value.oneCell', Nat.reduceBEq, Nat.reduceLT, Nat.reduceSub, Nat.reduceAdd, Nat.reduceMul, Nat.reduceLeDiff, Nat.reduceEqDiff, reduceCtorEq, Int.reduceLT, Int.reduceLE, Int.reduceEq, Int.reduceNe, Int.reduceBEq, Int.reduceBNe, Int.reduceAdd, Int.reduceSub, Int.reduceMul, Int.reduceToNat, hl, enL_all, Nat.zero_add]; with_reducible exact rfl) (by simp only [↓accU_f, ↓reduceIte, SA, SB, SC, SD, Y34_Z6, valG, fpsG, evO, evB, evA, evA1, nilK, eqF, eqC, apOk, intOf, slB, slK,  gd, St.ev, putA, ofl, wrl, putE, V.ofVal, V.ofCell, bin2, un1, seg, fillV, partsOk, Value.oneCell', Nat.reduceBEq, Nat.reduceLT, Nat.reduceSub, Nat.reduceAdd, Nat.reduceMul, Nat.reduceLeDiff, Nat.reduceEqDiff, reduceCtorEq, Int.reduceLT, Int.reduceLE, Int.reduceEq, Int.reduceNe, Int.reduceBEq, Int.reduceBNe, Int.reduceAdd, Int.reduceSub, Int.reduceMul, Int.reduceToNat, hl, enL_all, Nat.zero_add]) (by simp only [List.length_map]; exact hne) (by simp only [List.length_map, ↓accU_f, ↓reduceIte, SA, SB, SC, SD, Y34_Z6, valG, fpsG, evO, evB, evA, evA1, nilK, eqF, eqC, apOk, intOf, slB, slK,  gd, St.ev, putA, ofl, wrl, putE, V.ofVal, V.ofCell, bin2, un1, seg, fillV, partsOk, Value.oneCell', Nat.reduceBEq, Nat.reduceLT, Nat.reduceSub, Nat.reduceAdd, Nat.reduceMul, Nat.reduceLeDiff, Nat.reduceEqDiff, reduceCtorEq, Int.reduceLT, Int.reduceLE, Int.reduceEq, Int.reduceNe, Int.reduceBEq, Int.reduceBNe, Int.reduceAdd, Int.reduceSub, Int.reduceMul, Int.reduceToNat, hl, enL_all, Nat.zero_add]) ?_
  refine goG Y34_Z6 @List.length_map.{0, 0} ?_
  refine wG Y34_Z6 True.intro ?_
  refine Fin.genK 1 (rs := [.tmp 2]) rfl (by first | exact .inl rfl | exact .inr rfl) (by simp only [resX, resA, ↓accU_f, ↓reduceIte, SA, SB, SC, SD, Y34_Z6, valG, fpsG, evO, evB, evA, evA1, nilK, eqF, eqC, apOk, intOf, slB, slK,  gd, St.ev, putA, ofl, wrl, putE, V.ofVal, V.ofCell, bin2, un1, seg, fillV, partsOk, Value.oneCell', Nat.reduceBEq, Nat.reduceLT, Nat.reduceSub, Nat.reduceAdd, Nat.reduceMul, Nat.reduceLeDiff, Nat.reduceEqDiff, reduceCtorEq, Int.reduceLT, Int.reduceLE, Int.reduceEq, Int.reduceNe, Int.reduceBEq, Int.reduceBNe, Int.reduceAdd, Int.reduceSub, Int.reduceMul, Int.reduceToNat]; with_reducible exact rfl) ?_ rfl (by first | rfl | simp only [List.length_cons, List.length_nil, Nat.reduceAdd, V.ids, V.idsL, idsA, entOk, List.all_cons, List.all_nil, Bool.and_self, Bool.and_true, Bool.true_and, ltB, noId, Nat.reduceLT, decide_true, Bool.true_eq_false, tyV_id, fdV_id, tyL_id, fdL_id, enV_id, enL_id, byL_id, lsV_id, lsL_id, tyV_id, flE_id])
  repeat (first | exact WkF.of (Wk.refl _) (by first | rfl | simp only [List.length_cons, List.length_nil, Nat.reduceAdd, V.ids, V.idsL, idsA, entOk, List.all_cons, List.all_nil, Bool.and_self, Bool.and_true, Bool.true_and, ltB, noId, Nat.reduceLT, decide_true, Bool.true_eq_false, tyV_id, fdV_id, tyL_id, fdL_id, enV_id, enL_id, byL_id, lsV_id, lsL_id, tyV_id, flE_id]) | exact WkF.of (Wk.ro _ _) (by first | rfl | simp only [List.length_cons, List.length_nil, Nat.reduceAdd, V.ids, V.idsL, idsA, entOk, List.all_cons, List.all_nil, Bool.and_self, Bool.and_true, Bool.true_and, ltB, noId, Nat.reduceLT, decide_true, Bool.true_eq_false, tyV_id, fdV_id, tyL_id, fdL_id, enV_id, enL_id, byL_id, lsV_id, lsL_id, tyV_id, flE_id]) | refine WkF.tu ?_ | refine WkF.ag ?_ | refine WkFL.cons ?_ ?_ | exact WkFL.nil)
theorem c_clM {l : List En} (hl : l.length * 40 ≤ 140737488355328) : DC Tryz.prog 34 [.sl (l.map enV) .nn] [.free] (.sl (l.map enV) (.mine 0)) [.tip 46 4 l.length] := by
  refine DC.enterN 1 8 Tryz.func34 rfl (by decide) rfl rfl (s := [(0, .sl (l.map enV) .nn)]) (by rfl) ?_
  refine wG Y34_Z6 True.intro ?_
  refine AWp.region ?_
  refine AR.one rfl (by simp only [↓accU_f, ↓reduceIte, SA, SB, SC, SD, Y34_Z6, valG, fpsG, evO, evB, evA, evA1, nilK, eqF, eqC, apOk, intOf, slB, slK,  gd, St.ev, putA, ofl, wrl, putE, V.ofVal, V.ofCell, bin2, un1, seg, fillV, partsOk, Value.oneCell', Nat.reduceBEq, Nat.reduceLT, Nat.reduceSub, Nat.reduceAdd, Nat.reduceMul, Nat.reduceLeDiff, Nat.reduceEqDiff, reduceCtorEq, Int.reduceLT, Int.reduceLE, Int.reduceEq, Int.reduceNe, Int.reduceBEq, Int.reduceBNe, Int.reduceAdd, Int.reduceSub, Int.reduceMul, Int.reduceToNat]; with_reducible exact rfl) (by simp only [↓accU_f, ↓reduceIte, SA, SB, SC, SD, Y34_Z6, valG, fpsG, evO, evB, evA, evA1, nilK, eqF, eqC, apOk, intOf, slB, slK,  gd, St.ev, putA, ofl, wrl, putE, V.ofVal, V.ofCell, bin2, un1, seg, fillV, partsOk, Value.oneCell', Nat.reduceBEq, Nat.reduceLT, Nat.reduceSub, Nat.reduceAdd, Nat.reduceMul, Nat.reduceLeDiff, Nat.reduceEqDiff, reduceCtorEq, Int.reduceLT, Int.reduceLE, Int.reduceEq, Int.reduceNe, Int.reduceBEq, Int.reduceBNe, Int.reduceAdd, Int.reduceSub, Int.reduceMul, Int.reduceToNat]; with_reducible exact rfl) (by simp only [↓accU_f, ↓reduceIte, SA, SB, SC, SD, Y34_Z6, valG, fpsG, evO, evB, evA, evA1, nilK, eqF, eqC, apOk, intOf, slB, slK,  gd, St.ev, putA, ofl, wrl, putE, V.ofVal, V.ofCell, bin2, un1, seg, fillV, partsOk, Value.oneCell', Nat.reduceBEq, Nat.reduceLT, Nat.reduceSub, Nat.reduceAdd, Nat.reduceMul, Nat.reduceLeDiff, Nat.reduceEqDiff, reduceCtorEq, Int.reduceLT, Int.reduceLE, Int.reduceEq, Int.reduceNe, Int.reduceBEq, Int.reduceBNe, Int.reduceAdd, Int.reduceSub, Int.reduceMul, Int.reduceToNat]; with_reducible exact rfl) ?_
  refine AR.one rfl (by simp only [↓accU_f, ↓reduceIte, SA, SB, SC, SD, Y34_Z6, valG, fpsG, evO, evB, evA, evA1, nilK, eqF, eqC, apOk, intOf, slB, slK,  gd, St.ev, putA, ofl, wrl, putE, V.ofVal, V.ofCell, bin2, un1, seg, fillV, partsOk, Value.oneCell', Nat.reduceBEq, Nat.reduceLT, Nat.reduceSub, Nat.reduceAdd, Nat.reduceMul, Nat.reduceLeDiff, Nat.reduceEqDiff, reduceCtorEq, Int.reduceLT, Int.reduceLE, Int.reduceEq, Int.reduceNe, Int.reduceBEq, Int.reduceBNe, Int.reduceAdd, Int.reduceSub, Int.reduceMul, Int.reduceToNat]; with_reducible exact rfl) (by simp only [↓accU_f, ↓reduceIte, SA, SB, SC, SD, Y34_Z6, valG, fpsG, evO, evB, evA, evA1, nilK, eqF, eqC, apOk, intOf, slB, slK,  gd, St.ev, putA, ofl, wrl, putE, V.ofVal, V.ofCell, bin2, un1, seg, fillV, partsOk, Value.oneCell', Nat.reduceBEq, Nat.reduceLT, Nat.reduceSub, Nat.reduceAdd, Nat.reduceMul, Nat.reduceLeDiff, Nat.reduceEqDiff, reduceCtorEq, Int.reduceLT, Int.reduceLE, Int.reduceEq, Int.reduceNe, Int.reduceBEq, Int.reduceBNe, Int.reduceAdd, Int.reduceSub, Int.reduceMul, Int.reduceToNat]; with_reducible exact rfl) (by simp only [↓accU_f, ↓reduceIte, SA, SB, SC, SD, Y34_Z6, valG, fpsG, evO, evB, evA, evA1, nilK, eqF, eqC, apOk, intOf, slB, slK,  gd, St.ev, putA, ofl, wrl, putE, V.ofVal, V.ofCell, bin2, un1, seg, fillV, partsOk, Value.oneCell', Nat.reduceBEq, Nat.reduceLT, Nat.reduceSub, Nat.reduceAdd, Nat.reduceMul, Nat.reduceLeDiff, Nat.reduceEqDiff, reduceCtorEq, Int.reduceLT, Int.reduceLE, Int.reduceEq, Int.reduceNe, Int.reduceBEq, Int.reduceBNe, Int.reduceAdd, Int.reduceSub, Int.reduceMul, Int.reduceToNat]; with_reducible exact rfl) ?_
  refine AR.appM (z := 4) (by simp) rfl (by simp only [↓accU_f, ↓reduceIte, SA, SB, SC, SD, Y34_Z6, valG, fpsG, evO, evB, evA, evA1, nilK, eqF, eqC, apOk, intOf, slB, slK,  gd, St.ev, putA, ofl, wrl, putE, V.ofVal, V.ofCell, bin2, un1, seg, fillV, partsOk, Value.oneCell', Nat.reduceBEq, Nat.reduceLT, Nat.reduceSub, Nat.reduceAdd, Nat.reduceMul, Nat.reduceLeDiff, Nat.reduceEqDiff, reduceCtorEq, Int.reduceLT, Int.reduceLE, Int.reduceEq, Int.reduceNe, Int.reduceBEq, Int.reduceBNe, Int.reduceAdd, Int.reduceSub, Int.reduceMul, Int.reduceToNat, hl, enL_all, Nat.zero_add]) (by simp only [↓accU_f, ↓reduceIte, SA, SB, SC, SD, Y34_Z6, valG, fpsG, evO, evB, evA, evA1, nilK, eqF, eqC, apOk, intOf, slB, slK,  gd, St.ev, putA, ofl, wrl, putE, V.ofVal, V.ofCell, bin2, un1, seg, fillV, partsOk, Value.oneCell', Nat.reduceBEq, Nat.reduceLT, Nat.reduceSub, Nat.reduceAdd, Nat.reduceMul, Nat.reduceLeDiff, Nat.reduceEqDiff, reduceCtorEq, Int.reduceLT, Int.reduceLE, Int.reduceEq, Int.reduceNe, Int.reduceBEq, Int.reduceBNe, Int.reduceAdd, Int.reduceSub, Int.reduceMul, Int.reduceToNat, hl, enL_all, Nat.zero_add]; with_reducible exact rfl) (by simp only [↓accU_f, ↓reduceIte, SA, SB, SC, SD, Y34_Z6, valG, fpsG, evO, evB, evA, evA1, nilK, eqF, eqC, apOk, intOf, slB, slK,  gd, St.ev, putA, ofl, wrl, putE, V.ofVal, V.ofCell, bin2, un1, seg, fillV, partsOk, Value.oneCell', Nat.reduceBEq, Nat.reduceLT, Nat.reduceSub, Nat.reduceAdd, Nat.reduceMul, Nat.reduceLeDiff, Nat.reduceEqDiff, reduceCtorEq, Int.reduceLT, Int.reduceLE, Int.reduceEq, Int.reduceNe, Int.reduceBEq, Int.reduceBNe, Int.reduceAdd, Int.reduceSub, Int.reduceMul, Int.reduceToNat, hl, enL_all, Nat.zero_add]; with_reducible exact rfl) (by simp only [↓accU_f, ↓reduceIte, SA, SB, SC, SD, Y34_Z6, valG, fpsG, evO, evB, evA, evA1, nilK, eqF, eqC, apOk, intOf, slB, slK,  gd, St.ev, putA, ofl, wrl, putE, V.ofVal, V.ofCell, bin2, un1, seg, fillV, partsOk, Value.oneCell', Nat.reduceBEq, Nat.reduceLT, Nat.reduceSub, Nat.reduceAdd, Nat.reduceMul, Nat.reduceLeDiff, Nat.reduceEqDiff, reduceCtorEq, Int.reduceLT, Int.reduceLE, Int.reduceEq, Int.reduceNe, Int.reduceBEq, Int.reduceBNe, Int.reduceAdd, Int.reduceSub, Int.reduceMul, Int.reduceToNat, hl, enL_all, Nat.zero_add]; with_reducible exact rfl) (by simp only [↓accU_f, ↓reduceIte, SA, SB, SC, SD, Y34_Z6, valG, fpsG, evO, evB, evA, evA1, nilK, eqF, eqC, apOk, intOf, slB, slK,  gd, St.ev, putA, ofl, wrl, putE, V.ofVal, V.ofCell, bin2, un1, seg, fillV, partsOk, Value.oneCell', Nat.reduceBEq, Nat.reduceLT, Nat.reduceSub, Nat.reduceAdd, Nat.reduceMul, Nat.reduceLeDiff, Nat.reduceEqDiff, reduceCtorEq, Int.reduceLT, Int.reduceLE, Int.reduceEq, Int.reduceNe, Int.reduceBEq, Int.reduceBNe, Int.reduceAdd, Int.reduceSub, Int.reduceMul, Int.reduceToNat, hl, enL_all, Nat.zero_add]) (by simp only [List.length_map, ↓accU_f, ↓reduceIte, SA, SB, SC, SD, Y34_Z6, valG, fpsG, evO, evB, evA, evA1, nilK, eqF, eqC, apOk, intOf, slB, slK,  gd, St.ev, putA, ofl, wrl, putE, V.ofVal, V.ofCell, bin2, un1, seg, fillV, partsOk, Value.oneCell', Nat.reduceBEq, Nat.reduceLT, Nat.reduceSub, Nat.reduceAdd, Nat.reduceMul, Nat.reduceLeDiff, Nat.reduceEqDiff, reduceCtorEq, Int.reduceLT, Int.reduceLE, Int.reduceEq, Int.reduceNe, Int.reduceBEq, Int.reduceBNe, Int.reduceAdd, Int.reduceSub, Int.reduceMul, Int.reduceToNat, hl, enL_all, Nat.zero_add]) ?_
  refine goG Y34_Z6 @List.length_map.{0, 0} ?_
  refine wG Y34_Z6 True.intro ?_
  refine Fin.genK 1 (rs := [.tmp 2]) rfl (by first | exact .inl rfl | exact .inr rfl) (by simp only [resX, resA, ↓accU_f, ↓reduceIte, SA, SB, SC, SD, Y34_Z6, valG, fpsG, evO, evB, evA, evA1, nilK, eqF, eqC, apOk, intOf, slB, slK,  gd, St.ev, putA, ofl, wrl, putE, V.ofVal, V.ofCell, bin2, un1, seg, fillV, partsOk, Value.oneCell', Nat.reduceBEq, Nat.reduceLT, Nat.reduceSub, Nat.reduceAdd, Nat.reduceMul, Nat.reduceLeDiff, Nat.reduceEqDiff, reduceCtorEq, Int.reduceLT, Int.reduceLE, Int.reduceEq, Int.reduceNe, Int.reduceBEq, Int.reduceBNe, Int.reduceAdd, Int.reduceSub, Int.reduceMul, Int.reduceToNat]; with_reducible exact rfl) ?_ rfl (by first | rfl | simp only [List.length_cons, List.length_nil, Nat.reduceAdd, V.ids, V.idsL, idsA, entOk, List.all_cons, List.all_nil, Bool.and_self, Bool.and_true, Bool.true_and, ltB, noId, Nat.reduceLT, decide_true, Bool.true_eq_false, tyV_id, fdV_id, tyL_id, fdL_id, enV_id, enL_id, byL_id, lsV_id, lsL_id, tyV_id, flE_id])
  repeat (first | exact WkF.of (Wk.refl _) (by first | rfl | simp only [List.length_cons, List.length_nil, Nat.reduceAdd, V.ids, V.idsL, idsA, entOk, List.all_cons, List.all_nil, Bool.and_self, Bool.and_true, Bool.true_and, ltB, noId, Nat.reduceLT, decide_true, Bool.true_eq_false, tyV_id, fdV_id, tyL_id, fdL_id, enV_id, enL_id, byL_id, lsV_id, lsL_id, tyV_id, flE_id]) | exact WkF.of (Wk.ro _ _) (by first | rfl | simp only [List.length_cons, List.length_nil, Nat.reduceAdd, V.ids, V.idsL, idsA, entOk, List.all_cons, List.all_nil, Bool.and_self, Bool.and_true, Bool.true_and, ltB, noId, Nat.reduceLT, decide_true, Bool.true_eq_false, tyV_id, fdV_id, tyL_id, fdL_id, enV_id, enL_id, byL_id, lsV_id, lsL_id, tyV_id, flE_id]) | refine WkF.tu ?_ | refine WkF.ag ?_ | refine WkFL.cons ?_ ?_ | exact WkFL.nil)
theorem Y52_Z6 : type_of% (And.intro @F_al_46 (And.intro @F_by_46 (And.intro @F_el_28 (And.intro @F_sz_46 (@F_un_28))))) := And.intro @F_al_46 (And.intro @F_by_46 (And.intro @F_el_28 (And.intro @F_sz_46 (@F_un_28))))
theorem c_ins0N (e : En) : PC Tryz.prog 52 [.sl [] .nl, (.im (.int .i64 (0))), .sl [enV e] .ro] (.sl [enV e] .ro) := by
  refine PC.enter 95 Tryz.func52 rfl (by decide) rfl rfl (s := [(0, .sl [] .nl), (1, (.im (.int .i64 (0)))), (2, .sl [enV e] .ro)]) (by rfl) ?_
  refine wG Y52_Z6 (And.intro ENT GDS) ?_
  refine Fin.gen0 (rs := [.tmp 6]) rfl (by first | exact .inl rfl | exact .inr rfl) (finG Y52_Z6) ?_
  skip
  all_goals exact wkG I1_Z6
theorem c_ins0M (e : En) : DC Tryz.prog 52 [.sl [] (.mine 0), (.im (.int .i64 (0))), .sl [enV e] .full] [.tip 46 4 0] (.sl [enV e] .ro) [.tip 46 4 1] := by
  refine DC.enter 95 Tryz.func52 rfl (by decide) rfl rfl (s := [(0, .sl [] (.mine 0)), (1, (.im (.int .i64 (0)))), (2, .sl [enV e] .full)]) (by rfl) ?_
  refine wG Y52_Z6 (And.intro ENT GDS) ?_
  refine Fin.gen (rs := [.tmp 6]) rfl (by first | exact .inl rfl | exact .inr rfl) (finG Y52_Z6) ?_ rfl (idG I1_Z6)
  skip
  all_goals exact wkG I1_Z6
end Go.Proofs.YtianekkfehoedaaGreatDoor
namespace Go.Proofs.YtianekkfehoedaaGreatDoor
set_option linter.unusedSimpArgs false
set_option linter.unusedVariables false
set_option linter.unnecessarySimpa false
open Go.RowKit
theorem eE2 {l : List En} {e : En} (h : vkeyB e = false) : eErr l e = 2 := by unfold eErr; rw [if_pos h]
theorem eE3 {l : List En} {e : En} (h : vkeyB e = true) (h2 : vtextB e = false) : eErr l e = 3 := by unfold eErr; rw [h, h2]; rfl
theorem eE8 {l : List En} {e : En} (h : vkeyB e = true) (h2 : vtextB e = true) (h3 : takenB l e = true) : eErr l e = 8 := by unfold eErr; rw [h, h2, h3]; rfl
theorem eE6 {l : List En} {e : En} (h : vkeyB e = true) (h2 : vtextB e = true) (h3 : takenB l e = false) (h4 : hasE l e = false) (h5 : 1024 ≤ l.length) : eErr l e = 6 := by unfold eErr; rw [h, h2, h3, h4]; simp [h5]
theorem eE0 {l : List En} {e : En} (h : vkeyB e = true) (h2 : vtextB e = true) (h3 : takenB l e = false) (h4 : hasE l e = true ∨ ¬ 1024 ≤ l.length) : eErr l e = 0 := by
  rw [eErr_zero]; exact ⟨h, h2, h3, h4.imp id (fun h => by omega)⟩
theorem Y26_Z7 : type_of% (And.intro @F_ag_46 (And.intro @F_al_46 (And.intro @F_el_28 (@F_sz_46)))) := And.intro @F_ag_46 (And.intro @F_al_46 (And.intro @F_el_28 (@F_sz_46)))
theorem I1_Z7 : type_of% (And.intro enV_id (And.intro enL_id (And.intro byL_id (And.intro lsV_id (And.intro lsL_id (And.intro (@tyV_id) flE_id)))))) := (And.intro enV_id (And.intro enL_id (And.intro byL_id (And.intro lsV_id (And.intro lsL_id (And.intro (@tyV_id) flE_id))))))
theorem N1_Z7 : type_of% (And.intro enV_ren (And.intro enL_ren (And.intro byL_ren (And.intro lsV_ren (And.intro lsL_ren flE_ren))))) := (And.intro enV_ren (And.intro enL_ren (And.intro byL_ren (And.intro lsV_ren (And.intro lsL_ren flE_ren)))))
theorem c_withC (l : List En) (e : En) (h0 : 0 < l.length) (h : AscE l) (hl : l.length ≤ 1024) (ht : e.text.length ≤ 140737488355328) : PC Tryz.prog 26 [.sl (l.map enV) .ro, enV e] (.tu [.sl ((if eErr l e = 0 then eWith l e else []).map enV) .ro, (.im (.int .i64 (eErr l e)))]) := by
  have q1 := c_vkey e
  have q2 := c_vtext e ht
  have q3 := c_taken l e (by omega)
  have q4 := c_search l e h (by omega)
  refine PC.enter 41 Tryz.func26 rfl (by decide) rfl rfl (s := [(0, .sl (l.map enV) .ro), (1, enV e)]) (by rfl) ?_
  simp only [enV_eq e]
  refine wG Y26_Z7 True.intro ?_
  refine AR.callP q1 enV_eq I1_Z7 ?_
  cases h1 : vkeyB e with
  | false =>
    rw [eE2 h1, if_neg (by decide)]
    refine goG Y26_Z7 True.intro ?_
    refine wG Y26_Z7 True.intro ?_
    refine Fin.gen0 (rs := [.tmp 4, .tmp 5]) rfl (by first | exact .inl rfl | exact .inr rfl) (finG Y26_Z7) ?_
    skip
    all_goals exact wkG I1_Z7
  | true =>
  refine goG Y26_Z7 True.intro ?_
  refine wG Y26_Z7 True.intro ?_
  refine AR.callP q2 enV_eq I1_Z7 ?_
  cases h2 : vtextB e with
  | false =>
    rw [eE3 h1 h2, if_neg (by decide)]
    refine goG Y26_Z7 True.intro ?_
    refine wG Y26_Z7 True.intro ?_
    refine Fin.gen0 (rs := [.tmp 4, .tmp 5]) rfl (by first | exact .inl rfl | exact .inr rfl) (finG Y26_Z7) ?_
    skip
    all_goals exact wkG I1_Z7
  | true =>
  refine goG Y26_Z7 True.intro ?_
  refine wG Y26_Z7 True.intro ?_
  refine AR.callP q3 enV_eq I1_Z7 ?_
  cases h3 : takenB l e with
  | true =>
    rw [eE8 h1 h2 h3, if_neg (by decide)]
    refine goG Y26_Z7 True.intro ?_
    refine wG Y26_Z7 True.intro ?_
    refine Fin.gen0 (rs := [.tmp 4, .tmp 5]) rfl (by first | exact .inl rfl | exact .inr rfl) (finG Y26_Z7) ?_
    skip
    all_goals exact wkG I1_Z7
  | false =>
  refine goG Y26_Z7 True.intro ?_
  refine wG Y26_Z7 True.intro ?_
  refine AR.callP q4 enV_eq I1_Z7 ?_
  cases h4 : hasE l e with
  | true =>
    obtain ⟨hp, _⟩ := hasE_pos h h4
    have hE : eErr l e = 0 := eE0 h1 h2 h3 (.inl h4)
    have hW : eWith l e = l.set (posE l e) e := by unfold eWith; rw [if_pos h4]; rfl
    rw [hE, if_pos rfl, hW]
    have qc := c_clB h0 (by omega)
    have hset : List.take (posE l e * 4) (flatV (l.map enV)) ++ [(.im (.int .i64 (e.kind))), (.im (.int .i64 (e.var))), (.im (.int .u32 (e.addr))), (.im (.string (bA (e.text))))] ++ List.drop (posE l e * 4 + 4) (flatV (l.map enV)) = flatV ((l.set (posE l e) e).map enV) := flE_set l _ hp e
    have hpi : ((posE l e : Nat) : Int) < (l.length : Int) := by omega
    have hfit : posE l e * 4 + 4 ≤ (flatV (l.map enV)).length := by rw [flE_len]; omega
    have hln : l.length = (l.set (posE l e) e).length := List.length_set.symm
    generalize l.set (posE l e) e = M at hset hln ⊢
    generalize posE l e = p at hset hpi hfit
    refine goG Y26_Z7 True.intro ?_
    refine wG Y26_Z7 True.intro ?_
    refine AR.callS [1] qc rfl rfl (by first | (simp only [SR, enV_ren, enL_ren, byL_ren, lsV_ren, lsL_ren, flE_ren]; done) | (simp only [SR, enV_ren, enL_ren, byL_ren, lsV_ren, lsL_ren, flE_ren]; with_reducible exact rfl)) (by first | (simp only [SR, enV_ren, enL_ren, byL_ren, lsV_ren, lsL_ren, flE_ren]; done) | (simp only [SR, enV_ren, enL_ren, byL_ren, lsV_ren, lsL_ren, flE_ren]; with_reducible exact rfl)) (WkL.cons (Wk.nn (by simpa using h0)) .nil) (by first | rfl | simp only [List.length_cons, List.length_nil, Nat.reduceAdd, V.ids, V.idsL, idsA, entOk, List.all_cons, List.all_nil, Bool.and_self, Bool.and_true, Bool.true_and, ltB, noId, Nat.reduceLT, decide_true, Bool.true_eq_false, tyV_id, fdV_id, tyL_id, fdL_id, enV_id, enL_id, byL_id, lsV_id, lsL_id, tyV_id, flE_id]) rfl rfl rfl (by first | rfl | simp only [List.length_cons, List.length_nil, Nat.reduceAdd, V.ids, V.idsL, idsA, entOk, List.all_cons, List.all_nil, Bool.and_self, Bool.and_true, Bool.true_and, ltB, noId, Nat.reduceLT, decide_true, Bool.true_eq_false, tyV_id, fdV_id, tyL_id, fdL_id, enV_id, enL_id, byL_id, lsV_id, lsL_id, tyV_id, flE_id]) (by intro p hp; simp only [renE, SR, Ent.ren, List.mem_cons, List.not_mem_nil, or_false, enV_ren, enL_ren, byL_ren, lsV_ren, lsL_ren, flE_ren] at hp; rcases hp with rfl <;> rfl) (by simp only [renE, Ent.ren, SR, enV_ren, enL_ren, byL_ren, lsV_ren, lsL_ren, flE_ren, wrl, putE, SC, SD, Nat.reduceBEq, Nat.reduceLT, Nat.reduceSub, Nat.reduceAdd, Nat.reduceMul, Nat.reduceLeDiff, Nat.reduceEqDiff, reduceCtorEq, Int.reduceLT, Int.reduceLE, Int.reduceEq, Int.reduceNe, Int.reduceBEq, Int.reduceBNe, Int.reduceAdd, Int.reduceSub, Int.reduceMul, Int.reduceToNat]; with_reducible exact rfl) ?_
    refine goG Y26_Z7 True.intro ?_
    refine wG Y26_Z7 (And.intro (@Int.natCast_nonneg) (And.intro hpi (And.intro hfit hset))) ?_
    rw [hln]
    refine Fin.gen0 (rs := [.tmp 4, .tmp 5]) rfl (by first | exact .inl rfl | exact .inr rfl) (by simp only [resX, resA, ↓accU_f, ↓reduceIte, SA, SB, SC, SD, Y26_Z7, valG, fpsG, evO, evB, evA, evA1, nilK, eqF, eqC, apOk, intOf, slB, slK,  gd, St.ev, putA, ofl, wrl, putE, V.ofVal, V.ofCell, bin2, un1, seg, fillV, partsOk, Value.oneCell', Nat.reduceBEq, Nat.reduceLT, Nat.reduceSub, Nat.reduceAdd, Nat.reduceMul, Nat.reduceLeDiff, Nat.reduceEqDiff, reduceCtorEq, Int.reduceLT, Int.reduceLE, Int.reduceEq, Int.reduceNe, Int.reduceBEq, Int.reduceBNe, Int.reduceAdd, Int.reduceSub, Int.reduceMul, Int.reduceToNat]; with_reducible exact rfl) ?_
    refine WkF.tu ?_
    repeat (first | exact WkF.of (Wk.refl _) (by first | rfl | simp only [List.length_cons, List.length_nil, Nat.reduceAdd, V.ids, V.idsL, idsA, entOk, List.all_cons, List.all_nil, Bool.and_self, Bool.and_true, Bool.true_and, ltB, noId, Nat.reduceLT, decide_true, Bool.true_eq_false, tyV_id, fdV_id, tyL_id, fdL_id, enV_id, enL_id, byL_id, lsV_id, lsL_id, tyV_id, flE_id]) | exact WkF.of (Wk.ro _ _) (by first | rfl | simp only [List.length_cons, List.length_nil, Nat.reduceAdd, V.ids, V.idsL, idsA, entOk, List.all_cons, List.all_nil, Bool.and_self, Bool.and_true, Bool.true_and, ltB, noId, Nat.reduceLT, decide_true, Bool.true_eq_false, tyV_id, fdV_id, tyL_id, fdL_id, enV_id, enL_id, byL_id, lsV_id, lsL_id, tyV_id, flE_id]) | refine WkF.tu ?_ | refine WkF.ag ?_ | refine WkFL.cons ?_ ?_ | exact WkFL.nil)
    · exact WkF.bs (z := 4) rfl rfl (by simp) (enL_all M) rfl (enL_id _ _)
    · exact WkFL.cons (WkF.of (Wk.refl _) rfl) WkFL.nil
  | false =>
  by_cases h5 : 1024 ≤ l.length
  · have h5' : (l.length : Int) ≥ 1024 := by omega
    rw [eE6 h1 h2 h3 h4 h5, if_neg (by decide)]
    refine goG Y26_Z7 True.intro ?_
    refine wG Y26_Z7 h5' ?_
    refine Fin.gen0 (rs := [.tmp 4, .tmp 5]) rfl (by first | exact .inl rfl | exact .inr rfl) (finG Y26_Z7) ?_
    skip
    all_goals exact wkG I1_Z7
  · have h5' : ¬ (l.length : Int) ≥ 1024 := by omega
    have hE : eErr l e = 0 := eE0 h1 h2 h3 (.inr h5)
    have hW : eWith l e = l.take (posE l e) ++ e :: l.drop (posE l e) := by unfold eWith; rw [if_neg (by rw [h4]; decide)]; rfl
    rw [hE, if_pos rfl, hW]
    have qc := c_clM (l := l) (by omega)
    have hp := posE_le l e
    generalize posE l e = p at hp ⊢
    refine goG Y26_Z7 True.intro ?_
    refine wG Y26_Z7 h5' ?_
    apply AWp.insR 1 2 p l e 46
    case hA =>
      refine goG Y26_Z7 True.intro ?_
      refine AR.callS [1] qc rfl rfl (by first | (simp only [SR, enV_ren, enL_ren, byL_ren, lsV_ren, lsL_ren, flE_ren]; done) | (simp only [SR, enV_ren, enL_ren, byL_ren, lsV_ren, lsL_ren, flE_ren]; with_reducible exact rfl)) (by first | (simp only [SR, enV_ren, enL_ren, byL_ren, lsV_ren, lsL_ren, flE_ren]; done) | (simp only [SR, enV_ren, enL_ren, byL_ren, lsV_ren, lsL_ren, flE_ren]; with_reducible exact rfl)) (WkL.cons (Wk.nn (by simpa using h0)) .nil) (by first | rfl | simp only [List.length_cons, List.length_nil, Nat.reduceAdd, V.ids, V.idsL, idsA, entOk, List.all_cons, List.all_nil, Bool.and_self, Bool.and_true, Bool.true_and, ltB, noId, Nat.reduceLT, decide_true, Bool.true_eq_false, tyV_id, fdV_id, tyL_id, fdL_id, enV_id, enL_id, byL_id, lsV_id, lsL_id, tyV_id, flE_id]) rfl rfl rfl (by first | rfl | simp only [List.length_cons, List.length_nil, Nat.reduceAdd, V.ids, V.idsL, idsA, entOk, List.all_cons, List.all_nil, Bool.and_self, Bool.and_true, Bool.true_and, ltB, noId, Nat.reduceLT, decide_true, Bool.true_eq_false, tyV_id, fdV_id, tyL_id, fdL_id, enV_id, enL_id, byL_id, lsV_id, lsL_id, tyV_id, flE_id]) (by intro p hp; simp only [renE, SR, Ent.ren, List.mem_cons, List.not_mem_nil, or_false, enV_ren, enL_ren, byL_ren, lsV_ren, lsL_ren, flE_ren] at hp; rcases hp with rfl <;> rfl) (by simp only [renE, Ent.ren, SR, enV_ren, enL_ren, byL_ren, lsV_ren, lsL_ren, flE_ren, wrl, putE, SC, SD, Nat.reduceBEq, Nat.reduceLT, Nat.reduceSub, Nat.reduceAdd, Nat.reduceMul, Nat.reduceLeDiff, Nat.reduceEqDiff, reduceCtorEq, Int.reduceLT, Int.reduceLE, Int.reduceEq, Int.reduceNe, Int.reduceBEq, Int.reduceBNe, Int.reduceAdd, Int.reduceSub, Int.reduceMul, Int.reduceToNat]; with_reducible exact rfl) ?_
      refine AR.oneD rfl (by simp only [↓accU_f, ↓reduceIte, SA, SB, SC, SD, Y26_Z7, valG, fpsG, evO, evB, evA, evA1, nilK, eqF, eqC, apOk, intOf, slB, slK,  gd, St.ev, putA, ofl, wrl, putE, V.ofVal, V.ofCell, bin2, un1, seg, fillV, partsOk, Value.oneCell', Nat.reduceBEq, Nat.reduceLT, Nat.reduceSub, Nat.reduceAdd, Nat.reduceMul, Nat.reduceLeDiff, Nat.reduceEqDiff, reduceCtorEq, Int.reduceLT, Int.reduceLE, Int.reduceEq, Int.reduceNe, Int.reduceBEq, Int.reduceBNe, Int.reduceAdd, Int.reduceSub, Int.reduceMul, Int.reduceToNat]; with_reducible exact rfl) (by simp only [↓accU_f, ↓reduceIte, SA, SB, SC, SD, Y26_Z7, valG, fpsG, evO, evB, evA, evA1, nilK, eqF, eqC, apOk, intOf, slB, slK,  gd, St.ev, putA, ofl, wrl, putE, V.ofVal, V.ofCell, bin2, un1, seg, fillV, partsOk, Value.oneCell', Nat.reduceBEq, Nat.reduceLT, Nat.reduceSub, Nat.reduceAdd, Nat.reduceMul, Nat.reduceLeDiff, Nat.reduceEqDiff, reduceCtorEq, Int.reduceLT, Int.reduceLE, Int.reduceEq, Int.reduceNe, Int.reduceBEq, Int.reduceBNe, Int.reduceAdd, Int.reduceSub, Int.reduceMul, Int.reduceToNat]; with_reducible exact rfl) (by simp only [↓accU_f, ↓reduceIte, SA, SB, SC, SD, Y26_Z7, valG, fpsG, evO, evB, evA, evA1, nilK, eqF, eqC, apOk, intOf, slB, slK,  gd, St.ev, putA, ofl, wrl, putE, V.ofVal, V.ofCell, bin2, un1, seg, fillV, partsOk, Value.oneCell', Nat.reduceBEq, Nat.reduceLT, Nat.reduceSub, Nat.reduceAdd, Nat.reduceMul, Nat.reduceLeDiff, Nat.reduceEqDiff, reduceCtorEq, Int.reduceLT, Int.reduceLE, Int.reduceEq, Int.reduceNe, Int.reduceBEq, Int.reduceBNe, Int.reduceAdd, Int.reduceSub, Int.reduceMul, Int.reduceToNat]; with_reducible exact rfl) ?_
      refine AR.oneD rfl (by simp only [↓accU_f, ↓reduceIte, SA, SB, SC, SD, Y26_Z7, valG, fpsG, evO, evB, evA, evA1, nilK, eqF, eqC, apOk, intOf, slB, slK,  gd, St.ev, putA, ofl, wrl, putE, V.ofVal, V.ofCell, bin2, un1, seg, fillV, partsOk, Value.oneCell', Nat.reduceBEq, Nat.reduceLT, Nat.reduceSub, Nat.reduceAdd, Nat.reduceMul, Nat.reduceLeDiff, Nat.reduceEqDiff, reduceCtorEq, Int.reduceLT, Int.reduceLE, Int.reduceEq, Int.reduceNe, Int.reduceBEq, Int.reduceBNe, Int.reduceAdd, Int.reduceSub, Int.reduceMul, Int.reduceToNat]; with_reducible exact rfl) (by simp only [↓accU_f, ↓reduceIte, SA, SB, SC, SD, Y26_Z7, valG, fpsG, evO, evB, evA, evA1, nilK, eqF, eqC, apOk, intOf, slB, slK,  gd, St.ev, putA, ofl, wrl, putE, V.ofVal, V.ofCell, bin2, un1, seg, fillV, partsOk, Value.oneCell', Nat.reduceBEq, Nat.reduceLT, Nat.reduceSub, Nat.reduceAdd, Nat.reduceMul, Nat.reduceLeDiff, Nat.reduceEqDiff, reduceCtorEq, Int.reduceLT, Int.reduceLE, Int.reduceEq, Int.reduceNe, Int.reduceBEq, Int.reduceBNe, Int.reduceAdd, Int.reduceSub, Int.reduceMul, Int.reduceToNat]; with_reducible exact rfl) (by simp only [↓accU_f, ↓reduceIte, SA, SB, SC, SD, Y26_Z7, valG, fpsG, evO, evB, evA, evA1, nilK, eqF, eqC, apOk, intOf, slB, slK,  gd, St.ev, putA, ofl, wrl, putE, V.ofVal, V.ofCell, bin2, un1, seg, fillV, partsOk, Value.oneCell', Nat.reduceBEq, Nat.reduceLT, Nat.reduceSub, Nat.reduceAdd, Nat.reduceMul, Nat.reduceLeDiff, Nat.reduceEqDiff, reduceCtorEq, Int.reduceLT, Int.reduceLE, Int.reduceEq, Int.reduceNe, Int.reduceBEq, Int.reduceBNe, Int.reduceAdd, Int.reduceSub, Int.reduceMul, Int.reduceToNat]; with_reducible exact rfl) ?_
      refine AR.buildB (z := 4) rfl (by first | (simp only [↓accU_f, ↓reduceIte, SA, SB, SC, SD, Y26_Z7, valG, fpsG, evO, evB, evA, evA1, nilK, eqF, eqC, apOk, intOf, slB, slK,  gd, St.ev, putA, ofl, wrl, putE, V.ofVal, V.ofCell, bin2, un1, seg, fillV, partsOk, Value.oneCell', Nat.reduceBEq, Nat.reduceLT, Nat.reduceSub, Nat.reduceAdd, Nat.reduceMul, Nat.reduceLeDiff, Nat.reduceEqDiff, reduceCtorEq, Int.reduceLT, Int.reduceLE, Int.reduceEq, Int.reduceNe, Int.reduceBEq, Int.reduceBNe, Int.reduceAdd, Int.reduceSub, Int.reduceMul, Int.reduceToNat]; done) | (simp only [↓accU_f, ↓reduceIte, SA, SB, SC, SD, Y26_Z7, valG, fpsG, evO, evB, evA, evA1, nilK, eqF, eqC, apOk, intOf, slB, slK,  gd, St.ev, putA, ofl, wrl, putE, V.ofVal, V.ofCell, bin2, un1, seg, fillV, partsOk, Value.oneCell', Nat.reduceBEq, Nat.reduceLT, Nat.reduceSub, Nat.reduceAdd, Nat.reduceMul, Nat.reduceLeDiff, Nat.reduceEqDiff, reduceCtorEq, Int.reduceLT, Int.reduceLE, Int.reduceEq, Int.reduceNe, Int.reduceBEq, Int.reduceBNe, Int.reduceAdd, Int.reduceSub, Int.reduceMul, Int.reduceToNat]; with_reducible exact rfl)) (by first | (simp only [↓accU_f, ↓reduceIte, SA, SB, SC, SD, Y26_Z7, valG, fpsG, evO, evB, evA, evA1, nilK, eqF, eqC, apOk, intOf, slB, slK,  gd, St.ev, putA, ofl, wrl, putE, V.ofVal, V.ofCell, bin2, un1, seg, fillV, partsOk, Value.oneCell', Nat.reduceBEq, Nat.reduceLT, Nat.reduceSub, Nat.reduceAdd, Nat.reduceMul, Nat.reduceLeDiff, Nat.reduceEqDiff, reduceCtorEq, Int.reduceLT, Int.reduceLE, Int.reduceEq, Int.reduceNe, Int.reduceBEq, Int.reduceBNe, Int.reduceAdd, Int.reduceSub, Int.reduceMul, Int.reduceToNat]; done) | (simp only [↓accU_f, ↓reduceIte, SA, SB, SC, SD, Y26_Z7, valG, fpsG, evO, evB, evA, evA1, nilK, eqF, eqC, apOk, intOf, slB, slK,  gd, St.ev, putA, ofl, wrl, putE, V.ofVal, V.ofCell, bin2, un1, seg, fillV, partsOk, Value.oneCell', Nat.reduceBEq, Nat.reduceLT, Nat.reduceSub, Nat.reduceAdd, Nat.reduceMul, Nat.reduceLeDiff, Nat.reduceEqDiff, reduceCtorEq, Int.reduceLT, Int.reduceLE, Int.reduceEq, Int.reduceNe, Int.reduceBEq, Int.reduceBNe, Int.reduceAdd, Int.reduceSub, Int.reduceMul, Int.reduceToNat]; with_reducible exact rfl)) (by first | (simp only [↓accU_f, ↓reduceIte, SA, SB, SC, SD, Y26_Z7, valG, fpsG, evO, evB, evA, evA1, nilK, eqF, eqC, apOk, intOf, slB, slK,  gd, St.ev, putA, ofl, wrl, putE, V.ofVal, V.ofCell, bin2, un1, seg, fillV, partsOk, Value.oneCell', Nat.reduceBEq, Nat.reduceLT, Nat.reduceSub, Nat.reduceAdd, Nat.reduceMul, Nat.reduceLeDiff, Nat.reduceEqDiff, reduceCtorEq, Int.reduceLT, Int.reduceLE, Int.reduceEq, Int.reduceNe, Int.reduceBEq, Int.reduceBNe, Int.reduceAdd, Int.reduceSub, Int.reduceMul, Int.reduceToNat]; done) | (simp only [↓accU_f, ↓reduceIte, SA, SB, SC, SD, Y26_Z7, valG, fpsG, evO, evB, evA, evA1, nilK, eqF, eqC, apOk, intOf, slB, slK,  gd, St.ev, putA, ofl, wrl, putE, V.ofVal, V.ofCell, bin2, un1, seg, fillV, partsOk, Value.oneCell', Nat.reduceBEq, Nat.reduceLT, Nat.reduceSub, Nat.reduceAdd, Nat.reduceMul, Nat.reduceLeDiff, Nat.reduceEqDiff, reduceCtorEq, Int.reduceLT, Int.reduceLE, Int.reduceEq, Int.reduceNe, Int.reduceBEq, Int.reduceBNe, Int.reduceAdd, Int.reduceSub, Int.reduceMul, Int.reduceToNat]; with_reducible exact rfl)) (by decide) (by decide) (by simp only [↓accU_f, ↓reduceIte, SA, SB, SC, SD, Y26_Z7, valG, fpsG, evO, evB, evA, evA1, nilK, eqF, eqC, apOk, intOf, slB, slK,  gd, St.ev, putA, ofl, wrl, putE, V.ofVal, V.ofCell, bin2, un1, seg, fillV, partsOk, Value.oneCell', Nat.reduceBEq, Nat.reduceLT, Nat.reduceSub, Nat.reduceAdd, Nat.reduceMul, Nat.reduceLeDiff, Nat.reduceEqDiff, reduceCtorEq, Int.reduceLT, Int.reduceLE, Int.reduceEq, Int.reduceNe, Int.reduceBEq, Int.reduceBNe, Int.reduceAdd, Int.reduceSub, Int.reduceMul, Int.reduceToNat]) (by first | (simp only [↓accU_f, ↓reduceIte, SA, SB, SC, SD, Y26_Z7, valG, fpsG, evO, evB, evA, evA1, nilK, eqF, eqC, apOk, intOf, slB, slK,  gd, St.ev, putA, ofl, wrl, putE, V.ofVal, V.ofCell, bin2, un1, seg, fillV, partsOk, Value.oneCell', Nat.reduceBEq, Nat.reduceLT, Nat.reduceSub, Nat.reduceAdd, Nat.reduceMul, Nat.reduceLeDiff, Nat.reduceEqDiff, reduceCtorEq, Int.reduceLT, Int.reduceLE, Int.reduceEq, Int.reduceNe, Int.reduceBEq, Int.reduceBNe, Int.reduceAdd, Int.reduceSub, Int.reduceMul, Int.reduceToNat]; done) | (simp only [↓accU_f, ↓reduceIte, SA, SB, SC, SD, Y26_Z7, valG, fpsG, evO, evB, evA, evA1, nilK, eqF, eqC, apOk, intOf, slB, slK,  gd, St.ev, putA, ofl, wrl, putE, V.ofVal, V.ofCell, bin2, un1, seg, fillV, partsOk, Value.oneCell', Nat.reduceBEq, Nat.reduceLT, Nat.reduceSub, Nat.reduceAdd, Nat.reduceMul, Nat.reduceLeDiff, Nat.reduceEqDiff, reduceCtorEq, Int.reduceLT, Int.reduceLE, Int.reduceEq, Int.reduceNe, Int.reduceBEq, Int.reduceBNe, Int.reduceAdd, Int.reduceSub, Int.reduceMul, Int.reduceToNat]; with_reducible exact rfl)) ?_
      exact AR.endD (by kernel_rfl) rfl
    case hQ =>
      have hln : l.length + 1 = (l.take p ++ e :: l.drop p).length := by simp; omega
      generalize l.take p ++ e :: l.drop p = M at hln ⊢
      rw [hln]
      refine wG Y26_Z7 True.intro ?_
      refine Fin.gen0 (rs := [.tmp 4, .tmp 5]) rfl (by first | exact .inl rfl | exact .inr rfl) (by simp only [resX, resA, ↓accU_f, ↓reduceIte, SA, SB, SC, SD, Y26_Z7, valG, fpsG, evO, evB, evA, evA1, nilK, eqF, eqC, apOk, intOf, slB, slK,  gd, St.ev, putA, ofl, wrl, putE, V.ofVal, V.ofCell, bin2, un1, seg, fillV, partsOk, Value.oneCell', Nat.reduceBEq, Nat.reduceLT, Nat.reduceSub, Nat.reduceAdd, Nat.reduceMul, Nat.reduceLeDiff, Nat.reduceEqDiff, reduceCtorEq, Int.reduceLT, Int.reduceLE, Int.reduceEq, Int.reduceNe, Int.reduceBEq, Int.reduceBNe, Int.reduceAdd, Int.reduceSub, Int.reduceMul, Int.reduceToNat]; with_reducible exact rfl) ?_
      refine WkF.tu ?_
      repeat (first | exact WkF.of (Wk.refl _) (by first | rfl | simp only [List.length_cons, List.length_nil, Nat.reduceAdd, V.ids, V.idsL, idsA, entOk, List.all_cons, List.all_nil, Bool.and_self, Bool.and_true, Bool.true_and, ltB, noId, Nat.reduceLT, decide_true, Bool.true_eq_false, tyV_id, fdV_id, tyL_id, fdL_id, enV_id, enL_id, byL_id, lsV_id, lsL_id, tyV_id, flE_id]) | exact WkF.of (Wk.ro _ _) (by first | rfl | simp only [List.length_cons, List.length_nil, Nat.reduceAdd, V.ids, V.idsL, idsA, entOk, List.all_cons, List.all_nil, Bool.and_self, Bool.and_true, Bool.true_and, ltB, noId, Nat.reduceLT, decide_true, Bool.true_eq_false, tyV_id, fdV_id, tyL_id, fdL_id, enV_id, enL_id, byL_id, lsV_id, lsL_id, tyV_id, flE_id]) | refine WkF.tu ?_ | refine WkF.ag ?_ | refine WkFL.cons ?_ ?_ | exact WkFL.nil)
      · exact WkF.bs (z := 4) rfl rfl (by simp) (enL_all M) rfl (enL_id _ _)
      · exact WkFL.cons (WkF.of (Wk.refl _) rfl) WkFL.nil
    case hx1 => rfl
    case hm => kernel_rfl
    case hk => kernel_rfl
    case hr => kernel_rfl
    case n1 => decide
    case b40 => decide
    case b4 => decide
    case b5 => decide
    case hc0 => rfl
    case h0 => exact h0
    case hi => exact hp
    case hlm => omega
    case hx2 => rfl
    case hx3 => rfl
    case hl => rfl
    case hlv => rfl
theorem posE_nil (e : En) : posE [] e = 0 := rfl
theorem hasE_nil (e : En) : hasE [] e = false := rfl
theorem takenB_nil (e : En) : takenB [] e = false := rfl
theorem c_withN1 (e : En) (ht : e.text.length ≤ 140737488355328) : PC Tryz.prog 26 [.sl [] .nz, enV e] (.tu [.sl ((if eErr [] e = 0 then eWith [] e else []).map enV) .ro, (.im (.int .i64 (eErr [] e)))]) := by
  have q1 := c_vkey e
  have q2 := c_vtext e ht
  have q3 := c_taken [] e (by simp)
  have q4 := c_search [] e List.Pairwise.nil (by simp)
  rw [takenB_nil] at q3
  rw [posE_nil, hasE_nil] at q4
  rw [List.map_nil] at q3 q4
  refine PC.enter 41 Tryz.func26 rfl (by decide) rfl rfl (s := [(0, .sl [] .nz), (1, enV e)]) (by rfl) ?_
  simp only [enV_eq e]
  refine wG Y26_Z7 True.intro ?_
  refine AR.callP q1 enV_eq I1_Z7 ?_
  cases h1 : vkeyB e with
  | false =>
    rw [eE2 h1, if_neg (by decide)]
    refine goG Y26_Z7 True.intro ?_
    refine wG Y26_Z7 True.intro ?_
    refine Fin.gen0 (rs := [.tmp 4, .tmp 5]) rfl (by first | exact .inl rfl | exact .inr rfl) (finG Y26_Z7) ?_
    skip
    all_goals exact wkG I1_Z7
  | true =>
  refine goG Y26_Z7 True.intro ?_
  refine wG Y26_Z7 True.intro ?_
  refine AR.callP q2 enV_eq I1_Z7 ?_
  cases h2 : vtextB e with
  | false =>
    rw [eE3 h1 h2, if_neg (by decide)]
    refine goG Y26_Z7 True.intro ?_
    refine wG Y26_Z7 True.intro ?_
    refine Fin.gen0 (rs := [.tmp 4, .tmp 5]) rfl (by first | exact .inl rfl | exact .inr rfl) (finG Y26_Z7) ?_
    skip
    all_goals exact wkG I1_Z7
  | true =>
  have hE : eErr [] e = 0 := eE0 h1 h2 rfl (.inr (by simp))
  rw [hE, if_pos rfl]
  refine goG Y26_Z7 True.intro ?_
  refine wG Y26_Z7 True.intro ?_
  refine AR.callW q3 enV_eq I1_Z7 ?_
  refine goG Y26_Z7 True.intro ?_
  refine wG Y26_Z7 True.intro ?_
  refine AR.callW q4 enV_eq I1_Z7 ?_
  refine goG Y26_Z7 True.intro ?_
  refine wG Y26_Z7 (And.intro (@List.length_nil.{0}) @Int.natCast_zero) ?_
  have qn := c_clN
  have qi := c_ins0N e
  refine wdG Y26_Z7 True.intro ?_
  refine AR.callP qn True.intro I1_Z7 ?_
  refine goG Y26_Z7 True.intro ?_
  refine AR.callW qi (And.intro enV_eq @Int.natCast_zero) I1_Z7 ?_
  refine goG Y26_Z7 True.intro ?_
  refine wdG Y26_Z7 True.intro ?_
  refine Fin.gen0 (rs := [.tmp 4, .tmp 5]) rfl (by first | exact .inl rfl | exact .inr rfl) (finG Y26_Z7) ?_
  skip
  all_goals exact wkG I1_Z7
theorem c_withN2 (e : En) (ht : e.text.length ≤ 140737488355328) : PC Tryz.prog 26 [.sl [] .nn, enV e] (.tu [.sl ((if eErr [] e = 0 then eWith [] e else []).map enV) .ro, (.im (.int .i64 (eErr [] e)))]) := by
  have q1 := c_vkey e
  have q2 := c_vtext e ht
  have q3 := c_taken [] e (by simp)
  have q4 := c_search [] e List.Pairwise.nil (by simp)
  rw [takenB_nil] at q3
  rw [posE_nil, hasE_nil] at q4
  rw [List.map_nil] at q3 q4
  refine PC.enter 41 Tryz.func26 rfl (by decide) rfl rfl (s := [(0, .sl [] .nn), (1, enV e)]) (by rfl) ?_
  simp only [enV_eq e]
  refine wG Y26_Z7 True.intro ?_
  refine AR.callP q1 enV_eq I1_Z7 ?_
  cases h1 : vkeyB e with
  | false =>
    rw [eE2 h1, if_neg (by decide)]
    refine goG Y26_Z7 True.intro ?_
    refine wG Y26_Z7 True.intro ?_
    refine Fin.gen0 (rs := [.tmp 4, .tmp 5]) rfl (by first | exact .inl rfl | exact .inr rfl) (finG Y26_Z7) ?_
    skip
    all_goals exact wkG I1_Z7
  | true =>
  refine goG Y26_Z7 True.intro ?_
  refine wG Y26_Z7 True.intro ?_
  refine AR.callP q2 enV_eq I1_Z7 ?_
  cases h2 : vtextB e with
  | false =>
    rw [eE3 h1 h2, if_neg (by decide)]
    refine goG Y26_Z7 True.intro ?_
    refine wG Y26_Z7 True.intro ?_
    refine Fin.gen0 (rs := [.tmp 4, .tmp 5]) rfl (by first | exact .inl rfl | exact .inr rfl) (finG Y26_Z7) ?_
    skip
    all_goals exact wkG I1_Z7
  | true =>
  have hE : eErr [] e = 0 := eE0 h1 h2 rfl (.inr (by simp))
  rw [hE, if_pos rfl]
  refine goG Y26_Z7 True.intro ?_
  refine wG Y26_Z7 True.intro ?_
  refine AR.callW q3 enV_eq I1_Z7 ?_
  refine goG Y26_Z7 True.intro ?_
  refine wG Y26_Z7 True.intro ?_
  refine AR.callW q4 enV_eq I1_Z7 ?_
  refine goG Y26_Z7 True.intro ?_
  refine wG Y26_Z7 (And.intro (@List.length_nil.{0}) @Int.natCast_zero) ?_
  have qm := c_clM (l := []) (by simp)
  rw [List.map_nil] at qm
  have qj := c_ins0M e
  refine wdG Y26_Z7 True.intro ?_
  refine AR.callSP [1] qm True.intro I1_Z7 N1_Z7 ?_
  refine goG Y26_Z7 True.intro ?_
  refine AR.callSP [1] qj enV_eq I1_Z7 N1_Z7 ?_
  refine goG Y26_Z7 True.intro ?_
  refine wdG Y26_Z7 True.intro ?_
  refine Fin.gen0 (rs := [.tmp 4, .tmp 5]) rfl (by first | exact .inl rfl | exact .inr rfl) (finG Y26_Z7) ?_
  skip
  all_goals exact wkG I1_Z7
theorem c_withN (e : En) (ht : e.text.length ≤ 140737488355328) : PC Tryz.prog 26 [.sl [] .ro, enV e] (.tu [.sl ((if eErr [] e = 0 then eWith [] e else []).map enV) .ro, (.im (.int .i64 (eErr [] e)))]) := ACalls.nil1 (c_withN1 e ht) (c_withN2 e ht)
/-- The list after Put, and its error. -/
theorem c_with (l : List En) (e : En) (h : AscE l) (hl : l.length ≤ 1024) (ht : e.text.length ≤ 140737488355328) : PC Tryz.prog 26 [.sl (l.map enV) .ro, enV e] (.tu [.sl ((if eErr l e = 0 then eWith l e else []).map enV) .ro, (.im (.int .i64 (eErr l e)))]) := by
  rcases Nat.eq_zero_or_pos l.length with h0 | h0
  · obtain rfl := List.length_eq_zero_iff.1 h0
    exact c_withN e ht
  · exact c_withC l e h0 h hl ht
end Go.Proofs.YtianekkfehoedaaGreatDoor
namespace Go.Proofs.YtianekkfehoedaaGreatDoor
set_option linter.unusedSimpArgs false
set_option linter.unusedVariables false
set_option linter.unnecessarySimpa false
open Go.RowKit
theorem Y14_Z8 : type_of% (And.intro @F_al_64 (@F_st_64)) := And.intro @F_al_64 (@F_st_64)
theorem c_New : DC Tryz.prog 14 [] [.free] (.pt 0 0) [.box [(.im (.bool (true))), .sl [] .nl, .sl [] .nl, .sl [] .nl]] := by
  refine DC.enterN 1 3 Tryz.func14 rfl (by decide) rfl rfl (s := []) (by rfl) ?_
  refine wG Y14_Z8 True.intro ?_
  refine Fin.genK 1 (rs := [.tmp 0]) rfl (by first | exact .inl rfl | exact .inr rfl) (by simp only [resX, resA, ↓accU_f, ↓reduceIte, SA, SB, SC, SD, Y14_Z8, valG, fpsG, evO, evB, evA, evA1, nilK, eqF, eqC, apOk, intOf, slB, slK,  gd, St.ev, putA, ofl, wrl, putE, V.ofVal, V.ofCell, bin2, un1, seg, fillV, partsOk, Value.oneCell', Nat.reduceBEq, Nat.reduceLT, Nat.reduceSub, Nat.reduceAdd, Nat.reduceMul, Nat.reduceLeDiff, Nat.reduceEqDiff, reduceCtorEq, Int.reduceLT, Int.reduceLE, Int.reduceEq, Int.reduceNe, Int.reduceBEq, Int.reduceBNe, Int.reduceAdd, Int.reduceSub, Int.reduceMul, Int.reduceToNat]; with_reducible exact rfl) ?_ rfl (by first | rfl | simp only [List.length_cons, List.length_nil, Nat.reduceAdd, V.ids, V.idsL, idsA, entOk, List.all_cons, List.all_nil, Bool.and_self, Bool.and_true, Bool.true_and, ltB, noId, Nat.reduceLT, decide_true, Bool.true_eq_false, tyV_id, fdV_id, tyL_id, fdL_id, enV_id, enL_id, byL_id, lsV_id, lsL_id, tyV_id, flE_id])
  repeat (first | exact WkF.of (Wk.refl _) (by first | rfl | simp only [List.length_cons, List.length_nil, Nat.reduceAdd, V.ids, V.idsL, idsA, entOk, List.all_cons, List.all_nil, Bool.and_self, Bool.and_true, Bool.true_and, ltB, noId, Nat.reduceLT, decide_true, Bool.true_eq_false, tyV_id, fdV_id, tyL_id, fdL_id, enV_id, enL_id, byL_id, lsV_id, lsL_id, tyV_id, flE_id]) | exact WkF.of (Wk.ro _ _) (by first | rfl | simp only [List.length_cons, List.length_nil, Nat.reduceAdd, V.ids, V.idsL, idsA, entOk, List.all_cons, List.all_nil, Bool.and_self, Bool.and_true, Bool.true_and, ltB, noId, Nat.reduceLT, decide_true, Bool.true_eq_false, tyV_id, fdV_id, tyL_id, fdL_id, enV_id, enL_id, byL_id, lsV_id, lsL_id, tyV_id, flE_id]) | refine WkF.tu ?_ | refine WkF.ag ?_ | refine WkFL.cons ?_ ?_ | exact WkFL.nil)
theorem isS (n : Nat) : (some (n : Int)).isSome = true := rfl
theorem takeAll (T : List (List En)) : List.take T.length (List.map lsV T) = List.map lsV T := List.take_of_length_le (by simp)
end Go.Proofs.YtianekkfehoedaaGreatDoor
namespace Go.Proofs.YtianekkfehoedaaGreatDoor
set_option linter.unusedSimpArgs false
set_option linter.unusedVariables false
set_option linter.unnecessarySimpa false
open Go.RowKit
end Go.Proofs.YtianekkfehoedaaGreatDoor
namespace Go.Proofs.YtianekkfehoedaaGreatDoor
set_option linter.unusedSimpArgs false
set_option linter.unusedVariables false
set_option linter.unnecessarySimpa false
open Go.RowKit
/-- The key that is looked for. -/
def keyOf (k a v : Int) : En := ⟨k, v, a, []⟩
def getE (L : List En) (k a v : Int) : Bs := if hasE L (keyOf k a v) = true then (L.getD (posE L (keyOf k a v)) ⟨0, 0, 0, []⟩).text else []
theorem I1_Za : type_of% (And.intro enV_id (And.intro enL_id (And.intro byL_id (And.intro lsV_id (And.intro lsL_id (And.intro (@tyV_id) flE_id)))))) := (And.intro enV_id (And.intro enL_id (And.intro byL_id (And.intro lsV_id (And.intro lsL_id (And.intro (@tyV_id) flE_id))))))
theorem Y34_Za : type_of% (And.intro @F_al_46 (And.intro @F_by_46 (And.intro @F_el_28 (@F_sz_46)))) := And.intro @F_al_46 (And.intro @F_by_46 (And.intro @F_el_28 (@F_sz_46)))
theorem c_cl0 : PC Tryz.prog 34 [.sl [] .ro] (.sl [] .ro) := by
  refine ACalls.nil1 ?_ ?_
  · refine PC.enter 8 Tryz.func34 rfl (by decide) rfl rfl (s := [(0, .sl [] .nz)]) (by rfl) ?_
    refine wG Y34_Za True.intro ?_
    refine Fin.gen0 (rs := [.tmp 2]) rfl (by first | exact .inl rfl | exact .inr rfl) (finG Y34_Za) ?_
    skip
    all_goals exact wkG I1_Za
  · refine PC.enter 8 Tryz.func34 rfl (by decide) rfl rfl (s := [(0, .sl [] .nn)]) (by rfl) ?_
    refine wG Y34_Za True.intro ?_
    refine Fin.gen0 (rs := [.tmp 2]) rfl (by first | exact .inl rfl | exact .inr rfl) (finG Y34_Za) ?_
    skip
    all_goals exact wkG I1_Za
end Go.Proofs.YtianekkfehoedaaGreatDoor
