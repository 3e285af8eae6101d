/- Walks: merge of the program. -/
import Derived.Test.YtchjncoadhigmaaGreatDoorHv
import Derived.Test.YtchjncoadhigmaaGreatDoorY1
import Derived.Test.YtchjncoadhigmaaGreatDoorPs
import Derived.Test.YtchjncoadhigmaaGreatDoorTg
import Derived.Test.YtchjncoadhigmaaGreatDoorTu
namespace Go.Proofs.YtchjncoadhigmaaGreatDoor
set_option linter.unusedSimpArgs false
set_option linter.unusedVariables false
set_option linter.unnecessarySimpa false
open Go.RowKit

theorem c_isNaN (a : Int) : PC Tryz.prog 92 [(.im (.int .i64 (a)))] (.im (.bool (false))) := by
  refine PC.enter 6 Tryz.func92 rfl (by decide) rfl rfl (s := [(0, (.im (.int .i64 (a))))]) (by rfl) ?_
  refine wG True.intro True.intro ?_
  exact Fin.oneP

theorem c_cmp (a b : Int) : PC Tryz.prog 86 [(.im (.int .i64 (a))), (.im (.int .i64 (b)))] (.im (.int .i64 (cmpI a b))) := by
  have h1 := c_isNaN a
  have h2 := c_isNaN b
  refine PC.enter 20 Tryz.func86 rfl (by decide) rfl rfl (s := [(0, (.im (.int .i64 (a)))), (1, (.im (.int .i64 (b))))]) (by rfl) ?_
  refine wG True.intro True.intro ?_
  refine AR.callP h1 True.intro (And.intro (@tyV_id) (And.intro (@fdV_id) (And.intro (@tyL_id) @fdL_id))) ?_
  refine goG True.intro True.intro ?_
  refine wG True.intro True.intro ?_
  refine AR.callP h2 True.intro (And.intro (@tyV_id) (And.intro (@fdV_id) (And.intro (@tyL_id) @fdL_id))) ?_
  refine goG True.intro True.intro ?_
  refine wG True.intro True.intro ?_
  unfold cmpI
  refine AWp.condAB rfl rfl (fun hE => ?_) (fun hE => ?_)
  · simp only [decide_eq_true_eq] at hE
    rw [if_pos hE]
    refine wG True.intro True.intro ?_
    exact Fin.oneP
  · simp only [decide_eq_false_iff_not] at hE
    rw [if_neg hE]
    refine wG True.intro True.intro ?_
    refine AWp.condAB rfl rfl (fun hE => ?_) (fun hE => ?_)
    · simp only [decide_eq_true_eq] at hE
      rw [if_pos hE]
      refine wG True.intro True.intro ?_
      exact Fin.oneP
    · simp only [decide_eq_false_iff_not] at hE
      rw [if_neg hE]
      refine wG True.intro True.intro ?_
      exact Fin.oneP
theorem Y66_Y3 : type_of% (And.intro @F_ag_3 (And.intro @F_fl_47_0 (@F_sz_3))) := And.intro @F_ag_3 (And.intro @F_fl_47_0 (@F_sz_3))
theorem c_byOff (x y : Ty) : PC Tryz.prog 66 [fdV x, fdV y] (.im (.int .i64 (cmpI x.off y.off))) := by
  have h := c_cmp x.off y.off
  refine PC.enter 10 Tryz.func66 rfl (by decide) rfl rfl (s := [(0, fdV x), (1, fdV y)]) (by rfl) ?_
  rw [fdV_eq x, fdV_eq y]
  refine wG Y66_Y3 True.intro ?_
  refine AR.callP h True.intro (And.intro (@tyV_id) (And.intro (@fdV_id) (And.intro (@tyL_id) @fdL_id))) ?_
  refine goG Y66_Y3 True.intro ?_
  refine wG Y66_Y3 True.intro ?_
  exact Fin.oneP
theorem fdVs_all (l : List Ty) : allZ 6 (l.map fdV) = true := allZ_fd l
theorem fd0_one : (#[Value.int IntKind.i64 0, Value.int IntKind.i64 0, Value.int IntKind.i64 0, Value.int IntKind.i64 0, Value.slice none 0 0, Value.slice none 0 0] : Array Value).all Value.oneCell' = true := by kernel_rfl
theorem Y85_Y3 : type_of% (And.intro @F_ag_23 (And.intro @F_ag_47 (And.intro @F_ag_74 (And.intro @F_al_47 (And.intro @F_by_47 (And.intro @F_el_23 (And.intro @F_sz_23 (And.intro @F_sz_47 (@F_sz_74))))))))) := And.intro @F_ag_23 (And.intro @F_ag_47 (And.intro @F_ag_74 (And.intro @F_al_47 (And.intro @F_by_47 (And.intro @F_el_23 (And.intro @F_sz_23 (And.intro @F_sz_47 (@F_sz_74))))))))
theorem c_take0 {F : FuncId} (x : Ty) (ok : Bool) (z : Ty) (zs : List Ty) (hz : zs.length ≤ 8388608) (h : PC Tryz.prog F [fdV x, .im (.pointer none)] (.tu [fdV z, (.im (.bool (ok)))])) :
    DC Tryz.prog 85 [fdV x, .im (.pointer none), .pt 0 0, .pt 1 0] [.box [.fn (.func F) [] []], .box [.sl ((zs).map fdV) (.own 2)], .tip 47 6 (zs).length] (.tu []) [.box [.fn (.func F) [] []], .box [.sl (((zs ++ if ok then [z] else [])).map fdV) (.own 2)], .tip 47 6 ((zs ++ if ok then [z] else [])).length] := by
  cases ok with
  | false =>
    simp only [Bool.false_eq_true, if_false, List.append_nil]
    refine DC.enter 22 Tryz.func85 rfl (by decide) rfl rfl (s := [(0, fdV x), (1, .im (.pointer none)), (2, .pt 0 0), (3, .pt 1 0)]) (by rfl) ?_
    rw [fdV_eq x]
    refine wG Y85_Y3 True.intro ?_
    have hx := fdV_eq x
    refine AR.callP h hx (And.intro (@tyV_id) (And.intro (@fdV_id) (And.intro (@tyL_id) @fdL_id))) ?_
    refine goG Y85_Y3 (And.intro (@tyV_firm) (And.intro (@fdV_firm) (And.intro (@tyV_strip) (And.intro (@fdV_strip) (And.intro (@tyV_live) (And.intro (@tyV_size) (And.intro (@tyV_isAg) (And.intro (@tyV_cells) (And.intro (@fdV_live) (And.intro (@fdV_size) (And.intro (@fdV_isAg) (And.intro (@fdV_cells) (And.intro (@List.getElem?_map.{0, 0}) @Int.natCast_nonneg))))))))))))) ?_
    refine wG Y85_Y3 True.intro ?_
    refine Fin.gen (rs := []) rfl (by first | exact .inl rfl | exact .inr rfl) (finG Y85_Y3) ?_ rfl (idG (And.intro (@tyV_id) (And.intro (@fdV_id) (And.intro (@tyL_id) @fdL_id))))
    all_goals exact wkG (And.intro (@tyV_id) (And.intro (@fdV_id) (And.intro (@tyL_id) @fdL_id)))
  | true =>
    simp only [if_true]
    refine DC.enter 22 Tryz.func85 rfl (by decide) rfl rfl (s := [(0, fdV x), (1, .im (.pointer none)), (2, .pt 0 0), (3, .pt 1 0)]) (by rfl) ?_
    rw [fdV_eq x]
    refine wG Y85_Y3 True.intro ?_
    have hx := fdV_eq x
    refine AR.callP h hx (And.intro (@tyV_id) (And.intro (@fdV_id) (And.intro (@tyL_id) @fdL_id))) ?_
    refine goG Y85_Y3 (And.intro (@tyV_firm) (And.intro (@fdV_firm) (And.intro (@tyV_strip) (And.intro (@fdV_strip) (And.intro (@tyV_live) (And.intro (@tyV_size) (And.intro (@tyV_isAg) (And.intro (@tyV_cells) (And.intro (@fdV_live) (And.intro (@fdV_size) (And.intro (@fdV_isAg) (And.intro (@fdV_cells) (And.intro (@List.getElem?_map.{0, 0}) @Int.natCast_nonneg))))))))))))) ?_
    have hb : (zs.length + 1) * 80 ≤ 140737488355328 := by omega
    have hb2 : (zs.length + 1) * 6 ≤ 140737488355328 := by omega
    obtain ⟨B, hB⟩ : ∃ B, B = zs ++ [z] := ⟨_, rfl⟩
    have hAs : zs.map fdV ++ [V.ag [.im (.int .i64 z.off), .im (.int .i64 z.kind), .im (.int .i64 z.size), .im (.int .i64 z.count), .sl (z.elem.map tyV) .ro, .sl (z.fields.map fdV) .ro]] = B.map fdV := by rw [hB, List.map_append, List.map_singleton, fdV_eq z]
    have hAl : zs.length + 1 = B.length := by rw [hB]; simp
    have hbl : B.length * 80 ≤ 140737488355328 := by omega
    simp only [← hB]
    refine wG Y85_Y3 (And.intro (@tyV_firm) (And.intro (@fdV_firm) (And.intro (@tyV_strip) (And.intro (@fdV_strip) (And.intro (@tyV_live) (And.intro (@tyV_size) (And.intro (@tyV_isAg) (And.intro (@tyV_cells) (And.intro (@fdV_live) (And.intro (@fdV_size) (And.intro (@fdV_isAg) (And.intro (@fdV_cells) (And.intro (@List.getElem?_map.{0, 0}) @Int.natCast_nonneg))))))))))))) ?_
    with_reducible apply AWp.takeE (vy := V.ag [.im (.int .i64 z.off), .im (.int .i64 z.kind), .im (.int .i64 z.size), .im (.int .i64 z.count), .sl (z.elem.map tyV) .ro, .sl (z.fields.map fdV) .ro])
    case hm => kernel_rfl
    case hk => kernel_rfl
    case hr => kernel_rfl
    case h =>
      simp only [↓accU_f, ↓reduceIte, SA, SB, SC, SD, Y85_Y3, valG, fpsG, evO, evB, evA, evA1, nilK, eqF, eqC, apOk, intOf, slB, slK,  gd, St.ev, putA, ofl, wrl, putE, V.ofVal, V.ofCell, bin2, un1, seg, fillV, partsOk, Value.oneCell', Nat.reduceBEq, Nat.reduceLT, Nat.reduceSub, Nat.reduceAdd, Nat.reduceMul, Nat.reduceLeDiff, Nat.reduceEqDiff, reduceCtorEq, Int.reduceLT, Int.reduceLE, Int.reduceEq, Int.reduceNe, Int.reduceBEq, Int.reduceBNe, Int.reduceAdd, Int.reduceSub, Int.reduceMul, Int.reduceToNat, tyV_firm, fdV_firm, tyV_strip, fdV_strip, tyV_live, tyV_size, tyV_isAg, tyV_cells, fdV_live, fdV_size, fdV_isAg, fdV_cells, List.getElem?_map, Int.natCast_nonneg, fd0_one, hAs, hAl, hbl, allZ_fd, List.length_map]
      with_reducible exact rfl
    case hc => kernel_rfl
    case hs => exact (St.ev_dn rfl).trans rfl
    case hx => exact (St.ev_dn rfl).trans rfl
    case hi => exact (St.ev_dn rfl).trans rfl
    case hy => exact (St.ev_dn rfl).trans rfl
    case hb => exact (St.ev_dn rfl).trans rfl
    case hst => rfl
    case hj => rfl
    case n1 => simp
    case n2 => simp
    case n3 => simp
    case n4 => simp
    case n5 => simp
    case n6 => simp
    case b4 => decide
    case b5 => decide
    case nj => decide
    case ht => exact F_el_23
    case ht5 => exact F_el_23
    case hx2 => exact F_el_23
    case hsz => exact F_sz_47
    case ht7 => exact F_sz_23
    case hn => simp
    case hx1 => rfl
    case hx3 => rfl
    case hv => rfl
    case hvz => rfl
    case hap =>
      simp only [↓accU_f, ↓reduceIte, SA, SB, SC, SD, Y85_Y3, valG, fpsG, evO, evB, evA, evA1, nilK, eqF, eqC, apOk, intOf, slB, slK,  gd, St.ev, putA, ofl, wrl, putE, V.ofVal, V.ofCell, bin2, un1, seg, fillV, partsOk, Value.oneCell', Nat.reduceBEq, Nat.reduceLT, Nat.reduceSub, Nat.reduceAdd, Nat.reduceMul, Nat.reduceLeDiff, Nat.reduceEqDiff, reduceCtorEq, Int.reduceLT, Int.reduceLE, Int.reduceEq, Int.reduceNe, Int.reduceBEq, Int.reduceBNe, Int.reduceAdd, Int.reduceSub, Int.reduceMul, Int.reduceToNat, tyV_firm, fdV_firm, tyV_strip, fdV_strip, tyV_live, tyV_size, tyV_isAg, tyV_cells, fdV_live, fdV_size, fdV_isAg, fdV_cells, List.getElem?_map, Int.natCast_nonneg, hb]
    case hQ =>
      simp only [putA, wrl, putE, List.length_cons, List.length_nil, Nat.reduceAdd, Nat.reduceLT, ↓reduceIte, List.set_cons_zero, List.set_cons_succ, hAs, hAl]
      refine Fin.gen (rs := []) rfl (by first | exact .inl rfl | exact .inr rfl) (finG Y85_Y3) ?_ rfl (idG (And.intro (@tyV_id) (And.intro (@fdV_id) (And.intro (@tyL_id) @fdL_id))))
      all_goals exact wkG (And.intro (@tyV_id) (And.intro (@fdV_id) (And.intro (@tyL_id) @fdL_id)))
theorem c_take1 {F : FuncId} (x y : Ty) (ok : Bool) (z : Ty) (zs : List Ty) (hz : zs.length ≤ 8388608) (h : PC Tryz.prog F [fdV x, .ep (fdV y) 0] (.tu [fdV z, (.im (.bool (ok)))])) :
    DC Tryz.prog 85 [fdV x, .ep (fdV y) 0, .pt 0 0, .pt 1 0] [.box [.fn (.func F) [] []], .box [.sl ((zs).map fdV) (.own 2)], .tip 47 6 (zs).length] (.tu []) [.box [.fn (.func F) [] []], .box [.sl (((zs ++ if ok then [z] else [])).map fdV) (.own 2)], .tip 47 6 ((zs ++ if ok then [z] else [])).length] := by
  cases ok with
  | false =>
    simp only [Bool.false_eq_true, if_false, List.append_nil]
    refine DC.enter 22 Tryz.func85 rfl (by decide) rfl rfl (s := [(0, fdV x), (1, .ep (fdV y) 0), (2, .pt 0 0), (3, .pt 1 0)]) (by rfl) ?_
    rw [fdV_eq x]
    refine wG Y85_Y3 True.intro ?_
    have hx := fdV_eq x
    refine AR.callP h hx (And.intro (@tyV_id) (And.intro (@fdV_id) (And.intro (@tyL_id) @fdL_id))) ?_
    refine goG Y85_Y3 (And.intro (@tyV_firm) (And.intro (@fdV_firm) (And.intro (@tyV_strip) (And.intro (@fdV_strip) (And.intro (@tyV_live) (And.intro (@tyV_size) (And.intro (@tyV_isAg) (And.intro (@tyV_cells) (And.intro (@fdV_live) (And.intro (@fdV_size) (And.intro (@fdV_isAg) (And.intro (@fdV_cells) (And.intro (@List.getElem?_map.{0, 0}) @Int.natCast_nonneg))))))))))))) ?_
    refine wG Y85_Y3 True.intro ?_
    refine Fin.gen (rs := []) rfl (by first | exact .inl rfl | exact .inr rfl) (finG Y85_Y3) ?_ rfl (idG (And.intro (@tyV_id) (And.intro (@fdV_id) (And.intro (@tyL_id) @fdL_id))))
    all_goals exact wkG (And.intro (@tyV_id) (And.intro (@fdV_id) (And.intro (@tyL_id) @fdL_id)))
  | true =>
    simp only [if_true]
    refine DC.enter 22 Tryz.func85 rfl (by decide) rfl rfl (s := [(0, fdV x), (1, .ep (fdV y) 0), (2, .pt 0 0), (3, .pt 1 0)]) (by rfl) ?_
    rw [fdV_eq x]
    refine wG Y85_Y3 True.intro ?_
    have hx := fdV_eq x
    refine AR.callP h hx (And.intro (@tyV_id) (And.intro (@fdV_id) (And.intro (@tyL_id) @fdL_id))) ?_
    refine goG Y85_Y3 (And.intro (@tyV_firm) (And.intro (@fdV_firm) (And.intro (@tyV_strip) (And.intro (@fdV_strip) (And.intro (@tyV_live) (And.intro (@tyV_size) (And.intro (@tyV_isAg) (And.intro (@tyV_cells) (And.intro (@fdV_live) (And.intro (@fdV_size) (And.intro (@fdV_isAg) (And.intro (@fdV_cells) (And.intro (@List.getElem?_map.{0, 0}) @Int.natCast_nonneg))))))))))))) ?_
    have hb : (zs.length + 1) * 80 ≤ 140737488355328 := by omega
    have hb2 : (zs.length + 1) * 6 ≤ 140737488355328 := by omega
    obtain ⟨B, hB⟩ : ∃ B, B = zs ++ [z] := ⟨_, rfl⟩
    have hAs : zs.map fdV ++ [V.ag [.im (.int .i64 z.off), .im (.int .i64 z.kind), .im (.int .i64 z.size), .im (.int .i64 z.count), .sl (z.elem.map tyV) .ro, .sl (z.fields.map fdV) .ro]] = B.map fdV := by rw [hB, List.map_append, List.map_singleton, fdV_eq z]
    have hAl : zs.length + 1 = B.length := by rw [hB]; simp
    have hbl : B.length * 80 ≤ 140737488355328 := by omega
    simp only [← hB]
    refine wG Y85_Y3 (And.intro (@tyV_firm) (And.intro (@fdV_firm) (And.intro (@tyV_strip) (And.intro (@fdV_strip) (And.intro (@tyV_live) (And.intro (@tyV_size) (And.intro (@tyV_isAg) (And.intro (@tyV_cells) (And.intro (@fdV_live) (And.intro (@fdV_size) (And.intro (@fdV_isAg) (And.intro (@fdV_cells) (And.intro (@List.getElem?_map.{0, 0}) @Int.natCast_nonneg))))))))))))) ?_
    with_reducible apply AWp.takeE (vy := V.ag [.im (.int .i64 z.off), .im (.int .i64 z.kind), .im (.int .i64 z.size), .im (.int .i64 z.count), .sl (z.elem.map tyV) .ro, .sl (z.fields.map fdV) .ro])
    case hm => kernel_rfl
    case hk => kernel_rfl
    case hr => kernel_rfl
    case h =>
      simp only [↓accU_f, ↓reduceIte, SA, SB, SC, SD, Y85_Y3, valG, fpsG, evO, evB, evA, evA1, nilK, eqF, eqC, apOk, intOf, slB, slK,  gd, St.ev, putA, ofl, wrl, putE, V.ofVal, V.ofCell, bin2, un1, seg, fillV, partsOk, Value.oneCell', Nat.reduceBEq, Nat.reduceLT, Nat.reduceSub, Nat.reduceAdd, Nat.reduceMul, Nat.reduceLeDiff, Nat.reduceEqDiff, reduceCtorEq, Int.reduceLT, Int.reduceLE, Int.reduceEq, Int.reduceNe, Int.reduceBEq, Int.reduceBNe, Int.reduceAdd, Int.reduceSub, Int.reduceMul, Int.reduceToNat, tyV_firm, fdV_firm, tyV_strip, fdV_strip, tyV_live, tyV_size, tyV_isAg, tyV_cells, fdV_live, fdV_size, fdV_isAg, fdV_cells, List.getElem?_map, Int.natCast_nonneg, fd0_one, hAs, hAl, hbl, allZ_fd, List.length_map]
      with_reducible exact rfl
    case hc => kernel_rfl
    case hs => exact (St.ev_dn rfl).trans rfl
    case hx => exact (St.ev_dn rfl).trans rfl
    case hi => exact (St.ev_dn rfl).trans rfl
    case hy => exact (St.ev_dn rfl).trans rfl
    case hb => exact (St.ev_dn rfl).trans rfl
    case hst => rfl
    case hj => rfl
    case n1 => simp
    case n2 => simp
    case n3 => simp
    case n4 => simp
    case n5 => simp
    case n6 => simp
    case b4 => decide
    case b5 => decide
    case nj => decide
    case ht => exact F_el_23
    case ht5 => exact F_el_23
    case hx2 => exact F_el_23
    case hsz => exact F_sz_47
    case ht7 => exact F_sz_23
    case hn => simp
    case hx1 => rfl
    case hx3 => rfl
    case hv => rfl
    case hvz => rfl
    case hap =>
      simp only [↓accU_f, ↓reduceIte, SA, SB, SC, SD, Y85_Y3, valG, fpsG, evO, evB, evA, evA1, nilK, eqF, eqC, apOk, intOf, slB, slK,  gd, St.ev, putA, ofl, wrl, putE, V.ofVal, V.ofCell, bin2, un1, seg, fillV, partsOk, Value.oneCell', Nat.reduceBEq, Nat.reduceLT, Nat.reduceSub, Nat.reduceAdd, Nat.reduceMul, Nat.reduceLeDiff, Nat.reduceEqDiff, reduceCtorEq, Int.reduceLT, Int.reduceLE, Int.reduceEq, Int.reduceNe, Int.reduceBEq, Int.reduceBNe, Int.reduceAdd, Int.reduceSub, Int.reduceMul, Int.reduceToNat, tyV_firm, fdV_firm, tyV_strip, fdV_strip, tyV_live, tyV_size, tyV_isAg, tyV_cells, fdV_live, fdV_size, fdV_isAg, fdV_cells, List.getElem?_map, Int.natCast_nonneg, hb]
    case hQ =>
      simp only [putA, wrl, putE, List.length_cons, List.length_nil, Nat.reduceAdd, Nat.reduceLT, ↓reduceIte, List.set_cons_zero, List.set_cons_succ, hAs, hAl]
      refine Fin.gen (rs := []) rfl (by first | exact .inl rfl | exact .inr rfl) (finG Y85_Y3) ?_ rfl (idG (And.intro (@tyV_id) (And.intro (@fdV_id) (And.intro (@tyL_id) @fdL_id))))
      all_goals exact wkG (And.intro (@tyV_id) (And.intro (@fdV_id) (And.intro (@tyL_id) @fdL_id)))
end Go.Proofs.YtchjncoadhigmaaGreatDoor

