/- Walks: sequences behind a backslash, strings of the reference. -/
import Derived.Test.YtjilcaemoebloaaDoorHv
import Derived.Test.YtjilcaemoebloaaDoorT28
namespace Go.Proofs.YtjilcaemoebloaaDoor
set_option linter.unusedSimpArgs false
set_option linter.unusedVariables false
set_option linter.unnecessarySimpa false
open Go.RowKit
/-- What the reference's escape gives at a position. -/
def escA (r : Bs) : UInt8 × Nat := match escP r with
  | some (c, k) => (c, k + 1)
  | none => (0, 0)
theorem escA_some {r : Bs} {c : UInt8} {k : Nat} (h : escP r = some (c, k)) : escA r = (c, k + 1) := by unfold escA; rw [h]
theorem escA_none {r : Bs} (h : escP r = none) : escA r = (0, 0) := by unfold escA; rw [h]
theorem u8_hx (x y : Nat) (hx : x < 16) (hy : y < 16) : IntKind.u8.wrap (((16 * x + y : Nat)) : Int) = (((UInt8.ofNat (16 * x + y)).toNat : Nat) : Int) := by
  rw [IntWalk.u8_in _ (by omega), UInt8.toNat_ofNat_of_lt' (by show 16 * x + y < 256; omega)]
theorem escP_hex {x y : UInt8} {r : Bs} : escP (120 :: x :: y :: r) = (match hexv x, hexv y with
    | some a, some b => some (UInt8.ofNat (16 * a + b), 3)
    | _, _ => none) := by
  rw [escP, if_neg (by decide), if_pos (by decide), escX]
  cases hexv x <;> cases hexv y <;> rfl
theorem escP_short {r : Bs} (h : r.length < 2) : escP (120 :: r) = none := by
  rw [escP, if_neg (by decide), if_pos (by decide)]
  match r, h with
  | [], _ => rfl
  | [a], _ => rfl
theorem Y67_T29 : type_of% (And.intro @F_in_3 (And.intro @F_in_5 (And.intro @F_un_3 (And.intro @F_un_5 (@F_un_9))))) := And.intro @F_in_3 (And.intro @F_in_5 (And.intro @F_un_3 (And.intro @F_un_5 (@F_un_9))))
set_option maxHeartbeats 2000000 in
theorem c_escR (s : Bs) (a : Nat) (ha : a < s.length) (hs : s.length ≤ 4194304) : PC Tryd.prog 67 [.im (.string ⟨(s).toArray⟩), (.im (.int .i64 ((a : Int))))] (.tu [.im (.int .u8 (((escA (s.drop (a + 1))).1.toNat : Int))), (.im (.int .i64 (((escA (s.drop (a + 1))).2 : Int))))]) := by
  have w1 : IntKind.i64.wrap ((a : Int) + 1) = ((a + 1 : Nat) : Int) := by rw [wrap_in (by omega)]; omega
  have w2 : IntKind.i64.wrap ((a : Int) + 2) = ((a + 2 : Nat) : Int) := by rw [wrap_in (by omega)]; omega
  have w3 : IntKind.i64.wrap ((a : Int) + 3) = ((a + 3 : Nat) : Int) := by rw [wrap_in (by omega)]; omega
  by_cases h1 : a + 1 < s.length
  case neg =>
    have e1 : ((a + 1 : Nat) : Int) ≥ (s.length : Int) := by omega
    rw [show s.drop (a + 1) = [] from List.drop_eq_nil_of_le (by omega), show escA [] = (0, 0) from rfl]
    refine PC.enter 68 Tryd.func67 rfl (by decide) rfl rfl (s := [(0, .im (.string ⟨(s).toArray⟩)), (1, (.im (.int .i64 ((a : Int)))))]) (by rfl) ?_
    refine wG Y67_T29 (And.intro BY (And.intro w1 e1)) ?_
    refine Fin.gen0 (rs := [.tmp 4, .tmp 5]) rfl (by first | exact .inl rfl | exact .inr rfl) (by simp only [resX, resA, ↓accU_f, ↓reduceIte, SA, SB, SC, SD, Y67_T29, valG, fpsG, evO, evB, evA, evA1, nilK, eqF, eqC, apOk, intOf, slB, slK,  gd, St.ev, putA, ofl, wrl, putE, V.ofVal, V.ofCell, bin2, un1, seg, fillV, partsOk, Value.oneCell', Nat.reduceBEq, Nat.reduceLT, Nat.reduceSub, Nat.reduceAdd, Nat.reduceMul, Nat.reduceLeDiff, Nat.reduceEqDiff, reduceCtorEq, Int.reduceLT, Int.reduceLE, Int.reduceEq, Int.reduceNe, Int.reduceBEq, Int.reduceBNe, Int.reduceAdd, Int.reduceSub, Int.reduceMul, Int.reduceToNat]; with_reducible exact rfl) ?_
    repeat (first | exact WkF.of (Wk.refl _) (by first | rfl | simp only [List.length_cons, List.length_nil, Nat.reduceAdd, V.ids, V.idsL, idsA, entOk, List.all_cons, List.all_nil, Bool.and_self, Bool.and_true, Bool.true_and, ltB, noId, Nat.reduceLT, decide_true, Bool.true_eq_false, tyV_id, fdV_id, tyL_id, fdL_id, byL_id]) | exact WkF.of (Wk.ro _ _) (by first | rfl | simp only [List.length_cons, List.length_nil, Nat.reduceAdd, V.ids, V.idsL, idsA, entOk, List.all_cons, List.all_nil, Bool.and_self, Bool.and_true, Bool.true_and, ltB, noId, Nat.reduceLT, decide_true, Bool.true_eq_false, tyV_id, fdV_id, tyL_id, fdL_id, byL_id]) | refine WkF.tu ?_ | refine WkF.ag ?_ | refine WkFL.cons ?_ ?_ | exact WkFL.nil)
  have e1 : ¬ ((a + 1 : Nat) : Int) ≥ (s.length : Int) := by omega
  have g1 : s[a + 1]? = some s[a + 1] := List.getElem?_eq_getElem h1
  have d1 : s.drop (a + 1) = s[a + 1] :: s.drop (a + 2) := List.drop_eq_getElem_cons h1
  generalize s[a + 1] = c at g1 d1
  by_cases h34 : c.toNat = 34 ∨ c.toNat = 92
  · rw [d1, escA_some (show escP (c :: s.drop (a + 2)) = some (c, 1) by rw [escP, if_pos h34])]
    by_cases k : c.toNat = 34
    · have e2 : (c.toNat : Int) = 34 := by omega
      rw [e2]
      refine PC.enter 68 Tryd.func67 rfl (by decide) rfl rfl (s := [(0, .im (.string ⟨(s).toArray⟩)), (1, (.im (.int .i64 ((a : Int)))))]) (by rfl) ?_
      refine wG Y67_T29 (And.intro BY (And.intro w1 (And.intro e1 (And.intro g1 e2)))) ?_
      refine Fin.gen0 (rs := [.tmp 4, .tmp 5]) rfl (by first | exact .inl rfl | exact .inr rfl) (by simp only [resX, resA, ↓accU_f, ↓reduceIte, SA, SB, SC, SD, Y67_T29, valG, fpsG, evO, evB, evA, evA1, nilK, eqF, eqC, apOk, intOf, slB, slK,  gd, St.ev, putA, ofl, wrl, putE, V.ofVal, V.ofCell, bin2, un1, seg, fillV, partsOk, Value.oneCell', Nat.reduceBEq, Nat.reduceLT, Nat.reduceSub, Nat.reduceAdd, Nat.reduceMul, Nat.reduceLeDiff, Nat.reduceEqDiff, reduceCtorEq, Int.reduceLT, Int.reduceLE, Int.reduceEq, Int.reduceNe, Int.reduceBEq, Int.reduceBNe, Int.reduceAdd, Int.reduceSub, Int.reduceMul, Int.reduceToNat]; with_reducible exact rfl) ?_
      repeat (first | exact WkF.of (Wk.refl _) (by first | rfl | simp only [List.length_cons, List.length_nil, Nat.reduceAdd, V.ids, V.idsL, idsA, entOk, List.all_cons, List.all_nil, Bool.and_self, Bool.and_true, Bool.true_and, ltB, noId, Nat.reduceLT, decide_true, Bool.true_eq_false, tyV_id, fdV_id, tyL_id, fdL_id, byL_id]) | exact WkF.of (Wk.ro _ _) (by first | rfl | simp only [List.length_cons, List.length_nil, Nat.reduceAdd, V.ids, V.idsL, idsA, entOk, List.all_cons, List.all_nil, Bool.and_self, Bool.and_true, Bool.true_and, ltB, noId, Nat.reduceLT, decide_true, Bool.true_eq_false, tyV_id, fdV_id, tyL_id, fdL_id, byL_id]) | refine WkF.tu ?_ | refine WkF.ag ?_ | refine WkFL.cons ?_ ?_ | exact WkFL.nil)
    · have e2 : ¬ (c.toNat : Int) = 34 := by omega
      have e3 : (c.toNat : Int) = 92 := by omega
      rw [e3]
      refine PC.enter 68 Tryd.func67 rfl (by decide) rfl rfl (s := [(0, .im (.string ⟨(s).toArray⟩)), (1, (.im (.int .i64 ((a : Int)))))]) (by rfl) ?_
      refine wG Y67_T29 (And.intro BY (And.intro w1 (And.intro e1 (And.intro g1 (And.intro e2 e3))))) ?_
      refine Fin.gen0 (rs := [.tmp 4, .tmp 5]) rfl (by first | exact .inl rfl | exact .inr rfl) (by simp only [resX, resA, ↓accU_f, ↓reduceIte, SA, SB, SC, SD, Y67_T29, valG, fpsG, evO, evB, evA, evA1, nilK, eqF, eqC, apOk, intOf, slB, slK,  gd, St.ev, putA, ofl, wrl, putE, V.ofVal, V.ofCell, bin2, un1, seg, fillV, partsOk, Value.oneCell', Nat.reduceBEq, Nat.reduceLT, Nat.reduceSub, Nat.reduceAdd, Nat.reduceMul, Nat.reduceLeDiff, Nat.reduceEqDiff, reduceCtorEq, Int.reduceLT, Int.reduceLE, Int.reduceEq, Int.reduceNe, Int.reduceBEq, Int.reduceBNe, Int.reduceAdd, Int.reduceSub, Int.reduceMul, Int.reduceToNat]; with_reducible exact rfl) ?_
      repeat (first | exact WkF.of (Wk.refl _) (by first | rfl | simp only [List.length_cons, List.length_nil, Nat.reduceAdd, V.ids, V.idsL, idsA, entOk, List.all_cons, List.all_nil, Bool.and_self, Bool.and_true, Bool.true_and, ltB, noId, Nat.reduceLT, decide_true, Bool.true_eq_false, tyV_id, fdV_id, tyL_id, fdL_id, byL_id]) | exact WkF.of (Wk.ro _ _) (by first | rfl | simp only [List.length_cons, List.length_nil, Nat.reduceAdd, V.ids, V.idsL, idsA, entOk, List.all_cons, List.all_nil, Bool.and_self, Bool.and_true, Bool.true_and, ltB, noId, Nat.reduceLT, decide_true, Bool.true_eq_false, tyV_id, fdV_id, tyL_id, fdL_id, byL_id]) | refine WkF.tu ?_ | refine WkF.ag ?_ | refine WkFL.cons ?_ ?_ | exact WkFL.nil)
  have e2 : ¬ (c.toNat : Int) = 34 := by omega
  have e3 : ¬ (c.toNat : Int) = 92 := by omega
  by_cases h120 : c.toNat = 120
  case neg =>
    have e4 : ¬ (c.toNat : Int) = 120 := by omega
    rw [d1, escA_none (show escP (c :: s.drop (a + 2)) = none by rw [escP, if_neg h34, if_neg h120])]
    refine PC.enter 68 Tryd.func67 rfl (by decide) rfl rfl (s := [(0, .im (.string ⟨(s).toArray⟩)), (1, (.im (.int .i64 ((a : Int)))))]) (by rfl) ?_
    refine wG Y67_T29 (And.intro BY (And.intro w1 (And.intro e1 (And.intro g1 (And.intro e2 (And.intro e3 e4)))))) ?_
    refine Fin.gen0 (rs := [.tmp 4, .tmp 5]) rfl (by first | exact .inl rfl | exact .inr rfl) (by simp only [resX, resA, ↓accU_f, ↓reduceIte, SA, SB, SC, SD, Y67_T29, valG, fpsG, evO, evB, evA, evA1, nilK, eqF, eqC, apOk, intOf, slB, slK,  gd, St.ev, putA, ofl, wrl, putE, V.ofVal, V.ofCell, bin2, un1, seg, fillV, partsOk, Value.oneCell', Nat.reduceBEq, Nat.reduceLT, Nat.reduceSub, Nat.reduceAdd, Nat.reduceMul, Nat.reduceLeDiff, Nat.reduceEqDiff, reduceCtorEq, Int.reduceLT, Int.reduceLE, Int.reduceEq, Int.reduceNe, Int.reduceBEq, Int.reduceBNe, Int.reduceAdd, Int.reduceSub, Int.reduceMul, Int.reduceToNat]; with_reducible exact rfl) ?_
    repeat (first | exact WkF.of (Wk.refl _) (by first | rfl | simp only [List.length_cons, List.length_nil, Nat.reduceAdd, V.ids, V.idsL, idsA, entOk, List.all_cons, List.all_nil, Bool.and_self, Bool.and_true, Bool.true_and, ltB, noId, Nat.reduceLT, decide_true, Bool.true_eq_false, tyV_id, fdV_id, tyL_id, fdL_id, byL_id]) | exact WkF.of (Wk.ro _ _) (by first | rfl | simp only [List.length_cons, List.length_nil, Nat.reduceAdd, V.ids, V.idsL, idsA, entOk, List.all_cons, List.all_nil, Bool.and_self, Bool.and_true, Bool.true_and, ltB, noId, Nat.reduceLT, decide_true, Bool.true_eq_false, tyV_id, fdV_id, tyL_id, fdL_id, byL_id]) | refine WkF.tu ?_ | refine WkF.ag ?_ | refine WkFL.cons ?_ ?_ | exact WkFL.nil)
  have e4 : (c.toNat : Int) = 120 := by omega
  have hc : c = 120 := toNat_inj h120
  by_cases h3 : a + 3 < s.length
  case neg =>
    have e5 : ((a + 3 : Nat) : Int) ≥ (s.length : Int) := by omega
    rw [d1, hc, escA_none (escP_short (by rw [List.length_drop]; omega))]
    refine PC.enter 68 Tryd.func67 rfl (by decide) rfl rfl (s := [(0, .im (.string ⟨(s).toArray⟩)), (1, (.im (.int .i64 ((a : Int)))))]) (by rfl) ?_
    refine wG Y67_T29 (And.intro BY (And.intro w1 (And.intro w3 (And.intro e1 (And.intro g1 (And.intro e2 (And.intro e3 (And.intro e4 e5)))))))) ?_
    refine Fin.gen0 (rs := [.tmp 4, .tmp 5]) rfl (by first | exact .inl rfl | exact .inr rfl) (by simp only [resX, resA, ↓accU_f, ↓reduceIte, SA, SB, SC, SD, Y67_T29, valG, fpsG, evO, evB, evA, evA1, nilK, eqF, eqC, apOk, intOf, slB, slK,  gd, St.ev, putA, ofl, wrl, putE, V.ofVal, V.ofCell, bin2, un1, seg, fillV, partsOk, Value.oneCell', Nat.reduceBEq, Nat.reduceLT, Nat.reduceSub, Nat.reduceAdd, Nat.reduceMul, Nat.reduceLeDiff, Nat.reduceEqDiff, reduceCtorEq, Int.reduceLT, Int.reduceLE, Int.reduceEq, Int.reduceNe, Int.reduceBEq, Int.reduceBNe, Int.reduceAdd, Int.reduceSub, Int.reduceMul, Int.reduceToNat]; with_reducible exact rfl) ?_
    repeat (first | exact WkF.of (Wk.refl _) (by first | rfl | simp only [List.length_cons, List.length_nil, Nat.reduceAdd, V.ids, V.idsL, idsA, entOk, List.all_cons, List.all_nil, Bool.and_self, Bool.and_true, Bool.true_and, ltB, noId, Nat.reduceLT, decide_true, Bool.true_eq_false, tyV_id, fdV_id, tyL_id, fdL_id, byL_id]) | exact WkF.of (Wk.ro _ _) (by first | rfl | simp only [List.length_cons, List.length_nil, Nat.reduceAdd, V.ids, V.idsL, idsA, entOk, List.all_cons, List.all_nil, Bool.and_self, Bool.and_true, Bool.true_and, ltB, noId, Nat.reduceLT, decide_true, Bool.true_eq_false, tyV_id, fdV_id, tyL_id, fdL_id, byL_id]) | refine WkF.tu ?_ | refine WkF.ag ?_ | refine WkFL.cons ?_ ?_ | exact WkFL.nil)
  have e5 : ¬ ((a + 3 : Nat) : Int) ≥ (s.length : Int) := by omega
  have g2 : s[a + 2]? = some s[a + 2] := List.getElem?_eq_getElem (by omega)
  have g3 : s[a + 3]? = some s[a + 3] := List.getElem?_eq_getElem h3
  have d2 : s.drop (a + 2) = s[a + 2] :: s.drop (a + 3) := List.drop_eq_getElem_cons (by omega)
  have d3 : s.drop (a + 3) = s[a + 3] :: s.drop (a + 4) := List.drop_eq_getElem_cons h3
  have qx := c_hexDR s[a + 2]
  have qy := c_hexDR s[a + 3]
  rw [d1, hc, d2, d3]
  generalize s[a + 2] = x at g2 qx
  generalize s[a + 3] = y at g3 qy
  cases hx : hexv x with
  | none =>
    rw [hexI_none hx] at qx
    rw [escA_none (by rw [escP_hex, hx])]
    refine PC.enter 68 Tryd.func67 rfl (by decide) rfl rfl (s := [(0, .im (.string ⟨(s).toArray⟩)), (1, (.im (.int .i64 ((a : Int)))))]) (by rfl) ?_
    refine wG Y67_T29 (And.intro BY (And.intro w1 (And.intro w2 (And.intro w3 (And.intro e1 (And.intro g1 (And.intro g2 (And.intro g3 (And.intro e2 (And.intro e3 (And.intro e4 e5))))))))))) ?_
    refine AR.callP qx True.intro byL_id ?_
    refine goG Y67_T29 (And.intro BY (And.intro w1 (And.intro w2 (And.intro w3 (And.intro g2 g3))))) ?_
    refine wG Y67_T29 True.intro ?_
    refine Fin.gen0 (rs := [.tmp 4, .tmp 5]) rfl (by first | exact .inl rfl | exact .inr rfl) (by simp only [resX, resA, ↓accU_f, ↓reduceIte, SA, SB, SC, SD, Y67_T29, valG, fpsG, evO, evB, evA, evA1, nilK, eqF, eqC, apOk, intOf, slB, slK,  gd, St.ev, putA, ofl, wrl, putE, V.ofVal, V.ofCell, bin2, un1, seg, fillV, partsOk, Value.oneCell', Nat.reduceBEq, Nat.reduceLT, Nat.reduceSub, Nat.reduceAdd, Nat.reduceMul, Nat.reduceLeDiff, Nat.reduceEqDiff, reduceCtorEq, Int.reduceLT, Int.reduceLE, Int.reduceEq, Int.reduceNe, Int.reduceBEq, Int.reduceBNe, Int.reduceAdd, Int.reduceSub, Int.reduceMul, Int.reduceToNat]; with_reducible exact rfl) ?_
    repeat (first | exact WkF.of (Wk.refl _) (by first | rfl | simp only [List.length_cons, List.length_nil, Nat.reduceAdd, V.ids, V.idsL, idsA, entOk, List.all_cons, List.all_nil, Bool.and_self, Bool.and_true, Bool.true_and, ltB, noId, Nat.reduceLT, decide_true, Bool.true_eq_false, tyV_id, fdV_id, tyL_id, fdL_id, byL_id]) | exact WkF.of (Wk.ro _ _) (by first | rfl | simp only [List.length_cons, List.length_nil, Nat.reduceAdd, V.ids, V.idsL, idsA, entOk, List.all_cons, List.all_nil, Bool.and_self, Bool.and_true, Bool.true_and, ltB, noId, Nat.reduceLT, decide_true, Bool.true_eq_false, tyV_id, fdV_id, tyL_id, fdL_id, byL_id]) | refine WkF.tu ?_ | refine WkF.ag ?_ | refine WkFL.cons ?_ ?_ | exact WkFL.nil)
  | some u =>
  have hu := hexv_lt hx
  have hu0 : ¬ (u : Int) < 0 := by omega
  rw [hexI_some hx] at qx
  cases hy : hexv y with
  | none =>
    rw [hexI_none hy] at qy
    rw [escA_none (by rw [escP_hex, hx, hy])]
    refine PC.enter 68 Tryd.func67 rfl (by decide) rfl rfl (s := [(0, .im (.string ⟨(s).toArray⟩)), (1, (.im (.int .i64 ((a : Int)))))]) (by rfl) ?_
    refine wG Y67_T29 (And.intro BY (And.intro w1 (And.intro w2 (And.intro w3 (And.intro e1 (And.intro g1 (And.intro g2 (And.intro g3 (And.intro e2 (And.intro e3 (And.intro e4 e5))))))))))) ?_
    refine AR.callP qx True.intro byL_id ?_
    refine goG Y67_T29 (And.intro BY (And.intro w1 (And.intro w2 (And.intro w3 (And.intro g2 (And.intro g3 hu0)))))) ?_
    refine AR.callP qy True.intro byL_id ?_
    refine goG Y67_T29 True.intro ?_
    refine wG Y67_T29 True.intro ?_
    refine Fin.gen0 (rs := [.tmp 4, .tmp 5]) rfl (by first | exact .inl rfl | exact .inr rfl) (by simp only [resX, resA, ↓accU_f, ↓reduceIte, SA, SB, SC, SD, Y67_T29, valG, fpsG, evO, evB, evA, evA1, nilK, eqF, eqC, apOk, intOf, slB, slK,  gd, St.ev, putA, ofl, wrl, putE, V.ofVal, V.ofCell, bin2, un1, seg, fillV, partsOk, Value.oneCell', Nat.reduceBEq, Nat.reduceLT, Nat.reduceSub, Nat.reduceAdd, Nat.reduceMul, Nat.reduceLeDiff, Nat.reduceEqDiff, reduceCtorEq, Int.reduceLT, Int.reduceLE, Int.reduceEq, Int.reduceNe, Int.reduceBEq, Int.reduceBNe, Int.reduceAdd, Int.reduceSub, Int.reduceMul, Int.reduceToNat]; with_reducible exact rfl) ?_
    repeat (first | exact WkF.of (Wk.refl _) (by first | rfl | simp only [List.length_cons, List.length_nil, Nat.reduceAdd, V.ids, V.idsL, idsA, entOk, List.all_cons, List.all_nil, Bool.and_self, Bool.and_true, Bool.true_and, ltB, noId, Nat.reduceLT, decide_true, Bool.true_eq_false, tyV_id, fdV_id, tyL_id, fdL_id, byL_id]) | exact WkF.of (Wk.ro _ _) (by first | rfl | simp only [List.length_cons, List.length_nil, Nat.reduceAdd, V.ids, V.idsL, idsA, entOk, List.all_cons, List.all_nil, Bool.and_self, Bool.and_true, Bool.true_and, ltB, noId, Nat.reduceLT, decide_true, Bool.true_eq_false, tyV_id, fdV_id, tyL_id, fdL_id, byL_id]) | refine WkF.tu ?_ | refine WkF.ag ?_ | refine WkFL.cons ?_ ?_ | exact WkFL.nil)
  | some v =>
    have hv := hexv_lt hy
    have hv0 : ¬ (v : Int) < 0 := by omega
    rw [hexI_some hy] at qy
    rw [escA_some (by rw [escP_hex, hx, hy])]
    have m1 : IntKind.i64.wrap (16 * (u : Int)) = ((16 * u : Nat) : Int) := by rw [wrap_in (by omega)]; omega
    have m2 : IntKind.i64.wrap (((16 * u : Nat) : Int) + (v : Int)) = ((16 * u + v : Nat) : Int) := by rw [wrap_in (by omega)]; omega
    have m3 := u8_hx u v hu hv
    refine PC.enter 68 Tryd.func67 rfl (by decide) rfl rfl (s := [(0, .im (.string ⟨(s).toArray⟩)), (1, (.im (.int .i64 ((a : Int)))))]) (by rfl) ?_
    refine wG Y67_T29 (And.intro BY (And.intro w1 (And.intro w2 (And.intro w3 (And.intro e1 (And.intro g1 (And.intro g2 (And.intro g3 (And.intro e2 (And.intro e3 (And.intro e4 e5))))))))))) ?_
    refine AR.callP qx True.intro byL_id ?_
    refine goG Y67_T29 (And.intro BY (And.intro w1 (And.intro w2 (And.intro w3 (And.intro g2 (And.intro g3 hu0)))))) ?_
    refine AR.callP qy True.intro byL_id ?_
    refine goG Y67_T29 (And.intro hu0 hv0) ?_
    refine wdG Y67_T29 (And.intro BY (And.intro w1 (And.intro w2 (And.intro w3 (And.intro g2 (And.intro g3 (And.intro hu0 hv0))))))) ?_
    refine AR.callP qx True.intro byL_id ?_
    refine goG Y67_T29 (And.intro BY (And.intro w1 (And.intro w2 (And.intro w3 (And.intro g2 (And.intro g3 m1)))))) ?_
    refine AR.callP qy True.intro byL_id ?_
    refine goG Y67_T29 (And.intro m1 (And.intro m2 m3)) ?_
    refine wdG Y67_T29 (And.intro m1 (And.intro m2 m3)) ?_
    refine Fin.gen0 (rs := [.tmp 4, .tmp 5]) rfl (by first | exact .inl rfl | exact .inr rfl) (by simp only [resX, resA, ↓accU_f, ↓reduceIte, SA, SB, SC, SD, Y67_T29, valG, fpsG, evO, evB, evA, evA1, nilK, eqF, eqC, apOk, intOf, slB, slK,  gd, St.ev, putA, ofl, wrl, putE, V.ofVal, V.ofCell, bin2, un1, seg, fillV, partsOk, Value.oneCell', Nat.reduceBEq, Nat.reduceLT, Nat.reduceSub, Nat.reduceAdd, Nat.reduceMul, Nat.reduceLeDiff, Nat.reduceEqDiff, reduceCtorEq, Int.reduceLT, Int.reduceLE, Int.reduceEq, Int.reduceNe, Int.reduceBEq, Int.reduceBNe, Int.reduceAdd, Int.reduceSub, Int.reduceMul, Int.reduceToNat]; with_reducible exact rfl) ?_
    repeat (first | exact WkF.of (Wk.refl _) (by first | rfl | simp only [List.length_cons, List.length_nil, Nat.reduceAdd, V.ids, V.idsL, idsA, entOk, List.all_cons, List.all_nil, Bool.and_self, Bool.and_true, Bool.true_and, ltB, noId, Nat.reduceLT, decide_true, Bool.true_eq_false, tyV_id, fdV_id, tyL_id, fdL_id, byL_id]) | exact WkF.of (Wk.ro _ _) (by first | rfl | simp only [List.length_cons, List.length_nil, Nat.reduceAdd, V.ids, V.idsL, idsA, entOk, List.all_cons, List.all_nil, Bool.and_self, Bool.and_true, Bool.true_and, ltB, noId, Nat.reduceLT, decide_true, Bool.true_eq_false, tyV_id, fdV_id, tyL_id, fdL_id, byL_id]) | refine WkF.tu ?_ | refine WkF.ag ?_ | refine WkFL.cons ?_ ?_ | exact WkFL.nil)
/-- What the reference's quoted gives at a position. -/
def quoA (s : Bs) (a : Nat) : Bs × Int := match quoP (s.drop (a + 1)) with
  | some (t, n) => (t, ((a + 1 + n : Nat) : Int))
  | none => ([], -1)
theorem quoA_some {s : Bs} {a n : Nat} {t : Bs} (h : quoP (s.drop (a + 1)) = some (t, n)) : quoA s a = (t, ((a + 1 + n : Nat) : Int)) := by unfold quoA; rw [h]
theorem quoA_none {s : Bs} {a : Nat} (h : quoP (s.drop (a + 1)) = none) : quoA s a = ([], -1) := by unfold quoA; rw [h]
theorem Y49_T29 : type_of% (And.intro @F_al_5 (And.intro @F_by_5 (And.intro @F_el_71 (And.intro @F_in_71 (And.intro @F_in_9 (And.intro @F_sz_5 (And.intro @F_un_5 (And.intro @F_un_71 (@F_un_9))))))))) := And.intro @F_al_5 (And.intro @F_by_5 (And.intro @F_el_71 (And.intro @F_in_71 (And.intro @F_in_9 (And.intro @F_sz_5 (And.intro @F_un_5 (And.intro @F_un_71 (@F_un_9))))))))
set_option maxHeartbeats 2000000 in
theorem c_quoR (s : Bs) (a : Nat) (ha : a < s.length) (hs : s.length ≤ 4194304) : PC Tryd.prog 49 [.im (.string ⟨(s).toArray⟩), (.im (.int .i64 ((a : Int))))] (.tu [.im (.string ⟨((quoA s a).1).toArray⟩), (.im (.int .i64 ((quoA s a).2)))]) := by
  have w1 : IntKind.i64.wrap ((a : Int) + 1) = ((a + 1 : Nat) : Int) := by rw [wrap_in (by omega)]; omega
  refine PC.enter 66 Tryd.func49 rfl (by decide) rfl rfl (s := [(0, .im (.string ⟨(s).toArray⟩)), (1, (.im (.int .i64 ((a : Int)))))]) (by rfl) ?_
  refine wG Y49_T29 w1 ?_
  refine AWp.loop ?_
  refine ALp.ghost 6 [] .nl 5 1 ?_
  suffices H : ∀ (k p : Nat) (A : Bs), s.length - p = k → a + 1 ≤ p → p ≤ s.length → A.length ≤ p → (quoP (s.drop (a + 1)) = (quoP (s.drop p)).map fun x => (A ++ x.1, x.2 + (p - (a + 1)))) → ALp _ _ _ _ _ ⟨dn 66 [(0, .im (.string ⟨(s).toArray⟩)), (1, (.im (.int .i64 ((((p) : Nat) : Int))))), (6, .sl (A.map byB) (.own 0))], ofl [.tip 5 1 A.length]⟩ by
    refine ALp.cutP 1 [(0, .im (.string ⟨(s).toArray⟩)), (1, (.im (.int .i64 (((a + 1 : Nat) : Int))))), (6, .sl (([] : Bs).map byB) (.own 0))] [.tip 5 1 ([] : Bs).length] byL_id ?_
    exact H _ (a + 1) [] rfl (Nat.le_refl _) ha (Nat.zero_le _) (by cases quoP (s.drop (a + 1)) <;> simp)
  intro k
  induction k using Nat.strongRecOn with
  | _ k ih =>
  intro p A hk hap hpl hA hq
  refine ALp.round ?_
  by_cases hlt : p < s.length
  case neg =>
    obtain rfl : p = s.length := by omega
    have hn : ¬ (s.length : Int) < (s.length : Int) := by omega
    have hn2 : (s.length : Int) ≥ (s.length : Int) := by omega
    rw [quoA_none (by rw [hq, List.drop_length]; rfl)]
    clear ih
    refine wG Y49_T29 (And.intro BY (And.intro hn hn2)) ?_
    refine Fin.gen0 (rs := [.tmp 4, .tmp 5]) rfl (by first | exact .inl rfl | exact .inr rfl) (by simp only [resX, resA, ↓accU_f, ↓reduceIte, SA, SB, SC, SD, Y49_T29, valG, fpsG, evO, evB, evA, evA1, nilK, eqF, eqC, apOk, intOf, slB, slK,  gd, St.ev, putA, ofl, wrl, putE, V.ofVal, V.ofCell, bin2, un1, seg, fillV, partsOk, Value.oneCell', Nat.reduceBEq, Nat.reduceLT, Nat.reduceSub, Nat.reduceAdd, Nat.reduceMul, Nat.reduceLeDiff, Nat.reduceEqDiff, reduceCtorEq, Int.reduceLT, Int.reduceLE, Int.reduceEq, Int.reduceNe, Int.reduceBEq, Int.reduceBNe, Int.reduceAdd, Int.reduceSub, Int.reduceMul, Int.reduceToNat]; with_reducible exact rfl) ?_
    repeat (first | exact WkF.of (Wk.refl _) (by first | rfl | simp only [List.length_cons, List.length_nil, Nat.reduceAdd, V.ids, V.idsL, idsA, entOk, List.all_cons, List.all_nil, Bool.and_self, Bool.and_true, Bool.true_and, ltB, noId, Nat.reduceLT, decide_true, Bool.true_eq_false, tyV_id, fdV_id, tyL_id, fdL_id, byL_id]) | exact WkF.of (Wk.ro _ _) (by first | rfl | simp only [List.length_cons, List.length_nil, Nat.reduceAdd, V.ids, V.idsL, idsA, entOk, List.all_cons, List.all_nil, Bool.and_self, Bool.and_true, Bool.true_and, ltB, noId, Nat.reduceLT, decide_true, Bool.true_eq_false, tyV_id, fdV_id, tyL_id, fdL_id, byL_id]) | refine WkF.tu ?_ | refine WkF.ag ?_ | refine WkFL.cons ?_ ?_ | exact WkFL.nil)
  have hlt' : (p : Int) < (s.length : Int) := by omega
  have hge : ¬ (p : Int) ≥ (s.length : Int) := by omega
  have hw1 := wrap_succ hlt (by omega)
  have hg : s[p]? = some s[p] := List.getElem?_eq_getElem hlt
  have hd : s.drop p = s[p] :: s.drop (p + 1) := List.drop_eq_getElem_cons hlt
  generalize s[p] = c at hg hd
  rw [hd, quoP_cons] at hq
  by_cases h34 : c.toNat = 34
  · have e1 : (c.toNat : Int) = 34 := by omega
    rw [if_pos h34] at hq
    rw [quoA_some (t := A) (n := p - a) (by rw [hq]; simp; omega), show a + 1 + (p - a) = p + 1 by omega]
    have hb := bytesOf_map A
    clear ih
    refine wG Y49_T29 (And.intro BY (And.intro hlt' (And.intro hg (And.intro e1 (And.intro hge (And.intro hb hw1)))))) ?_
    refine Fin.gen0 (rs := [.tmp 4, .tmp 5]) rfl (by first | exact .inl rfl | exact .inr rfl) (by simp only [resX, resA, ↓accU_f, ↓reduceIte, SA, SB, SC, SD, Y49_T29, valG, fpsG, evO, evB, evA, evA1, nilK, eqF, eqC, apOk, intOf, slB, slK,  gd, St.ev, putA, ofl, wrl, putE, V.ofVal, V.ofCell, bin2, un1, seg, fillV, partsOk, Value.oneCell', Nat.reduceBEq, Nat.reduceLT, Nat.reduceSub, Nat.reduceAdd, Nat.reduceMul, Nat.reduceLeDiff, Nat.reduceEqDiff, reduceCtorEq, Int.reduceLT, Int.reduceLE, Int.reduceEq, Int.reduceNe, Int.reduceBEq, Int.reduceBNe, Int.reduceAdd, Int.reduceSub, Int.reduceMul, Int.reduceToNat]; with_reducible exact rfl) ?_
    repeat (first | exact WkF.of (Wk.refl _) (by first | rfl | simp only [List.length_cons, List.length_nil, Nat.reduceAdd, V.ids, V.idsL, idsA, entOk, List.all_cons, List.all_nil, Bool.and_self, Bool.and_true, Bool.true_and, ltB, noId, Nat.reduceLT, decide_true, Bool.true_eq_false, tyV_id, fdV_id, tyL_id, fdL_id, byL_id]) | exact WkF.of (Wk.ro _ _) (by first | rfl | simp only [List.length_cons, List.length_nil, Nat.reduceAdd, V.ids, V.idsL, idsA, entOk, List.all_cons, List.all_nil, Bool.and_self, Bool.and_true, Bool.true_and, ltB, noId, Nat.reduceLT, decide_true, Bool.true_eq_false, tyV_id, fdV_id, tyL_id, fdL_id, byL_id]) | refine WkF.tu ?_ | refine WkF.ag ?_ | refine WkFL.cons ?_ ?_ | exact WkFL.nil)
  have e1 : ¬ (c.toNat : Int) = 34 := by omega
  rw [if_neg h34] at hq
  by_cases h92 : c.toNat = 92
  · have e2 : (c.toNat : Int) = 92 := by omega
    have e3 : ¬ (c.toNat : Int) < 32 := by omega
    have e4 : ¬ (c.toNat : Int) > 126 := by omega
    rw [if_pos h92] at hq
    have qe := c_escR s p hlt hs
    cases he : escP (s.drop (p + 1)) with
    | none =>
      rw [escA_none he] at qe
      rw [he] at hq
      rw [quoA_none (by rw [hq]; rfl)]
      clear ih
      refine wG Y49_T29 (And.intro BY (And.intro hlt' (And.intro hg (And.intro e1 (And.intro e2 (And.intro e3 e4)))))) ?_
      refine AR.callP qe True.intro byL_id ?_
      refine goG Y49_T29 True.intro ?_
      refine wG Y49_T29 True.intro ?_
      refine Fin.gen0 (rs := [.tmp 4, .tmp 5]) rfl (by first | exact .inl rfl | exact .inr rfl) (by simp only [resX, resA, ↓accU_f, ↓reduceIte, SA, SB, SC, SD, Y49_T29, valG, fpsG, evO, evB, evA, evA1, nilK, eqF, eqC, apOk, intOf, slB, slK,  gd, St.ev, putA, ofl, wrl, putE, V.ofVal, V.ofCell, bin2, un1, seg, fillV, partsOk, Value.oneCell', Nat.reduceBEq, Nat.reduceLT, Nat.reduceSub, Nat.reduceAdd, Nat.reduceMul, Nat.reduceLeDiff, Nat.reduceEqDiff, reduceCtorEq, Int.reduceLT, Int.reduceLE, Int.reduceEq, Int.reduceNe, Int.reduceBEq, Int.reduceBNe, Int.reduceAdd, Int.reduceSub, Int.reduceMul, Int.reduceToNat]; with_reducible exact rfl) ?_
      repeat (first | exact WkF.of (Wk.refl _) (by first | rfl | simp only [List.length_cons, List.length_nil, Nat.reduceAdd, V.ids, V.idsL, idsA, entOk, List.all_cons, List.all_nil, Bool.and_self, Bool.and_true, Bool.true_and, ltB, noId, Nat.reduceLT, decide_true, Bool.true_eq_false, tyV_id, fdV_id, tyL_id, fdL_id, byL_id]) | exact WkF.of (Wk.ro _ _) (by first | rfl | simp only [List.length_cons, List.length_nil, Nat.reduceAdd, V.ids, V.idsL, idsA, entOk, List.all_cons, List.all_nil, Bool.and_self, Bool.and_true, Bool.true_and, ltB, noId, Nat.reduceLT, decide_true, Bool.true_eq_false, tyV_id, fdV_id, tyL_id, fdL_id, byL_id]) | refine WkF.tu ?_ | refine WkF.ag ?_ | refine WkFL.cons ?_ ?_ | exact WkFL.nil)
    | some xn =>
    obtain ⟨x, n⟩ := xn
    rw [escA_some he] at qe
    have hn := escP_len he
    rw [List.length_drop] at hn
    rw [he] at hq
    have hn0 : ¬ ((n + 1 : Nat) : Int) = 0 := by omega
    have hw2 : IntKind.i64.wrap ((p : Int) + ((n + 1 : Nat) : Int)) = ((p + (n + 1) : Nat) : Int) := by rw [wrap_in (by omega)]; omega
    obtain ⟨B, hB⟩ : ∃ B, B = A ++ [x] := ⟨_, rfl⟩
    have hAs : A.map byB ++ [V.im (.int .u8 x.toNat)] = B.map byB := by rw [hB, List.map_append]; rfl
    have hAl : A.length + 1 = B.length := by rw [hB]; simp
    have hbl : B.length ≤ 140737488355328 := by omega
    have hI := ih (s.length - (p + (n + 1))) (by omega) (p + (n + 1)) B rfl (by omega) (by omega) (by omega) (by
      rw [hq]
      dsimp only
      rw [List.drop_drop, show p + 1 + n = p + (n + 1) by omega, hB]
      cases quoP (s.drop (p + (n + 1))) with
      | none => rfl
      | some y => obtain ⟨t, k⟩ := y; simp; omega)
    clear ih hB
    refine wG Y49_T29 (And.intro BY (And.intro hlt' (And.intro hg (And.intro e1 (And.intro e2 (And.intro e3 e4)))))) ?_
    refine AR.callP qe True.intro byL_id ?_
    refine goG Y49_T29 True.intro ?_
    refine wG Y49_T29 (And.intro hn0 (And.intro hAs (And.intro hAl (And.intro hbl (And.intro hw2 (And.intro (@List.length_map.{0, 0}) @Nat.mul_one)))))) ?_
    refine ALp.cutP 1 [(0, .im (.string ⟨(s).toArray⟩)), (1, (.im (.int .i64 (((p + (n + 1) : Nat) : Int))))), (6, .sl (B.map byB) (.own 0))] [.tip 5 1 B.length] byL_id ?_
    exact hI
  have e2 : ¬ (c.toNat : Int) = 92 := by omega
  rw [if_neg h92] at hq
  by_cases hlo : c.toNat < 32
  · have e3 : (c.toNat : Int) < 32 := by omega
    rw [if_pos (.inl hlo)] at hq
    rw [quoA_none (by rw [hq]; rfl)]
    clear ih
    refine wG Y49_T29 (And.intro BY (And.intro hlt' (And.intro hg (And.intro e1 (And.intro e2 e3))))) ?_
    refine Fin.gen0 (rs := [.tmp 4, .tmp 5]) rfl (by first | exact .inl rfl | exact .inr rfl) (by simp only [resX, resA, ↓accU_f, ↓reduceIte, SA, SB, SC, SD, Y49_T29, valG, fpsG, evO, evB, evA, evA1, nilK, eqF, eqC, apOk, intOf, slB, slK,  gd, St.ev, putA, ofl, wrl, putE, V.ofVal, V.ofCell, bin2, un1, seg, fillV, partsOk, Value.oneCell', Nat.reduceBEq, Nat.reduceLT, Nat.reduceSub, Nat.reduceAdd, Nat.reduceMul, Nat.reduceLeDiff, Nat.reduceEqDiff, reduceCtorEq, Int.reduceLT, Int.reduceLE, Int.reduceEq, Int.reduceNe, Int.reduceBEq, Int.reduceBNe, Int.reduceAdd, Int.reduceSub, Int.reduceMul, Int.reduceToNat]; with_reducible exact rfl) ?_
    repeat (first | exact WkF.of (Wk.refl _) (by first | rfl | simp only [List.length_cons, List.length_nil, Nat.reduceAdd, V.ids, V.idsL, idsA, entOk, List.all_cons, List.all_nil, Bool.and_self, Bool.and_true, Bool.true_and, ltB, noId, Nat.reduceLT, decide_true, Bool.true_eq_false, tyV_id, fdV_id, tyL_id, fdL_id, byL_id]) | exact WkF.of (Wk.ro _ _) (by first | rfl | simp only [List.length_cons, List.length_nil, Nat.reduceAdd, V.ids, V.idsL, idsA, entOk, List.all_cons, List.all_nil, Bool.and_self, Bool.and_true, Bool.true_and, ltB, noId, Nat.reduceLT, decide_true, Bool.true_eq_false, tyV_id, fdV_id, tyL_id, fdL_id, byL_id]) | refine WkF.tu ?_ | refine WkF.ag ?_ | refine WkFL.cons ?_ ?_ | exact WkFL.nil)
  have e3 : ¬ (c.toNat : Int) < 32 := by omega
  by_cases hhi : 126 < c.toNat
  · have e4 : (c.toNat : Int) > 126 := by omega
    rw [if_pos (.inr hhi)] at hq
    rw [quoA_none (by rw [hq]; rfl)]
    clear ih
    refine wG Y49_T29 (And.intro BY (And.intro hlt' (And.intro hg (And.intro e1 (And.intro e2 (And.intro e3 e4)))))) ?_
    refine Fin.gen0 (rs := [.tmp 4, .tmp 5]) rfl (by first | exact .inl rfl | exact .inr rfl) (by simp only [resX, resA, ↓accU_f, ↓reduceIte, SA, SB, SC, SD, Y49_T29, valG, fpsG, evO, evB, evA, evA1, nilK, eqF, eqC, apOk, intOf, slB, slK,  gd, St.ev, putA, ofl, wrl, putE, V.ofVal, V.ofCell, bin2, un1, seg, fillV, partsOk, Value.oneCell', Nat.reduceBEq, Nat.reduceLT, Nat.reduceSub, Nat.reduceAdd, Nat.reduceMul, Nat.reduceLeDiff, Nat.reduceEqDiff, reduceCtorEq, Int.reduceLT, Int.reduceLE, Int.reduceEq, Int.reduceNe, Int.reduceBEq, Int.reduceBNe, Int.reduceAdd, Int.reduceSub, Int.reduceMul, Int.reduceToNat]; with_reducible exact rfl) ?_
    repeat (first | exact WkF.of (Wk.refl _) (by first | rfl | simp only [List.length_cons, List.length_nil, Nat.reduceAdd, V.ids, V.idsL, idsA, entOk, List.all_cons, List.all_nil, Bool.and_self, Bool.and_true, Bool.true_and, ltB, noId, Nat.reduceLT, decide_true, Bool.true_eq_false, tyV_id, fdV_id, tyL_id, fdL_id, byL_id]) | exact WkF.of (Wk.ro _ _) (by first | rfl | simp only [List.length_cons, List.length_nil, Nat.reduceAdd, V.ids, V.idsL, idsA, entOk, List.all_cons, List.all_nil, Bool.and_self, Bool.and_true, Bool.true_and, ltB, noId, Nat.reduceLT, decide_true, Bool.true_eq_false, tyV_id, fdV_id, tyL_id, fdL_id, byL_id]) | refine WkF.tu ?_ | refine WkF.ag ?_ | refine WkFL.cons ?_ ?_ | exact WkFL.nil)
  have e4 : ¬ (c.toNat : Int) > 126 := by omega
  rw [if_neg (by omega)] at hq
  obtain ⟨B, hB⟩ : ∃ B, B = A ++ [c] := ⟨_, rfl⟩
  have hAs : A.map byB ++ [V.im (.int .u8 c.toNat)] = B.map byB := by rw [hB, List.map_append]; rfl
  have hAl : A.length + 1 = B.length := by rw [hB]; simp
  have hbl : B.length ≤ 140737488355328 := by omega
  have hI := ih (s.length - (p + 1)) (by omega) (p + 1) B rfl (by omega) (by omega) (by omega) (by
    rw [hq, hB]
    cases quoP (s.drop (p + 1)) with
    | none => rfl
    | some y => obtain ⟨t, k⟩ := y; simp; omega)
  clear ih hB
  refine wG Y49_T29 (And.intro BY (And.intro hlt' (And.intro hg (And.intro e1 (And.intro e2 (And.intro e3 (And.intro e4 (And.intro hAs (And.intro hAl (And.intro hbl (And.intro hw1 (And.intro (@List.length_map.{0, 0}) @Nat.mul_one)))))))))))) ?_
  refine ALp.cutP 1 [(0, .im (.string ⟨(s).toArray⟩)), (1, (.im (.int .i64 (((p + 1 : Nat) : Int))))), (6, .sl (B.map byB) (.own 0))] [.tip 5 1 B.length] byL_id ?_
  exact hI
end Go.Proofs.YtjilcaemoebloaaDoor

