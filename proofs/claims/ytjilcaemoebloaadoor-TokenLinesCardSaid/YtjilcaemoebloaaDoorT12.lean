/- Walks: the token that comes next. -/
import Derived.Test.YtjilcaemoebloaaDoorHv
import Derived.Test.YtjilcaemoebloaaDoorT11
namespace Go.Proofs.YtjilcaemoebloaaDoor
set_option linter.unusedSimpArgs false
set_option linter.unusedVariables false
set_option linter.unnecessarySimpa false
open Go.RowKit
/-- What next gives: a token, its length, and whether there is one. -/
def nxtR (s : Bs) : Tk × Nat × Bool :=
  if 0 < (s.takeWhile isW).length then ((namR (s.takeWhile isW)).1, (s.takeWhile isW).length, (namR (s.takeWhile isW)).2)
  else if s.head? = some 34 then (⟨4, (quoR (s.drop 1)).1, 0, 0, 0⟩, (quoR (s.drop 1)).2.1, (quoR (s.drop 1)).2.2)
  else (⟨5, (symR s).1, 0, 0, 0⟩, (symR s).1.length, (symR s).2)
theorem isW_lt {c : UInt8} (h : isW c = true) : c.toNat < 128 := by
  have := u8_all (fun c => !isW c || decide (c.toNat < 128)) (by decide +kernel) c
  rw [h] at this
  simpa using this
theorem Y25_T12 : type_of% (And.intro @F_ag_30 (And.intro @F_ag_9 (And.intro @F_al_30 (And.intro @F_fl_49_0 (And.intro @F_st_30 (And.intro @F_sz_30 (And.intro @F_sz_9 (@F_un_9)))))))) := And.intro @F_ag_30 (And.intro @F_ag_9 (And.intro @F_al_30 (And.intro @F_fl_49_0 (And.intro @F_st_30 (And.intro @F_sz_30 (And.intro @F_sz_9 (@F_un_9)))))))
set_option maxHeartbeats 2000000 in
theorem c_next (s : Bs) (p : Int × Int) (ts : List Tk) (hs : s.length ≤ 4194304) (h0 : s ≠ []) : DC Tryd.prog 25 [.pt 0 0] [.box [.im (.string ⟨(s).toArray⟩), (.im (.int .i64 (p.1))), (.im (.int .i64 (p.2))), .sl (ts.map tkV) (.mine 1)], .tip 30 5 ts.length] (.tu [tkV (nxtR s).1, (.im (.int .i64 (((nxtR s).2.1 : Int)))), (.im (.bool ((nxtR s).2.2)))]) [.box [.im (.string ⟨(s).toArray⟩), (.im (.int .i64 (p.1))), (.im (.int .i64 (p.2))), .sl (ts.map tkV) (.mine 1)], .tip 30 5 ts.length] := by
  have qw := c_word s p ts
  have htk : (s.takeWhile isW).length ≤ s.length := (List.takeWhile_prefix isW).length_le
  have hpre : s.take (s.takeWhile isW).length = s.takeWhile isW := (List.prefix_iff_eq_take.1 (List.takeWhile_prefix isW)).symm
  by_cases hw : 0 < (s.takeWhile isW).length
  · have hR : nxtR s = ((namR (s.takeWhile isW)).1, (s.takeWhile isW).length, (namR (s.takeWhile isW)).2) := if_pos hw
    have qn := c_named (s.takeWhile isW) (by omega) (fun h => by rw [h] at hw; exact absurd hw (by decide)) (fun c hc => isW_lt (takeW_all c hc))
    rw [hR]
    generalize s.takeWhile isW = w at qw htk hpre hw qn
    have hw' : (w.length : Int) > 0 := by omega
    have hle : (w.length : Int) ≤ (s.length : Int) := by omega
    refine DC.enter 62 Tryd.func25 rfl (by decide) rfl rfl (s := [(0, .pt 0 0)]) (by rfl) ?_
    refine wG Y25_T12 True.intro ?_
    refine AR.callQP [0, 1] qw True.intro (And.intro tkL_id (And.intro tkV_id byL_id)) (And.intro tkV_ren (And.intro tkL_ren byL_ren)) ?_
    refine goG Y25_T12 True.intro ?_
    refine wG Y25_T12 (And.intro BY (And.intro GDS (And.intro hw' (And.intro hle hpre)))) ?_
    refine AR.callP qn True.intro (And.intro tkL_id (And.intro tkV_id byL_id)) ?_
    refine goG Y25_T12 TKT ?_
    refine wG Y25_T12 TKT ?_
    refine Fin.gen (rs := [.cell 2 30, .tmp 3, .tmp 4]) rfl (by first | exact .inl rfl | exact .inr rfl) (by simp only [resX, resA, ↓accU_f, ↓reduceIte, SA, SB, SC, SD, Y25_T12, valG, fpsG, evO, evB, evA, evA1, nilK, eqF, eqC, apOk, intOf, slB, slK,  gd, St.ev, putA, ofl, wrl, putE, V.ofVal, V.ofCell, bin2, un1, seg, fillV, partsOk, Value.oneCell', Nat.reduceBEq, Nat.reduceLT, Nat.reduceSub, Nat.reduceAdd, Nat.reduceMul, Nat.reduceLeDiff, Nat.reduceEqDiff, reduceCtorEq, Int.reduceLT, Int.reduceLE, Int.reduceEq, Int.reduceNe, Int.reduceBEq, Int.reduceBNe, Int.reduceAdd, Int.reduceSub, Int.reduceMul, Int.reduceToNat]; with_reducible exact rfl) ?_ rfl (by first | rfl | simp only [List.length_cons, List.length_nil, Nat.reduceAdd, V.ids, V.idsL, idsA, entOk, List.all_cons, List.all_nil, Bool.and_self, Bool.and_true, Bool.true_and, ltB, noId, Nat.reduceLT, decide_true, Bool.true_eq_false, tyV_id, fdV_id, tyL_id, fdL_id, tkL_id, tkV_id, byL_id])
    repeat (first | exact WkF.of (Wk.refl _) (by first | rfl | simp only [List.length_cons, List.length_nil, Nat.reduceAdd, V.ids, V.idsL, idsA, entOk, List.all_cons, List.all_nil, Bool.and_self, Bool.and_true, Bool.true_and, ltB, noId, Nat.reduceLT, decide_true, Bool.true_eq_false, tyV_id, fdV_id, tyL_id, fdL_id, tkL_id, tkV_id, byL_id]) | exact WkF.of (Wk.ro _ _) (by first | rfl | simp only [List.length_cons, List.length_nil, Nat.reduceAdd, V.ids, V.idsL, idsA, entOk, List.all_cons, List.all_nil, Bool.and_self, Bool.and_true, Bool.true_and, ltB, noId, Nat.reduceLT, decide_true, Bool.true_eq_false, tyV_id, fdV_id, tyL_id, fdL_id, tkL_id, tkV_id, byL_id]) | refine WkF.tu ?_ | refine WkF.ag ?_ | refine WkFL.cons ?_ ?_ | exact WkFL.nil)
  have hR : nxtR s = if s.head? = some 34 then (⟨4, (quoR (s.drop 1)).1, 0, 0, 0⟩, (quoR (s.drop 1)).2.1, (quoR (s.drop 1)).2.2) else (⟨5, (symR s).1, 0, 0, 0⟩, (symR s).1.length, (symR s).2) := if_neg hw
  have qq := c_quoted s hs h0
  have qs := c_symbol s hs h0
  rw [show (s.takeWhile isW).length = 0 by omega] at qw
  clear hpre htk hw
  cases s with
  | nil => exact absurd rfl h0
  | cons c r =>
  have g0 : (c :: r)[0]? = some c := rfl
  have hgt : ¬ (0 : Int) > 0 := by decide
  by_cases h34 : c.toNat = 34
  · have e1 : (((34 : UInt8).toNat : Nat) : Int) = 34 := rfl
    obtain rfl : c = 34 := toNat_inj h34
    rw [hR, if_pos (show ((34 : UInt8) :: r).head? = some 34 from rfl)]
    generalize quoR (List.drop 1 ((34 : UInt8) :: r)) = q at qq
    obtain ⟨t, n, b⟩ := q
    refine DC.enter 62 Tryd.func25 rfl (by decide) rfl rfl (s := [(0, .pt 0 0)]) (by rfl) ?_
    refine wG Y25_T12 True.intro ?_
    refine AR.callQP [0, 1] qw True.intro (And.intro tkL_id (And.intro tkV_id byL_id)) (And.intro tkV_ren (And.intro tkL_ren byL_ren)) ?_
    refine goG Y25_T12 True.intro ?_
    refine wG Y25_T12 (And.intro BY (And.intro GDS (And.intro hgt (And.intro g0 e1)))) ?_
    refine AR.callP qq True.intro (And.intro tkL_id (And.intro tkV_id byL_id)) ?_
    refine goG Y25_T12 True.intro ?_
    refine wG Y25_T12 True.intro ?_
    refine Fin.gen (rs := [.cell 2 30, .tmp 3, .tmp 4]) rfl (by first | exact .inl rfl | exact .inr rfl) (by simp only [resX, resA, ↓accU_f, ↓reduceIte, SA, SB, SC, SD, Y25_T12, valG, fpsG, evO, evB, evA, evA1, nilK, eqF, eqC, apOk, intOf, slB, slK,  gd, St.ev, putA, ofl, wrl, putE, V.ofVal, V.ofCell, bin2, un1, seg, fillV, partsOk, Value.oneCell', Nat.reduceBEq, Nat.reduceLT, Nat.reduceSub, Nat.reduceAdd, Nat.reduceMul, Nat.reduceLeDiff, Nat.reduceEqDiff, reduceCtorEq, Int.reduceLT, Int.reduceLE, Int.reduceEq, Int.reduceNe, Int.reduceBEq, Int.reduceBNe, Int.reduceAdd, Int.reduceSub, Int.reduceMul, Int.reduceToNat]; with_reducible exact rfl) ?_ rfl (by first | rfl | simp only [List.length_cons, List.length_nil, Nat.reduceAdd, V.ids, V.idsL, idsA, entOk, List.all_cons, List.all_nil, Bool.and_self, Bool.and_true, Bool.true_and, ltB, noId, Nat.reduceLT, decide_true, Bool.true_eq_false, tyV_id, fdV_id, tyL_id, fdL_id, tkL_id, tkV_id, byL_id])
    repeat (first | exact WkF.of (Wk.refl _) (by first | rfl | simp only [List.length_cons, List.length_nil, Nat.reduceAdd, V.ids, V.idsL, idsA, entOk, List.all_cons, List.all_nil, Bool.and_self, Bool.and_true, Bool.true_and, ltB, noId, Nat.reduceLT, decide_true, Bool.true_eq_false, tyV_id, fdV_id, tyL_id, fdL_id, tkL_id, tkV_id, byL_id]) | exact WkF.of (Wk.ro _ _) (by first | rfl | simp only [List.length_cons, List.length_nil, Nat.reduceAdd, V.ids, V.idsL, idsA, entOk, List.all_cons, List.all_nil, Bool.and_self, Bool.and_true, Bool.true_and, ltB, noId, Nat.reduceLT, decide_true, Bool.true_eq_false, tyV_id, fdV_id, tyL_id, fdL_id, tkL_id, tkV_id, byL_id]) | refine WkF.tu ?_ | refine WkF.ag ?_ | refine WkFL.cons ?_ ?_ | exact WkFL.nil)
  · have e1 : ¬ (c.toNat : Int) = 34 := by omega
    rw [hR, if_neg (show ¬ (c :: r).head? = some 34 from fun h => h34 (by rw [Option.some.inj h]; rfl))]
    generalize symR (c :: r) = q at qs
    obtain ⟨t, b⟩ := q
    refine DC.enter 62 Tryd.func25 rfl (by decide) rfl rfl (s := [(0, .pt 0 0)]) (by rfl) ?_
    refine wG Y25_T12 True.intro ?_
    refine AR.callQP [0, 1] qw True.intro (And.intro tkL_id (And.intro tkV_id byL_id)) (And.intro tkV_ren (And.intro tkL_ren byL_ren)) ?_
    refine goG Y25_T12 True.intro ?_
    refine wG Y25_T12 (And.intro BY (And.intro GDS (And.intro hgt (And.intro g0 e1)))) ?_
    refine AR.callP qs True.intro (And.intro tkL_id (And.intro tkV_id byL_id)) ?_
    refine goG Y25_T12 True.intro ?_
    refine wG Y25_T12 (And.intro BY bS_size) ?_
    refine Fin.gen (rs := [.cell 2 30, .tmp 3, .tmp 4]) rfl (by first | exact .inl rfl | exact .inr rfl) (by simp only [resX, resA, ↓accU_f, ↓reduceIte, SA, SB, SC, SD, Y25_T12, valG, fpsG, evO, evB, evA, evA1, nilK, eqF, eqC, apOk, intOf, slB, slK,  gd, St.ev, putA, ofl, wrl, putE, V.ofVal, V.ofCell, bin2, un1, seg, fillV, partsOk, Value.oneCell', Nat.reduceBEq, Nat.reduceLT, Nat.reduceSub, Nat.reduceAdd, Nat.reduceMul, Nat.reduceLeDiff, Nat.reduceEqDiff, reduceCtorEq, Int.reduceLT, Int.reduceLE, Int.reduceEq, Int.reduceNe, Int.reduceBEq, Int.reduceBNe, Int.reduceAdd, Int.reduceSub, Int.reduceMul, Int.reduceToNat]; with_reducible exact rfl) ?_ rfl (by first | rfl | simp only [List.length_cons, List.length_nil, Nat.reduceAdd, V.ids, V.idsL, idsA, entOk, List.all_cons, List.all_nil, Bool.and_self, Bool.and_true, Bool.true_and, ltB, noId, Nat.reduceLT, decide_true, Bool.true_eq_false, tyV_id, fdV_id, tyL_id, fdL_id, tkL_id, tkV_id, byL_id])
    repeat (first | exact WkF.of (Wk.refl _) (by first | rfl | simp only [List.length_cons, List.length_nil, Nat.reduceAdd, V.ids, V.idsL, idsA, entOk, List.all_cons, List.all_nil, Bool.and_self, Bool.and_true, Bool.true_and, ltB, noId, Nat.reduceLT, decide_true, Bool.true_eq_false, tyV_id, fdV_id, tyL_id, fdL_id, tkL_id, tkV_id, byL_id]) | exact WkF.of (Wk.ro _ _) (by first | rfl | simp only [List.length_cons, List.length_nil, Nat.reduceAdd, V.ids, V.idsL, idsA, entOk, List.all_cons, List.all_nil, Bool.and_self, Bool.and_true, Bool.true_and, ltB, noId, Nat.reduceLT, decide_true, Bool.true_eq_false, tyV_id, fdV_id, tyL_id, fdL_id, tkL_id, tkV_id, byL_id]) | refine WkF.tu ?_ | refine WkF.ag ?_ | refine WkFL.cons ?_ ?_ | exact WkFL.nil)
end Go.Proofs.YtjilcaemoebloaaDoor

