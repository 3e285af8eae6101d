/- Walks: Print of the reference; the law TokenPrints. -/
import Derived.Test.YtjilcaemoebloaaDoorHv
import Derived.Test.YtjilcaemoebloaaDoorT25
namespace Go.Proofs.YtjilcaemoebloaaDoor
set_option linter.unusedSimpArgs false
set_option linter.unusedVariables false
set_option linter.unnecessarySimpa false
open Go.RowKit
theorem Y32_T26 : type_of% (And.intro @F_ag_28 (And.intro @F_ag_3 (And.intro @F_ag_9 (And.intro @F_fl_37_0 (And.intro @F_fl_37_1 (And.intro @F_fl_37_2 (And.intro @F_sz_28 (And.intro @F_sz_3 (@F_sz_9))))))))) := And.intro @F_ag_28 (And.intro @F_ag_3 (And.intro @F_ag_9 (And.intro @F_fl_37_0 (And.intro @F_fl_37_1 (And.intro @F_fl_37_2 (And.intro @F_sz_28 (And.intro @F_sz_3 (@F_sz_9))))))))
set_option maxHeartbeats 1000000 in
theorem c_textR (t : Tk) (hn : 0 ≤ t.n ∧ t.n < 4294967296) (ht : t.text.length ≤ 4194304) : PC Tryd.prog 32 [tkV t] (.tu [.im (.string ⟨((shwR t).1).toArray⟩), (.im (.bool ((shwR t).2)))]) := by
  have qq := c_QuoteR t.text ht
  obtain ⟨kd, tx, n, li, co⟩ := t
  simp only at hn ht qq
  rw [tkV_eq]
  simp only
  obtain ⟨n, rfl⟩ : ∃ m : Nat, n = m := ⟨n.toNat, by omega⟩
  have qh : PC Tryd.prog 51 [.im (.int .u32 ((n : Int))), (.im (.int .i64 (1)))] (.im (.string ⟨(hexS n).toArray⟩)) := by
    have q := c_hex n 1 (by omega) (by decide)
    rw [hx_1 n] at q
    exact q
  by_cases h5 : kd = 1 ∨ kd = 2 ∨ kd = 5
  · rw [show shwR ⟨kd, tx, n, li, co⟩ = (tx, true) by unfold shwR shw; rw [if_pos h5]]
    by_cases h1 : kd = 1
    · refine PC.enter 29 Tryd.func32 rfl (by decide) rfl rfl (s := [(0, .ag [(.im (.int .i64 (kd))), .im (.string ⟨(tx).toArray⟩), .im (.int .u32 (n : Int)), (.im (.int .i64 (li))), (.im (.int .i64 (co)))])]) (by rfl) ?_
      refine wG Y32_T26 h1 ?_
      refine Fin.gen0 (rs := [.tmp 2, .tmp 3]) rfl (by first | exact .inl rfl | exact .inr rfl) (by simp only [resX, resA, ↓accU_f, ↓reduceIte, SA, SB, SC, SD, Y32_T26, valG, fpsG, evO, evB, evA, evA1, nilK, eqF, eqC, apOk, intOf, slB, slK,  gd, St.ev, putA, ofl, wrl, putE, V.ofVal, V.ofCell, bin2, un1, seg, fillV, partsOk, Value.oneCell', Nat.reduceBEq, Nat.reduceLT, Nat.reduceSub, Nat.reduceAdd, Nat.reduceMul, Nat.reduceLeDiff, Nat.reduceEqDiff, reduceCtorEq, Int.reduceLT, Int.reduceLE, Int.reduceEq, Int.reduceNe, Int.reduceBEq, Int.reduceBNe, Int.reduceAdd, Int.reduceSub, Int.reduceMul, Int.reduceToNat]; with_reducible exact rfl) ?_
      repeat (first | exact WkF.of (Wk.refl _) (by first | rfl | simp only [List.length_cons, List.length_nil, Nat.reduceAdd, V.ids, V.idsL, idsA, entOk, List.all_cons, List.all_nil, Bool.and_self, Bool.and_true, Bool.true_and, ltB, noId, Nat.reduceLT, decide_true, Bool.true_eq_false, tyV_id, fdV_id, tyL_id, fdL_id, tkL_id, tkV_id, byL_id, sL_id]) | exact WkF.of (Wk.ro _ _) (by first | rfl | simp only [List.length_cons, List.length_nil, Nat.reduceAdd, V.ids, V.idsL, idsA, entOk, List.all_cons, List.all_nil, Bool.and_self, Bool.and_true, Bool.true_and, ltB, noId, Nat.reduceLT, decide_true, Bool.true_eq_false, tyV_id, fdV_id, tyL_id, fdL_id, tkL_id, tkV_id, byL_id, sL_id]) | refine WkF.tu ?_ | refine WkF.ag ?_ | refine WkFL.cons ?_ ?_ | exact WkFL.nil)
    by_cases h2 : kd = 2
    · refine PC.enter 29 Tryd.func32 rfl (by decide) rfl rfl (s := [(0, .ag [(.im (.int .i64 (kd))), .im (.string ⟨(tx).toArray⟩), .im (.int .u32 (n : Int)), (.im (.int .i64 (li))), (.im (.int .i64 (co)))])]) (by rfl) ?_
      refine wG Y32_T26 (And.intro h1 h2) ?_
      refine Fin.gen0 (rs := [.tmp 2, .tmp 3]) rfl (by first | exact .inl rfl | exact .inr rfl) (by simp only [resX, resA, ↓accU_f, ↓reduceIte, SA, SB, SC, SD, Y32_T26, valG, fpsG, evO, evB, evA, evA1, nilK, eqF, eqC, apOk, intOf, slB, slK,  gd, St.ev, putA, ofl, wrl, putE, V.ofVal, V.ofCell, bin2, un1, seg, fillV, partsOk, Value.oneCell', Nat.reduceBEq, Nat.reduceLT, Nat.reduceSub, Nat.reduceAdd, Nat.reduceMul, Nat.reduceLeDiff, Nat.reduceEqDiff, reduceCtorEq, Int.reduceLT, Int.reduceLE, Int.reduceEq, Int.reduceNe, Int.reduceBEq, Int.reduceBNe, Int.reduceAdd, Int.reduceSub, Int.reduceMul, Int.reduceToNat]; with_reducible exact rfl) ?_
      repeat (first | exact WkF.of (Wk.refl _) (by first | rfl | simp only [List.length_cons, List.length_nil, Nat.reduceAdd, V.ids, V.idsL, idsA, entOk, List.all_cons, List.all_nil, Bool.and_self, Bool.and_true, Bool.true_and, ltB, noId, Nat.reduceLT, decide_true, Bool.true_eq_false, tyV_id, fdV_id, tyL_id, fdL_id, tkL_id, tkV_id, byL_id, sL_id]) | exact WkF.of (Wk.ro _ _) (by first | rfl | simp only [List.length_cons, List.length_nil, Nat.reduceAdd, V.ids, V.idsL, idsA, entOk, List.all_cons, List.all_nil, Bool.and_self, Bool.and_true, Bool.true_and, ltB, noId, Nat.reduceLT, decide_true, Bool.true_eq_false, tyV_id, fdV_id, tyL_id, fdL_id, tkL_id, tkV_id, byL_id, sL_id]) | refine WkF.tu ?_ | refine WkF.ag ?_ | refine WkFL.cons ?_ ?_ | exact WkFL.nil)
    have h3 : kd = 5 := by omega
    refine PC.enter 29 Tryd.func32 rfl (by decide) rfl rfl (s := [(0, .ag [(.im (.int .i64 (kd))), .im (.string ⟨(tx).toArray⟩), .im (.int .u32 (n : Int)), (.im (.int .i64 (li))), (.im (.int .i64 (co)))])]) (by rfl) ?_
    refine wG Y32_T26 (And.intro h1 (And.intro h2 h3)) ?_
    refine Fin.gen0 (rs := [.tmp 2, .tmp 3]) rfl (by first | exact .inl rfl | exact .inr rfl) (by simp only [resX, resA, ↓accU_f, ↓reduceIte, SA, SB, SC, SD, Y32_T26, valG, fpsG, evO, evB, evA, evA1, nilK, eqF, eqC, apOk, intOf, slB, slK,  gd, St.ev, putA, ofl, wrl, putE, V.ofVal, V.ofCell, bin2, un1, seg, fillV, partsOk, Value.oneCell', Nat.reduceBEq, Nat.reduceLT, Nat.reduceSub, Nat.reduceAdd, Nat.reduceMul, Nat.reduceLeDiff, Nat.reduceEqDiff, reduceCtorEq, Int.reduceLT, Int.reduceLE, Int.reduceEq, Int.reduceNe, Int.reduceBEq, Int.reduceBNe, Int.reduceAdd, Int.reduceSub, Int.reduceMul, Int.reduceToNat]; with_reducible exact rfl) ?_
    repeat (first | exact WkF.of (Wk.refl _) (by first | rfl | simp only [List.length_cons, List.length_nil, Nat.reduceAdd, V.ids, V.idsL, idsA, entOk, List.all_cons, List.all_nil, Bool.and_self, Bool.and_true, Bool.true_and, ltB, noId, Nat.reduceLT, decide_true, Bool.true_eq_false, tyV_id, fdV_id, tyL_id, fdL_id, tkL_id, tkV_id, byL_id, sL_id]) | exact WkF.of (Wk.ro _ _) (by first | rfl | simp only [List.length_cons, List.length_nil, Nat.reduceAdd, V.ids, V.idsL, idsA, entOk, List.all_cons, List.all_nil, Bool.and_self, Bool.and_true, Bool.true_and, ltB, noId, Nat.reduceLT, decide_true, Bool.true_eq_false, tyV_id, fdV_id, tyL_id, fdL_id, tkL_id, tkV_id, byL_id, sL_id]) | refine WkF.tu ?_ | refine WkF.ag ?_ | refine WkFL.cons ?_ ?_ | exact WkFL.nil)
  have h1 : ¬ kd = 1 := by omega
  have h2 : ¬ kd = 2 := by omega
  have h3 : ¬ kd = 5 := by omega
  have e1 : shwR ⟨kd, tx, n, li, co⟩ = match (if kd = 3 then some (numS n) else if kd = 4 then some (quoS tx) else none : Option Bs) with
    | some s => (s, true)
    | none => ([], false) := by unfold shwR shw; rw [if_neg h5]; rfl
  rw [e1]
  by_cases h4 : kd = 3
  · rw [if_pos h4]
    by_cases h9 : n ≤ 9
    · have h9' : (n : Int) ≤ 9 := by omega
      rw [show numS n = hexS n by rw [hexS_lt (by omega)]; exact if_pos h9]
      refine PC.enter 29 Tryd.func32 rfl (by decide) rfl rfl (s := [(0, .ag [(.im (.int .i64 (kd))), .im (.string ⟨(tx).toArray⟩), .im (.int .u32 (n : Int)), (.im (.int .i64 (li))), (.im (.int .i64 (co)))])]) (by rfl) ?_
      refine wG Y32_T26 (And.intro h1 (And.intro h2 (And.intro h3 (And.intro h4 h9')))) ?_
      refine AR.callP qh True.intro (And.intro tkL_id (And.intro tkV_id (And.intro byL_id sL_id))) ?_
      refine goG Y32_T26 True.intro ?_
      refine wG Y32_T26 True.intro ?_
      refine Fin.gen0 (rs := [.tmp 2, .tmp 3]) rfl (by first | exact .inl rfl | exact .inr rfl) (by simp only [resX, resA, ↓accU_f, ↓reduceIte, SA, SB, SC, SD, Y32_T26, valG, fpsG, evO, evB, evA, evA1, nilK, eqF, eqC, apOk, intOf, slB, slK,  gd, St.ev, putA, ofl, wrl, putE, V.ofVal, V.ofCell, bin2, un1, seg, fillV, partsOk, Value.oneCell', Nat.reduceBEq, Nat.reduceLT, Nat.reduceSub, Nat.reduceAdd, Nat.reduceMul, Nat.reduceLeDiff, Nat.reduceEqDiff, reduceCtorEq, Int.reduceLT, Int.reduceLE, Int.reduceEq, Int.reduceNe, Int.reduceBEq, Int.reduceBNe, Int.reduceAdd, Int.reduceSub, Int.reduceMul, Int.reduceToNat]; with_reducible exact rfl) ?_
      repeat (first | exact WkF.of (Wk.refl _) (by first | rfl | simp only [List.length_cons, List.length_nil, Nat.reduceAdd, V.ids, V.idsL, idsA, entOk, List.all_cons, List.all_nil, Bool.and_self, Bool.and_true, Bool.true_and, ltB, noId, Nat.reduceLT, decide_true, Bool.true_eq_false, tyV_id, fdV_id, tyL_id, fdL_id, tkL_id, tkV_id, byL_id, sL_id]) | exact WkF.of (Wk.ro _ _) (by first | rfl | simp only [List.length_cons, List.length_nil, Nat.reduceAdd, V.ids, V.idsL, idsA, entOk, List.all_cons, List.all_nil, Bool.and_self, Bool.and_true, Bool.true_and, ltB, noId, Nat.reduceLT, decide_true, Bool.true_eq_false, tyV_id, fdV_id, tyL_id, fdL_id, tkL_id, tkV_id, byL_id, sL_id]) | refine WkF.tu ?_ | refine WkF.ag ?_ | refine WkFL.cons ?_ ?_ | exact WkFL.nil)
    · have h9' : ¬ (n : Int) ≤ 9 := by omega
      have hsz : (ByteArray.mk #[48, 120]).size + (ByteArray.mk (hexS n).toArray).size ≤ 9223372036854775807 := by
        rw [bS_size, bS_size, show ([48, 120] : Bs).length = 2 from rfl]
        have := hexG_len 7 (n + 1) n (by omega) (by omega)
        unfold hexS
        omega
      rw [show numS n = 48 :: 120 :: hexS n from if_neg h9]
      refine PC.enter 29 Tryd.func32 rfl (by decide) rfl rfl (s := [(0, .ag [(.im (.int .i64 (kd))), .im (.string ⟨(tx).toArray⟩), .im (.int .u32 (n : Int)), (.im (.int .i64 (li))), (.im (.int .i64 (co)))])]) (by rfl) ?_
      refine wG Y32_T26 (And.intro h1 (And.intro h2 (And.intro h3 (And.intro h4 h9')))) ?_
      refine AR.callP qh True.intro (And.intro tkL_id (And.intro tkV_id (And.intro byL_id sL_id))) ?_
      refine goG Y32_T26 (And.intro bS_0x hsz) ?_
      refine wG Y32_T26 True.intro ?_
      refine Fin.gen0 (rs := [.tmp 2, .tmp 3]) rfl (by first | exact .inl rfl | exact .inr rfl) (by simp only [resX, resA, ↓accU_f, ↓reduceIte, SA, SB, SC, SD, Y32_T26, valG, fpsG, evO, evB, evA, evA1, nilK, eqF, eqC, apOk, intOf, slB, slK,  gd, St.ev, putA, ofl, wrl, putE, V.ofVal, V.ofCell, bin2, un1, seg, fillV, partsOk, Value.oneCell', Nat.reduceBEq, Nat.reduceLT, Nat.reduceSub, Nat.reduceAdd, Nat.reduceMul, Nat.reduceLeDiff, Nat.reduceEqDiff, reduceCtorEq, Int.reduceLT, Int.reduceLE, Int.reduceEq, Int.reduceNe, Int.reduceBEq, Int.reduceBNe, Int.reduceAdd, Int.reduceSub, Int.reduceMul, Int.reduceToNat]; with_reducible exact rfl) ?_
      repeat (first | exact WkF.of (Wk.refl _) (by first | rfl | simp only [List.length_cons, List.length_nil, Nat.reduceAdd, V.ids, V.idsL, idsA, entOk, List.all_cons, List.all_nil, Bool.and_self, Bool.and_true, Bool.true_and, ltB, noId, Nat.reduceLT, decide_true, Bool.true_eq_false, tyV_id, fdV_id, tyL_id, fdL_id, tkL_id, tkV_id, byL_id, sL_id]) | exact WkF.of (Wk.ro _ _) (by first | rfl | simp only [List.length_cons, List.length_nil, Nat.reduceAdd, V.ids, V.idsL, idsA, entOk, List.all_cons, List.all_nil, Bool.and_self, Bool.and_true, Bool.true_and, ltB, noId, Nat.reduceLT, decide_true, Bool.true_eq_false, tyV_id, fdV_id, tyL_id, fdL_id, tkL_id, tkV_id, byL_id, sL_id]) | refine WkF.tu ?_ | refine WkF.ag ?_ | refine WkFL.cons ?_ ?_ | exact WkFL.nil)
  rw [if_neg h4]
  by_cases h6 : kd = 4
  · rw [if_pos h6]
    refine PC.enter 29 Tryd.func32 rfl (by decide) rfl rfl (s := [(0, .ag [(.im (.int .i64 (kd))), .im (.string ⟨(tx).toArray⟩), .im (.int .u32 (n : Int)), (.im (.int .i64 (li))), (.im (.int .i64 (co)))])]) (by rfl) ?_
    refine wG Y32_T26 (And.intro h1 (And.intro h2 (And.intro h3 (And.intro h4 h6)))) ?_
    refine AR.callP qq True.intro (And.intro tkL_id (And.intro tkV_id (And.intro byL_id sL_id))) ?_
    refine goG Y32_T26 True.intro ?_
    refine wG Y32_T26 True.intro ?_
    refine Fin.gen0 (rs := [.tmp 2, .tmp 3]) rfl (by first | exact .inl rfl | exact .inr rfl) (by simp only [resX, resA, ↓accU_f, ↓reduceIte, SA, SB, SC, SD, Y32_T26, valG, fpsG, evO, evB, evA, evA1, nilK, eqF, eqC, apOk, intOf, slB, slK,  gd, St.ev, putA, ofl, wrl, putE, V.ofVal, V.ofCell, bin2, un1, seg, fillV, partsOk, Value.oneCell', Nat.reduceBEq, Nat.reduceLT, Nat.reduceSub, Nat.reduceAdd, Nat.reduceMul, Nat.reduceLeDiff, Nat.reduceEqDiff, reduceCtorEq, Int.reduceLT, Int.reduceLE, Int.reduceEq, Int.reduceNe, Int.reduceBEq, Int.reduceBNe, Int.reduceAdd, Int.reduceSub, Int.reduceMul, Int.reduceToNat]; with_reducible exact rfl) ?_
    repeat (first | exact WkF.of (Wk.refl _) (by first | rfl | simp only [List.length_cons, List.length_nil, Nat.reduceAdd, V.ids, V.idsL, idsA, entOk, List.all_cons, List.all_nil, Bool.and_self, Bool.and_true, Bool.true_and, ltB, noId, Nat.reduceLT, decide_true, Bool.true_eq_false, tyV_id, fdV_id, tyL_id, fdL_id, tkL_id, tkV_id, byL_id, sL_id]) | exact WkF.of (Wk.ro _ _) (by first | rfl | simp only [List.length_cons, List.length_nil, Nat.reduceAdd, V.ids, V.idsL, idsA, entOk, List.all_cons, List.all_nil, Bool.and_self, Bool.and_true, Bool.true_and, ltB, noId, Nat.reduceLT, decide_true, Bool.true_eq_false, tyV_id, fdV_id, tyL_id, fdL_id, tkL_id, tkV_id, byL_id, sL_id]) | refine WkF.tu ?_ | refine WkF.ag ?_ | refine WkFL.cons ?_ ?_ | exact WkFL.nil)
  · rw [if_neg h6]
    refine PC.enter 29 Tryd.func32 rfl (by decide) rfl rfl (s := [(0, .ag [(.im (.int .i64 (kd))), .im (.string ⟨(tx).toArray⟩), .im (.int .u32 (n : Int)), (.im (.int .i64 (li))), (.im (.int .i64 (co)))])]) (by rfl) ?_
    refine wG Y32_T26 (And.intro h1 (And.intro h2 (And.intro h3 (And.intro h4 h6)))) ?_
    refine Fin.gen0 (rs := [.tmp 2, .tmp 3]) rfl (by first | exact .inl rfl | exact .inr rfl) (by simp only [resX, resA, ↓accU_f, ↓reduceIte, SA, SB, SC, SD, Y32_T26, valG, fpsG, evO, evB, evA, evA1, nilK, eqF, eqC, apOk, intOf, slB, slK,  gd, St.ev, putA, ofl, wrl, putE, V.ofVal, V.ofCell, bin2, un1, seg, fillV, partsOk, Value.oneCell', Nat.reduceBEq, Nat.reduceLT, Nat.reduceSub, Nat.reduceAdd, Nat.reduceMul, Nat.reduceLeDiff, Nat.reduceEqDiff, reduceCtorEq, Int.reduceLT, Int.reduceLE, Int.reduceEq, Int.reduceNe, Int.reduceBEq, Int.reduceBNe, Int.reduceAdd, Int.reduceSub, Int.reduceMul, Int.reduceToNat]; with_reducible exact rfl) ?_
    repeat (first | exact WkF.of (Wk.refl _) (by first | rfl | simp only [List.length_cons, List.length_nil, Nat.reduceAdd, V.ids, V.idsL, idsA, entOk, List.all_cons, List.all_nil, Bool.and_self, Bool.and_true, Bool.true_and, ltB, noId, Nat.reduceLT, decide_true, Bool.true_eq_false, tyV_id, fdV_id, tyL_id, fdL_id, tkL_id, tkV_id, byL_id, sL_id]) | exact WkF.of (Wk.ro _ _) (by first | rfl | simp only [List.length_cons, List.length_nil, Nat.reduceAdd, V.ids, V.idsL, idsA, entOk, List.all_cons, List.all_nil, Bool.and_self, Bool.and_true, Bool.true_and, ltB, noId, Nat.reduceLT, decide_true, Bool.true_eq_false, tyV_id, fdV_id, tyL_id, fdL_id, tkL_id, tkV_id, byL_id, sL_id]) | refine WkF.tu ?_ | refine WkF.ag ?_ | refine WkFL.cons ?_ ?_ | exact WkFL.nil)
theorem joinB_snoc (A : List Bs) (w : Bs) : joinB (A ++ [w]) = if A = [] then w else joinB A ++ (32 :: w) := by
  induction A with
  | nil => rfl
  | cons x A ih =>
    rw [if_neg (by simp)]
    cases A with
    | nil => rfl
    | cons y r =>
      rw [if_neg (by simp)] at ih
      show x ++ 32 :: joinB ((y :: r) ++ [w]) = (x ++ 32 :: joinB (y :: r)) ++ 32 :: w
      rw [ih]
      simp
theorem wdt_take (l : List Tk) (m : Nat) : ((l.take m).map wdt).sum ≤ (l.map wdt).sum := by
  conv => rhs; rw [← List.take_append_drop m l, List.map_append, List.sum_append]
  omega
theorem Y19_T26 : type_of% (And.intro @F_ag_37 (And.intro @F_el_33 (@F_sz_37))) := And.intro @F_ag_37 (And.intro @F_el_33 (@F_sz_37))
set_option maxHeartbeats 1000000 in
theorem c_PrintR (l : List Tk) (hl : l.length ≤ 4194304) (ht : ∀ t ∈ l, TkOk t) (hp : (l.map wdt).sum ≤ 4194304) : PC Tryd.prog 19 [.sl (l.map tkV) .ro] (.im (.string ⟨(prn l).toArray⟩)) := by
  refine PC.enter 32 Tryd.func19 rfl (by decide) rfl rfl (s := [(0, .sl (l.map tkV) .ro)]) (by rfl) ?_
  refine wG Y19_T26 True.intro ?_
  refine AWp.loop ?_
  suffices H : ∀ (k m : Nat) (A : List Bs), l.length - m = k → m ≤ l.length → A = (l.take m).filterMap shw → ALp _ _ _ _ _ ⟨dn 32 [(0, .sl (l.map tkV) .ro), (3, .im (.string ⟨(joinB A).toArray⟩)), (4, (.im (.bool (decide (A = []))))), (5, (.im (.int .i64 ((((m : Nat)) : Int)))))], ofl []⟩ by
    refine ALp.cutP 0 [(0, .sl (l.map tkV) .ro), (3, .im (.string ⟨(joinB ([] : List Bs)).toArray⟩)), (4, (.im (.bool (decide (([] : List Bs) = []))))), (5, (.im (.int .i64 ((((0 : Nat)) : Int)))))] [] (And.intro tkL_id (And.intro tkV_id (And.intro byL_id sL_id))) ?_
    exact H _ 0 [] rfl (Nat.zero_le _) rfl
  intro k
  induction k using Nat.strongRecOn with
  | _ k ih =>
  intro m A hk hm hA
  have hjl : (joinB A).length ≤ ((l.take m).map wdt).sum := by rw [hA]; exact prn_len (l.take m)
  refine ALp.round ?_
  by_cases hlt : m < l.length
  case neg =>
    obtain rfl : m = l.length := by omega
    have hn : ¬ (l.length : Int) < (l.length : Int) := by omega
    rw [List.take_length] at hA
    rw [show prn l = joinB A by rw [hA]; rfl]
    clear ih
    generalize decide (A = []) = b
    generalize joinB A = j
    refine wG Y19_T26 (And.intro TKT hn) ?_
    exact Fin.oneP
  have hlt' : (m : Int) < (l.length : Int) := by omega
  have hw1 := wrap_succ hlt (by omega)
  have hg : l[m]? = some l[m] := List.getElem?_eq_getElem hlt
  have hst := filterMap_take hlt
  have hok := ht l[m] (List.getElem_mem hlt)
  have qs := c_textR l[m] hok.1 hok.2
  have hsum : ((l.take m).map wdt).sum + wdt l[m] ≤ 4194304 := by
    refine Nat.le_trans ?_ hp
    refine Nat.le_trans (Nat.le_of_eq ?_) (wdt_take l (m + 1))
    rw [List.take_succ_eq_append_getElem hlt, List.map_append, List.sum_append]
    simp
  generalize l[m] = t at hg hst qs hsum
  cases hs : shw t with
  | none =>
    rw [shwR_none hs] at qs
    rw [hs] at hst
    have hI := ih (l.length - (m + 1)) (by omega) (m + 1) A rfl (by omega) (by rw [hst, hA]; simp)
    clear ih hst
    refine wG Y19_T26 (And.intro TKT (And.intro hlt' hg)) ?_
    refine AR.callP qs tkV_eq (And.intro tkL_id (And.intro tkV_id (And.intro byL_id sL_id))) ?_
    refine goG Y19_T26 (And.intro TKT hw1) ?_
    refine wG Y19_T26 hw1 ?_
    refine ALp.cutP 0 [(0, .sl (l.map tkV) .ro), (3, .im (.string ⟨(joinB A).toArray⟩)), (4, (.im (.bool (decide (A = []))))), (5, (.im (.int .i64 ((((m + 1 : Nat)) : Int)))))] [] (And.intro tkL_id (And.intro tkV_id (And.intro byL_id sL_id))) ?_
    exact hI
  | some w =>
    rw [shwR_some hs] at qs
    rw [hs] at hst
    rw [wdt_some hs] at hsum
    have hI := ih (l.length - (m + 1)) (by omega) (m + 1) (A ++ [w]) rfl (by omega) (by rw [hst, hA]; simp)
    rw [show decide (A ++ [w] = []) = false from decide_eq_false (by simp), joinB_snoc] at hI
    clear ih hst
    by_cases hA0 : A = []
    · rw [if_pos hA0] at hI
      subst hA0
      have hd : decide (([] : List Bs) = []) = true := rfl
      have hap : ByteArray.mk #[] ++ ByteArray.mk w.toArray = ByteArray.mk w.toArray := bS_append [] w
      have hsz : (ByteArray.mk #[]).size + (ByteArray.mk w.toArray).size ≤ 9223372036854775807 := by
        rw [bS_size, bS_size, List.length_nil]
        omega
      have hj : joinB [] = [] := rfl
      rw [hd, hj]
      refine wG Y19_T26 (And.intro TKT (And.intro hlt' hg)) ?_
      refine AR.callP qs tkV_eq (And.intro tkL_id (And.intro tkV_id (And.intro byL_id sL_id))) ?_
      refine goG Y19_T26 (And.intro TKT hw1) ?_
      refine wG Y19_T26 (And.intro hw1 (And.intro hap hsz)) ?_
      refine ALp.cutP 0 [(0, .sl (l.map tkV) .ro), (3, .im (.string ⟨(w).toArray⟩)), (4, (.im (.bool (false)))), (5, (.im (.int .i64 ((((m + 1 : Nat)) : Int)))))] [] (And.intro tkL_id (And.intro tkV_id (And.intro byL_id sL_id))) ?_
      exact hI
    · rw [if_neg hA0] at hI
      rw [decide_eq_false hA0]
      generalize joinB A = j at hI hjl
      have hap1 : ByteArray.mk j.toArray ++ ByteArray.mk #[32] = ByteArray.mk (j ++ [32]).toArray := bS_append j [32]
      have hap2 : ByteArray.mk (j ++ [32]).toArray ++ ByteArray.mk w.toArray = ByteArray.mk (j ++ 32 :: w).toArray := (bS_append (j ++ [32]) w).trans (by simp)
      have hsz1 : (ByteArray.mk j.toArray).size + (ByteArray.mk #[32]).size ≤ 9223372036854775807 := by
        rw [bS_size, bS_size, List.length_singleton]
        omega
      have hsz2 : (ByteArray.mk (j ++ [32]).toArray).size + (ByteArray.mk w.toArray).size ≤ 9223372036854775807 := by
        rw [bS_size, bS_size, List.length_append, List.length_singleton]
        omega
      refine wG Y19_T26 (And.intro TKT (And.intro hlt' hg)) ?_
      refine AR.callP qs tkV_eq (And.intro tkL_id (And.intro tkV_id (And.intro byL_id sL_id))) ?_
      refine goG Y19_T26 (And.intro TKT hw1) ?_
      refine wG Y19_T26 (And.intro hw1 (And.intro hap1 (And.intro hap2 (And.intro hsz1 hsz2)))) ?_
      refine ALp.cutP 0 [(0, .sl (l.map tkV) .ro), (3, .im (.string ⟨(j ++ 32 :: w).toArray⟩)), (4, (.im (.bool (false)))), (5, (.im (.int .i64 ((((m + 1 : Nat)) : Int)))))] [] (And.intro tkL_id (And.intro tkV_id (And.intro byL_id sL_id))) ?_
      exact hI
theorem Y18_T26 : type_of% (And.intro @F_ag_28 (And.intro @F_ag_3 (And.intro @F_ag_9 (And.intro @F_al_30 (And.intro @F_by_30 (And.intro @F_el_24 (And.intro @F_el_33 (And.intro @F_fl_37_0 (And.intro @F_fl_37_1 (And.intro @F_fl_37_2 (And.intro @F_fl_37_3 (And.intro @F_fl_37_4 (And.intro @F_st_30 (And.intro @F_sz_28 (And.intro @F_sz_3 (And.intro @F_sz_30 (And.intro @F_sz_37 (@F_sz_9)))))))))))))))))) := And.intro @F_ag_28 (And.intro @F_ag_3 (And.intro @F_ag_9 (And.intro @F_al_30 (And.intro @F_by_30 (And.intro @F_el_24 (And.intro @F_el_33 (And.intro @F_fl_37_0 (And.intro @F_fl_37_1 (And.intro @F_fl_37_2 (And.intro @F_fl_37_3 (And.intro @F_fl_37_4 (And.intro @F_st_30 (And.intro @F_sz_28 (And.intro @F_sz_3 (And.intro @F_sz_30 (And.intro @F_sz_37 (@F_sz_9)))))))))))))))))
set_option maxHeartbeats 1000000 in
theorem c_fromRef (l : List Tk) (hl : l.length ≤ 4194304) : PC Tryd.prog 18 [.sl (l.map tkV) .ro] (.sl (l.map tkV) .ro) := by
  refine PC.enter 41 Tryd.func18 rfl (by decide) rfl rfl (s := [(0, .sl (l.map tkV) .ro)]) (by rfl) ?_
  refine wG Y18_T26 TKT ?_
  refine AWp.loop ?_
  refine ALp.ghost 3 [] .nl 30 5 ?_
  suffices H : ∀ (k m : Nat) (A : List Tk), l.length - m = k → m ≤ l.length → A = l.take m → ALp _ _ _ _ _ ⟨dn 41 [(0, .sl (l.map tkV) .ro), (3, .sl (A.map tkV) (.own 0)), (4, (.im (.int .i64 ((((m : Nat)) : Int)))))], ofl [.tip 30 5 A.length]⟩ by
    refine ALp.cutP 1 [(0, .sl (l.map tkV) .ro), (3, .sl (([] : List Tk).map tkV) (.own 0)), (4, (.im (.int .i64 ((((0 : Nat)) : Int)))))] [.tip 30 5 ([] : List Tk).length] (And.intro tkL_id (And.intro tkV_id (And.intro byL_id sL_id))) ?_
    exact H _ 0 [] rfl (Nat.zero_le _) rfl
  intro k
  induction k using Nat.strongRecOn with
  | _ k ih =>
  intro m A hk hm hA
  have hAl : A.length = m := by rw [hA, List.length_take]; omega
  refine ALp.round ?_
  by_cases hlt : m < l.length
  case neg =>
    obtain rfl : m = l.length := by omega
    have hn : ¬ (l.length : Int) < (l.length : Int) := by omega
    rw [List.take_length] at hA
    subst hA
    clear ih
    refine wG Y18_T26 (And.intro TKT hn) ?_
    refine Fin.gen0 (rs := [.tmp 2]) rfl (by first | exact .inl rfl | exact .inr rfl) (by simp only [resX, resA, ↓accU_f, ↓reduceIte, SA, SB, SC, SD, Y18_T26, valG, fpsG, evO, evB, evA, evA1, nilK, eqF, eqC, apOk, intOf, slB, slK,  gd, St.ev, putA, ofl, wrl, putE, V.ofVal, V.ofCell, bin2, un1, seg, fillV, partsOk, Value.oneCell', Nat.reduceBEq, Nat.reduceLT, Nat.reduceSub, Nat.reduceAdd, Nat.reduceMul, Nat.reduceLeDiff, Nat.reduceEqDiff, reduceCtorEq, Int.reduceLT, Int.reduceLE, Int.reduceEq, Int.reduceNe, Int.reduceBEq, Int.reduceBNe, Int.reduceAdd, Int.reduceSub, Int.reduceMul, Int.reduceToNat]; with_reducible exact rfl) ?_
    repeat (first | exact WkF.of (Wk.refl _) (by first | rfl | simp only [List.length_cons, List.length_nil, Nat.reduceAdd, V.ids, V.idsL, idsA, entOk, List.all_cons, List.all_nil, Bool.and_self, Bool.and_true, Bool.true_and, ltB, noId, Nat.reduceLT, decide_true, Bool.true_eq_false, tyV_id, fdV_id, tyL_id, fdL_id, tkL_id, tkV_id, byL_id, sL_id]) | exact WkF.of (Wk.ro _ _) (by first | rfl | simp only [List.length_cons, List.length_nil, Nat.reduceAdd, V.ids, V.idsL, idsA, entOk, List.all_cons, List.all_nil, Bool.and_self, Bool.and_true, Bool.true_and, ltB, noId, Nat.reduceLT, decide_true, Bool.true_eq_false, tyV_id, fdV_id, tyL_id, fdL_id, tkL_id, tkV_id, byL_id, sL_id]) | refine WkF.tu ?_ | refine WkF.ag ?_ | refine WkFL.cons ?_ ?_ | exact WkFL.nil)
  have hlt' : (m : Int) < (l.length : Int) := by omega
  have hw1 := wrap_succ hlt (by omega)
  have hg : l[m]? = some l[m] := List.getElem?_eq_getElem hlt
  have hst : l.take (m + 1) = l.take m ++ [l[m]] := List.take_succ_eq_append_getElem hlt
  obtain ⟨B, hB⟩ : ∃ B, B = A ++ [l[m]] := ⟨_, rfl⟩
  have hI := ih (l.length - (m + 1)) (by omega) (m + 1) B rfl (by omega) (by rw [hst, hB, hA])
  clear ih hst
  generalize l[m] = t at hg hB
  have hAs : A.map tkV ++ [.ag [(.im (.int .i64 (t.kind))), .im (.string ⟨(t.text).toArray⟩), .im (.int .u32 t.n), (.im (.int .i64 (t.line))), (.im (.int .i64 (t.col)))]] = B.map tkV := by rw [hB, List.map_append]; rfl
  have hAk : A.length + 1 = B.length := by rw [hB]; simp
  have hbl : B.length * 48 ≤ 140737488355328 := by omega
  clear hA hB
  refine wdG Y18_T26 (And.intro TKT (And.intro hlt' (And.intro hg (And.intro hAs (And.intro hAk (And.intro hbl (And.intro hw1 @List.length_map.{0, 0}))))))) ?_
  refine ALp.cutP 1 [(0, .sl (l.map tkV) .ro), (3, .sl (B.map tkV) (.own 0)), (4, (.im (.int .i64 ((((m + 1 : Nat)) : Int)))))] [.tip 30 5 B.length] (And.intro tkL_id (And.intro tkV_id (And.intro byL_id sL_id))) ?_
  exact hI
theorem wdt_le (t : Tk) (h1 : 0 ≤ t.n ∧ t.n < 4294967296) (h : t.text.length ≤ 40) : wdt t ≤ 200 := by
  unfold wdt
  cases hs : shw t with
  | none => simp
  | some w =>
    have : w.length ≤ 162 := by
      unfold shw at hs
      split at hs
      · cases hs; omega
      split at hs
      · cases hs
        have := numS_len t.n.toNat (by omega)
        omega
      split at hs
      · cases hs
        have := quoS_len t.text
        omega
      · cases hs
    show w.length + 1 ≤ 200
    omega
theorem wdt_sum (l : List Tk) (h : ∀ t ∈ l, wdt t ≤ 200) : (l.map wdt).sum ≤ 200 * l.length := by
  induction l with
  | nil => simp
  | cons t l ih =>
    have h1 := h t (by simp)
    have h2 := ih fun u hu => h u (by simp [hu])
    rw [List.map_cons, List.sum_cons, List.length_cons]
    omega
theorem Y5_T26 : type_of% (And.intro @F_ag_9 (And.intro @F_el_33 (And.intro @F_fl_37_1 (And.intro @F_sz_37 (And.intro @F_sz_9 (@F_un_9)))))) := And.intro @F_ag_9 (And.intro @F_el_33 (And.intro @F_fl_37_1 (And.intro @F_sz_37 (And.intro @F_sz_9 (@F_un_9)))))
set_option maxHeartbeats 1000000 in
theorem c_law3 (l : List Tk) (hl : l.length ≤ 4194304 ∧ ∀ t ∈ l, TkOk t) : PC Tryd.prog 5 [.sl (l.map tkV) .ro] (.im (.bool (true))) := by
  obtain ⟨hl, hok⟩ := hl
  have qe := c_ex
  by_cases h20 : 20 < l.length
  · have h20' : (l.length : Int) > 20 := by omega
    refine PC.enter 31 Tryd.func5 rfl (by decide) rfl rfl (s := [(0, .sl (l.map tkV) .ro)]) (by rfl) ?_
    refine wG Y5_T26 (And.intro TKT h20') ?_
    refine AR.callP qe True.intro (And.intro tkL_id (And.intro tkV_id (And.intro byL_id sL_id))) ?_
    refine goG Y5_T26 True.intro ?_
    refine wG Y5_T26 True.intro ?_
    exact Fin.oneP
  have h20' : ¬ (l.length : Int) > 20 := by omega
  refine PC.enter 31 Tryd.func5 rfl (by decide) rfl rfl (s := [(0, .sl (l.map tkV) .ro)]) (by rfl) ?_
  refine wG Y5_T26 (And.intro TKT h20') ?_
  refine AWp.loop ?_
  refine ALp.cutP 0 [(0, .sl (l.map tkV) .ro), (3, (.im (.int .i64 ((((0 : Nat)) : Int)))))] [] (And.intro tkL_id (And.intro tkV_id (And.intro byL_id sL_id))) ?_
  refine ALp.upto l.length (fun m => ∀ j (hj : j < m) (h : j < l.length), l[j].text.length ≤ 40) (fun m => ⟨dn 31 [(0, .sl (l.map tkV) .ro), (3, (.im (.int .i64 ((((m : Nat)) : Int)))))], ofl []⟩) ?_ 0 (Nat.zero_le _) (fun j hj => absurd hj (Nat.not_lt_zero j))
  intro m hm hI hnext
  by_cases hlt : m < l.length
  case neg =>
    have hn : ¬ (m : Int) < (l.length : Int) := by omega
    have hsum := wdt_sum l fun t ht => by
      obtain ⟨j, hj, rfl⟩ := List.mem_iff_getElem.1 ht
      exact wdt_le _ (hok _ ht).1 (hI j (by omega) hj)
    have q1 := c_fromRef l hl
    have q2 := c_Print l hl hok (Nat.le_trans (prn_len l) (by omega))
    have q3 := c_PrintR l hl hok (by omega)
    have hpp : (prn l == prn l) = true := beq_self_eq_true _
    generalize prn l = p at q2 q3 hpp
    clear hnext hI
    refine wG Y5_T26 (And.intro TKT hn) ?_
    refine AR.callP q1 True.intro (And.intro tkL_id (And.intro tkV_id (And.intro byL_id sL_id))) ?_
    refine goG Y5_T26 True.intro ?_
    refine AR.callP q2 True.intro (And.intro tkL_id (And.intro tkV_id (And.intro byL_id sL_id))) ?_
    refine goG Y5_T26 True.intro ?_
    refine AR.callP q3 True.intro (And.intro tkL_id (And.intro tkV_id (And.intro byL_id sL_id))) ?_
    refine goG Y5_T26 (And.intro BY hpp) ?_
    refine AR.callP qe True.intro (And.intro tkL_id (And.intro tkV_id (And.intro byL_id sL_id))) ?_
    refine goG Y5_T26 True.intro ?_
    refine wG Y5_T26 True.intro ?_
    exact Fin.oneP
  have hlt' : (m : Int) < (l.length : Int) := by omega
  have hm1 := wrap_succ hlt (by omega)
  have hg : l[m]? = some l[m] := List.getElem?_eq_getElem hlt
  by_cases h40 : 40 < l[m].text.length
  · generalize l[m] = t at hg h40
    have h40' : (t.text.length : Int) > 40 := by omega
    clear hnext hI
    refine wG Y5_T26 (And.intro BY (And.intro TKT (And.intro hlt' (And.intro hg h40')))) ?_
    refine AR.callP qe True.intro (And.intro tkL_id (And.intro tkV_id (And.intro byL_id sL_id))) ?_
    refine goG Y5_T26 True.intro ?_
    refine wG Y5_T26 True.intro ?_
    exact Fin.oneP
  · have hn2 := hnext (m + 1) (by omega) (by omega) (fun j hj h => by
      rcases Nat.lt_or_ge j m with h3 | h3
      · exact hI j h3 h
      · obtain rfl : j = m := by omega
        omega)
    generalize l[m] = t at hg h40
    have h40' : ¬ (t.text.length : Int) > 40 := by omega
    clear hnext hI
    refine wG Y5_T26 (And.intro BY (And.intro TKT (And.intro hlt' (And.intro hg (And.intro h40' hm1))))) ?_
    refine ALp.cutP 0 [(0, .sl (l.map tkV) .ro), (3, (.im (.int .i64 ((((m + 1 : Nat)) : Int)))))] [] (And.intro tkL_id (And.intro tkV_id (And.intro byL_id sL_id))) ?_
    exact hn2
end Go.Proofs.YtjilcaemoebloaaDoor

