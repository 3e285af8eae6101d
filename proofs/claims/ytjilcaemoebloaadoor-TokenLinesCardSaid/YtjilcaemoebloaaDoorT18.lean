/- Walks: digits; the text of a token. -/
import Derived.Test.YtjilcaemoebloaaDoorHv
import Derived.Test.YtjilcaemoebloaaDoorT17
namespace Go.Proofs.YtjilcaemoebloaaDoor
set_option linter.unusedSimpArgs false
set_option linter.unusedVariables false
set_option linter.unnecessarySimpa false
open Go.RowKit
theorem dig_ex {n : Nat} (h : n ≤ 9) : (((48 :: 49 :: 50 :: 51 :: 52 :: 53 :: 54 :: 55 :: 56 :: 57 :: 97 :: 98 :: 99 :: 100 :: 101 :: 102 :: 103 :: 104 :: 105 :: 106 :: 107 :: 108 :: 109 :: 110 :: 111 :: 112 :: 113 :: 114 :: 115 :: 116 :: 117 :: 118 :: 119 :: 120 :: 121 :: 122 :: [] : Bs).drop n).take 1) = [hexD n] := by
  have : ∀ n < 10, (((48 :: 49 :: 50 :: 51 :: 52 :: 53 :: 54 :: 55 :: 56 :: 57 :: 97 :: 98 :: 99 :: 100 :: 101 :: 102 :: 103 :: 104 :: 105 :: 106 :: 107 :: 108 :: 109 :: 110 :: 111 :: 112 :: 113 :: 114 :: 115 :: 116 :: 117 :: 118 :: 119 :: 120 :: 121 :: 122 :: [] : Bs).drop n).take 1) = [hexD n] := by decide
  exact this n (by omega)
theorem Y78_T18 : type_of% (@F_un_9) := @F_un_9
theorem c_small (n : Nat) (hn : n ≤ 9) : PC Tryd.prog 78 [(.im (.int .i64 ((n : Int))))] (.im (.string ⟨([hexD n]).toArray⟩)) := by
  have h1 : (n : Int) < 10 := by omega
  have hw := wrap_succ (show n < 10 by omega) (by decide)
  have hd := dig_ex hn
  refine PC.enter 15 Tryd.func78 rfl (by decide) rfl rfl (s := [(0, (.im (.int .i64 ((n : Int)))))]) (by rfl) ?_
  have h2 : (n : Int) ≤ ((n + 1 : Nat) : Int) := by omega
  have h3 : ((n + 1 : Nat) : Int) ≤ 36 := by omega
  have h4 : n + 1 - n = 1 := by omega
  refine wG Y78_T18 (And.intro BY (And.intro GDS (And.intro h1 (And.intro hw (And.intro hd (And.intro h2 (And.intro h3 h4))))))) ?_
  exact Fin.oneP
theorem Y77_T18 : type_of% (And.intro @F_al_105 (And.intro @F_ar_105 (And.intro @F_el_71 (And.intro @F_in_2 (And.intro @F_in_71 (And.intro @F_in_74 (And.intro @F_in_9 (And.intro @F_sz_5 (And.intro @F_un_2 (And.intro @F_un_5 (And.intro @F_un_71 (And.intro @F_un_74 (@F_un_9))))))))))))) := And.intro @F_al_105 (And.intro @F_ar_105 (And.intro @F_el_71 (And.intro @F_in_2 (And.intro @F_in_71 (And.intro @F_in_74 (And.intro @F_in_9 (And.intro @F_sz_5 (And.intro @F_un_2 (And.intro @F_un_5 (And.intro @F_un_71 (And.intro @F_un_74 (@F_un_9))))))))))))
theorem c_fmtI (n : Nat) (hn : n ≤ 9) : PC Tryd.prog 77 [(.im (.int .i64 ((n : Int)))), (.im (.int .i64 (10)))] (.im (.string ⟨([hexD n]).toArray⟩)) := by
  have q := c_small n hn
  have h1 : (0 : Int) ≤ (n : Int) := by omega
  have h2 : (n : Int) < 100 := by omega
  refine PC.enter 54 Tryd.func77 rfl (by decide) rfl rfl (s := [(0, (.im (.int .i64 ((n : Int))))), (1, (.im (.int .i64 (10))))]) (by rfl) ?_
  refine wG Y77_T18 (And.intro h1 h2) ?_
  refine AR.callP q True.intro byL_id ?_
  refine goG Y77_T18 True.intro ?_
  refine wG Y77_T18 True.intro ?_
  exact Fin.oneP

theorem c_itoa0 (n : Nat) (hn : n ≤ 9) : PC Tryd.prog 60 [(.im (.int .i64 ((n : Int))))] (.im (.string ⟨([hexD n]).toArray⟩)) := by
  have q := c_fmtI n hn
  refine PC.enter 5 Tryd.func60 rfl (by decide) rfl rfl (s := [(0, (.im (.int .i64 ((n : Int)))))]) (by rfl) ?_
  refine wG True.intro True.intro ?_
  refine AR.callP q True.intro byL_id ?_
  refine goG True.intro True.intro ?_
  refine wG True.intro True.intro ?_
  exact Fin.oneP

theorem c_itoa (n : Nat) (hn : n ≤ 9) : PC Tryd.prog 41 [(.im (.int .i64 ((n : Int))))] (.im (.string ⟨([hexD n]).toArray⟩)) := by
  have q := c_itoa0 n hn
  refine PC.enter 5 Tryd.func41 rfl (by decide) rfl rfl (s := [(0, (.im (.int .i64 ((n : Int)))))]) (by rfl) ?_
  refine wG True.intro True.intro ?_
  refine AR.callP q True.intro byL_id ?_
  refine goG True.intro True.intro ?_
  refine wG True.intro True.intro ?_
  exact Fin.oneP
/-- What show gives. -/
def shwR (t : Tk) : Bs × Bool := match shw t with
  | some s => (s, true)
  | none => ([], false)
theorem bS_0x (l : Bs) : ByteArray.mk #[48, 120] ++ ByteArray.mk l.toArray = ByteArray.mk (48 :: 120 :: l).toArray := bS_append [48, 120] l
theorem Y27_T18 : type_of% (And.intro @F_ag_28 (And.intro @F_ag_3 (And.intro @F_ag_9 (And.intro @F_fl_30_0 (And.intro @F_fl_30_1 (And.intro @F_fl_30_2 (And.intro @F_in_28 (And.intro @F_in_3 (And.intro @F_in_74 (And.intro @F_sz_28 (And.intro @F_sz_3 (And.intro @F_sz_9 (And.intro @F_un_28 (And.intro @F_un_3 (@F_un_74))))))))))))))) := And.intro @F_ag_28 (And.intro @F_ag_3 (And.intro @F_ag_9 (And.intro @F_fl_30_0 (And.intro @F_fl_30_1 (And.intro @F_fl_30_2 (And.intro @F_in_28 (And.intro @F_in_3 (And.intro @F_in_74 (And.intro @F_sz_28 (And.intro @F_sz_3 (And.intro @F_sz_9 (And.intro @F_un_28 (And.intro @F_un_3 (@F_un_74))))))))))))))
set_option maxHeartbeats 1000000 in
theorem c_show (t : Tk) (hn : 0 ≤ t.n ∧ t.n < 4294967296) (ht : t.text.length ≤ 4194304) : PC Tryd.prog 27 [tkV t] (.tu [.im (.string ⟨((shwR t).1).toArray⟩), (.im (.bool ((shwR t).2)))]) := by
  have qq := c_quote t.text ht
  obtain ⟨kd, tx, n, li, co⟩ := t
  simp only at hn ht qq
  rw [tkV_eq]
  simp only
  obtain ⟨n, rfl⟩ : ∃ m : Nat, n = m := ⟨n.toNat, by omega⟩
  by_cases h5 : kd = 1 ∨ kd = 2 ∨ kd = 5
  · rw [show shwR ⟨kd, tx, n, li, co⟩ = (tx, true) by unfold shwR shw; rw [if_pos h5]]
    by_cases h1 : kd = 1
    · refine PC.enter 31 Tryd.func27 rfl (by decide) rfl rfl (s := [(0, .ag [(.im (.int .i64 (kd))), .im (.string ⟨(tx).toArray⟩), .im (.int .u32 (n : Int)), (.im (.int .i64 (li))), (.im (.int .i64 (co)))])]) (by rfl) ?_
      refine wG Y27_T18 h1 ?_
      refine Fin.gen0 (rs := [.tmp 2, .tmp 3]) rfl (by first | exact .inl rfl | exact .inr rfl) (by simp only [resX, resA, ↓accU_f, ↓reduceIte, SA, SB, SC, SD, Y27_T18, valG, fpsG, evO, evB, evA, evA1, nilK, eqF, eqC, apOk, intOf, slB, slK,  gd, St.ev, putA, ofl, wrl, putE, V.ofVal, V.ofCell, bin2, un1, seg, fillV, partsOk, Value.oneCell', Nat.reduceBEq, Nat.reduceLT, Nat.reduceSub, Nat.reduceAdd, Nat.reduceMul, Nat.reduceLeDiff, Nat.reduceEqDiff, reduceCtorEq, Int.reduceLT, Int.reduceLE, Int.reduceEq, Int.reduceNe, Int.reduceBEq, Int.reduceBNe, Int.reduceAdd, Int.reduceSub, Int.reduceMul, Int.reduceToNat]; with_reducible exact rfl) ?_
      repeat (first | exact WkF.of (Wk.refl _) (by first | rfl | simp only [List.length_cons, List.length_nil, Nat.reduceAdd, V.ids, V.idsL, idsA, entOk, List.all_cons, List.all_nil, Bool.and_self, Bool.and_true, Bool.true_and, ltB, noId, Nat.reduceLT, decide_true, Bool.true_eq_false, tyV_id, fdV_id, tyL_id, fdL_id, byL_id]) | exact WkF.of (Wk.ro _ _) (by first | rfl | simp only [List.length_cons, List.length_nil, Nat.reduceAdd, V.ids, V.idsL, idsA, entOk, List.all_cons, List.all_nil, Bool.and_self, Bool.and_true, Bool.true_and, ltB, noId, Nat.reduceLT, decide_true, Bool.true_eq_false, tyV_id, fdV_id, tyL_id, fdL_id, byL_id]) | refine WkF.tu ?_ | refine WkF.ag ?_ | refine WkFL.cons ?_ ?_ | exact WkFL.nil)
    by_cases h2 : kd = 2
    · refine PC.enter 31 Tryd.func27 rfl (by decide) rfl rfl (s := [(0, .ag [(.im (.int .i64 (kd))), .im (.string ⟨(tx).toArray⟩), .im (.int .u32 (n : Int)), (.im (.int .i64 (li))), (.im (.int .i64 (co)))])]) (by rfl) ?_
      refine wG Y27_T18 (And.intro h1 h2) ?_
      refine Fin.gen0 (rs := [.tmp 2, .tmp 3]) rfl (by first | exact .inl rfl | exact .inr rfl) (by simp only [resX, resA, ↓accU_f, ↓reduceIte, SA, SB, SC, SD, Y27_T18, valG, fpsG, evO, evB, evA, evA1, nilK, eqF, eqC, apOk, intOf, slB, slK,  gd, St.ev, putA, ofl, wrl, putE, V.ofVal, V.ofCell, bin2, un1, seg, fillV, partsOk, Value.oneCell', Nat.reduceBEq, Nat.reduceLT, Nat.reduceSub, Nat.reduceAdd, Nat.reduceMul, Nat.reduceLeDiff, Nat.reduceEqDiff, reduceCtorEq, Int.reduceLT, Int.reduceLE, Int.reduceEq, Int.reduceNe, Int.reduceBEq, Int.reduceBNe, Int.reduceAdd, Int.reduceSub, Int.reduceMul, Int.reduceToNat]; with_reducible exact rfl) ?_
      repeat (first | exact WkF.of (Wk.refl _) (by first | rfl | simp only [List.length_cons, List.length_nil, Nat.reduceAdd, V.ids, V.idsL, idsA, entOk, List.all_cons, List.all_nil, Bool.and_self, Bool.and_true, Bool.true_and, ltB, noId, Nat.reduceLT, decide_true, Bool.true_eq_false, tyV_id, fdV_id, tyL_id, fdL_id, byL_id]) | exact WkF.of (Wk.ro _ _) (by first | rfl | simp only [List.length_cons, List.length_nil, Nat.reduceAdd, V.ids, V.idsL, idsA, entOk, List.all_cons, List.all_nil, Bool.and_self, Bool.and_true, Bool.true_and, ltB, noId, Nat.reduceLT, decide_true, Bool.true_eq_false, tyV_id, fdV_id, tyL_id, fdL_id, byL_id]) | refine WkF.tu ?_ | refine WkF.ag ?_ | refine WkFL.cons ?_ ?_ | exact WkFL.nil)
    have h3 : kd = 5 := by omega
    refine PC.enter 31 Tryd.func27 rfl (by decide) rfl rfl (s := [(0, .ag [(.im (.int .i64 (kd))), .im (.string ⟨(tx).toArray⟩), .im (.int .u32 (n : Int)), (.im (.int .i64 (li))), (.im (.int .i64 (co)))])]) (by rfl) ?_
    refine wG Y27_T18 (And.intro h1 (And.intro h2 h3)) ?_
    refine Fin.gen0 (rs := [.tmp 2, .tmp 3]) rfl (by first | exact .inl rfl | exact .inr rfl) (by simp only [resX, resA, ↓accU_f, ↓reduceIte, SA, SB, SC, SD, Y27_T18, valG, fpsG, evO, evB, evA, evA1, nilK, eqF, eqC, apOk, intOf, slB, slK,  gd, St.ev, putA, ofl, wrl, putE, V.ofVal, V.ofCell, bin2, un1, seg, fillV, partsOk, Value.oneCell', Nat.reduceBEq, Nat.reduceLT, Nat.reduceSub, Nat.reduceAdd, Nat.reduceMul, Nat.reduceLeDiff, Nat.reduceEqDiff, reduceCtorEq, Int.reduceLT, Int.reduceLE, Int.reduceEq, Int.reduceNe, Int.reduceBEq, Int.reduceBNe, Int.reduceAdd, Int.reduceSub, Int.reduceMul, Int.reduceToNat]; with_reducible exact rfl) ?_
    repeat (first | exact WkF.of (Wk.refl _) (by first | rfl | simp only [List.length_cons, List.length_nil, Nat.reduceAdd, V.ids, V.idsL, idsA, entOk, List.all_cons, List.all_nil, Bool.and_self, Bool.and_true, Bool.true_and, ltB, noId, Nat.reduceLT, decide_true, Bool.true_eq_false, tyV_id, fdV_id, tyL_id, fdL_id, byL_id]) | exact WkF.of (Wk.ro _ _) (by first | rfl | simp only [List.length_cons, List.length_nil, Nat.reduceAdd, V.ids, V.idsL, idsA, entOk, List.all_cons, List.all_nil, Bool.and_self, Bool.and_true, Bool.true_and, ltB, noId, Nat.reduceLT, decide_true, Bool.true_eq_false, tyV_id, fdV_id, tyL_id, fdL_id, byL_id]) | refine WkF.tu ?_ | refine WkF.ag ?_ | refine WkFL.cons ?_ ?_ | exact WkFL.nil)
  have h1 : ¬ kd = 1 := by omega
  have h2 : ¬ kd = 2 := by omega
  have h3 : ¬ kd = 5 := by omega
  have e1 : shwR ⟨kd, tx, n, li, co⟩ = match (if kd = 3 then some (numS n) else if kd = 4 then some (quoS tx) else none : Option Bs) with
    | some s => (s, true)
    | none => ([], false) := by unfold shwR shw; rw [if_neg h5]; rfl
  rw [e1]
  by_cases h4 : kd = 3
  · rw [if_pos h4]
    by_cases h9 : n ≤ 9
    · have h9' : (n : Int) ≤ 9 := by omega
      have q := c_itoa n h9
      have hw : IntKind.i64.wrap (n : Int) = n := wrap_in (by omega)
      rw [show numS n = [hexD n] from if_pos h9]
      refine PC.enter 31 Tryd.func27 rfl (by decide) rfl rfl (s := [(0, .ag [(.im (.int .i64 (kd))), .im (.string ⟨(tx).toArray⟩), .im (.int .u32 (n : Int)), (.im (.int .i64 (li))), (.im (.int .i64 (co)))])]) (by rfl) ?_
      refine wG Y27_T18 (And.intro h1 (And.intro h2 (And.intro h3 (And.intro h4 (And.intro h9' hw))))) ?_
      refine AR.callP q True.intro byL_id ?_
      refine goG Y27_T18 True.intro ?_
      refine wG Y27_T18 True.intro ?_
      refine Fin.gen0 (rs := [.tmp 2, .tmp 3]) rfl (by first | exact .inl rfl | exact .inr rfl) (by simp only [resX, resA, ↓accU_f, ↓reduceIte, SA, SB, SC, SD, Y27_T18, valG, fpsG, evO, evB, evA, evA1, nilK, eqF, eqC, apOk, intOf, slB, slK,  gd, St.ev, putA, ofl, wrl, putE, V.ofVal, V.ofCell, bin2, un1, seg, fillV, partsOk, Value.oneCell', Nat.reduceBEq, Nat.reduceLT, Nat.reduceSub, Nat.reduceAdd, Nat.reduceMul, Nat.reduceLeDiff, Nat.reduceEqDiff, reduceCtorEq, Int.reduceLT, Int.reduceLE, Int.reduceEq, Int.reduceNe, Int.reduceBEq, Int.reduceBNe, Int.reduceAdd, Int.reduceSub, Int.reduceMul, Int.reduceToNat]; with_reducible exact rfl) ?_
      repeat (first | exact WkF.of (Wk.refl _) (by first | rfl | simp only [List.length_cons, List.length_nil, Nat.reduceAdd, V.ids, V.idsL, idsA, entOk, List.all_cons, List.all_nil, Bool.and_self, Bool.and_true, Bool.true_and, ltB, noId, Nat.reduceLT, decide_true, Bool.true_eq_false, tyV_id, fdV_id, tyL_id, fdL_id, byL_id]) | exact WkF.of (Wk.ro _ _) (by first | rfl | simp only [List.length_cons, List.length_nil, Nat.reduceAdd, V.ids, V.idsL, idsA, entOk, List.all_cons, List.all_nil, Bool.and_self, Bool.and_true, Bool.true_and, ltB, noId, Nat.reduceLT, decide_true, Bool.true_eq_false, tyV_id, fdV_id, tyL_id, fdL_id, byL_id]) | refine WkF.tu ?_ | refine WkF.ag ?_ | refine WkFL.cons ?_ ?_ | exact WkFL.nil)
    · have h9' : ¬ (n : Int) ≤ 9 := by omega
      have q := c_fmt n (by omega)
      have hw : IntKind.u64.wrap (n : Int) = n := IntWalk.u64_in _ (by omega)
      have hsz : (ByteArray.mk #[48, 120]).size + (ByteArray.mk (hexS n).toArray).size ≤ 9223372036854775807 := by
        rw [bS_size, bS_size, show ([48, 120] : Bs).length = 2 from rfl]
        have := hexG_len 7 (n + 1) n (by omega) (by omega)
        unfold hexS
        omega
      rw [show numS n = 48 :: 120 :: hexS n from if_neg h9]
      refine PC.enter 31 Tryd.func27 rfl (by decide) rfl rfl (s := [(0, .ag [(.im (.int .i64 (kd))), .im (.string ⟨(tx).toArray⟩), .im (.int .u32 (n : Int)), (.im (.int .i64 (li))), (.im (.int .i64 (co)))])]) (by rfl) ?_
      refine wG Y27_T18 (And.intro h1 (And.intro h2 (And.intro h3 (And.intro h4 (And.intro h9' hw))))) ?_
      refine AR.callP q True.intro byL_id ?_
      refine goG Y27_T18 (And.intro bS_0x hsz) ?_
      refine wG Y27_T18 True.intro ?_
      refine Fin.gen0 (rs := [.tmp 2, .tmp 3]) rfl (by first | exact .inl rfl | exact .inr rfl) (by simp only [resX, resA, ↓accU_f, ↓reduceIte, SA, SB, SC, SD, Y27_T18, valG, fpsG, evO, evB, evA, evA1, nilK, eqF, eqC, apOk, intOf, slB, slK,  gd, St.ev, putA, ofl, wrl, putE, V.ofVal, V.ofCell, bin2, un1, seg, fillV, partsOk, Value.oneCell', Nat.reduceBEq, Nat.reduceLT, Nat.reduceSub, Nat.reduceAdd, Nat.reduceMul, Nat.reduceLeDiff, Nat.reduceEqDiff, reduceCtorEq, Int.reduceLT, Int.reduceLE, Int.reduceEq, Int.reduceNe, Int.reduceBEq, Int.reduceBNe, Int.reduceAdd, Int.reduceSub, Int.reduceMul, Int.reduceToNat]; with_reducible exact rfl) ?_
      repeat (first | exact WkF.of (Wk.refl _) (by first | rfl | simp only [List.length_cons, List.length_nil, Nat.reduceAdd, V.ids, V.idsL, idsA, entOk, List.all_cons, List.all_nil, Bool.and_self, Bool.and_true, Bool.true_and, ltB, noId, Nat.reduceLT, decide_true, Bool.true_eq_false, tyV_id, fdV_id, tyL_id, fdL_id, byL_id]) | exact WkF.of (Wk.ro _ _) (by first | rfl | simp only [List.length_cons, List.length_nil, Nat.reduceAdd, V.ids, V.idsL, idsA, entOk, List.all_cons, List.all_nil, Bool.and_self, Bool.and_true, Bool.true_and, ltB, noId, Nat.reduceLT, decide_true, Bool.true_eq_false, tyV_id, fdV_id, tyL_id, fdL_id, byL_id]) | refine WkF.tu ?_ | refine WkF.ag ?_ | refine WkFL.cons ?_ ?_ | exact WkFL.nil)
  rw [if_neg h4]
  by_cases h6 : kd = 4
  · rw [if_pos h6]
    refine PC.enter 31 Tryd.func27 rfl (by decide) rfl rfl (s := [(0, .ag [(.im (.int .i64 (kd))), .im (.string ⟨(tx).toArray⟩), .im (.int .u32 (n : Int)), (.im (.int .i64 (li))), (.im (.int .i64 (co)))])]) (by rfl) ?_
    refine wG Y27_T18 (And.intro h1 (And.intro h2 (And.intro h3 (And.intro h4 h6)))) ?_
    refine AR.callP qq True.intro byL_id ?_
    refine goG Y27_T18 True.intro ?_
    refine wG Y27_T18 True.intro ?_
    refine Fin.gen0 (rs := [.tmp 2, .tmp 3]) rfl (by first | exact .inl rfl | exact .inr rfl) (by simp only [resX, resA, ↓accU_f, ↓reduceIte, SA, SB, SC, SD, Y27_T18, valG, fpsG, evO, evB, evA, evA1, nilK, eqF, eqC, apOk, intOf, slB, slK,  gd, St.ev, putA, ofl, wrl, putE, V.ofVal, V.ofCell, bin2, un1, seg, fillV, partsOk, Value.oneCell', Nat.reduceBEq, Nat.reduceLT, Nat.reduceSub, Nat.reduceAdd, Nat.reduceMul, Nat.reduceLeDiff, Nat.reduceEqDiff, reduceCtorEq, Int.reduceLT, Int.reduceLE, Int.reduceEq, Int.reduceNe, Int.reduceBEq, Int.reduceBNe, Int.reduceAdd, Int.reduceSub, Int.reduceMul, Int.reduceToNat]; with_reducible exact rfl) ?_
    repeat (first | exact WkF.of (Wk.refl _) (by first | rfl | simp only [List.length_cons, List.length_nil, Nat.reduceAdd, V.ids, V.idsL, idsA, entOk, List.all_cons, List.all_nil, Bool.and_self, Bool.and_true, Bool.true_and, ltB, noId, Nat.reduceLT, decide_true, Bool.true_eq_false, tyV_id, fdV_id, tyL_id, fdL_id, byL_id]) | exact WkF.of (Wk.ro _ _) (by first | rfl | simp only [List.length_cons, List.length_nil, Nat.reduceAdd, V.ids, V.idsL, idsA, entOk, List.all_cons, List.all_nil, Bool.and_self, Bool.and_true, Bool.true_and, ltB, noId, Nat.reduceLT, decide_true, Bool.true_eq_false, tyV_id, fdV_id, tyL_id, fdL_id, byL_id]) | refine WkF.tu ?_ | refine WkF.ag ?_ | refine WkFL.cons ?_ ?_ | exact WkFL.nil)
  · rw [if_neg h6]
    refine PC.enter 31 Tryd.func27 rfl (by decide) rfl rfl (s := [(0, .ag [(.im (.int .i64 (kd))), .im (.string ⟨(tx).toArray⟩), .im (.int .u32 (n : Int)), (.im (.int .i64 (li))), (.im (.int .i64 (co)))])]) (by rfl) ?_
    refine wG Y27_T18 (And.intro h1 (And.intro h2 (And.intro h3 (And.intro h4 h6)))) ?_
    refine Fin.gen0 (rs := [.tmp 2, .tmp 3]) rfl (by first | exact .inl rfl | exact .inr rfl) (by simp only [resX, resA, ↓accU_f, ↓reduceIte, SA, SB, SC, SD, Y27_T18, valG, fpsG, evO, evB, evA, evA1, nilK, eqF, eqC, apOk, intOf, slB, slK,  gd, St.ev, putA, ofl, wrl, putE, V.ofVal, V.ofCell, bin2, un1, seg, fillV, partsOk, Value.oneCell', Nat.reduceBEq, Nat.reduceLT, Nat.reduceSub, Nat.reduceAdd, Nat.reduceMul, Nat.reduceLeDiff, Nat.reduceEqDiff, reduceCtorEq, Int.reduceLT, Int.reduceLE, Int.reduceEq, Int.reduceNe, Int.reduceBEq, Int.reduceBNe, Int.reduceAdd, Int.reduceSub, Int.reduceMul, Int.reduceToNat]; with_reducible exact rfl) ?_
    repeat (first | exact WkF.of (Wk.refl _) (by first | rfl | simp only [List.length_cons, List.length_nil, Nat.reduceAdd, V.ids, V.idsL, idsA, entOk, List.all_cons, List.all_nil, Bool.and_self, Bool.and_true, Bool.true_and, ltB, noId, Nat.reduceLT, decide_true, Bool.true_eq_false, tyV_id, fdV_id, tyL_id, fdL_id, byL_id]) | exact WkF.of (Wk.ro _ _) (by first | rfl | simp only [List.length_cons, List.length_nil, Nat.reduceAdd, V.ids, V.idsL, idsA, entOk, List.all_cons, List.all_nil, Bool.and_self, Bool.and_true, Bool.true_and, ltB, noId, Nat.reduceLT, decide_true, Bool.true_eq_false, tyV_id, fdV_id, tyL_id, fdL_id, byL_id]) | refine WkF.tu ?_ | refine WkF.ag ?_ | refine WkFL.cons ?_ ?_ | exact WkFL.nil)
end Go.Proofs.YtjilcaemoebloaaDoor

