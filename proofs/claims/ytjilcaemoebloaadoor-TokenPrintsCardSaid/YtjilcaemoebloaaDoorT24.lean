/- Walks: tokens of the reference; the law TokenPositions. -/
import Derived.Test.YtjilcaemoebloaaDoorHv
import Derived.Test.YtjilcaemoebloaaDoorT23
namespace Go.Proofs.YtjilcaemoebloaaDoor
set_option linter.unusedSimpArgs false
set_option linter.unusedVariables false
set_option linter.unnecessarySimpa false
open Go.RowKit
theorem Y17_T24 : type_of% (And.intro @F_ag_28 (And.intro @F_ag_3 (And.intro @F_ag_9 (And.intro @F_al_37 (And.intro @F_by_37 (And.intro @F_el_24 (And.intro @F_el_33 (And.intro @F_fl_30_0 (And.intro @F_fl_30_1 (And.intro @F_fl_30_2 (And.intro @F_fl_30_3 (And.intro @F_fl_30_4 (And.intro @F_st_37 (And.intro @F_sz_28 (And.intro @F_sz_3 (And.intro @F_sz_30 (And.intro @F_sz_37 (@F_sz_9)))))))))))))))))) := And.intro @F_ag_28 (And.intro @F_ag_3 (And.intro @F_ag_9 (And.intro @F_al_37 (And.intro @F_by_37 (And.intro @F_el_24 (And.intro @F_el_33 (And.intro @F_fl_30_0 (And.intro @F_fl_30_1 (And.intro @F_fl_30_2 (And.intro @F_fl_30_3 (And.intro @F_fl_30_4 (And.intro @F_st_37 (And.intro @F_sz_28 (And.intro @F_sz_3 (And.intro @F_sz_30 (And.intro @F_sz_37 (@F_sz_9)))))))))))))))))
set_option maxHeartbeats 1000000 in
theorem c_toRef (l : List Tk) (hl : l.length ≤ 4194304) : PC Tryd.prog 17 [.sl (l.map tkV) .ro] (.sl (l.map tkV) .ro) := by
  refine PC.enter 41 Tryd.func17 rfl (by decide) rfl rfl (s := [(0, .sl (l.map tkV) .ro)]) (by rfl) ?_
  refine wG Y17_T24 TKT ?_
  refine AWp.loop ?_
  refine ALp.ghost 3 [] .nl 37 5 ?_
  suffices H : ∀ (k m : Nat) (A : List Tk), l.length - m = k → m ≤ l.length → A = l.take m → ALp _ _ _ _ _ ⟨dn 41 [(0, .sl (l.map tkV) .ro), (3, .sl (A.map tkV) (.own 0)), (4, (.im (.int .i64 ((((m : Nat)) : Int)))))], ofl [.tip 37 5 A.length]⟩ by
    refine ALp.cutP 1 [(0, .sl (l.map tkV) .ro), (3, .sl (([] : List Tk).map tkV) (.own 0)), (4, (.im (.int .i64 ((((0 : Nat)) : Int)))))] [.tip 37 5 ([] : List Tk).length] (And.intro tkL_id (And.intro tkV_id (And.intro byL_id sL_id))) ?_
    exact H _ 0 [] rfl (Nat.zero_le _) rfl
  intro k
  induction k using Nat.strongRecOn with
  | _ k ih =>
  intro m A hk hm hA
  have hAl : A.length = m := by rw [hA, List.length_take]; omega
  refine ALp.round ?_
  by_cases hlt : m < l.length
  case neg =>
    obtain rfl : m = l.length := by omega
    have hn : ¬ (l.length : Int) < (l.length : Int) := by omega
    rw [List.take_length] at hA
    subst hA
    clear ih
    refine wG Y17_T24 (And.intro TKT hn) ?_
    refine Fin.gen0 (rs := [.tmp 2]) rfl (by first | exact .inl rfl | exact .inr rfl) (by simp only [resX, resA, ↓accU_f, ↓reduceIte, SA, SB, SC, SD, Y17_T24, valG, fpsG, evO, evB, evA, evA1, nilK, eqF, eqC, apOk, intOf, slB, slK,  gd, St.ev, putA, ofl, wrl, putE, V.ofVal, V.ofCell, bin2, un1, seg, fillV, partsOk, Value.oneCell', Nat.reduceBEq, Nat.reduceLT, Nat.reduceSub, Nat.reduceAdd, Nat.reduceMul, Nat.reduceLeDiff, Nat.reduceEqDiff, reduceCtorEq, Int.reduceLT, Int.reduceLE, Int.reduceEq, Int.reduceNe, Int.reduceBEq, Int.reduceBNe, Int.reduceAdd, Int.reduceSub, Int.reduceMul, Int.reduceToNat]; with_reducible exact rfl) ?_
    repeat (first | exact WkF.of (Wk.refl _) (by first | rfl | simp only [List.length_cons, List.length_nil, Nat.reduceAdd, V.ids, V.idsL, idsA, entOk, List.all_cons, List.all_nil, Bool.and_self, Bool.and_true, Bool.true_and, ltB, noId, Nat.reduceLT, decide_true, Bool.true_eq_false, tyV_id, fdV_id, tyL_id, fdL_id, tkL_id, tkV_id, byL_id, sL_id]) | exact WkF.of (Wk.ro _ _) (by first | rfl | simp only [List.length_cons, List.length_nil, Nat.reduceAdd, V.ids, V.idsL, idsA, entOk, List.all_cons, List.all_nil, Bool.and_self, Bool.and_true, Bool.true_and, ltB, noId, Nat.reduceLT, decide_true, Bool.true_eq_false, tyV_id, fdV_id, tyL_id, fdL_id, tkL_id, tkV_id, byL_id, sL_id]) | refine WkF.tu ?_ | refine WkF.ag ?_ | refine WkFL.cons ?_ ?_ | exact WkFL.nil)
  have hlt' : (m : Int) < (l.length : Int) := by omega
  have hw1 := wrap_succ hlt (by omega)
  have hg : l[m]? = some l[m] := List.getElem?_eq_getElem hlt
  have hst : l.take (m + 1) = l.take m ++ [l[m]] := List.take_succ_eq_append_getElem hlt
  obtain ⟨B, hB⟩ : ∃ B, B = A ++ [l[m]] := ⟨_, rfl⟩
  have hI := ih (l.length - (m + 1)) (by omega) (m + 1) B rfl (by omega) (by rw [hst, hB, hA])
  clear ih hst
  generalize l[m] = t at hg hB
  have hAs : A.map tkV ++ [.ag [(.im (.int .i64 (t.kind))), .im (.string ⟨(t.text).toArray⟩), .im (.int .u32 t.n), (.im (.int .i64 (t.line))), (.im (.int .i64 (t.col)))]] = B.map tkV := by rw [hB, List.map_append]; rfl
  have hAk : A.length + 1 = B.length := by rw [hB]; simp
  have hbl : B.length * 48 ≤ 140737488355328 := by omega
  clear hA hB
  refine wdG Y17_T24 (And.intro TKT (And.intro hlt' (And.intro hg (And.intro hAs (And.intro hAk (And.intro hbl (And.intro hw1 @List.length_map.{0, 0}))))))) ?_
  refine ALp.cutP 1 [(0, .sl (l.map tkV) .ro), (3, .sl (B.map tkV) (.own 0)), (4, (.im (.int .i64 ((((m + 1 : Nat)) : Int)))))] [.tip 37 5 B.length] (And.intro tkL_id (And.intro tkV_id (And.intro byL_id sL_id))) ?_
  exact hI
theorem Y23_T24 : type_of% (And.intro @F_ag_3 (And.intro @F_el_33 (And.intro @F_fl_37_3 (And.intro @F_fl_37_4 (And.intro @F_sz_3 (@F_sz_37)))))) := And.intro @F_ag_3 (And.intro @F_el_33 (And.intro @F_fl_37_3 (And.intro @F_fl_37_4 (And.intro @F_sz_3 (@F_sz_37)))))
theorem c_PositionR (l : List Tk) (k : Int) (hl : l.length ≤ 4194304) : PC Tryd.prog 23 [.sl (l.map tkV) .ro, (.im (.int .i64 (k)))] (.tu [(.im (.int .i64 ((posR l k).1))), (.im (.int .i64 ((posR l k).2)))]) := by
  by_cases h0 : k < 0
  · rw [show posR l k = (1, 1) from if_pos h0]
    refine PC.enter 28 Tryd.func23 rfl (by decide) rfl rfl (s := [(0, .sl (l.map tkV) .ro), (1, (.im (.int .i64 (k))))]) (by rfl) ?_
    refine wG Y23_T24 (And.intro TKT h0) ?_
    refine Fin.gen0 (rs := [.tmp 4, .tmp 5]) rfl (by first | exact .inl rfl | exact .inr rfl) (by simp only [resX, resA, ↓accU_f, ↓reduceIte, SA, SB, SC, SD, Y23_T24, valG, fpsG, evO, evB, evA, evA1, nilK, eqF, eqC, apOk, intOf, slB, slK,  gd, St.ev, putA, ofl, wrl, putE, V.ofVal, V.ofCell, bin2, un1, seg, fillV, partsOk, Value.oneCell', Nat.reduceBEq, Nat.reduceLT, Nat.reduceSub, Nat.reduceAdd, Nat.reduceMul, Nat.reduceLeDiff, Nat.reduceEqDiff, reduceCtorEq, Int.reduceLT, Int.reduceLE, Int.reduceEq, Int.reduceNe, Int.reduceBEq, Int.reduceBNe, Int.reduceAdd, Int.reduceSub, Int.reduceMul, Int.reduceToNat]; with_reducible exact rfl) ?_
    repeat (first | exact WkF.of (Wk.refl _) (by first | rfl | simp only [List.length_cons, List.length_nil, Nat.reduceAdd, V.ids, V.idsL, idsA, entOk, List.all_cons, List.all_nil, Bool.and_self, Bool.and_true, Bool.true_and, ltB, noId, Nat.reduceLT, decide_true, Bool.true_eq_false, tyV_id, fdV_id, tyL_id, fdL_id, tkL_id, tkV_id, byL_id, sL_id]) | exact WkF.of (Wk.ro _ _) (by first | rfl | simp only [List.length_cons, List.length_nil, Nat.reduceAdd, V.ids, V.idsL, idsA, entOk, List.all_cons, List.all_nil, Bool.and_self, Bool.and_true, Bool.true_and, ltB, noId, Nat.reduceLT, decide_true, Bool.true_eq_false, tyV_id, fdV_id, tyL_id, fdL_id, tkL_id, tkV_id, byL_id, sL_id]) | refine WkF.tu ?_ | refine WkF.ag ?_ | refine WkFL.cons ?_ ?_ | exact WkFL.nil)
  cases hE : l with
  | nil =>
    rw [show posR [] k = (1, 1) by unfold posR; split <;> rfl]
    refine PC.enter 28 Tryd.func23 rfl (by decide) rfl rfl (s := [(0, .sl (([] : List Tk).map tkV) .ro), (1, (.im (.int .i64 (k))))]) (by rfl) ?_
    refine wG Y23_T24 (And.intro TKT h0) ?_
    refine Fin.gen0 (rs := [.tmp 4, .tmp 5]) rfl (by first | exact .inl rfl | exact .inr rfl) (by simp only [resX, resA, ↓accU_f, ↓reduceIte, SA, SB, SC, SD, Y23_T24, valG, fpsG, evO, evB, evA, evA1, nilK, eqF, eqC, apOk, intOf, slB, slK,  gd, St.ev, putA, ofl, wrl, putE, V.ofVal, V.ofCell, bin2, un1, seg, fillV, partsOk, Value.oneCell', Nat.reduceBEq, Nat.reduceLT, Nat.reduceSub, Nat.reduceAdd, Nat.reduceMul, Nat.reduceLeDiff, Nat.reduceEqDiff, reduceCtorEq, Int.reduceLT, Int.reduceLE, Int.reduceEq, Int.reduceNe, Int.reduceBEq, Int.reduceBNe, Int.reduceAdd, Int.reduceSub, Int.reduceMul, Int.reduceToNat]; with_reducible exact rfl) ?_
    repeat (first | exact WkF.of (Wk.refl _) (by first | rfl | simp only [List.length_cons, List.length_nil, Nat.reduceAdd, V.ids, V.idsL, idsA, entOk, List.all_cons, List.all_nil, Bool.and_self, Bool.and_true, Bool.true_and, ltB, noId, Nat.reduceLT, decide_true, Bool.true_eq_false, tyV_id, fdV_id, tyL_id, fdL_id, tkL_id, tkV_id, byL_id, sL_id]) | exact WkF.of (Wk.ro _ _) (by first | rfl | simp only [List.length_cons, List.length_nil, Nat.reduceAdd, V.ids, V.idsL, idsA, entOk, List.all_cons, List.all_nil, Bool.and_self, Bool.and_true, Bool.true_and, ltB, noId, Nat.reduceLT, decide_true, Bool.true_eq_false, tyV_id, fdV_id, tyL_id, fdL_id, tkL_id, tkV_id, byL_id, sL_id]) | refine WkF.tu ?_ | refine WkF.ag ?_ | refine WkFL.cons ?_ ?_ | exact WkFL.nil)
  | cons x r =>
  rw [← hE]
  have hpos : 1 ≤ l.length := by rw [hE]; simp
  clear hE
  have hne : ¬ (l.length : Int) = 0 := by omega
  have hw : IntKind.i64.wrap ((l.length : Int) - 1) = ((l.length - 1 : Nat) : Int) := by rw [wrap_in (by omega)]; omega
  obtain ⟨j, hj⟩ : ∃ j, j = min k.toNat (l.length - 1) := ⟨_, rfl⟩
  have hjl : j < l.length := by omega
  have hg : l[j]? = some l[j] := List.getElem?_eq_getElem hjl
  have hR : posR l k = (l[j].line, l[j].col) := by
    unfold posR
    rw [if_neg h0, ← hj, hg]
  rw [hR]
  clear hR
  generalize l[j] = t at hg
  have hmin : (if ((l.length - 1 : Nat) : Int) < k then ((l.length - 1 : Nat) : Int) else k) = (j : Int) := by split <;> omega
  refine PC.enter 28 Tryd.func23 rfl (by decide) rfl rfl (s := [(0, .sl (l.map tkV) .ro), (1, (.im (.int .i64 (k))))]) (by rfl) ?_
  refine wdG Y23_T24 (And.intro TKT (And.intro h0 (And.intro hne (And.intro hw (And.intro hg (And.intro hmin @Int.toNat_natCast)))))) ?_
  refine Fin.gen0 (rs := [.tmp 4, .tmp 5]) rfl (by first | exact .inl rfl | exact .inr rfl) (by simp only [resX, resA, ↓accU_f, ↓reduceIte, SA, SB, SC, SD, Y23_T24, valG, fpsG, evO, evB, evA, evA1, nilK, eqF, eqC, apOk, intOf, slB, slK,  gd, St.ev, putA, ofl, wrl, putE, V.ofVal, V.ofCell, bin2, un1, seg, fillV, partsOk, Value.oneCell', Nat.reduceBEq, Nat.reduceLT, Nat.reduceSub, Nat.reduceAdd, Nat.reduceMul, Nat.reduceLeDiff, Nat.reduceEqDiff, reduceCtorEq, Int.reduceLT, Int.reduceLE, Int.reduceEq, Int.reduceNe, Int.reduceBEq, Int.reduceBNe, Int.reduceAdd, Int.reduceSub, Int.reduceMul, Int.reduceToNat]; with_reducible exact rfl) ?_
  repeat (first | exact WkF.of (Wk.refl _) (by first | rfl | simp only [List.length_cons, List.length_nil, Nat.reduceAdd, V.ids, V.idsL, idsA, entOk, List.all_cons, List.all_nil, Bool.and_self, Bool.and_true, Bool.true_and, ltB, noId, Nat.reduceLT, decide_true, Bool.true_eq_false, tyV_id, fdV_id, tyL_id, fdL_id, tkL_id, tkV_id, byL_id, sL_id]) | exact WkF.of (Wk.ro _ _) (by first | rfl | simp only [List.length_cons, List.length_nil, Nat.reduceAdd, V.ids, V.idsL, idsA, entOk, List.all_cons, List.all_nil, Bool.and_self, Bool.and_true, Bool.true_and, ltB, noId, Nat.reduceLT, decide_true, Bool.true_eq_false, tyV_id, fdV_id, tyL_id, fdL_id, tkL_id, tkV_id, byL_id, sL_id]) | refine WkF.tu ?_ | refine WkF.ag ?_ | refine WkFL.cons ?_ ?_ | exact WkFL.nil)
theorem scan_asc (s : Bs) : Asc (scan s).1 := (scn_asc _ s (1, 1)).2
theorem Y10_T24 : type_of% (And.intro @F_ag_3 (And.intro @F_el_24 (And.intro @F_fl_30_3 (And.intro @F_fl_30_4 (And.intro @F_sz_3 (@F_sz_30)))))) := And.intro @F_ag_3 (And.intro @F_el_24 (And.intro @F_fl_30_3 (And.intro @F_fl_30_4 (And.intro @F_sz_3 (@F_sz_30)))))
set_option maxHeartbeats 1000000 in
theorem c_law8 (s : Bs) (k : Int) (hs : s.length ≤ 140737488355328) : PC Tryd.prog 10 [.im (.string ⟨(s).toArray⟩), (.im (.int .i64 (k)))] (.im (.bool (true))) := by
  have qe := c_ex
  have qf := c_few s
  by_cases hf : s.length ≤ 300
  case neg =>
    rw [decide_eq_false hf] at qf
    refine PC.enter 91 Tryd.func10 rfl (by decide) rfl rfl (s := [(0, .im (.string ⟨(s).toArray⟩)), (1, (.im (.int .i64 (k))))]) (by rfl) ?_
    refine wG Y10_T24 True.intro ?_
    refine AR.callP qf True.intro (And.intro tkL_id (And.intro tkV_id (And.intro byL_id sL_id))) ?_
    refine goG Y10_T24 True.intro ?_
    refine wG Y10_T24 True.intro ?_
    refine AR.callP qe True.intro (And.intro tkL_id (And.intro tkV_id (And.intro byL_id sL_id))) ?_
    refine goG Y10_T24 True.intro ?_
    refine wG Y10_T24 True.intro ?_
    exact Fin.oneP
  rw [decide_eq_true hf] at qf
  have q1 := c_scan s (by omega)
  have hasc := scan_asc s
  have hlen := scan_len s
  generalize (scan s).2 = b at q1
  generalize (scan s).1 = l at q1 hasc hlen
  have q2 := c_Position l k (by omega)
  have q3 := c_toRef l (by omega)
  have q4 := c_PositionR l k (by omega)
  generalize posR l k = p at q2 q4
  obtain ⟨p1, p2⟩ := p
  refine PC.enter 91 Tryd.func10 rfl (by decide) rfl rfl (s := [(0, .im (.string ⟨(s).toArray⟩)), (1, (.im (.int .i64 (k))))]) (by rfl) ?_
  refine wG Y10_T24 True.intro ?_
  refine AR.callP qf True.intro (And.intro tkL_id (And.intro tkV_id (And.intro byL_id sL_id))) ?_
  refine goG Y10_T24 True.intro ?_
  refine wG Y10_T24 True.intro ?_
  refine AR.callP q1 True.intro (And.intro tkL_id (And.intro tkV_id (And.intro byL_id sL_id))) ?_
  refine goG Y10_T24 True.intro ?_
  refine wG Y10_T24 True.intro ?_
  refine AWp.loop ?_
  refine ALp.cutP 0 [(0, .im (.string ⟨(s).toArray⟩)), (1, (.im (.int .i64 (k)))), (5, .sl (l.map tkV) .ro), (7, (.im (.int .i64 ((((0 + 1 : Nat)) : Int)))))] [] (And.intro tkL_id (And.intro tkV_id (And.intro byL_id sL_id))) ?_
  refine ALp.upto l.length (fun _ => True) (fun m => ⟨dn 91 [(0, .im (.string ⟨(s).toArray⟩)), (1, (.im (.int .i64 (k)))), (5, .sl (l.map tkV) .ro), (7, (.im (.int .i64 ((((m + 1 : Nat)) : Int)))))], ofl []⟩) ?_ 0 (Nat.zero_le _) trivial
  intro m hm _ hnext
  by_cases hlt : m + 1 < l.length
  case neg =>
    have hn : ¬ ((m + 1 : Nat) : Int) < (l.length : Int) := by omega
    clear hnext hasc
    refine wG Y10_T24 (And.intro TKT hn) ?_
    refine AR.callP q2 True.intro (And.intro tkL_id (And.intro tkV_id (And.intro byL_id sL_id))) ?_
    refine goG Y10_T24 True.intro ?_
    refine wG Y10_T24 True.intro ?_
    refine AR.callP q3 True.intro (And.intro tkL_id (And.intro tkV_id (And.intro byL_id sL_id))) ?_
    refine goG Y10_T24 True.intro ?_
    refine AR.callP q4 True.intro (And.intro tkL_id (And.intro tkV_id (And.intro byL_id sL_id))) ?_
    refine goG Y10_T24 True.intro ?_
    refine wG Y10_T24 True.intro ?_
    refine AR.callP qe True.intro (And.intro tkL_id (And.intro tkV_id (And.intro byL_id sL_id))) ?_
    refine goG Y10_T24 True.intro ?_
    refine wG Y10_T24 True.intro ?_
    exact Fin.oneP
  have hlt' : ((m + 1 : Nat) : Int) < (l.length : Int) := by omega
  have hw1 : IntKind.i64.wrap (((m + 1 : Nat) : Int) + 1) = ((m + 1 + 1 : Nat) : Int) := by rw [wrap_in (by omega)]; omega
  have hw2 : IntKind.i64.wrap (((m + 1 : Nat) : Int) - 1) = (m : Int) := by rw [wrap_in (by omega)]; omega
  have hg1 : l[m]? = some l[m] := List.getElem?_eq_getElem (by omega)
  have hg2 : l[m + 1]? = some l[m + 1] := List.getElem?_eq_getElem hlt
  have hord := hasc m _ _ hg1 hg2
  have hn2 := hnext (m + 1) (by omega) (by omega) trivial
  clear hnext hasc
  generalize l[m] = x at hg1 hord
  generalize l[m + 1] = y at hg2 hord
  unfold ltP plc at hord
  simp only at hord
  have h1 : ¬ y.line < x.line := by omega
  by_cases h2 : y.line = x.line
  · have h3 : ¬ y.col ≤ x.col := by omega
    refine wdG Y10_T24 (And.intro TKT (And.intro hlt' (And.intro hw1 (And.intro hw2 (And.intro hg1 (And.intro hg2 (And.intro h1 (And.intro h2 (And.intro h3 @Int.lt_irrefl))))))))) ?_
    refine ALp.cutP 0 [(0, .im (.string ⟨(s).toArray⟩)), (1, (.im (.int .i64 (k)))), (5, .sl (l.map tkV) .ro), (7, (.im (.int .i64 ((((m + 1 + 1 : Nat)) : Int)))))] [] (And.intro tkL_id (And.intro tkV_id (And.intro byL_id sL_id))) ?_
    exact hn2
  · refine wdG Y10_T24 (And.intro TKT (And.intro hlt' (And.intro hw1 (And.intro hw2 (And.intro hg1 (And.intro hg2 (And.intro h1 h2))))))) ?_
    refine ALp.cutP 0 [(0, .im (.string ⟨(s).toArray⟩)), (1, (.im (.int .i64 (k)))), (5, .sl (l.map tkV) .ro), (7, (.im (.int .i64 ((((m + 1 + 1 : Nat)) : Int)))))] [] (And.intro tkL_id (And.intro tkV_id (And.intro byL_id sL_id))) ?_
    exact hn2
end Go.Proofs.YtjilcaemoebloaaDoor

