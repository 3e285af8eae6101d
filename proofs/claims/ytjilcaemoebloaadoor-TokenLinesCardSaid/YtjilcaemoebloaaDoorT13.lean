/- Walks: all tokens of a text. -/
import Derived.Test.YtjilcaemoebloaaDoorHv
import Derived.Test.YtjilcaemoebloaaDoorT14
import Derived.Test.YtjilcaemoebloaaDoorTg
namespace Go.Proofs.YtjilcaemoebloaaDoor
set_option linter.unusedSimpArgs false
set_option linter.unusedVariables false
set_option linter.unnecessarySimpa false
open Go.RowKit
/-- What Scan gives. -/
def scnR (s : Bs) : List Tk × Int := if 65536 < s.length then ([], 6) else ((scnB s).1, if (scnB s).2 then 0 else 3)
theorem Y13_T13 : type_of% (And.intro @F_ag_24 (And.intro @F_ag_3 (And.intro @F_ag_30 (And.intro @F_ag_9 (And.intro @F_al_30 (And.intro @F_al_49 (And.intro @F_by_30 (And.intro @F_el_24 (And.intro @F_fl_30_3 (And.intro @F_fl_30_4 (And.intro @F_fl_49_0 (And.intro @F_fl_49_1 (And.intro @F_fl_49_2 (And.intro @F_fl_49_3 (And.intro @F_st_30 (And.intro @F_st_49 (And.intro @F_sz_24 (And.intro @F_sz_3 (And.intro @F_sz_30 (And.intro @F_sz_9 (@F_un_9))))))))))))))))))))) := And.intro @F_ag_24 (And.intro @F_ag_3 (And.intro @F_ag_30 (And.intro @F_ag_9 (And.intro @F_al_30 (And.intro @F_al_49 (And.intro @F_by_30 (And.intro @F_el_24 (And.intro @F_fl_30_3 (And.intro @F_fl_30_4 (And.intro @F_fl_49_0 (And.intro @F_fl_49_1 (And.intro @F_fl_49_2 (And.intro @F_fl_49_3 (And.intro @F_st_30 (And.intro @F_st_49 (And.intro @F_sz_24 (And.intro @F_sz_3 (And.intro @F_sz_30 (And.intro @F_sz_9 (@F_un_9))))))))))))))))))))
set_option maxHeartbeats 2000000 in
theorem c_Scan (s : Bs) (hs : s.length ≤ 4194304) : PC Tryd.prog 13 [.im (.string ⟨(s).toArray⟩)] (.tu [.sl ((scnR s).1.map tkV) .ro, .im (.int .i64 (scnR s).2)]) := by
  by_cases hbig : 65536 < s.length
  · have hb : (s.length : Int) > 65536 := by omega
    rw [show scnR s = ([], 6) from if_pos hbig]
    refine PC.enter 73 Tryd.func13 rfl (by decide) rfl rfl (s := [(0, .im (.string ⟨(s).toArray⟩))]) (by rfl) ?_
    refine wG Y13_T13 (And.intro BY (And.intro bS_size hb)) ?_
    refine Fin.gen0 (rs := [.tmp 2, .tmp 3]) rfl (by first | exact .inl rfl | exact .inr rfl) (by simp only [resX, resA, ↓accU_f, ↓reduceIte, SA, SB, SC, SD, Y13_T13, valG, fpsG, evO, evB, evA, evA1, nilK, eqF, eqC, apOk, intOf, slB, slK,  gd, St.ev, putA, ofl, wrl, putE, V.ofVal, V.ofCell, bin2, un1, seg, fillV, partsOk, Value.oneCell', Nat.reduceBEq, Nat.reduceLT, Nat.reduceSub, Nat.reduceAdd, Nat.reduceMul, Nat.reduceLeDiff, Nat.reduceEqDiff, reduceCtorEq, Int.reduceLT, Int.reduceLE, Int.reduceEq, Int.reduceNe, Int.reduceBEq, Int.reduceBNe, Int.reduceAdd, Int.reduceSub, Int.reduceMul, Int.reduceToNat]; with_reducible exact rfl) ?_
    repeat (first | exact WkF.of (Wk.refl _) (by first | rfl | simp only [List.length_cons, List.length_nil, Nat.reduceAdd, V.ids, V.idsL, idsA, entOk, List.all_cons, List.all_nil, Bool.and_self, Bool.and_true, Bool.true_and, ltB, noId, Nat.reduceLT, decide_true, Bool.true_eq_false, tyV_id, fdV_id, tyL_id, fdL_id, tkL_id, tkV_id, byL_id]) | exact WkF.of (Wk.ro _ _) (by first | rfl | simp only [List.length_cons, List.length_nil, Nat.reduceAdd, V.ids, V.idsL, idsA, entOk, List.all_cons, List.all_nil, Bool.and_self, Bool.and_true, Bool.true_and, ltB, noId, Nat.reduceLT, decide_true, Bool.true_eq_false, tyV_id, fdV_id, tyL_id, fdL_id, tkL_id, tkV_id, byL_id]) | refine WkF.tu ?_ | refine WkF.ag ?_ | refine WkFL.cons ?_ ?_ | exact WkFL.nil)
  have hb : ¬ (s.length : Int) > 65536 := by omega
  rw [show scnR s = ((scnB s).1, if (scnB s).2 then 0 else 3) from if_neg hbig]
  refine PC.enter 73 Tryd.func13 rfl (by decide) rfl rfl (s := [(0, .im (.string ⟨(s).toArray⟩))]) (by rfl) ?_
  refine AWp.seq ?_
  refine AWp.tail (fun _ : Unit => ⟨dn 73 [(0, .im (.string ⟨(s).toArray⟩)), (2, .sl [] .nl), (3, .im (.int .i64 0))], ofl []⟩) (fun _ => ?_) (fun rest ht => ?_)
  case refine_2 =>
    refine wG Y13_T13 True.intro ?_
    refine AWp.cutP 0 [(0, .im (.string ⟨(s).toArray⟩)), (2, .sl [] .nl), (3, .im (.int .i64 0))] [] (And.intro tkL_id (And.intro tkV_id (And.intro byL_id True.intro))) ?_
    exact ht ()
  refine AWp.seq ?_
  refine AWp.tail (fun _ : Unit => ⟨dn 73 [(0, .im (.string ⟨(s).toArray⟩)), (2, .sl [] .nl), (3, .im (.int .i64 0))], ofl []⟩) (fun _ => ?_) (fun rest ht => ?_)
  case refine_2 =>
    refine wG Y13_T13 (And.intro BY (And.intro bS_size hb)) ?_
    refine AWp.cutP 0 [(0, .im (.string ⟨(s).toArray⟩)), (2, .sl [] .nl), (3, .im (.int .i64 0))] [] (And.intro tkL_id (And.intro tkV_id (And.intro byL_id True.intro))) ?_
    exact ht ()
  refine AWp.seq ?_
  refine AWp.tail (fun _ : Unit => ⟨dn 73 [(0, .im (.string ⟨(s).toArray⟩)), (2, .sl [] .nl), (3, .im (.int .i64 0)), (4, .pt 0 0)], ofl [.box [.im (.string ⟨(s).toArray⟩), (.im (.int .i64 (1))), (.im (.int .i64 (1))), .sl [] .nl]]⟩) (fun _ => ?_) (fun rest ht => ?_)
  case refine_2 =>
    refine wG Y13_T13 BY ?_
    refine AWp.cutP 1 [(0, .im (.string ⟨(s).toArray⟩)), (2, .sl [] .nl), (3, .im (.int .i64 0)), (4, .pt 0 0)] [.box [.im (.string ⟨(s).toArray⟩), (.im (.int .i64 (1))), (.im (.int .i64 (1))), .sl [] .nl]] (And.intro tkL_id (And.intro tkV_id (And.intro byL_id True.intro))) ?_
    exact ht ()
  refine AWp.ghostB 0 3 [.im (.string ⟨(s).toArray⟩), (.im (.int .i64 (1))), (.im (.int .i64 (1))), .sl [] .nl] 30 5 ?_
  have qb := c_blank s (1, 1) [] (by decide) (by decide) hs
  refine wG Y13_T13 True.intro ?_
  refine AR.callS [0, 1] qb rfl rfl (by first | (simp only [SR, tkV_ren, tkL_ren, byL_ren]; done) | (simp only [SR, tkV_ren, tkL_ren, byL_ren]; with_reducible exact rfl)) (by first | (simp only [SR, tkV_ren, tkL_ren, byL_ren]; done) | (simp only [SR, tkV_ren, tkL_ren, byL_ren]; with_reducible exact rfl)) (WkL.of_eq (by simp only [St.ev, V.ofVal, V.ofCell, V.size_im, getD_dn, look_cons, look_nil, Nat.reduceLT, Nat.reduceEqDiff, reduceIte, if_true, if_false, List.map_cons, List.map_nil, List.nil_append, List.cons_append, List.append_nil])) (by first | rfl | simp only [List.length_cons, List.length_nil, Nat.reduceAdd, V.ids, V.idsL, idsA, entOk, List.all_cons, List.all_nil, Bool.and_self, Bool.and_true, Bool.true_and, ltB, noId, Nat.reduceLT, decide_true, Bool.true_eq_false, tyV_id, fdV_id, tyL_id, fdL_id, tkL_id, tkV_id, byL_id]) rfl rfl rfl (by first | rfl | simp only [List.length_cons, List.length_nil, Nat.reduceAdd, V.ids, V.idsL, idsA, entOk, List.all_cons, List.all_nil, Bool.and_self, Bool.and_true, Bool.true_and, ltB, noId, Nat.reduceLT, decide_true, Bool.true_eq_false, tyV_id, fdV_id, tyL_id, fdL_id, tkL_id, tkV_id, byL_id]) (by intro p hp; simp only [renE, SR, Ent.ren, List.mem_cons, List.not_mem_nil, or_false, tkV_ren, tkL_ren, byL_ren] at hp; rcases hp with rfl | rfl <;> rfl) (by simp only [renE, Ent.ren, SR, tkV_ren, tkL_ren, byL_ren, wrl, putE, SC, SD, Nat.reduceBEq, Nat.reduceLT, Nat.reduceSub, Nat.reduceAdd, Nat.reduceMul, Nat.reduceLeDiff, Nat.reduceEqDiff, reduceCtorEq, Int.reduceLT, Int.reduceLE, Int.reduceEq, Int.reduceNe, Int.reduceBEq, Int.reduceBNe, Int.reduceAdd, Int.reduceSub, Int.reduceMul, Int.reduceToNat]; with_reducible exact rfl) ?_
  refine goG Y13_T13 True.intro ?_
  refine wG Y13_T13 True.intro ?_
  refine AWp.loop ?_
  suffices H : ∀ (k f : Nat) (x : Bs) (q : Int × Int) (ts : List Tk), x.length = k → x.length < f → skpG false x = x → scnB s = (ts ++ (scnN f x q).1, (scnN f x q).2) → ts.length + x.length ≤ s.length →
      (x = s.drop (s.length - x.length)) → (q = advs (1, 1) (s.take (s.length - x.length))) → ALp _ _ _ _ _ ⟨dn 73 [(0, .im (.string ⟨(s).toArray⟩)), (4, .pt 0 0)], ofl [.box [.im (.string ⟨(x).toArray⟩), (.im (.int .i64 (q.1))), (.im (.int .i64 (q.2))), .sl (ts.map tkV) (.mine 1)], .tip 30 5 ts.length]⟩ by
    refine ALp.cutP 2 [(0, .im (.string ⟨(s).toArray⟩)), (4, .pt 0 0)] [.box [.im (.string ⟨(skpG false s).toArray⟩), (.im (.int .i64 ((skq s (1, 1)).1))), (.im (.int .i64 ((skq s (1, 1)).2))), .sl (([] : List Tk).map tkV) (.mine 1)], .tip 30 5 ([] : List Tk).length] (And.intro tkL_id (And.intro tkV_id byL_id)) ?_
    exact H _ (s.length + 1) _ _ [] rfl (by have := skp_le false s; omega) (skp_idem s false) (by rw [List.nil_append, ← scnN_skp]; rfl) (by have := skp_le false s; simp; exact this) (List.suffix_iff_eq_drop.1 (skp_suf s false)) rfl
  intro k
  induction k using Nat.strongRecOn with
  | _ k ih =>
  intro f x q ts hk hf hx hE hts hq1 hq2
  refine ALp.round ?_
  cases x with
  | nil =>
    have e0 : (([] : Bs) == []) = true := rfl
    rw [scnN_nil, List.append_nil] at hE
    rw [hE]
    clear ih
    refine wG Y13_T13 (And.intro BY e0) ?_
    refine Fin.gen0 (rs := [.tmp 2, .tmp 3]) rfl (by first | exact .inl rfl | exact .inr rfl) (by simp only [resX, resA, ↓accU_f, ↓reduceIte, SA, SB, SC, SD, Y13_T13, valG, fpsG, evO, evB, evA, evA1, nilK, eqF, eqC, apOk, intOf, slB, slK,  gd, St.ev, putA, ofl, wrl, putE, V.ofVal, V.ofCell, bin2, un1, seg, fillV, partsOk, Value.oneCell', Nat.reduceBEq, Nat.reduceLT, Nat.reduceSub, Nat.reduceAdd, Nat.reduceMul, Nat.reduceLeDiff, Nat.reduceEqDiff, reduceCtorEq, Int.reduceLT, Int.reduceLE, Int.reduceEq, Int.reduceNe, Int.reduceBEq, Int.reduceBNe, Int.reduceAdd, Int.reduceSub, Int.reduceMul, Int.reduceToNat]; with_reducible exact rfl) ?_
    repeat (first | exact WkF.of (Wk.refl _) (by first | rfl | simp only [List.length_cons, List.length_nil, Nat.reduceAdd, V.ids, V.idsL, idsA, entOk, List.all_cons, List.all_nil, Bool.and_self, Bool.and_true, Bool.true_and, ltB, noId, Nat.reduceLT, decide_true, Bool.true_eq_false, tyV_id, fdV_id, tyL_id, fdL_id, tkL_id, tkV_id, byL_id]) | exact WkF.of (Wk.ro _ _) (by first | rfl | simp only [List.length_cons, List.length_nil, Nat.reduceAdd, V.ids, V.idsL, idsA, entOk, List.all_cons, List.all_nil, Bool.and_self, Bool.and_true, Bool.true_and, ltB, noId, Nat.reduceLT, decide_true, Bool.true_eq_false, tyV_id, fdV_id, tyL_id, fdL_id, tkL_id, tkV_id, byL_id]) | refine WkF.tu ?_ | refine WkF.ag ?_ | refine WkFL.cons ?_ ?_ | exact WkFL.nil)
  | cons c r =>
  have e0 : ((c :: r) == ([] : Bs)) = false := rfl
  have hxl : (c :: r).length ≤ 4194304 := by omega
  have qn := c_next (c :: r) q ts hxl (by simp)
  cases f with
  | zero => omega
  | succ f =>
  have hN := scnN_no (f := f) hx (by simp)
  have hY := scnN_ok (f := f) hx (by simp)
  have hlen := nxtR_len (s := c :: r) (by simp)
  generalize nxtR (c :: r) = v at qn hN hY hlen
  obtain ⟨tk, n, b⟩ := v
  have hal : ts.length + 1 ≤ 140737488355328 := by rw [List.length_cons] at hts; omega
  cases b with
  | false =>
    rw [hN rfl q] at hE
    rw [hE]
    obtain ⟨B, hB⟩ : ∃ B, B = ts ++ [(⟨6, [], 0, q.1, q.2⟩ : Tk)] := ⟨_, rfl⟩
    have hAs : ts.map tkV ++ [V.ag [.im (.int .i64 6), .im (.string ByteArray.empty), .im (.int .u32 0), .im (.int .i64 q.1), .im (.int .i64 q.2)]] = B.map tkV := by rw [hB, List.map_append]; rfl
    have hAl : ts.length + 1 = B.length := by rw [hB]; simp
    have hbl : B.length * 48 ≤ 140737488355328 := by rw [List.length_cons] at hts; omega
    simp only [← hB]
    clear ih hN hY hlen
    refine wG Y13_T13 (And.intro BY e0) ?_
    refine AR.callQP [0, 1] qn True.intro (And.intro tkL_id (And.intro tkV_id byL_id)) (And.intro tkV_ren (And.intro tkL_ren byL_ren)) ?_
    refine goG Y13_T13 TKT ?_
    refine wG Y13_T13 TKT ?_
    refine wdG Y13_T13 (And.intro BY (And.intro GDS (And.intro TKT (And.intro hAs (And.intro hAl (And.intro hbl @List.length_map.{0, 0})))))) ?_
    refine Fin.gen0 (rs := [.tmp 2, .tmp 3]) rfl (by first | exact .inl rfl | exact .inr rfl) (by simp only [resX, resA, ↓accU_f, ↓reduceIte, SA, SB, SC, SD, Y13_T13, valG, fpsG, evO, evB, evA, evA1, nilK, eqF, eqC, apOk, intOf, slB, slK,  gd, St.ev, putA, ofl, wrl, putE, V.ofVal, V.ofCell, bin2, un1, seg, fillV, partsOk, Value.oneCell', Nat.reduceBEq, Nat.reduceLT, Nat.reduceSub, Nat.reduceAdd, Nat.reduceMul, Nat.reduceLeDiff, Nat.reduceEqDiff, reduceCtorEq, Int.reduceLT, Int.reduceLE, Int.reduceEq, Int.reduceNe, Int.reduceBEq, Int.reduceBNe, Int.reduceAdd, Int.reduceSub, Int.reduceMul, Int.reduceToNat]; with_reducible exact rfl) ?_
    repeat (first | exact WkF.of (Wk.refl _) (by first | rfl | simp only [List.length_cons, List.length_nil, Nat.reduceAdd, V.ids, V.idsL, idsA, entOk, List.all_cons, List.all_nil, Bool.and_self, Bool.and_true, Bool.true_and, ltB, noId, Nat.reduceLT, decide_true, Bool.true_eq_false, tyV_id, fdV_id, tyL_id, fdL_id, tkL_id, tkV_id, byL_id]) | exact WkF.of (Wk.ro _ _) (by first | rfl | simp only [List.length_cons, List.length_nil, Nat.reduceAdd, V.ids, V.idsL, idsA, entOk, List.all_cons, List.all_nil, Bool.and_self, Bool.and_true, Bool.true_and, ltB, noId, Nat.reduceLT, decide_true, Bool.true_eq_false, tyV_id, fdV_id, tyL_id, fdL_id, tkL_id, tkV_id, byL_id]) | refine WkF.tu ?_ | refine WkF.ag ?_ | refine WkFL.cons ?_ ?_ | exact WkFL.nil)
  | true =>
    rw [hY rfl q] at hE
    have hn := hlen rfl
    clear hN hY hlen
    simp only at hn hE
    obtain ⟨B, hB⟩ : ∃ B, B = ts ++ [tk.at_ q] := ⟨_, rfl⟩
    have hAs : ts.map tkV ++ [V.ag [.im (.int .i64 tk.kind), .im (.string ⟨tk.text.toArray⟩), .im (.int .u32 tk.n), .im (.int .i64 q.1), .im (.int .i64 q.2)]] = B.map tkV := by rw [hB, List.map_append]; rfl
    have hAl : ts.length + 1 = B.length := by rw [hB]; simp
    have hbl : B.length * 48 ≤ 140737488355328 := by rw [List.length_cons] at hts; omega
    obtain ⟨a, ha⟩ : ∃ a, a = s.length - (c :: r).length := ⟨_, rfl⟩
    rw [← ha] at hq1 hq2
    have hal2 : a + (c :: r).length = s.length := by omega
    have hbq := advs_bound (s.take a) (1, 1) (by decide) (by decide)
    rw [← hq2, List.length_take] at hbq
    have hs1 := c_skip (c :: r) q B n hn.2 (by omega) (by omega) hxl
    have hq3 : advs q ((c :: r).take n) = advs (1, 1) (s.take (a + n)) := by rw [hq2, hq1]; exact advs_more (1, 1) s a n
    have hx3 : (c :: r).drop n = s.drop (a + n) := by rw [hq1, List.drop_drop]
    have hbq2 := advs_bound (s.take (a + n)) (1, 1) (by decide) (by decide)
    rw [List.length_take] at hbq2
    rw [hq3] at hs1 hE
    rw [hx3] at hs1 hE
    have hyl : (s.drop (a + n)).length = s.length - (a + n) := List.length_drop
    have hs2 := c_blank (s.drop (a + n)) (advs (1, 1) (s.take (a + n))) B (by omega) (by omega) (by omega)
    have hle := skp_le false (s.drop (a + n))
    have hq4 : skq (s.drop (a + n)) (advs (1, 1) (s.take (a + n))) = advs (1, 1) (s.take (s.length - (skpG false (s.drop (a + n))).length)) := by
      unfold skq
      rw [advs_more, hyl, show a + n + (s.length - (a + n) - (skpG false (s.drop (a + n))).length) = s.length - (skpG false (s.drop (a + n))).length by omega]
    have hE2 : scnB s = (B ++ (scnN f (skpG false (s.drop (a + n))) (skq (s.drop (a + n)) (advs (1, 1) (s.take (a + n))))).1, (scnN f (skpG false (s.drop (a + n))) (skq (s.drop (a + n)) (advs (1, 1) (s.take (a + n))))).2) := by
      rw [← scnN_skp, hE, hB, List.append_assoc]; rfl
    have hrec := ih (skpG false (s.drop (a + n))).length (by omega) f _ _ B rfl (by omega) (skp_idem _ false) hE2 (by omega) (List.suffix_iff_eq_drop.1 ((skp_suf _ false).trans (List.drop_suffix _ _))) hq4
    clear ih hE hE2 hq4 hle hyl hbq hbq2 hq3 hx3 hq1 hq2 hts
    generalize skq (s.drop (a + n)) (advs (1, 1) (s.take (a + n))) = q4 at hs2 hrec
    generalize skpG false (s.drop (a + n)) = x4 at hs2 hrec
    generalize advs (1, 1) (s.take (a + n)) = q3 at hs1 hs2
    generalize s.drop (a + n) = x3 at hs1 hs2
    refine wG Y13_T13 (And.intro BY e0) ?_
    refine AR.callQP [0, 1] qn True.intro (And.intro tkL_id (And.intro tkV_id byL_id)) (And.intro tkV_ren (And.intro tkL_ren byL_ren)) ?_
    refine goG Y13_T13 TKT ?_
    refine wG Y13_T13 TKT ?_
    refine wdG Y13_T13 (And.intro BY (And.intro GDS (And.intro TKT (And.intro hAs (And.intro hAl (And.intro hbl @List.length_map.{0, 0})))))) ?_
    refine AR.callS [0, 1] hs1 rfl rfl (by first | (simp only [SR, tkV_ren, tkL_ren, byL_ren]; done) | (simp only [SR, tkV_ren, tkL_ren, byL_ren]; with_reducible exact rfl)) (by first | (simp only [SR, tkV_ren, tkL_ren, byL_ren]; done) | (simp only [SR, tkV_ren, tkL_ren, byL_ren]; with_reducible exact rfl)) (WkL.of_eq (by simp only [St.ev, V.ofVal, V.ofCell, V.size_im, getD_dn, look_cons, look_nil, Nat.reduceLT, Nat.reduceEqDiff, reduceIte, if_true, if_false, List.map_cons, List.map_nil, List.nil_append, List.cons_append, List.append_nil])) (by first | rfl | simp only [List.length_cons, List.length_nil, Nat.reduceAdd, V.ids, V.idsL, idsA, entOk, List.all_cons, List.all_nil, Bool.and_self, Bool.and_true, Bool.true_and, ltB, noId, Nat.reduceLT, decide_true, Bool.true_eq_false, tyV_id, fdV_id, tyL_id, fdL_id, tkL_id, tkV_id, byL_id]) rfl rfl rfl (by first | rfl | simp only [List.length_cons, List.length_nil, Nat.reduceAdd, V.ids, V.idsL, idsA, entOk, List.all_cons, List.all_nil, Bool.and_self, Bool.and_true, Bool.true_and, ltB, noId, Nat.reduceLT, decide_true, Bool.true_eq_false, tyV_id, fdV_id, tyL_id, fdL_id, tkL_id, tkV_id, byL_id]) (by intro p hp; simp only [renE, SR, Ent.ren, List.mem_cons, List.not_mem_nil, or_false, tkV_ren, tkL_ren, byL_ren] at hp; rcases hp with rfl | rfl <;> rfl) (by simp only [renE, Ent.ren, SR, tkV_ren, tkL_ren, byL_ren, wrl, putE, SC, SD, Nat.reduceBEq, Nat.reduceLT, Nat.reduceSub, Nat.reduceAdd, Nat.reduceMul, Nat.reduceLeDiff, Nat.reduceEqDiff, reduceCtorEq, Int.reduceLT, Int.reduceLE, Int.reduceEq, Int.reduceNe, Int.reduceBEq, Int.reduceBNe, Int.reduceAdd, Int.reduceSub, Int.reduceMul, Int.reduceToNat]; with_reducible exact rfl) ?_
    refine goG Y13_T13 True.intro ?_
    refine wG Y13_T13 True.intro ?_
    refine AR.callS [0, 1] hs2 rfl rfl (by first | (simp only [SR, tkV_ren, tkL_ren, byL_ren]; done) | (simp only [SR, tkV_ren, tkL_ren, byL_ren]; with_reducible exact rfl)) (by first | (simp only [SR, tkV_ren, tkL_ren, byL_ren]; done) | (simp only [SR, tkV_ren, tkL_ren, byL_ren]; with_reducible exact rfl)) (WkL.of_eq (by simp only [St.ev, V.ofVal, V.ofCell, V.size_im, getD_dn, look_cons, look_nil, Nat.reduceLT, Nat.reduceEqDiff, reduceIte, if_true, if_false, List.map_cons, List.map_nil, List.nil_append, List.cons_append, List.append_nil])) (by first | rfl | simp only [List.length_cons, List.length_nil, Nat.reduceAdd, V.ids, V.idsL, idsA, entOk, List.all_cons, List.all_nil, Bool.and_self, Bool.and_true, Bool.true_and, ltB, noId, Nat.reduceLT, decide_true, Bool.true_eq_false, tyV_id, fdV_id, tyL_id, fdL_id, tkL_id, tkV_id, byL_id]) rfl rfl rfl (by first | rfl | simp only [List.length_cons, List.length_nil, Nat.reduceAdd, V.ids, V.idsL, idsA, entOk, List.all_cons, List.all_nil, Bool.and_self, Bool.and_true, Bool.true_and, ltB, noId, Nat.reduceLT, decide_true, Bool.true_eq_false, tyV_id, fdV_id, tyL_id, fdL_id, tkL_id, tkV_id, byL_id]) (by intro p hp; simp only [renE, SR, Ent.ren, List.mem_cons, List.not_mem_nil, or_false, tkV_ren, tkL_ren, byL_ren] at hp; rcases hp with rfl | rfl <;> rfl) (by simp only [renE, Ent.ren, SR, tkV_ren, tkL_ren, byL_ren, wrl, putE, SC, SD, Nat.reduceBEq, Nat.reduceLT, Nat.reduceSub, Nat.reduceAdd, Nat.reduceMul, Nat.reduceLeDiff, Nat.reduceEqDiff, reduceCtorEq, Int.reduceLT, Int.reduceLE, Int.reduceEq, Int.reduceNe, Int.reduceBEq, Int.reduceBNe, Int.reduceAdd, Int.reduceSub, Int.reduceMul, Int.reduceToNat]; with_reducible exact rfl) ?_
    refine goG Y13_T13 True.intro ?_
    refine wG Y13_T13 True.intro ?_
    refine ALp.cutP 2 [(0, .im (.string ⟨(s).toArray⟩)), (4, .pt 0 0)] [.box [.im (.string ⟨(x4).toArray⟩), (.im (.int .i64 (q4.1))), (.im (.int .i64 (q4.2))), .sl (B.map tkV) (.mine 1)], .tip 30 5 B.length] (And.intro tkL_id (And.intro tkV_id byL_id)) ?_
    exact hrec
end Go.Proofs.YtjilcaemoebloaaDoor

