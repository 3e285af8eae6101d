/- Walks: Scan, whose result may be written to; the law TokenLines. -/
import Derived.Test.YtjilcaemoebloaaDoorHv
import Derived.Test.YtjilcaemoebloaaDoorT22
namespace Go.Proofs.YtjilcaemoebloaaDoor
set_option linter.unusedSimpArgs false
set_option linter.unusedVariables false
set_option linter.unnecessarySimpa false
open Go.RowKit
theorem fl_cons (t : Tk) (l : List Tk) : flatV ((t :: l).map tkV) = [.im (.int .i64 t.kind), .im (.string ⟨t.text.toArray⟩), .im (.int .u32 t.n), .im (.int .i64 t.line), .im (.int .i64 t.col)] ++ flatV (l.map tkV) := by unfold flatV; rw [List.map_cons, List.flatMap_cons, tkV_cells]
theorem flK_id (p : Nat → Bool) (l : List Tk) : V.idsL p (flatV (l.map tkV)) = true := by
  induction l with
  | nil => rfl
  | cons t l ih =>
    rw [fl_cons]
    simp [V.idsL, V.ids, ih]
theorem flK_ren (g : Nat → Nat) (l : List Tk) : V.renL g (flatV (l.map tkV)) = flatV (l.map tkV) := V.renL_id g _ (flK_id _ l)
theorem tkL_ag (l : List Tk) : ∀ x ∈ l.map tkV, ∃ cs, x = .ag cs := fun x hx => by
  obtain ⟨t, _, rfl⟩ := List.mem_map.1 hx
  exact ⟨_, rfl⟩
theorem tkL_im (l : List Tk) : ∀ x ∈ flatV (l.map tkV), ∃ v, x = .im v := fun x hx => by
  unfold flatV at hx
  obtain ⟨y, hy, hx⟩ := List.mem_flatMap.1 hx
  obtain ⟨t, _, rfl⟩ := List.mem_map.1 hy
  rw [tkV_cells] at hx
  simp only [List.mem_cons, List.not_mem_nil, or_false] at hx
  rcases hx with rfl | rfl | rfl | rfl | rfl <;> exact ⟨_, rfl⟩
theorem Y13_T31 : type_of% (And.intro @F_ag_24 (And.intro @F_ag_3 (And.intro @F_ag_30 (And.intro @F_ag_9 (And.intro @F_al_30 (And.intro @F_al_49 (And.intro @F_by_30 (And.intro @F_el_24 (And.intro @F_fl_30_3 (And.intro @F_fl_30_4 (And.intro @F_fl_49_0 (And.intro @F_fl_49_1 (And.intro @F_fl_49_2 (And.intro @F_fl_49_3 (And.intro @F_st_30 (And.intro @F_st_49 (And.intro @F_sz_24 (And.intro @F_sz_3 (And.intro @F_sz_30 (And.intro @F_sz_9 (@F_un_9))))))))))))))))))))) := And.intro @F_ag_24 (And.intro @F_ag_3 (And.intro @F_ag_30 (And.intro @F_ag_9 (And.intro @F_al_30 (And.intro @F_al_49 (And.intro @F_by_30 (And.intro @F_el_24 (And.intro @F_fl_30_3 (And.intro @F_fl_30_4 (And.intro @F_fl_49_0 (And.intro @F_fl_49_1 (And.intro @F_fl_49_2 (And.intro @F_fl_49_3 (And.intro @F_st_30 (And.intro @F_st_49 (And.intro @F_sz_24 (And.intro @F_sz_3 (And.intro @F_sz_30 (And.intro @F_sz_9 (@F_un_9))))))))))))))))))))
set_option maxHeartbeats 2000000 in
theorem c_ScanB0 (s : Bs) (hs : s.length ≤ 65536) (hne : (scnB s).1 ≠ []) : DC Tryd.prog 13 [.im (.string ⟨(s).toArray⟩)] [.free] (.tu [.bs 0 (scnB s).1.length, (.im (.int .i64 (erN (scnB s).2)))]) [.box (flatV ((scnB s).1.map tkV))] := by
  have hb : ¬ (s.length : Int) > 65536 := by omega
  have hs : s.length ≤ 4194304 := by omega
  refine DC.enterN 1 73 Tryd.func13 rfl (by decide) rfl rfl (s := [(0, .im (.string ⟨(s).toArray⟩))]) (by rfl) ?_
  refine AWp.seq ?_
  refine AWp.tail (fun _ : Unit => ⟨dn 73 [(0, .im (.string ⟨(s).toArray⟩)), (2, .sl [] .nl), (3, .im (.int .i64 0))], ofl []⟩) (fun _ => ?_) (fun rest ht => ?_)
  case refine_2 =>
    refine wG Y13_T31 True.intro ?_
    refine AWp.cutP 0 [(0, .im (.string ⟨(s).toArray⟩)), (2, .sl [] .nl), (3, .im (.int .i64 0))] [] (And.intro tkL_id (And.intro tkV_id (And.intro byL_id True.intro))) ?_
    exact ht ()
  refine AWp.seq ?_
  refine AWp.tail (fun _ : Unit => ⟨dn 73 [(0, .im (.string ⟨(s).toArray⟩)), (2, .sl [] .nl), (3, .im (.int .i64 0))], ofl []⟩) (fun _ => ?_) (fun rest ht => ?_)
  case refine_2 =>
    refine wG Y13_T31 (And.intro BY (And.intro bS_size hb)) ?_
    refine AWp.cutP 0 [(0, .im (.string ⟨(s).toArray⟩)), (2, .sl [] .nl), (3, .im (.int .i64 0))] [] (And.intro tkL_id (And.intro tkV_id (And.intro byL_id True.intro))) ?_
    exact ht ()
  refine AWp.seq ?_
  refine AWp.tail (fun _ : Unit => ⟨dn 73 [(0, .im (.string ⟨(s).toArray⟩)), (2, .sl [] .nl), (3, .im (.int .i64 0)), (4, .pt 0 0)], ofl [.box [.im (.string ⟨(s).toArray⟩), (.im (.int .i64 (1))), (.im (.int .i64 (1))), .sl [] .nl]]⟩) (fun _ => ?_) (fun rest ht => ?_)
  case refine_2 =>
    refine wG Y13_T31 BY ?_
    refine AWp.cutP 1 [(0, .im (.string ⟨(s).toArray⟩)), (2, .sl [] .nl), (3, .im (.int .i64 0)), (4, .pt 0 0)] [.box [.im (.string ⟨(s).toArray⟩), (.im (.int .i64 (1))), (.im (.int .i64 (1))), .sl [] .nl]] (And.intro tkL_id (And.intro tkV_id (And.intro byL_id True.intro))) ?_
    exact ht ()
  refine AWp.ghostB 0 3 [.im (.string ⟨(s).toArray⟩), (.im (.int .i64 (1))), (.im (.int .i64 (1))), .sl [] .nl] 30 5 ?_
  have qb := c_blank s (1, 1) [] (by decide) (by decide) hs
  refine wG Y13_T31 True.intro ?_
  refine AR.callS [0, 1] qb rfl rfl (by first | (simp only [SR, tkV_ren, tkL_ren, byL_ren, flK_ren]; done) | (simp only [SR, tkV_ren, tkL_ren, byL_ren, flK_ren]; with_reducible exact rfl)) (by first | (simp only [SR, tkV_ren, tkL_ren, byL_ren, flK_ren]; done) | (simp only [SR, tkV_ren, tkL_ren, byL_ren, flK_ren]; with_reducible exact rfl)) (WkL.of_eq (by simp only [St.ev, V.ofVal, V.ofCell, V.size_im, getD_dn, look_cons, look_nil, Nat.reduceLT, Nat.reduceEqDiff, reduceIte, if_true, if_false, List.map_cons, List.map_nil, List.nil_append, List.cons_append, List.append_nil])) (by first | rfl | simp only [List.length_cons, List.length_nil, Nat.reduceAdd, V.ids, V.idsL, idsA, entOk, List.all_cons, List.all_nil, Bool.and_self, Bool.and_true, Bool.true_and, ltB, noId, Nat.reduceLT, decide_true, Bool.true_eq_false, tyV_id, fdV_id, tyL_id, fdL_id, tkL_id, tkV_id, byL_id, flK_id]) rfl rfl rfl (by first | rfl | simp only [List.length_cons, List.length_nil, Nat.reduceAdd, V.ids, V.idsL, idsA, entOk, List.all_cons, List.all_nil, Bool.and_self, Bool.and_true, Bool.true_and, ltB, noId, Nat.reduceLT, decide_true, Bool.true_eq_false, tyV_id, fdV_id, tyL_id, fdL_id, tkL_id, tkV_id, byL_id, flK_id]) (by intro p hp; simp only [renE, SR, Ent.ren, List.mem_cons, List.not_mem_nil, or_false, tkV_ren, tkL_ren, byL_ren, flK_ren] at hp; rcases hp with rfl | rfl <;> rfl) (by simp only [renE, Ent.ren, SR, tkV_ren, tkL_ren, byL_ren, flK_ren, wrl, putE, SC, SD, Nat.reduceBEq, Nat.reduceLT, Nat.reduceSub, Nat.reduceAdd, Nat.reduceMul, Nat.reduceLeDiff, Nat.reduceEqDiff, reduceCtorEq, Int.reduceLT, Int.reduceLE, Int.reduceEq, Int.reduceNe, Int.reduceBEq, Int.reduceBNe, Int.reduceAdd, Int.reduceSub, Int.reduceMul, Int.reduceToNat]; with_reducible exact rfl) ?_
  refine goG Y13_T31 True.intro ?_
  refine wG Y13_T31 True.intro ?_
  refine AWp.loop ?_
  suffices H : ∀ (k f : Nat) (x : Bs) (q : Int × Int) (ts : List Tk), x.length = k → x.length < f → skpG false x = x → scnB s = (ts ++ (scnN f x q).1, (scnN f x q).2) → ts.length + x.length ≤ s.length →
      (x = s.drop (s.length - x.length)) → (q = advs (1, 1) (s.take (s.length - x.length))) → ALp _ _ _ _ _ ⟨dn 73 [(0, .im (.string ⟨(s).toArray⟩)), (4, .pt 0 0)], ofl [.box [.im (.string ⟨(x).toArray⟩), (.im (.int .i64 (q.1))), (.im (.int .i64 (q.2))), .sl (ts.map tkV) (.mine 1)], .tip 30 5 ts.length]⟩ by
    refine ALp.cutP 2 [(0, .im (.string ⟨(s).toArray⟩)), (4, .pt 0 0)] [.box [.im (.string ⟨(skpG false s).toArray⟩), (.im (.int .i64 ((skq s (1, 1)).1))), (.im (.int .i64 ((skq s (1, 1)).2))), .sl (([] : List Tk).map tkV) (.mine 1)], .tip 30 5 ([] : List Tk).length] (And.intro tkL_id (And.intro tkV_id (And.intro byL_id flK_id))) ?_
    exact H _ (s.length + 1) _ _ [] rfl (by have := skp_le false s; omega) (skp_idem s false) (by rw [List.nil_append, ← scnN_skp]; rfl) (by have := skp_le false s; simp; exact this) (List.suffix_iff_eq_drop.1 (skp_suf s false)) rfl
  intro k
  induction k using Nat.strongRecOn with
  | _ k ih =>
  intro f x q ts hk hf hx hE hts hq1 hq2
  refine ALp.round ?_
  cases x with
  | nil =>
    have e0 : (([] : Bs) == []) = true := rfl
    rw [scnN_nil, List.append_nil] at hE
    rw [hE] at hne ⊢
    have hne2 : ts.map tkV ≠ [] := fun e => hne (List.map_eq_nil_iff.1 e)
    have hml : (ts.map tkV).length = ts.length := List.length_map ..
    clear ih
    refine whG Y13_T31 (And.intro BY e0) ?_
    refine Blk'.here (Thn.n ?_)
    refine AWp.seq ?_
    refine AWp.tail (fun _ : Unit => ⟨dn 73 [(2, .sl (ts.map tkV) (.mine 1)), (3, (.im (.int .i64 (0))))], ofl [.box [.im (.string ⟨([]).toArray⟩), (.im (.int .i64 (q.1))), (.im (.int .i64 (q.2))), .sl (ts.map tkV) (.mine 1)], .tip 30 5 ts.length]⟩) (fun _ => ?_) (fun rest ht => ?_)
    case refine_2 =>
      refine wG Y13_T31 BY ?_
      refine AWp.cutP 2 [(2, .sl (ts.map tkV) (.mine 1)), (3, (.im (.int .i64 (0))))] [.box [.im (.string ⟨([]).toArray⟩), (.im (.int .i64 (q.1))), (.im (.int .i64 (q.2))), .sl (ts.map tkV) (.mine 1)], .tip 30 5 ts.length] (And.intro tkL_id (And.intro tkV_id (And.intro byL_id True.intro))) ?_
      exact ht ()
    refine AWp.thaw 2 3 (ts.map tkV) 1 30 5 (.int .i64 0) ?_ rfl rfl (by rw [hml]; rfl) hne2 (tkL_all ts) (tkL_ag ts) (tkL_im ts) (by decide)
    rw [hml]
    refine wG Y13_T31 True.intro ?_
    refine Fin.genK 1 (rs := [.tmp 2, .tmp 3]) rfl (by first | exact .inl rfl | exact .inr rfl) (by simp only [resX, resA, ↓accU_f, ↓reduceIte, SA, SB, SC, SD, Y13_T31, valG, fpsG, evO, evB, evA, evA1, nilK, eqF, eqC, apOk, intOf, slB, slK,  gd, St.ev, putA, ofl, wrl, putE, V.ofVal, V.ofCell, bin2, un1, seg, fillV, partsOk, Value.oneCell', Nat.reduceBEq, Nat.reduceLT, Nat.reduceSub, Nat.reduceAdd, Nat.reduceMul, Nat.reduceLeDiff, Nat.reduceEqDiff, reduceCtorEq, Int.reduceLT, Int.reduceLE, Int.reduceEq, Int.reduceNe, Int.reduceBEq, Int.reduceBNe, Int.reduceAdd, Int.reduceSub, Int.reduceMul, Int.reduceToNat]; with_reducible exact rfl) ?_ rfl (by first | rfl | simp only [List.length_cons, List.length_nil, Nat.reduceAdd, V.ids, V.idsL, idsA, entOk, List.all_cons, List.all_nil, Bool.and_self, Bool.and_true, Bool.true_and, ltB, noId, Nat.reduceLT, decide_true, Bool.true_eq_false, tyV_id, fdV_id, tyL_id, fdL_id, tkL_id, tkV_id, byL_id, flK_id])
    repeat (first | exact WkF.of (Wk.refl _) (by first | rfl | simp only [List.length_cons, List.length_nil, Nat.reduceAdd, V.ids, V.idsL, idsA, entOk, List.all_cons, List.all_nil, Bool.and_self, Bool.and_true, Bool.true_and, ltB, noId, Nat.reduceLT, decide_true, Bool.true_eq_false, tyV_id, fdV_id, tyL_id, fdL_id, tkL_id, tkV_id, byL_id, flK_id]) | exact WkF.of (Wk.ro _ _) (by first | rfl | simp only [List.length_cons, List.length_nil, Nat.reduceAdd, V.ids, V.idsL, idsA, entOk, List.all_cons, List.all_nil, Bool.and_self, Bool.and_true, Bool.true_and, ltB, noId, Nat.reduceLT, decide_true, Bool.true_eq_false, tyV_id, fdV_id, tyL_id, fdL_id, tkL_id, tkV_id, byL_id, flK_id]) | refine WkF.tu ?_ | refine WkF.ag ?_ | refine WkFL.cons ?_ ?_ | exact WkFL.nil)
  | cons c r =>
  have e0 : ((c :: r) == ([] : Bs)) = false := rfl
  have hxl : (c :: r).length ≤ 4194304 := by omega
  have qn := c_next (c :: r) q ts hxl (by simp)
  cases f with
  | zero => omega
  | succ f =>
  have hN := scnN_no (f := f) hx (by simp)
  have hY := scnN_ok (f := f) hx (by simp)
  have hlen := nxtR_len (s := c :: r) (by simp)
  generalize nxtR (c :: r) = v at qn hN hY hlen
  obtain ⟨tk, n, b⟩ := v
  have hal : ts.length + 1 ≤ 140737488355328 := by rw [List.length_cons] at hts; omega
  cases b with
  | false =>
    rw [hN rfl q] at hE
    rw [hE]
    obtain ⟨B, hB⟩ : ∃ B, B = ts ++ [(⟨6, [], 0, q.1, q.2⟩ : Tk)] := ⟨_, rfl⟩
    have hAs : ts.map tkV ++ [V.ag [.im (.int .i64 6), .im (.string ByteArray.empty), .im (.int .u32 0), .im (.int .i64 q.1), .im (.int .i64 q.2)]] = B.map tkV := by rw [hB, List.map_append]; rfl
    have hAl : ts.length + 1 = B.length := by rw [hB]; simp
    have hbl : B.length * 48 ≤ 140737488355328 := by rw [List.length_cons] at hts; omega
    simp only [← hB]
    clear ih hN hY hlen
    refine wG Y13_T31 (And.intro BY e0) ?_
    refine AR.callQP [0, 1] qn True.intro (And.intro tkL_id (And.intro tkV_id (And.intro byL_id flK_id))) (And.intro tkV_ren (And.intro tkL_ren (And.intro byL_ren flK_ren))) ?_
    refine goG Y13_T31 TKT ?_
    refine wG Y13_T31 TKT ?_
    have hne2 : B.map tkV ≠ [] := fun e => by rw [List.map_eq_nil_iff.1 e] at hAl; simp at hAl
    have hml : (B.map tkV).length = B.length := List.length_map ..
    refine AWp.tail (fun _ : Unit => ⟨dn 73 [(2, .sl (B.map tkV) (.mine 1)), (3, (.im (.int .i64 (3))))], ofl [.box [.im (.string ⟨(c :: r).toArray⟩), (.im (.int .i64 (q.1))), (.im (.int .i64 (q.2))), .sl (ts.map tkV) (.mine 1)], .tip 30 5 B.length]⟩) (fun _ => ?_) (fun rest ht => ?_)
    case refine_2 =>
      refine wdG Y13_T31 (And.intro BY (And.intro GDS (And.intro TKT (And.intro hAs (And.intro hAl (And.intro hbl @List.length_map.{0, 0})))))) ?_
      refine AWp.cutP 2 [(2, .sl (B.map tkV) (.mine 1)), (3, (.im (.int .i64 (3))))] [.box [.im (.string ⟨(c :: r).toArray⟩), (.im (.int .i64 (q.1))), (.im (.int .i64 (q.2))), .sl (ts.map tkV) (.mine 1)], .tip 30 5 B.length] (And.intro tkL_id (And.intro tkV_id (And.intro byL_id True.intro))) ?_
      exact ht ()
    refine AWp.thaw 2 3 (B.map tkV) 1 30 5 (.int .i64 3) ?_ rfl rfl (by rw [hml]; rfl) hne2 (tkL_all B) (tkL_ag B) (tkL_im B) (by decide)
    rw [hml]
    refine wG Y13_T31 True.intro ?_
    refine Fin.genK 1 (rs := [.tmp 2, .tmp 3]) rfl (by first | exact .inl rfl | exact .inr rfl) (by simp only [resX, resA, ↓accU_f, ↓reduceIte, SA, SB, SC, SD, Y13_T31, valG, fpsG, evO, evB, evA, evA1, nilK, eqF, eqC, apOk, intOf, slB, slK,  gd, St.ev, putA, ofl, wrl, putE, V.ofVal, V.ofCell, bin2, un1, seg, fillV, partsOk, Value.oneCell', Nat.reduceBEq, Nat.reduceLT, Nat.reduceSub, Nat.reduceAdd, Nat.reduceMul, Nat.reduceLeDiff, Nat.reduceEqDiff, reduceCtorEq, Int.reduceLT, Int.reduceLE, Int.reduceEq, Int.reduceNe, Int.reduceBEq, Int.reduceBNe, Int.reduceAdd, Int.reduceSub, Int.reduceMul, Int.reduceToNat]; with_reducible exact rfl) ?_ rfl (by first | rfl | simp only [List.length_cons, List.length_nil, Nat.reduceAdd, V.ids, V.idsL, idsA, entOk, List.all_cons, List.all_nil, Bool.and_self, Bool.and_true, Bool.true_and, ltB, noId, Nat.reduceLT, decide_true, Bool.true_eq_false, tyV_id, fdV_id, tyL_id, fdL_id, tkL_id, tkV_id, byL_id, flK_id])
    repeat (first | exact WkF.of (Wk.refl _) (by first | rfl | simp only [List.length_cons, List.length_nil, Nat.reduceAdd, V.ids, V.idsL, idsA, entOk, List.all_cons, List.all_nil, Bool.and_self, Bool.and_true, Bool.true_and, ltB, noId, Nat.reduceLT, decide_true, Bool.true_eq_false, tyV_id, fdV_id, tyL_id, fdL_id, tkL_id, tkV_id, byL_id, flK_id]) | exact WkF.of (Wk.ro _ _) (by first | rfl | simp only [List.length_cons, List.length_nil, Nat.reduceAdd, V.ids, V.idsL, idsA, entOk, List.all_cons, List.all_nil, Bool.and_self, Bool.and_true, Bool.true_and, ltB, noId, Nat.reduceLT, decide_true, Bool.true_eq_false, tyV_id, fdV_id, tyL_id, fdL_id, tkL_id, tkV_id, byL_id, flK_id]) | refine WkF.tu ?_ | refine WkF.ag ?_ | refine WkFL.cons ?_ ?_ | exact WkFL.nil)
  | true =>
    rw [hY rfl q] at hE
    have hn := hlen rfl
    clear hN hY hlen
    simp only at hn hE
    obtain ⟨B, hB⟩ : ∃ B, B = ts ++ [tk.at_ q] := ⟨_, rfl⟩
    have hAs : ts.map tkV ++ [V.ag [.im (.int .i64 tk.kind), .im (.string ⟨tk.text.toArray⟩), .im (.int .u32 tk.n), .im (.int .i64 q.1), .im (.int .i64 q.2)]] = B.map tkV := by rw [hB, List.map_append]; rfl
    have hAl : ts.length + 1 = B.length := by rw [hB]; simp
    have hbl : B.length * 48 ≤ 140737488355328 := by rw [List.length_cons] at hts; omega
    obtain ⟨a, ha⟩ : ∃ a, a = s.length - (c :: r).length := ⟨_, rfl⟩
    rw [← ha] at hq1 hq2
    have hal2 : a + (c :: r).length = s.length := by omega
    have hbq := advs_bound (s.take a) (1, 1) (by decide) (by decide)
    rw [← hq2, List.length_take] at hbq
    have hs1 := c_skip (c :: r) q B n hn.2 (by omega) (by omega) hxl
    have hq3 : advs q ((c :: r).take n) = advs (1, 1) (s.take (a + n)) := by rw [hq2, hq1]; exact advs_more (1, 1) s a n
    have hx3 : (c :: r).drop n = s.drop (a + n) := by rw [hq1, List.drop_drop]
    have hbq2 := advs_bound (s.take (a + n)) (1, 1) (by decide) (by decide)
    rw [List.length_take] at hbq2
    rw [hq3] at hs1 hE
    rw [hx3] at hs1 hE
    have hyl : (s.drop (a + n)).length = s.length - (a + n) := List.length_drop
    have hs2 := c_blank (s.drop (a + n)) (advs (1, 1) (s.take (a + n))) B (by omega) (by omega) (by omega)
    have hle := skp_le false (s.drop (a + n))
    have hq4 : skq (s.drop (a + n)) (advs (1, 1) (s.take (a + n))) = advs (1, 1) (s.take (s.length - (skpG false (s.drop (a + n))).length)) := by
      unfold skq
      rw [advs_more, hyl, show a + n + (s.length - (a + n) - (skpG false (s.drop (a + n))).length) = s.length - (skpG false (s.drop (a + n))).length by omega]
    have hE2 : scnB s = (B ++ (scnN f (skpG false (s.drop (a + n))) (skq (s.drop (a + n)) (advs (1, 1) (s.take (a + n))))).1, (scnN f (skpG false (s.drop (a + n))) (skq (s.drop (a + n)) (advs (1, 1) (s.take (a + n))))).2) := by
      rw [← scnN_skp, hE, hB, List.append_assoc]; rfl
    have hrec := ih (skpG false (s.drop (a + n))).length (by omega) f _ _ B rfl (by omega) (skp_idem _ false) hE2 (by omega) (List.suffix_iff_eq_drop.1 ((skp_suf _ false).trans (List.drop_suffix _ _))) hq4
    clear ih hE hE2 hq4 hle hyl hbq hbq2 hq3 hx3 hq1 hq2 hts
    generalize skq (s.drop (a + n)) (advs (1, 1) (s.take (a + n))) = q4 at hs2 hrec
    generalize skpG false (s.drop (a + n)) = x4 at hs2 hrec
    generalize advs (1, 1) (s.take (a + n)) = q3 at hs1 hs2
    generalize s.drop (a + n) = x3 at hs1 hs2
    refine wG Y13_T31 (And.intro BY e0) ?_
    refine AR.callQP [0, 1] qn True.intro (And.intro tkL_id (And.intro tkV_id (And.intro byL_id flK_id))) (And.intro tkV_ren (And.intro tkL_ren (And.intro byL_ren flK_ren))) ?_
    refine goG Y13_T31 TKT ?_
    refine wG Y13_T31 TKT ?_
    refine wdG Y13_T31 (And.intro BY (And.intro GDS (And.intro TKT (And.intro hAs (And.intro hAl (And.intro hbl @List.length_map.{0, 0})))))) ?_
    refine AR.callS [0, 1] hs1 rfl rfl (by first | (simp only [SR, tkV_ren, tkL_ren, byL_ren, flK_ren]; done) | (simp only [SR, tkV_ren, tkL_ren, byL_ren, flK_ren]; with_reducible exact rfl)) (by first | (simp only [SR, tkV_ren, tkL_ren, byL_ren, flK_ren]; done) | (simp only [SR, tkV_ren, tkL_ren, byL_ren, flK_ren]; with_reducible exact rfl)) (WkL.of_eq (by simp only [St.ev, V.ofVal, V.ofCell, V.size_im, getD_dn, look_cons, look_nil, Nat.reduceLT, Nat.reduceEqDiff, reduceIte, if_true, if_false, List.map_cons, List.map_nil, List.nil_append, List.cons_append, List.append_nil])) (by first | rfl | simp only [List.length_cons, List.length_nil, Nat.reduceAdd, V.ids, V.idsL, idsA, entOk, List.all_cons, List.all_nil, Bool.and_self, Bool.and_true, Bool.true_and, ltB, noId, Nat.reduceLT, decide_true, Bool.true_eq_false, tyV_id, fdV_id, tyL_id, fdL_id, tkL_id, tkV_id, byL_id, flK_id]) rfl rfl rfl (by first | rfl | simp only [List.length_cons, List.length_nil, Nat.reduceAdd, V.ids, V.idsL, idsA, entOk, List.all_cons, List.all_nil, Bool.and_self, Bool.and_true, Bool.true_and, ltB, noId, Nat.reduceLT, decide_true, Bool.true_eq_false, tyV_id, fdV_id, tyL_id, fdL_id, tkL_id, tkV_id, byL_id, flK_id]) (by intro p hp; simp only [renE, SR, Ent.ren, List.mem_cons, List.not_mem_nil, or_false, tkV_ren, tkL_ren, byL_ren, flK_ren] at hp; rcases hp with rfl | rfl <;> rfl) (by simp only [renE, Ent.ren, SR, tkV_ren, tkL_ren, byL_ren, flK_ren, wrl, putE, SC, SD, Nat.reduceBEq, Nat.reduceLT, Nat.reduceSub, Nat.reduceAdd, Nat.reduceMul, Nat.reduceLeDiff, Nat.reduceEqDiff, reduceCtorEq, Int.reduceLT, Int.reduceLE, Int.reduceEq, Int.reduceNe, Int.reduceBEq, Int.reduceBNe, Int.reduceAdd, Int.reduceSub, Int.reduceMul, Int.reduceToNat]; with_reducible exact rfl) ?_
    refine goG Y13_T31 True.intro ?_
    refine wG Y13_T31 True.intro ?_
    refine AR.callS [0, 1] hs2 rfl rfl (by first | (simp only [SR, tkV_ren, tkL_ren, byL_ren, flK_ren]; done) | (simp only [SR, tkV_ren, tkL_ren, byL_ren, flK_ren]; with_reducible exact rfl)) (by first | (simp only [SR, tkV_ren, tkL_ren, byL_ren, flK_ren]; done) | (simp only [SR, tkV_ren, tkL_ren, byL_ren, flK_ren]; with_reducible exact rfl)) (WkL.of_eq (by simp only [St.ev, V.ofVal, V.ofCell, V.size_im, getD_dn, look_cons, look_nil, Nat.reduceLT, Nat.reduceEqDiff, reduceIte, if_true, if_false, List.map_cons, List.map_nil, List.nil_append, List.cons_append, List.append_nil])) (by first | rfl | simp only [List.length_cons, List.length_nil, Nat.reduceAdd, V.ids, V.idsL, idsA, entOk, List.all_cons, List.all_nil, Bool.and_self, Bool.and_true, Bool.true_and, ltB, noId, Nat.reduceLT, decide_true, Bool.true_eq_false, tyV_id, fdV_id, tyL_id, fdL_id, tkL_id, tkV_id, byL_id, flK_id]) rfl rfl rfl (by first | rfl | simp only [List.length_cons, List.length_nil, Nat.reduceAdd, V.ids, V.idsL, idsA, entOk, List.all_cons, List.all_nil, Bool.and_self, Bool.and_true, Bool.true_and, ltB, noId, Nat.reduceLT, decide_true, Bool.true_eq_false, tyV_id, fdV_id, tyL_id, fdL_id, tkL_id, tkV_id, byL_id, flK_id]) (by intro p hp; simp only [renE, SR, Ent.ren, List.mem_cons, List.not_mem_nil, or_false, tkV_ren, tkL_ren, byL_ren, flK_ren] at hp; rcases hp with rfl | rfl <;> rfl) (by simp only [renE, Ent.ren, SR, tkV_ren, tkL_ren, byL_ren, flK_ren, wrl, putE, SC, SD, Nat.reduceBEq, Nat.reduceLT, Nat.reduceSub, Nat.reduceAdd, Nat.reduceMul, Nat.reduceLeDiff, Nat.reduceEqDiff, reduceCtorEq, Int.reduceLT, Int.reduceLE, Int.reduceEq, Int.reduceNe, Int.reduceBEq, Int.reduceBNe, Int.reduceAdd, Int.reduceSub, Int.reduceMul, Int.reduceToNat]; with_reducible exact rfl) ?_
    refine goG Y13_T31 True.intro ?_
    refine wG Y13_T31 True.intro ?_
    refine ALp.cutP 2 [(0, .im (.string ⟨(s).toArray⟩)), (4, .pt 0 0)] [.box [.im (.string ⟨(x4).toArray⟩), (.im (.int .i64 (q4.1))), (.im (.int .i64 (q4.2))), .sl (B.map tkV) (.mine 1)], .tip 30 5 B.length] (And.intro tkL_id (And.intro tkV_id (And.intro byL_id flK_id))) ?_
    exact hrec
theorem c_ScanB (s : Bs) (hs : s.length ≤ 65536) (hne : (scan s).1 ≠ []) : DC Tryd.prog 13 [.im (.string ⟨(s).toArray⟩)] [.free] (.tu [.bs 0 (scan s).1.length, (.im (.int .i64 (erN (scan s).2)))]) [.box (flatV ((scan s).1.map tkV))] := by
  rw [← scnB_scan] at hne ⊢
  exact c_ScanB0 s hs hne
theorem scn_line : ∀ (f : Nat) (s : Bs) (p : Int × Int), 0 ≤ p.1 → 0 ≤ p.2 → ∀ t ∈ (scnG f s p).1, 0 ≤ t.line ∧ t.line ≤ p.1 + s.length
  | 0, s, p, _, _, t, h => by simp [scnG] at h
  | f + 1, s, p, h1, h2, t, h => by
    have hle := skp_le false s
    have hb := advs_bound (s.take (s.length - (skpG false s).length)) p h1 h2
    rw [List.length_take] at hb
    have hq : skq s p = advs p (s.take (s.length - (skpG false s).length)) := rfl
    rw [scnG] at h
    split at h
    · cases h
    split at h
    · obtain rfl := List.mem_singleton.1 h
      rw [hq]
      simp only
      omega
    · rename_i u n hk
      rcases List.mem_cons.1 h with rfl | h
      · show 0 ≤ (skq s p).1 ∧ (skq s p).1 ≤ _
        rw [hq]
        omega
      · have hb2 := advs_bound ((skpG false s).take n) (skq s p) (by rw [hq]; omega) (by rw [hq]; omega)
        have hn := tokP_len hk
        rw [List.length_take] at hb2
        have := scn_line f _ _ (by omega) (by omega) t h
        rw [List.length_drop, hq] at this
        rw [hq] at hb2
        omega
theorem scan_line (s : Bs) : ∀ t ∈ (scan s).1, 0 ≤ t.line ∧ t.line ≤ 1 + s.length := scn_line _ s (1, 1) (by decide) (by decide)
theorem front_succ (m : Nat) : frontB (m + 1) = frontB m ++ [9, 32, 10] := by
  unfold frontB
  rw [List.replicate_succ', List.flatten_append, List.append_assoc]
  rfl
theorem front_len (m : Nat) : (frontB m).length = 6 + 3 * m := by
  induction m with
  | zero => rfl
  | succ m ih => rw [front_succ, List.length_append, ih]; simp; omega
theorem core_mv (k : Int) (l : List Tk) : (l.map (mvL k)).map core = l.map core := by
  rw [List.map_map]; rfl
theorem fl_len (l : List Tk) : (flatV (l.map tkV)).length = l.length * 5 := by rw [flatV_length (tkL_all l), List.length_map]
theorem fl_app (a b : List Tk) : flatV ((a ++ b).map tkV) = flatV (a.map tkV) ++ flatV (b.map tkV) := by unfold flatV; rw [List.map_append, List.flatMap_append]
/-- The line of an element is read and written. -/
theorem fl_get (a : List Tk) (t : Tk) (r : List Tk) : (flatV ((a ++ t :: r).map tkV))[a.length * 5 + 3]? = some (.im (.int .i64 t.line)) := by
  rw [fl_app, fl_cons, List.getElem?_append_right (by rw [fl_len]; omega), fl_len, show a.length * 5 + 3 - a.length * 5 = 3 by omega]
  rfl
theorem fl_put (a : List Tk) (t : Tk) (r : List Tk) (x : Int) : List.take (a.length * 5 + 3) (flatV ((a ++ t :: r).map tkV)) ++ [V.im (.int .i64 x)] ++ List.drop (a.length * 5 + 3 + 1) (flatV ((a ++ t :: r).map tkV)) = flatV ((a ++ (⟨t.kind, t.text, t.n, x, t.col⟩ : Tk) :: r).map tkV) := by
  rw [fl_app, fl_app, fl_cons, fl_cons]
  have h := fl_len a
  generalize flatV (a.map tkV) = u at h
  rw [← h, List.take_length_add_append, List.drop_append, List.drop_eq_nil_of_le (by omega), show u.length + 3 + 1 - u.length = 4 by omega]
  simp
theorem fl_load (a : List Tk) (t : Tk) (r : List Tk) : List.take 5 (List.drop (a.length * 5) (flatV ((a ++ t :: r).map tkV))) = [.im (.int .i64 t.kind), .im (.string ⟨t.text.toArray⟩), .im (.int .u32 t.n), .im (.int .i64 t.line), .im (.int .i64 t.col)] := by
  rw [fl_app, fl_cons]
  have h := fl_len a
  generalize flatV (a.map tkV) = u at h
  rw [← h, List.drop_left]
  rfl
theorem Y9_T31 : type_of% (And.intro @F_ag_3 (And.intro @F_ag_30 (And.intro @F_el_24 (And.intro @F_eq_30 (And.intro @F_fl_30_3 (And.intro @F_in_3 (And.intro @F_in_5 (And.intro @F_sz_3 (And.intro @F_sz_30 (And.intro @F_un_3 (@F_un_5))))))))))) := And.intro @F_ag_3 (And.intro @F_ag_30 (And.intro @F_el_24 (And.intro @F_eq_30 (And.intro @F_fl_30_3 (And.intro @F_in_3 (And.intro @F_in_5 (And.intro @F_sz_3 (And.intro @F_sz_30 (And.intro @F_un_3 (@F_un_5))))))))))
set_option maxHeartbeats 4000000 in
theorem c_law7 (s : Bs) (k : Int) (hk : 0 ≤ k ∧ k < 256) (hs : s.length ≤ 140737488355328) : PC Tryd.prog 9 [.im (.string ⟨(s).toArray⟩), .im (.int .u8 k)] (.im (.bool (true))) := by
  have qe := c_ex
  have qf := c_few s
  obtain ⟨k, rfl⟩ : ∃ m : Nat, k = m := ⟨k.toNat, by omega⟩
  by_cases hf : s.length ≤ 300
  case neg =>
    rw [decide_eq_false hf] at qf
    refine PC.enter 98 Tryd.func9 rfl (by decide) rfl rfl (s := [(0, .im (.string ⟨(s).toArray⟩)), (1, .im (.int .u8 (k : Int)))]) (by rfl) ?_
    refine wG Y9_T31 True.intro ?_
    refine AR.callP qf True.intro (And.intro tkL_id (And.intro tkV_id (And.intro byL_id flK_id))) ?_
    refine goG Y9_T31 True.intro ?_
    refine wG Y9_T31 True.intro ?_
    refine AR.callP qe True.intro (And.intro tkL_id (And.intro tkV_id (And.intro byL_id flK_id))) ?_
    refine goG Y9_T31 True.intro ?_
    refine wG Y9_T31 True.intro ?_
    exact Fin.oneP
  rw [decide_eq_true hf] at qf
  obtain ⟨K, hK⟩ : ∃ K, K = k % 5 := ⟨_, rfl⟩
  have hK5 : K < 5 := by omega
  have tm : (k : Int).tmod 5 = (K : Int) := by rw [Int.tmod_eq_emod_of_nonneg (by omega)]; omega
  have cv : IntKind.i64.wrap (K : Int) = (K : Int) := wrap_in (by omega)
  have hfl := front_len K
  have hfr := scan_front K s
  have q2 := c_scan (frontB K ++ s) (by rw [List.length_append]; omega)
  rw [hfr] at q2
  have q3 := c_scan (s ++ tailB) (by rw [List.length_append, show tailB.length = 5 from rfl]; omega)
  have hta : (scan s).2 = true → (scan (s ++ tailB)).2 = true ∧ (scan (s ++ tailB)).1.map core = (scan s).1.map core := scan_tail
  have hln := scan_line s
  have hlen := scan_len s
  have hap2 : ByteArray.mk (frontB K).toArray ++ ByteArray.mk s.toArray = ByteArray.mk (frontB K ++ s).toArray := bS_append _ _
  have hap3 : ByteArray.mk s.toArray ++ ByteArray.mk #[10, 47, 47, 32, 41] = ByteArray.mk (s ++ tailB).toArray := bS_append s tailB
  have hsz2 : (ByteArray.mk (frontB K).toArray).size + (ByteArray.mk s.toArray).size ≤ 9223372036854775807 := by rw [bS_size, bS_size]; omega
  have hsz3 : (ByteArray.mk s.toArray).size + (ByteArray.mk #[10, 47, 47, 32, 41]).size ≤ 9223372036854775807 := by rw [bS_size, bS_size, show ([10, 47, 47, 32, 41] : Bs).length = 5 from rfl]; omega
  have er1 : erN true = 0 := rfl
  have er0 : erN false = 3 := rfl
  clear hfr hfl hk
  by_cases hne : (scan s).1 = []
  case neg =>
    have q1 := c_ScanB s (by omega) hne
    obtain ⟨L2, hL2⟩ : ∃ L2, L2 = (scan s).1.map (mvL (1 + K)) := ⟨_, rfl⟩
    have hc2 : L2.map core = (scan s).1.map core := by rw [hL2, core_mv]
    simp only [← hL2] at q2
    generalize (scan s).1 = l at q1 hta hln hlen hL2 hc2
    generalize (scan s).2 = b at q1 q2 hta
    generalize (scan (s ++ tailB)).1 = T at q3 hta
    generalize (scan (s ++ tailB)).2 = b2 at q3 hta
    have hll : L2.length = l.length := by rw [hL2, List.length_map]
    refine PC.enter 98 Tryd.func9 rfl (by decide) rfl rfl (s := [(0, .im (.string ⟨(s).toArray⟩)), (1, .im (.int .u8 (k : Int)))]) (by rfl) ?_
    refine wG Y9_T31 True.intro ?_
    refine AR.callP qf True.intro (And.intro tkL_id (And.intro tkV_id (And.intro byL_id flK_id))) ?_
    refine goG Y9_T31 True.intro ?_
    refine wG Y9_T31 True.intro ?_
    refine AR.callS [0] q1 rfl rfl (by first | (simp only [SR, tkV_ren, tkL_ren, byL_ren, flK_ren]; done) | (simp only [SR, tkV_ren, tkL_ren, byL_ren, flK_ren]; with_reducible exact rfl)) (by first | (simp only [SR, tkV_ren, tkL_ren, byL_ren, flK_ren]; done) | (simp only [SR, tkV_ren, tkL_ren, byL_ren, flK_ren]; with_reducible exact rfl)) (WkL.of_eq (by simp only [St.ev, V.ofVal, V.ofCell, V.size_im, getD_dn, look_cons, look_nil, Nat.reduceLT, Nat.reduceEqDiff, reduceIte, if_true, if_false, List.map_cons, List.map_nil, List.nil_append, List.cons_append, List.append_nil])) (by first | rfl | simp only [List.length_cons, List.length_nil, Nat.reduceAdd, V.ids, V.idsL, idsA, entOk, List.all_cons, List.all_nil, Bool.and_self, Bool.and_true, Bool.true_and, ltB, noId, Nat.reduceLT, decide_true, Bool.true_eq_false, tyV_id, fdV_id, tyL_id, fdL_id, tkL_id, tkV_id, byL_id, flK_id]) rfl rfl rfl (by first | rfl | simp only [List.length_cons, List.length_nil, Nat.reduceAdd, V.ids, V.idsL, idsA, entOk, List.all_cons, List.all_nil, Bool.and_self, Bool.and_true, Bool.true_and, ltB, noId, Nat.reduceLT, decide_true, Bool.true_eq_false, tyV_id, fdV_id, tyL_id, fdL_id, tkL_id, tkV_id, byL_id, flK_id]) (by intro p hp; simp only [renE, SR, Ent.ren, List.mem_cons, List.not_mem_nil, or_false, tkV_ren, tkL_ren, byL_ren, flK_ren] at hp; rcases hp with rfl <;> rfl) (by simp only [renE, Ent.ren, SR, tkV_ren, tkL_ren, byL_ren, flK_ren, wrl, putE, SC, SD, Nat.reduceBEq, Nat.reduceLT, Nat.reduceSub, Nat.reduceAdd, Nat.reduceMul, Nat.reduceLeDiff, Nat.reduceEqDiff, reduceCtorEq, Int.reduceLT, Int.reduceLE, Int.reduceEq, Int.reduceNe, Int.reduceBEq, Int.reduceBNe, Int.reduceAdd, Int.reduceSub, Int.reduceMul, Int.reduceToNat]; with_reducible exact rfl) ?_
    refine goG Y9_T31 True.intro ?_
    refine wG Y9_T31 True.intro ?_
    refine AWp.loop ?_
    refine ALp.cutP 1 [(0, .im (.string ⟨(s).toArray⟩)), (1, .im (.int .u8 (k : Int))), (5, .bs 0 l.length), (6, (.im (.int .i64 (erN b)))), (7, .im (.string ⟨(frontB (0)).toArray⟩)), (8, (.im (.int .i64 ((((0 : Nat)) : Int)))))] [.box (flatV (l.map tkV))] (And.intro tkL_id (And.intro tkV_id (And.intro byL_id flK_id))) ?_
    refine ALp.upto K (fun _ => True) (fun m => ⟨dn 98 [(0, .im (.string ⟨(s).toArray⟩)), (1, .im (.int .u8 (k : Int))), (5, .bs 0 l.length), (6, (.im (.int .i64 (erN b)))), (7, .im (.string ⟨(frontB (m)).toArray⟩)), (8, (.im (.int .i64 ((((m : Nat)) : Int)))))], ofl [.box (flatV (l.map tkV))]⟩) ?_ 0 (Nat.zero_le _) trivial
    intro m hm _ hnext
    by_cases hlt : m < K
    case pos =>
      have hlt' : (m : Int) < (K : Int) := by omega
      have hm1 := wrap_succ hlt (by omega)
      have hn2 := hnext (m + 1) (by omega) (by omega) trivial
      have hfm := front_len m
      have hap : ByteArray.mk (frontB m).toArray ++ ByteArray.mk #[9, 32, 10] = ByteArray.mk (frontB (m + 1)).toArray := by rw [front_succ]; exact bS_append (frontB m) [9, 32, 10]
      have hsz : (ByteArray.mk (frontB m).toArray).size + (ByteArray.mk #[9, 32, 10]).size ≤ 9223372036854775807 := by rw [bS_size, bS_size, show ([9, 32, 10] : Bs).length = 3 from rfl]; omega
      clear hnext
      refine wG Y9_T31 (And.intro hlt' (And.intro tm (And.intro cv (And.intro hap (And.intro hsz hm1))))) ?_
      refine ALp.cutP 1 [(0, .im (.string ⟨(s).toArray⟩)), (1, .im (.int .u8 (k : Int))), (5, .bs 0 l.length), (6, (.im (.int .i64 (erN b)))), (7, .im (.string ⟨(frontB (m + 1)).toArray⟩)), (8, (.im (.int .i64 ((((m + 1 : Nat)) : Int)))))] [.box (flatV (l.map tkV))] (And.intro tkL_id (And.intro tkV_id (And.intro byL_id flK_id))) ?_
      exact hn2
    obtain rfl : m = K := by omega
    have hn : ¬ (m : Int) < (m : Int) := by omega
    clear hnext
    refine wG Y9_T31 (And.intro hn (And.intro tm (And.intro cv (And.intro hap2 hsz2)))) ?_
    refine AR.callP q2 True.intro (And.intro tkL_id (And.intro tkV_id (And.intro byL_id flK_id))) ?_
    refine goG Y9_T31 True.intro ?_
    refine wG Y9_T31 (And.intro hap3 hsz3) ?_
    refine AR.callP q3 True.intro (And.intro tkL_id (And.intro tkV_id (And.intro byL_id flK_id))) ?_
    refine goG Y9_T31 True.intro ?_
    refine wG Y9_T31 (And.intro TKT hll) ?_
    refine AWp.loop ?_
    refine ALp.cutP 1 [(1, .im (.int .u8 (k : Int))), (5, .bs 0 l.length), (6, (.im (.int .i64 (erN b)))), (9, .sl (L2.map tkV) .ro), (11, .sl (T.map tkV) .ro), (12, (.im (.int .i64 (erN b2)))), (13, (.im (.int .i64 ((((0 : Nat)) : Int)))))] [.box (flatV ((L2.take (0) ++ l.drop (0)).map tkV))] (And.intro tkL_id (And.intro tkV_id (And.intro byL_id flK_id))) ?_
    refine ALp.upto l.length (fun _ => True) (fun j => ⟨dn 98 [(1, .im (.int .u8 (k : Int))), (5, .bs 0 l.length), (6, (.im (.int .i64 (erN b)))), (9, .sl (L2.map tkV) .ro), (11, .sl (T.map tkV) .ro), (12, (.im (.int .i64 (erN b2)))), (13, (.im (.int .i64 ((((j : Nat)) : Int)))))], ofl [.box (flatV ((L2.take (j) ++ l.drop (j)).map tkV))]⟩) ?_ 0 (Nat.zero_le _) trivial
    intro j hj _ hnext
    by_cases hlt2 : j < l.length
    case neg =>
      obtain rfl : j = l.length := by omega
      have hn2 : ¬ (l.length : Int) < (l.length : Int) := by omega
      clear hnext
      rw [show L2.take l.length ++ l.drop l.length = L2 by rw [List.drop_length, List.append_nil, ← hll, List.take_length]]
      refine whG Y9_T31 hn2 ?_
      refine Blk'.here (Thn.n ?_)
      refine AWp.frz 0 [(5, .sl (L2.map tkV) .ro), (6, (.im (.int .i64 (erN b)))), (11, .sl (T.map tkV) .ro), (12, (.im (.int .i64 (erN b2))))] [] ?_ (by simp) (by repeat (first | exact WkFA.nil | refine WkFA.cons (by first | exact .of (Wk.refl _) (by first | rfl | simp only [List.length_cons, List.length_nil, Nat.reduceAdd, V.ids, V.idsL, idsA, entOk, List.all_cons, List.all_nil, Bool.and_self, Bool.and_true, Bool.true_and, ltB, noId, Nat.reduceLT, decide_true, Bool.true_eq_false, tyV_id, fdV_id, tyL_id, fdL_id, tkL_id, tkV_id, byL_id, flK_id]) | exact WkF.bs (z := 5) rfl rfl (by rw [List.length_map]; exact hll) (tkL_all _) rfl (tkL_id _ _)) ?_)) (by repeat (first | exact WkFE.nil | refine WkFE.box (by repeat (first | exact WkFL.nil | refine WkFL.cons (by first | exact .of (Wk.refl _) (by first | rfl | simp only [List.length_cons, List.length_nil, Nat.reduceAdd, V.ids, V.idsL, idsA, entOk, List.all_cons, List.all_nil, Bool.and_self, Bool.and_true, Bool.true_and, ltB, noId, Nat.reduceLT, decide_true, Bool.true_eq_false, tyV_id, fdV_id, tyL_id, fdL_id, tkL_id, tkV_id, byL_id, flK_id]) | exact WkF.bs (z := 5) rfl rfl (by rw [List.length_map]; exact hll) (tkL_all _) rfl (tkL_id _ _)) ?_)) ?_ | refine WkFE.same (fun _ e => by cases e) ?_)) (fun i hi => by first | exact absurd rfl hi | exact Nat.lt_of_lt_of_le (ofl_lt hi) (by simp))
      cases b with
      | false =>
        refine wG Y9_T31 er0 ?_
        refine AR.callP qe True.intro (And.intro tkL_id (And.intro tkV_id (And.intro byL_id flK_id))) ?_
        refine goG Y9_T31 True.intro ?_
        refine wG Y9_T31 True.intro ?_
        exact Fin.oneP
      | true =>
        obtain ⟨hb2, hcr⟩ := hta rfl
        subst hb2
        have q4 := c_alike L2 T (by omega)
        rw [show alk L2 T = true from decide_eq_true (by rw [hc2, hcr])] at q4
        refine wG Y9_T31 er1 ?_
        refine AR.callP q4 True.intro (And.intro tkL_id (And.intro tkV_id (And.intro byL_id flK_id))) ?_
        refine goG Y9_T31 True.intro ?_
        refine AR.callP qe True.intro (And.intro tkL_id (And.intro tkV_id (And.intro byL_id flK_id))) ?_
        refine goG Y9_T31 True.intro ?_
        refine wG Y9_T31 True.intro ?_
        exact Fin.oneP
    have hjl' : (j : Int) < (l.length : Int) := by omega
    have hj1 := wrap_succ hlt2 (by omega)
    have hA : (L2.take j).length = j := by rw [List.length_take]; omega
    have hd : l.drop j = l[j] :: l.drop (j + 1) := List.drop_eq_getElem_cons hlt2
    have hg2 : L2[j]? = some (mvL (1 + m) l[j]) := by rw [hL2, List.getElem?_map, List.getElem?_eq_getElem hlt2]; rfl
    have hst : L2.take (j + 1) = L2.take j ++ [mvL (1 + m) l[j]] := by
      obtain ⟨hl3, h3⟩ := List.getElem?_eq_some_iff.1 hg2
      rw [List.take_succ_eq_append_getElem hl3, h3]
    have hli := hln l[j] (List.getElem_mem hlt2)
    have hn3 := hnext (j + 1) (by omega) (by omega) trivial
    rw [hst, List.append_assoc, List.singleton_append] at hn3
    rw [hd]
    clear hnext hd hst
    generalize l[j] = t at *
    generalize l.drop (j + 1) = r at *
    generalize L2.take j = A at *
    have f1 := fl_get A t r
    have f2 := fl_put A t r (t.line + (1 + m))
    have f3 := fl_load A (mvL (1 + m) t) r
    have f4 := fl_len (A ++ t :: r)
    have f5 := fl_len (A ++ mvL (1 + m) t :: r)
    rw [List.length_append, List.length_cons] at f4 f5
    rw [hA] at f1 f2 f3 f4 f5
    have f6 : j * 5 + 3 + 1 ≤ (flatV ((A ++ t :: r).map tkV)).length := by omega
    have f7 : j * 5 + 5 ≤ (flatV ((A ++ mvL (1 + m) t :: r).map tkV)).length := by omega
    have w1 : IntKind.i64.wrap (t.line + 1) = t.line + 1 := wrap_in (by omega)
    have w2 : IntKind.i64.wrap (t.line + 1 + (m : Int)) = t.line + (1 + (m : Int)) := by rw [wrap_in (by omega)]; omega
    have e2 : (⟨t.kind, t.text, t.n, t.line + (1 + (m : Int)), t.col⟩ : Tk) = mvL (1 + m) t := rfl
    rw [e2] at f2
    generalize mvL (1 + (m : Int)) t = t2 at *
    have htt : (t2.text == t2.text) = true := beq_self_eq_true _
    refine wG Y9_T31 (And.intro TKT (And.intro hjl' (And.intro tm (And.intro cv (And.intro w1 (And.intro w2 (And.intro f1 (And.intro f2 f6)))))))) ?_
    refine wdG Y9_T31 (And.intro BY (And.intro TKT (And.intro hjl' (And.intro f3 (And.intro f7 (And.intro hg2 (And.intro htt (And.intro tkV_eq hj1)))))))) ?_
    refine ALp.cutP 1 [(1, .im (.int .u8 (k : Int))), (5, .bs 0 l.length), (6, (.im (.int .i64 (erN b)))), (9, .sl (L2.map tkV) .ro), (11, .sl (T.map tkV) .ro), (12, (.im (.int .i64 (erN b2)))), (13, (.im (.int .i64 ((((j + 1 : Nat)) : Int)))))] [.box (flatV ((A ++ t2 :: r).map tkV))] (And.intro tkL_id (And.intro tkV_id (And.intro byL_id flK_id))) ?_
    exact hn3
  have q1 := c_scan s (by omega)
  rw [hne] at q1 q2 hta
  simp only [List.map_nil] at q1 q2 hta
  generalize (scan s).2 = b at q1 q2 hta
  generalize (scan (s ++ tailB)).1 = T at q3 hta
  generalize (scan (s ++ tailB)).2 = b2 at q3 hta
  refine PC.enter 98 Tryd.func9 rfl (by decide) rfl rfl (s := [(0, .im (.string ⟨(s).toArray⟩)), (1, .im (.int .u8 (k : Int)))]) (by rfl) ?_
  refine wG Y9_T31 True.intro ?_
  refine AR.callP qf True.intro (And.intro tkL_id (And.intro tkV_id (And.intro byL_id flK_id))) ?_
  refine goG Y9_T31 True.intro ?_
  refine wG Y9_T31 True.intro ?_
  refine AR.callP q1 True.intro (And.intro tkL_id (And.intro tkV_id (And.intro byL_id flK_id))) ?_
  refine goG Y9_T31 True.intro ?_
  refine wG Y9_T31 True.intro ?_
  refine AWp.loop ?_
  refine ALp.cutP 0 [(0, .im (.string ⟨(s).toArray⟩)), (1, .im (.int .u8 (k : Int))), (5, .sl [] .ro), (6, (.im (.int .i64 (erN b)))), (7, .im (.string ⟨(frontB (0)).toArray⟩)), (8, (.im (.int .i64 ((((0 : Nat)) : Int)))))] [] (And.intro tkL_id (And.intro tkV_id (And.intro byL_id flK_id))) ?_
  refine ALp.upto K (fun _ => True) (fun m => ⟨dn 98 [(0, .im (.string ⟨(s).toArray⟩)), (1, .im (.int .u8 (k : Int))), (5, .sl [] .ro), (6, (.im (.int .i64 (erN b)))), (7, .im (.string ⟨(frontB (m)).toArray⟩)), (8, (.im (.int .i64 ((((m : Nat)) : Int)))))], ofl []⟩) ?_ 0 (Nat.zero_le _) trivial
  intro m hm _ hnext
  by_cases hlt : m < K
  case pos =>
    have hlt' : (m : Int) < (K : Int) := by omega
    have hm1 := wrap_succ hlt (by omega)
    have hn2 := hnext (m + 1) (by omega) (by omega) trivial
    have hfm := front_len m
    have hap : ByteArray.mk (frontB m).toArray ++ ByteArray.mk #[9, 32, 10] = ByteArray.mk (frontB (m + 1)).toArray := by rw [front_succ]; exact bS_append (frontB m) [9, 32, 10]
    have hsz : (ByteArray.mk (frontB m).toArray).size + (ByteArray.mk #[9, 32, 10]).size ≤ 9223372036854775807 := by rw [bS_size, bS_size, show ([9, 32, 10] : Bs).length = 3 from rfl]; omega
    clear hnext
    refine wG Y9_T31 (And.intro hlt' (And.intro tm (And.intro cv (And.intro hap (And.intro hsz hm1))))) ?_
    refine ALp.cutP 0 [(0, .im (.string ⟨(s).toArray⟩)), (1, .im (.int .u8 (k : Int))), (5, .sl [] .ro), (6, (.im (.int .i64 (erN b)))), (7, .im (.string ⟨(frontB (m + 1)).toArray⟩)), (8, (.im (.int .i64 ((((m + 1 : Nat)) : Int)))))] [] (And.intro tkL_id (And.intro tkV_id (And.intro byL_id flK_id))) ?_
    exact hn2
  obtain rfl : m = K := by omega
  have hn : ¬ (m : Int) < (m : Int) := by omega
  clear hnext
  refine wG Y9_T31 (And.intro hn (And.intro tm (And.intro cv (And.intro hap2 hsz2)))) ?_
  refine AR.callP q2 True.intro (And.intro tkL_id (And.intro tkV_id (And.intro byL_id flK_id))) ?_
  refine goG Y9_T31 True.intro ?_
  refine wG Y9_T31 (And.intro hap3 hsz3) ?_
  refine AR.callP q3 True.intro (And.intro tkL_id (And.intro tkV_id (And.intro byL_id flK_id))) ?_
  refine goG Y9_T31 True.intro ?_
  refine wG Y9_T31 (And.intro TKT @List.length_nil.{0}) ?_
  refine AWp.loop ?_
  refine ALp.round ?_
  refine wG Y9_T31 @List.length_nil.{0} ?_
  cases b with
  | false =>
    refine wG Y9_T31 er0 ?_
    refine AR.callP qe True.intro (And.intro tkL_id (And.intro tkV_id (And.intro byL_id flK_id))) ?_
    refine goG Y9_T31 True.intro ?_
    refine wG Y9_T31 True.intro ?_
    exact Fin.oneP
  | true =>
    obtain ⟨hb2, hcr⟩ := hta rfl
    subst hb2
    have q4 := c_alike [] T (by simp)
    rw [show alk [] T = true from decide_eq_true (by rw [hcr]; rfl)] at q4
    refine wG Y9_T31 er1 ?_
    refine AR.callP q4 True.intro (And.intro tkL_id (And.intro tkV_id (And.intro byL_id flK_id))) ?_
    refine goG Y9_T31 True.intro ?_
    refine AR.callP qe True.intro (And.intro tkL_id (And.intro tkV_id (And.intro byL_id flK_id))) ?_
    refine goG Y9_T31 True.intro ?_
    refine wG Y9_T31 True.intro ?_
    exact Fin.oneP
end Go.Proofs.YtjilcaemoebloaaDoor

