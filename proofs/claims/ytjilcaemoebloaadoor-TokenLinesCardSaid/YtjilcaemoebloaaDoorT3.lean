/- Walks: white space and comments are skipped. -/
import Derived.Test.YtjilcaemoebloaaDoorHv
import Derived.Test.YtjilcaemoebloaaDoorT2
namespace Go.Proofs.YtjilcaemoebloaaDoor
set_option linter.unusedSimpArgs false
set_option linter.unusedVariables false
set_option linter.unnecessarySimpa false
open Go.RowKit
theorem isS_contains (c : UInt8) : Lib.contains [32, 9, 13, 10] [c] = isS c :=
  of_decide_eq_true (u8_all (fun c => decide (Lib.contains [32, 9, 13, 10] [c] = isS c)) (by decide +kernel) c)
theorem idx_hit (c : UInt8) (s : Bs) : Lib.indexByte (c :: s) c = 0 := by
  unfold Lib.indexByte
  simp
theorem idx_miss {c d : UInt8} (s : Bs) (h : c ≠ d) : Lib.indexByte (c :: s) d = if Lib.indexByte s d = -1 then -1 else Lib.indexByte s d + 1 := by
  have e : (c == d) = false := by simpa using h
  rw [Lib.indexByte, e]
  by_cases q : Lib.indexByte s d = -1
  · simp [q]
  · simp [q]
theorem idx_bound (l : Bs) (c : UInt8) : Lib.indexByte l c = -1 ∨ (0 ≤ Lib.indexByte l c ∧ Lib.indexByte l c < l.length) := by
  induction l with
  | nil => exact .inl rfl
  | cons b l ih =>
    by_cases h : b = c
    · subst h
      rw [idx_hit]
      exact .inr ⟨Int.le_refl _, by rw [List.length_cons]; omega⟩
    · rw [idx_miss l h, List.length_cons]
      split
      · exact .inl rfl
      · omega
theorem skp_true (s : Bs) : skpG true s = if Lib.indexByte s 10 = -1 then [] else skpG false (s.drop (Lib.indexByte s 10).toNat) := by
  induction s with
  | nil => rfl
  | cons c s ih =>
    rw [skpG]
    by_cases hc : c.toNat = 10
    · obtain rfl : c = 10 := toNat_inj hc
      rw [if_pos hc, idx_hit, if_neg (by decide)]
      show skpG false s = skpG false (10 :: s)
      rw [skpG, if_pos (by decide)]
    · have hne : c ≠ 10 := fun e => hc (by rw [e]; rfl)
      rw [if_neg hc, idx_miss s hne, ih]
      by_cases q : Lib.indexByte s 10 = -1
      · rw [if_pos q, if_pos (by rw [if_pos q])]
      · have h2 := (idx_bound s 10).resolve_left q
        rw [if_neg q, if_neg q, if_neg (by omega), show (Lib.indexByte s 10 + 1).toNat = (Lib.indexByte s 10).toNat + 1 by omega, List.drop_succ_cons]
theorem skp_slash {s : Bs} (h : pre [47, 47] s = true) : skpG false s = skpG true s := by
  obtain ⟨x, rfl⟩ := pre_iff.1 h
  have e1 : skpG false (47 :: 47 :: x) = skpG true (47 :: x) := by
    conv => lhs; rw [skpG]
    rw [if_neg (by decide), if_pos ⟨by decide, rfl⟩]
  have e2 : skpG true (47 :: 47 :: x) = skpG true (47 :: x) := by
    conv => lhs; rw [skpG]
    rw [if_neg (by decide)]
  exact e1.trans e2.symm
theorem skp_none {c : UInt8} {r : Bs} (h1 : isS c = false) (h2 : pre [47, 47] (c :: r) = false) : skpG false (c :: r) = c :: r := by
  rw [skpG, if_neg (by simp [h1]), if_neg]
  rintro ⟨h3, h4⟩
  obtain rfl : c = 47 := toNat_inj h3
  cases r with
  | nil => cases h4
  | cons d r =>
    simp only [List.head?_cons, Option.some.injEq] at h4
    subst h4
    rw [show pre [47, 47] (47 :: 47 :: r) = true from pre_app [47, 47] r] at h2
    cases h2
theorem skq_at {l : Bs} {m : Nat} (hm : m ≤ l.length) (h : skpG false l = l.drop m) (p : Int × Int) : skq l p = advs p (l.take m) := by
  unfold skq
  rw [h, List.length_drop, show l.length - (l.length - m) = m by omega]
theorem advs_more (p : Int × Int) (l : Bs) (m n : Nat) : advs (advs p (l.take m)) ((l.drop m).take n) = advs p (l.take (m + n)) := by
  rw [← advs_app, List.take_add]
theorem Y24_T3 : type_of% (And.intro @F_ag_9 (And.intro @F_fl_49_0 (And.intro @F_sz_9 (@F_un_9)))) := And.intro @F_ag_9 (And.intro @F_fl_49_0 (And.intro @F_sz_9 (@F_un_9)))
set_option maxHeartbeats 1000000 in
theorem c_blank (l : Bs) (p : Int × Int) (ts : List Tk) (hp1 : 0 ≤ p.1 ∧ p.1 ≤ 2305843009213693952) (hp2 : 0 ≤ p.2 ∧ p.2 ≤ 2305843009213693952) (hl : l.length ≤ 4194304) :
    DC Tryd.prog 24 [.pt 0 0] [.box [.im (.string ⟨(l).toArray⟩), (.im (.int .i64 (p.1))), (.im (.int .i64 (p.2))), .sl (ts.map tkV) (.mine 1)], .tip 30 5 ts.length] (.tu []) [.box [.im (.string ⟨(skpG false l).toArray⟩), (.im (.int .i64 ((skq l p).1))), (.im (.int .i64 ((skq l p).2))), .sl (ts.map tkV) (.mine 1)], .tip 30 5 ts.length] := by
  refine DC.enter 38 Tryd.func24 rfl (by decide) rfl rfl (s := [(0, .pt 0 0)]) (by rfl) ?_
  refine wG Y24_T3 True.intro ?_
  refine AWp.loop ?_
  refine ALp.cutP 2 [(0, .pt 0 0)] [.box [.im (.string ⟨(l.drop (0)).toArray⟩), (.im (.int .i64 ((advs p (l.take (0))).1))), (.im (.int .i64 ((advs p (l.take (0))).2))), .sl (ts.map tkV) (.mine 1)], .tip 30 5 ts.length] (And.intro tkL_id (And.intro tkV_id byL_id)) ?_
  refine ALp.upto l.length (fun m => skpG false (l.drop m) = skpG false l) (fun m => ⟨dn 38 [(0, .pt 0 0)], ofl [.box [.im (.string ⟨(l.drop (m)).toArray⟩), (.im (.int .i64 ((advs p (l.take (m))).1))), (.im (.int .i64 ((advs p (l.take (m))).2))), .sl (ts.map tkV) (.mine 1)], .tip 30 5 ts.length]⟩) ?_ 0 (Nat.zero_le _) rfl
  intro m hm hI hnext
  by_cases hlt : m < l.length
  case neg =>
    obtain rfl : m = l.length := by omega
    clear hnext
    have h0 : l.drop l.length = [] := List.drop_length
    have hs := skq_at (l := l) (Nat.le_refl _) (by rw [← hI, h0]; rfl) p
    rw [← hI, hs, h0]
    have e0 : (([] : Bs) == []) = true := rfl
    generalize advs p (l.take l.length) = q
    refine wG Y24_T3 (And.intro BY e0) ?_
    refine Fin.gen (rs := []) rfl (by first | exact .inl rfl | exact .inr rfl) (by simp only [resX, resA, ↓accU_f, ↓reduceIte, SA, SB, SC, SD, Y24_T3, valG, fpsG, evO, evB, evA, evA1, nilK, eqF, eqC, apOk, intOf, slB, slK,  gd, St.ev, putA, ofl, wrl, putE, V.ofVal, V.ofCell, bin2, un1, seg, fillV, partsOk, Value.oneCell', Nat.reduceBEq, Nat.reduceLT, Nat.reduceSub, Nat.reduceAdd, Nat.reduceMul, Nat.reduceLeDiff, Nat.reduceEqDiff, reduceCtorEq, Int.reduceLT, Int.reduceLE, Int.reduceEq, Int.reduceNe, Int.reduceBEq, Int.reduceBNe, Int.reduceAdd, Int.reduceSub, Int.reduceMul, Int.reduceToNat]; with_reducible exact rfl) ?_ rfl (by first | rfl | simp only [List.length_cons, List.length_nil, Nat.reduceAdd, V.ids, V.idsL, idsA, entOk, List.all_cons, List.all_nil, Bool.and_self, Bool.and_true, Bool.true_and, ltB, noId, Nat.reduceLT, decide_true, Bool.true_eq_false, tyV_id, fdV_id, tyL_id, fdL_id, tkL_id, tkV_id, byL_id])
    repeat (first | exact WkF.of (Wk.refl _) (by first | rfl | simp only [List.length_cons, List.length_nil, Nat.reduceAdd, V.ids, V.idsL, idsA, entOk, List.all_cons, List.all_nil, Bool.and_self, Bool.and_true, Bool.true_and, ltB, noId, Nat.reduceLT, decide_true, Bool.true_eq_false, tyV_id, fdV_id, tyL_id, fdL_id, tkL_id, tkV_id, byL_id]) | exact WkF.of (Wk.ro _ _) (by first | rfl | simp only [List.length_cons, List.length_nil, Nat.reduceAdd, V.ids, V.idsL, idsA, entOk, List.all_cons, List.all_nil, Bool.and_self, Bool.and_true, Bool.true_and, ltB, noId, Nat.reduceLT, decide_true, Bool.true_eq_false, tyV_id, fdV_id, tyL_id, fdL_id, tkL_id, tkV_id, byL_id]) | refine WkF.tu ?_ | refine WkF.ag ?_ | refine WkFL.cons ?_ ?_ | exact WkFL.nil)
  obtain ⟨c, r, hcr⟩ : ∃ c r, l.drop m = c :: r := ⟨l[m], l.drop (m + 1), List.drop_eq_getElem_cons hlt⟩
  have hr : l.drop (m + 1) = r := by
    have := congrArg List.tail hcr
    rwa [List.tail_drop] at this
  have hll : (l.drop m).length = l.length - m := List.length_drop
  have hb := advs_bound (l.take m) p hp1.1 hp2.1
  rw [List.length_take] at hb
  have hsk : ∀ n, n ≤ (l.drop m).length → DC Tryd.prog 26 [.pt 0 0, (.im (.int .i64 ((n : Int))))] [.box [.im (.string ⟨(l.drop (m)).toArray⟩), (.im (.int .i64 ((advs p (l.take (m))).1))), (.im (.int .i64 ((advs p (l.take (m))).2))), .sl (ts.map tkV) (.mine 1)], .tip 30 5 ts.length] (.tu []) [.box [.im (.string ⟨(l.drop (m + n)).toArray⟩), (.im (.int .i64 ((advs p (l.take (m + n))).1))), (.im (.int .i64 ((advs p (l.take (m + n))).2))), .sl (ts.map tkV) (.mine 1)], .tip 30 5 ts.length] := fun n hn => by
    have h := c_skip (l.drop m) (advs p (l.take m)) ts n hn (by omega) (by omega) (by omega)
    rw [advs_more, List.drop_drop] at h
    exact h
  have q1 := c_contains ⟨#[32, 9, 13, 10]⟩ ⟨#[c]⟩ (by decide)
  rw [show Lib.contains (ByteArray.mk #[32, 9, 13, 10]).data.toList (ByteArray.mk #[c]).data.toList = isS c from isS_contains c] at q1
  have hn0 : ((c :: r) == ([] : Bs)) = false := rfl
  have h1l : (1 : Int) ≤ ((r.length + 1 : Nat) : Int) := by omega
  have ht1 : (c :: r).take 1 = [c] := rfl
  cases b1 : isS c with
  | true =>
    rw [b1] at q1
    have hs1 := hsk 1 (by rw [hcr, List.length_cons]; omega)
    have hn2 := hnext (m + 1) (by omega) (by omega) (by rw [hr, ← hI, hcr, skpG, if_pos b1])
    clear hnext hsk hI
    rw [hcr, show (((1 : Nat)) : Int) = 1 from rfl] at hs1
    rw [hcr]
    refine wG Y24_T3 (And.intro BY (And.intro GDS (And.intro hn0 (And.intro h1l ht1)))) ?_
    refine AR.callP q1 True.intro (And.intro tkL_id (And.intro tkV_id byL_id)) ?_
    refine goG Y24_T3 True.intro ?_
    refine wG Y24_T3 True.intro ?_
    refine AR.callS [0, 1] hs1 rfl rfl (by first | (simp only [SR, tkV_ren, tkL_ren, byL_ren]; done) | (simp only [SR, tkV_ren, tkL_ren, byL_ren]; with_reducible exact rfl)) (by first | (simp only [SR, tkV_ren, tkL_ren, byL_ren]; done) | (simp only [SR, tkV_ren, tkL_ren, byL_ren]; with_reducible exact rfl)) (WkL.of_eq (by simp only [St.ev, V.ofVal, V.ofCell, V.size_im, getD_dn, look_cons, look_nil, Nat.reduceLT, Nat.reduceEqDiff, reduceIte, if_true, if_false, List.map_cons, List.map_nil, List.nil_append, List.cons_append, List.append_nil])) (by first | rfl | simp only [List.length_cons, List.length_nil, Nat.reduceAdd, V.ids, V.idsL, idsA, entOk, List.all_cons, List.all_nil, Bool.and_self, Bool.and_true, Bool.true_and, ltB, noId, Nat.reduceLT, decide_true, Bool.true_eq_false, tyV_id, fdV_id, tyL_id, fdL_id, tkL_id, tkV_id, byL_id]) rfl rfl rfl (by first | rfl | simp only [List.length_cons, List.length_nil, Nat.reduceAdd, V.ids, V.idsL, idsA, entOk, List.all_cons, List.all_nil, Bool.and_self, Bool.and_true, Bool.true_and, ltB, noId, Nat.reduceLT, decide_true, Bool.true_eq_false, tyV_id, fdV_id, tyL_id, fdL_id, tkL_id, tkV_id, byL_id]) (by intro p hp; simp only [renE, SR, Ent.ren, List.mem_cons, List.not_mem_nil, or_false, tkV_ren, tkL_ren, byL_ren] at hp; rcases hp with rfl | rfl <;> rfl) (by simp only [renE, Ent.ren, SR, tkV_ren, tkL_ren, byL_ren, wrl, putE, SC, SD, Nat.reduceBEq, Nat.reduceLT, Nat.reduceSub, Nat.reduceAdd, Nat.reduceMul, Nat.reduceLeDiff, Nat.reduceEqDiff, reduceCtorEq, Int.reduceLT, Int.reduceLE, Int.reduceEq, Int.reduceNe, Int.reduceBEq, Int.reduceBNe, Int.reduceAdd, Int.reduceSub, Int.reduceMul, Int.reduceToNat]; with_reducible exact rfl) ?_
    refine goG Y24_T3 True.intro ?_
    refine wG Y24_T3 True.intro ?_
    refine ALp.cutP 2 [(0, .pt 0 0)] [.box [.im (.string ⟨(l.drop (m + 1)).toArray⟩), (.im (.int .i64 ((advs p (l.take (m + 1))).1))), (.im (.int .i64 ((advs p (l.take (m + 1))).2))), .sl (ts.map tkV) (.mine 1)], .tip 30 5 ts.length] (And.intro tkL_id (And.intro tkV_id byL_id)) ?_
    exact hn2
  | false =>
  rw [b1] at q1
  have q2 := c_hasPre (c :: r) [47, 47]
  cases b2 : pre [47, 47] (c :: r) with
  | false =>
    rw [b2] at q2
    have hs := skq_at hm (by rw [← hI, hcr]; exact skp_none b1 b2) p
    rw [hs, ← hI, hcr, skp_none b1 b2]
    clear hnext hsk hI hb
    generalize advs p (l.take m) = q
    refine wG Y24_T3 (And.intro BY (And.intro GDS (And.intro hn0 (And.intro h1l ht1)))) ?_
    refine AR.callP q1 True.intro (And.intro tkL_id (And.intro tkV_id byL_id)) ?_
    refine goG Y24_T3 True.intro ?_
    refine wG Y24_T3 True.intro ?_
    refine AR.callP q2 True.intro (And.intro tkL_id (And.intro tkV_id byL_id)) ?_
    refine goG Y24_T3 True.intro ?_
    refine wG Y24_T3 True.intro ?_
    refine Fin.gen (rs := []) rfl (by first | exact .inl rfl | exact .inr rfl) (by simp only [resX, resA, ↓accU_f, ↓reduceIte, SA, SB, SC, SD, Y24_T3, valG, fpsG, evO, evB, evA, evA1, nilK, eqF, eqC, apOk, intOf, slB, slK,  gd, St.ev, putA, ofl, wrl, putE, V.ofVal, V.ofCell, bin2, un1, seg, fillV, partsOk, Value.oneCell', Nat.reduceBEq, Nat.reduceLT, Nat.reduceSub, Nat.reduceAdd, Nat.reduceMul, Nat.reduceLeDiff, Nat.reduceEqDiff, reduceCtorEq, Int.reduceLT, Int.reduceLE, Int.reduceEq, Int.reduceNe, Int.reduceBEq, Int.reduceBNe, Int.reduceAdd, Int.reduceSub, Int.reduceMul, Int.reduceToNat]; with_reducible exact rfl) ?_ rfl (by first | rfl | simp only [List.length_cons, List.length_nil, Nat.reduceAdd, V.ids, V.idsL, idsA, entOk, List.all_cons, List.all_nil, Bool.and_self, Bool.and_true, Bool.true_and, ltB, noId, Nat.reduceLT, decide_true, Bool.true_eq_false, tyV_id, fdV_id, tyL_id, fdL_id, tkL_id, tkV_id, byL_id])
    repeat (first | exact WkF.of (Wk.refl _) (by first | rfl | simp only [List.length_cons, List.length_nil, Nat.reduceAdd, V.ids, V.idsL, idsA, entOk, List.all_cons, List.all_nil, Bool.and_self, Bool.and_true, Bool.true_and, ltB, noId, Nat.reduceLT, decide_true, Bool.true_eq_false, tyV_id, fdV_id, tyL_id, fdL_id, tkL_id, tkV_id, byL_id]) | exact WkF.of (Wk.ro _ _) (by first | rfl | simp only [List.length_cons, List.length_nil, Nat.reduceAdd, V.ids, V.idsL, idsA, entOk, List.all_cons, List.all_nil, Bool.and_self, Bool.and_true, Bool.true_and, ltB, noId, Nat.reduceLT, decide_true, Bool.true_eq_false, tyV_id, fdV_id, tyL_id, fdL_id, tkL_id, tkV_id, byL_id]) | refine WkF.tu ?_ | refine WkF.ag ?_ | refine WkFL.cons ?_ ?_ | exact WkFL.nil)
  | true =>
  rw [b2] at q2
  have q3 := c_index1 (c :: r) 10
  have hst := skp_true (c :: r)
  rw [← skp_slash b2, ← hcr, hI] at hst
  have hib := idx_bound (c :: r) 10
  rw [← hcr] at hib q3
  have h2 : 2 ≤ (l.drop m).length := by
    obtain ⟨x, hx⟩ := pre_iff.1 b2
    rw [hcr, hx]
    simp
  have h470 : Lib.indexByte (l.drop m) 10 ≠ 0 := by
    obtain ⟨x, hx⟩ := pre_iff.1 b2
    rw [hcr, hx]
    show Lib.indexByte (47 :: 47 :: x) 10 ≠ 0
    rw [idx_miss (47 :: x) (by decide)]
    have := idx_bound (47 :: x) 10
    split <;> omega
  generalize Lib.indexByte (l.drop m) 10 = k at hib hst q3 h470
  by_cases hk : k < 0
  · have hs1 := hsk (l.drop m).length (Nat.le_refl _)
    have hn2 := hnext (m + (l.drop m).length) (by omega) (by omega) (by rw [hst, if_pos (by omega), show m + (l.drop m).length = l.length by omega, List.drop_length]; rfl)
    clear hnext hsk hI hst hb hib hm
    rw [hcr, List.length_cons] at hs1 hn2
    rw [hcr] at q3 ⊢
    refine wG Y24_T3 (And.intro BY (And.intro GDS (And.intro hn0 (And.intro h1l ht1)))) ?_
    refine AR.callP q1 True.intro (And.intro tkL_id (And.intro tkV_id byL_id)) ?_
    refine goG Y24_T3 True.intro ?_
    refine wG Y24_T3 True.intro ?_
    refine AR.callP q2 True.intro (And.intro tkL_id (And.intro tkV_id byL_id)) ?_
    refine goG Y24_T3 True.intro ?_
    refine wG Y24_T3 True.intro ?_
    refine AR.callP q3 True.intro (And.intro tkL_id (And.intro tkV_id byL_id)) ?_
    refine goG Y24_T3 True.intro ?_
    refine wG Y24_T3 (And.intro hk BY) ?_
    refine AR.callS [0, 1] hs1 rfl rfl (by first | (simp only [SR, tkV_ren, tkL_ren, byL_ren]; done) | (simp only [SR, tkV_ren, tkL_ren, byL_ren]; with_reducible exact rfl)) (by first | (simp only [SR, tkV_ren, tkL_ren, byL_ren]; done) | (simp only [SR, tkV_ren, tkL_ren, byL_ren]; with_reducible exact rfl)) (WkL.of_eq (by simp only [St.ev, V.ofVal, V.ofCell, V.size_im, getD_dn, look_cons, look_nil, Nat.reduceLT, Nat.reduceEqDiff, reduceIte, if_true, if_false, List.map_cons, List.map_nil, List.nil_append, List.cons_append, List.append_nil])) (by first | rfl | simp only [List.length_cons, List.length_nil, Nat.reduceAdd, V.ids, V.idsL, idsA, entOk, List.all_cons, List.all_nil, Bool.and_self, Bool.and_true, Bool.true_and, ltB, noId, Nat.reduceLT, decide_true, Bool.true_eq_false, tyV_id, fdV_id, tyL_id, fdL_id, tkL_id, tkV_id, byL_id]) rfl rfl rfl (by first | rfl | simp only [List.length_cons, List.length_nil, Nat.reduceAdd, V.ids, V.idsL, idsA, entOk, List.all_cons, List.all_nil, Bool.and_self, Bool.and_true, Bool.true_and, ltB, noId, Nat.reduceLT, decide_true, Bool.true_eq_false, tyV_id, fdV_id, tyL_id, fdL_id, tkL_id, tkV_id, byL_id]) (by intro p hp; simp only [renE, SR, Ent.ren, List.mem_cons, List.not_mem_nil, or_false, tkV_ren, tkL_ren, byL_ren] at hp; rcases hp with rfl | rfl <;> rfl) (by simp only [renE, Ent.ren, SR, tkV_ren, tkL_ren, byL_ren, wrl, putE, SC, SD, Nat.reduceBEq, Nat.reduceLT, Nat.reduceSub, Nat.reduceAdd, Nat.reduceMul, Nat.reduceLeDiff, Nat.reduceEqDiff, reduceCtorEq, Int.reduceLT, Int.reduceLE, Int.reduceEq, Int.reduceNe, Int.reduceBEq, Int.reduceBNe, Int.reduceAdd, Int.reduceSub, Int.reduceMul, Int.reduceToNat]; with_reducible exact rfl) ?_
    refine goG Y24_T3 True.intro ?_
    refine wG Y24_T3 True.intro ?_
    refine ALp.cutP 2 [(0, .pt 0 0)] [.box [.im (.string ⟨(l.drop (m + (r.length + 1))).toArray⟩), (.im (.int .i64 ((advs p (l.take (m + (r.length + 1)))).1))), (.im (.int .i64 ((advs p (l.take (m + (r.length + 1)))).2))), .sl (ts.map tkV) (.mine 1)], .tip 30 5 ts.length] (And.intro tkL_id (And.intro tkV_id byL_id)) ?_
    exact hn2
  · obtain ⟨n, rfl⟩ : ∃ n : Nat, k = n := ⟨k.toNat, by omega⟩
    have hs1 := hsk n (by omega)
    have h47 : n ≠ 0 := fun e => h470 (by omega)
    have hn2 := hnext (m + n) (by omega) (by omega) (by rw [hst, if_neg (by omega), List.drop_drop]; rfl)
    clear hnext hsk hI hst hb hib hm
    rw [hcr] at hs1 q3 ⊢
    refine wG Y24_T3 (And.intro BY (And.intro GDS (And.intro hn0 (And.intro h1l ht1)))) ?_
    refine AR.callP q1 True.intro (And.intro tkL_id (And.intro tkV_id byL_id)) ?_
    refine goG Y24_T3 True.intro ?_
    refine wG Y24_T3 True.intro ?_
    refine AR.callP q2 True.intro (And.intro tkL_id (And.intro tkV_id byL_id)) ?_
    refine goG Y24_T3 True.intro ?_
    refine wG Y24_T3 True.intro ?_
    refine AR.callP q3 True.intro (And.intro tkL_id (And.intro tkV_id byL_id)) ?_
    refine goG Y24_T3 True.intro ?_
    refine wG Y24_T3 (And.intro hk BY) ?_
    refine AR.callS [0, 1] hs1 rfl rfl (by first | (simp only [SR, tkV_ren, tkL_ren, byL_ren]; done) | (simp only [SR, tkV_ren, tkL_ren, byL_ren]; with_reducible exact rfl)) (by first | (simp only [SR, tkV_ren, tkL_ren, byL_ren]; done) | (simp only [SR, tkV_ren, tkL_ren, byL_ren]; with_reducible exact rfl)) (WkL.of_eq (by simp only [St.ev, V.ofVal, V.ofCell, V.size_im, getD_dn, look_cons, look_nil, Nat.reduceLT, Nat.reduceEqDiff, reduceIte, if_true, if_false, List.map_cons, List.map_nil, List.nil_append, List.cons_append, List.append_nil])) (by first | rfl | simp only [List.length_cons, List.length_nil, Nat.reduceAdd, V.ids, V.idsL, idsA, entOk, List.all_cons, List.all_nil, Bool.and_self, Bool.and_true, Bool.true_and, ltB, noId, Nat.reduceLT, decide_true, Bool.true_eq_false, tyV_id, fdV_id, tyL_id, fdL_id, tkL_id, tkV_id, byL_id]) rfl rfl rfl (by first | rfl | simp only [List.length_cons, List.length_nil, Nat.reduceAdd, V.ids, V.idsL, idsA, entOk, List.all_cons, List.all_nil, Bool.and_self, Bool.and_true, Bool.true_and, ltB, noId, Nat.reduceLT, decide_true, Bool.true_eq_false, tyV_id, fdV_id, tyL_id, fdL_id, tkL_id, tkV_id, byL_id]) (by intro p hp; simp only [renE, SR, Ent.ren, List.mem_cons, List.not_mem_nil, or_false, tkV_ren, tkL_ren, byL_ren] at hp; rcases hp with rfl | rfl <;> rfl) (by simp only [renE, Ent.ren, SR, tkV_ren, tkL_ren, byL_ren, wrl, putE, SC, SD, Nat.reduceBEq, Nat.reduceLT, Nat.reduceSub, Nat.reduceAdd, Nat.reduceMul, Nat.reduceLeDiff, Nat.reduceEqDiff, reduceCtorEq, Int.reduceLT, Int.reduceLE, Int.reduceEq, Int.reduceNe, Int.reduceBEq, Int.reduceBNe, Int.reduceAdd, Int.reduceSub, Int.reduceMul, Int.reduceToNat]; with_reducible exact rfl) ?_
    refine goG Y24_T3 True.intro ?_
    refine wG Y24_T3 True.intro ?_
    refine ALp.cutP 2 [(0, .pt 0 0)] [.box [.im (.string ⟨(l.drop (m + n)).toArray⟩), (.im (.int .i64 ((advs p (l.take (m + n))).1))), (.im (.int .i64 ((advs p (l.take (m + n))).2))), .sl (ts.map tkV) (.mine 1)], .tip 30 5 ts.length] (And.intro tkL_id (And.intro tkV_id byL_id)) ?_
    exact hn2
end Go.Proofs.YtjilcaemoebloaaDoor

