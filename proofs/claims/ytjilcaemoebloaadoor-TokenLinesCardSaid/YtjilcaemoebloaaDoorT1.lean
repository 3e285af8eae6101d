/- Walks: letters, digits; prefixes; how long is the word that comes next; going on. -/
import Derived.Test.YtjilcaemoebloaaDoorHv
import Derived.Test.YtjilcaemoebloaaDoorTw
namespace Go.Proofs.YtjilcaemoebloaaDoor
set_option linter.unusedSimpArgs false
set_option linter.unusedVariables false
set_option linter.unnecessarySimpa false
open Go.RowKit
theorem AWp.condAB {K : Option Nat → Prop} {P : Program} {st0 : Nat → Ent} {Q : Exit → St → Prop} {N t : Nat} {s : List (Nat × V)} {st : Nat → Ent} {x y : Code} {b : Bool} (ht : Nat.blt t N = true) (hc : look s t = .im (.bool b))
    (h1 : b = true → AWpK K P st0 x Q ⟨dn N s, st⟩) (h2 : b = false → AWpK K P st0 y Q ⟨dn N s, st⟩) : AWpK K P st0 (.cond (.tmp t) x y) Q ⟨dn N s, st⟩ := by
  cases b
  · exact AWp.condAF ht hc (h2 rfl)
  · exact AWp.condAT ht hc (h1 rfl)
theorem Wk.eq {x y : V} (h : x = y) : Wk x y := h ▸ Wk.refl x
def ltr (r : Int) : Bool := decide (r ≥ 97) && decide (r ≤ 122) || decide (r ≥ 65) && decide (r ≤ 90) || decide (r = 95) || decide (r = 46)
def dgt (r : Int) : Bool := decide (r ≥ 48) && decide (r ≤ 57)
theorem ltr_isL (c : UInt8) : ltr c.toNat = isL c := by
  unfold ltr isL
  rw [Bool.eq_iff_iff, decide_eq_true_eq]
  simp only [Bool.or_eq_true, Bool.and_eq_true, decide_eq_true_eq]
  omega
theorem dgt_isD (c : UInt8) : dgt c.toNat = isD c := by
  unfold dgt isD
  rw [Bool.eq_iff_iff, decide_eq_true_eq]
  simp only [Bool.and_eq_true, decide_eq_true_eq]
  omega

theorem c_letter (r : Int) : PC Tryd.prog 55 [.im (.int .i32 r)] (.im (.bool (ltr r))) := by
  refine PC.enter 25 Tryd.func55 rfl (by decide) rfl rfl (s := [(0, .im (.int .i32 r))]) (by rfl) ?_
  refine wG True.intro True.intro ?_
  exact Fin.oneP

theorem c_digit (r : Int) : PC Tryd.prog 56 [.im (.int .i32 r)] (.im (.bool (dgt r))) := by
  refine PC.enter 9 Tryd.func56 rfl (by decide) rfl rfl (s := [(0, .im (.int .i32 r))]) (by rfl) ?_
  refine wG True.intro True.intro ?_
  exact Fin.oneP
theorem pre_take {p s : Bs} : pre p s = (decide (p.length ≤ s.length) && s.take p.length == p) := by
  rw [Bool.eq_iff_iff, pre_iff]
  simp only [Bool.and_eq_true, decide_eq_true_eq, beq_iff_eq]
  constructor
  · rintro ⟨x, rfl⟩
    simp
  · rintro ⟨_, h⟩
    exact ⟨s.drop p.length, by conv => lhs; rw [← List.take_append_drop p.length s, h]⟩
theorem Y53_T1 : type_of% (@F_un_9) := @F_un_9
theorem c_hasPre0 (s p : Bs) : PC Tryd.prog 53 [.im (.string ⟨(s).toArray⟩), .im (.string ⟨(p).toArray⟩)] (.im (.bool (pre p s))) := by
  rw [pre_take]
  refine PC.enter 18 Tryd.func53 rfl (by decide) rfl rfl (s := [(0, .im (.string ⟨(s).toArray⟩)), (1, .im (.string ⟨(p).toArray⟩))]) (by rfl) ?_
  by_cases h : p.length ≤ s.length
  · have h' : (s.length : Int) ≥ (p.length : Int) := by omega
    have h2 : (p.length : Int) ≤ (s.length : Int) := h'
    refine wG Y53_T1 (And.intro BY (And.intro h' (And.intro h2 GDS))) ?_
    rw [decide_eq_true h, Bool.true_and]
    exact Fin.oneP
  · have h' : ¬ (s.length : Int) ≥ (p.length : Int) := by omega
    refine wG Y53_T1 (And.intro BY h') ?_
    rw [decide_eq_false h, Bool.false_and]
    exact Fin.oneP

theorem c_hasPre (s p : Bs) : PC Tryd.prog 35 [.im (.string ⟨(s).toArray⟩), .im (.string ⟨(p).toArray⟩)] (.im (.bool (pre p s))) := by
  have h := c_hasPre0 s p
  refine PC.enter 8 Tryd.func35 rfl (by decide) rfl rfl (s := [(0, .im (.string ⟨(s).toArray⟩)), (1, .im (.string ⟨(p).toArray⟩))]) (by rfl) ?_
  refine wG True.intro True.intro ?_
  refine AR.callP h True.intro True.intro ?_
  refine goG True.intro True.intro ?_
  refine wG True.intro True.intro ?_
  exact Fin.oneP
def cutP (p s : Bs) : Bs := if pre p s then s.drop p.length else s
theorem Y76_T1 : type_of% (@F_un_9) := @F_un_9
theorem c_cutPre0 (s p : Bs) : PC Tryd.prog 76 [.im (.string ⟨(s).toArray⟩), .im (.string ⟨(p).toArray⟩)] (.tu [.im (.string ⟨(cutP p s).toArray⟩), (.im (.bool (pre p s)))]) := by
  have h := c_hasPre0 s p
  unfold cutP
  refine PC.enter 15 Tryd.func76 rfl (by decide) rfl rfl (s := [(0, .im (.string ⟨(s).toArray⟩)), (1, .im (.string ⟨(p).toArray⟩))]) (by rfl) ?_
  refine wG Y76_T1 True.intro ?_
  refine AR.callP h True.intro True.intro ?_
  cases b : pre p s with
  | false =>
    refine goG Y76_T1 True.intro ?_
    refine wG Y76_T1 True.intro ?_
    simp only [Bool.false_eq_true, if_false]
    refine Fin.gen0 (rs := [.tmp 4, .tmp 5]) rfl (by first | exact .inl rfl | exact .inr rfl) (by simp only [resX, resA, ↓accU_f, ↓reduceIte, SA, SB, SC, SD, Y76_T1, valG, fpsG, evO, evB, evA, evA1, nilK, eqF, eqC, apOk, intOf, slB, slK,  gd, St.ev, putA, ofl, wrl, putE, V.ofVal, V.ofCell, bin2, un1, seg, fillV, partsOk, Value.oneCell', Nat.reduceBEq, Nat.reduceLT, Nat.reduceSub, Nat.reduceAdd, Nat.reduceMul, Nat.reduceLeDiff, Nat.reduceEqDiff, reduceCtorEq, Int.reduceLT, Int.reduceLE, Int.reduceEq, Int.reduceNe, Int.reduceBEq, Int.reduceBNe, Int.reduceAdd, Int.reduceSub, Int.reduceMul, Int.reduceToNat]; with_reducible exact rfl) ?_
    repeat (first | exact WkF.of (Wk.refl _) (by first | rfl | simp only [List.length_cons, List.length_nil, Nat.reduceAdd, V.ids, V.idsL, idsA, entOk, List.all_cons, List.all_nil, Bool.and_self, Bool.and_true, Bool.true_and, ltB, noId, Nat.reduceLT, decide_true, Bool.true_eq_false, tyV_id, fdV_id, tyL_id, fdL_id]) | exact WkF.of (Wk.ro _ _) (by first | rfl | simp only [List.length_cons, List.length_nil, Nat.reduceAdd, V.ids, V.idsL, idsA, entOk, List.all_cons, List.all_nil, Bool.and_self, Bool.and_true, Bool.true_and, ltB, noId, Nat.reduceLT, decide_true, Bool.true_eq_false, tyV_id, fdV_id, tyL_id, fdL_id]) | refine WkF.tu ?_ | refine WkF.ag ?_ | refine WkFL.cons ?_ ?_ | exact WkFL.nil)
  | true =>
    rw [pre_take, Bool.and_eq_true, decide_eq_true_eq] at b
    have h2 : (p.length : Int) ≤ (s.length : Int) := by omega
    have e : (s.drop p.length).take (s.length - p.length) = s.drop p.length := by rw [List.take_of_length_le (by rw [List.length_drop]; omega)]
    refine goG Y76_T1 True.intro ?_
    refine wG Y76_T1 (And.intro BY (And.intro h2 (And.intro e GDS))) ?_
    simp only [if_true]
    refine Fin.gen0 (rs := [.tmp 4, .tmp 5]) rfl (by first | exact .inl rfl | exact .inr rfl) (by simp only [resX, resA, ↓accU_f, ↓reduceIte, SA, SB, SC, SD, Y76_T1, valG, fpsG, evO, evB, evA, evA1, nilK, eqF, eqC, apOk, intOf, slB, slK,  gd, St.ev, putA, ofl, wrl, putE, V.ofVal, V.ofCell, bin2, un1, seg, fillV, partsOk, Value.oneCell', Nat.reduceBEq, Nat.reduceLT, Nat.reduceSub, Nat.reduceAdd, Nat.reduceMul, Nat.reduceLeDiff, Nat.reduceEqDiff, reduceCtorEq, Int.reduceLT, Int.reduceLE, Int.reduceEq, Int.reduceNe, Int.reduceBEq, Int.reduceBNe, Int.reduceAdd, Int.reduceSub, Int.reduceMul, Int.reduceToNat]; with_reducible exact rfl) ?_
    repeat (first | exact WkF.of (Wk.refl _) (by first | rfl | simp only [List.length_cons, List.length_nil, Nat.reduceAdd, V.ids, V.idsL, idsA, entOk, List.all_cons, List.all_nil, Bool.and_self, Bool.and_true, Bool.true_and, ltB, noId, Nat.reduceLT, decide_true, Bool.true_eq_false, tyV_id, fdV_id, tyL_id, fdL_id]) | exact WkF.of (Wk.ro _ _) (by first | rfl | simp only [List.length_cons, List.length_nil, Nat.reduceAdd, V.ids, V.idsL, idsA, entOk, List.all_cons, List.all_nil, Bool.and_self, Bool.and_true, Bool.true_and, ltB, noId, Nat.reduceLT, decide_true, Bool.true_eq_false, tyV_id, fdV_id, tyL_id, fdL_id]) | refine WkF.tu ?_ | refine WkF.ag ?_ | refine WkFL.cons ?_ ?_ | exact WkFL.nil)

theorem c_cutPre (s p : Bs) : PC Tryd.prog 59 [.im (.string ⟨(s).toArray⟩), .im (.string ⟨(p).toArray⟩)] (.tu [.im (.string ⟨(cutP p s).toArray⟩), (.im (.bool (pre p s)))]) := by
  have h := c_cutPre0 s p
  refine PC.enter 11 Tryd.func59 rfl (by decide) rfl rfl (s := [(0, .im (.string ⟨(s).toArray⟩)), (1, .im (.string ⟨(p).toArray⟩))]) (by rfl) ?_
  refine wG True.intro True.intro ?_
  refine AR.callP h True.intro True.intro ?_
  refine goG True.intro True.intro ?_
  refine wG True.intro True.intro ?_
  refine Fin.gen0 (rs := [.tmp 4, .tmp 5]) rfl (by first | exact .inl rfl | exact .inr rfl) (by simp only [resX, resA, ↓accU_f, ↓reduceIte, SA, SB, SC, SD, valG, fpsG, evO, evB, evA, evA1, nilK, eqF, eqC, apOk, intOf, slB, slK,  gd, St.ev, putA, ofl, wrl, putE, V.ofVal, V.ofCell, bin2, un1, seg, fillV, partsOk, Value.oneCell', Nat.reduceBEq, Nat.reduceLT, Nat.reduceSub, Nat.reduceAdd, Nat.reduceMul, Nat.reduceLeDiff, Nat.reduceEqDiff, reduceCtorEq, Int.reduceLT, Int.reduceLE, Int.reduceEq, Int.reduceNe, Int.reduceBEq, Int.reduceBNe, Int.reduceAdd, Int.reduceSub, Int.reduceMul, Int.reduceToNat]; with_reducible exact rfl) ?_
  repeat (first | exact WkF.of (Wk.refl _) (by first | rfl | simp only [List.length_cons, List.length_nil, Nat.reduceAdd, V.ids, V.idsL, idsA, entOk, List.all_cons, List.all_nil, Bool.and_self, Bool.and_true, Bool.true_and, ltB, noId, Nat.reduceLT, decide_true, Bool.true_eq_false, tyV_id, fdV_id, tyL_id, fdL_id]) | exact WkF.of (Wk.ro _ _) (by first | rfl | simp only [List.length_cons, List.length_nil, Nat.reduceAdd, V.ids, V.idsL, idsA, entOk, List.all_cons, List.all_nil, Bool.and_self, Bool.and_true, Bool.true_and, ltB, noId, Nat.reduceLT, decide_true, Bool.true_eq_false, tyV_id, fdV_id, tyL_id, fdL_id]) | refine WkF.tu ?_ | refine WkF.ag ?_ | refine WkFL.cons ?_ ?_ | exact WkFL.nil)
end Go.Proofs.YtjilcaemoebloaaDoor

