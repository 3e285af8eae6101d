/- Walks: Expr of the reference. -/
import Derived.Test.YtfggemopnlffeaaHw
import Derived.Test.YtfggemopnlffeaaBP
import Derived.Test.YtfggemopnlffeaaBJ
namespace Go.Proofs.Ytfggemopnlffeaa
set_option linter.unusedSimpArgs false
set_option linter.unusedVariables false
set_option linter.unnecessarySimpa false
open Go.RowKit
/-- What Expr says: a type and 0, or the number of an error. -/
def exT (vs : List Va) (e : Ex) : Ty × Int := if chkE vs e == 0 then (if acs vs e then (typ vs e, 0) else (tz, 16)) else (tz, chkE vs e)
theorem chkE_efm {vs : List Va} {e : Ex} (h : chkE vs e = 0) : efm e = true := by
  unfold chkE at h
  cases b : efm e with
  | true => rfl
  | false =>
    rw [b] at h
    split at h
    · cases h
    · simp at h
theorem c_ExprR (vs : List Va) (hv : fitV vs) (e : Ex) (he : fitE e) : PC Try.prog 17 [exV e, (V.sl (vs.map vaV) .ro)] (.tu [tyV (exT vs e).1, (.im (.int .i64 ((exT vs e).2)))]) := by
  have h1 := c_CheckER vs hv.1 e he
  unfold exT
  refine PC.enter 22 Try.func17 rfl (by decide) rfl rfl (s := [(0, exV e), (1, (V.sl (vs.map vaV) .ro))]) (by rfl) ?_
  simp only [exV_eq]
  by_cases hc : chkE vs e = 0
  case neg =>
    have ec : (chkE vs e == 0) = false := by simp [hc]
    rw [ec]
    simp only [Bool.false_eq_true, if_false]
    refine w17 True.intro ?_
    refine AR.callP h1 @exV_eq (And.intro (@exL_id) (And.intro (@vaL_id) (And.intro (@exV_id) @vaV_id))) ?_
    refine go17 hc ?_
    refine w17 hc ?_
    refine Fin.gen0 (rs := [.cell 4 25, .tmp 5]) rfl (by first | exact .inl rfl | exact .inr rfl) (by simp only [resX, resA, ↓accU_f, ↓reduceIte, SA, SB, SC, SD, T17, valG, fpsG, evO, evB, evA, evA1, nilK, eqF, eqC, apOk, intOf, slB, slK,  gd, St.ev, putA, ofl, wrl, putE, V.ofVal, V.ofCell, bin2, un1, seg, fillV, partsOk, Value.oneCell', Nat.reduceBEq, Nat.reduceLT, Nat.reduceSub, Nat.reduceAdd, Nat.reduceMul, Nat.reduceLeDiff, Nat.reduceEqDiff, reduceCtorEq, Int.reduceLT, Int.reduceLE, Int.reduceEq, Int.reduceNe, Int.reduceBEq, Int.reduceBNe, Int.reduceAdd, Int.reduceSub, Int.reduceMul, Int.reduceToNat]; with_reducible exact rfl) ?_
    simp only [tz, tyV_mk, List.map_nil]
    repeat (first | exact WkF.of (Wk.refl _) (by first | rfl | simp only [List.length_cons, List.length_nil, Nat.reduceAdd, V.ids, V.idsL, idsA, entOk, List.all_cons, List.all_nil, Bool.and_self, Bool.and_true, Bool.true_and, ltB, noId, Nat.reduceLT, decide_true, Bool.true_eq_false, tyV_id, fdV_id, tyL_id, fdL_id, exL_id, vaL_id, exV_id, vaV_id]) | exact WkF.of (Wk.ro _ _) (by first | rfl | simp only [List.length_cons, List.length_nil, Nat.reduceAdd, V.ids, V.idsL, idsA, entOk, List.all_cons, List.all_nil, Bool.and_self, Bool.and_true, Bool.true_and, ltB, noId, Nat.reduceLT, decide_true, Bool.true_eq_false, tyV_id, fdV_id, tyL_id, fdL_id, exL_id, vaL_id, exV_id, vaV_id]) | refine WkF.tu ?_ | refine WkF.ag ?_ | refine WkFL.cons ?_ ?_ | exact WkFL.nil)
  have hf := chkE_efm hc
  have ec : (chkE vs e == 0) = true := by simp [hc]
  rw [ec]
  simp only [if_true]
  rw [hc] at h1
  have h2 := c_accessesR vs hv e he hf
  have h3 := c_kindR vs hv e hf
  cases ha : acs vs e with
  | false =>
    rw [ha] at h2
    simp only [Bool.false_eq_true, if_false]
    refine w17 True.intro ?_
    refine AR.callP h1 @exV_eq (And.intro (@exL_id) (And.intro (@vaL_id) (And.intro (@exV_id) @vaV_id))) ?_
    refine go17 True.intro ?_
    refine w17 True.intro ?_
    refine AR.callP h2 @exV_eq (And.intro (@exL_id) (And.intro (@vaL_id) (And.intro (@exV_id) @vaV_id))) ?_
    refine go17 True.intro ?_
    refine w17 True.intro ?_
    refine Fin.gen0 (rs := [.cell 4 25, .tmp 5]) rfl (by first | exact .inl rfl | exact .inr rfl) (by simp only [resX, resA, ↓accU_f, ↓reduceIte, SA, SB, SC, SD, T17, valG, fpsG, evO, evB, evA, evA1, nilK, eqF, eqC, apOk, intOf, slB, slK,  gd, St.ev, putA, ofl, wrl, putE, V.ofVal, V.ofCell, bin2, un1, seg, fillV, partsOk, Value.oneCell', Nat.reduceBEq, Nat.reduceLT, Nat.reduceSub, Nat.reduceAdd, Nat.reduceMul, Nat.reduceLeDiff, Nat.reduceEqDiff, reduceCtorEq, Int.reduceLT, Int.reduceLE, Int.reduceEq, Int.reduceNe, Int.reduceBEq, Int.reduceBNe, Int.reduceAdd, Int.reduceSub, Int.reduceMul, Int.reduceToNat]; with_reducible exact rfl) ?_
    simp only [tz, tyV_mk, List.map_nil]
    repeat (first | exact WkF.of (Wk.refl _) (by first | rfl | simp only [List.length_cons, List.length_nil, Nat.reduceAdd, V.ids, V.idsL, idsA, entOk, List.all_cons, List.all_nil, Bool.and_self, Bool.and_true, Bool.true_and, ltB, noId, Nat.reduceLT, decide_true, Bool.true_eq_false, tyV_id, fdV_id, tyL_id, fdL_id, exL_id, vaL_id, exV_id, vaV_id]) | exact WkF.of (Wk.ro _ _) (by first | rfl | simp only [List.length_cons, List.length_nil, Nat.reduceAdd, V.ids, V.idsL, idsA, entOk, List.all_cons, List.all_nil, Bool.and_self, Bool.and_true, Bool.true_and, ltB, noId, Nat.reduceLT, decide_true, Bool.true_eq_false, tyV_id, fdV_id, tyL_id, fdL_id, exL_id, vaL_id, exV_id, vaV_id]) | refine WkF.tu ?_ | refine WkF.ag ?_ | refine WkFL.cons ?_ ?_ | exact WkFL.nil)
  | true =>
    rw [ha] at h2
    simp only [if_true]
    generalize typ vs e = t at h3 ⊢
    refine w17 True.intro ?_
    refine AR.callP h1 @exV_eq (And.intro (@exL_id) (And.intro (@vaL_id) (And.intro (@exV_id) @vaV_id))) ?_
    refine go17 True.intro ?_
    refine w17 True.intro ?_
    refine AR.callP h2 @exV_eq (And.intro (@exL_id) (And.intro (@vaL_id) (And.intro (@exV_id) @vaV_id))) ?_
    refine go17 True.intro ?_
    refine w17 True.intro ?_
    refine AR.callP h3 @exV_eq (And.intro (@exL_id) (And.intro (@vaL_id) (And.intro (@exV_id) @vaV_id))) ?_
    refine go17 True.intro ?_
    refine w17 True.intro ?_
    refine Fin.gen0 (rs := [.cell 4 25, .tmp 5]) rfl (by first | exact .inl rfl | exact .inr rfl) (by simp only [resX, resA, ↓accU_f, ↓reduceIte, SA, SB, SC, SD, T17, valG, fpsG, evO, evB, evA, evA1, nilK, eqF, eqC, apOk, intOf, slB, slK,  gd, St.ev, putA, ofl, wrl, putE, V.ofVal, V.ofCell, bin2, un1, seg, fillV, partsOk, Value.oneCell', Nat.reduceBEq, Nat.reduceLT, Nat.reduceSub, Nat.reduceAdd, Nat.reduceMul, Nat.reduceLeDiff, Nat.reduceEqDiff, reduceCtorEq, Int.reduceLT, Int.reduceLE, Int.reduceEq, Int.reduceNe, Int.reduceBEq, Int.reduceBNe, Int.reduceAdd, Int.reduceSub, Int.reduceMul, Int.reduceToNat]; with_reducible exact rfl) ?_
    simp only [tyV_eq]
    repeat (first | exact WkF.of (Wk.refl _) (by first | rfl | simp only [List.length_cons, List.length_nil, Nat.reduceAdd, V.ids, V.idsL, idsA, entOk, List.all_cons, List.all_nil, Bool.and_self, Bool.and_true, Bool.true_and, ltB, noId, Nat.reduceLT, decide_true, Bool.true_eq_false, tyV_id, fdV_id, tyL_id, fdL_id, exL_id, vaL_id, exV_id, vaV_id]) | exact WkF.of (Wk.ro _ _) (by first | rfl | simp only [List.length_cons, List.length_nil, Nat.reduceAdd, V.ids, V.idsL, idsA, entOk, List.all_cons, List.all_nil, Bool.and_self, Bool.and_true, Bool.true_and, ltB, noId, Nat.reduceLT, decide_true, Bool.true_eq_false, tyV_id, fdV_id, tyL_id, fdL_id, exL_id, vaL_id, exV_id, vaV_id]) | refine WkF.tu ?_ | refine WkF.ag ?_ | refine WkFL.cons ?_ ?_ | exact WkFL.nil)
end Go.Proofs.Ytfggemopnlffeaa

