/- Walks: small makers of types and expressions. -/
import Derived.Test.YtfggemopnlffeaaHx
import Derived.Test.YtfggemopnlffeaaBS
import Derived.Test.YtfggemopnlffeaaBT
namespace Go.Proofs.Ytfggemopnlffeaa
set_option linter.unusedSimpArgs false
set_option linter.unusedVariables false
set_option linter.unnecessarySimpa false
open Go.RowKit
theorem c_Int (n : Int) : PC Try.prog 29 [(.im (.int .i64 (n)))] (tyV (.mk 0 1 n 0 [] [])) := by
  refine PC.enter 5 Try.func29 rfl (by decide) rfl rfl (s := [(0, (.im (.int .i64 (n))))]) (by rfl) ?_
  refine w29x True.intro ?_
  refine Fin.gen0 (rs := [.cell 2 25]) rfl (by first | exact .inl rfl | exact .inr rfl) (by simp only [resX, resA, ↓accU_f, ↓reduceIte, SA, SB, SC, SD, T29, valG, fpsG, evO, evB, evA, evA1, nilK, eqF, eqC, apOk, intOf, slB, slK,  gd, St.ev, putA, ofl, wrl, putE, V.ofVal, V.ofCell, bin2, un1, seg, fillV, partsOk, Value.oneCell', Nat.reduceBEq, Nat.reduceLT, Nat.reduceSub, Nat.reduceAdd, Nat.reduceMul, Nat.reduceLeDiff, Nat.reduceEqDiff, reduceCtorEq, Int.reduceLT, Int.reduceLE, Int.reduceEq, Int.reduceNe, Int.reduceBEq, Int.reduceBNe, Int.reduceAdd, Int.reduceSub, Int.reduceMul, Int.reduceToNat]; with_reducible exact rfl) ?_
  simp only [tyV_mk, List.map_nil]
  repeat (first | exact WkF.of (Wk.refl _) (by first | rfl | simp only [List.length_cons, List.length_nil, Nat.reduceAdd, V.ids, V.idsL, idsA, entOk, List.all_cons, List.all_nil, Bool.and_self, Bool.and_true, Bool.true_and, ltB, noId, Nat.reduceLT, decide_true, Bool.true_eq_false, tyV_id, fdV_id, tyL_id, fdL_id, exL_id, vaL_id, exV_id, vaV_id]) | exact WkF.of (Wk.ro _ _) (by first | rfl | simp only [List.length_cons, List.length_nil, Nat.reduceAdd, V.ids, V.idsL, idsA, entOk, List.all_cons, List.all_nil, Bool.and_self, Bool.and_true, Bool.true_and, ltB, noId, Nat.reduceLT, decide_true, Bool.true_eq_false, tyV_id, fdV_id, tyL_id, fdL_id, exL_id, vaL_id, exV_id, vaV_id]) | refine WkF.tu ?_ | refine WkF.ag ?_ | refine WkFL.cons ?_ ?_ | exact WkFL.nil)
theorem c_Uint (n : Int) : PC Try.prog 62 [(.im (.int .i64 (n)))] (tyV (.mk 0 2 n 0 [] [])) := by
  refine PC.enter 5 Try.func62 rfl (by decide) rfl rfl (s := [(0, (.im (.int .i64 (n))))]) (by rfl) ?_
  refine w62x True.intro ?_
  refine Fin.gen0 (rs := [.cell 2 25]) rfl (by first | exact .inl rfl | exact .inr rfl) (by simp only [resX, resA, ↓accU_f, ↓reduceIte, SA, SB, SC, SD, T62, valG, fpsG, evO, evB, evA, evA1, nilK, eqF, eqC, apOk, intOf, slB, slK,  gd, St.ev, putA, ofl, wrl, putE, V.ofVal, V.ofCell, bin2, un1, seg, fillV, partsOk, Value.oneCell', Nat.reduceBEq, Nat.reduceLT, Nat.reduceSub, Nat.reduceAdd, Nat.reduceMul, Nat.reduceLeDiff, Nat.reduceEqDiff, reduceCtorEq, Int.reduceLT, Int.reduceLE, Int.reduceEq, Int.reduceNe, Int.reduceBEq, Int.reduceBNe, Int.reduceAdd, Int.reduceSub, Int.reduceMul, Int.reduceToNat]; with_reducible exact rfl) ?_
  simp only [tyV_mk, List.map_nil]
  repeat (first | exact WkF.of (Wk.refl _) (by first | rfl | simp only [List.length_cons, List.length_nil, Nat.reduceAdd, V.ids, V.idsL, idsA, entOk, List.all_cons, List.all_nil, Bool.and_self, Bool.and_true, Bool.true_and, ltB, noId, Nat.reduceLT, decide_true, Bool.true_eq_false, tyV_id, fdV_id, tyL_id, fdL_id, exL_id, vaL_id, exV_id, vaV_id]) | exact WkF.of (Wk.ro _ _) (by first | rfl | simp only [List.length_cons, List.length_nil, Nat.reduceAdd, V.ids, V.idsL, idsA, entOk, List.all_cons, List.all_nil, Bool.and_self, Bool.and_true, Bool.true_and, ltB, noId, Nat.reduceLT, decide_true, Bool.true_eq_false, tyV_id, fdV_id, tyL_id, fdL_id, exL_id, vaL_id, exV_id, vaV_id]) | refine WkF.tu ?_ | refine WkF.ag ?_ | refine WkFL.cons ?_ ?_ | exact WkFL.nil)
theorem c_Ptr (x : Ty) (hx : fit x) : PC Try.prog 61 [tyV x] (tyV (.mk 0 3 0 0 [x] [])) := by
  have h := c_own x hx
  refine PC.enter 7 Try.func61 rfl (by decide) rfl rfl (s := [(0, tyV x)]) (by rfl) ?_
  rw [tyV_eq x]
  refine w61x True.intro ?_
  refine AR.callP h @tyV_eq (And.intro (@exL_id) (And.intro (@vaL_id) (And.intro (@exV_id) @vaV_id))) ?_
  refine go61x True.intro ?_
  refine w61x True.intro ?_
  refine Fin.gen0 (rs := [.cell 2 25]) rfl (by first | exact .inl rfl | exact .inr rfl) (by simp only [resX, resA, ↓accU_f, ↓reduceIte, SA, SB, SC, SD, T61, valG, fpsG, evO, evB, evA, evA1, nilK, eqF, eqC, apOk, intOf, slB, slK,  gd, St.ev, putA, ofl, wrl, putE, V.ofVal, V.ofCell, bin2, un1, seg, fillV, partsOk, Value.oneCell', Nat.reduceBEq, Nat.reduceLT, Nat.reduceSub, Nat.reduceAdd, Nat.reduceMul, Nat.reduceLeDiff, Nat.reduceEqDiff, reduceCtorEq, Int.reduceLT, Int.reduceLE, Int.reduceEq, Int.reduceNe, Int.reduceBEq, Int.reduceBNe, Int.reduceAdd, Int.reduceSub, Int.reduceMul, Int.reduceToNat]; with_reducible exact rfl) ?_
  simp only [tyV_mk, List.map_nil, List.map_cons]
  repeat (first | exact WkF.of (Wk.refl _) (by first | rfl | simp only [List.length_cons, List.length_nil, Nat.reduceAdd, V.ids, V.idsL, idsA, entOk, List.all_cons, List.all_nil, Bool.and_self, Bool.and_true, Bool.true_and, ltB, noId, Nat.reduceLT, decide_true, Bool.true_eq_false, tyV_id, fdV_id, tyL_id, fdL_id, exL_id, vaL_id, exV_id, vaV_id]) | exact WkF.of (Wk.ro _ _) (by first | rfl | simp only [List.length_cons, List.length_nil, Nat.reduceAdd, V.ids, V.idsL, idsA, entOk, List.all_cons, List.all_nil, Bool.and_self, Bool.and_true, Bool.true_and, ltB, noId, Nat.reduceLT, decide_true, Bool.true_eq_false, tyV_id, fdV_id, tyL_id, fdL_id, exL_id, vaL_id, exV_id, vaV_id]) | refine WkF.tu ?_ | refine WkF.ag ?_ | refine WkFL.cons ?_ ?_ | exact WkFL.nil)
/-- The pointer of the example: to a structure with an unsigned number at 8. -/
def ptS : Ty := .mk 0 5 0 0 [] [.mk 8 2 4 0 [] []]
def ptT : Ty := .mk 0 3 0 0 [ptS] []
theorem c_pointer : PC Try.prog 27 [] (tyV ptT) := by
  have h1 := c_Uint 4
  have h2 := c_Ptr ptS (by unfold fit; kernel_rfl)
  rw [tyV_mk] at h1
  simp only [ptS, tyV_mk, fdV_mk, List.map_nil, List.map_cons] at h2
  refine PC.enter 6 Try.func27 rfl (by decide) rfl rfl (s := []) (by rfl) ?_
  refine w27x True.intro ?_
  refine AR.callP h1 True.intro (And.intro (@exL_id) (And.intro (@vaL_id) (And.intro (@exV_id) @vaV_id))) ?_
  refine go27x True.intro ?_
  refine AR.callW h2 True.intro (And.intro (@exL_id) (And.intro (@vaL_id) (And.intro (@exV_id) @vaV_id))) ?_
  refine go27x True.intro ?_
  refine w27x True.intro ?_
  refine Fin.gen0 (rs := [.cell 0 25]) rfl (by first | exact .inl rfl | exact .inr rfl) (by simp only [resX, resA, ↓accU_f, ↓reduceIte, SA, SB, SC, SD, T27, valG, fpsG, evO, evB, evA, evA1, nilK, eqF, eqC, apOk, intOf, slB, slK,  gd, St.ev, putA, ofl, wrl, putE, V.ofVal, V.ofCell, bin2, un1, seg, fillV, partsOk, Value.oneCell', Nat.reduceBEq, Nat.reduceLT, Nat.reduceSub, Nat.reduceAdd, Nat.reduceMul, Nat.reduceLeDiff, Nat.reduceEqDiff, reduceCtorEq, Int.reduceLT, Int.reduceLE, Int.reduceEq, Int.reduceNe, Int.reduceBEq, Int.reduceBNe, Int.reduceAdd, Int.reduceSub, Int.reduceMul, Int.reduceToNat]; with_reducible exact rfl) ?_
  simp only [ptT, ptS, tyV_mk, fdV_mk, List.map_nil, List.map_cons]
  repeat (first | exact WkF.of (Wk.refl _) (by first | rfl | simp only [List.length_cons, List.length_nil, Nat.reduceAdd, V.ids, V.idsL, idsA, entOk, List.all_cons, List.all_nil, Bool.and_self, Bool.and_true, Bool.true_and, ltB, noId, Nat.reduceLT, decide_true, Bool.true_eq_false, tyV_id, fdV_id, tyL_id, fdL_id, exL_id, vaL_id, exV_id, vaV_id]) | exact WkF.of (Wk.ro _ _) (by first | rfl | simp only [List.length_cons, List.length_nil, Nat.reduceAdd, V.ids, V.idsL, idsA, entOk, List.all_cons, List.all_nil, Bool.and_self, Bool.and_true, Bool.true_and, ltB, noId, Nat.reduceLT, decide_true, Bool.true_eq_false, tyV_id, fdV_id, tyL_id, fdL_id, exL_id, vaL_id, exV_id, vaV_id]) | refine WkF.tu ?_ | refine WkF.ag ?_ | refine WkFL.cons ?_ ?_ | exact WkFL.nil)
/-- The example's load, through p and n. -/
def atE (n : Int) : Ex := .mk 18 0 .empty 4 [.mk 3 0 .empty 0 [.mk 2 0 ⟨#[112]⟩ 0 [], .mk 1 n .empty 0 []]]
theorem c_at (n : Int) : PC Try.prog 28 [.im (.int .u32 n)] (exV (atE n)) := by
  refine PC.enter 10 Try.func28 rfl (by decide) rfl rfl (s := [(0, .im (.int .u32 n))]) (by rfl) ?_
  refine w28x True.intro ?_
  refine Fin.gen0 (rs := [.cell 2 34]) rfl (by first | exact .inl rfl | exact .inr rfl) (by simp only [resX, resA, ↓accU_f, ↓reduceIte, SA, SB, SC, SD, T28, valG, fpsG, evO, evB, evA, evA1, nilK, eqF, eqC, apOk, intOf, slB, slK,  gd, St.ev, putA, ofl, wrl, putE, V.ofVal, V.ofCell, bin2, un1, seg, fillV, partsOk, Value.oneCell', Nat.reduceBEq, Nat.reduceLT, Nat.reduceSub, Nat.reduceAdd, Nat.reduceMul, Nat.reduceLeDiff, Nat.reduceEqDiff, reduceCtorEq, Int.reduceLT, Int.reduceLE, Int.reduceEq, Int.reduceNe, Int.reduceBEq, Int.reduceBNe, Int.reduceAdd, Int.reduceSub, Int.reduceMul, Int.reduceToNat]; with_reducible exact rfl) ?_
  simp only [atE, exV_mk, List.map_nil, List.map_cons]
  repeat (first | exact WkF.of (Wk.refl _) (by first | rfl | simp only [List.length_cons, List.length_nil, Nat.reduceAdd, V.ids, V.idsL, idsA, entOk, List.all_cons, List.all_nil, Bool.and_self, Bool.and_true, Bool.true_and, ltB, noId, Nat.reduceLT, decide_true, Bool.true_eq_false, tyV_id, fdV_id, tyL_id, fdL_id, exL_id, vaL_id, exV_id, vaV_id]) | exact WkF.of (Wk.ro _ _) (by first | rfl | simp only [List.length_cons, List.length_nil, Nat.reduceAdd, V.ids, V.idsL, idsA, entOk, List.all_cons, List.all_nil, Bool.and_self, Bool.and_true, Bool.true_and, ltB, noId, Nat.reduceLT, decide_true, Bool.true_eq_false, tyV_id, fdV_id, tyL_id, fdL_id, exL_id, vaL_id, exV_id, vaV_id]) | refine WkF.tu ?_ | refine WkF.ag ?_ | refine WkFL.cons ?_ ?_ | exact WkFL.nil)
  all_goals first | exact WkFL.nil | exact WkF.wk
end Go.Proofs.Ytfggemopnlffeaa

