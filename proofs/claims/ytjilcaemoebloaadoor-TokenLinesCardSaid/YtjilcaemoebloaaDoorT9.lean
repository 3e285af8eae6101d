/- Walks: what stands behind a backslash. -/
import Derived.Test.YtjilcaemoebloaaDoorHv
import Derived.Test.YtjilcaemoebloaaDoorT8
namespace Go.Proofs.YtjilcaemoebloaaDoor
set_option linter.unusedSimpArgs false
set_option linter.unusedVariables false
set_option linter.unnecessarySimpa false
open Go.RowKit
/-- What escape gives: a byte and a length, or 0 and 0. -/
def escR (s : Bs) : UInt8 × Nat := match escP s with
  | some (c, n) => (c, n)
  | none => (0, 0)
theorem hexI_none {c : UInt8} (h : hexv c = none) : hexI c = -1 := by unfold hexI; rw [h]
theorem hexI_some {c : UInt8} {d : Nat} (h : hexv c = some d) : hexI c = d := by unfold hexI; rw [h]
theorem hexv_lt {c : UInt8} {d : Nat} (h : hexv c = some d) : d < 16 := by
  unfold hexv at h
  split at h
  · cases h; omega
  · split at h
    · cases h; omega
    · split at h
      · cases h; omega
      · cases h
theorem hex2 (x y : Nat) (hx : x < 16) (hy : y < 16) : IntKind.u8.wrap (IntKind.i64.wrap ↑(BitVec.ofInt IntKind.i64.bits (IntKind.i64.wrap ((x : Int) * 2 ^ min 4 IntKind.i64.bits)) ||| BitVec.ofInt IntKind.i64.bits (y : Int)).toNat) = ((UInt8.ofNat (16 * x + y)).toNat : Int) := by
  have := (show ∀ x : _root_.Fin 16, ∀ y : _root_.Fin 16, IntKind.u8.wrap (IntKind.i64.wrap ↑(BitVec.ofInt IntKind.i64.bits (IntKind.i64.wrap (((x : Nat) : Int) * 2 ^ min 4 IntKind.i64.bits)) ||| BitVec.ofInt IntKind.i64.bits ((y : Nat) : Int)).toNat) = ((UInt8.ofNat (16 * (x : Nat) + (y : Nat))).toNat : Int) by decide +kernel) ⟨x, hx⟩ ⟨y, hy⟩
  exact this
theorem Y58_T9 : type_of% (And.intro @F_in_3 (And.intro @F_in_5 (And.intro @F_un_3 (And.intro @F_un_5 (@F_un_9))))) := And.intro @F_in_3 (And.intro @F_in_5 (And.intro @F_un_3 (And.intro @F_un_5 (@F_un_9))))
set_option maxHeartbeats 1000000 in
theorem c_escape (s : Bs) (hs : s.length ≤ 4194304) : PC Tryd.prog 58 [.im (.string ⟨(s).toArray⟩)] (.tu [.im (.int .u8 (((escR s).1.toNat : Int))), (.im (.int .i64 (((escR s).2 : Int))))]) := by
  cases s with
  | nil =>
    rw [show escR [] = (0, 0) from rfl]
    have e0 : (([] : Bs) == []) = true := rfl
    have e3 : ¬ (((0 : Nat)) : Int) ≥ 3 := by decide
    have e4 : ¬ (0 : Int) ≥ 3 := by decide
    have e5 : ByteArray.size ⟨#[]⟩ = 0 := rfl
    refine PC.enter 49 Tryd.func58 rfl (by decide) rfl rfl (s := [(0, .im (.string ⟨(([] : Bs)).toArray⟩))]) (by rfl) ?_
    refine wG Y58_T9 (And.intro BY (And.intro e0 e3)) ?_
    refine wG Y58_T9 (And.intro e4 e5) ?_
    refine wG Y58_T9 True.intro ?_
    refine Fin.gen0 (rs := [.tmp 2, .tmp 3]) rfl (by first | exact .inl rfl | exact .inr rfl) (by simp only [resX, resA, ↓accU_f, ↓reduceIte, SA, SB, SC, SD, Y58_T9, valG, fpsG, evO, evB, evA, evA1, nilK, eqF, eqC, apOk, intOf, slB, slK,  gd, St.ev, putA, ofl, wrl, putE, V.ofVal, V.ofCell, bin2, un1, seg, fillV, partsOk, Value.oneCell', Nat.reduceBEq, Nat.reduceLT, Nat.reduceSub, Nat.reduceAdd, Nat.reduceMul, Nat.reduceLeDiff, Nat.reduceEqDiff, reduceCtorEq, Int.reduceLT, Int.reduceLE, Int.reduceEq, Int.reduceNe, Int.reduceBEq, Int.reduceBNe, Int.reduceAdd, Int.reduceSub, Int.reduceMul, Int.reduceToNat]; with_reducible exact rfl) ?_
    repeat (first | exact WkF.of (Wk.refl _) (by first | rfl | simp only [List.length_cons, List.length_nil, Nat.reduceAdd, V.ids, V.idsL, idsA, entOk, List.all_cons, List.all_nil, Bool.and_self, Bool.and_true, Bool.true_and, ltB, noId, Nat.reduceLT, decide_true, Bool.true_eq_false, tyV_id, fdV_id, tyL_id, fdL_id, byL_id]) | exact WkF.of (Wk.ro _ _) (by first | rfl | simp only [List.length_cons, List.length_nil, Nat.reduceAdd, V.ids, V.idsL, idsA, entOk, List.all_cons, List.all_nil, Bool.and_self, Bool.and_true, Bool.true_and, ltB, noId, Nat.reduceLT, decide_true, Bool.true_eq_false, tyV_id, fdV_id, tyL_id, fdL_id, byL_id]) | refine WkF.tu ?_ | refine WkF.ag ?_ | refine WkFL.cons ?_ ?_ | exact WkFL.nil)
  | cons c r =>
    have e0 : ((c :: r) == ([] : Bs)) = false := rfl
    have g0 : (c :: r)[0]? = some c := rfl
    by_cases h1 : c.toNat = 34
    · have e1 : (((34 : UInt8).toNat : Nat) : Int) = 34 := rfl
      rw [show escR (c :: r) = (c, 1) by simp [escR, escP, h1]]
      obtain rfl : c = 34 := toNat_inj h1
      refine PC.enter 49 Tryd.func58 rfl (by decide) rfl rfl (s := [(0, .im (.string ⟨((34 : UInt8) :: r).toArray⟩))]) (by rfl) ?_
      refine wG Y58_T9 (And.intro BY (And.intro e0 (And.intro g0 e1))) ?_
      refine Fin.gen0 (rs := [.tmp 2, .tmp 3]) rfl (by first | exact .inl rfl | exact .inr rfl) (by simp only [resX, resA, ↓accU_f, ↓reduceIte, SA, SB, SC, SD, Y58_T9, valG, fpsG, evO, evB, evA, evA1, nilK, eqF, eqC, apOk, intOf, slB, slK,  gd, St.ev, putA, ofl, wrl, putE, V.ofVal, V.ofCell, bin2, un1, seg, fillV, partsOk, Value.oneCell', Nat.reduceBEq, Nat.reduceLT, Nat.reduceSub, Nat.reduceAdd, Nat.reduceMul, Nat.reduceLeDiff, Nat.reduceEqDiff, reduceCtorEq, Int.reduceLT, Int.reduceLE, Int.reduceEq, Int.reduceNe, Int.reduceBEq, Int.reduceBNe, Int.reduceAdd, Int.reduceSub, Int.reduceMul, Int.reduceToNat]; with_reducible exact rfl) ?_
      repeat (first | exact WkF.of (Wk.refl _) (by first | rfl | simp only [List.length_cons, List.length_nil, Nat.reduceAdd, V.ids, V.idsL, idsA, entOk, List.all_cons, List.all_nil, Bool.and_self, Bool.and_true, Bool.true_and, ltB, noId, Nat.reduceLT, decide_true, Bool.true_eq_false, tyV_id, fdV_id, tyL_id, fdL_id, byL_id]) | exact WkF.of (Wk.ro _ _) (by first | rfl | simp only [List.length_cons, List.length_nil, Nat.reduceAdd, V.ids, V.idsL, idsA, entOk, List.all_cons, List.all_nil, Bool.and_self, Bool.and_true, Bool.true_and, ltB, noId, Nat.reduceLT, decide_true, Bool.true_eq_false, tyV_id, fdV_id, tyL_id, fdL_id, byL_id]) | refine WkF.tu ?_ | refine WkF.ag ?_ | refine WkFL.cons ?_ ?_ | exact WkFL.nil)
    have e1 : ¬ (c.toNat : Int) = 34 := by omega
    by_cases h2 : c.toNat = 92
    · have e2 : (((92 : UInt8).toNat : Nat) : Int) = 92 := rfl
      rw [show escR (c :: r) = (c, 1) by simp [escR, escP, h2]]
      obtain rfl : c = 92 := toNat_inj h2
      refine PC.enter 49 Tryd.func58 rfl (by decide) rfl rfl (s := [(0, .im (.string ⟨((92 : UInt8) :: r).toArray⟩))]) (by rfl) ?_
      refine wG Y58_T9 (And.intro BY (And.intro e0 (And.intro g0 (And.intro e1 e2)))) ?_
      refine Fin.gen0 (rs := [.tmp 2, .tmp 3]) rfl (by first | exact .inl rfl | exact .inr rfl) (by simp only [resX, resA, ↓accU_f, ↓reduceIte, SA, SB, SC, SD, Y58_T9, valG, fpsG, evO, evB, evA, evA1, nilK, eqF, eqC, apOk, intOf, slB, slK,  gd, St.ev, putA, ofl, wrl, putE, V.ofVal, V.ofCell, bin2, un1, seg, fillV, partsOk, Value.oneCell', Nat.reduceBEq, Nat.reduceLT, Nat.reduceSub, Nat.reduceAdd, Nat.reduceMul, Nat.reduceLeDiff, Nat.reduceEqDiff, reduceCtorEq, Int.reduceLT, Int.reduceLE, Int.reduceEq, Int.reduceNe, Int.reduceBEq, Int.reduceBNe, Int.reduceAdd, Int.reduceSub, Int.reduceMul, Int.reduceToNat]; with_reducible exact rfl) ?_
      repeat (first | exact WkF.of (Wk.refl _) (by first | rfl | simp only [List.length_cons, List.length_nil, Nat.reduceAdd, V.ids, V.idsL, idsA, entOk, List.all_cons, List.all_nil, Bool.and_self, Bool.and_true, Bool.true_and, ltB, noId, Nat.reduceLT, decide_true, Bool.true_eq_false, tyV_id, fdV_id, tyL_id, fdL_id, byL_id]) | exact WkF.of (Wk.ro _ _) (by first | rfl | simp only [List.length_cons, List.length_nil, Nat.reduceAdd, V.ids, V.idsL, idsA, entOk, List.all_cons, List.all_nil, Bool.and_self, Bool.and_true, Bool.true_and, ltB, noId, Nat.reduceLT, decide_true, Bool.true_eq_false, tyV_id, fdV_id, tyL_id, fdL_id, byL_id]) | refine WkF.tu ?_ | refine WkF.ag ?_ | refine WkFL.cons ?_ ?_ | exact WkFL.nil)
    have e2 : ¬ (c.toNat : Int) = 92 := by omega
    by_cases h3 : c.toNat = 120
    case neg =>
      have e3 : ¬ (c.toNat : Int) = 120 := by omega
      rw [show escR (c :: r) = (0, 0) by simp [escR, escP, h1, h2, h3]]
      by_cases hl : 2 ≤ r.length
      · have el : ((r.length + 1 : Nat) : Int) ≥ 3 := by omega
        refine PC.enter 49 Tryd.func58 rfl (by decide) rfl rfl (s := [(0, .im (.string ⟨(c :: r).toArray⟩))]) (by rfl) ?_
        refine wG Y58_T9 (And.intro BY (And.intro e0 (And.intro g0 (And.intro e1 (And.intro e2 (And.intro e3 el)))))) ?_
        refine Fin.gen0 (rs := [.tmp 2, .tmp 3]) rfl (by first | exact .inl rfl | exact .inr rfl) (by simp only [resX, resA, ↓accU_f, ↓reduceIte, SA, SB, SC, SD, Y58_T9, valG, fpsG, evO, evB, evA, evA1, nilK, eqF, eqC, apOk, intOf, slB, slK,  gd, St.ev, putA, ofl, wrl, putE, V.ofVal, V.ofCell, bin2, un1, seg, fillV, partsOk, Value.oneCell', Nat.reduceBEq, Nat.reduceLT, Nat.reduceSub, Nat.reduceAdd, Nat.reduceMul, Nat.reduceLeDiff, Nat.reduceEqDiff, reduceCtorEq, Int.reduceLT, Int.reduceLE, Int.reduceEq, Int.reduceNe, Int.reduceBEq, Int.reduceBNe, Int.reduceAdd, Int.reduceSub, Int.reduceMul, Int.reduceToNat]; with_reducible exact rfl) ?_
        repeat (first | exact WkF.of (Wk.refl _) (by first | rfl | simp only [List.length_cons, List.length_nil, Nat.reduceAdd, V.ids, V.idsL, idsA, entOk, List.all_cons, List.all_nil, Bool.and_self, Bool.and_true, Bool.true_and, ltB, noId, Nat.reduceLT, decide_true, Bool.true_eq_false, tyV_id, fdV_id, tyL_id, fdL_id, byL_id]) | exact WkF.of (Wk.ro _ _) (by first | rfl | simp only [List.length_cons, List.length_nil, Nat.reduceAdd, V.ids, V.idsL, idsA, entOk, List.all_cons, List.all_nil, Bool.and_self, Bool.and_true, Bool.true_and, ltB, noId, Nat.reduceLT, decide_true, Bool.true_eq_false, tyV_id, fdV_id, tyL_id, fdL_id, byL_id]) | refine WkF.tu ?_ | refine WkF.ag ?_ | refine WkFL.cons ?_ ?_ | exact WkFL.nil)
      · have el : ¬ ((r.length + 1 : Nat) : Int) ≥ 3 := by omega
        refine PC.enter 49 Tryd.func58 rfl (by decide) rfl rfl (s := [(0, .im (.string ⟨(c :: r).toArray⟩))]) (by rfl) ?_
        refine wG Y58_T9 (And.intro BY (And.intro e0 (And.intro g0 (And.intro e1 (And.intro e2 (And.intro e3 el)))))) ?_
        refine Fin.gen0 (rs := [.tmp 2, .tmp 3]) rfl (by first | exact .inl rfl | exact .inr rfl) (by simp only [resX, resA, ↓accU_f, ↓reduceIte, SA, SB, SC, SD, Y58_T9, valG, fpsG, evO, evB, evA, evA1, nilK, eqF, eqC, apOk, intOf, slB, slK,  gd, St.ev, putA, ofl, wrl, putE, V.ofVal, V.ofCell, bin2, un1, seg, fillV, partsOk, Value.oneCell', Nat.reduceBEq, Nat.reduceLT, Nat.reduceSub, Nat.reduceAdd, Nat.reduceMul, Nat.reduceLeDiff, Nat.reduceEqDiff, reduceCtorEq, Int.reduceLT, Int.reduceLE, Int.reduceEq, Int.reduceNe, Int.reduceBEq, Int.reduceBNe, Int.reduceAdd, Int.reduceSub, Int.reduceMul, Int.reduceToNat]; with_reducible exact rfl) ?_
        repeat (first | exact WkF.of (Wk.refl _) (by first | rfl | simp only [List.length_cons, List.length_nil, Nat.reduceAdd, V.ids, V.idsL, idsA, entOk, List.all_cons, List.all_nil, Bool.and_self, Bool.and_true, Bool.true_and, ltB, noId, Nat.reduceLT, decide_true, Bool.true_eq_false, tyV_id, fdV_id, tyL_id, fdL_id, byL_id]) | exact WkF.of (Wk.ro _ _) (by first | rfl | simp only [List.length_cons, List.length_nil, Nat.reduceAdd, V.ids, V.idsL, idsA, entOk, List.all_cons, List.all_nil, Bool.and_self, Bool.and_true, Bool.true_and, ltB, noId, Nat.reduceLT, decide_true, Bool.true_eq_false, tyV_id, fdV_id, tyL_id, fdL_id, byL_id]) | refine WkF.tu ?_ | refine WkF.ag ?_ | refine WkFL.cons ?_ ?_ | exact WkFL.nil)
    have e3 : (c.toNat : Int) = 120 := by omega
    have hR : escP (c :: r) = escX r := by simp [escP, h1, h2, h3]
    by_cases hl : 2 ≤ r.length
    case neg =>
      have el : ¬ ((r.length + 1 : Nat) : Int) ≥ 3 := by omega
      rw [show escR (c :: r) = (0, 0) by
        unfold escR
        rw [hR]
        match r with
        | [] => rfl
        | [_] => rfl
        | _ :: _ :: _ => simp at hl]
      refine PC.enter 49 Tryd.func58 rfl (by decide) rfl rfl (s := [(0, .im (.string ⟨(c :: r).toArray⟩))]) (by rfl) ?_
      refine wG Y58_T9 (And.intro BY (And.intro e0 (And.intro g0 (And.intro e1 (And.intro e2 (And.intro e3 el)))))) ?_
      refine Fin.gen0 (rs := [.tmp 2, .tmp 3]) rfl (by first | exact .inl rfl | exact .inr rfl) (by simp only [resX, resA, ↓accU_f, ↓reduceIte, SA, SB, SC, SD, Y58_T9, valG, fpsG, evO, evB, evA, evA1, nilK, eqF, eqC, apOk, intOf, slB, slK,  gd, St.ev, putA, ofl, wrl, putE, V.ofVal, V.ofCell, bin2, un1, seg, fillV, partsOk, Value.oneCell', Nat.reduceBEq, Nat.reduceLT, Nat.reduceSub, Nat.reduceAdd, Nat.reduceMul, Nat.reduceLeDiff, Nat.reduceEqDiff, reduceCtorEq, Int.reduceLT, Int.reduceLE, Int.reduceEq, Int.reduceNe, Int.reduceBEq, Int.reduceBNe, Int.reduceAdd, Int.reduceSub, Int.reduceMul, Int.reduceToNat]; with_reducible exact rfl) ?_
      repeat (first | exact WkF.of (Wk.refl _) (by first | rfl | simp only [List.length_cons, List.length_nil, Nat.reduceAdd, V.ids, V.idsL, idsA, entOk, List.all_cons, List.all_nil, Bool.and_self, Bool.and_true, Bool.true_and, ltB, noId, Nat.reduceLT, decide_true, Bool.true_eq_false, tyV_id, fdV_id, tyL_id, fdL_id, byL_id]) | exact WkF.of (Wk.ro _ _) (by first | rfl | simp only [List.length_cons, List.length_nil, Nat.reduceAdd, V.ids, V.idsL, idsA, entOk, List.all_cons, List.all_nil, Bool.and_self, Bool.and_true, Bool.true_and, ltB, noId, Nat.reduceLT, decide_true, Bool.true_eq_false, tyV_id, fdV_id, tyL_id, fdL_id, byL_id]) | refine WkF.tu ?_ | refine WkF.ag ?_ | refine WkFL.cons ?_ ?_ | exact WkFL.nil)
    match r with
    | [] => simp at hl
    | [_] => simp at hl
    | a :: b :: t =>
    have el : ((t.length + 1 + 1 + 1 : Nat) : Int) ≥ 3 := by omega
    have g1 : (c :: a :: b :: t)[1]? = some a := rfl
    have g2 : (c :: a :: b :: t)[2]? = some b := rfl
    have q1 := c_hexDigit a
    have q2 := c_hexDigit b
    cases ha : hexv a with
    | none =>
      rw [hexI_none ha] at q1
      rw [show escR (c :: a :: b :: t) = (0, 0) by simp [escR, hR, escX, ha]]
      have f1 : ¬ (-1 : Int) ≥ 0 := by decide
      refine PC.enter 49 Tryd.func58 rfl (by decide) rfl rfl (s := [(0, .im (.string ⟨(c :: a :: b :: t).toArray⟩))]) (by rfl) ?_
      refine wG Y58_T9 (And.intro BY (And.intro e0 (And.intro g0 (And.intro e1 (And.intro e2 (And.intro e3 (And.intro el g1))))))) ?_
      refine AR.callP q1 True.intro byL_id ?_
      refine goG Y58_T9 f1 ?_
      refine wG Y58_T9 f1 ?_
      refine Fin.gen0 (rs := [.tmp 2, .tmp 3]) rfl (by first | exact .inl rfl | exact .inr rfl) (by simp only [resX, resA, ↓accU_f, ↓reduceIte, SA, SB, SC, SD, Y58_T9, valG, fpsG, evO, evB, evA, evA1, nilK, eqF, eqC, apOk, intOf, slB, slK,  gd, St.ev, putA, ofl, wrl, putE, V.ofVal, V.ofCell, bin2, un1, seg, fillV, partsOk, Value.oneCell', Nat.reduceBEq, Nat.reduceLT, Nat.reduceSub, Nat.reduceAdd, Nat.reduceMul, Nat.reduceLeDiff, Nat.reduceEqDiff, reduceCtorEq, Int.reduceLT, Int.reduceLE, Int.reduceEq, Int.reduceNe, Int.reduceBEq, Int.reduceBNe, Int.reduceAdd, Int.reduceSub, Int.reduceMul, Int.reduceToNat]; with_reducible exact rfl) ?_
      repeat (first | exact WkF.of (Wk.refl _) (by first | rfl | simp only [List.length_cons, List.length_nil, Nat.reduceAdd, V.ids, V.idsL, idsA, entOk, List.all_cons, List.all_nil, Bool.and_self, Bool.and_true, Bool.true_and, ltB, noId, Nat.reduceLT, decide_true, Bool.true_eq_false, tyV_id, fdV_id, tyL_id, fdL_id, byL_id]) | exact WkF.of (Wk.ro _ _) (by first | rfl | simp only [List.length_cons, List.length_nil, Nat.reduceAdd, V.ids, V.idsL, idsA, entOk, List.all_cons, List.all_nil, Bool.and_self, Bool.and_true, Bool.true_and, ltB, noId, Nat.reduceLT, decide_true, Bool.true_eq_false, tyV_id, fdV_id, tyL_id, fdL_id, byL_id]) | refine WkF.tu ?_ | refine WkF.ag ?_ | refine WkFL.cons ?_ ?_ | exact WkFL.nil)
    | some x =>
    rw [hexI_some ha] at q1
    have hx := hexv_lt ha
    have f1 : (x : Int) ≥ 0 := by omega
    cases hb : hexv b with
    | none =>
      rw [hexI_none hb] at q2
      rw [show escR (c :: a :: b :: t) = (0, 0) by simp [escR, hR, escX, ha, hb]]
      have f2 : ¬ (-1 : Int) ≥ 0 := by decide
      refine PC.enter 49 Tryd.func58 rfl (by decide) rfl rfl (s := [(0, .im (.string ⟨(c :: a :: b :: t).toArray⟩))]) (by rfl) ?_
      refine wG Y58_T9 (And.intro BY (And.intro e0 (And.intro g0 (And.intro e1 (And.intro e2 (And.intro e3 (And.intro el g1))))))) ?_
      refine AR.callP q1 True.intro byL_id ?_
      refine goG Y58_T9 (And.intro BY (And.intro f1 g2)) ?_
      refine AR.callP q2 True.intro byL_id ?_
      refine goG Y58_T9 f2 ?_
      refine wG Y58_T9 f2 ?_
      refine Fin.gen0 (rs := [.tmp 2, .tmp 3]) rfl (by first | exact .inl rfl | exact .inr rfl) (by simp only [resX, resA, ↓accU_f, ↓reduceIte, SA, SB, SC, SD, Y58_T9, valG, fpsG, evO, evB, evA, evA1, nilK, eqF, eqC, apOk, intOf, slB, slK,  gd, St.ev, putA, ofl, wrl, putE, V.ofVal, V.ofCell, bin2, un1, seg, fillV, partsOk, Value.oneCell', Nat.reduceBEq, Nat.reduceLT, Nat.reduceSub, Nat.reduceAdd, Nat.reduceMul, Nat.reduceLeDiff, Nat.reduceEqDiff, reduceCtorEq, Int.reduceLT, Int.reduceLE, Int.reduceEq, Int.reduceNe, Int.reduceBEq, Int.reduceBNe, Int.reduceAdd, Int.reduceSub, Int.reduceMul, Int.reduceToNat]; with_reducible exact rfl) ?_
      repeat (first | exact WkF.of (Wk.refl _) (by first | rfl | simp only [List.length_cons, List.length_nil, Nat.reduceAdd, V.ids, V.idsL, idsA, entOk, List.all_cons, List.all_nil, Bool.and_self, Bool.and_true, Bool.true_and, ltB, noId, Nat.reduceLT, decide_true, Bool.true_eq_false, tyV_id, fdV_id, tyL_id, fdL_id, byL_id]) | exact WkF.of (Wk.ro _ _) (by first | rfl | simp only [List.length_cons, List.length_nil, Nat.reduceAdd, V.ids, V.idsL, idsA, entOk, List.all_cons, List.all_nil, Bool.and_self, Bool.and_true, Bool.true_and, ltB, noId, Nat.reduceLT, decide_true, Bool.true_eq_false, tyV_id, fdV_id, tyL_id, fdL_id, byL_id]) | refine WkF.tu ?_ | refine WkF.ag ?_ | refine WkFL.cons ?_ ?_ | exact WkFL.nil)
    | some y =>
      rw [hexI_some hb] at q2
      have hy := hexv_lt hb
      have f2 : (y : Int) ≥ 0 := by omega
      have f3 := hex2 x y hx hy
      rw [show escR (c :: a :: b :: t) = (UInt8.ofNat (16 * x + y), 3) by simp [escR, hR, escX, ha, hb]]
      refine PC.enter 49 Tryd.func58 rfl (by decide) rfl rfl (s := [(0, .im (.string ⟨(c :: a :: b :: t).toArray⟩))]) (by rfl) ?_
      refine wG Y58_T9 (And.intro BY (And.intro e0 (And.intro g0 (And.intro e1 (And.intro e2 (And.intro e3 (And.intro el g1))))))) ?_
      refine AR.callP q1 True.intro byL_id ?_
      refine goG Y58_T9 (And.intro BY (And.intro f1 g2)) ?_
      refine AR.callP q2 True.intro byL_id ?_
      refine goG Y58_T9 f2 ?_
      refine wG Y58_T9 f2 ?_
      refine wdG Y58_T9 (And.intro BY g1) ?_
      refine AR.callP q1 True.intro byL_id ?_
      refine goG Y58_T9 (And.intro BY g2) ?_
      refine AR.callP q2 True.intro byL_id ?_
      refine goG Y58_T9 f3 ?_
      refine wdG Y58_T9 True.intro ?_
      refine Fin.gen0 (rs := [.tmp 2, .tmp 3]) rfl (by first | exact .inl rfl | exact .inr rfl) (by simp only [resX, resA, ↓accU_f, ↓reduceIte, SA, SB, SC, SD, Y58_T9, valG, fpsG, evO, evB, evA, evA1, nilK, eqF, eqC, apOk, intOf, slB, slK,  gd, St.ev, putA, ofl, wrl, putE, V.ofVal, V.ofCell, bin2, un1, seg, fillV, partsOk, Value.oneCell', Nat.reduceBEq, Nat.reduceLT, Nat.reduceSub, Nat.reduceAdd, Nat.reduceMul, Nat.reduceLeDiff, Nat.reduceEqDiff, reduceCtorEq, Int.reduceLT, Int.reduceLE, Int.reduceEq, Int.reduceNe, Int.reduceBEq, Int.reduceBNe, Int.reduceAdd, Int.reduceSub, Int.reduceMul, Int.reduceToNat]; with_reducible exact rfl) ?_
      repeat (first | exact WkF.of (Wk.refl _) (by first | rfl | simp only [List.length_cons, List.length_nil, Nat.reduceAdd, V.ids, V.idsL, idsA, entOk, List.all_cons, List.all_nil, Bool.and_self, Bool.and_true, Bool.true_and, ltB, noId, Nat.reduceLT, decide_true, Bool.true_eq_false, tyV_id, fdV_id, tyL_id, fdL_id, byL_id]) | exact WkF.of (Wk.ro _ _) (by first | rfl | simp only [List.length_cons, List.length_nil, Nat.reduceAdd, V.ids, V.idsL, idsA, entOk, List.all_cons, List.all_nil, Bool.and_self, Bool.and_true, Bool.true_and, ltB, noId, Nat.reduceLT, decide_true, Bool.true_eq_false, tyV_id, fdV_id, tyL_id, fdL_id, byL_id]) | refine WkF.tu ?_ | refine WkF.ag ?_ | refine WkFL.cons ?_ ?_ | exact WkFL.nil)
end Go.Proofs.YtjilcaemoebloaaDoor

