/- Walks: the token of a word. -/
import Derived.Test.YtjilcaemoebloaaDoorHv
import Derived.Test.YtjilcaemoebloaaDoorT7
namespace Go.Proofs.YtjilcaemoebloaaDoor
set_option linter.unusedSimpArgs false
set_option linter.unusedVariables false
set_option linter.unnecessarySimpa false
open Go.RowKit
/-- What named gives. -/
def namR (w : Bs) : Tk × Bool := if isK w then (⟨2, w, 0, 0, 0⟩, true) else if w.head?.elim false isL then (⟨1, w, 0, 0, 0⟩, decide (w.length ≤ 32)) else (⟨3, [], (valR w).1, 0, 0⟩, (valR w).2)
theorem ltr_nat (c : UInt8) : ltr (c.toNat : Int) = isL c := ltr_isL c
theorem Y38_T8 : type_of% (And.intro @F_ag_30 (And.intro @F_al_30 (And.intro @F_in_21 (And.intro @F_in_5 (And.intro @F_st_30 (And.intro @F_sz_30 (And.intro @F_un_21 (And.intro @F_un_5 (@F_un_9))))))))) := And.intro @F_ag_30 (And.intro @F_al_30 (And.intro @F_in_21 (And.intro @F_in_5 (And.intro @F_st_30 (And.intro @F_sz_30 (And.intro @F_un_21 (And.intro @F_un_5 (@F_un_9))))))))
set_option maxHeartbeats 1000000 in
theorem c_named (w : Bs) (hw : w.length ≤ 4194304) (h0 : w ≠ []) (ha : ∀ c ∈ w, c.toNat < 128) : PC Tryd.prog 38 [.im (.string ⟨(w).toArray⟩)] (.tu [tkV (namR w).1, (.im (.bool ((namR w).2)))]) := by
  have hK := c_Keyword w hw
  cases w with
  | nil => exact absurd rfl h0
  | cons c r =>
  cases hx : isK (c :: r) with
  | true =>
    rw [hx] at hK
    rw [show namR (c :: r) = (⟨2, c :: r, 0, 0, 0⟩, true) by unfold namR; rw [hx]; rfl]
    refine PC.enter 29 Tryd.func38 rfl (by decide) rfl rfl (s := [(0, .im (.string ⟨(c :: r).toArray⟩))]) (by rfl) ?_
    refine wG Y38_T8 True.intro ?_
    refine AR.callP hK True.intro (And.intro byL_id tkV_id) ?_
    refine goG Y38_T8 True.intro ?_
    refine wG Y38_T8 True.intro ?_
    refine Fin.gen0 (rs := [.cell 2 30, .tmp 3]) rfl (by first | exact .inl rfl | exact .inr rfl) (by simp only [resX, resA, ↓accU_f, ↓reduceIte, SA, SB, SC, SD, Y38_T8, valG, fpsG, evO, evB, evA, evA1, nilK, eqF, eqC, apOk, intOf, slB, slK,  gd, St.ev, putA, ofl, wrl, putE, V.ofVal, V.ofCell, bin2, un1, seg, fillV, partsOk, Value.oneCell', Nat.reduceBEq, Nat.reduceLT, Nat.reduceSub, Nat.reduceAdd, Nat.reduceMul, Nat.reduceLeDiff, Nat.reduceEqDiff, reduceCtorEq, Int.reduceLT, Int.reduceLE, Int.reduceEq, Int.reduceNe, Int.reduceBEq, Int.reduceBNe, Int.reduceAdd, Int.reduceSub, Int.reduceMul, Int.reduceToNat]; with_reducible exact rfl) ?_
    repeat (first | exact WkF.of (Wk.refl _) (by first | rfl | simp only [List.length_cons, List.length_nil, Nat.reduceAdd, V.ids, V.idsL, idsA, entOk, List.all_cons, List.all_nil, Bool.and_self, Bool.and_true, Bool.true_and, ltB, noId, Nat.reduceLT, decide_true, Bool.true_eq_false, tyV_id, fdV_id, tyL_id, fdL_id, byL_id, tkV_id]) | exact WkF.of (Wk.ro _ _) (by first | rfl | simp only [List.length_cons, List.length_nil, Nat.reduceAdd, V.ids, V.idsL, idsA, entOk, List.all_cons, List.all_nil, Bool.and_self, Bool.and_true, Bool.true_and, ltB, noId, Nat.reduceLT, decide_true, Bool.true_eq_false, tyV_id, fdV_id, tyL_id, fdL_id, byL_id, tkV_id]) | refine WkF.tu ?_ | refine WkF.ag ?_ | refine WkFL.cons ?_ ?_ | exact WkFL.nil)
  | false =>
    rw [hx] at hK
    have hL := c_letter (c.toNat : Int)
    rw [ltr_nat] at hL
    have g0 : (c :: r)[0]? = some c := rfl
    have w32 : IntKind.i32.wrap (c.toNat : Int) = c.toNat := by
      have := c.toNat_lt
      exact IntWalk.i32_in _ (by omega)
    cases hl : isL c with
    | true =>
      rw [hl] at hL
      by_cases h32 : (c :: r).length ≤ 32
      · have e32 : ((r.length + 1 : Nat) : Int) ≤ 32 := by rw [List.length_cons] at h32; omega
        rw [show namR (c :: r) = (⟨1, c :: r, 0, 0, 0⟩, true) by unfold namR; rw [hx, if_neg (by decide), if_pos (show (c :: r).head?.elim false isL = true from hl), decide_eq_true h32]]
        refine PC.enter 29 Tryd.func38 rfl (by decide) rfl rfl (s := [(0, .im (.string ⟨(c :: r).toArray⟩))]) (by rfl) ?_
        refine wG Y38_T8 True.intro ?_
        refine AR.callP hK True.intro (And.intro byL_id tkV_id) ?_
        refine goG Y38_T8 True.intro ?_
        refine wG Y38_T8 (And.intro BY (And.intro g0 w32)) ?_
        refine AR.callP hL True.intro (And.intro byL_id tkV_id) ?_
        refine goG Y38_T8 True.intro ?_
        refine wG Y38_T8 (And.intro BY e32) ?_
        refine Fin.gen0 (rs := [.cell 2 30, .tmp 3]) rfl (by first | exact .inl rfl | exact .inr rfl) (by simp only [resX, resA, ↓accU_f, ↓reduceIte, SA, SB, SC, SD, Y38_T8, valG, fpsG, evO, evB, evA, evA1, nilK, eqF, eqC, apOk, intOf, slB, slK,  gd, St.ev, putA, ofl, wrl, putE, V.ofVal, V.ofCell, bin2, un1, seg, fillV, partsOk, Value.oneCell', Nat.reduceBEq, Nat.reduceLT, Nat.reduceSub, Nat.reduceAdd, Nat.reduceMul, Nat.reduceLeDiff, Nat.reduceEqDiff, reduceCtorEq, Int.reduceLT, Int.reduceLE, Int.reduceEq, Int.reduceNe, Int.reduceBEq, Int.reduceBNe, Int.reduceAdd, Int.reduceSub, Int.reduceMul, Int.reduceToNat]; with_reducible exact rfl) ?_
        repeat (first | exact WkF.of (Wk.refl _) (by first | rfl | simp only [List.length_cons, List.length_nil, Nat.reduceAdd, V.ids, V.idsL, idsA, entOk, List.all_cons, List.all_nil, Bool.and_self, Bool.and_true, Bool.true_and, ltB, noId, Nat.reduceLT, decide_true, Bool.true_eq_false, tyV_id, fdV_id, tyL_id, fdL_id, byL_id, tkV_id]) | exact WkF.of (Wk.ro _ _) (by first | rfl | simp only [List.length_cons, List.length_nil, Nat.reduceAdd, V.ids, V.idsL, idsA, entOk, List.all_cons, List.all_nil, Bool.and_self, Bool.and_true, Bool.true_and, ltB, noId, Nat.reduceLT, decide_true, Bool.true_eq_false, tyV_id, fdV_id, tyL_id, fdL_id, byL_id, tkV_id]) | refine WkF.tu ?_ | refine WkF.ag ?_ | refine WkFL.cons ?_ ?_ | exact WkFL.nil)
      · have e32 : ¬ ((r.length + 1 : Nat) : Int) ≤ 32 := by rw [List.length_cons] at h32; omega
        rw [show namR (c :: r) = (⟨1, c :: r, 0, 0, 0⟩, false) by unfold namR; rw [hx, if_neg (by decide), if_pos (show (c :: r).head?.elim false isL = true from hl), decide_eq_false h32]]
        refine PC.enter 29 Tryd.func38 rfl (by decide) rfl rfl (s := [(0, .im (.string ⟨(c :: r).toArray⟩))]) (by rfl) ?_
        refine wG Y38_T8 True.intro ?_
        refine AR.callP hK True.intro (And.intro byL_id tkV_id) ?_
        refine goG Y38_T8 True.intro ?_
        refine wG Y38_T8 (And.intro BY (And.intro g0 w32)) ?_
        refine AR.callP hL True.intro (And.intro byL_id tkV_id) ?_
        refine goG Y38_T8 True.intro ?_
        refine wG Y38_T8 (And.intro BY e32) ?_
        refine Fin.gen0 (rs := [.cell 2 30, .tmp 3]) rfl (by first | exact .inl rfl | exact .inr rfl) (by simp only [resX, resA, ↓accU_f, ↓reduceIte, SA, SB, SC, SD, Y38_T8, valG, fpsG, evO, evB, evA, evA1, nilK, eqF, eqC, apOk, intOf, slB, slK,  gd, St.ev, putA, ofl, wrl, putE, V.ofVal, V.ofCell, bin2, un1, seg, fillV, partsOk, Value.oneCell', Nat.reduceBEq, Nat.reduceLT, Nat.reduceSub, Nat.reduceAdd, Nat.reduceMul, Nat.reduceLeDiff, Nat.reduceEqDiff, reduceCtorEq, Int.reduceLT, Int.reduceLE, Int.reduceEq, Int.reduceNe, Int.reduceBEq, Int.reduceBNe, Int.reduceAdd, Int.reduceSub, Int.reduceMul, Int.reduceToNat]; with_reducible exact rfl) ?_
        repeat (first | exact WkF.of (Wk.refl _) (by first | rfl | simp only [List.length_cons, List.length_nil, Nat.reduceAdd, V.ids, V.idsL, idsA, entOk, List.all_cons, List.all_nil, Bool.and_self, Bool.and_true, Bool.true_and, ltB, noId, Nat.reduceLT, decide_true, Bool.true_eq_false, tyV_id, fdV_id, tyL_id, fdL_id, byL_id, tkV_id]) | exact WkF.of (Wk.ro _ _) (by first | rfl | simp only [List.length_cons, List.length_nil, Nat.reduceAdd, V.ids, V.idsL, idsA, entOk, List.all_cons, List.all_nil, Bool.and_self, Bool.and_true, Bool.true_and, ltB, noId, Nat.reduceLT, decide_true, Bool.true_eq_false, tyV_id, fdV_id, tyL_id, fdL_id, byL_id, tkV_id]) | refine WkF.tu ?_ | refine WkF.ag ?_ | refine WkFL.cons ?_ ?_ | exact WkFL.nil)
    | false =>
      rw [hl] at hL
      rw [show namR (c :: r) = (⟨3, [], (valR (c :: r)).1, 0, 0⟩, (valR (c :: r)).2) by unfold namR; rw [hx, if_neg (by decide), if_neg (show ¬ (c :: r).head?.elim false isL = true by rw [show (c :: r).head?.elim false isL = isL c from rfl, hl]; decide)]]
      have hV := c_value (c :: r) hw ha
      generalize valR (c :: r) = v at hV
      obtain ⟨n, b⟩ := v
      refine PC.enter 29 Tryd.func38 rfl (by decide) rfl rfl (s := [(0, .im (.string ⟨(c :: r).toArray⟩))]) (by rfl) ?_
      refine wG Y38_T8 True.intro ?_
      refine AR.callP hK True.intro (And.intro byL_id tkV_id) ?_
      refine goG Y38_T8 True.intro ?_
      refine wG Y38_T8 (And.intro BY (And.intro g0 w32)) ?_
      refine AR.callP hL True.intro (And.intro byL_id tkV_id) ?_
      refine goG Y38_T8 True.intro ?_
      refine wG Y38_T8 True.intro ?_
      refine AR.callP hV True.intro (And.intro byL_id tkV_id) ?_
      refine goG Y38_T8 True.intro ?_
      refine wG Y38_T8 True.intro ?_
      refine Fin.gen0 (rs := [.cell 2 30, .tmp 3]) rfl (by first | exact .inl rfl | exact .inr rfl) (by simp only [resX, resA, ↓accU_f, ↓reduceIte, SA, SB, SC, SD, Y38_T8, valG, fpsG, evO, evB, evA, evA1, nilK, eqF, eqC, apOk, intOf, slB, slK,  gd, St.ev, putA, ofl, wrl, putE, V.ofVal, V.ofCell, bin2, un1, seg, fillV, partsOk, Value.oneCell', Nat.reduceBEq, Nat.reduceLT, Nat.reduceSub, Nat.reduceAdd, Nat.reduceMul, Nat.reduceLeDiff, Nat.reduceEqDiff, reduceCtorEq, Int.reduceLT, Int.reduceLE, Int.reduceEq, Int.reduceNe, Int.reduceBEq, Int.reduceBNe, Int.reduceAdd, Int.reduceSub, Int.reduceMul, Int.reduceToNat]; with_reducible exact rfl) ?_
      repeat (first | exact WkF.of (Wk.refl _) (by first | rfl | simp only [List.length_cons, List.length_nil, Nat.reduceAdd, V.ids, V.idsL, idsA, entOk, List.all_cons, List.all_nil, Bool.and_self, Bool.and_true, Bool.true_and, ltB, noId, Nat.reduceLT, decide_true, Bool.true_eq_false, tyV_id, fdV_id, tyL_id, fdL_id, byL_id, tkV_id]) | exact WkF.of (Wk.ro _ _) (by first | rfl | simp only [List.length_cons, List.length_nil, Nat.reduceAdd, V.ids, V.idsL, idsA, entOk, List.all_cons, List.all_nil, Bool.and_self, Bool.and_true, Bool.true_and, ltB, noId, Nat.reduceLT, decide_true, Bool.true_eq_false, tyV_id, fdV_id, tyL_id, fdL_id, byL_id, tkV_id]) | refine WkF.tu ?_ | refine WkF.ag ?_ | refine WkFL.cons ?_ ?_ | exact WkFL.nil)
end Go.Proofs.YtjilcaemoebloaaDoor

