/- Walks: numbers; sequences behind a backslash. -/
import Derived.Test.YtjilcaemoebloaaDoorHv
import Derived.Test.YtjilcaemoebloaaDoorT6
namespace Go.Proofs.YtjilcaemoebloaaDoor
set_option linter.unusedSimpArgs false
set_option linter.unusedVariables false
set_option linter.unnecessarySimpa false
open Go.RowKit
theorem puF_le (b : Nat) (s : Bs) : ∀ a, a ≤ 4294967295 → (puF b a s).1 ≤ 4294967295 := by
  induction s with
  | nil => intro a h; exact h
  | cons c r ih =>
    intro a h
    unfold puF
    split
    · exact Nat.zero_le _
    · split
      · exact Nat.zero_le _
      · split
        · exact Nat.le_refl _
        · exact ih _ (by omega)
theorem puR_le (b : Nat) (s : Bs) : (puR b s).1 ≤ 4294967295 := by
  unfold puR
  split
  · exact Nat.zero_le _
  · exact puF_le b s 0 (Nat.zero_le _)
/-- What value gives: a number, and whether it counts. -/
def valR (w : Bs) : Nat × Bool :=
  if pre [48, 120] w then ((puR 16 (w.drop 2)).1, decide ((puR 16 (w.drop 2)).2 = 0) && (decide ((w.drop 2).length ≤ 8) && !Lib.containsAny (w.drop 2) [95, 43, 45]))
  else ((puR 10 w).1, decide ((puR 10 w).2 = 0) && ((w == [48] || decide (w.head? ≠ some 48)) && !Lib.containsAny w [95, 43, 45]))
theorem u32_le {n : Nat} (h : n ≤ 4294967295) : IntKind.u32.wrap (n : Int) = n := IntWalk.u32_in _ (by omega)
theorem cutP_true {p s : Bs} (h : pre p s = true) : cutP p s = s.drop p.length := if_pos h
theorem cutP_false {p s : Bs} (h : pre p s = false) : cutP p s = s := by unfold cutP; rw [h]; rfl
theorem Y57_T7 : type_of% (And.intro @F_in_28 (And.intro @F_in_74 (And.intro @F_un_28 (And.intro @F_un_74 (@F_un_9))))) := And.intro @F_in_28 (And.intro @F_in_74 (And.intro @F_un_28 (And.intro @F_un_74 (@F_un_9))))
set_option maxHeartbeats 1000000 in
theorem c_value (w : Bs) (hw : w.length ≤ 4194304) (ha : ∀ c ∈ w, c.toNat < 128) : PC Tryd.prog 57 [.im (.string ⟨(w).toArray⟩)] (.tu [.im (.int .u32 (((valR w).1 : Int))), (.im (.bool ((valR w).2)))]) := by
  have hp := c_cutPre w [48, 120]
  cases hx : pre [48, 120] w with
  | true =>
    rw [hx, cutP_true hx, show List.length ([48, 120] : Bs) = 2 from rfl] at hp
    obtain ⟨x, ex⟩ : ∃ x, w.drop 2 = x := ⟨_, rfl⟩
    have hxl : x.length ≤ 4194304 := by rw [← ex, List.length_drop]; omega
    have hxa : ∀ c ∈ x, c.toNat < 128 := fun c hc => ha c (List.mem_of_mem_drop (ex ▸ hc))
    have hv : valR w = ((puR 16 x).1, decide ((puR 16 x).2 = 0) && (decide (x.length ≤ 8) && !Lib.containsAny x [95, 43, 45])) := by
      unfold valR; rw [hx, if_pos rfl, ex]
    have hq := c_ps16 x hxl
    have hn := puR_le 16 x
    have hc := c_containsAny x hxl hxa
    rw [ex] at hp
    generalize puR 16 x = nk at hq hn hv
    obtain ⟨n, k⟩ := nk
    have hwr := u32_le hn
    simp only at hq hwr hv
    rw [hv]
    generalize Lib.containsAny x [95, 43, 45] = b at hc
    refine PC.enter 58 Tryd.func57 rfl (by decide) rfl rfl (s := [(0, .im (.string ⟨(w).toArray⟩))]) (by rfl) ?_
    refine wG Y57_T7 True.intro ?_
    refine AR.callP hp True.intro byL_id ?_
    refine goG Y57_T7 True.intro ?_
    refine wG Y57_T7 True.intro ?_
    refine AR.callP hq True.intro byL_id ?_
    by_cases hk : k = 0
    · subst hk
      rw [show errW 0 = .im .nilIface from rfl]
      refine goG Y57_T7 True.intro ?_
      refine wG Y57_T7 hwr ?_
      refine AR.eqI true ?_
      by_cases h8 : x.length ≤ 8
      · have h8i : (x.length : Int) ≤ 8 := by omega
        refine goG Y57_T7 (And.intro h8i bS_size) ?_
        refine AR.callP hc True.intro byL_id ?_
        refine goG Y57_T7 True.intro ?_
        rw [show (decide ((0 : Int) = 0) && (decide (x.length ≤ 8) && !b)) = !b by simp [h8]]
        refine wG Y57_T7 True.intro ?_
        refine Fin.gen0 (rs := [.tmp 2, .tmp 3]) rfl (by first | exact .inl rfl | exact .inr rfl) (by simp only [resX, resA, ↓accU_f, ↓reduceIte, SA, SB, SC, SD, Y57_T7, valG, fpsG, evO, evB, evA, evA1, nilK, eqF, eqC, apOk, intOf, slB, slK,  gd, St.ev, putA, ofl, wrl, putE, V.ofVal, V.ofCell, bin2, un1, seg, fillV, partsOk, Value.oneCell', Nat.reduceBEq, Nat.reduceLT, Nat.reduceSub, Nat.reduceAdd, Nat.reduceMul, Nat.reduceLeDiff, Nat.reduceEqDiff, reduceCtorEq, Int.reduceLT, Int.reduceLE, Int.reduceEq, Int.reduceNe, Int.reduceBEq, Int.reduceBNe, Int.reduceAdd, Int.reduceSub, Int.reduceMul, Int.reduceToNat]; with_reducible exact rfl) ?_
        repeat (first | exact WkF.of (Wk.refl _) (by first | rfl | simp only [List.length_cons, List.length_nil, Nat.reduceAdd, V.ids, V.idsL, idsA, entOk, List.all_cons, List.all_nil, Bool.and_self, Bool.and_true, Bool.true_and, ltB, noId, Nat.reduceLT, decide_true, Bool.true_eq_false, tyV_id, fdV_id, tyL_id, fdL_id, byL_id]) | exact WkF.of (Wk.ro _ _) (by first | rfl | simp only [List.length_cons, List.length_nil, Nat.reduceAdd, V.ids, V.idsL, idsA, entOk, List.all_cons, List.all_nil, Bool.and_self, Bool.and_true, Bool.true_and, ltB, noId, Nat.reduceLT, decide_true, Bool.true_eq_false, tyV_id, fdV_id, tyL_id, fdL_id, byL_id]) | refine WkF.tu ?_ | refine WkF.ag ?_ | refine WkFL.cons ?_ ?_ | exact WkFL.nil)
      · have h8i : ¬ (x.length : Int) ≤ 8 := by omega
        refine goG Y57_T7 (And.intro h8i bS_size) ?_
        rw [show (decide ((0 : Int) = 0) && (decide (x.length ≤ 8) && !b)) = false by simp [h8]]
        refine wG Y57_T7 True.intro ?_
        refine Fin.gen0 (rs := [.tmp 2, .tmp 3]) rfl (by first | exact .inl rfl | exact .inr rfl) (by simp only [resX, resA, ↓accU_f, ↓reduceIte, SA, SB, SC, SD, Y57_T7, valG, fpsG, evO, evB, evA, evA1, nilK, eqF, eqC, apOk, intOf, slB, slK,  gd, St.ev, putA, ofl, wrl, putE, V.ofVal, V.ofCell, bin2, un1, seg, fillV, partsOk, Value.oneCell', Nat.reduceBEq, Nat.reduceLT, Nat.reduceSub, Nat.reduceAdd, Nat.reduceMul, Nat.reduceLeDiff, Nat.reduceEqDiff, reduceCtorEq, Int.reduceLT, Int.reduceLE, Int.reduceEq, Int.reduceNe, Int.reduceBEq, Int.reduceBNe, Int.reduceAdd, Int.reduceSub, Int.reduceMul, Int.reduceToNat]; with_reducible exact rfl) ?_
        repeat (first | exact WkF.of (Wk.refl _) (by first | rfl | simp only [List.length_cons, List.length_nil, Nat.reduceAdd, V.ids, V.idsL, idsA, entOk, List.all_cons, List.all_nil, Bool.and_self, Bool.and_true, Bool.true_and, ltB, noId, Nat.reduceLT, decide_true, Bool.true_eq_false, tyV_id, fdV_id, tyL_id, fdL_id, byL_id]) | exact WkF.of (Wk.ro _ _) (by first | rfl | simp only [List.length_cons, List.length_nil, Nat.reduceAdd, V.ids, V.idsL, idsA, entOk, List.all_cons, List.all_nil, Bool.and_self, Bool.and_true, Bool.true_and, ltB, noId, Nat.reduceLT, decide_true, Bool.true_eq_false, tyV_id, fdV_id, tyL_id, fdL_id, byL_id]) | refine WkF.tu ?_ | refine WkF.ag ?_ | refine WkFL.cons ?_ ?_ | exact WkFL.nil)
    · rw [show errW k = .ifc from if_neg hk]
      refine goG Y57_T7 True.intro ?_
      refine wG Y57_T7 hwr ?_
      refine AR.eqI false ?_
      refine goG Y57_T7 True.intro ?_
      rw [show (decide (k = 0) && (decide (x.length ≤ 8) && !b)) = false by simp [hk]]
      refine wG Y57_T7 True.intro ?_
      refine Fin.gen0 (rs := [.tmp 2, .tmp 3]) rfl (by first | exact .inl rfl | exact .inr rfl) (by simp only [resX, resA, ↓accU_f, ↓reduceIte, SA, SB, SC, SD, Y57_T7, valG, fpsG, evO, evB, evA, evA1, nilK, eqF, eqC, apOk, intOf, slB, slK,  gd, St.ev, putA, ofl, wrl, putE, V.ofVal, V.ofCell, bin2, un1, seg, fillV, partsOk, Value.oneCell', Nat.reduceBEq, Nat.reduceLT, Nat.reduceSub, Nat.reduceAdd, Nat.reduceMul, Nat.reduceLeDiff, Nat.reduceEqDiff, reduceCtorEq, Int.reduceLT, Int.reduceLE, Int.reduceEq, Int.reduceNe, Int.reduceBEq, Int.reduceBNe, Int.reduceAdd, Int.reduceSub, Int.reduceMul, Int.reduceToNat]; with_reducible exact rfl) ?_
      repeat (first | exact WkF.of (Wk.refl _) (by first | rfl | simp only [List.length_cons, List.length_nil, Nat.reduceAdd, V.ids, V.idsL, idsA, entOk, List.all_cons, List.all_nil, Bool.and_self, Bool.and_true, Bool.true_and, ltB, noId, Nat.reduceLT, decide_true, Bool.true_eq_false, tyV_id, fdV_id, tyL_id, fdL_id, byL_id]) | exact WkF.of (Wk.ro _ _) (by first | rfl | simp only [List.length_cons, List.length_nil, Nat.reduceAdd, V.ids, V.idsL, idsA, entOk, List.all_cons, List.all_nil, Bool.and_self, Bool.and_true, Bool.true_and, ltB, noId, Nat.reduceLT, decide_true, Bool.true_eq_false, tyV_id, fdV_id, tyL_id, fdL_id, byL_id]) | refine WkF.tu ?_ | refine WkF.ag ?_ | refine WkFL.cons ?_ ?_ | exact WkFL.nil)
  | false =>
    rw [hx, cutP_false hx] at hp
    have hv : valR w = ((puR 10 w).1, decide ((puR 10 w).2 = 0) && ((w == [48] || decide (w.head? ≠ some 48)) && !Lib.containsAny w [95, 43, 45])) := by
      unfold valR; rw [hx]; rfl
    have hq := c_ps10 w hw
    have hn := puR_le 10 w
    have hc := c_containsAny w hw ha
    have hne : w = [] → (puR 10 w).2 = 2 := fun h => by rw [h]; rfl
    generalize puR 10 w = nk at hq hn hv hne
    obtain ⟨n, k⟩ := nk
    have hwr := u32_le hn
    simp only at hq hwr hv hne
    rw [hv]
    generalize Lib.containsAny w [95, 43, 45] = b at hc
    refine PC.enter 58 Tryd.func57 rfl (by decide) rfl rfl (s := [(0, .im (.string ⟨(w).toArray⟩))]) (by rfl) ?_
    refine wG Y57_T7 True.intro ?_
    refine AR.callP hp True.intro byL_id ?_
    refine goG Y57_T7 True.intro ?_
    refine wG Y57_T7 True.intro ?_
    refine AR.callP hq True.intro byL_id ?_
    by_cases hk : k = 0
    · subst hk
      rw [show errW 0 = .im .nilIface from rfl]
      refine goG Y57_T7 True.intro ?_
      refine wG Y57_T7 hwr ?_
      refine AR.eqI true ?_
      cases he : (w == ([48] : Bs)) with
      | true =>
        refine goG Y57_T7 (And.intro BY he) ?_
        refine AR.callP hc True.intro byL_id ?_
        refine goG Y57_T7 True.intro ?_
        rw [show (decide ((0 : Int) = 0) && ((true || decide (w.head? ≠ some 48)) && !b)) = !b by simp]
        refine wG Y57_T7 True.intro ?_
        refine Fin.gen0 (rs := [.tmp 2, .tmp 3]) rfl (by first | exact .inl rfl | exact .inr rfl) (by simp only [resX, resA, ↓accU_f, ↓reduceIte, SA, SB, SC, SD, Y57_T7, valG, fpsG, evO, evB, evA, evA1, nilK, eqF, eqC, apOk, intOf, slB, slK,  gd, St.ev, putA, ofl, wrl, putE, V.ofVal, V.ofCell, bin2, un1, seg, fillV, partsOk, Value.oneCell', Nat.reduceBEq, Nat.reduceLT, Nat.reduceSub, Nat.reduceAdd, Nat.reduceMul, Nat.reduceLeDiff, Nat.reduceEqDiff, reduceCtorEq, Int.reduceLT, Int.reduceLE, Int.reduceEq, Int.reduceNe, Int.reduceBEq, Int.reduceBNe, Int.reduceAdd, Int.reduceSub, Int.reduceMul, Int.reduceToNat]; with_reducible exact rfl) ?_
        repeat (first | exact WkF.of (Wk.refl _) (by first | rfl | simp only [List.length_cons, List.length_nil, Nat.reduceAdd, V.ids, V.idsL, idsA, entOk, List.all_cons, List.all_nil, Bool.and_self, Bool.and_true, Bool.true_and, ltB, noId, Nat.reduceLT, decide_true, Bool.true_eq_false, tyV_id, fdV_id, tyL_id, fdL_id, byL_id]) | exact WkF.of (Wk.ro _ _) (by first | rfl | simp only [List.length_cons, List.length_nil, Nat.reduceAdd, V.ids, V.idsL, idsA, entOk, List.all_cons, List.all_nil, Bool.and_self, Bool.and_true, Bool.true_and, ltB, noId, Nat.reduceLT, decide_true, Bool.true_eq_false, tyV_id, fdV_id, tyL_id, fdL_id, byL_id]) | refine WkF.tu ?_ | refine WkF.ag ?_ | refine WkFL.cons ?_ ?_ | exact WkFL.nil)
      | false =>
        cases w with
        | nil => exact absurd (hne rfl) (by decide)
        | cons c r =>
          have g0 : (c :: r)[0]? = some c := rfl
          by_cases h48 : c.toNat = 48
          · have e : c = 48 := toNat_inj h48
            subst e
            have e48 : (((48 : UInt8).toNat : Nat) : Int) = 48 := rfl
            refine goG Y57_T7 (And.intro BY (And.intro he (And.intro g0 e48))) ?_
            rw [show (decide ((0 : Int) = 0) && ((false || decide (((48 : UInt8) :: r).head? ≠ some 48)) && !b)) = false by simp]
            refine wG Y57_T7 True.intro ?_
            refine Fin.gen0 (rs := [.tmp 2, .tmp 3]) rfl (by first | exact .inl rfl | exact .inr rfl) (by simp only [resX, resA, ↓accU_f, ↓reduceIte, SA, SB, SC, SD, Y57_T7, valG, fpsG, evO, evB, evA, evA1, nilK, eqF, eqC, apOk, intOf, slB, slK,  gd, St.ev, putA, ofl, wrl, putE, V.ofVal, V.ofCell, bin2, un1, seg, fillV, partsOk, Value.oneCell', Nat.reduceBEq, Nat.reduceLT, Nat.reduceSub, Nat.reduceAdd, Nat.reduceMul, Nat.reduceLeDiff, Nat.reduceEqDiff, reduceCtorEq, Int.reduceLT, Int.reduceLE, Int.reduceEq, Int.reduceNe, Int.reduceBEq, Int.reduceBNe, Int.reduceAdd, Int.reduceSub, Int.reduceMul, Int.reduceToNat]; with_reducible exact rfl) ?_
            repeat (first | exact WkF.of (Wk.refl _) (by first | rfl | simp only [List.length_cons, List.length_nil, Nat.reduceAdd, V.ids, V.idsL, idsA, entOk, List.all_cons, List.all_nil, Bool.and_self, Bool.and_true, Bool.true_and, ltB, noId, Nat.reduceLT, decide_true, Bool.true_eq_false, tyV_id, fdV_id, tyL_id, fdL_id, byL_id]) | exact WkF.of (Wk.ro _ _) (by first | rfl | simp only [List.length_cons, List.length_nil, Nat.reduceAdd, V.ids, V.idsL, idsA, entOk, List.all_cons, List.all_nil, Bool.and_self, Bool.and_true, Bool.true_and, ltB, noId, Nat.reduceLT, decide_true, Bool.true_eq_false, tyV_id, fdV_id, tyL_id, fdL_id, byL_id]) | refine WkF.tu ?_ | refine WkF.ag ?_ | refine WkFL.cons ?_ ?_ | exact WkFL.nil)
          · have e : ¬ c = 48 := fun h => h48 (by rw [h]; rfl)
            have h48i : ¬ (c.toNat : Int) = 48 := by omega
            refine goG Y57_T7 (And.intro BY (And.intro he (And.intro g0 h48i))) ?_
            refine AR.callP hc True.intro byL_id ?_
            refine goG Y57_T7 True.intro ?_
            rw [show (decide ((0 : Int) = 0) && ((false || decide ((c :: r).head? ≠ some 48)) && !b)) = !b by simp [e]]
            refine wG Y57_T7 True.intro ?_
            refine Fin.gen0 (rs := [.tmp 2, .tmp 3]) rfl (by first | exact .inl rfl | exact .inr rfl) (by simp only [resX, resA, ↓accU_f, ↓reduceIte, SA, SB, SC, SD, Y57_T7, valG, fpsG, evO, evB, evA, evA1, nilK, eqF, eqC, apOk, intOf, slB, slK,  gd, St.ev, putA, ofl, wrl, putE, V.ofVal, V.ofCell, bin2, un1, seg, fillV, partsOk, Value.oneCell', Nat.reduceBEq, Nat.reduceLT, Nat.reduceSub, Nat.reduceAdd, Nat.reduceMul, Nat.reduceLeDiff, Nat.reduceEqDiff, reduceCtorEq, Int.reduceLT, Int.reduceLE, Int.reduceEq, Int.reduceNe, Int.reduceBEq, Int.reduceBNe, Int.reduceAdd, Int.reduceSub, Int.reduceMul, Int.reduceToNat]; with_reducible exact rfl) ?_
            repeat (first | exact WkF.of (Wk.refl _) (by first | rfl | simp only [List.length_cons, List.length_nil, Nat.reduceAdd, V.ids, V.idsL, idsA, entOk, List.all_cons, List.all_nil, Bool.and_self, Bool.and_true, Bool.true_and, ltB, noId, Nat.reduceLT, decide_true, Bool.true_eq_false, tyV_id, fdV_id, tyL_id, fdL_id, byL_id]) | exact WkF.of (Wk.ro _ _) (by first | rfl | simp only [List.length_cons, List.length_nil, Nat.reduceAdd, V.ids, V.idsL, idsA, entOk, List.all_cons, List.all_nil, Bool.and_self, Bool.and_true, Bool.true_and, ltB, noId, Nat.reduceLT, decide_true, Bool.true_eq_false, tyV_id, fdV_id, tyL_id, fdL_id, byL_id]) | refine WkF.tu ?_ | refine WkF.ag ?_ | refine WkFL.cons ?_ ?_ | exact WkFL.nil)
    · rw [show errW k = .ifc from if_neg hk]
      refine goG Y57_T7 True.intro ?_
      refine wG Y57_T7 hwr ?_
      refine AR.eqI false ?_
      refine goG Y57_T7 True.intro ?_
      rw [show (decide (k = 0) && ((w == [48] || decide (w.head? ≠ some 48)) && !b)) = false by simp [hk]]
      refine wG Y57_T7 True.intro ?_
      refine Fin.gen0 (rs := [.tmp 2, .tmp 3]) rfl (by first | exact .inl rfl | exact .inr rfl) (by simp only [resX, resA, ↓accU_f, ↓reduceIte, SA, SB, SC, SD, Y57_T7, valG, fpsG, evO, evB, evA, evA1, nilK, eqF, eqC, apOk, intOf, slB, slK,  gd, St.ev, putA, ofl, wrl, putE, V.ofVal, V.ofCell, bin2, un1, seg, fillV, partsOk, Value.oneCell', Nat.reduceBEq, Nat.reduceLT, Nat.reduceSub, Nat.reduceAdd, Nat.reduceMul, Nat.reduceLeDiff, Nat.reduceEqDiff, reduceCtorEq, Int.reduceLT, Int.reduceLE, Int.reduceEq, Int.reduceNe, Int.reduceBEq, Int.reduceBNe, Int.reduceAdd, Int.reduceSub, Int.reduceMul, Int.reduceToNat]; with_reducible exact rfl) ?_
      repeat (first | exact WkF.of (Wk.refl _) (by first | rfl | simp only [List.length_cons, List.length_nil, Nat.reduceAdd, V.ids, V.idsL, idsA, entOk, List.all_cons, List.all_nil, Bool.and_self, Bool.and_true, Bool.true_and, ltB, noId, Nat.reduceLT, decide_true, Bool.true_eq_false, tyV_id, fdV_id, tyL_id, fdL_id, byL_id]) | exact WkF.of (Wk.ro _ _) (by first | rfl | simp only [List.length_cons, List.length_nil, Nat.reduceAdd, V.ids, V.idsL, idsA, entOk, List.all_cons, List.all_nil, Bool.and_self, Bool.and_true, Bool.true_and, ltB, noId, Nat.reduceLT, decide_true, Bool.true_eq_false, tyV_id, fdV_id, tyL_id, fdL_id, byL_id]) | refine WkF.tu ?_ | refine WkF.ag ?_ | refine WkFL.cons ?_ ?_ | exact WkFL.nil)
end Go.Proofs.YtjilcaemoebloaaDoor

