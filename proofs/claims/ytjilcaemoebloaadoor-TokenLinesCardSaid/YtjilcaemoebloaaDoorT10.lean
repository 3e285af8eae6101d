/- Walks: strings between quotes. -/
import Derived.Test.YtjilcaemoebloaaDoorHv
import Derived.Test.YtjilcaemoebloaaDoorT9
namespace Go.Proofs.YtjilcaemoebloaaDoor
set_option linter.unusedSimpArgs false
set_option linter.unusedVariables false
set_option linter.unnecessarySimpa false
open Go.RowKit
/-- What quoted gives for a text that begins with a quote. -/
def quoR (r : Bs) : Bs × Nat × Bool := match quoP r with
  | some (t, m) => (t, m + 1, true)
  | none => ([], 0, false)
theorem escR_none {s : Bs} (h : escP s = none) : escR s = (0, 0) := by unfold escR; rw [h]
theorem escR_some {s : Bs} {x : UInt8} {n : Nat} (h : escP s = some (x, n)) : escR s = (x, n) := by unfold escR; rw [h]
theorem quoR_none {r : Bs} (h : quoP r = none) : quoR r = ([], 0, false) := by unfold quoR; rw [h]
theorem quoR_some {r t : Bs} {m : Nat} (h : quoP r = some (t, m)) : quoR r = (t, m + 1, true) := by unfold quoR; rw [h]
theorem Y39_T10 : type_of% (And.intro @F_al_5 (And.intro @F_by_5 (And.intro @F_el_71 (And.intro @F_in_71 (And.intro @F_in_9 (And.intro @F_sz_5 (And.intro @F_un_5 (And.intro @F_un_71 (@F_un_9))))))))) := And.intro @F_al_5 (And.intro @F_by_5 (And.intro @F_el_71 (And.intro @F_in_71 (And.intro @F_in_9 (And.intro @F_sz_5 (And.intro @F_un_5 (And.intro @F_un_71 (@F_un_9))))))))
set_option maxHeartbeats 2000000 in
theorem c_quoted (s : Bs) (hs : s.length ≤ 4194304) (h0 : s ≠ []) : PC Tryd.prog 39 [.im (.string ⟨(s).toArray⟩)] (.tu [.im (.string ⟨((quoR (s.drop 1)).1).toArray⟩), (.im (.int .i64 (((quoR (s.drop 1)).2.1 : Int)))), (.im (.bool ((quoR (s.drop 1)).2.2)))]) := by
  have hpos : 1 ≤ s.length := by cases s with
    | nil => exact absurd rfl h0
    | cons c r => simp
  refine PC.enter 57 Tryd.func39 rfl (by decide) rfl rfl (s := [(0, .im (.string ⟨(s).toArray⟩))]) (by rfl) ?_
  refine wG Y39_T10 True.intro ?_
  refine AWp.loop ?_
  refine ALp.ghost 5 [] .nl 5 1 ?_
  suffices H : ∀ (k m : Nat) (A : Bs), s.length - m = k → 1 ≤ m → m ≤ s.length → A.length ≤ m → (quoP (s.drop 1) = (quoP (s.drop m)).map fun p => (A ++ p.1, p.2 + (m - 1))) → ALp _ _ _ _ _ ⟨dn 57 [(0, .im (.string ⟨(s).toArray⟩)), (5, .sl (A.map byB) (.own 0)), (6, (.im (.int .i64 ((((m : Nat)) : Int)))))], ofl [.tip 5 1 A.length]⟩ by
    refine ALp.cutP 1 [(0, .im (.string ⟨(s).toArray⟩)), (5, .sl (([] : Bs).map byB) (.own 0)), (6, (.im (.int .i64 ((((1 : Nat)) : Int)))))] [.tip 5 1 ([] : Bs).length] byL_id ?_
    exact H _ 1 [] rfl (Nat.le_refl _) hpos (Nat.zero_le _) (by cases quoP (s.drop 1) <;> simp)
  intro k
  induction k using Nat.strongRecOn with
  | _ k ih =>
  intro m A hk hm1 hml hA hq
  refine ALp.round ?_
  by_cases hlt : m < s.length
  case neg =>
    obtain rfl : m = s.length := by omega
    have hn : ¬ (s.length : Int) < (s.length : Int) := by omega
    rw [quoR_none (r := s.drop 1) (by rw [hq, List.drop_length]; rfl)]
    clear ih
    refine wG Y39_T10 (And.intro BY (And.intro hn bS_size)) ?_
    refine Fin.gen0 (rs := [.tmp 2, .tmp 3, .tmp 4]) rfl (by first | exact .inl rfl | exact .inr rfl) (by simp only [resX, resA, ↓accU_f, ↓reduceIte, SA, SB, SC, SD, Y39_T10, valG, fpsG, evO, evB, evA, evA1, nilK, eqF, eqC, apOk, intOf, slB, slK,  gd, St.ev, putA, ofl, wrl, putE, V.ofVal, V.ofCell, bin2, un1, seg, fillV, partsOk, Value.oneCell', Nat.reduceBEq, Nat.reduceLT, Nat.reduceSub, Nat.reduceAdd, Nat.reduceMul, Nat.reduceLeDiff, Nat.reduceEqDiff, reduceCtorEq, Int.reduceLT, Int.reduceLE, Int.reduceEq, Int.reduceNe, Int.reduceBEq, Int.reduceBNe, Int.reduceAdd, Int.reduceSub, Int.reduceMul, Int.reduceToNat]; with_reducible exact rfl) ?_
    repeat (first | exact WkF.of (Wk.refl _) (by first | rfl | simp only [List.length_cons, List.length_nil, Nat.reduceAdd, V.ids, V.idsL, idsA, entOk, List.all_cons, List.all_nil, Bool.and_self, Bool.and_true, Bool.true_and, ltB, noId, Nat.reduceLT, decide_true, Bool.true_eq_false, tyV_id, fdV_id, tyL_id, fdL_id, byL_id]) | exact WkF.of (Wk.ro _ _) (by first | rfl | simp only [List.length_cons, List.length_nil, Nat.reduceAdd, V.ids, V.idsL, idsA, entOk, List.all_cons, List.all_nil, Bool.and_self, Bool.and_true, Bool.true_and, ltB, noId, Nat.reduceLT, decide_true, Bool.true_eq_false, tyV_id, fdV_id, tyL_id, fdL_id, byL_id]) | refine WkF.tu ?_ | refine WkF.ag ?_ | refine WkFL.cons ?_ ?_ | exact WkFL.nil)
  have hlt' : (m : Int) < (s.length : Int) := by omega
  have hw1 := wrap_succ hlt (by omega)
  have hg : s[m]? = some s[m] := List.getElem?_eq_getElem hlt
  have hd : s.drop m = s[m] :: s.drop (m + 1) := List.drop_eq_getElem_cons hlt
  generalize s[m] = c at hg hd
  rw [hd, quoP_cons] at hq
  by_cases h34 : c.toNat = 34
  · have e1 : (c.toNat : Int) = 34 := by omega
    rw [if_pos h34] at hq
    rw [quoR_some (r := s.drop 1) (t := A) (m := m) (by rw [hq]; simp; omega)]
    have hb := bytesOf_map A
    clear ih
    refine wG Y39_T10 (And.intro BY (And.intro hlt' (And.intro bS_size (And.intro hg (And.intro e1 (And.intro hb hw1)))))) ?_
    refine Fin.gen0 (rs := [.tmp 2, .tmp 3, .tmp 4]) rfl (by first | exact .inl rfl | exact .inr rfl) (by simp only [resX, resA, ↓accU_f, ↓reduceIte, SA, SB, SC, SD, Y39_T10, valG, fpsG, evO, evB, evA, evA1, nilK, eqF, eqC, apOk, intOf, slB, slK,  gd, St.ev, putA, ofl, wrl, putE, V.ofVal, V.ofCell, bin2, un1, seg, fillV, partsOk, Value.oneCell', Nat.reduceBEq, Nat.reduceLT, Nat.reduceSub, Nat.reduceAdd, Nat.reduceMul, Nat.reduceLeDiff, Nat.reduceEqDiff, reduceCtorEq, Int.reduceLT, Int.reduceLE, Int.reduceEq, Int.reduceNe, Int.reduceBEq, Int.reduceBNe, Int.reduceAdd, Int.reduceSub, Int.reduceMul, Int.reduceToNat]; with_reducible exact rfl) ?_
    repeat (first | exact WkF.of (Wk.refl _) (by first | rfl | simp only [List.length_cons, List.length_nil, Nat.reduceAdd, V.ids, V.idsL, idsA, entOk, List.all_cons, List.all_nil, Bool.and_self, Bool.and_true, Bool.true_and, ltB, noId, Nat.reduceLT, decide_true, Bool.true_eq_false, tyV_id, fdV_id, tyL_id, fdL_id, byL_id]) | exact WkF.of (Wk.ro _ _) (by first | rfl | simp only [List.length_cons, List.length_nil, Nat.reduceAdd, V.ids, V.idsL, idsA, entOk, List.all_cons, List.all_nil, Bool.and_self, Bool.and_true, Bool.true_and, ltB, noId, Nat.reduceLT, decide_true, Bool.true_eq_false, tyV_id, fdV_id, tyL_id, fdL_id, byL_id]) | refine WkF.tu ?_ | refine WkF.ag ?_ | refine WkFL.cons ?_ ?_ | exact WkFL.nil)
  have e1 : ¬ (c.toNat : Int) = 34 := by omega
  rw [if_neg h34] at hq
  by_cases h92 : c.toNat = 92
  · have e2 : (c.toNat : Int) = 92 := by omega
    rw [if_pos h92] at hq
    have hsl : (s.drop (m + 1)).take (s.length - (m + 1)) = s.drop (m + 1) := List.take_of_length_le (by rw [List.length_drop]; omega)
    have hle : ((m + 1 : Nat) : Int) ≤ (s.length : Int) := by omega
    have qe := c_escape (s.drop (m + 1)) (by rw [List.length_drop]; omega)
    cases he : escP (s.drop (m + 1)) with
    | none =>
      rw [escR_none he] at qe
      rw [he] at hq
      rw [quoR_none (r := s.drop 1) (by rw [hq]; rfl)]
      clear ih
      refine wG Y39_T10 (And.intro BY (And.intro GDS (And.intro hlt' (And.intro bS_size (And.intro hg (And.intro e1 (And.intro e2 (And.intro hw1 (And.intro hle hsl))))))))) ?_
      refine AR.callP qe True.intro byL_id ?_
      refine goG Y39_T10 True.intro ?_
      refine wG Y39_T10 True.intro ?_
      refine Fin.gen0 (rs := [.tmp 2, .tmp 3, .tmp 4]) rfl (by first | exact .inl rfl | exact .inr rfl) (by simp only [resX, resA, ↓accU_f, ↓reduceIte, SA, SB, SC, SD, Y39_T10, valG, fpsG, evO, evB, evA, evA1, nilK, eqF, eqC, apOk, intOf, slB, slK,  gd, St.ev, putA, ofl, wrl, putE, V.ofVal, V.ofCell, bin2, un1, seg, fillV, partsOk, Value.oneCell', Nat.reduceBEq, Nat.reduceLT, Nat.reduceSub, Nat.reduceAdd, Nat.reduceMul, Nat.reduceLeDiff, Nat.reduceEqDiff, reduceCtorEq, Int.reduceLT, Int.reduceLE, Int.reduceEq, Int.reduceNe, Int.reduceBEq, Int.reduceBNe, Int.reduceAdd, Int.reduceSub, Int.reduceMul, Int.reduceToNat]; with_reducible exact rfl) ?_
      repeat (first | exact WkF.of (Wk.refl _) (by first | rfl | simp only [List.length_cons, List.length_nil, Nat.reduceAdd, V.ids, V.idsL, idsA, entOk, List.all_cons, List.all_nil, Bool.and_self, Bool.and_true, Bool.true_and, ltB, noId, Nat.reduceLT, decide_true, Bool.true_eq_false, tyV_id, fdV_id, tyL_id, fdL_id, byL_id]) | exact WkF.of (Wk.ro _ _) (by first | rfl | simp only [List.length_cons, List.length_nil, Nat.reduceAdd, V.ids, V.idsL, idsA, entOk, List.all_cons, List.all_nil, Bool.and_self, Bool.and_true, Bool.true_and, ltB, noId, Nat.reduceLT, decide_true, Bool.true_eq_false, tyV_id, fdV_id, tyL_id, fdL_id, byL_id]) | refine WkF.tu ?_ | refine WkF.ag ?_ | refine WkFL.cons ?_ ?_ | exact WkFL.nil)
    | some xn =>
    obtain ⟨x, n⟩ := xn
    rw [escR_some he] at qe
    have hn := escP_len he
    rw [List.length_drop] at hn
    rw [he] at hq
    have hn0 : ¬ (n : Int) = 0 := by omega
    have hw2 : IntKind.i64.wrap ((m : Int) + (n : Int)) = ((m + n : Nat) : Int) := by rw [wrap_in (by omega)]; omega
    have hw3 : IntKind.i64.wrap (((m + n : Nat) : Int) + 1) = ((m + n + 1 : Nat) : Int) := by rw [wrap_in (by omega)]; omega
    obtain ⟨B, hB⟩ : ∃ B, B = A ++ [x] := ⟨_, rfl⟩
    have hAs : A.map byB ++ [V.im (.int .u8 x.toNat)] = B.map byB := by rw [hB, List.map_append]; rfl
    have hAl : A.length + 1 = B.length := by rw [hB]; simp
    have hbl : B.length ≤ 140737488355328 := by omega
    have hI := ih (s.length - (m + n + 1)) (by omega) (m + n + 1) B rfl (by omega) (by omega) (by omega) (by
      rw [hq]
      dsimp only
      rw [List.drop_drop, show m + 1 + n = m + n + 1 by omega, hB]
      cases quoP (s.drop (m + n + 1)) with
      | none => rfl
      | some p => obtain ⟨t, k⟩ := p; simp; omega)
    clear ih hB
    refine wG Y39_T10 (And.intro BY (And.intro GDS (And.intro hlt' (And.intro bS_size (And.intro hg (And.intro e1 (And.intro e2 (And.intro hw1 (And.intro hle hsl))))))))) ?_
    refine AR.callP qe True.intro byL_id ?_
    refine goG Y39_T10 True.intro ?_
    refine wG Y39_T10 (And.intro hn0 (And.intro hAs (And.intro hAl (And.intro hbl (And.intro hw2 (And.intro hw3 (And.intro (@List.length_map.{0, 0}) @Nat.mul_one))))))) ?_
    refine ALp.cutP 1 [(0, .im (.string ⟨(s).toArray⟩)), (5, .sl (B.map byB) (.own 0)), (6, (.im (.int .i64 ((((m + n + 1 : Nat)) : Int)))))] [.tip 5 1 B.length] byL_id ?_
    exact hI
  have e2 : ¬ (c.toNat : Int) = 92 := by omega
  rw [if_neg h92] at hq
  by_cases hlo : c.toNat < 32
  · have e3 : (c.toNat : Int) < 32 := by omega
    rw [if_pos (.inl hlo)] at hq
    rw [quoR_none (r := s.drop 1) (by rw [hq]; rfl)]
    clear ih
    refine wG Y39_T10 (And.intro BY (And.intro hlt' (And.intro bS_size (And.intro hg (And.intro e1 (And.intro e2 e3)))))) ?_
    refine Fin.gen0 (rs := [.tmp 2, .tmp 3, .tmp 4]) rfl (by first | exact .inl rfl | exact .inr rfl) (by simp only [resX, resA, ↓accU_f, ↓reduceIte, SA, SB, SC, SD, Y39_T10, valG, fpsG, evO, evB, evA, evA1, nilK, eqF, eqC, apOk, intOf, slB, slK,  gd, St.ev, putA, ofl, wrl, putE, V.ofVal, V.ofCell, bin2, un1, seg, fillV, partsOk, Value.oneCell', Nat.reduceBEq, Nat.reduceLT, Nat.reduceSub, Nat.reduceAdd, Nat.reduceMul, Nat.reduceLeDiff, Nat.reduceEqDiff, reduceCtorEq, Int.reduceLT, Int.reduceLE, Int.reduceEq, Int.reduceNe, Int.reduceBEq, Int.reduceBNe, Int.reduceAdd, Int.reduceSub, Int.reduceMul, Int.reduceToNat]; with_reducible exact rfl) ?_
    repeat (first | exact WkF.of (Wk.refl _) (by first | rfl | simp only [List.length_cons, List.length_nil, Nat.reduceAdd, V.ids, V.idsL, idsA, entOk, List.all_cons, List.all_nil, Bool.and_self, Bool.and_true, Bool.true_and, ltB, noId, Nat.reduceLT, decide_true, Bool.true_eq_false, tyV_id, fdV_id, tyL_id, fdL_id, byL_id]) | exact WkF.of (Wk.ro _ _) (by first | rfl | simp only [List.length_cons, List.length_nil, Nat.reduceAdd, V.ids, V.idsL, idsA, entOk, List.all_cons, List.all_nil, Bool.and_self, Bool.and_true, Bool.true_and, ltB, noId, Nat.reduceLT, decide_true, Bool.true_eq_false, tyV_id, fdV_id, tyL_id, fdL_id, byL_id]) | refine WkF.tu ?_ | refine WkF.ag ?_ | refine WkFL.cons ?_ ?_ | exact WkFL.nil)
  have e3 : ¬ (c.toNat : Int) < 32 := by omega
  by_cases hhi : 126 < c.toNat
  · have e4 : (c.toNat : Int) > 126 := by omega
    rw [if_pos (.inr hhi)] at hq
    rw [quoR_none (r := s.drop 1) (by rw [hq]; rfl)]
    clear ih
    refine wG Y39_T10 (And.intro BY (And.intro hlt' (And.intro bS_size (And.intro hg (And.intro e1 (And.intro e2 (And.intro e3 e4))))))) ?_
    refine Fin.gen0 (rs := [.tmp 2, .tmp 3, .tmp 4]) rfl (by first | exact .inl rfl | exact .inr rfl) (by simp only [resX, resA, ↓accU_f, ↓reduceIte, SA, SB, SC, SD, Y39_T10, valG, fpsG, evO, evB, evA, evA1, nilK, eqF, eqC, apOk, intOf, slB, slK,  gd, St.ev, putA, ofl, wrl, putE, V.ofVal, V.ofCell, bin2, un1, seg, fillV, partsOk, Value.oneCell', Nat.reduceBEq, Nat.reduceLT, Nat.reduceSub, Nat.reduceAdd, Nat.reduceMul, Nat.reduceLeDiff, Nat.reduceEqDiff, reduceCtorEq, Int.reduceLT, Int.reduceLE, Int.reduceEq, Int.reduceNe, Int.reduceBEq, Int.reduceBNe, Int.reduceAdd, Int.reduceSub, Int.reduceMul, Int.reduceToNat]; with_reducible exact rfl) ?_
    repeat (first | exact WkF.of (Wk.refl _) (by first | rfl | simp only [List.length_cons, List.length_nil, Nat.reduceAdd, V.ids, V.idsL, idsA, entOk, List.all_cons, List.all_nil, Bool.and_self, Bool.and_true, Bool.true_and, ltB, noId, Nat.reduceLT, decide_true, Bool.true_eq_false, tyV_id, fdV_id, tyL_id, fdL_id, byL_id]) | exact WkF.of (Wk.ro _ _) (by first | rfl | simp only [List.length_cons, List.length_nil, Nat.reduceAdd, V.ids, V.idsL, idsA, entOk, List.all_cons, List.all_nil, Bool.and_self, Bool.and_true, Bool.true_and, ltB, noId, Nat.reduceLT, decide_true, Bool.true_eq_false, tyV_id, fdV_id, tyL_id, fdL_id, byL_id]) | refine WkF.tu ?_ | refine WkF.ag ?_ | refine WkFL.cons ?_ ?_ | exact WkFL.nil)
  have e4 : ¬ (c.toNat : Int) > 126 := by omega
  rw [if_neg (by omega)] at hq
  obtain ⟨B, hB⟩ : ∃ B, B = A ++ [c] := ⟨_, rfl⟩
  have hAs : A.map byB ++ [V.im (.int .u8 c.toNat)] = B.map byB := by rw [hB, List.map_append]; rfl
  have hAl : A.length + 1 = B.length := by rw [hB]; simp
  have hbl : B.length ≤ 140737488355328 := by omega
  have hI := ih (s.length - (m + 1)) (by omega) (m + 1) B rfl (by omega) (by omega) (by omega) (by
    rw [hq, hB]
    cases quoP (s.drop (m + 1)) with
    | none => rfl
    | some p => obtain ⟨t, n⟩ := p; simp; omega)
  clear ih hB
  refine wG Y39_T10 (And.intro BY (And.intro hlt' (And.intro bS_size (And.intro hg (And.intro e1 (And.intro e2 (And.intro e3 (And.intro e4 (And.intro hAs (And.intro hAl (And.intro hbl (And.intro hw1 (And.intro (@List.length_map.{0, 0}) @Nat.mul_one))))))))))))) ?_
  refine ALp.cutP 1 [(0, .im (.string ⟨(s).toArray⟩)), (5, .sl (B.map byB) (.own 0)), (6, (.im (.int .i64 ((((m + 1 : Nat)) : Int)))))] [.tip 5 1 B.length] byL_id ?_
  exact hI
end Go.Proofs.YtjilcaemoebloaaDoor

