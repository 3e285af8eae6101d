/- Walks: the text of a string token. -/
import Derived.Test.YtjilcaemoebloaaDoorHv
import Derived.Test.YtjilcaemoebloaaDoorT15
namespace Go.Proofs.YtjilcaemoebloaaDoor
set_option linter.unusedSimpArgs false
set_option linter.unusedVariables false
set_option linter.unnecessarySimpa false
open Go.RowKit
theorem u8_hi (c : UInt8) : ((c.toNat : Nat) : Int).fdiv (2 ^ min 4 IntKind.u8.bits) = ((c.toNat / 16 : Nat) : Int) :=
  of_decide_eq_true (u8_all (fun c => decide (((c.toNat : Nat) : Int).fdiv (2 ^ min 4 IntKind.u8.bits) = ((c.toNat / 16 : Nat) : Int))) (by decide +kernel) c)
theorem u8_lo (c : UInt8) : IntKind.u8.wrap ↑(BitVec.ofInt IntKind.u8.bits ↑c.toNat &&& BitVec.ofInt IntKind.u8.bits 15).toNat = ((c.toNat % 16 : Nat) : Int) :=
  of_decide_eq_true (u8_all (fun c => decide (IntKind.u8.wrap ↑(BitVec.ofInt IntKind.u8.bits ↑c.toNat &&& BitVec.ofInt IntKind.u8.bits 15).toNat = ((c.toNat % 16 : Nat) : Int))) (by decide +kernel) c)
theorem hexD_get : ∀ {n : Nat}, n < 16 → ([48, 49, 50, 51, 52, 53, 54, 55, 56, 57, 97, 98, 99, 100, 101, 102] : Bs)[n]? = some (hexD n) := by
  intro n h
  have : ∀ n < 16, ([48, 49, 50, 51, 52, 53, 54, 55, 56, 57, 97, 98, 99, 100, 101, 102] : Bs)[n]? = some (hexD n) := by decide
  exact this n h
theorem Y43_T16 : type_of% (And.intro @F_ag_5 (And.intro @F_al_5 (And.intro @F_by_5 (And.intro @F_el_71 (And.intro @F_in_71 (And.intro @F_in_9 (And.intro @F_sz_5 (And.intro @F_un_5 (And.intro @F_un_71 (@F_un_9)))))))))) := And.intro @F_ag_5 (And.intro @F_al_5 (And.intro @F_by_5 (And.intro @F_el_71 (And.intro @F_in_71 (And.intro @F_in_9 (And.intro @F_sz_5 (And.intro @F_un_5 (And.intro @F_un_71 (@F_un_9)))))))))
set_option maxHeartbeats 2000000 in
theorem c_quote (s : Bs) (hs : s.length ≤ 4194304) : PC Tryd.prog 43 [.im (.string ⟨(s).toArray⟩)] (.im (.string ⟨(quoS s).toArray⟩)) := by
  have hA0 : s.length ≤ 140737488355328 := by omega
  refine PC.enter 48 Tryd.func43 rfl (by decide) rfl rfl (s := [(0, .im (.string ⟨(s).toArray⟩))]) (by rfl) ?_
  refine wG Y43_T16 (And.intro BY (And.intro bS_size hA0)) ?_
  refine AWp.loop ?_
  refine ALp.ghost 3 [.im (.int .u8 (34))] .full 5 1 ?_
  suffices H : ∀ (k m : Nat) (A : Bs), s.length - m = k → m ≤ s.length → A = 34 :: (s.take m).flatMap escC → ALp _ _ _ _ _ ⟨dn 48 [(0, .im (.string ⟨(s).toArray⟩)), (3, .sl (A.map byB) (.own 0)), (8, .sl (s.map byB) .ro), (9, (.im (.int .i64 (s.length)))), (10, (.im (.int .i64 ((((m : Nat)) : Int)))))], ofl [.tip 5 1 A.length]⟩ by
    refine ALp.cutP 1 [(0, .im (.string ⟨(s).toArray⟩)), (3, .sl (([34] : Bs).map byB) (.own 0)), (8, .sl (s.map byB) .ro), (9, (.im (.int .i64 (s.length)))), (10, (.im (.int .i64 ((((0 : Nat)) : Int)))))] [.tip 5 1 ([34] : Bs).length] byL_id ?_
    exact H _ 0 [34] rfl (Nat.zero_le _) (by simp)
  intro k
  induction k using Nat.strongRecOn with
  | _ k ih =>
  intro m A hk hml hA
  have hAl : A.length ≤ 1 + 4 * m := by
    rw [hA]
    have : ∀ l : Bs, (l.flatMap escC).length ≤ 4 * l.length := fun l => by
      induction l with
      | nil => simp
      | cons c l ih =>
        have h1 : (escC c).length ≤ 4 := by unfold escC; split <;> (try split) <;> simp
        rw [List.flatMap_cons, List.length_append, List.length_cons]
        omega
    have h2 := this (s.take m)
    rw [List.length_take] at h2
    rw [List.length_cons]
    omega
  refine ALp.round ?_
  by_cases hlt : m < s.length
  case neg =>
    obtain rfl : m = s.length := by omega
    have hn : ¬ (s.length : Int) < (s.length : Int) := by omega
    obtain ⟨B, hB⟩ : ∃ B, B = A ++ [34] := ⟨_, rfl⟩
    have hQ : quoS s = B := by rw [hB, hA, List.take_length]; rfl
    have hAs : A.map byB ++ [V.im (.int .u8 34)] = B.map byB := by rw [hB, List.map_append]; rfl
    have hAk : A.length + 1 = B.length := by rw [hB]; simp
    have hbl : B.length ≤ 140737488355328 := by omega
    have hb := bytesOf_map B
    rw [hQ]
    clear ih hA hB hQ
    refine wG Y43_T16 (And.intro BY (And.intro hn (And.intro bS_size (And.intro hAs (And.intro hAk (And.intro hbl (And.intro hb (And.intro (@List.length_map.{0, 0}) @Nat.mul_one)))))))) ?_
    refine Fin.gen0 (rs := [.tmp 2]) rfl (by first | exact .inl rfl | exact .inr rfl) (by simp only [resX, resA, ↓accU_f, ↓reduceIte, SA, SB, SC, SD, Y43_T16, valG, fpsG, evO, evB, evA, evA1, nilK, eqF, eqC, apOk, intOf, slB, slK,  gd, St.ev, putA, ofl, wrl, putE, V.ofVal, V.ofCell, bin2, un1, seg, fillV, partsOk, Value.oneCell', Nat.reduceBEq, Nat.reduceLT, Nat.reduceSub, Nat.reduceAdd, Nat.reduceMul, Nat.reduceLeDiff, Nat.reduceEqDiff, reduceCtorEq, Int.reduceLT, Int.reduceLE, Int.reduceEq, Int.reduceNe, Int.reduceBEq, Int.reduceBNe, Int.reduceAdd, Int.reduceSub, Int.reduceMul, Int.reduceToNat]; with_reducible exact rfl) ?_
    repeat (first | exact WkF.of (Wk.refl _) (by first | rfl | simp only [List.length_cons, List.length_nil, Nat.reduceAdd, V.ids, V.idsL, idsA, entOk, List.all_cons, List.all_nil, Bool.and_self, Bool.and_true, Bool.true_and, ltB, noId, Nat.reduceLT, decide_true, Bool.true_eq_false, tyV_id, fdV_id, tyL_id, fdL_id, byL_id]) | exact WkF.of (Wk.ro _ _) (by first | rfl | simp only [List.length_cons, List.length_nil, Nat.reduceAdd, V.ids, V.idsL, idsA, entOk, List.all_cons, List.all_nil, Bool.and_self, Bool.and_true, Bool.true_and, ltB, noId, Nat.reduceLT, decide_true, Bool.true_eq_false, tyV_id, fdV_id, tyL_id, fdL_id, byL_id]) | refine WkF.tu ?_ | refine WkF.ag ?_ | refine WkFL.cons ?_ ?_ | exact WkFL.nil)
  have hlt' : (m : Int) < (s.length : Int) := by omega
  have hw1 := wrap_succ hlt (by omega)
  have hg : s[m]? = some s[m] := List.getElem?_eq_getElem hlt
  have hst : s.take (m + 1) = s.take m ++ [s[m]] := List.take_succ_eq_append_getElem hlt
  obtain ⟨B, hB⟩ : ∃ B, B = A ++ escC s[m] := ⟨_, rfl⟩
  have hI := ih (s.length - (m + 1)) (by omega) (m + 1) B rfl (by omega) (by rw [hB, hA, hst, List.flatMap_append]; simp)
  clear ih hst
  generalize s[m] = c at hg hB
  by_cases h34 : c.toNat = 34 ∨ c.toNat = 92
  · rw [show escC c = [92, c] from if_pos h34] at hB
    have hAs : A.map byB ++ [V.im (.int .u8 92), V.im (.int .u8 c.toNat)] = B.map byB := by rw [hB, List.map_append]; rfl
    have hAk : A.length + 2 = B.length := by rw [hB]; simp
    have hbl : B.length ≤ 140737488355328 := by omega
    clear hA hB
    by_cases h1 : c.toNat = 34
    · have e1 : (c.toNat : Int) = 34 := by omega
      rw [e1] at hAs
      refine wG Y43_T16 (And.intro BY (And.intro hlt' (And.intro bS_size (And.intro hg (And.intro e1 (And.intro hAs (And.intro hAk (And.intro hbl (And.intro hw1 (And.intro (@List.length_map.{0, 0}) @Nat.mul_one)))))))))) ?_
      refine ALp.cutP 1 [(0, .im (.string ⟨(s).toArray⟩)), (3, .sl (B.map byB) (.own 0)), (8, .sl (s.map byB) .ro), (9, (.im (.int .i64 (s.length)))), (10, (.im (.int .i64 ((((m + 1 : Nat)) : Int)))))] [.tip 5 1 B.length] byL_id ?_
      exact hI
    · have e1 : ¬ (c.toNat : Int) = 34 := by omega
      have e2 : (c.toNat : Int) = 92 := by omega
      rw [e2] at hAs
      refine wG Y43_T16 (And.intro BY (And.intro hlt' (And.intro bS_size (And.intro hg (And.intro e1 (And.intro e2 (And.intro hAs (And.intro hAk (And.intro hbl (And.intro hw1 (And.intro (@List.length_map.{0, 0}) @Nat.mul_one))))))))))) ?_
      refine ALp.cutP 1 [(0, .im (.string ⟨(s).toArray⟩)), (3, .sl (B.map byB) (.own 0)), (8, .sl (s.map byB) .ro), (9, (.im (.int .i64 (s.length)))), (10, (.im (.int .i64 ((((m + 1 : Nat)) : Int)))))] [.tip 5 1 B.length] byL_id ?_
      exact hI
  rw [show escC c = if c.toNat < 32 ∨ 126 < c.toNat then [92, 120, hexD (c.toNat / 16), hexD (c.toNat % 16)] else [c] from if_neg h34] at hB
  have e1 : ¬ (c.toNat : Int) = 34 := by omega
  have e2 : ¬ (c.toNat : Int) = 92 := by omega
  by_cases h32 : c.toNat < 32 ∨ 126 < c.toNat
  · rw [if_pos h32] at hB
    have hAs : A.map byB ++ [V.im (.int .u8 92), V.im (.int .u8 120), V.im (.int .u8 (hexD (c.toNat / 16)).toNat), V.im (.int .u8 (hexD (c.toNat % 16)).toNat)] = B.map byB := by rw [hB, List.map_append]; rfl
    have hAk : A.length + 4 = B.length := by rw [hB]; simp
    have hbl : B.length ≤ 140737488355328 := by omega
    clear hA hB
    have hd1 := hexD_get (show c.toNat / 16 < 16 by have := c.toNat_lt; omega)
    have hd2 := hexD_get (show c.toNat % 16 < 16 by omega)
    by_cases h1 : c.toNat < 32
    · have e3 : (c.toNat : Int) < 32 := by omega
      refine wG Y43_T16 (And.intro BY (And.intro hlt' (And.intro bS_size (And.intro hg (And.intro e1 (And.intro e2 e3)))))) ?_
      refine wdG Y43_T16 (And.intro BY (And.intro GDS (And.intro hlt' (And.intro bS_size (And.intro hg (And.intro e1 (And.intro e2 (And.intro e3 (And.intro u8_hi (And.intro u8_lo (And.intro hd1 (And.intro hd2 (And.intro hAs (And.intro hAk (And.intro hbl (And.intro hw1 (And.intro (@List.length_map.{0, 0}) @Nat.mul_one))))))))))))))))) ?_
      refine ALp.cutP 1 [(0, .im (.string ⟨(s).toArray⟩)), (3, .sl (B.map byB) (.own 0)), (8, .sl (s.map byB) .ro), (9, (.im (.int .i64 (s.length)))), (10, (.im (.int .i64 ((((m + 1 : Nat)) : Int)))))] [.tip 5 1 B.length] byL_id ?_
      exact hI
    · have e3 : ¬ (c.toNat : Int) < 32 := by omega
      have e4 : (c.toNat : Int) > 126 := by omega
      refine wG Y43_T16 (And.intro BY (And.intro hlt' (And.intro bS_size (And.intro hg (And.intro e1 (And.intro e2 (And.intro e3 e4))))))) ?_
      refine wdG Y43_T16 (And.intro BY (And.intro GDS (And.intro hlt' (And.intro bS_size (And.intro hg (And.intro e1 (And.intro e2 (And.intro e3 (And.intro e4 (And.intro u8_hi (And.intro u8_lo (And.intro hd1 (And.intro hd2 (And.intro hAs (And.intro hAk (And.intro hbl (And.intro hw1 (And.intro (@List.length_map.{0, 0}) @Nat.mul_one)))))))))))))))))) ?_
      refine ALp.cutP 1 [(0, .im (.string ⟨(s).toArray⟩)), (3, .sl (B.map byB) (.own 0)), (8, .sl (s.map byB) .ro), (9, (.im (.int .i64 (s.length)))), (10, (.im (.int .i64 ((((m + 1 : Nat)) : Int)))))] [.tip 5 1 B.length] byL_id ?_
      exact hI
  rw [if_neg h32] at hB
  have hAs : A.map byB ++ [V.im (.int .u8 c.toNat)] = B.map byB := by rw [hB, List.map_append]; rfl
  have hAk : A.length + 1 = B.length := by rw [hB]; simp
  have hbl : B.length ≤ 140737488355328 := by omega
  have e3 : ¬ (c.toNat : Int) < 32 := by omega
  have e4 : ¬ (c.toNat : Int) > 126 := by omega
  clear hA hB
  refine wG Y43_T16 (And.intro BY (And.intro hlt' (And.intro bS_size (And.intro hg (And.intro e1 (And.intro e2 (And.intro e3 (And.intro e4 (And.intro hAs (And.intro hAk (And.intro hbl (And.intro hw1 (And.intro (@List.length_map.{0, 0}) @Nat.mul_one))))))))))))) ?_
  refine ALp.cutP 1 [(0, .im (.string ⟨(s).toArray⟩)), (3, .sl (B.map byB) (.own 0)), (8, .sl (s.map byB) .ro), (9, (.im (.int .i64 (s.length)))), (10, (.im (.int .i64 ((((m + 1 : Nat)) : Int)))))] [.tip 5 1 B.length] byL_id ?_
  exact hI
end Go.Proofs.YtjilcaemoebloaaDoor

