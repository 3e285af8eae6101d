/- Walks: numbers that digits denote (library). -/
import Derived.Test.YtjilcaemoebloaaDoorHv
import Derived.Test.YtjilcaemoebloaaDoorT4
import Derived.Test.YtjilcaemoebloaaDoorTi
namespace Go.Proofs.YtjilcaemoebloaaDoor
set_option linter.unusedSimpArgs false
set_option linter.unusedVariables false
set_option linter.unnecessarySimpa false
open Go.RowKit
def lowC (c : UInt8) : UInt8 := c ||| 32
theorem lowC_eq (c : UInt8) : IntKind.u8.wrap ↑(BitVec.ofInt IntKind.u8.bits ↑c.toNat ||| BitVec.ofInt IntKind.u8.bits 32).toNat = ((lowC c).toNat : Int) :=
  of_decide_eq_true (u8_all (fun c => decide (IntKind.u8.wrap ↑(BitVec.ofInt IntKind.u8.bits ↑c.toNat ||| BitVec.ofInt IntKind.u8.bits 32).toNat = ((lowC c).toNat : Int))) (by decide +kernel) c)

theorem c_lower (c : UInt8) : PC Tryd.prog 96 [.im (.int .u8 (c.toNat))] (.im (.int .u8 ((lowC c).toNat))) := by
  have hE := lowC_eq c
  refine PC.enter 5 Tryd.func96 rfl (by decide) rfl rfl (s := [(0, .im (.int .u8 (c.toNat)))]) (by rfl) ?_
  refine wG True.intro hE ?_
  exact Fin.oneP
/-- The value of a digit or of a letter. -/
def dgv (c : UInt8) : Option Nat := if 48 ≤ c.toNat ∧ c.toNat ≤ 57 then some (c.toNat - 48) else if 97 ≤ (lowC c).toNat ∧ (lowC c).toNat ≤ 122 then some ((lowC c).toNat - 87) else none
/-- The number and the error (0: none; 1: too large; 2: not a number). -/
def puF (b : Nat) : Nat → Bs → Nat × Int
  | a, [] => (a, 0)
  | a, c :: r => match dgv c with
    | none => (0, 2)
    | some d => if b ≤ d then (0, 2) else if 4294967295 < a * b + d then (4294967295, 1) else puF b (a * b + d) r
def puR (b : Nat) (s : Bs) : Nat × Int := if s = [] then (0, 2) else puF b 0 s
def errV (k : Int) : V := if k = 0 then .im .nilIface else .im (.iface 121 (.int .i64 k))
def acF (b : Nat) (l : Bs) : Nat := l.foldl (fun a c => a * b + (dgv c).getD 0) 0
theorem acF_snoc (b : Nat) {l : Bs} {m : Nat} (h : m < l.length) : acF b (l.take (m + 1)) = acF b (l.take m) * b + (dgv l[m]).getD 0 := by
  unfold acF
  rw [List.take_succ_eq_append_getElem h, List.foldl_append]
  rfl
theorem Y87_T5 : type_of% (And.intro @F_ag_5 (And.intro @F_el_71 (And.intro @F_in_3 (And.intro @F_in_5 (And.intro @F_in_71 (And.intro @F_in_74 (And.intro @F_in_9 (And.intro @F_in_95 (And.intro @F_sz_5 (And.intro @F_un_3 (And.intro @F_un_5 (And.intro @F_un_71 (And.intro @F_un_74 (And.intro @F_un_9 (@F_un_95))))))))))))))) := And.intro @F_ag_5 (And.intro @F_el_71 (And.intro @F_in_3 (And.intro @F_in_5 (And.intro @F_in_71 (And.intro @F_in_74 (And.intro @F_in_9 (And.intro @F_in_95 (And.intro @F_sz_5 (And.intro @F_un_3 (And.intro @F_un_5 (And.intro @F_un_71 (And.intro @F_un_74 (And.intro @F_un_9 (@F_un_95))))))))))))))
set_option maxHeartbeats 2000000 in
theorem c_pu10 (s : Bs) (hs : s.length ≤ 4194304) : PC Tryd.prog 87 [.im (.string ⟨(s).toArray⟩), (.im (.int .i64 (10))), (.im (.int .i64 (32)))] (.tu [.im (.int .u64 (((puR 10 s).1 : Int))), errV (puR 10 s).2]) := by
  refine PC.enter 172 Tryd.func87 rfl (by decide) rfl rfl (s := [(0, .im (.string ⟨(s).toArray⟩)), (1, (.im (.int .i64 (10)))), (2, (.im (.int .i64 (32))))]) (by rfl) ?_
  cases hn : (s == ([] : Bs)) with
  | true =>
    rw [beq_iff_eq] at hn
    subst hn
    have e : (([] : Bs) == []) = true := rfl
    refine wG Y87_T5 (And.intro BY e) ?_
    refine AR.mkI ?_
    refine goG Y87_T5 True.intro ?_
    refine wG Y87_T5 True.intro ?_
    rw [show (puR 10 []) = (0, 2) from rfl]
    refine Fin.gen0 (rs := [.tmp 6, .tmp 7]) rfl (by first | exact .inl rfl | exact .inr rfl) (by simp only [resX, resA, ↓accU_f, ↓reduceIte, SA, SB, SC, SD, Y87_T5, valG, fpsG, evO, evB, evA, evA1, nilK, eqF, eqC, apOk, intOf, slB, slK,  gd, St.ev, putA, ofl, wrl, putE, V.ofVal, V.ofCell, bin2, un1, seg, fillV, partsOk, Value.oneCell', Nat.reduceBEq, Nat.reduceLT, Nat.reduceSub, Nat.reduceAdd, Nat.reduceMul, Nat.reduceLeDiff, Nat.reduceEqDiff, reduceCtorEq, Int.reduceLT, Int.reduceLE, Int.reduceEq, Int.reduceNe, Int.reduceBEq, Int.reduceBNe, Int.reduceAdd, Int.reduceSub, Int.reduceMul, Int.reduceToNat]; with_reducible exact rfl) ?_
    repeat (first | exact WkF.of (Wk.refl _) (by first | rfl | simp only [List.length_cons, List.length_nil, Nat.reduceAdd, V.ids, V.idsL, idsA, entOk, List.all_cons, List.all_nil, Bool.and_self, Bool.and_true, Bool.true_and, ltB, noId, Nat.reduceLT, decide_true, Bool.true_eq_false, tyV_id, fdV_id, tyL_id, fdL_id, byL_id]) | exact WkF.of (Wk.ro _ _) (by first | rfl | simp only [List.length_cons, List.length_nil, Nat.reduceAdd, V.ids, V.idsL, idsA, entOk, List.all_cons, List.all_nil, Bool.and_self, Bool.and_true, Bool.true_and, ltB, noId, Nat.reduceLT, decide_true, Bool.true_eq_false, tyV_id, fdV_id, tyL_id, fdL_id, byL_id]) | refine WkF.tu ?_ | refine WkF.ag ?_ | refine WkFL.cons ?_ ?_ | exact WkFL.nil)
  | false =>
  have hne : s ≠ [] := by rwa [beq_eq_false_iff_ne] at hn
  rw [show puR 10 s = puF 10 0 s by unfold puR; rw [if_neg hne]]
  have hA : s.length ≤ 140737488355328 := by omega
  have hk1 : IntKind.u64.wrap 32 = 32 := by kernel_rfl
  have hk2 : IntKind.u64.wrap (1 * 2 ^ min 32 IntKind.u64.bits) = 4294967296 := by kernel_rfl
  have hk3 : IntKind.u64.wrap 4294967295 = 4294967295 := by kernel_rfl
  refine wG Y87_T5 (And.intro BY (And.intro hn (And.intro hA (And.intro hk1 (And.intro hk2 hk3))))) ?_
  refine AWp.loop ?_
  refine ALp.cutP 0 [(0, .im (.string ⟨(s).toArray⟩)), (1, (.im (.int .i64 (10)))), (8, (.im (.bool (false)))), (10, .im (.int .u64 (1844674407370955162))), (11, .im (.int .u64 (4294967295))), (12, (.im (.bool (false)))), (13, .im (.int .u64 (((acF 10 (s.take (0)) : Nat) : Int)))), (99, .sl (s.map byB) .ro), (100, (.im (.int .i64 (s.length)))), (101, (.im (.int .i64 ((((0 : Nat)) : Int)))))] [] byL_id ?_
  refine ALp.upto s.length (fun m => puF 10 (acF 10 (s.take m)) (s.drop m) = puF 10 0 s ∧ acF 10 (s.take m) ≤ 4294967295) (fun m => ⟨dn 172 [(0, .im (.string ⟨(s).toArray⟩)), (1, (.im (.int .i64 (10)))), (8, (.im (.bool (false)))), (10, .im (.int .u64 (1844674407370955162))), (11, .im (.int .u64 (4294967295))), (12, (.im (.bool (false)))), (13, .im (.int .u64 (((acF 10 (s.take (m)) : Nat) : Int)))), (99, .sl (s.map byB) .ro), (100, (.im (.int .i64 (s.length)))), (101, (.im (.int .i64 ((((m : Nat)) : Int)))))], ofl []⟩) ?_ 0 (Nat.zero_le _) ⟨rfl, Nat.zero_le _⟩
  intro m hm hI hnext
  obtain ⟨hI, hac⟩ := hI
  rw [← hI]
  by_cases hlt : m < s.length
  case neg =>
    obtain rfl : m = s.length := by omega
    clear hnext
    rw [List.drop_length]
    rw [show puF 10 (acF 10 (s.take s.length)) [] = (acF 10 (s.take s.length), 0) from rfl]
    generalize acF 10 (s.take s.length) = a
    refine wG Y87_T5 @Int.lt_irrefl ?_
    refine Fin.gen0 (rs := [.tmp 6, .tmp 7]) rfl (by first | exact .inl rfl | exact .inr rfl) (by simp only [resX, resA, ↓accU_f, ↓reduceIte, SA, SB, SC, SD, Y87_T5, valG, fpsG, evO, evB, evA, evA1, nilK, eqF, eqC, apOk, intOf, slB, slK,  gd, St.ev, putA, ofl, wrl, putE, V.ofVal, V.ofCell, bin2, un1, seg, fillV, partsOk, Value.oneCell', Nat.reduceBEq, Nat.reduceLT, Nat.reduceSub, Nat.reduceAdd, Nat.reduceMul, Nat.reduceLeDiff, Nat.reduceEqDiff, reduceCtorEq, Int.reduceLT, Int.reduceLE, Int.reduceEq, Int.reduceNe, Int.reduceBEq, Int.reduceBNe, Int.reduceAdd, Int.reduceSub, Int.reduceMul, Int.reduceToNat]; with_reducible exact rfl) ?_
    repeat (first | exact WkF.of (Wk.refl _) (by first | rfl | simp only [List.length_cons, List.length_nil, Nat.reduceAdd, V.ids, V.idsL, idsA, entOk, List.all_cons, List.all_nil, Bool.and_self, Bool.and_true, Bool.true_and, ltB, noId, Nat.reduceLT, decide_true, Bool.true_eq_false, tyV_id, fdV_id, tyL_id, fdL_id, byL_id]) | exact WkF.of (Wk.ro _ _) (by first | rfl | simp only [List.length_cons, List.length_nil, Nat.reduceAdd, V.ids, V.idsL, idsA, entOk, List.all_cons, List.all_nil, Bool.and_self, Bool.and_true, Bool.true_and, ltB, noId, Nat.reduceLT, decide_true, Bool.true_eq_false, tyV_id, fdV_id, tyL_id, fdL_id, byL_id]) | refine WkF.tu ?_ | refine WkF.ag ?_ | refine WkFL.cons ?_ ?_ | exact WkFL.nil)
  have hlt' : (m : Int) < (s.length : Int) := by omega
  have hm1 := wrap_succ hlt (by omega)
  have hg := get_some hlt
  have hst := acF_snoc 10 hlt
  have hn2 := hnext (m + 1) (by omega) (by omega)
  have hd : s.drop m = s[m] :: s.drop (m + 1) := List.drop_eq_getElem_cons hlt
  rw [hd] at hI ⊢
  rw [puF] at hI ⊢
  rw [hst] at hn2
  clear hnext hst
  generalize acF 10 (s.take m) = a at hac hn2 hI ⊢
  generalize hc : s[m] = c at hg hn2 hI ⊢
  have hcl := c.toNat_lt
  have q := c_lower c
  have hlw : (lowC c).toNat < 256 := (lowC c).toNat_lt
  refine wnG Y87_T5 (And.intro hlt' (And.intro hg BY)) ?_
  refine AWp.block ?_
  refine wnG Y87_T5 (And.intro hlt' (And.intro hg BY)) ?_
  refine AWp.tail (ι := { d : Nat // dgv c = some d ∧ d ≤ 35 }) (fun i => ⟨dn 172 [(0, .im (.string ⟨(s).toArray⟩)), (1, (.im (.int .i64 (10)))), (8, (.im (.bool (false)))), (10, .im (.int .u64 (1844674407370955162))), (11, .im (.int .u64 (4294967295))), (12, (.im (.bool (false)))), (13, .im (.int .u64 ((a : Int)))), (16, .im (.int .u8 ((i.1 : Nat) : Int))), (99, .sl (s.map byB) .ro), (100, (.im (.int .i64 (s.length)))), (101, (.im (.int .i64 ((m : Int)))))], ofl []⟩) (fun i => ?_) (fun rest ht => ?_)
  · obtain ⟨d, hdv, hd35⟩ := i
    dsimp only
    rw [hdv] at hI hn2 ⊢
    simp only [Option.getD_some] at hI hn2 ⊢
    have w1 : IntKind.u8.wrap 10 = 10 := by kernel_rfl
    have w2 : IntKind.u64.wrap 10 = 10 := by kernel_rfl
    by_cases hdb : 10 ≤ d
    · have hdb' : ((d : Nat) : Int) ≥ 10 := by omega
      rw [if_pos hdb]
      refine wG Y87_T5 (And.intro w1 hdb') ?_
      refine AR.mkI ?_
      refine goG Y87_T5 True.intro ?_
      refine wG Y87_T5 True.intro ?_
      refine Fin.gen0 (rs := [.tmp 6, .tmp 7]) rfl (by first | exact .inl rfl | exact .inr rfl) (by simp only [resX, resA, ↓accU_f, ↓reduceIte, SA, SB, SC, SD, Y87_T5, valG, fpsG, evO, evB, evA, evA1, nilK, eqF, eqC, apOk, intOf, slB, slK,  gd, St.ev, putA, ofl, wrl, putE, V.ofVal, V.ofCell, bin2, un1, seg, fillV, partsOk, Value.oneCell', Nat.reduceBEq, Nat.reduceLT, Nat.reduceSub, Nat.reduceAdd, Nat.reduceMul, Nat.reduceLeDiff, Nat.reduceEqDiff, reduceCtorEq, Int.reduceLT, Int.reduceLE, Int.reduceEq, Int.reduceNe, Int.reduceBEq, Int.reduceBNe, Int.reduceAdd, Int.reduceSub, Int.reduceMul, Int.reduceToNat]; with_reducible exact rfl) ?_
      repeat (first | exact WkF.of (Wk.refl _) (by first | rfl | simp only [List.length_cons, List.length_nil, Nat.reduceAdd, V.ids, V.idsL, idsA, entOk, List.all_cons, List.all_nil, Bool.and_self, Bool.and_true, Bool.true_and, ltB, noId, Nat.reduceLT, decide_true, Bool.true_eq_false, tyV_id, fdV_id, tyL_id, fdL_id, byL_id]) | exact WkF.of (Wk.ro _ _) (by first | rfl | simp only [List.length_cons, List.length_nil, Nat.reduceAdd, V.ids, V.idsL, idsA, entOk, List.all_cons, List.all_nil, Bool.and_self, Bool.and_true, Bool.true_and, ltB, noId, Nat.reduceLT, decide_true, Bool.true_eq_false, tyV_id, fdV_id, tyL_id, fdL_id, byL_id]) | refine WkF.tu ?_ | refine WkF.ag ?_ | refine WkFL.cons ?_ ?_ | exact WkFL.nil)
    have hdb' : ¬ ((d : Nat) : Int) ≥ 10 := by omega
    rw [if_neg hdb] at hI ⊢
    have hcut : ¬ (a : Int) ≥ 1844674407370955162 := by omega
    have w3 : IntKind.u64.wrap ((a : Int) * 10) = (a : Int) * 10 := IntWalk.u64_in _ (by omega)
    have w4 : IntKind.u64.wrap ((d : Nat) : Int) = ((d : Nat) : Int) := IntWalk.u64_in _ (by omega)
    have w5 : IntKind.u64.wrap ((a : Int) * 10 + ((d : Nat) : Int)) = (((a * 10 + d : Nat)) : Int) := by rw [IntWalk.u64_in _ (by omega)]; omega
    have h1 : ¬ (((a * 10 + d : Nat)) : Int) < (a : Int) * 10 := by omega
    by_cases hbig : 4294967295 < a * 10 + d
    · have hbig' : (((a * 10 + d : Nat)) : Int) > 4294967295 := by omega
      rw [if_pos hbig]
      refine wG Y87_T5 (And.intro w1 (And.intro w2 (And.intro hdb' (And.intro hcut (And.intro w3 (And.intro w4 (And.intro w5 (And.intro h1 hbig')))))))) ?_
      refine AR.mkI ?_
      refine goG Y87_T5 True.intro ?_
      refine wG Y87_T5 True.intro ?_
      refine Fin.gen0 (rs := [.tmp 6, .tmp 7]) rfl (by first | exact .inl rfl | exact .inr rfl) (by simp only [resX, resA, ↓accU_f, ↓reduceIte, SA, SB, SC, SD, Y87_T5, valG, fpsG, evO, evB, evA, evA1, nilK, eqF, eqC, apOk, intOf, slB, slK,  gd, St.ev, putA, ofl, wrl, putE, V.ofVal, V.ofCell, bin2, un1, seg, fillV, partsOk, Value.oneCell', Nat.reduceBEq, Nat.reduceLT, Nat.reduceSub, Nat.reduceAdd, Nat.reduceMul, Nat.reduceLeDiff, Nat.reduceEqDiff, reduceCtorEq, Int.reduceLT, Int.reduceLE, Int.reduceEq, Int.reduceNe, Int.reduceBEq, Int.reduceBNe, Int.reduceAdd, Int.reduceSub, Int.reduceMul, Int.reduceToNat]; with_reducible exact rfl) ?_
      repeat (first | exact WkF.of (Wk.refl _) (by first | rfl | simp only [List.length_cons, List.length_nil, Nat.reduceAdd, V.ids, V.idsL, idsA, entOk, List.all_cons, List.all_nil, Bool.and_self, Bool.and_true, Bool.true_and, ltB, noId, Nat.reduceLT, decide_true, Bool.true_eq_false, tyV_id, fdV_id, tyL_id, fdL_id, byL_id]) | exact WkF.of (Wk.ro _ _) (by first | rfl | simp only [List.length_cons, List.length_nil, Nat.reduceAdd, V.ids, V.idsL, idsA, entOk, List.all_cons, List.all_nil, Bool.and_self, Bool.and_true, Bool.true_and, ltB, noId, Nat.reduceLT, decide_true, Bool.true_eq_false, tyV_id, fdV_id, tyL_id, fdL_id, byL_id]) | refine WkF.tu ?_ | refine WkF.ag ?_ | refine WkFL.cons ?_ ?_ | exact WkFL.nil)
    have hbig' : ¬ (((a * 10 + d : Nat)) : Int) > 4294967295 := by omega
    rw [if_neg hbig] at hI ⊢
    have hn3 := hn2 ⟨hI, by omega⟩
    rw [hI]
    clear hn2
    refine wG Y87_T5 (And.intro w1 (And.intro w2 (And.intro hdb' (And.intro hcut (And.intro w3 (And.intro w4 (And.intro w5 (And.intro h1 (And.intro hbig' hm1))))))))) ?_
    refine ALp.cutP 0 [(0, .im (.string ⟨(s).toArray⟩)), (1, (.im (.int .i64 (10)))), (8, (.im (.bool (false)))), (10, .im (.int .u64 (1844674407370955162))), (11, .im (.int .u64 (4294967295))), (12, (.im (.bool (false)))), (13, .im (.int .u64 (((a * 10 + d : Nat) : Int)))), (99, .sl (s.map byB) .ro), (100, (.im (.int .i64 (s.length)))), (101, (.im (.int .i64 ((((m + 1 : Nat)) : Int)))))] [] byL_id ?_
    exact hn3
  by_cases hdig : 48 ≤ c.toNat ∧ c.toNat ≤ 57
  · have e1 : (48 : Int) ≤ (c.toNat : Int) := by omega
    have e2 : (c.toNat : Int) ≤ 57 := by omega
    have w : IntKind.u8.wrap ((c.toNat : Int) - 48) = ((c.toNat - 48 : Nat) : Int) := by rw [IntWalk.u8_in _ (by omega)]; omega
    refine wG Y87_T5 (And.intro e1 (And.intro e2 w)) ?_
    refine AWp.cutP 0 [(0, .im (.string ⟨(s).toArray⟩)), (1, (.im (.int .i64 (10)))), (8, (.im (.bool (false)))), (10, .im (.int .u64 (1844674407370955162))), (11, .im (.int .u64 (4294967295))), (12, (.im (.bool (false)))), (13, .im (.int .u64 ((a : Int)))), (16, .im (.int .u8 ((c.toNat - 48 : Nat) : Int))), (99, .sl (s.map byB) .ro), (100, (.im (.int .i64 (s.length)))), (101, (.im (.int .i64 ((m : Int)))))] [] (And.intro byL_id True.intro) ?_
    exact ht ⟨c.toNat - 48, by unfold dgv; rw [if_pos hdig], by omega⟩
  have hb : (decide ((48 : Int) ≤ (c.toNat : Int)) && decide ((c.toNat : Int) ≤ 57)) = false := by
    rw [Bool.eq_false_iff]
    simp only [ne_eq, Bool.and_eq_true, decide_eq_true_eq]
    omega
  by_cases hl1 : 97 ≤ (lowC c).toNat
  case neg =>
    have e1 : ¬ (97 : Int) ≤ ((lowC c).toNat : Int) := by omega
    rw [show dgv c = none by unfold dgv; rw [if_neg hdig, if_neg (by omega)]]
    refine wG Y87_T5 hb ?_
    refine AR.callP q True.intro byL_id ?_
    refine goG Y87_T5 e1 ?_
    refine wG Y87_T5 True.intro ?_
    refine AR.mkI ?_
    refine goG Y87_T5 True.intro ?_
    refine wG Y87_T5 True.intro ?_
    refine Fin.gen0 (rs := [.tmp 6, .tmp 7]) rfl (by first | exact .inl rfl | exact .inr rfl) (by simp only [resX, resA, ↓accU_f, ↓reduceIte, SA, SB, SC, SD, Y87_T5, valG, fpsG, evO, evB, evA, evA1, nilK, eqF, eqC, apOk, intOf, slB, slK,  gd, St.ev, putA, ofl, wrl, putE, V.ofVal, V.ofCell, bin2, un1, seg, fillV, partsOk, Value.oneCell', Nat.reduceBEq, Nat.reduceLT, Nat.reduceSub, Nat.reduceAdd, Nat.reduceMul, Nat.reduceLeDiff, Nat.reduceEqDiff, reduceCtorEq, Int.reduceLT, Int.reduceLE, Int.reduceEq, Int.reduceNe, Int.reduceBEq, Int.reduceBNe, Int.reduceAdd, Int.reduceSub, Int.reduceMul, Int.reduceToNat]; with_reducible exact rfl) ?_
    repeat (first | exact WkF.of (Wk.refl _) (by first | rfl | simp only [List.length_cons, List.length_nil, Nat.reduceAdd, V.ids, V.idsL, idsA, entOk, List.all_cons, List.all_nil, Bool.and_self, Bool.and_true, Bool.true_and, ltB, noId, Nat.reduceLT, decide_true, Bool.true_eq_false, tyV_id, fdV_id, tyL_id, fdL_id, byL_id]) | exact WkF.of (Wk.ro _ _) (by first | rfl | simp only [List.length_cons, List.length_nil, Nat.reduceAdd, V.ids, V.idsL, idsA, entOk, List.all_cons, List.all_nil, Bool.and_self, Bool.and_true, Bool.true_and, ltB, noId, Nat.reduceLT, decide_true, Bool.true_eq_false, tyV_id, fdV_id, tyL_id, fdL_id, byL_id]) | refine WkF.tu ?_ | refine WkF.ag ?_ | refine WkFL.cons ?_ ?_ | exact WkFL.nil)
  have e1 : (97 : Int) ≤ ((lowC c).toNat : Int) := by omega
  by_cases hl2 : (lowC c).toNat ≤ 122
  case neg =>
    have e2 : ¬ ((lowC c).toNat : Int) ≤ 122 := by omega
    rw [show dgv c = none by unfold dgv; rw [if_neg hdig, if_neg (by omega)]]
    refine wG Y87_T5 hb ?_
    refine AR.callP q True.intro byL_id ?_
    refine goG Y87_T5 e1 ?_
    refine AR.callP q True.intro byL_id ?_
    refine goG Y87_T5 e2 ?_
    refine wG Y87_T5 True.intro ?_
    refine AR.mkI ?_
    refine goG Y87_T5 True.intro ?_
    refine wG Y87_T5 True.intro ?_
    refine Fin.gen0 (rs := [.tmp 6, .tmp 7]) rfl (by first | exact .inl rfl | exact .inr rfl) (by simp only [resX, resA, ↓accU_f, ↓reduceIte, SA, SB, SC, SD, Y87_T5, valG, fpsG, evO, evB, evA, evA1, nilK, eqF, eqC, apOk, intOf, slB, slK,  gd, St.ev, putA, ofl, wrl, putE, V.ofVal, V.ofCell, bin2, un1, seg, fillV, partsOk, Value.oneCell', Nat.reduceBEq, Nat.reduceLT, Nat.reduceSub, Nat.reduceAdd, Nat.reduceMul, Nat.reduceLeDiff, Nat.reduceEqDiff, reduceCtorEq, Int.reduceLT, Int.reduceLE, Int.reduceEq, Int.reduceNe, Int.reduceBEq, Int.reduceBNe, Int.reduceAdd, Int.reduceSub, Int.reduceMul, Int.reduceToNat]; with_reducible exact rfl) ?_
    repeat (first | exact WkF.of (Wk.refl _) (by first | rfl | simp only [List.length_cons, List.length_nil, Nat.reduceAdd, V.ids, V.idsL, idsA, entOk, List.all_cons, List.all_nil, Bool.and_self, Bool.and_true, Bool.true_and, ltB, noId, Nat.reduceLT, decide_true, Bool.true_eq_false, tyV_id, fdV_id, tyL_id, fdL_id, byL_id]) | exact WkF.of (Wk.ro _ _) (by first | rfl | simp only [List.length_cons, List.length_nil, Nat.reduceAdd, V.ids, V.idsL, idsA, entOk, List.all_cons, List.all_nil, Bool.and_self, Bool.and_true, Bool.true_and, ltB, noId, Nat.reduceLT, decide_true, Bool.true_eq_false, tyV_id, fdV_id, tyL_id, fdL_id, byL_id]) | refine WkF.tu ?_ | refine WkF.ag ?_ | refine WkFL.cons ?_ ?_ | exact WkFL.nil)
  have e2 : ((lowC c).toNat : Int) ≤ 122 := by omega
  have w1 : IntKind.u8.wrap (((lowC c).toNat : Int) - 97) = ((lowC c).toNat : Int) - 97 := IntWalk.u8_in _ (by omega)
  have w2 : IntKind.u8.wrap (((lowC c).toNat : Int) - 97 + 10) = (((lowC c).toNat - 87 : Nat) : Int) := by rw [IntWalk.u8_in _ (by omega)]; omega
  refine wG Y87_T5 hb ?_
  refine AR.callP q True.intro byL_id ?_
  refine goG Y87_T5 e1 ?_
  refine AR.callP q True.intro byL_id ?_
  refine goG Y87_T5 e2 ?_
  refine wG Y87_T5 True.intro ?_
  refine AR.callP q True.intro byL_id ?_
  refine goG Y87_T5 (And.intro w1 w2) ?_
  refine wG Y87_T5 True.intro ?_
  refine AWp.cutP 0 [(0, .im (.string ⟨(s).toArray⟩)), (1, (.im (.int .i64 (10)))), (8, (.im (.bool (false)))), (10, .im (.int .u64 (1844674407370955162))), (11, .im (.int .u64 (4294967295))), (12, (.im (.bool (false)))), (13, .im (.int .u64 ((a : Int)))), (16, .im (.int .u8 (((lowC c).toNat - 87 : Nat) : Int))), (99, .sl (s.map byB) .ro), (100, (.im (.int .i64 (s.length)))), (101, (.im (.int .i64 ((m : Int)))))] [] (And.intro byL_id True.intro) ?_
  exact ht ⟨(lowC c).toNat - 87, by unfold dgv; rw [if_neg hdig, if_pos ⟨hl1, hl2⟩], by omega⟩
set_option maxHeartbeats 2000000 in
theorem c_pu16 (s : Bs) (hs : s.length ≤ 4194304) : PC Tryd.prog 87 [.im (.string ⟨(s).toArray⟩), (.im (.int .i64 (16))), (.im (.int .i64 (32)))] (.tu [.im (.int .u64 (((puR 16 s).1 : Int))), errV (puR 16 s).2]) := by
  refine PC.enter 172 Tryd.func87 rfl (by decide) rfl rfl (s := [(0, .im (.string ⟨(s).toArray⟩)), (1, (.im (.int .i64 (16)))), (2, (.im (.int .i64 (32))))]) (by rfl) ?_
  cases hn : (s == ([] : Bs)) with
  | true =>
    rw [beq_iff_eq] at hn
    subst hn
    have e : (([] : Bs) == []) = true := rfl
    refine wG Y87_T5 (And.intro BY e) ?_
    refine AR.mkI ?_
    refine goG Y87_T5 True.intro ?_
    refine wG Y87_T5 True.intro ?_
    rw [show (puR 16 []) = (0, 2) from rfl]
    refine Fin.gen0 (rs := [.tmp 6, .tmp 7]) rfl (by first | exact .inl rfl | exact .inr rfl) (by simp only [resX, resA, ↓accU_f, ↓reduceIte, SA, SB, SC, SD, Y87_T5, valG, fpsG, evO, evB, evA, evA1, nilK, eqF, eqC, apOk, intOf, slB, slK,  gd, St.ev, putA, ofl, wrl, putE, V.ofVal, V.ofCell, bin2, un1, seg, fillV, partsOk, Value.oneCell', Nat.reduceBEq, Nat.reduceLT, Nat.reduceSub, Nat.reduceAdd, Nat.reduceMul, Nat.reduceLeDiff, Nat.reduceEqDiff, reduceCtorEq, Int.reduceLT, Int.reduceLE, Int.reduceEq, Int.reduceNe, Int.reduceBEq, Int.reduceBNe, Int.reduceAdd, Int.reduceSub, Int.reduceMul, Int.reduceToNat]; with_reducible exact rfl) ?_
    repeat (first | exact WkF.of (Wk.refl _) (by first | rfl | simp only [List.length_cons, List.length_nil, Nat.reduceAdd, V.ids, V.idsL, idsA, entOk, List.all_cons, List.all_nil, Bool.and_self, Bool.and_true, Bool.true_and, ltB, noId, Nat.reduceLT, decide_true, Bool.true_eq_false, tyV_id, fdV_id, tyL_id, fdL_id, byL_id]) | exact WkF.of (Wk.ro _ _) (by first | rfl | simp only [List.length_cons, List.length_nil, Nat.reduceAdd, V.ids, V.idsL, idsA, entOk, List.all_cons, List.all_nil, Bool.and_self, Bool.and_true, Bool.true_and, ltB, noId, Nat.reduceLT, decide_true, Bool.true_eq_false, tyV_id, fdV_id, tyL_id, fdL_id, byL_id]) | refine WkF.tu ?_ | refine WkF.ag ?_ | refine WkFL.cons ?_ ?_ | exact WkFL.nil)
  | false =>
  have hne : s ≠ [] := by rwa [beq_eq_false_iff_ne] at hn
  rw [show puR 16 s = puF 16 0 s by unfold puR; rw [if_neg hne]]
  have hA : s.length ≤ 140737488355328 := by omega
  have hk1 : IntKind.u64.wrap 32 = 32 := by kernel_rfl
  have hk2 : IntKind.u64.wrap (1 * 2 ^ min 32 IntKind.u64.bits) = 4294967296 := by kernel_rfl
  have hk3 : IntKind.u64.wrap 4294967295 = 4294967295 := by kernel_rfl
  refine wG Y87_T5 (And.intro BY (And.intro hn (And.intro hA (And.intro hk1 (And.intro hk2 hk3))))) ?_
  refine AWp.loop ?_
  refine ALp.cutP 0 [(0, .im (.string ⟨(s).toArray⟩)), (1, (.im (.int .i64 (16)))), (8, (.im (.bool (false)))), (10, .im (.int .u64 (1152921504606846976))), (11, .im (.int .u64 (4294967295))), (12, (.im (.bool (false)))), (13, .im (.int .u64 (((acF 16 (s.take (0)) : Nat) : Int)))), (99, .sl (s.map byB) .ro), (100, (.im (.int .i64 (s.length)))), (101, (.im (.int .i64 ((((0 : Nat)) : Int)))))] [] byL_id ?_
  refine ALp.upto s.length (fun m => puF 16 (acF 16 (s.take m)) (s.drop m) = puF 16 0 s ∧ acF 16 (s.take m) ≤ 4294967295) (fun m => ⟨dn 172 [(0, .im (.string ⟨(s).toArray⟩)), (1, (.im (.int .i64 (16)))), (8, (.im (.bool (false)))), (10, .im (.int .u64 (1152921504606846976))), (11, .im (.int .u64 (4294967295))), (12, (.im (.bool (false)))), (13, .im (.int .u64 (((acF 16 (s.take (m)) : Nat) : Int)))), (99, .sl (s.map byB) .ro), (100, (.im (.int .i64 (s.length)))), (101, (.im (.int .i64 ((((m : Nat)) : Int)))))], ofl []⟩) ?_ 0 (Nat.zero_le _) ⟨rfl, Nat.zero_le _⟩
  intro m hm hI hnext
  obtain ⟨hI, hac⟩ := hI
  rw [← hI]
  by_cases hlt : m < s.length
  case neg =>
    obtain rfl : m = s.length := by omega
    clear hnext
    rw [List.drop_length]
    rw [show puF 16 (acF 16 (s.take s.length)) [] = (acF 16 (s.take s.length), 0) from rfl]
    generalize acF 16 (s.take s.length) = a
    refine wG Y87_T5 @Int.lt_irrefl ?_
    refine Fin.gen0 (rs := [.tmp 6, .tmp 7]) rfl (by first | exact .inl rfl | exact .inr rfl) (by simp only [resX, resA, ↓accU_f, ↓reduceIte, SA, SB, SC, SD, Y87_T5, valG, fpsG, evO, evB, evA, evA1, nilK, eqF, eqC, apOk, intOf, slB, slK,  gd, St.ev, putA, ofl, wrl, putE, V.ofVal, V.ofCell, bin2, un1, seg, fillV, partsOk, Value.oneCell', Nat.reduceBEq, Nat.reduceLT, Nat.reduceSub, Nat.reduceAdd, Nat.reduceMul, Nat.reduceLeDiff, Nat.reduceEqDiff, reduceCtorEq, Int.reduceLT, Int.reduceLE, Int.reduceEq, Int.reduceNe, Int.reduceBEq, Int.reduceBNe, Int.reduceAdd, Int.reduceSub, Int.reduceMul, Int.reduceToNat]; with_reducible exact rfl) ?_
    repeat (first | exact WkF.of (Wk.refl _) (by first | rfl | simp only [List.length_cons, List.length_nil, Nat.reduceAdd, V.ids, V.idsL, idsA, entOk, List.all_cons, List.all_nil, Bool.and_self, Bool.and_true, Bool.true_and, ltB, noId, Nat.reduceLT, decide_true, Bool.true_eq_false, tyV_id, fdV_id, tyL_id, fdL_id, byL_id]) | exact WkF.of (Wk.ro _ _) (by first | rfl | simp only [List.length_cons, List.length_nil, Nat.reduceAdd, V.ids, V.idsL, idsA, entOk, List.all_cons, List.all_nil, Bool.and_self, Bool.and_true, Bool.true_and, ltB, noId, Nat.reduceLT, decide_true, Bool.true_eq_false, tyV_id, fdV_id, tyL_id, fdL_id, byL_id]) | refine WkF.tu ?_ | refine WkF.ag ?_ | refine WkFL.cons ?_ ?_ | exact WkFL.nil)
  have hlt' : (m : Int) < (s.length : Int) := by omega
  have hm1 := wrap_succ hlt (by omega)
  have hg := get_some hlt
  have hst := acF_snoc 16 hlt
  have hn2 := hnext (m + 1) (by omega) (by omega)
  have hd : s.drop m = s[m] :: s.drop (m + 1) := List.drop_eq_getElem_cons hlt
  rw [hd] at hI ⊢
  rw [puF] at hI ⊢
  rw [hst] at hn2
  clear hnext hst
  generalize acF 16 (s.take m) = a at hac hn2 hI ⊢
  generalize hc : s[m] = c at hg hn2 hI ⊢
  have hcl := c.toNat_lt
  have q := c_lower c
  have hlw : (lowC c).toNat < 256 := (lowC c).toNat_lt
  refine wnG Y87_T5 (And.intro hlt' (And.intro hg BY)) ?_
  refine AWp.block ?_
  refine wnG Y87_T5 (And.intro hlt' (And.intro hg BY)) ?_
  refine AWp.tail (ι := { d : Nat // dgv c = some d ∧ d ≤ 35 }) (fun i => ⟨dn 172 [(0, .im (.string ⟨(s).toArray⟩)), (1, (.im (.int .i64 (16)))), (8, (.im (.bool (false)))), (10, .im (.int .u64 (1152921504606846976))), (11, .im (.int .u64 (4294967295))), (12, (.im (.bool (false)))), (13, .im (.int .u64 ((a : Int)))), (16, .im (.int .u8 ((i.1 : Nat) : Int))), (99, .sl (s.map byB) .ro), (100, (.im (.int .i64 (s.length)))), (101, (.im (.int .i64 ((m : Int)))))], ofl []⟩) (fun i => ?_) (fun rest ht => ?_)
  · obtain ⟨d, hdv, hd35⟩ := i
    dsimp only
    rw [hdv] at hI hn2 ⊢
    simp only [Option.getD_some] at hI hn2 ⊢
    have w1 : IntKind.u8.wrap 16 = 16 := by kernel_rfl
    have w2 : IntKind.u64.wrap 16 = 16 := by kernel_rfl
    by_cases hdb : 16 ≤ d
    · have hdb' : ((d : Nat) : Int) ≥ 16 := by omega
      rw [if_pos hdb]
      refine wG Y87_T5 (And.intro w1 hdb') ?_
      refine AR.mkI ?_
      refine goG Y87_T5 True.intro ?_
      refine wG Y87_T5 True.intro ?_
      refine Fin.gen0 (rs := [.tmp 6, .tmp 7]) rfl (by first | exact .inl rfl | exact .inr rfl) (by simp only [resX, resA, ↓accU_f, ↓reduceIte, SA, SB, SC, SD, Y87_T5, valG, fpsG, evO, evB, evA, evA1, nilK, eqF, eqC, apOk, intOf, slB, slK,  gd, St.ev, putA, ofl, wrl, putE, V.ofVal, V.ofCell, bin2, un1, seg, fillV, partsOk, Value.oneCell', Nat.reduceBEq, Nat.reduceLT, Nat.reduceSub, Nat.reduceAdd, Nat.reduceMul, Nat.reduceLeDiff, Nat.reduceEqDiff, reduceCtorEq, Int.reduceLT, Int.reduceLE, Int.reduceEq, Int.reduceNe, Int.reduceBEq, Int.reduceBNe, Int.reduceAdd, Int.reduceSub, Int.reduceMul, Int.reduceToNat]; with_reducible exact rfl) ?_
      repeat (first | exact WkF.of (Wk.refl _) (by first | rfl | simp only [List.length_cons, List.length_nil, Nat.reduceAdd, V.ids, V.idsL, idsA, entOk, List.all_cons, List.all_nil, Bool.and_self, Bool.and_true, Bool.true_and, ltB, noId, Nat.reduceLT, decide_true, Bool.true_eq_false, tyV_id, fdV_id, tyL_id, fdL_id, byL_id]) | exact WkF.of (Wk.ro _ _) (by first | rfl | simp only [List.length_cons, List.length_nil, Nat.reduceAdd, V.ids, V.idsL, idsA, entOk, List.all_cons, List.all_nil, Bool.and_self, Bool.and_true, Bool.true_and, ltB, noId, Nat.reduceLT, decide_true, Bool.true_eq_false, tyV_id, fdV_id, tyL_id, fdL_id, byL_id]) | refine WkF.tu ?_ | refine WkF.ag ?_ | refine WkFL.cons ?_ ?_ | exact WkFL.nil)
    have hdb' : ¬ ((d : Nat) : Int) ≥ 16 := by omega
    rw [if_neg hdb] at hI ⊢
    have hcut : ¬ (a : Int) ≥ 1152921504606846976 := by omega
    have w3 : IntKind.u64.wrap ((a : Int) * 16) = (a : Int) * 16 := IntWalk.u64_in _ (by omega)
    have w4 : IntKind.u64.wrap ((d : Nat) : Int) = ((d : Nat) : Int) := IntWalk.u64_in _ (by omega)
    have w5 : IntKind.u64.wrap ((a : Int) * 16 + ((d : Nat) : Int)) = (((a * 16 + d : Nat)) : Int) := by rw [IntWalk.u64_in _ (by omega)]; omega
    have h1 : ¬ (((a * 16 + d : Nat)) : Int) < (a : Int) * 16 := by omega
    by_cases hbig : 4294967295 < a * 16 + d
    · have hbig' : (((a * 16 + d : Nat)) : Int) > 4294967295 := by omega
      rw [if_pos hbig]
      refine wG Y87_T5 (And.intro w1 (And.intro w2 (And.intro hdb' (And.intro hcut (And.intro w3 (And.intro w4 (And.intro w5 (And.intro h1 hbig')))))))) ?_
      refine AR.mkI ?_
      refine goG Y87_T5 True.intro ?_
      refine wG Y87_T5 True.intro ?_
      refine Fin.gen0 (rs := [.tmp 6, .tmp 7]) rfl (by first | exact .inl rfl | exact .inr rfl) (by simp only [resX, resA, ↓accU_f, ↓reduceIte, SA, SB, SC, SD, Y87_T5, valG, fpsG, evO, evB, evA, evA1, nilK, eqF, eqC, apOk, intOf, slB, slK,  gd, St.ev, putA, ofl, wrl, putE, V.ofVal, V.ofCell, bin2, un1, seg, fillV, partsOk, Value.oneCell', Nat.reduceBEq, Nat.reduceLT, Nat.reduceSub, Nat.reduceAdd, Nat.reduceMul, Nat.reduceLeDiff, Nat.reduceEqDiff, reduceCtorEq, Int.reduceLT, Int.reduceLE, Int.reduceEq, Int.reduceNe, Int.reduceBEq, Int.reduceBNe, Int.reduceAdd, Int.reduceSub, Int.reduceMul, Int.reduceToNat]; with_reducible exact rfl) ?_
      repeat (first | exact WkF.of (Wk.refl _) (by first | rfl | simp only [List.length_cons, List.length_nil, Nat.reduceAdd, V.ids, V.idsL, idsA, entOk, List.all_cons, List.all_nil, Bool.and_self, Bool.and_true, Bool.true_and, ltB, noId, Nat.reduceLT, decide_true, Bool.true_eq_false, tyV_id, fdV_id, tyL_id, fdL_id, byL_id]) | exact WkF.of (Wk.ro _ _) (by first | rfl | simp only [List.length_cons, List.length_nil, Nat.reduceAdd, V.ids, V.idsL, idsA, entOk, List.all_cons, List.all_nil, Bool.and_self, Bool.and_true, Bool.true_and, ltB, noId, Nat.reduceLT, decide_true, Bool.true_eq_false, tyV_id, fdV_id, tyL_id, fdL_id, byL_id]) | refine WkF.tu ?_ | refine WkF.ag ?_ | refine WkFL.cons ?_ ?_ | exact WkFL.nil)
    have hbig' : ¬ (((a * 16 + d : Nat)) : Int) > 4294967295 := by omega
    rw [if_neg hbig] at hI ⊢
    have hn3 := hn2 ⟨hI, by omega⟩
    rw [hI]
    clear hn2
    refine wG Y87_T5 (And.intro w1 (And.intro w2 (And.intro hdb' (And.intro hcut (And.intro w3 (And.intro w4 (And.intro w5 (And.intro h1 (And.intro hbig' hm1))))))))) ?_
    refine ALp.cutP 0 [(0, .im (.string ⟨(s).toArray⟩)), (1, (.im (.int .i64 (16)))), (8, (.im (.bool (false)))), (10, .im (.int .u64 (1152921504606846976))), (11, .im (.int .u64 (4294967295))), (12, (.im (.bool (false)))), (13, .im (.int .u64 (((a * 16 + d : Nat) : Int)))), (99, .sl (s.map byB) .ro), (100, (.im (.int .i64 (s.length)))), (101, (.im (.int .i64 ((((m + 1 : Nat)) : Int)))))] [] byL_id ?_
    exact hn3
  by_cases hdig : 48 ≤ c.toNat ∧ c.toNat ≤ 57
  · have e1 : (48 : Int) ≤ (c.toNat : Int) := by omega
    have e2 : (c.toNat : Int) ≤ 57 := by omega
    have w : IntKind.u8.wrap ((c.toNat : Int) - 48) = ((c.toNat - 48 : Nat) : Int) := by rw [IntWalk.u8_in _ (by omega)]; omega
    refine wG Y87_T5 (And.intro e1 (And.intro e2 w)) ?_
    refine AWp.cutP 0 [(0, .im (.string ⟨(s).toArray⟩)), (1, (.im (.int .i64 (16)))), (8, (.im (.bool (false)))), (10, .im (.int .u64 (1152921504606846976))), (11, .im (.int .u64 (4294967295))), (12, (.im (.bool (false)))), (13, .im (.int .u64 ((a : Int)))), (16, .im (.int .u8 ((c.toNat - 48 : Nat) : Int))), (99, .sl (s.map byB) .ro), (100, (.im (.int .i64 (s.length)))), (101, (.im (.int .i64 ((m : Int)))))] [] (And.intro byL_id True.intro) ?_
    exact ht ⟨c.toNat - 48, by unfold dgv; rw [if_pos hdig], by omega⟩
  have hb : (decide ((48 : Int) ≤ (c.toNat : Int)) && decide ((c.toNat : Int) ≤ 57)) = false := by
    rw [Bool.eq_false_iff]
    simp only [ne_eq, Bool.and_eq_true, decide_eq_true_eq]
    omega
  by_cases hl1 : 97 ≤ (lowC c).toNat
  case neg =>
    have e1 : ¬ (97 : Int) ≤ ((lowC c).toNat : Int) := by omega
    rw [show dgv c = none by unfold dgv; rw [if_neg hdig, if_neg (by omega)]]
    refine wG Y87_T5 hb ?_
    refine AR.callP q True.intro byL_id ?_
    refine goG Y87_T5 e1 ?_
    refine wG Y87_T5 True.intro ?_
    refine AR.mkI ?_
    refine goG Y87_T5 True.intro ?_
    refine wG Y87_T5 True.intro ?_
    refine Fin.gen0 (rs := [.tmp 6, .tmp 7]) rfl (by first | exact .inl rfl | exact .inr rfl) (by simp only [resX, resA, ↓accU_f, ↓reduceIte, SA, SB, SC, SD, Y87_T5, valG, fpsG, evO, evB, evA, evA1, nilK, eqF, eqC, apOk, intOf, slB, slK,  gd, St.ev, putA, ofl, wrl, putE, V.ofVal, V.ofCell, bin2, un1, seg, fillV, partsOk, Value.oneCell', Nat.reduceBEq, Nat.reduceLT, Nat.reduceSub, Nat.reduceAdd, Nat.reduceMul, Nat.reduceLeDiff, Nat.reduceEqDiff, reduceCtorEq, Int.reduceLT, Int.reduceLE, Int.reduceEq, Int.reduceNe, Int.reduceBEq, Int.reduceBNe, Int.reduceAdd, Int.reduceSub, Int.reduceMul, Int.reduceToNat]; with_reducible exact rfl) ?_
    repeat (first | exact WkF.of (Wk.refl _) (by first | rfl | simp only [List.length_cons, List.length_nil, Nat.reduceAdd, V.ids, V.idsL, idsA, entOk, List.all_cons, List.all_nil, Bool.and_self, Bool.and_true, Bool.true_and, ltB, noId, Nat.reduceLT, decide_true, Bool.true_eq_false, tyV_id, fdV_id, tyL_id, fdL_id, byL_id]) | exact WkF.of (Wk.ro _ _) (by first | rfl | simp only [List.length_cons, List.length_nil, Nat.reduceAdd, V.ids, V.idsL, idsA, entOk, List.all_cons, List.all_nil, Bool.and_self, Bool.and_true, Bool.true_and, ltB, noId, Nat.reduceLT, decide_true, Bool.true_eq_false, tyV_id, fdV_id, tyL_id, fdL_id, byL_id]) | refine WkF.tu ?_ | refine WkF.ag ?_ | refine WkFL.cons ?_ ?_ | exact WkFL.nil)
  have e1 : (97 : Int) ≤ ((lowC c).toNat : Int) := by omega
  by_cases hl2 : (lowC c).toNat ≤ 122
  case neg =>
    have e2 : ¬ ((lowC c).toNat : Int) ≤ 122 := by omega
    rw [show dgv c = none by unfold dgv; rw [if_neg hdig, if_neg (by omega)]]
    refine wG Y87_T5 hb ?_
    refine AR.callP q True.intro byL_id ?_
    refine goG Y87_T5 e1 ?_
    refine AR.callP q True.intro byL_id ?_
    refine goG Y87_T5 e2 ?_
    refine wG Y87_T5 True.intro ?_
    refine AR.mkI ?_
    refine goG Y87_T5 True.intro ?_
    refine wG Y87_T5 True.intro ?_
    refine Fin.gen0 (rs := [.tmp 6, .tmp 7]) rfl (by first | exact .inl rfl | exact .inr rfl) (by simp only [resX, resA, ↓accU_f, ↓reduceIte, SA, SB, SC, SD, Y87_T5, valG, fpsG, evO, evB, evA, evA1, nilK, eqF, eqC, apOk, intOf, slB, slK,  gd, St.ev, putA, ofl, wrl, putE, V.ofVal, V.ofCell, bin2, un1, seg, fillV, partsOk, Value.oneCell', Nat.reduceBEq, Nat.reduceLT, Nat.reduceSub, Nat.reduceAdd, Nat.reduceMul, Nat.reduceLeDiff, Nat.reduceEqDiff, reduceCtorEq, Int.reduceLT, Int.reduceLE, Int.reduceEq, Int.reduceNe, Int.reduceBEq, Int.reduceBNe, Int.reduceAdd, Int.reduceSub, Int.reduceMul, Int.reduceToNat]; with_reducible exact rfl) ?_
    repeat (first | exact WkF.of (Wk.refl _) (by first | rfl | simp only [List.length_cons, List.length_nil, Nat.reduceAdd, V.ids, V.idsL, idsA, entOk, List.all_cons, List.all_nil, Bool.and_self, Bool.and_true, Bool.true_and, ltB, noId, Nat.reduceLT, decide_true, Bool.true_eq_false, tyV_id, fdV_id, tyL_id, fdL_id, byL_id]) | exact WkF.of (Wk.ro _ _) (by first | rfl | simp only [List.length_cons, List.length_nil, Nat.reduceAdd, V.ids, V.idsL, idsA, entOk, List.all_cons, List.all_nil, Bool.and_self, Bool.and_true, Bool.true_and, ltB, noId, Nat.reduceLT, decide_true, Bool.true_eq_false, tyV_id, fdV_id, tyL_id, fdL_id, byL_id]) | refine WkF.tu ?_ | refine WkF.ag ?_ | refine WkFL.cons ?_ ?_ | exact WkFL.nil)
  have e2 : ((lowC c).toNat : Int) ≤ 122 := by omega
  have w1 : IntKind.u8.wrap (((lowC c).toNat : Int) - 97) = ((lowC c).toNat : Int) - 97 := IntWalk.u8_in _ (by omega)
  have w2 : IntKind.u8.wrap (((lowC c).toNat : Int) - 97 + 10) = (((lowC c).toNat - 87 : Nat) : Int) := by rw [IntWalk.u8_in _ (by omega)]; omega
  refine wG Y87_T5 hb ?_
  refine AR.callP q True.intro byL_id ?_
  refine goG Y87_T5 e1 ?_
  refine AR.callP q True.intro byL_id ?_
  refine goG Y87_T5 e2 ?_
  refine wG Y87_T5 True.intro ?_
  refine AR.callP q True.intro byL_id ?_
  refine goG Y87_T5 (And.intro w1 w2) ?_
  refine wG Y87_T5 True.intro ?_
  refine AWp.cutP 0 [(0, .im (.string ⟨(s).toArray⟩)), (1, (.im (.int .i64 (16)))), (8, (.im (.bool (false)))), (10, .im (.int .u64 (1152921504606846976))), (11, .im (.int .u64 (4294967295))), (12, (.im (.bool (false)))), (13, .im (.int .u64 ((a : Int)))), (16, .im (.int .u8 (((lowC c).toNat - 87 : Nat) : Int))), (99, .sl (s.map byB) .ro), (100, (.im (.int .i64 (s.length)))), (101, (.im (.int .i64 ((m : Int)))))] [] (And.intro byL_id True.intro) ?_
  exact ht ⟨(lowC c).toNat - 87, by unfold dgv; rw [if_neg hdig, if_pos ⟨hl1, hl2⟩], by omega⟩
end Go.Proofs.YtjilcaemoebloaaDoor

