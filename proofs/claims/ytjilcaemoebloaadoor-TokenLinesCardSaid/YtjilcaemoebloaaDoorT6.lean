/- Walks: strconv.ParseUint. -/
import Derived.Test.YtjilcaemoebloaaDoorHv
import Derived.Test.YtjilcaemoebloaaDoorT5
import Derived.Test.YtjilcaemoebloaaDoorSk
namespace Go.Proofs.YtjilcaemoebloaaDoor
set_option linter.unusedSimpArgs false
set_option linter.unusedVariables false
set_option linter.unnecessarySimpa false
open Go.RowKit
def errW (k : Int) : V := if k = 0 then .im .nilIface else .ifc
theorem puF_err (b : Nat) (s : Bs) : ∀ a, (puF b a s).2 = 0 ∨ (puF b a s).2 = 1 ∨ (puF b a s).2 = 2 := by
  induction s with
  | nil => intro a; exact .inl rfl
  | cons c r ih =>
    intro a
    unfold puF
    split
    · exact .inr (.inr rfl)
    · split
      · exact .inr (.inr rfl)
      · split
        · exact .inr (.inl rfl)
        · exact ih _
theorem puR_err (b : Nat) (s : Bs) : (puR b s).2 = 0 ∨ (puR b s).2 = 1 ∨ (puR b s).2 = 2 := by
  unfold puR
  split
  · exact .inr (.inr rfl)
  · exact puF_err b s 0

theorem c_psA (s : Bs) (b : Int) (n k : Int) (hs : s.length ≤ 4194304) (hk : k = 0 ∨ k = 1 ∨ k = 2) (h : PC Tryd.prog 87 [.im (.string ⟨(s).toArray⟩), (.im (.int .i64 (b))), (.im (.int .i64 (32)))] (.tu [.im (.int .u64 (n)), errV k])) : PC Tryd.prog 73 [.im (.string ⟨(s).toArray⟩), (.im (.int .i64 (b))), (.im (.int .i64 (32)))] (.tu [.im (.int .u64 (n)), errW k]) := by
  refine PC.enter 26 Tryd.func73 rfl (by decide) rfl rfl (s := [(0, .im (.string ⟨(s).toArray⟩)), (1, (.im (.int .i64 (b)))), (2, (.im (.int .i64 (32))))]) (by rfl) ?_
  rcases hk with rfl | hk
  · rw [show errV 0 = .im .nilIface from rfl] at h
    rw [show errW 0 = .im .nilIface from rfl]
    refine wG True.intro True.intro ?_
    refine AR.callP h True.intro True.intro ?_
    refine goG True.intro True.intro ?_
    refine wG True.intro True.intro ?_
    refine AR.eqI true ?_
    refine goG True.intro True.intro ?_
    refine wG True.intro True.intro ?_
    refine Fin.gen0 (rs := [.tmp 6, .tmp 7]) rfl (by first | exact .inl rfl | exact .inr rfl) (by simp only [resX, resA, ↓accU_f, ↓reduceIte, SA, SB, SC, SD, valG, fpsG, evO, evB, evA, evA1, nilK, eqF, eqC, apOk, intOf, slB, slK,  gd, St.ev, putA, ofl, wrl, putE, V.ofVal, V.ofCell, bin2, un1, seg, fillV, partsOk, Value.oneCell', Nat.reduceBEq, Nat.reduceLT, Nat.reduceSub, Nat.reduceAdd, Nat.reduceMul, Nat.reduceLeDiff, Nat.reduceEqDiff, reduceCtorEq, Int.reduceLT, Int.reduceLE, Int.reduceEq, Int.reduceNe, Int.reduceBEq, Int.reduceBNe, Int.reduceAdd, Int.reduceSub, Int.reduceMul, Int.reduceToNat]; with_reducible exact rfl) ?_
    repeat (first | exact WkF.of (Wk.refl _) (by first | rfl | simp only [List.length_cons, List.length_nil, Nat.reduceAdd, V.ids, V.idsL, idsA, entOk, List.all_cons, List.all_nil, Bool.and_self, Bool.and_true, Bool.true_and, ltB, noId, Nat.reduceLT, decide_true, Bool.true_eq_false, tyV_id, fdV_id, tyL_id, fdL_id]) | exact WkF.of (Wk.ro _ _) (by first | rfl | simp only [List.length_cons, List.length_nil, Nat.reduceAdd, V.ids, V.idsL, idsA, entOk, List.all_cons, List.all_nil, Bool.and_self, Bool.and_true, Bool.true_and, ltB, noId, Nat.reduceLT, decide_true, Bool.true_eq_false, tyV_id, fdV_id, tyL_id, fdL_id]) | refine WkF.tu ?_ | refine WkF.ag ?_ | refine WkFL.cons ?_ ?_ | exact WkFL.nil)
  · have h0 : k ≠ 0 := by omega
    rw [show errV k = .im (.iface 121 (.int .i64 k)) from if_neg h0] at h
    rw [show errW k = .ifc from if_neg h0]
    refine wG True.intro True.intro ?_
    refine AR.callP h True.intro True.intro ?_
    refine goG True.intro True.intro ?_
    refine wG True.intro True.intro ?_
    refine AR.eqI false ?_
    refine goG True.intro True.intro ?_
    refine wG True.intro True.intro ?_
    refine AR.callP ((c_toErr k hk ⟨#[80, 97, 114, 115, 101, 85, 105, 110, 116]⟩ ⟨s.toArray⟩ b 32 (by show s.toArray.size ≤ _; simpa using hs))) True.intro True.intro ?_
    refine goG True.intro True.intro ?_
    refine wG True.intro True.intro ?_
    refine Fin.gen0 (rs := [.tmp 6, .tmp 7]) rfl (by first | exact .inl rfl | exact .inr rfl) (by simp only [resX, resA, ↓accU_f, ↓reduceIte, SA, SB, SC, SD, valG, fpsG, evO, evB, evA, evA1, nilK, eqF, eqC, apOk, intOf, slB, slK,  gd, St.ev, putA, ofl, wrl, putE, V.ofVal, V.ofCell, bin2, un1, seg, fillV, partsOk, Value.oneCell', Nat.reduceBEq, Nat.reduceLT, Nat.reduceSub, Nat.reduceAdd, Nat.reduceMul, Nat.reduceLeDiff, Nat.reduceEqDiff, reduceCtorEq, Int.reduceLT, Int.reduceLE, Int.reduceEq, Int.reduceNe, Int.reduceBEq, Int.reduceBNe, Int.reduceAdd, Int.reduceSub, Int.reduceMul, Int.reduceToNat]; with_reducible exact rfl) ?_
    repeat (first | exact WkF.of (Wk.refl _) (by first | rfl | simp only [List.length_cons, List.length_nil, Nat.reduceAdd, V.ids, V.idsL, idsA, entOk, List.all_cons, List.all_nil, Bool.and_self, Bool.and_true, Bool.true_and, ltB, noId, Nat.reduceLT, decide_true, Bool.true_eq_false, tyV_id, fdV_id, tyL_id, fdL_id]) | exact WkF.of (Wk.ro _ _) (by first | rfl | simp only [List.length_cons, List.length_nil, Nat.reduceAdd, V.ids, V.idsL, idsA, entOk, List.all_cons, List.all_nil, Bool.and_self, Bool.and_true, Bool.true_and, ltB, noId, Nat.reduceLT, decide_true, Bool.true_eq_false, tyV_id, fdV_id, tyL_id, fdL_id]) | refine WkF.tu ?_ | refine WkF.ag ?_ | refine WkFL.cons ?_ ?_ | exact WkFL.nil)
theorem c_ps10 (s : Bs) (hs : s.length ≤ 4194304) : PC Tryd.prog 73 [.im (.string ⟨(s).toArray⟩), (.im (.int .i64 (10))), (.im (.int .i64 (32)))] (.tu [.im (.int .u64 (((puR 10 s).1 : Int))), errW (puR 10 s).2]) := c_psA s 10 _ _ hs (puR_err 10 s) (c_pu10 s hs)
theorem c_ps16 (s : Bs) (hs : s.length ≤ 4194304) : PC Tryd.prog 73 [.im (.string ⟨(s).toArray⟩), (.im (.int .i64 (16))), (.im (.int .i64 (32)))] (.tu [.im (.int .u64 (((puR 16 s).1 : Int))), errW (puR 16 s).2]) := c_psA s 16 _ _ hs (puR_err 16 s) (c_pu16 s hs)
end Go.Proofs.YtjilcaemoebloaaDoor

