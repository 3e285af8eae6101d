/- Walks: hexadecimal digits; the length of the word that comes next; going on. -/
import Derived.Test.YtjilcaemoebloaaDoorHv
import Derived.Test.YtjilcaemoebloaaDoorT1
namespace Go.Proofs.YtjilcaemoebloaaDoor
set_option linter.unusedSimpArgs false
set_option linter.unusedVariables false
set_option linter.unnecessarySimpa false
open Go.RowKit

theorem c_indexByte (l : Bs) (c : UInt8) : PC Tryd.prog 90 [.im (.string ⟨(l).toArray⟩), .im (.int .u8 (c.toNat))] (.im (.int .i64 (Lib.indexByte l c))) := by
  have h := c_indexB l c
  refine PC.enter 8 Tryd.func90 rfl (by decide) rfl rfl (s := [(0, .im (.string ⟨(l).toArray⟩)), (1, .im (.int .u8 (c.toNat)))]) (by rfl) ?_
  refine wG True.intro True.intro ?_
  refine AR.callP h True.intro True.intro ?_
  refine goG True.intro True.intro ?_
  refine wG True.intro True.intro ?_
  exact Fin.oneP
/-- The value of a hexadecimal digit, or -1. -/
def hexI (c : UInt8) : Int := match hexv c with
  | some d => d
  | none => -1
def hexL (c : UInt8) : UInt8 := c ||| ((32 : UInt8) * ((c >>> 6) &&& 1))
theorem hexL_eq (c : UInt8) : IntKind.u8.wrap ↑(BitVec.ofInt IntKind.u8.bits ↑c.toNat ||| BitVec.ofInt IntKind.u8.bits (IntKind.u8.wrap (32 * IntKind.u8.wrap ↑(BitVec.ofInt IntKind.u8.bits (Int.fdiv (↑c.toNat) (2 ^ min 6 IntKind.u8.bits)) &&& BitVec.ofInt IntKind.u8.bits 1).toNat))).toNat = ((hexL c).toNat : Int) :=
  of_decide_eq_true (u8_all (fun c => decide (IntKind.u8.wrap ↑(BitVec.ofInt IntKind.u8.bits ↑c.toNat ||| BitVec.ofInt IntKind.u8.bits (IntKind.u8.wrap (32 * IntKind.u8.wrap ↑(BitVec.ofInt IntKind.u8.bits (Int.fdiv (↑c.toNat) (2 ^ min 6 IntKind.u8.bits)) &&& BitVec.ofInt IntKind.u8.bits 1).toNat))).toNat = ((hexL c).toNat : Int))) (by decide +kernel) c)
theorem hexL_index (c : UInt8) : Lib.indexByte [48, 49, 50, 51, 52, 53, 54, 55, 56, 57, 97, 98, 99, 100, 101, 102] (hexL c) = hexI c :=
  of_decide_eq_true (u8_all (fun c => decide (Lib.indexByte [48, 49, 50, 51, 52, 53, 54, 55, 56, 57, 97, 98, 99, 100, 101, 102] (hexL c) = hexI c)) (by decide +kernel) c)

theorem c_hexDigit (c : UInt8) : PC Tryd.prog 75 [.im (.int .u8 (c.toNat))] (.im (.int .i64 (hexI c))) := by
  have h := c_indexByte [48, 49, 50, 51, 52, 53, 54, 55, 56, 57, 97, 98, 99, 100, 101, 102] (hexL c)
  have hE := hexL_eq c
  rw [hexL_index] at h
  refine PC.enter 10 Tryd.func75 rfl (by decide) rfl rfl (s := [(0, .im (.int .u8 (c.toNat)))]) (by rfl) ?_
  refine wG True.intro True.intro ?_
  refine AR.callP h hE True.intro ?_
  refine goG True.intro True.intro ?_
  refine wG True.intro True.intro ?_
  exact Fin.oneP
theorem takeW_stop {l : Bs} {m : Nat} (hm : m < l.length) (h : ∀ j (hj : j < l.length), j < m → isW l[j] = true) (h2 : isW l[m] = false) : (l.takeWhile isW).length = m := by
  induction l generalizing m with
  | nil => cases hm
  | cons c l ih =>
    cases m with
    | zero =>
      rw [List.takeWhile_cons, if_neg (by rw [show isW c = false from h2]; decide)]
      rfl
    | succ m =>
      rw [List.takeWhile_cons, if_pos (show isW c = true from h 0 (by simp) (by omega)), List.length_cons, ih (by simpa using hm) (fun j hj hjm => h (j + 1) (by simpa using hj) (by omega)) h2]
theorem takeW_full {l : Bs} (h : ∀ j (hj : j < l.length), isW l[j] = true) : (l.takeWhile isW).length = l.length := by
  induction l with
  | nil => rfl
  | cons c l ih =>
    rw [List.takeWhile_cons, if_pos (show isW c = true from h 0 (by simp)), List.length_cons, List.length_cons, ih fun j hj => h (j + 1) (by simpa using hj)]
theorem Y37_T2 : type_of% (And.intro @F_ag_9 (And.intro @F_fl_49_0 (And.intro @F_sz_9 (@F_un_9)))) := And.intro @F_ag_9 (And.intro @F_fl_49_0 (And.intro @F_sz_9 (@F_un_9)))
set_option maxHeartbeats 1000000 in
theorem c_word (l : Bs) (p : Int × Int) (ts : List Tk) : DC Tryd.prog 37 [.pt 0 0] [.box [.im (.string ⟨(l).toArray⟩), (.im (.int .i64 (p.1))), (.im (.int .i64 (p.2))), .sl (ts.map tkV) (.mine 1)], .tip 30 5 ts.length] (.im (.int .i64 ((l.takeWhile isW).length))) [.box [.im (.string ⟨(l).toArray⟩), (.im (.int .i64 (p.1))), (.im (.int .i64 (p.2))), .sl (ts.map tkV) (.mine 1)], .tip 30 5 ts.length] := by
  refine DC.enter 28 Tryd.func37 rfl (by decide) rfl rfl (s := [(0, .pt 0 0)]) (by rfl) ?_
  refine wG Y37_T2 True.intro ?_
  refine AWp.loop ?_
  refine ALp.cutP 3 [(0, .pt 0 0), (9, .itr 2)] [.box [.im (.string ⟨(l).toArray⟩), (.im (.int .i64 (p.1))), (.im (.int .i64 (p.2))), .sl (ts.map tkV) (.mine 1)], .tip 30 5 ts.length, .iter ⟨l.toArray⟩ 0] (And.intro tkL_id (And.intro tkV_id byL_id)) ?_
  refine ALp.upto l.length (AllTo isW l) (fun m => ⟨dn 28 [(0, .pt 0 0), (9, .itr 2)], ofl [.box [.im (.string ⟨(l).toArray⟩), (.im (.int .i64 (p.1))), (.im (.int .i64 (p.2))), .sl (ts.map tkV) (.mine 1)], .tip 30 5 ts.length, .iter ⟨l.toArray⟩ m]⟩) ?_ 0 (Nat.zero_le _) (AllTo.zero _ _)
  intro m hm hI hnext
  have hsz : (⟨l.toArray⟩ : ByteArray).size = l.length := bS_size l
  by_cases hlt : m < l.length
  case neg =>
    obtain rfl : m = l.length := by omega
    have hn : ¬ l.length < l.length := by omega
    clear hnext
    rw [takeW_full fun j hj => hI j hj hj]
    refine wG Y37_T2 (And.intro bS_size (And.intro hn @if_false.{1})) ?_
    exact Fin.oneSP (And.intro tkL_id (And.intro tkV_id byL_id))
  have hlt2 : m < (⟨l.toArray⟩ : ByteArray).size := by rw [hsz]; exact hlt
  have hget : ((⟨l.toArray⟩ : ByteArray)[m]'hlt2) = l[m] := by
    have := bS_get l m
    rw [getElem?_pos _ m hlt2, List.getElem?_eq_getElem hlt] at this
    exact Option.some.inj this
  obtain ⟨r, hr⟩ : ∃ r : Int, ((Utf8.decode ⟨l.toArray⟩ m).1 : Int) = r := ⟨_, rfl⟩
  have key : (r = (l[m].toNat : Int) ∧ (Utf8.decode ⟨l.toArray⟩ m).2 = 1) ∨ (128 ≤ r ∧ 128 ≤ l[m].toNat) := by
    by_cases hb : l[m].toNat < 128
    · have hd := decode_ascii ⟨l.toArray⟩ m hlt2 (by rw [hget]; exact hb)
      rw [hd] at hr ⊢
      refine .inl ⟨?_, rfl⟩
      rw [← hr, hget]
    · have := decode_big ⟨l.toArray⟩ m hlt2 (by rw [hget]; omega)
      exact .inr ⟨by omega, by omega⟩
  have hw : isW l[m] = (ltr r || dgt r) := by
    rcases key with ⟨h1, _⟩ | ⟨h1, h2⟩
    · rw [h1, ltr_isL, dgt_isD]; rfl
    · have e1 : ltr r = false := by unfold ltr; simp; omega
      have e2 : dgt r = false := by unfold dgt; simp; omega
      have e3 : isL l[m] = false := by unfold isL; simp; omega
      have e4 : isD l[m] = false := by unfold isD; simp; omega
      rw [e1, e2]
      unfold isW
      rw [e3, e4]
  have q1 := c_letter r
  have q2 := c_digit r
  refine wG Y37_T2 (And.intro bS_size (And.intro hlt (And.intro hr @if_true.{1}))) ?_
  cases b1 : ltr r with
  | true =>
    rw [b1] at q1 hw
    have hd2 : (Utf8.decode ⟨l.toArray⟩ m).2 = 1 := by
      rcases key with ⟨_, h⟩ | ⟨h1, h2⟩
      · exact h
      · unfold ltr at b1; simp at b1; omega
    refine AR.callP q1 True.intro (And.intro tkL_id (And.intro tkV_id byL_id)) ?_
    refine goG Y37_T2 True.intro ?_
    rw [hd2]
    refine wG Y37_T2 True.intro ?_
    refine ALp.cutP 3 [(0, .pt 0 0), (9, .itr 2)] [.box [.im (.string ⟨(l).toArray⟩), (.im (.int .i64 (p.1))), (.im (.int .i64 (p.2))), .sl (ts.map tkV) (.mine 1)], .tip 30 5 ts.length, .iter ⟨l.toArray⟩ (m + 1)] (And.intro tkL_id (And.intro tkV_id byL_id)) ?_
    exact hnext (m + 1) (by omega) (by omega) (hI.succ hlt hw)
  | false =>
  rw [b1, Bool.false_or] at hw
  rw [b1] at q1
  refine AR.callP q1 True.intro (And.intro tkL_id (And.intro tkV_id byL_id)) ?_
  refine goG Y37_T2 True.intro ?_
  refine AR.callP q2 True.intro (And.intro tkL_id (And.intro tkV_id byL_id)) ?_
  cases b2 : dgt r with
  | true =>
    rw [b2] at hw
    have hd2 : (Utf8.decode ⟨l.toArray⟩ m).2 = 1 := by
      rcases key with ⟨_, h⟩ | ⟨h1, h2⟩
      · exact h
      · unfold dgt at b2; simp at b2; omega
    refine goG Y37_T2 True.intro ?_
    rw [hd2]
    refine wG Y37_T2 True.intro ?_
    refine ALp.cutP 3 [(0, .pt 0 0), (9, .itr 2)] [.box [.im (.string ⟨(l).toArray⟩), (.im (.int .i64 (p.1))), (.im (.int .i64 (p.2))), .sl (ts.map tkV) (.mine 1)], .tip 30 5 ts.length, .iter ⟨l.toArray⟩ (m + 1)] (And.intro tkL_id (And.intro tkV_id byL_id)) ?_
    exact hnext (m + 1) (by omega) (by omega) (hI.succ hlt hw)
  | false =>
    rw [b2] at hw
    rw [takeW_stop hlt (fun j hj hjm => hI j hj hjm) hw]
    clear hnext
    refine goG Y37_T2 True.intro ?_
    refine wG Y37_T2 True.intro ?_
    exact Fin.oneSP (And.intro tkL_id (And.intro tkV_id byL_id))
theorem advs_snoc (p : Int × Int) {l : Bs} {m : Nat} (h : m < l.length) : advs p (l.take (m + 1)) = adv (advs p (l.take m)) l[m] := by
  rw [List.take_succ_eq_append_getElem h, advs_app]
  rfl
theorem advs_bound (l : Bs) : ∀ p : Int × Int, 0 ≤ p.1 → 0 ≤ p.2 → 0 ≤ (advs p l).1 ∧ (advs p l).1 ≤ p.1 + l.length ∧ 0 ≤ (advs p l).2 ∧ (advs p l).2 ≤ p.2 + l.length + 1 := by
  induction l with
  | nil => intro p h1 h2; exact ⟨h1, by simp [advs], h2, by simp [advs]; omega⟩
  | cons c l ih =>
    intro p h1 h2
    have e : advs p (c :: l) = advs (adv p c) l := rfl
    rw [e]
    have hk : 0 ≤ (adv p c).1 ∧ (adv p c).1 ≤ p.1 + 1 ∧ 0 ≤ (adv p c).2 ∧ (adv p c).2 ≤ p.2 + 1 := by
      unfold adv
      split <;> simp only <;> omega
    have := ih (adv p c) hk.1 hk.2.2.1
    simp only [List.length_cons]
    omega
theorem Y26_T2 : type_of% (And.intro @F_ag_3 (And.intro @F_ag_5 (And.intro @F_ag_9 (And.intro @F_el_71 (And.intro @F_fl_49_0 (And.intro @F_fl_49_1 (And.intro @F_fl_49_2 (And.intro @F_in_71 (And.intro @F_in_9 (And.intro @F_sz_3 (And.intro @F_sz_5 (And.intro @F_sz_9 (And.intro @F_un_5 (And.intro @F_un_71 (@F_un_9))))))))))))))) := And.intro @F_ag_3 (And.intro @F_ag_5 (And.intro @F_ag_9 (And.intro @F_el_71 (And.intro @F_fl_49_0 (And.intro @F_fl_49_1 (And.intro @F_fl_49_2 (And.intro @F_in_71 (And.intro @F_in_9 (And.intro @F_sz_3 (And.intro @F_sz_5 (And.intro @F_sz_9 (And.intro @F_un_5 (And.intro @F_un_71 (@F_un_9))))))))))))))
set_option maxHeartbeats 1000000 in
theorem c_skip (l : Bs) (p : Int × Int) (ts : List Tk) (n : Nat) (hn : n ≤ l.length) (hp1 : 0 ≤ p.1 ∧ p.1 ≤ 4611686018427387904) (hp2 : 0 ≤ p.2 ∧ p.2 ≤ 4611686018427387904) (hl : l.length ≤ 4194304) :
    DC Tryd.prog 26 [.pt 0 0, (.im (.int .i64 (n)))] [.box [.im (.string ⟨(l).toArray⟩), (.im (.int .i64 (p.1))), (.im (.int .i64 (p.2))), .sl (ts.map tkV) (.mine 1)], .tip 30 5 ts.length] (.tu []) [.box [.im (.string ⟨(l.drop n).toArray⟩), (.im (.int .i64 ((advs p (l.take n)).1))), (.im (.int .i64 ((advs p (l.take n)).2))), .sl (ts.map tkV) (.mine 1)], .tip 30 5 ts.length] := by
  have hn2 : (n : Int) ≤ (l.length : Int) := by omega
  have hA : (l.take n).length ≤ 140737488355328 := by rw [List.length_take]; omega
  have hlen : (l.take n).length = n := by rw [List.length_take]; omega
  refine DC.enter 47 Tryd.func26 rfl (by decide) rfl rfl (s := [(0, .pt 0 0), (1, (.im (.int .i64 (n))))]) (by rfl) ?_
  refine wG Y26_T2 (And.intro BY (And.intro GDS (And.intro hn2 hA))) ?_
  refine AWp.loop ?_
  refine ALp.cutP 2 [(0, .pt 0 0), (1, (.im (.int .i64 (n)))), (12, .sl ((l.take n).map byB) .ro), (13, (.im (.int .i64 ((l.take n).length)))), (14, (.im (.int .i64 ((((0 : Nat)) : Int)))))] [.box [.im (.string ⟨(l).toArray⟩), (.im (.int .i64 ((advs p (l.take 0)).1))), (.im (.int .i64 ((advs p (l.take 0)).2))), .sl (ts.map tkV) (.mine 1)], .tip 30 5 ts.length] (And.intro tkL_id (And.intro tkV_id byL_id)) ?_
  refine ALp.upto n (fun _ => True) (fun m => ⟨dn 47 [(0, .pt 0 0), (1, (.im (.int .i64 (n)))), (12, .sl ((l.take n).map byB) .ro), (13, (.im (.int .i64 ((l.take n).length)))), (14, (.im (.int .i64 ((((m : Nat)) : Int)))))], ofl [.box [.im (.string ⟨(l).toArray⟩), (.im (.int .i64 ((advs p (l.take m)).1))), (.im (.int .i64 ((advs p (l.take m)).2))), .sl (ts.map tkV) (.mine 1)], .tip 30 5 ts.length]⟩) ?_ 0 (Nat.zero_le _) trivial
  intro m hm _ hnext
  by_cases hlt : m < n
  case neg =>
    obtain rfl : m = n := by omega
    clear hnext
    have hnn : ¬ (m : Int) < ((l.take m).length : Int) := by omega
    have e : (l.drop m).take (l.length - m) = l.drop m := List.take_of_length_le (by rw [List.length_drop]; omega)
    generalize advs p (l.take m) = q
    refine wG Y26_T2 (And.intro hnn (And.intro BY (And.intro GDS (And.intro hn2 e)))) ?_
    refine Fin.gen (rs := []) rfl (by first | exact .inl rfl | exact .inr rfl) (by simp only [resX, resA, ↓accU_f, ↓reduceIte, SA, SB, SC, SD, Y26_T2, valG, fpsG, evO, evB, evA, evA1, nilK, eqF, eqC, apOk, intOf, slB, slK,  gd, St.ev, putA, ofl, wrl, putE, V.ofVal, V.ofCell, bin2, un1, seg, fillV, partsOk, Value.oneCell', Nat.reduceBEq, Nat.reduceLT, Nat.reduceSub, Nat.reduceAdd, Nat.reduceMul, Nat.reduceLeDiff, Nat.reduceEqDiff, reduceCtorEq, Int.reduceLT, Int.reduceLE, Int.reduceEq, Int.reduceNe, Int.reduceBEq, Int.reduceBNe, Int.reduceAdd, Int.reduceSub, Int.reduceMul, Int.reduceToNat]; with_reducible exact rfl) ?_ rfl (by first | rfl | simp only [List.length_cons, List.length_nil, Nat.reduceAdd, V.ids, V.idsL, idsA, entOk, List.all_cons, List.all_nil, Bool.and_self, Bool.and_true, Bool.true_and, ltB, noId, Nat.reduceLT, decide_true, Bool.true_eq_false, tyV_id, fdV_id, tyL_id, fdL_id, tkL_id, tkV_id, byL_id])
    repeat (first | exact WkF.of (Wk.refl _) (by first | rfl | simp only [List.length_cons, List.length_nil, Nat.reduceAdd, V.ids, V.idsL, idsA, entOk, List.all_cons, List.all_nil, Bool.and_self, Bool.and_true, Bool.true_and, ltB, noId, Nat.reduceLT, decide_true, Bool.true_eq_false, tyV_id, fdV_id, tyL_id, fdL_id, tkL_id, tkV_id, byL_id]) | exact WkF.of (Wk.ro _ _) (by first | rfl | simp only [List.length_cons, List.length_nil, Nat.reduceAdd, V.ids, V.idsL, idsA, entOk, List.all_cons, List.all_nil, Bool.and_self, Bool.and_true, Bool.true_and, ltB, noId, Nat.reduceLT, decide_true, Bool.true_eq_false, tyV_id, fdV_id, tyL_id, fdL_id, tkL_id, tkV_id, byL_id]) | refine WkF.tu ?_ | refine WkF.ag ?_ | refine WkFL.cons ?_ ?_ | exact WkFL.nil)
  have hlt' : (m : Int) < ((l.take n).length : Int) := by omega
  have hml : m < l.length := by omega
  have hm1 := wrap_succ hlt (by omega)
  have hg : (l.take n)[m]? = some l[m] := by rw [List.getElem?_take, if_pos hlt, List.getElem?_eq_getElem hml]
  have hn3 := hnext (m + 1) (by omega) (by omega) trivial
  rw [advs_snoc p hml] at hn3
  clear hnext
  have hb := advs_bound (l.take m) p hp1.1 hp2.1
  rw [List.length_take] at hb
  generalize advs p (l.take m) = q at hn3 hb ⊢
  have hw1 : IntKind.i64.wrap (q.1 + 1) = q.1 + 1 := wrap_in (by omega)
  have hw2 : IntKind.i64.wrap (q.2 + 1) = q.2 + 1 := wrap_in (by omega)
  by_cases hc : l[m].toNat = 10
  · have hc' : ((l[m].toNat : Nat) : Int) = 10 := by omega
    rw [show adv q l[m] = (q.1 + 1, 1) by unfold adv; rw [if_pos hc]] at hn3
    refine wG Y26_T2 (And.intro hlt' (And.intro hg (And.intro BY (And.intro hw1 (And.intro hw2 (And.intro hc' hm1)))))) ?_
    refine ALp.cutP 2 [(0, .pt 0 0), (1, (.im (.int .i64 (n)))), (12, .sl ((l.take n).map byB) .ro), (13, (.im (.int .i64 ((l.take n).length)))), (14, (.im (.int .i64 ((((m + 1 : Nat)) : Int)))))] [.box [.im (.string ⟨(l).toArray⟩), (.im (.int .i64 (((q.1 + 1, (1 : Int))).1))), (.im (.int .i64 (((q.1 + 1, (1 : Int))).2))), .sl (ts.map tkV) (.mine 1)], .tip 30 5 ts.length] (And.intro tkL_id (And.intro tkV_id byL_id)) ?_
    exact hn3
  · have hc' : ¬ ((l[m].toNat : Nat) : Int) = 10 := by omega
    rw [show adv q l[m] = (q.1, q.2 + 1) by unfold adv; rw [if_neg hc]] at hn3
    refine wG Y26_T2 (And.intro hlt' (And.intro hg (And.intro BY (And.intro hw1 (And.intro hw2 (And.intro hc' hm1)))))) ?_
    refine ALp.cutP 2 [(0, .pt 0 0), (1, (.im (.int .i64 (n)))), (12, .sl ((l.take n).map byB) .ro), (13, (.im (.int .i64 ((l.take n).length)))), (14, (.im (.int .i64 ((((m + 1 : Nat)) : Int)))))] [.box [.im (.string ⟨(l).toArray⟩), (.im (.int .i64 (((q.1, q.2 + 1)).1))), (.im (.int .i64 (((q.1, q.2 + 1)).2))), .sl (ts.map tkV) (.mine 1)], .tip 30 5 ts.length] (And.intro tkL_id (And.intro tkV_id byL_id)) ?_
    exact hn3
end Go.Proofs.YtjilcaemoebloaaDoor

