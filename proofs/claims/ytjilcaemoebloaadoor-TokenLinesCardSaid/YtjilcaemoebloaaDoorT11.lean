/- Walks: operators. -/
import Derived.Test.YtjilcaemoebloaaDoorHv
import Derived.Test.YtjilcaemoebloaaDoorT10
namespace Go.Proofs.YtjilcaemoebloaaDoor
set_option linter.unusedSimpArgs false
set_option linter.unusedVariables false
set_option linter.unnecessarySimpa false
open Go.RowKit
/-- What symbol gives. -/
def symR (s : Bs) : Bs × Bool := match symP s with
  | some op => (op, true)
  | none => (s.take 1, false)
def tst (p s : Bs) : Bool := pre p s && nW (s.drop p.length)
def L1V : List V := [.im (.string ⟨(([62, 62, 115] : Bs)).toArray⟩), .im (.string ⟨(([60, 115] : Bs)).toArray⟩)]
def L2V : List V := [.im (.string ⟨(([61, 61] : Bs)).toArray⟩), .im (.string ⟨(([33, 61] : Bs)).toArray⟩), .im (.string ⟨(([60, 60] : Bs)).toArray⟩), .im (.string ⟨(([62, 62] : Bs)).toArray⟩)]
theorem L1V_get {m : Nat} (h : m < 2) : ∃ p : Bs, L1V[m]? = some (.im (.string ⟨(p).toArray⟩)) ∧ (m = 0 ∧ p = [62, 62, 115] ∨ m = 1 ∧ p = [60, 115]) := by
  rcases (show m = 0 ∨ m = 1 by omega) with rfl | rfl
  · exact ⟨[62, 62, 115], rfl, .inl ⟨rfl, rfl⟩⟩
  · exact ⟨[60, 115], rfl, .inr ⟨rfl, rfl⟩⟩
theorem L2V_get {m : Nat} (h : m < 4) : ∃ p : Bs, L2V[m]? = some (.im (.string ⟨(p).toArray⟩)) ∧ (m = 0 ∧ p = [61, 61] ∨ m = 1 ∧ p = [33, 61] ∨ m = 2 ∧ p = [60, 60] ∨ m = 3 ∧ p = [62, 62]) := by
  rcases (show m = 0 ∨ m = 1 ∨ m = 2 ∨ m = 3 by omega) with rfl | rfl | rfl | rfl
  · exact ⟨[61, 61], rfl, .inl ⟨rfl, rfl⟩⟩
  · exact ⟨[33, 61], rfl, .inr (.inl ⟨rfl, rfl⟩)⟩
  · exact ⟨[60, 60], rfl, .inr (.inr (.inl ⟨rfl, rfl⟩))⟩
  · exact ⟨[62, 62], rfl, .inr (.inr (.inr ⟨rfl, rfl⟩))⟩
theorem L1V_eq : [V.im (.string ⟨#[62, 62, 115]⟩), V.im (.string ⟨#[60, 115]⟩)] = L1V := rfl
theorem L2V_eq : [V.im (.string ⟨#[61, 61]⟩), V.im (.string ⟨#[33, 61]⟩), V.im (.string ⟨#[60, 60]⟩), V.im (.string ⟨#[62, 62]⟩)] = L2V := rfl
theorem L1V_length : L1V.length = 2 := rfl
theorem L2V_length : L2V.length = 4 := rfl
theorem symR_1 {s p : Bs} {m : Nat} (hm : m = 0 ∧ p = [62, 62, 115] ∨ m = 1 ∧ p = [60, 115]) (h0 : 1 ≤ m → tst [62, 62, 115] s = false) (h : tst p s = true) : symR s = (p, true) := by
  unfold symR symP
  rcases hm with ⟨rfl, rfl⟩ | ⟨rfl, rfl⟩
  · rw [if_pos (show (pre [62, 62, 115] s && nW (s.drop 3)) = true from h)]
  · have := h0 (Nat.le_refl _)
    rw [if_neg (show ¬ (pre [62, 62, 115] s && nW (s.drop 3)) = true by rw [show (pre [62, 62, 115] s && nW (s.drop 3)) = false from this]; decide), if_pos (show (pre [60, 115] s && nW (s.drop 2)) = true from h)]
theorem symP_2 {s : Bs} (h1 : tst [62, 62, 115] s = false) (h2 : tst [60, 115] s = false) : symP s = if pre [61, 61] s then some [61, 61]
    else if pre [33, 61] s then some [33, 61]
    else if pre [60, 60] s then some [60, 60]
    else if pre [62, 62] s then some [62, 62]
    else match s with
      | [] => none
      | c :: _ => if ops1.contains c then some [c] else none := by
  unfold symP
  rw [if_neg (show ¬ (pre [62, 62, 115] s && nW (s.drop 3)) = true by rw [show (pre [62, 62, 115] s && nW (s.drop 3)) = false from h1]; decide), if_neg (show ¬ (pre [60, 115] s && nW (s.drop 2)) = true by rw [show (pre [60, 115] s && nW (s.drop 2)) = false from h2]; decide)]
  cases s <;> rfl
theorem symR_2 {s p : Bs} {m : Nat} (h1 : tst [62, 62, 115] s = false) (h2 : tst [60, 115] s = false) (hm : m = 0 ∧ p = [61, 61] ∨ m = 1 ∧ p = [33, 61] ∨ m = 2 ∧ p = [60, 60] ∨ m = 3 ∧ p = [62, 62])
    (hI : (1 ≤ m → pre [61, 61] s = false) ∧ (2 ≤ m → pre [33, 61] s = false) ∧ (3 ≤ m → pre [60, 60] s = false)) (h : pre p s = true) : symR s = (p, true) := by
  unfold symR
  rw [symP_2 h1 h2]
  obtain ⟨i1, i2, i3⟩ := hI
  rcases hm with ⟨rfl, rfl⟩ | ⟨rfl, rfl⟩ | ⟨rfl, rfl⟩ | ⟨rfl, rfl⟩
  · simp [h]
  · simp [h, i1 (by omega)]
  · simp [h, i1 (by omega), i2 (by omega)]
  · simp [h, i1 (by omega), i2 (by omega), i3 (by omega)]
theorem symR_3 {c : UInt8} {r : Bs} (h1 : tst [62, 62, 115] (c :: r) = false) (h2 : tst [60, 115] (c :: r) = false) (h3 : pre [61, 61] (c :: r) = false) (h4 : pre [33, 61] (c :: r) = false) (h5 : pre [60, 60] (c :: r) = false) (h6 : pre [62, 62] (c :: r) = false) : symR (c :: r) = ([c], ops1.contains c) := by
  unfold symR
  rw [symP_2 h1 h2, h3, h4, h5, h6]
  simp only [Bool.false_eq_true, if_false]
  cases h : ops1.contains c <;> simp
theorem Y40_T11 : type_of% (And.intro @F_ag_9 (And.intro @F_al_9 (And.intro @F_el_53 (And.intro @F_in_21 (And.intro @F_in_5 (And.intro @F_sz_9 (And.intro @F_un_21 (And.intro @F_un_5 (@F_un_9))))))))) := And.intro @F_ag_9 (And.intro @F_al_9 (And.intro @F_el_53 (And.intro @F_in_21 (And.intro @F_in_5 (And.intro @F_sz_9 (And.intro @F_un_21 (And.intro @F_un_5 (@F_un_9))))))))
set_option maxHeartbeats 2000000 in
theorem c_symbol (s : Bs) (hs : s.length ≤ 4194304) (h0 : s ≠ []) : PC Tryd.prog 40 [.im (.string ⟨(s).toArray⟩)] (.tu [.im (.string ⟨((symR s).1).toArray⟩), (.im (.bool ((symR s).2)))]) := by
  refine PC.enter 59 Tryd.func40 rfl (by decide) rfl rfl (s := [(0, .im (.string ⟨(s).toArray⟩))]) (by rfl) ?_
  refine wG Y40_T11 (And.intro L1V_eq L1V_length) ?_
  refine AWp.loop ?_
  refine ALp.cutP 0 [(0, .im (.string ⟨(s).toArray⟩)), (2, .im (.string ⟨(([] : Bs)).toArray⟩)), (3, (.im (.bool (false)))), (10, .sl L1V .full), (11, (.im (.int .i64 (2)))), (12, (.im (.int .i64 ((((0 : Nat)) : Int)))))] [] byL_id ?_
  refine ALp.upto 2 (fun m => (1 ≤ m → tst [62, 62, 115] s = false) ∧ (2 ≤ m → tst [60, 115] s = false)) (fun m => ⟨dn 59 [(0, .im (.string ⟨(s).toArray⟩)), (2, .im (.string ⟨(([] : Bs)).toArray⟩)), (3, (.im (.bool (false)))), (10, .sl L1V .full), (11, (.im (.int .i64 (2)))), (12, (.im (.int .i64 ((((m : Nat)) : Int)))))], ofl []⟩) ?_ 0 (Nat.zero_le _) ⟨fun h => by omega, fun h => by omega⟩
  intro m hm hI hnext
  by_cases hlt : m < 2
  case neg =>
    obtain rfl : m = 2 := by omega
    clear hnext
    have hn : ¬ (2 : Int) < 2 := by omega
    refine wG Y40_T11 (And.intro hn (And.intro L2V_eq L2V_length)) ?_
    refine AWp.loop ?_
    refine ALp.cutP 0 [(0, .im (.string ⟨(s).toArray⟩)), (2, .im (.string ⟨(([] : Bs)).toArray⟩)), (3, (.im (.bool (false)))), (43, .sl L2V .full), (44, (.im (.int .i64 (4)))), (45, (.im (.int .i64 ((((0 : Nat)) : Int)))))] [] byL_id ?_
    obtain ⟨h1, h2⟩ : tst [62, 62, 115] s = false ∧ tst [60, 115] s = false := ⟨hI.1 (by omega), hI.2 (by omega)⟩
    clear hI hm hlt
    refine ALp.upto 4 (fun m => (1 ≤ m → pre [61, 61] s = false) ∧ (2 ≤ m → pre [33, 61] s = false) ∧ (3 ≤ m → pre [60, 60] s = false) ∧ (4 ≤ m → pre [62, 62] s = false)) (fun m => ⟨dn 59 [(0, .im (.string ⟨(s).toArray⟩)), (2, .im (.string ⟨(([] : Bs)).toArray⟩)), (3, (.im (.bool (false)))), (43, .sl L2V .full), (44, (.im (.int .i64 (4)))), (45, (.im (.int .i64 ((((m : Nat)) : Int)))))], ofl []⟩) ?_ 0 (Nat.zero_le _) ⟨fun h => by omega, fun h => by omega, fun h => by omega, fun h => by omega⟩
    intro m hm hI hnext
    by_cases hlt : m < 4
    case neg =>
      obtain rfl : m = 4 := by omega
      clear hnext
      have hn : ¬ (4 : Int) < 4 := by omega
      cases s with
      | nil => exact absurd rfl h0
      | cons c r =>
      rw [symR_3 h1 h2 (hI.1 (by omega)) (hI.2.1 (by omega)) (hI.2.2.1 (by omega)) (hI.2.2.2 (by omega))]
      have q := c_contains ⟨#[40, 41, 123, 125, 91, 93, 44, 59, 58, 63, 61, 43, 45, 42, 38, 124, 94, 33, 60]⟩ ⟨#[c]⟩ (of_decide_eq_true (by kernel_rfl))
      rw [show Lib.contains (ByteArray.mk #[40, 41, 123, 125, 91, 93, 44, 59, 58, 63, 61, 43, 45, 42, 38, 124, 94, 33, 60]).data.toList (ByteArray.mk #[c]).data.toList = ops1.contains c from contains_one ops1 c] at q
      generalize ops1.contains c = b at q
      have hle : (1 : Int) ≤ ((r.length + 1 : Nat) : Int) := by omega
      refine wG Y40_T11 hn ?_
      refine wdG Y40_T11 (And.intro BY (And.intro GDS (And.intro bS_size hle))) ?_
      refine AR.callP q True.intro byL_id ?_
      refine goG Y40_T11 True.intro ?_
      refine wdG Y40_T11 True.intro ?_
      refine Fin.gen0 (rs := [.tmp 2, .tmp 3]) rfl (by first | exact .inl rfl | exact .inr rfl) (by simp only [resX, resA, ↓accU_f, ↓reduceIte, SA, SB, SC, SD, Y40_T11, valG, fpsG, evO, evB, evA, evA1, nilK, eqF, eqC, apOk, intOf, slB, slK,  gd, St.ev, putA, ofl, wrl, putE, V.ofVal, V.ofCell, bin2, un1, seg, fillV, partsOk, Value.oneCell', Nat.reduceBEq, Nat.reduceLT, Nat.reduceSub, Nat.reduceAdd, Nat.reduceMul, Nat.reduceLeDiff, Nat.reduceEqDiff, reduceCtorEq, Int.reduceLT, Int.reduceLE, Int.reduceEq, Int.reduceNe, Int.reduceBEq, Int.reduceBNe, Int.reduceAdd, Int.reduceSub, Int.reduceMul, Int.reduceToNat]; with_reducible exact rfl) ?_
      repeat (first | exact WkF.of (Wk.refl _) (by first | rfl | simp only [List.length_cons, List.length_nil, Nat.reduceAdd, V.ids, V.idsL, idsA, entOk, List.all_cons, List.all_nil, Bool.and_self, Bool.and_true, Bool.true_and, ltB, noId, Nat.reduceLT, decide_true, Bool.true_eq_false, tyV_id, fdV_id, tyL_id, fdL_id, byL_id]) | exact WkF.of (Wk.ro _ _) (by first | rfl | simp only [List.length_cons, List.length_nil, Nat.reduceAdd, V.ids, V.idsL, idsA, entOk, List.all_cons, List.all_nil, Bool.and_self, Bool.and_true, Bool.true_and, ltB, noId, Nat.reduceLT, decide_true, Bool.true_eq_false, tyV_id, fdV_id, tyL_id, fdL_id, byL_id]) | refine WkF.tu ?_ | refine WkF.ag ?_ | refine WkFL.cons ?_ ?_ | exact WkFL.nil)
    have hlt' : (m : Int) < 4 := by omega
    have hw1 := wrap_succ hlt (by omega)
    obtain ⟨p, hg, hp⟩ := L2V_get hlt
    have hY : pre p s = true → symR s = (p, true) := fun h => symR_2 h1 h2 hp ⟨hI.1, hI.2.1, hI.2.2.1⟩ h
    have hN : pre p s = false → _ := fun h => hnext (m + 1) (by omega) (by omega) (by
      obtain ⟨i1, i2, i3, i4⟩ := hI
      rcases hp with ⟨rfl, rfl⟩ | ⟨rfl, rfl⟩ | ⟨rfl, rfl⟩ | ⟨rfl, rfl⟩
      · exact ⟨fun _ => h, fun h => by omega, fun h => by omega, fun h => by omega⟩
      · exact ⟨fun _ => i1 (by omega), fun _ => h, fun h => by omega, fun h => by omega⟩
      · exact ⟨fun _ => i1 (by omega), fun _ => i2 (by omega), fun _ => h, fun h => by omega⟩
      · exact ⟨fun _ => i1 (by omega), fun _ => i2 (by omega), fun _ => i3 (by omega), fun _ => h⟩)
    have q := c_hasPre s p
    clear hnext hI hp
    refine wG Y40_T11 (And.intro BY (And.intro hlt' (And.intro hg L2V_length))) ?_
    cases b1 : pre p s with
    | true =>
      rw [b1] at q
      rw [hY b1]
      clear hN
      refine AR.callP q True.intro byL_id ?_
      refine goG Y40_T11 True.intro ?_
      refine wG Y40_T11 True.intro ?_
      refine Fin.gen0 (rs := [.tmp 2, .tmp 3]) rfl (by first | exact .inl rfl | exact .inr rfl) (by simp only [resX, resA, ↓accU_f, ↓reduceIte, SA, SB, SC, SD, Y40_T11, valG, fpsG, evO, evB, evA, evA1, nilK, eqF, eqC, apOk, intOf, slB, slK,  gd, St.ev, putA, ofl, wrl, putE, V.ofVal, V.ofCell, bin2, un1, seg, fillV, partsOk, Value.oneCell', Nat.reduceBEq, Nat.reduceLT, Nat.reduceSub, Nat.reduceAdd, Nat.reduceMul, Nat.reduceLeDiff, Nat.reduceEqDiff, reduceCtorEq, Int.reduceLT, Int.reduceLE, Int.reduceEq, Int.reduceNe, Int.reduceBEq, Int.reduceBNe, Int.reduceAdd, Int.reduceSub, Int.reduceMul, Int.reduceToNat]; with_reducible exact rfl) ?_
      repeat (first | exact WkF.of (Wk.refl _) (by first | rfl | simp only [List.length_cons, List.length_nil, Nat.reduceAdd, V.ids, V.idsL, idsA, entOk, List.all_cons, List.all_nil, Bool.and_self, Bool.and_true, Bool.true_and, ltB, noId, Nat.reduceLT, decide_true, Bool.true_eq_false, tyV_id, fdV_id, tyL_id, fdL_id, byL_id]) | exact WkF.of (Wk.ro _ _) (by first | rfl | simp only [List.length_cons, List.length_nil, Nat.reduceAdd, V.ids, V.idsL, idsA, entOk, List.all_cons, List.all_nil, Bool.and_self, Bool.and_true, Bool.true_and, ltB, noId, Nat.reduceLT, decide_true, Bool.true_eq_false, tyV_id, fdV_id, tyL_id, fdL_id, byL_id]) | refine WkF.tu ?_ | refine WkF.ag ?_ | refine WkFL.cons ?_ ?_ | exact WkFL.nil)
    | false =>
      rw [b1] at q
      have hN := hN b1
      refine AR.callP q True.intro byL_id ?_
      refine goG Y40_T11 True.intro ?_
      refine wG Y40_T11 hw1 ?_
      refine ALp.cutP 0 [(0, .im (.string ⟨(s).toArray⟩)), (2, .im (.string ⟨(([] : Bs)).toArray⟩)), (3, (.im (.bool (false)))), (43, .sl L2V .full), (44, (.im (.int .i64 (4)))), (45, (.im (.int .i64 ((((m + 1 : Nat)) : Int)))))] [] byL_id ?_
      exact hN
  have hlt' : (m : Int) < 2 := by omega
  have hw1 := wrap_succ hlt (by omega)
  obtain ⟨p, hg, hp⟩ := L1V_get hlt
  have hI2 : tst p s = false → (1 ≤ m + 1 → tst [62, 62, 115] s = false) ∧ (2 ≤ m + 1 → tst [60, 115] s = false) := fun h => by
    rcases hp with ⟨rfl, rfl⟩ | ⟨rfl, rfl⟩
    · exact ⟨fun _ => h, fun h => by omega⟩
    · exact ⟨fun _ => hI.1 (Nat.le_refl _), fun _ => h⟩
  have hY : tst p s = true → symR s = (p, true) := fun h => symR_1 hp hI.1 h
  have hN := fun h => hnext (m + 1) (by omega) (by omega) (hI2 h)
  clear hnext hI2 hp hI
  have qc := c_cutPre s p
  cases b1 : pre p s with
  | false =>
    have hN := hN (by unfold tst; rw [b1]; rfl)
    rw [b1, cutP_false b1] at qc
    refine wG Y40_T11 (And.intro BY (And.intro hlt' (And.intro hg L1V_length))) ?_
    refine AR.callP qc True.intro byL_id ?_
    refine goG Y40_T11 True.intro ?_
    refine wG Y40_T11 hw1 ?_
    refine ALp.cutP 0 [(0, .im (.string ⟨(s).toArray⟩)), (2, .im (.string ⟨(([] : Bs)).toArray⟩)), (3, (.im (.bool (false)))), (10, .sl L1V .full), (11, (.im (.int .i64 (2)))), (12, (.im (.int .i64 ((((m + 1 : Nat)) : Int)))))] [] byL_id ?_
    exact hN
  | true =>
  rw [b1, cutP_true b1] at qc
  unfold tst at hN hY
  rw [b1, Bool.true_and] at hN hY
  generalize s.drop p.length = x at qc hN hY
  refine wG Y40_T11 (And.intro BY (And.intro hlt' (And.intro hg L1V_length))) ?_
  refine AR.callP qc True.intro byL_id ?_
  refine goG Y40_T11 True.intro ?_
  cases x with
  | nil =>
    have e0 : (([] : Bs) == []) = true := rfl
    rw [hY rfl]
    clear hN
    refine wG Y40_T11 (And.intro BY e0) ?_
    refine Fin.gen0 (rs := [.tmp 2, .tmp 3]) rfl (by first | exact .inl rfl | exact .inr rfl) (by simp only [resX, resA, ↓accU_f, ↓reduceIte, SA, SB, SC, SD, Y40_T11, valG, fpsG, evO, evB, evA, evA1, nilK, eqF, eqC, apOk, intOf, slB, slK,  gd, St.ev, putA, ofl, wrl, putE, V.ofVal, V.ofCell, bin2, un1, seg, fillV, partsOk, Value.oneCell', Nat.reduceBEq, Nat.reduceLT, Nat.reduceSub, Nat.reduceAdd, Nat.reduceMul, Nat.reduceLeDiff, Nat.reduceEqDiff, reduceCtorEq, Int.reduceLT, Int.reduceLE, Int.reduceEq, Int.reduceNe, Int.reduceBEq, Int.reduceBNe, Int.reduceAdd, Int.reduceSub, Int.reduceMul, Int.reduceToNat]; with_reducible exact rfl) ?_
    repeat (first | exact WkF.of (Wk.refl _) (by first | rfl | simp only [List.length_cons, List.length_nil, Nat.reduceAdd, V.ids, V.idsL, idsA, entOk, List.all_cons, List.all_nil, Bool.and_self, Bool.and_true, Bool.true_and, ltB, noId, Nat.reduceLT, decide_true, Bool.true_eq_false, tyV_id, fdV_id, tyL_id, fdL_id, byL_id]) | exact WkF.of (Wk.ro _ _) (by first | rfl | simp only [List.length_cons, List.length_nil, Nat.reduceAdd, V.ids, V.idsL, idsA, entOk, List.all_cons, List.all_nil, Bool.and_self, Bool.and_true, Bool.true_and, ltB, noId, Nat.reduceLT, decide_true, Bool.true_eq_false, tyV_id, fdV_id, tyL_id, fdL_id, byL_id]) | refine WkF.tu ?_ | refine WkF.ag ?_ | refine WkFL.cons ?_ ?_ | exact WkFL.nil)
  | cons d y =>
  have e0 : ((d :: y) == ([] : Bs)) = false := rfl
  have g0 : (d :: y)[0]? = some d := rfl
  have w32 : IntKind.i32.wrap (d.toNat : Int) = d.toNat := by
    have := d.toNat_lt
    exact IntWalk.i32_in _ (by omega)
  have hW : nW (d :: y) = !(isL d || isD d) := rfl
  have q1 := c_letter (d.toNat : Int)
  have q2 := c_digit (d.toNat : Int)
  rw [ltr_isL] at q1
  rw [dgt_isD] at q2
  refine wG Y40_T11 (And.intro BY (And.intro e0 (And.intro g0 w32))) ?_
  cases b2 : isL d with
  | true =>
    rw [b2] at q1
    have hN := hN (by rw [hW, b2]; rfl)
    refine AR.callP q1 True.intro byL_id ?_
    refine goG Y40_T11 True.intro ?_
    refine wG Y40_T11 hw1 ?_
    refine ALp.cutP 0 [(0, .im (.string ⟨(s).toArray⟩)), (2, .im (.string ⟨(([] : Bs)).toArray⟩)), (3, (.im (.bool (false)))), (10, .sl L1V .full), (11, (.im (.int .i64 (2)))), (12, (.im (.int .i64 ((((m + 1 : Nat)) : Int)))))] [] byL_id ?_
    exact hN
  | false =>
  rw [b2] at q1
  refine AR.callP q1 True.intro byL_id ?_
  refine goG Y40_T11 (And.intro BY (And.intro g0 w32)) ?_
  cases b3 : isD d with
  | true =>
    rw [b3] at q2
    have hN := hN (by rw [hW, b2, b3]; rfl)
    refine AR.callP q2 True.intro byL_id ?_
    refine goG Y40_T11 True.intro ?_
    refine wG Y40_T11 hw1 ?_
    refine ALp.cutP 0 [(0, .im (.string ⟨(s).toArray⟩)), (2, .im (.string ⟨(([] : Bs)).toArray⟩)), (3, (.im (.bool (false)))), (10, .sl L1V .full), (11, (.im (.int .i64 (2)))), (12, (.im (.int .i64 ((((m + 1 : Nat)) : Int)))))] [] byL_id ?_
    exact hN
  | false =>
    rw [b3] at q2
    rw [hY (by rw [hW, b2, b3]; rfl)]
    clear hN
    refine AR.callP q2 True.intro byL_id ?_
    refine goG Y40_T11 True.intro ?_
    refine wG Y40_T11 True.intro ?_
    refine Fin.gen0 (rs := [.tmp 2, .tmp 3]) rfl (by first | exact .inl rfl | exact .inr rfl) (by simp only [resX, resA, ↓accU_f, ↓reduceIte, SA, SB, SC, SD, Y40_T11, valG, fpsG, evO, evB, evA, evA1, nilK, eqF, eqC, apOk, intOf, slB, slK,  gd, St.ev, putA, ofl, wrl, putE, V.ofVal, V.ofCell, bin2, un1, seg, fillV, partsOk, Value.oneCell', Nat.reduceBEq, Nat.reduceLT, Nat.reduceSub, Nat.reduceAdd, Nat.reduceMul, Nat.reduceLeDiff, Nat.reduceEqDiff, reduceCtorEq, Int.reduceLT, Int.reduceLE, Int.reduceEq, Int.reduceNe, Int.reduceBEq, Int.reduceBNe, Int.reduceAdd, Int.reduceSub, Int.reduceMul, Int.reduceToNat]; with_reducible exact rfl) ?_
    repeat (first | exact WkF.of (Wk.refl _) (by first | rfl | simp only [List.length_cons, List.length_nil, Nat.reduceAdd, V.ids, V.idsL, idsA, entOk, List.all_cons, List.all_nil, Bool.and_self, Bool.and_true, Bool.true_and, ltB, noId, Nat.reduceLT, decide_true, Bool.true_eq_false, tyV_id, fdV_id, tyL_id, fdL_id, byL_id]) | exact WkF.of (Wk.ro _ _) (by first | rfl | simp only [List.length_cons, List.length_nil, Nat.reduceAdd, V.ids, V.idsL, idsA, entOk, List.all_cons, List.all_nil, Bool.and_self, Bool.and_true, Bool.true_and, ltB, noId, Nat.reduceLT, decide_true, Bool.true_eq_false, tyV_id, fdV_id, tyL_id, fdL_id, byL_id]) | refine WkF.tu ?_ | refine WkF.ag ?_ | refine WkFL.cons ?_ ?_ | exact WkFL.nil)
end Go.Proofs.YtjilcaemoebloaaDoor

