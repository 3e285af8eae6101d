/- Walks: numbers, sequences behind a backslash, strings of the reference. -/
import Derived.Test.YtjilcaemoebloaaDoorHv
import Derived.Test.YtjilcaemoebloaaDoorT27
namespace Go.Proofs.YtjilcaemoebloaaDoor
set_option linter.unusedSimpArgs false
set_option linter.unusedVariables false
set_option linter.unnecessarySimpa false
open Go.RowKit
def finN : Option Nat → Nat × Bool
  | none => (0, false)
  | some n => (n % 4294967296, decide (n ≤ 4294967295))
theorem u32_mod (n : Nat) : IntKind.u32.wrap (n : Int) = ((n % 4294967296 : Nat) : Int) := by
  simp [IntKind.wrap, IntKind.signed, IntKind.bits]
/-- What number gives. -/
def numR (w : Bs) : Nat × Bool :=
  if 2 < w.length ∧ pre [48, 120] w = true then (if 8 < (w.drop 2).length then (0, false) else finN (digV 16 0 (w.drop 2)))
  else if w.length = 0 ∨ 10 < w.length ∨ (1 < w.length ∧ w.head? = some 48) then (0, false) else finN (digV 10 0 w)
theorem digV_ge (b : Nat) (s : Bs) : ∀ a n, digV b a s = some n → a * b ^ s.length ≤ n := by
  induction s with
  | nil => intro a n h; cases h; simp
  | cons c r ih =>
    intro a n h
    rw [digV] at h
    split at h
    · split at h
      · have h1 := ih _ _ h
        rw [List.length_cons, Nat.pow_succ, Nat.mul_comm (b ^ r.length) b, ← Nat.mul_assoc]
        refine Nat.le_trans (Nat.mul_le_mul_right _ (Nat.le_add_right _ _)) h1
      · cases h
    · cases h
theorem dig_long {w : Bs} {n : Nat} (h : digV 10 0 w = some n) (hl : 10 < w.length) (h0 : w.head? ≠ some 48) : 4294967296 ≤ n := by
  cases w with
  | nil => cases hl
  | cons c r =>
    rw [digV] at h
    split at h
    · rename_i d hd
      split at h
      · rename_i hlt
        have h1 := digV_ge 10 r _ _ h
        have hd1 : 1 ≤ d := by
          rcases Nat.eq_zero_or_pos d with e | e
          · subst e
            exfalso
            refine h0 ?_
            unfold hexv at hd
            split at hd
            · rename_i q
              have := Option.some.inj hd
              rw [show c = 48 from toNat_inj (by show c.toNat = 48; omega)]
              rfl
            split at hd
            · have := Option.some.inj hd; omega
            split at hd
            · have := Option.some.inj hd; omega
            · cases hd
          · exact e
        have h2 : 10 ^ 10 ≤ 10 ^ r.length := Nat.pow_le_pow_right (by decide) (by rw [List.length_cons] at hl; omega)
        have h3 : 1 * 10 ^ r.length ≤ (0 * 10 + d) * 10 ^ r.length := Nat.mul_le_mul_right _ (by omega)
        have h4 : (10 : Nat) ^ 10 = 10000000000 := by decide
        omega
      · cases h
    · cases h
theorem finN_some {o : Option Nat} {n : Nat} (h : o = some n) (hn : n < 4294967296) : finN o = (n, true) := by
  subst h
  show (n % 4294967296, decide (n ≤ 4294967295)) = (n, true)
  rw [Nat.mod_eq_of_lt hn, decide_eq_true (by omega)]
theorem finN_big {o : Option Nat} (h : ∀ n, o = some n → 4294967296 ≤ n) : (finN o).2 = false := by
  cases o with
  | none => rfl
  | some n =>
    have := h n rfl
    exact decide_eq_false (by omega)
theorem numR_valP (w : Bs) : (∀ n, valP w = some n → numR w = (n, true)) ∧ (valP w = none → (numR w).2 = false) := by
  by_cases hp : pre [48, 120] w = true
  · have hV : valP w = if 0 < (w.drop 2).length ∧ (w.drop 2).length ≤ 8 then digV 16 0 (w.drop 2) else none := if_pos hp
    rw [hV]
    have hlen : 2 ≤ w.length := by
      obtain ⟨x, rfl⟩ := pre_iff.1 hp
      simp
    have hdl : (w.drop 2).length = w.length - 2 := List.length_drop
    by_cases h2 : 2 < w.length
    · have hN : numR w = if 8 < (w.drop 2).length then (0, false) else finN (digV 16 0 (w.drop 2)) := if_pos ⟨h2, hp⟩
      rw [hN]
      by_cases h8 : 8 < (w.drop 2).length
      · rw [if_neg (by omega), if_pos h8]
        exact ⟨fun n h => (by cases h), fun _ => rfl⟩
      · rw [if_pos (by omega), if_neg h8]
        refine ⟨fun n h => finN_some h ?_, fun h => by rw [h]; rfl⟩
        have := digV_lt16 _ _ _ h
        have h2 : 16 ^ (List.drop 2 w).length ≤ 16 ^ 8 := Nat.pow_le_pow_right (by decide) (by omega)
        have h3 : (16 : Nat) ^ 8 = 4294967296 := by decide
        omega
    · have hN : numR w = (0, false) := by
        unfold numR
        rw [if_neg (fun h => h2 h.1), if_pos]
        obtain ⟨x, rfl⟩ := pre_iff.1 hp
        exact .inr (.inr ⟨by simp, rfl⟩)
      rw [if_neg (by omega), hN]
      exact ⟨fun n h => (by cases h), fun _ => rfl⟩
  · have hV : valP w = if w.length = 0 ∨ (1 < w.length ∧ w.head? = some 48) then none else match digV 10 0 w with
      | some n => if n < 4294967296 then some n else none
      | none => none := if_neg hp
    have hN : numR w = if w.length = 0 ∨ 10 < w.length ∨ (1 < w.length ∧ w.head? = some 48) then (0, false) else finN (digV 10 0 w) := if_neg fun h => hp h.2
    rw [hV, hN]
    by_cases h0 : w.length = 0 ∨ (1 < w.length ∧ w.head? = some 48)
    · have h1 : w.length = 0 ∨ 10 < w.length ∨ (1 < w.length ∧ w.head? = some 48) := by
        rcases h0 with h | h
        · exact .inl h
        · exact .inr (.inr h)
      rw [if_pos h0, if_pos h1]
      exact ⟨fun n h => (by cases h), fun _ => rfl⟩
    rw [if_neg h0]
    by_cases h10 : 10 < w.length
    · rw [if_pos (show w.length = 0 ∨ 10 < w.length ∨ (1 < w.length ∧ w.head? = some 48) from .inr (.inl h10))]
      refine ⟨fun n h => ?_, fun _ => rfl⟩
      cases hd : digV 10 0 w with
      | none => rw [hd] at h; cases h
      | some m =>
        rw [hd] at h
        have := dig_long hd h10 (fun e => h0 (.inr ⟨by omega, e⟩))
        simp only at h
        rw [if_neg (by omega)] at h
        cases h
    · have h1 : ¬ (w.length = 0 ∨ 10 < w.length ∨ (1 < w.length ∧ w.head? = some 48)) := by
        rintro (h | h | h)
        · exact h0 (.inl h)
        · exact h10 h
        · exact h0 (.inr h)
      rw [if_neg h1]
      cases hd : digV 10 0 w with
      | none => exact ⟨fun n h => (by cases h), fun _ => rfl⟩
      | some m =>
        simp only
        by_cases hm : m < 4294967296
        · rw [if_pos hm]
          exact ⟨fun n h => by cases h; exact finN_some rfl hm, fun h => by cases h⟩
        · rw [if_neg hm]
          exact ⟨fun n h => (by cases h), fun _ => finN_big fun n h => by cases h; omega⟩
theorem numR_some {w : Bs} {n : Nat} (h : valP w = some n) : numR w = (n, true) := (numR_valP w).1 n h
theorem numR_none {w : Bs} (h : valP w = none) : (numR w).2 = false := (numR_valP w).2 h
theorem pre2_take {w : Bs} (h : 2 < w.length) : (w.take 2 == [48, 120]) = pre [48, 120] w := by
  rw [pre_take, decide_eq_true (show ([48, 120] : Bs).length ≤ w.length by simp; omega), Bool.true_and]
  rfl
theorem Y66_T28 : type_of% (And.intro @F_in_28 (And.intro @F_in_3 (And.intro @F_un_28 (And.intro @F_un_3 (@F_un_9))))) := And.intro @F_in_28 (And.intro @F_in_3 (And.intro @F_un_28 (And.intro @F_un_3 (@F_un_9))))
set_option maxHeartbeats 2000000 in
theorem c_number (w : Bs) (hw : w.length ≤ 4194304) : PC Tryd.prog 66 [.im (.string ⟨(w).toArray⟩)] (.tu [.im (.int .u32 (((numR w).1 : Int))), (.im (.bool ((numR w).2)))]) := by
  by_cases hhx : 2 < w.length ∧ pre [48, 120] w = true
  · obtain ⟨h2, hp⟩ := hhx
    have h2' : (w.length : Int) > 2 := by omega
    have h2'' : (2 : Int) ≤ (w.length : Int) := by omega
    have hpt := pre2_take h2
    rw [hp] at hpt
    obtain ⟨ds, hds⟩ : ∃ ds, ds = w.drop 2 := ⟨_, rfl⟩
    have hdl : ds.length = w.length - 2 := by rw [hds, List.length_drop]
    have hful : (w.drop 2).take (w.length - 2) = ds := by rw [← hds]; exact List.take_of_length_le (by omega)
    have hR : numR w = if 8 < ds.length then (0, false) else finN (digV 16 0 ds) := by rw [hds]; exact if_pos ⟨h2, hp⟩
    rw [hR]
    have hne : ¬ (ds.length : Int) = 0 := by omega
    clear hR hds
    by_cases h8 : 8 < ds.length
    · rw [if_pos h8]
      have h8' : (ds.length : Int) > 8 := by omega
      by_cases h10 : 10 < ds.length
      · have h10' : (ds.length : Int) > 10 := by omega
        refine PC.enter 77 Tryd.func66 rfl (by decide) rfl rfl (s := [(0, .im (.string ⟨(w).toArray⟩))]) (by rfl) ?_
        refine wdG Y66_T28 (And.intro BY (And.intro GDS (And.intro h2' (And.intro h2'' (And.intro hpt (And.intro hful (And.intro hne (And.intro h8' h10')))))))) ?_
        refine Fin.gen0 (rs := [.tmp 2, .tmp 3]) rfl (by first | exact .inl rfl | exact .inr rfl) (by simp only [resX, resA, ↓accU_f, ↓reduceIte, SA, SB, SC, SD, Y66_T28, valG, fpsG, evO, evB, evA, evA1, nilK, eqF, eqC, apOk, intOf, slB, slK,  gd, St.ev, putA, ofl, wrl, putE, V.ofVal, V.ofCell, bin2, un1, seg, fillV, partsOk, Value.oneCell', Nat.reduceBEq, Nat.reduceLT, Nat.reduceSub, Nat.reduceAdd, Nat.reduceMul, Nat.reduceLeDiff, Nat.reduceEqDiff, reduceCtorEq, Int.reduceLT, Int.reduceLE, Int.reduceEq, Int.reduceNe, Int.reduceBEq, Int.reduceBNe, Int.reduceAdd, Int.reduceSub, Int.reduceMul, Int.reduceToNat]; with_reducible exact rfl) ?_
        repeat (first | exact WkF.of (Wk.refl _) (by first | rfl | simp only [List.length_cons, List.length_nil, Nat.reduceAdd, V.ids, V.idsL, idsA, entOk, List.all_cons, List.all_nil, Bool.and_self, Bool.and_true, Bool.true_and, ltB, noId, Nat.reduceLT, decide_true, Bool.true_eq_false, tyV_id, fdV_id, tyL_id, fdL_id, byL_id]) | exact WkF.of (Wk.ro _ _) (by first | rfl | simp only [List.length_cons, List.length_nil, Nat.reduceAdd, V.ids, V.idsL, idsA, entOk, List.all_cons, List.all_nil, Bool.and_self, Bool.and_true, Bool.true_and, ltB, noId, Nat.reduceLT, decide_true, Bool.true_eq_false, tyV_id, fdV_id, tyL_id, fdL_id, byL_id]) | refine WkF.tu ?_ | refine WkF.ag ?_ | refine WkFL.cons ?_ ?_ | exact WkFL.nil)
      · have h10' : ¬ (ds.length : Int) > 10 := by omega
        refine PC.enter 77 Tryd.func66 rfl (by decide) rfl rfl (s := [(0, .im (.string ⟨(w).toArray⟩))]) (by rfl) ?_
        refine wdG Y66_T28 (And.intro BY (And.intro GDS (And.intro h2' (And.intro h2'' (And.intro hpt (And.intro hful (And.intro hne (And.intro h8' h10')))))))) ?_
        refine Fin.gen0 (rs := [.tmp 2, .tmp 3]) rfl (by first | exact .inl rfl | exact .inr rfl) (by simp only [resX, resA, ↓accU_f, ↓reduceIte, SA, SB, SC, SD, Y66_T28, valG, fpsG, evO, evB, evA, evA1, nilK, eqF, eqC, apOk, intOf, slB, slK,  gd, St.ev, putA, ofl, wrl, putE, V.ofVal, V.ofCell, bin2, un1, seg, fillV, partsOk, Value.oneCell', Nat.reduceBEq, Nat.reduceLT, Nat.reduceSub, Nat.reduceAdd, Nat.reduceMul, Nat.reduceLeDiff, Nat.reduceEqDiff, reduceCtorEq, Int.reduceLT, Int.reduceLE, Int.reduceEq, Int.reduceNe, Int.reduceBEq, Int.reduceBNe, Int.reduceAdd, Int.reduceSub, Int.reduceMul, Int.reduceToNat]; with_reducible exact rfl) ?_
        repeat (first | exact WkF.of (Wk.refl _) (by first | rfl | simp only [List.length_cons, List.length_nil, Nat.reduceAdd, V.ids, V.idsL, idsA, entOk, List.all_cons, List.all_nil, Bool.and_self, Bool.and_true, Bool.true_and, ltB, noId, Nat.reduceLT, decide_true, Bool.true_eq_false, tyV_id, fdV_id, tyL_id, fdL_id, byL_id]) | exact WkF.of (Wk.ro _ _) (by first | rfl | simp only [List.length_cons, List.length_nil, Nat.reduceAdd, V.ids, V.idsL, idsA, entOk, List.all_cons, List.all_nil, Bool.and_self, Bool.and_true, Bool.true_and, ltB, noId, Nat.reduceLT, decide_true, Bool.true_eq_false, tyV_id, fdV_id, tyL_id, fdL_id, byL_id]) | refine WkF.tu ?_ | refine WkF.ag ?_ | refine WkFL.cons ?_ ?_ | exact WkFL.nil)
    rw [if_neg h8]
    have h8' : ¬ (ds.length : Int) > 8 := by omega
    have h10' : ¬ (ds.length : Int) > 10 := by omega
    refine PC.enter 77 Tryd.func66 rfl (by decide) rfl rfl (s := [(0, .im (.string ⟨(w).toArray⟩))]) (by rfl) ?_
    refine wdG Y66_T28 (And.intro BY (And.intro GDS (And.intro h2' (And.intro h2'' (And.intro hpt (And.intro hful (And.intro hne (And.intro h8' h10')))))))) ?_
    clear h2' h2'' hpt hful hne h8' h10' hdl h2 hp
    refine AWp.loop ?_
    suffices H : ∀ (k m n : Nat), ds.length - m = k → m ≤ ds.length → n < 16 ^ m → digV 16 0 ds = digV 16 n (ds.drop m) → ALp _ _ _ _ _ ⟨dn 77 [(0, .im (.string ⟨(w).toArray⟩)), (4, (.im (.int .i64 (16)))), (5, .im (.string ⟨(ds).toArray⟩)), (6, (.im (.int .i64 (((n : Nat) : Int))))), (7, (.im (.int .i64 ((((m : Nat)) : Int)))))], ofl []⟩ by
      refine ALp.cutP 0 [(0, .im (.string ⟨(w).toArray⟩)), (4, (.im (.int .i64 (16)))), (5, .im (.string ⟨(ds).toArray⟩)), (6, (.im (.int .i64 (((0 : Nat) : Int))))), (7, (.im (.int .i64 ((((0 : Nat)) : Int)))))] [] byL_id ?_
      exact H _ 0 0 rfl (Nat.zero_le _) (by decide) rfl
    intro k
    induction k using Nat.strongRecOn with
    | _ k ih =>
    intro m n hk hml hnb hD
    have hpw : 16 ^ m ≤ 16 ^ 8 := Nat.pow_le_pow_right (by decide) (by omega)
    have hpn : (16 : Nat) ^ 8 = 4294967296 := by decide
    refine ALp.round ?_
    by_cases hlt : m < ds.length
    case neg =>
      obtain rfl : m = ds.length := by omega
      have hn : ¬ (ds.length : Int) < (ds.length : Int) := by omega
      rw [List.drop_length] at hD
      have hR : finN (digV 16 0 ds) = (n % 4294967296, decide (n ≤ 4294967295)) := by rw [hD]; rfl
      rw [hR]
      have hwr := u32_mod n
      clear ih
      by_cases hle : n ≤ 4294967295
      · have hle' : (n : Int) ≤ 4294967295 := by omega
        rw [decide_eq_true hle]
        refine wG Y66_T28 (And.intro BY (And.intro hn (And.intro hwr hle'))) ?_
        refine Fin.gen0 (rs := [.tmp 2, .tmp 3]) rfl (by first | exact .inl rfl | exact .inr rfl) (by simp only [resX, resA, ↓accU_f, ↓reduceIte, SA, SB, SC, SD, Y66_T28, valG, fpsG, evO, evB, evA, evA1, nilK, eqF, eqC, apOk, intOf, slB, slK,  gd, St.ev, putA, ofl, wrl, putE, V.ofVal, V.ofCell, bin2, un1, seg, fillV, partsOk, Value.oneCell', Nat.reduceBEq, Nat.reduceLT, Nat.reduceSub, Nat.reduceAdd, Nat.reduceMul, Nat.reduceLeDiff, Nat.reduceEqDiff, reduceCtorEq, Int.reduceLT, Int.reduceLE, Int.reduceEq, Int.reduceNe, Int.reduceBEq, Int.reduceBNe, Int.reduceAdd, Int.reduceSub, Int.reduceMul, Int.reduceToNat]; with_reducible exact rfl) ?_
        repeat (first | exact WkF.of (Wk.refl _) (by first | rfl | simp only [List.length_cons, List.length_nil, Nat.reduceAdd, V.ids, V.idsL, idsA, entOk, List.all_cons, List.all_nil, Bool.and_self, Bool.and_true, Bool.true_and, ltB, noId, Nat.reduceLT, decide_true, Bool.true_eq_false, tyV_id, fdV_id, tyL_id, fdL_id, byL_id]) | exact WkF.of (Wk.ro _ _) (by first | rfl | simp only [List.length_cons, List.length_nil, Nat.reduceAdd, V.ids, V.idsL, idsA, entOk, List.all_cons, List.all_nil, Bool.and_self, Bool.and_true, Bool.true_and, ltB, noId, Nat.reduceLT, decide_true, Bool.true_eq_false, tyV_id, fdV_id, tyL_id, fdL_id, byL_id]) | refine WkF.tu ?_ | refine WkF.ag ?_ | refine WkFL.cons ?_ ?_ | exact WkFL.nil)
      · have hle' : ¬ (n : Int) ≤ 4294967295 := by omega
        rw [decide_eq_false hle]
        refine wG Y66_T28 (And.intro BY (And.intro hn (And.intro hwr hle'))) ?_
        refine Fin.gen0 (rs := [.tmp 2, .tmp 3]) rfl (by first | exact .inl rfl | exact .inr rfl) (by simp only [resX, resA, ↓accU_f, ↓reduceIte, SA, SB, SC, SD, Y66_T28, valG, fpsG, evO, evB, evA, evA1, nilK, eqF, eqC, apOk, intOf, slB, slK,  gd, St.ev, putA, ofl, wrl, putE, V.ofVal, V.ofCell, bin2, un1, seg, fillV, partsOk, Value.oneCell', Nat.reduceBEq, Nat.reduceLT, Nat.reduceSub, Nat.reduceAdd, Nat.reduceMul, Nat.reduceLeDiff, Nat.reduceEqDiff, reduceCtorEq, Int.reduceLT, Int.reduceLE, Int.reduceEq, Int.reduceNe, Int.reduceBEq, Int.reduceBNe, Int.reduceAdd, Int.reduceSub, Int.reduceMul, Int.reduceToNat]; with_reducible exact rfl) ?_
        repeat (first | exact WkF.of (Wk.refl _) (by first | rfl | simp only [List.length_cons, List.length_nil, Nat.reduceAdd, V.ids, V.idsL, idsA, entOk, List.all_cons, List.all_nil, Bool.and_self, Bool.and_true, Bool.true_and, ltB, noId, Nat.reduceLT, decide_true, Bool.true_eq_false, tyV_id, fdV_id, tyL_id, fdL_id, byL_id]) | exact WkF.of (Wk.ro _ _) (by first | rfl | simp only [List.length_cons, List.length_nil, Nat.reduceAdd, V.ids, V.idsL, idsA, entOk, List.all_cons, List.all_nil, Bool.and_self, Bool.and_true, Bool.true_and, ltB, noId, Nat.reduceLT, decide_true, Bool.true_eq_false, tyV_id, fdV_id, tyL_id, fdL_id, byL_id]) | refine WkF.tu ?_ | refine WkF.ag ?_ | refine WkFL.cons ?_ ?_ | exact WkFL.nil)
    have hlt' : (m : Int) < (ds.length : Int) := by omega
    have hw1 := wrap_succ hlt (by omega)
    have hg : ds[m]? = some ds[m] := List.getElem?_eq_getElem hlt
    have hd : ds.drop m = ds[m] :: ds.drop (m + 1) := List.drop_eq_getElem_cons hlt
    have qh := c_hexDR ds[m]
    rw [hd, digV] at hD
    have hpow : 16 ^ (m + 1) = 16 ^ m * 16 := Nat.pow_succ _ _
    generalize ds[m] = c at hg hD qh
    cases hx : hexv c with
    | none =>
      rw [hx] at hD
      rw [hexI_none hx] at qh
      rw [show finN (digV 16 0 ds) = (0, false) by rw [hD]; rfl]
      clear ih
      refine wG Y66_T28 (And.intro BY (And.intro hlt' hg)) ?_
      refine AR.callP qh True.intro byL_id ?_
      refine goG Y66_T28 True.intro ?_
      refine wG Y66_T28 True.intro ?_
      refine Fin.gen0 (rs := [.tmp 2, .tmp 3]) rfl (by first | exact .inl rfl | exact .inr rfl) (by simp only [resX, resA, ↓accU_f, ↓reduceIte, SA, SB, SC, SD, Y66_T28, valG, fpsG, evO, evB, evA, evA1, nilK, eqF, eqC, apOk, intOf, slB, slK,  gd, St.ev, putA, ofl, wrl, putE, V.ofVal, V.ofCell, bin2, un1, seg, fillV, partsOk, Value.oneCell', Nat.reduceBEq, Nat.reduceLT, Nat.reduceSub, Nat.reduceAdd, Nat.reduceMul, Nat.reduceLeDiff, Nat.reduceEqDiff, reduceCtorEq, Int.reduceLT, Int.reduceLE, Int.reduceEq, Int.reduceNe, Int.reduceBEq, Int.reduceBNe, Int.reduceAdd, Int.reduceSub, Int.reduceMul, Int.reduceToNat]; with_reducible exact rfl) ?_
      repeat (first | exact WkF.of (Wk.refl _) (by first | rfl | simp only [List.length_cons, List.length_nil, Nat.reduceAdd, V.ids, V.idsL, idsA, entOk, List.all_cons, List.all_nil, Bool.and_self, Bool.and_true, Bool.true_and, ltB, noId, Nat.reduceLT, decide_true, Bool.true_eq_false, tyV_id, fdV_id, tyL_id, fdL_id, byL_id]) | exact WkF.of (Wk.ro _ _) (by first | rfl | simp only [List.length_cons, List.length_nil, Nat.reduceAdd, V.ids, V.idsL, idsA, entOk, List.all_cons, List.all_nil, Bool.and_self, Bool.and_true, Bool.true_and, ltB, noId, Nat.reduceLT, decide_true, Bool.true_eq_false, tyV_id, fdV_id, tyL_id, fdL_id, byL_id]) | refine WkF.tu ?_ | refine WkF.ag ?_ | refine WkFL.cons ?_ ?_ | exact WkFL.nil)
    | some d =>
    rw [hx] at hD
    rw [hexI_some hx] at qh
    simp only at hD
    have hd0 : ¬ (d : Int) < 0 := by omega
    by_cases hdb : d < 16
    case neg =>
      rw [if_neg hdb] at hD
      rw [show finN (digV 16 0 ds) = (0, false) by rw [hD]; rfl]
      have hdb' : (d : Int) ≥ 16 := by omega
      clear ih
      refine wG Y66_T28 (And.intro BY (And.intro hlt' hg)) ?_
      refine AR.callP qh True.intro byL_id ?_
      refine goG Y66_T28 True.intro ?_
      refine wG Y66_T28 (And.intro hd0 hdb') ?_
      refine Fin.gen0 (rs := [.tmp 2, .tmp 3]) rfl (by first | exact .inl rfl | exact .inr rfl) (by simp only [resX, resA, ↓accU_f, ↓reduceIte, SA, SB, SC, SD, Y66_T28, valG, fpsG, evO, evB, evA, evA1, nilK, eqF, eqC, apOk, intOf, slB, slK,  gd, St.ev, putA, ofl, wrl, putE, V.ofVal, V.ofCell, bin2, un1, seg, fillV, partsOk, Value.oneCell', Nat.reduceBEq, Nat.reduceLT, Nat.reduceSub, Nat.reduceAdd, Nat.reduceMul, Nat.reduceLeDiff, Nat.reduceEqDiff, reduceCtorEq, Int.reduceLT, Int.reduceLE, Int.reduceEq, Int.reduceNe, Int.reduceBEq, Int.reduceBNe, Int.reduceAdd, Int.reduceSub, Int.reduceMul, Int.reduceToNat]; with_reducible exact rfl) ?_
      repeat (first | exact WkF.of (Wk.refl _) (by first | rfl | simp only [List.length_cons, List.length_nil, Nat.reduceAdd, V.ids, V.idsL, idsA, entOk, List.all_cons, List.all_nil, Bool.and_self, Bool.and_true, Bool.true_and, ltB, noId, Nat.reduceLT, decide_true, Bool.true_eq_false, tyV_id, fdV_id, tyL_id, fdL_id, byL_id]) | exact WkF.of (Wk.ro _ _) (by first | rfl | simp only [List.length_cons, List.length_nil, Nat.reduceAdd, V.ids, V.idsL, idsA, entOk, List.all_cons, List.all_nil, Bool.and_self, Bool.and_true, Bool.true_and, ltB, noId, Nat.reduceLT, decide_true, Bool.true_eq_false, tyV_id, fdV_id, tyL_id, fdL_id, byL_id]) | refine WkF.tu ?_ | refine WkF.ag ?_ | refine WkFL.cons ?_ ?_ | exact WkFL.nil)
    rw [if_pos hdb] at hD
    have hdb' : ¬ (d : Int) ≥ 16 := by omega
    have hI := ih (ds.length - (m + 1)) (by omega) (m + 1) (n * 16 + d) rfl (by omega) (by omega) hD
    have hm1 : IntKind.i64.wrap (16 * (n : Int)) = ((n * 16 : Nat) : Int) := by rw [wrap_in (by omega)]; omega
    have hm2 : IntKind.i64.wrap (((n * 16 : Nat) : Int) + (d : Int)) = ((n * 16 + d : Nat) : Int) := by rw [wrap_in (by omega)]; omega
    clear ih
    refine wG Y66_T28 (And.intro BY (And.intro hlt' hg)) ?_
    refine AR.callP qh True.intro byL_id ?_
    refine goG Y66_T28 True.intro ?_
    refine wG Y66_T28 (And.intro hd0 (And.intro hdb' (And.intro hm1 (And.intro hm2 hw1)))) ?_
    refine ALp.cutP 0 [(0, .im (.string ⟨(w).toArray⟩)), (4, (.im (.int .i64 (16)))), (5, .im (.string ⟨(ds).toArray⟩)), (6, (.im (.int .i64 (((n * 16 + d : Nat) : Int))))), (7, (.im (.int .i64 ((((m + 1 : Nat)) : Int)))))] [] byL_id ?_
    exact hI

  obtain ⟨ds, hds⟩ : ∃ ds, ds = w := ⟨_, rfl⟩
  have hR : numR w = if ds.length = 0 ∨ 10 < ds.length ∨ (1 < ds.length ∧ ds.head? = some 48) then (0, false) else finN (digV 10 0 ds) := by rw [hds]; exact if_neg hhx
  rw [hR]
  clear hR
  have hpt : 2 < w.length → (w.take 2 == [48, 120]) = false := fun h => by
    rw [pre2_take h]
    cases hx : pre [48, 120] w with
    | false => rfl
    | true => exact absurd ⟨h, hx⟩ hhx
  refine PC.enter 77 Tryd.func66 rfl (by decide) rfl rfl (s := [(0, .im (.string ⟨(w).toArray⟩))]) (by rfl) ?_
  refine AWp.seq ?_
  refine AWp.tail (fun _ : Unit => ⟨dn 77 [(0, .im (.string ⟨(w).toArray⟩))], ofl []⟩) (fun _ => ?_) (fun rest ht => ?_)
  case refine_2 =>
    refine wG Y66_T28 True.intro ?_
    refine AWp.cutP 0 [(0, .im (.string ⟨(w).toArray⟩))] [] byL_id ?_
    exact ht ()
  refine AWp.seq ?_
  refine AWp.tail (fun _ : Unit => ⟨dn 77 [(0, .im (.string ⟨(w).toArray⟩)), (4, (.im (.int .i64 (10)))), (5, .im (.string ⟨(w).toArray⟩))], ofl []⟩) (fun _ => ?_) (fun rest ht => ?_)
  case refine_2 =>
    refine wdG Y66_T28 True.intro ?_
    refine AWp.cutP 0 [(0, .im (.string ⟨(w).toArray⟩)), (4, (.im (.int .i64 (10)))), (5, .im (.string ⟨(w).toArray⟩))] [] byL_id ?_
    exact ht ()
  refine AWp.seq ?_
  refine AWp.tail (fun _ : Unit => ⟨dn 77 [(0, .im (.string ⟨(w).toArray⟩)), (4, (.im (.int .i64 (10)))), (5, .im (.string ⟨(w).toArray⟩))], ofl []⟩) (fun _ => ?_) (fun rest ht => ?_)
  case refine_2 =>
    by_cases h2 : 2 < w.length
    · have h2' : (w.length : Int) > 2 := by omega
      have h2'' : (2 : Int) ≤ (w.length : Int) := by omega
      have hp2 := hpt h2
      refine wG Y66_T28 (And.intro BY (And.intro GDS (And.intro h2' (And.intro h2'' hp2)))) ?_
      refine AWp.cutP 0 [(0, .im (.string ⟨(w).toArray⟩)), (4, (.im (.int .i64 (10)))), (5, .im (.string ⟨(w).toArray⟩))] [] byL_id ?_
      exact ht ()
    · have h2' : ¬ (w.length : Int) > 2 := by omega
      refine wG Y66_T28 (And.intro BY (And.intro GDS h2')) ?_
      refine AWp.cutP 0 [(0, .im (.string ⟨(w).toArray⟩)), (4, (.im (.int .i64 (10)))), (5, .im (.string ⟨(w).toArray⟩))] [] byL_id ?_
      exact ht ()
  clear hpt hhx
  subst hds
  refine AWp.seq ?_
  refine AWp.tail (fun _ : PLift (¬ (ds.length = 0 ∨ 10 < ds.length ∨ (1 < ds.length ∧ ds.head? = some 48))) => ⟨dn 77 [(0, .im (.string ⟨(ds).toArray⟩)), (4, (.im (.int .i64 (10)))), (5, .im (.string ⟨(ds).toArray⟩))], ofl []⟩) (fun hb => ?_) (fun rest ht => ?_)
  case refine_2 =>
    by_cases h0 : ds.length = 0
    · have h0' : (ds.length : Int) = 0 := by omega
      rw [if_pos (.inl h0)]
      refine wG Y66_T28 (And.intro BY h0') ?_
      refine Fin.gen0 (rs := [.tmp 2, .tmp 3]) rfl (by first | exact .inl rfl | exact .inr rfl) (by simp only [resX, resA, ↓accU_f, ↓reduceIte, SA, SB, SC, SD, Y66_T28, valG, fpsG, evO, evB, evA, evA1, nilK, eqF, eqC, apOk, intOf, slB, slK,  gd, St.ev, putA, ofl, wrl, putE, V.ofVal, V.ofCell, bin2, un1, seg, fillV, partsOk, Value.oneCell', Nat.reduceBEq, Nat.reduceLT, Nat.reduceSub, Nat.reduceAdd, Nat.reduceMul, Nat.reduceLeDiff, Nat.reduceEqDiff, reduceCtorEq, Int.reduceLT, Int.reduceLE, Int.reduceEq, Int.reduceNe, Int.reduceBEq, Int.reduceBNe, Int.reduceAdd, Int.reduceSub, Int.reduceMul, Int.reduceToNat]; with_reducible exact rfl) ?_
      repeat (first | exact WkF.of (Wk.refl _) (by first | rfl | simp only [List.length_cons, List.length_nil, Nat.reduceAdd, V.ids, V.idsL, idsA, entOk, List.all_cons, List.all_nil, Bool.and_self, Bool.and_true, Bool.true_and, ltB, noId, Nat.reduceLT, decide_true, Bool.true_eq_false, tyV_id, fdV_id, tyL_id, fdL_id, byL_id]) | exact WkF.of (Wk.ro _ _) (by first | rfl | simp only [List.length_cons, List.length_nil, Nat.reduceAdd, V.ids, V.idsL, idsA, entOk, List.all_cons, List.all_nil, Bool.and_self, Bool.and_true, Bool.true_and, ltB, noId, Nat.reduceLT, decide_true, Bool.true_eq_false, tyV_id, fdV_id, tyL_id, fdL_id, byL_id]) | refine WkF.tu ?_ | refine WkF.ag ?_ | refine WkFL.cons ?_ ?_ | exact WkFL.nil)
    have h0' : ¬ (ds.length : Int) = 0 := by omega
    by_cases h10 : 10 < ds.length
    · have h10' : (ds.length : Int) > 10 := by omega
      rw [if_pos (.inr (.inl h10))]
      refine wG Y66_T28 (And.intro BY (And.intro h0' h10')) ?_
      refine Fin.gen0 (rs := [.tmp 2, .tmp 3]) rfl (by first | exact .inl rfl | exact .inr rfl) (by simp only [resX, resA, ↓accU_f, ↓reduceIte, SA, SB, SC, SD, Y66_T28, valG, fpsG, evO, evB, evA, evA1, nilK, eqF, eqC, apOk, intOf, slB, slK,  gd, St.ev, putA, ofl, wrl, putE, V.ofVal, V.ofCell, bin2, un1, seg, fillV, partsOk, Value.oneCell', Nat.reduceBEq, Nat.reduceLT, Nat.reduceSub, Nat.reduceAdd, Nat.reduceMul, Nat.reduceLeDiff, Nat.reduceEqDiff, reduceCtorEq, Int.reduceLT, Int.reduceLE, Int.reduceEq, Int.reduceNe, Int.reduceBEq, Int.reduceBNe, Int.reduceAdd, Int.reduceSub, Int.reduceMul, Int.reduceToNat]; with_reducible exact rfl) ?_
      repeat (first | exact WkF.of (Wk.refl _) (by first | rfl | simp only [List.length_cons, List.length_nil, Nat.reduceAdd, V.ids, V.idsL, idsA, entOk, List.all_cons, List.all_nil, Bool.and_self, Bool.and_true, Bool.true_and, ltB, noId, Nat.reduceLT, decide_true, Bool.true_eq_false, tyV_id, fdV_id, tyL_id, fdL_id, byL_id]) | exact WkF.of (Wk.ro _ _) (by first | rfl | simp only [List.length_cons, List.length_nil, Nat.reduceAdd, V.ids, V.idsL, idsA, entOk, List.all_cons, List.all_nil, Bool.and_self, Bool.and_true, Bool.true_and, ltB, noId, Nat.reduceLT, decide_true, Bool.true_eq_false, tyV_id, fdV_id, tyL_id, fdL_id, byL_id]) | refine WkF.tu ?_ | refine WkF.ag ?_ | refine WkFL.cons ?_ ?_ | exact WkFL.nil)
    have h10' : ¬ (ds.length : Int) > 10 := by omega
    by_cases h1 : 1 < ds.length
    · have h1' : (ds.length : Int) > 1 := by omega
      obtain ⟨c, r, rfl⟩ : ∃ c r, ds = c :: r := by cases ds with
        | nil => cases h1
        | cons c r => exact ⟨c, r, rfl⟩
      have hg : (c :: r)[0]? = some c := rfl
      by_cases h48 : c.toNat = 48
      · have h48' : (c.toNat : Int) = 48 := by omega
        rw [if_pos (.inr (.inr ⟨h1, by rw [show c = 48 from toNat_inj h48]; rfl⟩))]
        generalize c :: r = ds at *
        refine wG Y66_T28 (And.intro BY (And.intro h0' (And.intro h10' (And.intro h1' (And.intro hg h48'))))) ?_
        refine Fin.gen0 (rs := [.tmp 2, .tmp 3]) rfl (by first | exact .inl rfl | exact .inr rfl) (by simp only [resX, resA, ↓accU_f, ↓reduceIte, SA, SB, SC, SD, Y66_T28, valG, fpsG, evO, evB, evA, evA1, nilK, eqF, eqC, apOk, intOf, slB, slK,  gd, St.ev, putA, ofl, wrl, putE, V.ofVal, V.ofCell, bin2, un1, seg, fillV, partsOk, Value.oneCell', Nat.reduceBEq, Nat.reduceLT, Nat.reduceSub, Nat.reduceAdd, Nat.reduceMul, Nat.reduceLeDiff, Nat.reduceEqDiff, reduceCtorEq, Int.reduceLT, Int.reduceLE, Int.reduceEq, Int.reduceNe, Int.reduceBEq, Int.reduceBNe, Int.reduceAdd, Int.reduceSub, Int.reduceMul, Int.reduceToNat]; with_reducible exact rfl) ?_
        repeat (first | exact WkF.of (Wk.refl _) (by first | rfl | simp only [List.length_cons, List.length_nil, Nat.reduceAdd, V.ids, V.idsL, idsA, entOk, List.all_cons, List.all_nil, Bool.and_self, Bool.and_true, Bool.true_and, ltB, noId, Nat.reduceLT, decide_true, Bool.true_eq_false, tyV_id, fdV_id, tyL_id, fdL_id, byL_id]) | exact WkF.of (Wk.ro _ _) (by first | rfl | simp only [List.length_cons, List.length_nil, Nat.reduceAdd, V.ids, V.idsL, idsA, entOk, List.all_cons, List.all_nil, Bool.and_self, Bool.and_true, Bool.true_and, ltB, noId, Nat.reduceLT, decide_true, Bool.true_eq_false, tyV_id, fdV_id, tyL_id, fdL_id, byL_id]) | refine WkF.tu ?_ | refine WkF.ag ?_ | refine WkFL.cons ?_ ?_ | exact WkFL.nil)
      · have h48' : ¬ (c.toNat : Int) = 48 := by omega
        have hbad : ¬ ((c :: r).length = 0 ∨ 10 < (c :: r).length ∨ (1 < (c :: r).length ∧ (c :: r).head? = some 48)) := fun h => by
          rcases h with h | h | h
          · exact h0 h
          · exact h10 h
          · have := Option.some.inj h.2
            rw [this] at h48
            exact h48 rfl
        have ht := ht ⟨hbad⟩
        clear hbad
        generalize c :: r = ds at *
        refine wG Y66_T28 (And.intro BY (And.intro h0' (And.intro h10' (And.intro h1' (And.intro hg h48'))))) ?_
        refine AWp.cutP 0 [(0, .im (.string ⟨(ds).toArray⟩)), (4, (.im (.int .i64 (10)))), (5, .im (.string ⟨(ds).toArray⟩))] [] byL_id ?_
        exact ht
    · have h1' : ¬ (ds.length : Int) > 1 := by omega
      refine wG Y66_T28 (And.intro BY (And.intro h0' (And.intro h10' h1'))) ?_
      refine AWp.cutP 0 [(0, .im (.string ⟨(ds).toArray⟩)), (4, (.im (.int .i64 (10)))), (5, .im (.string ⟨(ds).toArray⟩))] [] byL_id ?_
      exact ht ⟨fun h => by
        rcases h with h | h | h
        · exact h0 h
        · exact h10 h
        · exact h1 h.1⟩
  obtain ⟨hb⟩ := hb
  rw [if_neg hb]
  refine wG Y66_T28 True.intro ?_
  refine AWp.loop ?_
  suffices H : ∀ (k m n : Nat), ds.length - m = k → m ≤ ds.length → n < 10 ^ m → digV 10 0 ds = digV 10 n (ds.drop m) → ALp _ _ _ _ _ ⟨dn 77 [(0, .im (.string ⟨(ds).toArray⟩)), (4, (.im (.int .i64 (10)))), (5, .im (.string ⟨(ds).toArray⟩)), (6, (.im (.int .i64 (((n : Nat) : Int))))), (7, (.im (.int .i64 ((((m : Nat)) : Int)))))], ofl []⟩ by
    refine ALp.cutP 0 [(0, .im (.string ⟨(ds).toArray⟩)), (4, (.im (.int .i64 (10)))), (5, .im (.string ⟨(ds).toArray⟩)), (6, (.im (.int .i64 (((0 : Nat) : Int))))), (7, (.im (.int .i64 ((((0 : Nat)) : Int)))))] [] byL_id ?_
    exact H _ 0 0 rfl (Nat.zero_le _) (by decide) rfl
  intro k
  induction k using Nat.strongRecOn with
  | _ k ih =>
  intro m n hk hml hnb hD
  have hpw : 10 ^ m ≤ 10 ^ 10 := Nat.pow_le_pow_right (by decide) (by omega)
  have hpn : (10 : Nat) ^ 10 = 10000000000 := by decide
  refine ALp.round ?_
  by_cases hlt : m < ds.length
  case neg =>
    obtain rfl : m = ds.length := by omega
    have hn : ¬ (ds.length : Int) < (ds.length : Int) := by omega
    rw [List.drop_length] at hD
    have hR : finN (digV 10 0 ds) = (n % 4294967296, decide (n ≤ 4294967295)) := by rw [hD]; rfl
    rw [hR]
    have hwr := u32_mod n
    clear ih
    by_cases hle : n ≤ 4294967295
    · have hle' : (n : Int) ≤ 4294967295 := by omega
      rw [decide_eq_true hle]
      refine wG Y66_T28 (And.intro BY (And.intro hn (And.intro hwr hle'))) ?_
      refine Fin.gen0 (rs := [.tmp 2, .tmp 3]) rfl (by first | exact .inl rfl | exact .inr rfl) (by simp only [resX, resA, ↓accU_f, ↓reduceIte, SA, SB, SC, SD, Y66_T28, valG, fpsG, evO, evB, evA, evA1, nilK, eqF, eqC, apOk, intOf, slB, slK,  gd, St.ev, putA, ofl, wrl, putE, V.ofVal, V.ofCell, bin2, un1, seg, fillV, partsOk, Value.oneCell', Nat.reduceBEq, Nat.reduceLT, Nat.reduceSub, Nat.reduceAdd, Nat.reduceMul, Nat.reduceLeDiff, Nat.reduceEqDiff, reduceCtorEq, Int.reduceLT, Int.reduceLE, Int.reduceEq, Int.reduceNe, Int.reduceBEq, Int.reduceBNe, Int.reduceAdd, Int.reduceSub, Int.reduceMul, Int.reduceToNat]; with_reducible exact rfl) ?_
      repeat (first | exact WkF.of (Wk.refl _) (by first | rfl | simp only [List.length_cons, List.length_nil, Nat.reduceAdd, V.ids, V.idsL, idsA, entOk, List.all_cons, List.all_nil, Bool.and_self, Bool.and_true, Bool.true_and, ltB, noId, Nat.reduceLT, decide_true, Bool.true_eq_false, tyV_id, fdV_id, tyL_id, fdL_id, byL_id]) | exact WkF.of (Wk.ro _ _) (by first | rfl | simp only [List.length_cons, List.length_nil, Nat.reduceAdd, V.ids, V.idsL, idsA, entOk, List.all_cons, List.all_nil, Bool.and_self, Bool.and_true, Bool.true_and, ltB, noId, Nat.reduceLT, decide_true, Bool.true_eq_false, tyV_id, fdV_id, tyL_id, fdL_id, byL_id]) | refine WkF.tu ?_ | refine WkF.ag ?_ | refine WkFL.cons ?_ ?_ | exact WkFL.nil)
    · have hle' : ¬ (n : Int) ≤ 4294967295 := by omega
      rw [decide_eq_false hle]
      refine wG Y66_T28 (And.intro BY (And.intro hn (And.intro hwr hle'))) ?_
      refine Fin.gen0 (rs := [.tmp 2, .tmp 3]) rfl (by first | exact .inl rfl | exact .inr rfl) (by simp only [resX, resA, ↓accU_f, ↓reduceIte, SA, SB, SC, SD, Y66_T28, valG, fpsG, evO, evB, evA, evA1, nilK, eqF, eqC, apOk, intOf, slB, slK,  gd, St.ev, putA, ofl, wrl, putE, V.ofVal, V.ofCell, bin2, un1, seg, fillV, partsOk, Value.oneCell', Nat.reduceBEq, Nat.reduceLT, Nat.reduceSub, Nat.reduceAdd, Nat.reduceMul, Nat.reduceLeDiff, Nat.reduceEqDiff, reduceCtorEq, Int.reduceLT, Int.reduceLE, Int.reduceEq, Int.reduceNe, Int.reduceBEq, Int.reduceBNe, Int.reduceAdd, Int.reduceSub, Int.reduceMul, Int.reduceToNat]; with_reducible exact rfl) ?_
      repeat (first | exact WkF.of (Wk.refl _) (by first | rfl | simp only [List.length_cons, List.length_nil, Nat.reduceAdd, V.ids, V.idsL, idsA, entOk, List.all_cons, List.all_nil, Bool.and_self, Bool.and_true, Bool.true_and, ltB, noId, Nat.reduceLT, decide_true, Bool.true_eq_false, tyV_id, fdV_id, tyL_id, fdL_id, byL_id]) | exact WkF.of (Wk.ro _ _) (by first | rfl | simp only [List.length_cons, List.length_nil, Nat.reduceAdd, V.ids, V.idsL, idsA, entOk, List.all_cons, List.all_nil, Bool.and_self, Bool.and_true, Bool.true_and, ltB, noId, Nat.reduceLT, decide_true, Bool.true_eq_false, tyV_id, fdV_id, tyL_id, fdL_id, byL_id]) | refine WkF.tu ?_ | refine WkF.ag ?_ | refine WkFL.cons ?_ ?_ | exact WkFL.nil)
  have hlt' : (m : Int) < (ds.length : Int) := by omega
  have hw1 := wrap_succ hlt (by omega)
  have hg : ds[m]? = some ds[m] := List.getElem?_eq_getElem hlt
  have hd : ds.drop m = ds[m] :: ds.drop (m + 1) := List.drop_eq_getElem_cons hlt
  have qh := c_hexDR ds[m]
  rw [hd, digV] at hD
  have hpow : 10 ^ (m + 1) = 10 ^ m * 10 := Nat.pow_succ _ _
  generalize ds[m] = c at hg hD qh
  cases hx : hexv c with
  | none =>
    rw [hx] at hD
    rw [hexI_none hx] at qh
    rw [show finN (digV 10 0 ds) = (0, false) by rw [hD]; rfl]
    clear ih
    refine wG Y66_T28 (And.intro BY (And.intro hlt' hg)) ?_
    refine AR.callP qh True.intro byL_id ?_
    refine goG Y66_T28 True.intro ?_
    refine wG Y66_T28 True.intro ?_
    refine Fin.gen0 (rs := [.tmp 2, .tmp 3]) rfl (by first | exact .inl rfl | exact .inr rfl) (by simp only [resX, resA, ↓accU_f, ↓reduceIte, SA, SB, SC, SD, Y66_T28, valG, fpsG, evO, evB, evA, evA1, nilK, eqF, eqC, apOk, intOf, slB, slK,  gd, St.ev, putA, ofl, wrl, putE, V.ofVal, V.ofCell, bin2, un1, seg, fillV, partsOk, Value.oneCell', Nat.reduceBEq, Nat.reduceLT, Nat.reduceSub, Nat.reduceAdd, Nat.reduceMul, Nat.reduceLeDiff, Nat.reduceEqDiff, reduceCtorEq, Int.reduceLT, Int.reduceLE, Int.reduceEq, Int.reduceNe, Int.reduceBEq, Int.reduceBNe, Int.reduceAdd, Int.reduceSub, Int.reduceMul, Int.reduceToNat]; with_reducible exact rfl) ?_
    repeat (first | exact WkF.of (Wk.refl _) (by first | rfl | simp only [List.length_cons, List.length_nil, Nat.reduceAdd, V.ids, V.idsL, idsA, entOk, List.all_cons, List.all_nil, Bool.and_self, Bool.and_true, Bool.true_and, ltB, noId, Nat.reduceLT, decide_true, Bool.true_eq_false, tyV_id, fdV_id, tyL_id, fdL_id, byL_id]) | exact WkF.of (Wk.ro _ _) (by first | rfl | simp only [List.length_cons, List.length_nil, Nat.reduceAdd, V.ids, V.idsL, idsA, entOk, List.all_cons, List.all_nil, Bool.and_self, Bool.and_true, Bool.true_and, ltB, noId, Nat.reduceLT, decide_true, Bool.true_eq_false, tyV_id, fdV_id, tyL_id, fdL_id, byL_id]) | refine WkF.tu ?_ | refine WkF.ag ?_ | refine WkFL.cons ?_ ?_ | exact WkFL.nil)
  | some d =>
  rw [hx] at hD
  rw [hexI_some hx] at qh
  simp only at hD
  have hd0 : ¬ (d : Int) < 0 := by omega
  by_cases hdb : d < 10
  case neg =>
    rw [if_neg hdb] at hD
    rw [show finN (digV 10 0 ds) = (0, false) by rw [hD]; rfl]
    have hdb' : (d : Int) ≥ 10 := by omega
    clear ih
    refine wG Y66_T28 (And.intro BY (And.intro hlt' hg)) ?_
    refine AR.callP qh True.intro byL_id ?_
    refine goG Y66_T28 True.intro ?_
    refine wG Y66_T28 (And.intro hd0 hdb') ?_
    refine Fin.gen0 (rs := [.tmp 2, .tmp 3]) rfl (by first | exact .inl rfl | exact .inr rfl) (by simp only [resX, resA, ↓accU_f, ↓reduceIte, SA, SB, SC, SD, Y66_T28, valG, fpsG, evO, evB, evA, evA1, nilK, eqF, eqC, apOk, intOf, slB, slK,  gd, St.ev, putA, ofl, wrl, putE, V.ofVal, V.ofCell, bin2, un1, seg, fillV, partsOk, Value.oneCell', Nat.reduceBEq, Nat.reduceLT, Nat.reduceSub, Nat.reduceAdd, Nat.reduceMul, Nat.reduceLeDiff, Nat.reduceEqDiff, reduceCtorEq, Int.reduceLT, Int.reduceLE, Int.reduceEq, Int.reduceNe, Int.reduceBEq, Int.reduceBNe, Int.reduceAdd, Int.reduceSub, Int.reduceMul, Int.reduceToNat]; with_reducible exact rfl) ?_
    repeat (first | exact WkF.of (Wk.refl _) (by first | rfl | simp only [List.length_cons, List.length_nil, Nat.reduceAdd, V.ids, V.idsL, idsA, entOk, List.all_cons, List.all_nil, Bool.and_self, Bool.and_true, Bool.true_and, ltB, noId, Nat.reduceLT, decide_true, Bool.true_eq_false, tyV_id, fdV_id, tyL_id, fdL_id, byL_id]) | exact WkF.of (Wk.ro _ _) (by first | rfl | simp only [List.length_cons, List.length_nil, Nat.reduceAdd, V.ids, V.idsL, idsA, entOk, List.all_cons, List.all_nil, Bool.and_self, Bool.and_true, Bool.true_and, ltB, noId, Nat.reduceLT, decide_true, Bool.true_eq_false, tyV_id, fdV_id, tyL_id, fdL_id, byL_id]) | refine WkF.tu ?_ | refine WkF.ag ?_ | refine WkFL.cons ?_ ?_ | exact WkFL.nil)
  rw [if_pos hdb] at hD
  have hdb' : ¬ (d : Int) ≥ 10 := by omega
  have hI := ih (ds.length - (m + 1)) (by omega) (m + 1) (n * 10 + d) rfl (by omega) (by omega) hD
  have hm1 : IntKind.i64.wrap (10 * (n : Int)) = ((n * 10 : Nat) : Int) := by rw [wrap_in (by omega)]; omega
  have hm2 : IntKind.i64.wrap (((n * 10 : Nat) : Int) + (d : Int)) = ((n * 10 + d : Nat) : Int) := by rw [wrap_in (by omega)]; omega
  clear ih
  refine wG Y66_T28 (And.intro BY (And.intro hlt' hg)) ?_
  refine AR.callP qh True.intro byL_id ?_
  refine goG Y66_T28 True.intro ?_
  refine wG Y66_T28 (And.intro hd0 (And.intro hdb' (And.intro hm1 (And.intro hm2 hw1)))) ?_
  refine ALp.cutP 0 [(0, .im (.string ⟨(ds).toArray⟩)), (4, (.im (.int .i64 (10)))), (5, .im (.string ⟨(ds).toArray⟩)), (6, (.im (.int .i64 (((n * 10 + d : Nat) : Int))))), (7, (.im (.int .i64 ((((m + 1 : Nat)) : Int)))))] [] byL_id ?_
  exact hI
end Go.Proofs.YtjilcaemoebloaaDoor

