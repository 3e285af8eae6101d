/- Walks: names. -/
import Derived.Test.YtfggemopnlffeaaHw
import Derived.Test.YtfggemopnlffeaaBE
import Derived.Test.YtfggemopnlffeaaPm
import Derived.Test.YtfggemopnlffeaaCt
namespace Go.Proofs.Ytfggemopnlffeaa
set_option linter.unusedSimpArgs false
set_option linter.unusedVariables false
set_option linter.unnecessarySimpa false
open Go.RowKit
theorem AWp.condAB {K : Option Nat → Prop} {P : Program} {st0 : Nat → Ent} {Q : Exit → St → Prop} {N t : Nat} {s : List (Nat × V)} {st : Nat → Ent} {x y : Code} {b : Bool} (ht : Nat.blt t N = true) (hc : look s t = .im (.bool b))
    (h1 : b = true → AWpK K P st0 x Q ⟨dn N s, st⟩) (h2 : b = false → AWpK K P st0 y Q ⟨dn N s, st⟩) : AWpK K P st0 (.cond (.tmp t) x y) Q ⟨dn N s, st⟩ := by
  cases b
  · exact AWp.condAF ht hc (h2 rfl)
  · exact AWp.condAT ht hc (h1 rfl)
theorem get_range {n m : Nat} (h : m < (List.range n).length) : (List.range n)[m] = m := List.getElem_range h
theorem nameT_okN {s : ByteArray} (h : okN s = false) : nameT s = false := by unfold nameT; rw [h]; rfl
theorem okN_at {s : ByteArray} {m : Nat} (hm : m < s.size) (h : okB m (bAt s m) = false) : okN s = false := by
  unfold okN
  rw [List.all_eq_false]
  exact ⟨m, by simpa using hm, by simp [h]⟩
theorem size_zero {s : ByteArray} (h : s.size = 0) : s = { data := #[] } := by
  cases s with
  | mk d =>
    have h' : d.size = 0 := h
    rw [Array.eq_empty_of_size_eq_zero h']
theorem c_name (s : ByteArray) (hs : s.size ≤ 9223372036854775807) : PC Try.prog 58 [.im (.string s)] (.im (.bool (nameT s))) := by
  refine PC.enter 62 Try.func58 rfl (by decide) rfl rfl (s := [(0, .im (.string s))]) (by rfl) ?_
  refine w58 True.intro ?_
  refine AWp.loop ?_
  refine ALp.cutP 1 [(0, .im (.string s)), (7, .itr 0)] [.iter s 0] True.intro ?_
  refine ALp.upto s.size (fun m => ∀ j, j < m → okB j (bAt s j) = true) (fun m => ⟨dn 62 [(0, .im (.string s)), (7, .itr 0)], ofl [.iter s m]⟩) ?_ 0 (Nat.zero_le _) (fun j hj => absurd hj (Nat.not_lt_zero _))
  intro m hm hI hnext
  by_cases hlt : m < s.size
  · have hbt := bAt_get s m hlt
    obtain ⟨r, hr⟩ : ∃ r : Int, ((Utf8.decode s m).1 : Int) = r := ⟨_, rfl⟩
    have key : (r = bAt s m ∧ r < 128 ∧ (Utf8.decode s m).2 = 1) ∨ (128 ≤ r ∧ 128 ≤ bAt s m) := by
      by_cases hb : (s[m]'hlt).toNat < 128
      · have hd := decode_ascii s m hlt hb
        rw [hd] at hr ⊢
        exact .inl ⟨by rw [hbt]; exact hr.symm, by rw [← hr]; exact Int.ofNat_lt.2 hb, rfl⟩
      · have := decode_big s m hlt (by omega)
        exact .inr ⟨by omega, by rw [hbt]; omega⟩
    refine w58 (And.intro hlt hr) ?_
    refine AWp.condAB rfl rfl (fun hE => ?_) (fun hE => ?_)
    · have hn : okB m (bAt s m) = false := by
        simp only [Bool.and_eq_true, Bool.or_eq_true, Bool.not_eq_true', Bool.or_eq_false_iff, Bool.and_eq_false_iff, decide_eq_true_eq, decide_eq_false_iff_not] at hE
        unfold okB
        simp only [Bool.or_eq_false_iff, Bool.and_eq_false_iff, decide_eq_false_iff_not, beq_eq_false_iff_ne]
        omega
      rw [nameT_okN (okN_at hlt hn)]
      refine w58 True.intro ?_
      exact Fin.oneP
    · have hn : okB m (bAt s m) = true ∧ (Utf8.decode s m).2 = 1 := by
        simp only [Bool.and_eq_false_iff, Bool.or_eq_false_iff, Bool.not_eq_false', Bool.or_eq_true, Bool.and_eq_true, decide_eq_true_eq, decide_eq_false_iff_not] at hE
        unfold okB
        simp only [Bool.or_eq_true, Bool.and_eq_true, decide_eq_true_eq, beq_iff_eq]
        omega
      rw [hn.2]
      refine w58 True.intro ?_
      refine ALp.cutP 1 [(0, .im (.string s)), (7, .itr 0)] [.iter s (m + 1)] True.intro ?_
      exact hnext (m + 1) (by omega) (by omega) (fun j hj => by rcases Nat.lt_succ_iff_lt_or_eq.1 hj with h | rfl; exact hI j h; exact hn.1)
  · obtain rfl : m = s.size := by omega
    have hok : okN s = true := by
      unfold okN
      rw [List.all_eq_true]
      intro i hi
      exact hI i (by simpa using hi)
    clear hnext
    refine w58 hlt ?_
    by_cases z : s.size = 0
    · have e0 : (s.toList == ({ data := #[] } : ByteArray).toList) = true := by
        have : s = { data := #[] } := size_zero z
        rw [this]
        exact beq_self_eq_true _
      have hr : nameT s = false := by unfold nameT; simp [z]
      rw [hr]
      refine w58 e0 ?_
      exact Fin.oneP
    have e0 : (s.toList == ({ data := #[] } : ByteArray).toList) = false := by
      have : eqS s { data := #[] } = false := eqS_f.2 (fun e => z (by rw [e]; rfl))
      exact this
    by_cases z2 : (s.size : Int) ≤ 32
    case neg =>
      have hr : nameT s = false := by
        unfold nameT
        have : decide (s.size ≤ 32) = false := by simp; omega
        rw [this, Bool.and_false]
      rw [hr]
      refine w58 (And.intro e0 z2) ?_
      exact Fin.oneP
    have a1 : ({ data := #[32] } : ByteArray).size + s.size ≤ 9223372036854775807 := by
      show 1 + s.size ≤ _
      omega
    have a2 : (({ data := #[32] } : ByteArray) ++ s).size + ({ data := #[32] } : ByteArray).size ≤ 9223372036854775807 := by
      rw [ByteArray.size_append]
      show 1 + s.size + 1 ≤ _
      omega
    have hl : (({ data := #[32] } : ByteArray) ++ s ++ ({ data := #[32] } : ByteArray)).data.toList = 32 :: (s.data.toList ++ [32]) := by
      simp [ByteArray.data_append]
    have hC := c_contains ⟨wtxt.toArray⟩ (({ data := #[32] } : ByteArray) ++ s ++ ({ data := #[32] } : ByteArray)) (of_decide_eq_true (by kernel_rfl))
    rw [hl, show (ByteArray.mk wtxt.toArray).data.toList = wtxt from rfl, contains_wtxt s hok] at hC
    have hr : nameT s = !words.any (eqS · s) := by
      unfold nameT
      have h1 : decide (0 < s.size) = true := by simp; omega
      have h2 : decide (s.size ≤ 32) = true := by simp; omega
      rw [hok, h1, h2, Bool.true_and, Bool.and_true, Bool.and_true]
    rw [hr]
    generalize words.any (eqS · s) = q at hC ⊢
    refine w58 (And.intro e0 (And.intro z2 (And.intro a1 a2))) ?_
    refine AR.call hC rfl rfl (WkL.of_eq (by simp only [St.ev, V.ofVal, V.ofCell, V.size_im, getD_dn, look_cons, look_nil, Nat.reduceLT, Nat.reduceEqDiff, reduceIte, if_true, if_false, List.map_cons, List.map_nil, List.nil_append, List.append_nil, true_and]; exact congrArg (fun z => [V.im (Value.string z), _]) (by kernel_rfl))) (by first | rfl | simp only [List.length_cons, List.length_nil, Nat.reduceAdd, V.ids, V.idsL, idsA, entOk, List.all_cons, List.all_nil, Bool.and_self, Bool.and_true, Bool.true_and, ltB, noId, Nat.reduceLT, decide_true, Bool.true_eq_false, tyV_id, fdV_id, tyL_id, fdL_id]) ?_
    refine go58 True.intro ?_
    refine w58 True.intro ?_
    exact Fin.oneP
theorem Wk.eq {x y : V} (h : x = y) : Wk x y := h ▸ Wk.refl x
theorem c_Words : PC Try.prog 123 [] (V.sl (words.map fun x => V.im (Value.string x)) .full) := by
  refine PC.enter 2 Try.func123 rfl (by decide) rfl rfl (s := []) (by rfl) ?_
  refine w123 True.intro ?_
  refine Fin.one rfl rfl (by first | exact .inl rfl | exact .inr rfl) (Wk.eq (by kernel_rfl)) (by kernel_rfl)
theorem c_NameR (s : ByteArray) (hs : s.size ≤ 9223372036854775807) : PC Try.prog 109 [.im (.string s)] (.im (.bool (nameT s))) := by
  refine PC.enter 74 Try.func109 rfl (by decide) rfl rfl (s := [(0, .im (.string s))]) (by rfl) ?_
  refine w109 True.intro ?_
  refine AWp.loop ?_
  refine ALp.cutP 0 [(0, .im (.string s)), (3, (.im (.int .i64 ((((0 : Nat)) : Int)))))] [] True.intro ?_
  refine ALp.upto s.size (fun m => ∀ j, j < m → okB j (bAt s j) = true) (fun m => ⟨dn 74 [(0, .im (.string s)), (3, (.im (.int .i64 ((((m : Nat)) : Int)))))], ofl []⟩) ?_ 0 (Nat.zero_le _) (fun j hj => absurd hj (Nat.not_lt_zero _))
  intro m hm hI hnext
  by_cases hlt : m < s.size
  · have hlt' : (m : Int) < (s.size : Int) := by omega
    have hbt := bAt_get s m hlt
    have hg := ByteArray.getElem?_lt' s m hlt
    have hm1 := wrap_succ hlt hs
    have hu : 0 ≤ bAt s m := by rw [hbt]; omega
    rw [hbt] at hu
    obtain ⟨r, hr⟩ : ∃ r : Int, ((s[m]'hlt).toNat : Int) = r := ⟨_, rfl⟩
    rw [hr] at hbt hu
    refine w109 (And.intro hlt' (And.intro hg (And.intro hr hm1))) ?_
    refine AWp.condAB rfl rfl (fun hE => ?_) (fun hE => ?_)
    · have hn : okB m (bAt s m) = false := by
        simp only [Bool.and_eq_true, Bool.or_eq_true, Bool.not_eq_true', Bool.or_eq_false_iff, Bool.and_eq_false_iff, decide_eq_true_eq, decide_eq_false_iff_not] at hE
        unfold okB
        simp only [Bool.or_eq_false_iff, Bool.and_eq_false_iff, decide_eq_false_iff_not, beq_eq_false_iff_ne]
        omega
      rw [nameT_okN (okN_at hlt hn)]
      refine w109 True.intro ?_
      exact Fin.oneP
    · have hn : okB m (bAt s m) = true := by
        simp only [Bool.and_eq_false_iff, Bool.or_eq_false_iff, Bool.not_eq_false', Bool.or_eq_true, Bool.and_eq_true, decide_eq_true_eq, decide_eq_false_iff_not] at hE
        unfold okB
        simp only [Bool.or_eq_true, Bool.and_eq_true, decide_eq_true_eq, beq_iff_eq]
        omega
      refine w109 hm1 ?_
      refine ALp.cutP 0 [(0, .im (.string s)), (3, (.im (.int .i64 ((((m + 1 : Nat)) : Int)))))] [] True.intro ?_
      exact hnext (m + 1) (by omega) (by omega) (fun j hj => by rcases Nat.lt_succ_iff_lt_or_eq.1 hj with h | rfl; exact hI j h; exact hn)
  · obtain rfl : m = s.size := by omega
    have hok : okN s = true := by
      unfold okN
      rw [List.all_eq_true]
      intro i hi
      exact hI i (by simpa using hi)
    have hlt' : ¬ (s.size : Int) < (s.size : Int) := by omega
    have hw := c_Words
    clear hnext hI hlt
    refine w109 hlt' ?_
    refine AR.callP hw True.intro True.intro ?_
    refine go109 True.intro ?_
    refine w109 True.intro ?_
    clear hlt'
    refine AWp.loop ?_
    refine ALp.cutP 0 [(0, .im (.string s)), (6, (V.sl (words.map fun x => V.im (Value.string x)) .full)), (7, (.im (.int .i64 ((((0 : Nat)) : Int)))))] [] True.intro ?_
    refine ALp.upto words.length (AllTo (fun x => !eqS x s) words) (fun m => ⟨dn 74 [(0, .im (.string s)), (6, (V.sl (words.map fun x => V.im (Value.string x)) .full)), (7, (.im (.int .i64 ((((m : Nat)) : Int)))))], ofl []⟩) ?_ 0 (Nat.zero_le _) (AllTo.zero _ _)
    intro m hm hI hnext
    by_cases hlt : m < words.length
    · have hlt' : (m : Int) < (words.length : Int) := by omega
      have hg := get_some hlt
      have hm1 := wrap_succ hlt (by show (27 : Nat) ≤ _; omega)
      cases b : eqS words[m] s with
      | true =>
        have b' : (words[m].toList == s.toList) = true := b
        refine w109 (And.intro hlt' (And.intro hg (And.intro hm1 b'))) ?_
        have hr : nameT s = false := by
          unfold nameT
          have : words.any (eqS · s) = true := List.any_eq_true.2 ⟨_, List.getElem_mem hlt, b⟩
          rw [this, Bool.not_true, Bool.and_false, Bool.false_and, Bool.false_and]
        rw [hr]
        exact Fin.oneP
      | false =>
        have b' : (words[m].toList == s.toList) = false := b
        refine w109 (And.intro hlt' (And.intro hg (And.intro hm1 b'))) ?_
        refine ALp.cutP 0 [(0, .im (.string s)), (6, (V.sl (words.map fun x => V.im (Value.string x)) .full)), (7, (.im (.int .i64 ((((m + 1 : Nat)) : Int)))))] [] True.intro ?_
        exact hnext (m + 1) (by omega) (by omega) (hI.succ hlt (by rw [b]; rfl))
    · have hall := hI.done (by omega)
      have hlt' : ¬ (m : Int) < (words.length : Int) := by omega
      clear hnext hI hm hlt
      have hr : nameT s = (decide ((s.size : Int) > 0) && decide ((s.size : Int) ≤ 32)) := by
        have h1 : words.any (eqS · s) = false := by
          rw [← any_not] at hall
          simpa using hall
        have h2 : decide (0 < s.size) = decide ((s.size : Int) > 0) := by rw [decide_eq_decide]; omega
        have h3 : decide (s.size ≤ 32) = decide ((s.size : Int) ≤ 32) := by rw [decide_eq_decide]; omega
        unfold nameT
        rw [hok, h1, h2, h3]
        rfl
      rw [hr]
      refine w109 hlt' ?_
      exact Fin.oneP
end Go.Proofs.Ytfggemopnlffeaa

