/- Walks: names. -/
import Derived.Test.YtlbfgnpadggbgaaDoorHv
import Derived.Test.YtlbfgnpadggbgaaDoorM9
import Derived.Test.YtlbfgnpadggbgaaDoorPm
import Derived.Test.YtlbfgnpadggbgaaDoorM2
namespace Go.Proofs.YtlbfgnpadggbgaaDoor
set_option linter.unusedSimpArgs false
set_option linter.unusedVariables false
set_option linter.unnecessarySimpa false
open Go.RowKit
theorem AWp.condAB {K : Option Nat → Prop} {P : Program} {st0 : Nat → Ent} {Q : Exit → St → Prop} {N t : Nat} {s : List (Nat × V)} {st : Nat → Ent} {x y : Code} {b : Bool} (ht : Nat.blt t N = true) (hc : look s t = .im (.bool b))
    (h1 : b = true → AWpK K P st0 x Q ⟨dn N s, st⟩) (h2 : b = false → AWpK K P st0 y Q ⟨dn N s, st⟩) : AWpK K P st0 (.cond (.tmp t) x y) Q ⟨dn N s, st⟩ := by
  cases b
  · exact AWp.condAF ht hc (h2 rfl)
  · exact AWp.condAT ht hc (h1 rfl)
theorem get_range {n m : Nat} (h : m < (List.range n).length) : (List.range n)[m] = m := List.getElem_range h
theorem nameT_okN {s : ByteArray} (h : okN s = false) : nameT s = false := by unfold nameT; rw [h]; rfl
theorem okN_at {s : ByteArray} {m : Nat} (hm : m < s.size) (h : okB m (bAt s m) = false) : okN s = false := by
  unfold okN
  rw [List.all_eq_false]
  exact ⟨m, by simpa using hm, by simp [h]⟩
theorem size_zero {s : ByteArray} (h : s.size = 0) : s = { data := #[] } := by
  cases s with
  | mk d =>
    have h' : d.size = 0 := h
    rw [Array.eq_empty_of_size_eq_zero h']
theorem Y23_BF : type_of% (@F_un_9) := @F_un_9
theorem c_name (s : ByteArray) (hs : s.size ≤ 9223372036854775807) : PC Tryd.prog 23 [.im (.string s)] (.im (.bool (nameT s))) := by
  refine PC.enter 62 Tryd.func23 rfl (by decide) rfl rfl (s := [(0, .im (.string s))]) (by rfl) ?_
  refine wG Y23_BF True.intro ?_
  refine AWp.loop ?_
  refine ALp.cutP 1 [(0, .im (.string s)), (7, .itr 0)] [.iter s 0] True.intro ?_
  refine ALp.upto s.size (fun m => ∀ j, j < m → okB j (bAt s j) = true) (fun m => ⟨dn 62 [(0, .im (.string s)), (7, .itr 0)], ofl [.iter s m]⟩) ?_ 0 (Nat.zero_le _) (fun j hj => absurd hj (Nat.not_lt_zero _))
  intro m hm hI hnext
  by_cases hlt : m < s.size
  · have hbt := bAt_get s m hlt
    obtain ⟨r, hr⟩ : ∃ r : Int, ((Utf8.decode s m).1 : Int) = r := ⟨_, rfl⟩
    have key : (r = bAt s m ∧ r < 128 ∧ (Utf8.decode s m).2 = 1) ∨ (128 ≤ r ∧ 128 ≤ bAt s m) := by
      by_cases hb : (s[m]'hlt).toNat < 128
      · have hd := decode_ascii s m hlt hb
        rw [hd] at hr ⊢
        exact .inl ⟨by rw [hbt]; exact hr.symm, by rw [← hr]; exact Int.ofNat_lt.2 hb, rfl⟩
      · have := decode_big s m hlt (by omega)
        exact .inr ⟨by omega, by rw [hbt]; omega⟩
    refine wG Y23_BF (And.intro hlt (And.intro hr @if_true.{1})) ?_
    refine AWp.condAB rfl rfl (fun hE => ?_) (fun hE => ?_)
    · have hn : okB m (bAt s m) = false := by
        simp only [Bool.and_eq_true, Bool.or_eq_true, Bool.not_eq_true', Bool.or_eq_false_iff, Bool.and_eq_false_iff, decide_eq_true_eq, decide_eq_false_iff_not] at hE
        unfold okB
        simp only [Bool.or_eq_false_iff, Bool.and_eq_false_iff, decide_eq_false_iff_not, beq_eq_false_iff_ne]
        omega
      rw [nameT_okN (okN_at hlt hn)]
      refine wG Y23_BF True.intro ?_
      exact Fin.oneP
    · have hn : okB m (bAt s m) = true ∧ (Utf8.decode s m).2 = 1 := by
        simp only [Bool.and_eq_false_iff, Bool.or_eq_false_iff, Bool.not_eq_false', Bool.or_eq_true, Bool.and_eq_true, decide_eq_true_eq, decide_eq_false_iff_not] at hE
        unfold okB
        simp only [Bool.or_eq_true, Bool.and_eq_true, decide_eq_true_eq, beq_iff_eq]
        omega
      rw [hn.2]
      refine wG Y23_BF True.intro ?_
      refine ALp.cutP 1 [(0, .im (.string s)), (7, .itr 0)] [.iter s (m + 1)] True.intro ?_
      exact hnext (m + 1) (by omega) (by omega) (fun j hj => by rcases Nat.lt_succ_iff_lt_or_eq.1 hj with h | rfl; exact hI j h; exact hn.1)
  · obtain rfl : m = s.size := by omega
    have hok : okN s = true := by
      unfold okN
      rw [List.all_eq_true]
      intro i hi
      exact hI i (by simpa using hi)
    clear hnext
    refine wG Y23_BF (And.intro hlt @if_false.{1}) ?_
    by_cases z : s.size = 0
    · have e0 : (s.toList == ({ data := #[] } : ByteArray).toList) = true := by
        have : s = { data := #[] } := size_zero z
        rw [this]
        exact beq_self_eq_true _
      have hr : nameT s = false := by unfold nameT; simp [z]
      rw [hr]
      refine wG Y23_BF (And.intro e0 (And.intro (@Bool.not_true) @Bool.false_and)) ?_
      exact Fin.oneP
    have e0 : (s.toList == ({ data := #[] } : ByteArray).toList) = false := by
      have : eqS s { data := #[] } = false := eqS_f.2 (fun e => z (by rw [e]; rfl))
      exact this
    by_cases z2 : (s.size : Int) ≤ 32
    case neg =>
      have hr : nameT s = false := by
        unfold nameT
        have : decide (s.size ≤ 32) = false := by simp; omega
        rw [this, Bool.and_false]
      rw [hr]
      refine wG Y23_BF (And.intro e0 (And.intro z2 (And.intro (@Bool.not_false) @Bool.true_and))) ?_
      exact Fin.oneP
    have a1 : ({ data := #[32] } : ByteArray).size + s.size ≤ 9223372036854775807 := by
      show 1 + s.size ≤ _
      omega
    have a2 : (({ data := #[32] } : ByteArray) ++ s).size + ({ data := #[32] } : ByteArray).size ≤ 9223372036854775807 := by
      rw [ByteArray.size_append]
      show 1 + s.size + 1 ≤ _
      omega
    have hl : (({ data := #[32] } : ByteArray) ++ s ++ ({ data := #[32] } : ByteArray)).data.toList = 32 :: (s.data.toList ++ [32]) := by
      simp [ByteArray.data_append]
    have hC := c_contains ⟨wtxt.toArray⟩ (({ data := #[32] } : ByteArray) ++ s ++ ({ data := #[32] } : ByteArray)) (of_decide_eq_true (by kernel_rfl))
    rw [hl, show (ByteArray.mk wtxt.toArray).data.toList = wtxt from rfl, contains_wtxt s hok] at hC
    have hr : nameT s = !words.any (eqS · s) := by
      unfold nameT
      have h1 : decide (0 < s.size) = true := by simp; omega
      have h2 : decide (s.size ≤ 32) = true := by simp; omega
      rw [hok, h1, h2, Bool.true_and, Bool.and_true, Bool.and_true]
    rw [hr]
    generalize words.any (eqS · s) = q at hC ⊢
    refine wG Y23_BF (And.intro e0 (And.intro z2 (And.intro a1 (And.intro a2 (And.intro (@Bool.not_false) @Bool.true_and))))) ?_
    refine AR.call hC rfl rfl (WkL.of_eq (by simp only [St.ev, V.ofVal, V.ofCell, V.size_im, getD_dn, look_cons, look_nil, Nat.reduceLT, Nat.reduceEqDiff, reduceIte, if_true, if_false, List.map_cons, List.map_nil, List.nil_append, List.append_nil, true_and]; exact congrArg (fun z => [V.im (Value.string z), _]) (by kernel_rfl))) (by first | rfl | simp only [List.length_cons, List.length_nil, Nat.reduceAdd, V.ids, V.idsL, idsA, entOk, List.all_cons, List.all_nil, Bool.and_self, Bool.and_true, Bool.true_and, ltB, noId, Nat.reduceLT, decide_true, Bool.true_eq_false, tyV_id, fdV_id, tyL_id, fdL_id]) ?_
    refine goG Y23_BF True.intro ?_
    refine wG Y23_BF True.intro ?_
    exact Fin.oneP
theorem Wk.eq {x y : V} (h : x = y) : Wk x y := h ▸ Wk.refl x
end Go.Proofs.YtlbfgnpadggbgaaDoor
