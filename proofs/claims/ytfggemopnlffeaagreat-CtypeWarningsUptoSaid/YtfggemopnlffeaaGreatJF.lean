import Derived.Test.YtfggemopnlffeaaGreatHv
import Derived.Test.YtfggemopnlffeaaGreatJE
import Derived.Test.YtfggemopnlffeaaGreatPm
import Derived.Test.YtfggemopnlffeaaGreatCt
import Derived.Test.YtfggemopnlffeaaGreatLe
namespace Go.Proofs.YtfggemopnlffeaaGreat
set_option linter.unusedSimpArgs false
set_option linter.unusedVariables false
set_option linter.unnecessarySimpa false
open Go.RowKit
theorem AWp.condAB {K : Option Nat → Prop} {P : Program} {st0 : Nat → Ent} {Q : Exit → St → Prop} {N t : Nat} {s : List (Nat × V)} {st : Nat → Ent} {x y : Code} {b : Bool} (ht : Nat.blt t N = true) (hc : look s t = .im (.bool b))
    (h1 : b = true → AWpK K P st0 x Q ⟨dn N s, st⟩) (h2 : b = false → AWpK K P st0 y Q ⟨dn N s, st⟩) : AWpK K P st0 (.cond (.tmp t) x y) Q ⟨dn N s, st⟩ := by
  cases b
  · exact AWp.condAF ht hc (h2 rfl)
  · exact AWp.condAT ht hc (h1 rfl)
theorem get_range {n m : Nat} (h : m < (List.range n).length) : (List.range n)[m] = m := List.getElem_range h
theorem nameT_okN {s : ByteArray} (h : okN s = false) : nameT s = false := by unfold nameT; rw [h]; rfl
theorem okN_at {s : ByteArray} {m : Nat} (hm : m < s.size) (h : okB m (bAt s m) = false) : okN s = false := by
  unfold okN
  rw [List.all_eq_false]
  exact ⟨m, by simpa using hm, by simp [h]⟩
theorem size_zero {s : ByteArray} (h : s.size = 0) : s = { data := #[] } := by
  cases s with
  | mk d =>
    have h' : d.size = 0 := h
    rw [Array.eq_empty_of_size_eq_zero h']
theorem Y36_BF : type_of% (@F_un_9) := @F_un_9
theorem G36_BF : type_of% (AI (@if_true.{1}) (AI (@if_false.{1}) (AI (@Bool.not_true) (AI (@Bool.false_and) (AI (@Bool.not_false) @Bool.true_and))))) := (AI (@if_true.{1}) (AI (@if_false.{1}) (AI (@Bool.not_true) (AI (@Bool.false_and) (AI (@Bool.not_false) @Bool.true_and)))))
theorem c_name (s : ByteArray) (hs : s.size ≤ 9223372036854775807) : PC Tryz.prog 36 [.im (.string s)] (.im (.bool (nameT s))) := by
  refine PC.enter 62 Tryz.func36 rfl (by decide) rfl rfl (s := [(0, .im (.string s))]) (by rfl) ?_
  refine wG Y36_BF @G36_BF ?_
  refine AWp.loop ?_
  refine ALp.cutP 1 [(0, .im (.string s)), (7, .itr 0)] [.iter s 0] True.intro ?_
  refine ALp.upto s.size (fun m => ∀ j, j < m → okB j (bAt s j) = true) (fun m => ⟨dn 62 [(0, .im (.string s)), (7, .itr 0)], ofl [.iter s m]⟩) ?_ 0 (Nat.zero_le _) (fun j hj => absurd hj (Nat.not_lt_zero _))
  intro m hm hI hnext
  by_cases hlt : m < s.size
  · have hbt := bAt_get s m hlt
    obtain ⟨r, hr⟩ : ∃ r : Int, ((Utf8.decode s m).1 : Int) = r := ⟨_, rfl⟩
    have key : (r = bAt s m ∧ r < 128 ∧ (Utf8.decode s m).2 = 1) ∨ (128 ≤ r ∧ 128 ≤ bAt s m) := by
      by_cases hb : (s[m]'hlt).toNat < 128
      · have hd := decode_ascii s m hlt hb
        rw [hd] at hr ⊢
        exact .inl ⟨by rw [hbt]; exact hr.symm, by rw [← hr]; exact Int.ofNat_lt.2 hb, rfl⟩
      · have := decode_big s m hlt (by omega)
        exact .inr ⟨by omega, by rw [hbt]; omega⟩
    refine wG Y36_BF (AI (@G36_BF) (AI hlt hr)) ?_
    refine AWp.condAB rfl rfl (fun hE => ?_) (fun hE => ?_)
    · have hn : okB m (bAt s m) = false := by
        simp only [Bool.and_eq_true, Bool.or_eq_true, Bool.not_eq_true', Bool.or_eq_false_iff, Bool.and_eq_false_iff, decide_eq_true_eq, decide_eq_false_iff_not] at hE
        unfold okB
        simp only [Bool.or_eq_false_iff, Bool.and_eq_false_iff, decide_eq_false_iff_not, beq_eq_false_iff_ne]
        omega
      rw [nameT_okN (okN_at hlt hn)]
      refine wG Y36_BF @G36_BF ?_
      exact Fin.oneP
    · have hn : okB m (bAt s m) = true ∧ (Utf8.decode s m).2 = 1 := by
        simp only [Bool.and_eq_false_iff, Bool.or_eq_false_iff, Bool.not_eq_false', Bool.or_eq_true, Bool.and_eq_true, decide_eq_true_eq, decide_eq_false_iff_not] at hE
        unfold okB
        simp only [Bool.or_eq_true, Bool.and_eq_true, decide_eq_true_eq, beq_iff_eq]
        omega
      rw [hn.2]
      refine wG Y36_BF @G36_BF ?_
      refine ALp.cutP 1 [(0, .im (.string s)), (7, .itr 0)] [.iter s (m + 1)] True.intro ?_
      exact hnext (m + 1) (by omega) (by omega) (fun j hj => by rcases Nat.lt_succ_iff_lt_or_eq.1 hj with h | rfl; exact hI j h; exact hn.1)
  · obtain rfl : m = s.size := by omega
    have hok : okN s = true := by
      unfold okN
      rw [List.all_eq_true]
      intro i hi
      exact hI i (by simpa using hi)
    clear hnext
    refine wG Y36_BF (AI (@G36_BF) hlt) ?_
    by_cases z : s.size = 0
    · have e0 : (s.toList == ({ data := #[] } : ByteArray).toList) = true := by
        have : s = { data := #[] } := size_zero z
        rw [this]
        exact beq_self_eq_true _
      have hr : nameT s = false := by unfold nameT; simp [z]
      rw [hr]
      refine wG Y36_BF (AI (@G36_BF) e0) ?_
      exact Fin.oneP
    have e0 : (s.toList == ({ data := #[] } : ByteArray).toList) = false := by
      have : eqS s { data := #[] } = false := eqS_f.2 (fun e => z (by rw [e]; rfl))
      exact this
    by_cases z2 : (s.size : Int) ≤ 32
    case neg =>
      have hr : nameT s = false := by
        unfold nameT
        have : decide (s.size ≤ 32) = false := by simp; omega
        rw [this, Bool.and_false]
      rw [hr]
      refine wG Y36_BF (AI (@G36_BF) (AI e0 z2)) ?_
      exact Fin.oneP
    have a1 : ({ data := #[32] } : ByteArray).size + s.size ≤ 9223372036854775807 := by
      show 1 + s.size ≤ _
      omega
    have a2 : (({ data := #[32] } : ByteArray) ++ s).size + ({ data := #[32] } : ByteArray).size ≤ 9223372036854775807 := by
      rw [ByteArray.size_append]
      show 1 + s.size + 1 ≤ _
      omega
    have hl : (({ data := #[32] } : ByteArray) ++ s ++ ({ data := #[32] } : ByteArray)).data.toList = 32 :: (s.data.toList ++ [32]) := by
      simp [ByteArray.data_append]
    have hC := c_contains ⟨wtxt.toArray⟩ (({ data := #[32] } : ByteArray) ++ s ++ ({ data := #[32] } : ByteArray)) (of_decide_eq_true (by kernel_rfl))
    rw [hl, show (ByteArray.mk wtxt.toArray).data.toList = wtxt from rfl, contains_wtxt s hok] at hC
    have hr : nameT s = !words.any (eqS · s) := by
      unfold nameT
      have h1 : decide (0 < s.size) = true := by simp; omega
      have h2 : decide (s.size ≤ 32) = true := by simp; omega
      rw [hok, h1, h2, Bool.true_and, Bool.and_true, Bool.and_true]
    rw [hr]
    generalize words.any (eqS · s) = q at hC ⊢
    refine wG Y36_BF (AI (@G36_BF) (AI e0 (AI z2 (AI a1 a2)))) ?_
    refine AR.call hC rfl rfl (WkL.of_eq (by simp only [St.ev, V.ofVal, V.ofCell, V.size_im, getD_dn, look_cons, look_nil, Nat.reduceLT, Nat.reduceEqDiff, reduceIte, if_true, if_false, List.map_cons, List.map_nil, List.nil_append, List.append_nil, true_and]; exact congrArg (fun z => [V.im (Value.string z), _]) (by kernel_rfl))) (by first | rfl | simp only [List.length_cons, List.length_nil, Nat.reduceAdd, V.ids, V.idsL, idsA, entOk, List.all_cons, List.all_nil, Bool.and_self, Bool.and_true, Bool.true_and, ltB, noId, Nat.reduceLT, decide_true, Bool.true_eq_false, tyV_id, fdV_id, tyL_id, fdL_id]) ?_
    refine goG Y36_BF @G36_BF ?_
    refine wG Y36_BF @G36_BF ?_
    exact Fin.oneP
theorem Wk.eq {x y : V} (h : x = y) : Wk x y := h ▸ Wk.refl x
theorem Y74_BF : type_of% (AI @F_al_9 (AI @F_el_29 (@F_sz_9))) := AI @F_al_9 (AI @F_el_29 (@F_sz_9))
theorem c_Words : PC Tryz.prog 74 [] (V.sl (words.map fun x => V.im (Value.string x)) .full) := by
  refine PC.enter 2 Tryz.func74 rfl (by decide) rfl rfl (s := []) (by rfl) ?_
  refine wG Y74_BF True.intro ?_
  refine Fin.one rfl rfl (by first | exact .inl rfl | exact .inr rfl) (Wk.eq (by kernel_rfl)) (by kernel_rfl)
theorem Y41_BF : type_of% (AI @F_ag_9 (AI @F_el_29 (AI @F_sz_9 (@F_un_9)))) := AI @F_ag_9 (AI @F_el_29 (AI @F_sz_9 (@F_un_9)))
theorem G41_BF : type_of% (AI (@Int.natCast_nonneg) (AI (@List.length_map.{0, 0}) (AI (@List.getElem?_map.{0, 0}) @Option.map_some.{0, 0}))) := (AI (@Int.natCast_nonneg) (AI (@List.length_map.{0, 0}) (AI (@List.getElem?_map.{0, 0}) @Option.map_some.{0, 0})))
theorem c_NameR (s : ByteArray) (hs : s.size ≤ 9223372036854775807) : PC Tryz.prog 41 [.im (.string s)] (.im (.bool (nameT s))) := by
  refine PC.enter 74 Tryz.func41 rfl (by decide) rfl rfl (s := [(0, .im (.string s))]) (by rfl) ?_
  refine wG Y41_BF @G41_BF ?_
  refine AWp.loop ?_
  refine ALp.cutP 0 [(0, .im (.string s)), (3, (.im (.int .i64 ((((0 : Nat)) : Int)))))] [] True.intro ?_
  refine ALp.upto s.size (fun m => ∀ j, j < m → okB j (bAt s j) = true) (fun m => ⟨dn 74 [(0, .im (.string s)), (3, (.im (.int .i64 ((((m : Nat)) : Int)))))], ofl []⟩) ?_ 0 (Nat.zero_le _) (fun j hj => absurd hj (Nat.not_lt_zero _))
  intro m hm hI hnext
  by_cases hlt : m < s.size
  · have hlt' : (m : Int) < (s.size : Int) := by omega
    have hbt := bAt_get s m hlt
    have hg := ByteArray.getElem?_lt' s m hlt
    have hm1 := wrap_succ hlt hs
    have hu : 0 ≤ bAt s m := by rw [hbt]; omega
    rw [hbt] at hu
    obtain ⟨r, hr⟩ : ∃ r : Int, ((s[m]'hlt).toNat : Int) = r := ⟨_, rfl⟩
    rw [hr] at hbt hu
    refine wG Y41_BF (AI (@G41_BF) (AI hlt' (AI hg (AI hr hm1)))) ?_
    refine AWp.condAB rfl rfl (fun hE => ?_) (fun hE => ?_)
    · have hn : okB m (bAt s m) = false := by
        simp only [Bool.and_eq_true, Bool.or_eq_true, Bool.not_eq_true', Bool.or_eq_false_iff, Bool.and_eq_false_iff, decide_eq_true_eq, decide_eq_false_iff_not] at hE
        unfold okB
        simp only [Bool.or_eq_false_iff, Bool.and_eq_false_iff, decide_eq_false_iff_not, beq_eq_false_iff_ne]
        omega
      rw [nameT_okN (okN_at hlt hn)]
      refine wG Y41_BF @G41_BF ?_
      exact Fin.oneP
    · have hn : okB m (bAt s m) = true := by
        simp only [Bool.and_eq_false_iff, Bool.or_eq_false_iff, Bool.not_eq_false', Bool.or_eq_true, Bool.and_eq_true, decide_eq_true_eq, decide_eq_false_iff_not] at hE
        unfold okB
        simp only [Bool.or_eq_true, Bool.and_eq_true, decide_eq_true_eq, beq_iff_eq]
        omega
      refine wG Y41_BF (AI (@G41_BF) hm1) ?_
      refine ALp.cutP 0 [(0, .im (.string s)), (3, (.im (.int .i64 ((((m + 1 : Nat)) : Int)))))] [] True.intro ?_
      exact hnext (m + 1) (by omega) (by omega) (fun j hj => by rcases Nat.lt_succ_iff_lt_or_eq.1 hj with h | rfl; exact hI j h; exact hn)
  · obtain rfl : m = s.size := by omega
    have hok : okN s = true := by
      unfold okN
      rw [List.all_eq_true]
      intro i hi
      exact hI i (by simpa using hi)
    have hlt' : ¬ (s.size : Int) < (s.size : Int) := by omega
    have hw := c_Words
    clear hnext hI hlt
    refine wG Y41_BF (AI (@G41_BF) hlt') ?_
    refine AR.callP hw True.intro True.intro ?_
    refine goG Y41_BF @G41_BF ?_
    refine wG Y41_BF @G41_BF ?_
    clear hlt'
    refine AWp.loop ?_
    refine ALp.cutP 0 [(0, .im (.string s)), (6, (V.sl (words.map fun x => V.im (Value.string x)) .full)), (7, (.im (.int .i64 ((((0 : Nat)) : Int)))))] [] True.intro ?_
    refine ALp.upto words.length (AllTo (fun x => !eqS x s) words) (fun m => ⟨dn 74 [(0, .im (.string s)), (6, (V.sl (words.map fun x => V.im (Value.string x)) .full)), (7, (.im (.int .i64 ((((m : Nat)) : Int)))))], ofl []⟩) ?_ 0 (Nat.zero_le _) (AllTo.zero _ _)
    intro m hm hI hnext
    by_cases hlt : m < words.length
    · have hlt' : (m : Int) < (words.length : Int) := by omega
      have hg := get_some hlt
      have hm1 := wrap_succ hlt (by show (27 : Nat) ≤ _; omega)
      cases b : eqS words[m] s with
      | true =>
        have b' : (words[m].toList == s.toList) = true := b
        refine wG Y41_BF (AI (@G41_BF) (AI hlt' (AI hg (AI hm1 b')))) ?_
        have hr : nameT s = false := by
          unfold nameT
          have : words.any (eqS · s) = true := List.any_eq_true.2 ⟨_, List.getElem_mem hlt, b⟩
          rw [this, Bool.not_true, Bool.and_false, Bool.false_and, Bool.false_and]
        rw [hr]
        exact Fin.oneP
      | false =>
        have b' : (words[m].toList == s.toList) = false := b
        refine wG Y41_BF (AI (@G41_BF) (AI hlt' (AI hg (AI hm1 b')))) ?_
        refine ALp.cutP 0 [(0, .im (.string s)), (6, (V.sl (words.map fun x => V.im (Value.string x)) .full)), (7, (.im (.int .i64 ((((m + 1 : Nat)) : Int)))))] [] True.intro ?_
        exact hnext (m + 1) (by omega) (by omega) (hI.succ hlt (by rw [b]; rfl))
    · have hall := hI.done (by omega)
      have hlt' : ¬ (m : Int) < (words.length : Int) := by omega
      clear hnext hI hm hlt
      have hr : nameT s = (decide ((s.size : Int) > 0) && decide ((s.size : Int) ≤ 32)) := by
        have h1 : words.any (eqS · s) = false := by
          rw [← any_not] at hall
          simpa using hall
        have h2 : decide (0 < s.size) = decide ((s.size : Int) > 0) := by rw [decide_eq_decide]; omega
        have h3 : decide (s.size ≤ 32) = decide ((s.size : Int) ≤ 32) := by rw [decide_eq_decide]; omega
        unfold nameT
        rw [hok, h1, h2, h3]
        rfl
      rw [hr]
      refine wG Y41_BF (AI (@G41_BF) hlt') ?_
      exact Fin.oneP
end Go.Proofs.YtfggemopnlffeaaGreat
namespace Go.Proofs.YtfggemopnlffeaaGreat
set_option linter.unusedSimpArgs false
set_option linter.unusedVariables false
set_option linter.unnecessarySimpa false
open Go.RowKit
theorem eb_eq {o n : Int} {s : ByteArray} {w : Int} {m : Nat} {b : Bool} (h : ebase o n s w m = true ↔ b = true) : ebase o n s w m = b := Bool.eq_iff_iff.2 h
theorem Y88_BG : type_of% (AI @F_ag_48 (@F_sz_48)) := AI @F_ag_48 (@F_sz_48)
theorem c_eformed1 {x : Ex} {r : Bool} (h : PC Tryz.prog 53 [exV x] (.im (.bool (r)))) : PC Tryz.prog 88 [exV x] (.im (.bool (!r))) := by
  refine PC.enter 6 Tryz.func88 rfl (by decide) rfl rfl (s := [(0, exV x)]) (by rfl) ?_
  simp only [exV_eq]
  refine wG Y88_BG True.intro ?_
  refine AR.callP h @exV_eq (AI (@exL_id) (AI (@vaL_id) (AI (@exV_id) @vaV_id))) ?_
  refine goG Y88_BG True.intro ?_
  refine wG Y88_BG True.intro ?_
  exact Fin.oneP
theorem Y53_BG : type_of% (AI @F_ag_3 (AI @F_ag_45 (AI @F_ag_46 (AI @F_ag_9 (AI @F_al_48 (AI @F_el_46 (AI @F_fl_48_0 (AI @F_fl_48_1 (AI @F_fl_48_2 (AI @F_fl_48_3 (AI @F_fl_48_4 (AI @F_st_48 (AI @F_sz_3 (AI @F_sz_45 (AI @F_sz_46 (AI @F_sz_48 (@F_sz_9))))))))))))))))) := AI @F_ag_3 (AI @F_ag_45 (AI @F_ag_46 (AI @F_ag_9 (AI @F_al_48 (AI @F_el_46 (AI @F_fl_48_0 (AI @F_fl_48_1 (AI @F_fl_48_2 (AI @F_fl_48_3 (AI @F_fl_48_4 (AI @F_st_48 (AI @F_sz_3 (AI @F_sz_45 (AI @F_sz_46 (AI @F_sz_48 (@F_sz_9))))))))))))))))
theorem G53_BG : type_of% @Bool.and_true := @Bool.and_true
set_option maxHeartbeats 2000000 in
theorem c_eformed : ∀ (t : Ex), fitE t → PC Tryz.prog 53 [exV t] (.im (.bool (efm t))) := by
  refine Ex.induct fun o n s w l hE => ?_
  intro hfit
  obtain ⟨hl1, hfE⟩ := fitE_mk hfit
  have hsz := fitE_name hfit
  have hc : ∀ t ∈ l, PC Tryz.prog 88 [exV t] (.im (.bool (!efm t))) := fun t ht => c_eformed1 (hE t ht (hfE t ht))
  have hcc := c_containsE0 (gs := l) (F := 88) (fun t => !efm t) hl1 hc
  have hnm := c_name s hsz
  have q0 : ((l.length : Int) = 0) = (l.length = 0) := propext (by omega)
  have q1 : ((l.length : Int) = 1) = (l.length = 1) := propext (by omega)
  have q2 : ((l.length : Int) = 2) = (l.length = 2) := propext (by omega)
  have hss : (s.toList == s.toList) = true := beq_self_eq_true _
  refine PC.enter 110 Tryz.func53 rfl (by decide) rfl rfl (s := [(0, exV (.mk o n s w l))]) (by rfl) ?_
  simp only [exV_mk]
  rw [efm_mk]
  by_cases h1 : o = 1
  · subst h1
    have he : ebase 1 n s w l.length = ((s.toList == ByteArray.empty.toList) && decide (w = 0) && decide ((l.length : Int) = 0)) := eb_eq (by
      unfold ebase
      simp [eqS, q0, q1, q2, and_assoc, -List.length_eq_zero_iff])
    rw [he]
    refine wG Y53_BG @G53_BG ?_
    cases hb : ((s.toList == ByteArray.empty.toList) && decide (w = 0) && decide ((l.length : Int) = 0)) with
    | true =>
      refine wG Y53_BG (AI (@G53_BG) (AI hb hss)) ?_
      refine AR.callP hcc True.intro (AI (@exL_id) (AI (@vaL_id) (AI (@exV_id) @vaV_id))) ?_
      refine goG Y53_BG @G53_BG ?_
      rw [any_not]
      refine wG Y53_BG @G53_BG ?_
      rw [Bool.true_and]
      exact Fin.oneP
    | false =>
      refine wG Y53_BG (AI (@G53_BG) (AI hb hss)) ?_
      rw [Bool.false_and]
      exact Fin.oneP
  by_cases h2 : o = 2
  · subst h2
    cases hN : nameT s
    case true =>
      have he : ebase 2 n s w l.length = (decide (n = 0) && decide (w = 0) && decide ((l.length : Int) = 0)) := eb_eq (by
        unfold ebase
        simp [hN, q0, q1, q2, and_assoc, -List.length_eq_zero_iff])
      rw [he]
      refine wG Y53_BG @G53_BG ?_
      rw [hN] at hnm
      refine AR.callP hnm True.intro (AI (@exL_id) (AI (@vaL_id) (AI (@exV_id) @vaV_id))) ?_
      refine goG Y53_BG @G53_BG ?_
      refine wG Y53_BG @G53_BG ?_
      cases hb : (decide (n = 0) && decide (w = 0) && decide ((l.length : Int) = 0)) with
      | true =>
        refine wG Y53_BG (AI (@G53_BG) (AI hb hss)) ?_
        refine AR.callP hcc True.intro (AI (@exL_id) (AI (@vaL_id) (AI (@exV_id) @vaV_id))) ?_
        refine goG Y53_BG @G53_BG ?_
        rw [any_not]
        refine wG Y53_BG @G53_BG ?_
        rw [Bool.true_and]
        exact Fin.oneP
      | false =>
        refine wG Y53_BG (AI (@G53_BG) (AI hb hss)) ?_
        rw [Bool.false_and]
        exact Fin.oneP
    case false =>
      have he : ebase 2 n s w l.length = false := by
        unfold ebase
        simp [hN]
      rw [he, Bool.false_and]
      refine wG Y53_BG @G53_BG ?_
      rw [hN] at hnm
      refine AR.callP hnm True.intro (AI (@exL_id) (AI (@vaL_id) (AI (@exV_id) @vaV_id))) ?_
      refine goG Y53_BG @G53_BG ?_
      refine wG Y53_BG @G53_BG ?_
      exact Fin.oneP
  by_cases h3 : o ≥ 3 ∧ o ≤ 15
  · obtain ⟨h3, h4⟩ := h3
    have he : ebase o n s w l.length = (decide (n = 0) && (s.toList == ByteArray.empty.toList) && decide (w = 0) && decide ((l.length : Int) = 2)) := eb_eq (by
      unfold ebase
      simp [eqS, h1, h2, h3, h4, q0, q1, q2, and_assoc, -List.length_eq_zero_iff])
    rw [he]
    refine wG Y53_BG (AI (@G53_BG) (AI h1 (AI h2 (AI h3 h4)))) ?_
    cases hb : (decide (n = 0) && (s.toList == ByteArray.empty.toList) && decide (w = 0) && decide ((l.length : Int) = 2)) with
    | true =>
      refine wG Y53_BG (AI (@G53_BG) (AI hb (AI hss (AI h1 (AI h2 (AI h3 h4)))))) ?_
      refine AR.callP hcc True.intro (AI (@exL_id) (AI (@vaL_id) (AI (@exV_id) @vaV_id))) ?_
      refine goG Y53_BG @G53_BG ?_
      rw [any_not]
      refine wG Y53_BG @G53_BG ?_
      rw [Bool.true_and]
      exact Fin.oneP
    | false =>
      refine wG Y53_BG (AI (@G53_BG) (AI hb (AI hss (AI h1 (AI h2 (AI h3 h4)))))) ?_
      rw [Bool.false_and]
      exact Fin.oneP
  have h3' : ¬ (o ≥ 3) ∨ ¬ (o ≤ 15) := by omega
  have e3 : (decide (o ≥ 3) && decide (o ≤ 15)) = false := by simp only [Bool.and_eq_false_iff, decide_eq_false_iff_not]; exact h3'
  by_cases h16 : o = 16
  · subst h16
    have he : ebase 16 n s w l.length = (decide (n = 0) && (s.toList == ByteArray.empty.toList) && decide (w = 0) && decide ((l.length : Int) = 1)) := eb_eq (by
      unfold ebase
      simp [eqS, q0, q1, q2, and_assoc, -List.length_eq_zero_iff])
    rw [he]
    refine wG Y53_BG @G53_BG ?_
    cases hb : (decide (n = 0) && (s.toList == ByteArray.empty.toList) && decide (w = 0) && decide ((l.length : Int) = 1)) with
    | true =>
      refine wG Y53_BG (AI (@G53_BG) (AI hb hss)) ?_
      refine AR.callP hcc True.intro (AI (@exL_id) (AI (@vaL_id) (AI (@exV_id) @vaV_id))) ?_
      refine goG Y53_BG @G53_BG ?_
      rw [any_not]
      refine wG Y53_BG @G53_BG ?_
      rw [Bool.true_and]
      exact Fin.oneP
    | false =>
      refine wG Y53_BG (AI (@G53_BG) (AI hb hss)) ?_
      rw [Bool.false_and]
      exact Fin.oneP
  by_cases h17 : o = 17
  · subst h17
    have he : ebase 17 n s w l.length = (decide (n = 0) && (s.toList == ByteArray.empty.toList) && decide (w = 0) && decide ((l.length : Int) = 1)) := eb_eq (by
      unfold ebase
      simp [eqS, q0, q1, q2, and_assoc, -List.length_eq_zero_iff])
    rw [he]
    refine wG Y53_BG @G53_BG ?_
    cases hb : (decide (n = 0) && (s.toList == ByteArray.empty.toList) && decide (w = 0) && decide ((l.length : Int) = 1)) with
    | true =>
      refine wG Y53_BG (AI (@G53_BG) (AI hb hss)) ?_
      refine AR.callP hcc True.intro (AI (@exL_id) (AI (@vaL_id) (AI (@exV_id) @vaV_id))) ?_
      refine goG Y53_BG @G53_BG ?_
      rw [any_not]
      refine wG Y53_BG @G53_BG ?_
      rw [Bool.true_and]
      exact Fin.oneP
    | false =>
      refine wG Y53_BG (AI (@G53_BG) (AI hb hss)) ?_
      rw [Bool.false_and]
      exact Fin.oneP
  by_cases h18 : o = 18
  · subst h18
    by_cases w1 : w = 1
    · subst w1
      have he : ebase 18 n s 1 l.length = (decide (n = 0) && (s.toList == ByteArray.empty.toList) && decide ((l.length : Int) = 1)) := eb_eq (by
        unfold ebase
        simp [eqS, q0, q1, q2, and_assoc, -List.length_eq_zero_iff])
      rw [he]
      refine wG Y53_BG @G53_BG ?_
      cases hb : (decide (n = 0) && (s.toList == ByteArray.empty.toList) && decide ((l.length : Int) = 1)) with
      | true =>
        refine wG Y53_BG (AI (@G53_BG) (AI hb hss)) ?_
        refine AR.callP hcc True.intro (AI (@exL_id) (AI (@vaL_id) (AI (@exV_id) @vaV_id))) ?_
        refine goG Y53_BG @G53_BG ?_
        rw [any_not]
        refine wG Y53_BG @G53_BG ?_
        rw [Bool.true_and]
        exact Fin.oneP
      | false =>
        refine wG Y53_BG (AI (@G53_BG) (AI hb hss)) ?_
        rw [Bool.false_and]
        exact Fin.oneP
    by_cases w2 : w = 2
    · subst w2
      have he : ebase 18 n s 2 l.length = (decide (n = 0) && (s.toList == ByteArray.empty.toList) && decide ((l.length : Int) = 1)) := eb_eq (by
        unfold ebase
        simp [eqS, q0, q1, q2, and_assoc, -List.length_eq_zero_iff])
      rw [he]
      refine wG Y53_BG @G53_BG ?_
      cases hb : (decide (n = 0) && (s.toList == ByteArray.empty.toList) && decide ((l.length : Int) = 1)) with
      | true =>
        refine wG Y53_BG (AI (@G53_BG) (AI hb hss)) ?_
        refine AR.callP hcc True.intro (AI (@exL_id) (AI (@vaL_id) (AI (@exV_id) @vaV_id))) ?_
        refine goG Y53_BG @G53_BG ?_
        rw [any_not]
        refine wG Y53_BG @G53_BG ?_
        rw [Bool.true_and]
        exact Fin.oneP
      | false =>
        refine wG Y53_BG (AI (@G53_BG) (AI hb hss)) ?_
        rw [Bool.false_and]
        exact Fin.oneP
    by_cases w4 : w = 4
    · subst w4
      have he : ebase 18 n s 4 l.length = (decide (n = 0) && (s.toList == ByteArray.empty.toList) && decide ((l.length : Int) = 1)) := eb_eq (by
        unfold ebase
        simp [eqS, q0, q1, q2, and_assoc, -List.length_eq_zero_iff])
      rw [he]
      refine wG Y53_BG @G53_BG ?_
      cases hb : (decide (n = 0) && (s.toList == ByteArray.empty.toList) && decide ((l.length : Int) = 1)) with
      | true =>
        refine wG Y53_BG (AI (@G53_BG) (AI hb hss)) ?_
        refine AR.callP hcc True.intro (AI (@exL_id) (AI (@vaL_id) (AI (@exV_id) @vaV_id))) ?_
        refine goG Y53_BG @G53_BG ?_
        rw [any_not]
        refine wG Y53_BG @G53_BG ?_
        rw [Bool.true_and]
        exact Fin.oneP
      | false =>
        refine wG Y53_BG (AI (@G53_BG) (AI hb hss)) ?_
        rw [Bool.false_and]
        exact Fin.oneP
    have he : ebase 18 n s w l.length = false := by
      unfold ebase
      simp [w1, w2, w4]
    rw [he, Bool.false_and]
    refine wG Y53_BG (AI (@G53_BG) (AI w1 (AI w2 w4))) ?_
    exact Fin.oneP
  by_cases h19 : o = 19
  · subst h19
    by_cases w1 : w = 1
    · subst w1
      have he : ebase 19 n s 1 l.length = (decide (n = 0) && (s.toList == ByteArray.empty.toList) && decide ((l.length : Int) = 1)) := eb_eq (by
        unfold ebase
        simp [eqS, q0, q1, q2, and_assoc, -List.length_eq_zero_iff])
      rw [he]
      refine wG Y53_BG @G53_BG ?_
      cases hb : (decide (n = 0) && (s.toList == ByteArray.empty.toList) && decide ((l.length : Int) = 1)) with
      | true =>
        refine wG Y53_BG (AI (@G53_BG) (AI hb hss)) ?_
        refine AR.callP hcc True.intro (AI (@exL_id) (AI (@vaL_id) (AI (@exV_id) @vaV_id))) ?_
        refine goG Y53_BG @G53_BG ?_
        rw [any_not]
        refine wG Y53_BG @G53_BG ?_
        rw [Bool.true_and]
        exact Fin.oneP
      | false =>
        refine wG Y53_BG (AI (@G53_BG) (AI hb hss)) ?_
        rw [Bool.false_and]
        exact Fin.oneP
    by_cases w2 : w = 2
    · subst w2
      have he : ebase 19 n s 2 l.length = (decide (n = 0) && (s.toList == ByteArray.empty.toList) && decide ((l.length : Int) = 1)) := eb_eq (by
        unfold ebase
        simp [eqS, q0, q1, q2, and_assoc, -List.length_eq_zero_iff])
      rw [he]
      refine wG Y53_BG @G53_BG ?_
      cases hb : (decide (n = 0) && (s.toList == ByteArray.empty.toList) && decide ((l.length : Int) = 1)) with
      | true =>
        refine wG Y53_BG (AI (@G53_BG) (AI hb hss)) ?_
        refine AR.callP hcc True.intro (AI (@exL_id) (AI (@vaL_id) (AI (@exV_id) @vaV_id))) ?_
        refine goG Y53_BG @G53_BG ?_
        rw [any_not]
        refine wG Y53_BG @G53_BG ?_
        rw [Bool.true_and]
        exact Fin.oneP
      | false =>
        refine wG Y53_BG (AI (@G53_BG) (AI hb hss)) ?_
        rw [Bool.false_and]
        exact Fin.oneP
    have he : ebase 19 n s w l.length = false := by
      unfold ebase
      simp [w1, w2]
    rw [he, Bool.false_and]
    refine wG Y53_BG (AI (@G53_BG) (AI w1 w2)) ?_
    exact Fin.oneP
  have he : ebase o n s w l.length = false := by
    unfold ebase
    simp [h1, h2, h16, h17, h18, h19]; omega
  rw [he, Bool.false_and]
  refine wG Y53_BG (AI (@G53_BG) (AI h1 (AI h2 (AI e3 (AI h16 (AI h17 (AI h18 h19))))))) ?_
  exact Fin.oneP
end Go.Proofs.YtfggemopnlffeaaGreat
namespace Go.Proofs.YtfggemopnlffeaaGreat
set_option linter.unusedSimpArgs false
set_option linter.unusedVariables false
set_option linter.unnecessarySimpa false
open Go.RowKit
theorem Y92_BH : type_of% (AI @F_ag_9 (AI @F_fl_44_0 (@F_sz_9))) := AI @F_ag_9 (AI @F_fl_44_0 (@F_sz_9))
theorem c_among11 (v : Va) (s : ByteArray) : DC Tryz.prog 92 [vaV v, .pt 0 0] [.box [.im (.string s)]] (.im (.bool (eqS v.name s))) [.box [.im (.string s)]] := by
  refine DC.enter 8 Tryz.func92 rfl (by decide) rfl rfl (s := [(0, vaV v), (1, .pt 0 0)]) (by rfl) ?_
  simp only [vaV_eq]
  refine wG Y92_BH True.intro ?_
  exact Fin.oneSP (AI (@exL_id) (AI (@vaL_id) (AI (@exV_id) @vaV_id)))
theorem Y90_BH : type_of% (AI @F_ag_22 (@F_sz_22)) := AI @F_ag_22 (@F_sz_22)
theorem c_among1 (vs : List Va) (hv : vs.length ≤ 4194304) (s : ByteArray) : DC Tryz.prog 90 [.im (.string s), .pt 0 0] [.box [(V.sl (vs.map vaV) .ro)]] (.im (.bool (has vs s))) [.box [(V.sl (vs.map vaV) .ro)]] := by
  have h := c_containsV1 (gs := vs) (F := 92) (cs := [.im (.string s)]) (fun v => eqS v.name s) (by simp [V.idsL, V.ids]) (by simp only [SR]) hv (fun v _ => c_among11 v s)
  unfold has
  refine DC.enter 7 Tryz.func90 rfl (by decide) rfl rfl (s := [(0, .im (.string s)), (1, .pt 0 0)]) (by rfl) ?_
  refine wG Y90_BH True.intro ?_
  refine AR.callQP [1] h True.intro (AI (@exL_id) (AI (@vaL_id) (AI (@exV_id) @vaV_id))) (AI (@exV_ren) (AI (@exL_ren) (AI (@vaV_ren) @vaL_ren))) ?_
  refine goG Y90_BH True.intro ?_
  refine wG Y90_BH True.intro ?_
  exact Fin.oneSP (AI (@exL_id) (AI (@vaL_id) (AI (@exV_id) @vaV_id)))
theorem Y89_BH : type_of% (AI @F_ag_48 (AI @F_ag_71 (AI @F_sz_48 (@F_sz_71)))) := AI @F_ag_48 (AI @F_ag_71 (AI @F_sz_48 (@F_sz_71)))
theorem c_known1 {x : Ex} {vs : List Va} {r : Bool} (h : DC Tryz.prog 54 [exV x, (V.fn (.func 90) [] [.pt 0 0])] [.box [(V.sl (vs.map vaV) .ro)]] (.im (.bool (r))) [.box [(V.sl (vs.map vaV) .ro)]]) : DC Tryz.prog 89 [exV x, .pt 0 0] [.box [(V.fn (.func 90) [] [.pt 1 0])], .box [(V.sl (vs.map vaV) .ro)]] (.im (.bool (!r))) [.box [(V.fn (.func 90) [] [.pt 1 0])], .box [(V.sl (vs.map vaV) .ro)]] := by
  refine DC.enter 8 Tryz.func89 rfl (by decide) rfl rfl (s := [(0, exV x), (1, .pt 0 0)]) (by rfl) ?_
  simp only [exV_eq]
  refine wG Y89_BH True.intro ?_
  refine AR.callQP [1] h @exV_eq (AI (@exL_id) (AI (@vaL_id) (AI (@exV_id) @vaV_id))) (AI (@exV_ren) (AI (@exL_ren) (AI (@vaV_ren) @vaL_ren))) ?_
  refine goG Y89_BH True.intro ?_
  refine wG Y89_BH True.intro ?_
  exact Fin.oneSP (AI (@exL_id) (AI (@vaL_id) (AI (@exV_id) @vaV_id)))
theorem Y54_BH : type_of% (AI @F_ag_3 (AI @F_ag_46 (AI @F_ag_71 (AI @F_ag_9 (AI @F_fl_48_0 (AI @F_fl_48_2 (AI @F_fl_48_4 (AI @F_sz_3 (AI @F_sz_46 (AI @F_sz_71 (@F_sz_9))))))))))) := AI @F_ag_3 (AI @F_ag_46 (AI @F_ag_71 (AI @F_ag_9 (AI @F_fl_48_0 (AI @F_fl_48_2 (AI @F_fl_48_4 (AI @F_sz_3 (AI @F_sz_46 (AI @F_sz_71 (@F_sz_9))))))))))
theorem G54_BH : type_of% (AI (@List.any_nil.{0}) @Bool.not_false) := (AI (@List.any_nil.{0}) @Bool.not_false)
theorem c_known (vs : List Va) (hv : vs.length ≤ 4194304) : ∀ (t : Ex), fitE t → efm t = true → DC Tryz.prog 54 [exV t, (V.fn (.func 90) [] [.pt 0 0])] [.box [(V.sl (vs.map vaV) .ro)]] (.im (.bool (knw vs t))) [.box [(V.sl (vs.map vaV) .ro)]] := by
  refine Ex.induct fun o n s w l hE => ?_
  intro hfit hf
  rw [efm_mk, Bool.and_eq_true, List.all_eq_true] at hf
  obtain ⟨hl1, hfE⟩ := fitE_mk hfit
  have h1 := c_among1 vs hv s
  have hc : ∀ t ∈ l, DC Tryz.prog 89 [exV t, .pt 0 0] [.box [(V.fn (.func 90) [] [.pt 1 0])], .box [(V.sl (vs.map vaV) .ro)]] (.im (.bool (!knw vs t))) [.box [(V.fn (.func 90) [] [.pt 1 0])], .box [(V.sl (vs.map vaV) .ro)]] := fun t ht => c_known1 (hE t ht (hfE t ht) (hf.2 t ht))
  have h2 := c_containsE2 (gs := l) (F := 89) (cs := [(V.fn (.func 90) [] [.pt 1 0])]) (ds := [(V.sl (vs.map vaV) .ro)]) (fun t => !knw vs t) (by simp [V.idsL, V.ids, ltB]) (by simp only [SR]) (by simp [V.idsL, V.ids, vaL_id]) (by simp only [SR, vaL_ren]) hl1 hc
  refine DC.enter 20 Tryz.func54 rfl (by decide) rfl rfl (s := [(0, exV (.mk o n s w l)), (1, (V.fn (.func 90) [] [.pt 0 0]))]) (by rfl) ?_
  simp only [exV_mk]
  rw [knw_mk]
  by_cases ho : o = 2
  · have e : (o == 2) = true := by simp [ho]
    rw [e, if_pos rfl]
    cases b : has vs s with
    | true =>
      rw [b] at h1
      refine wG Y54_BH (AI (@G54_BH) ho) ?_
      refine AR.callQP [0] h1 True.intro (AI (@exL_id) (AI (@vaL_id) (AI (@exV_id) @vaV_id))) (AI (@exV_ren) (AI (@exL_ren) (AI (@vaV_ren) @vaL_ren))) ?_
      refine goG Y54_BH @G54_BH ?_
      refine wG Y54_BH @G54_BH ?_
      refine AR.callQP [2, 0] h2 True.intro (AI (@exL_id) (AI (@vaL_id) (AI (@exV_id) @vaV_id))) (AI (@exV_ren) (AI (@exL_ren) (AI (@vaV_ren) @vaL_ren))) ?_
      refine goG Y54_BH @G54_BH ?_
      have hl : l = [] := by
        have := hf.1
        rw [ho] at this
        simp only [ebase, Int.reduceBEq, Bool.false_eq_true, if_false, if_true, Bool.and_eq_true, beq_iff_eq] at this
        exact List.length_eq_zero_iff.1 this.2
      rw [hl]
      refine wG Y54_BH @G54_BH ?_
      exact Fin.oneSP (AI (@exL_id) (AI (@vaL_id) (AI (@exV_id) @vaV_id)))
    | false =>
      rw [b] at h1
      refine wG Y54_BH (AI (@G54_BH) ho) ?_
      refine AR.callQP [0] h1 True.intro (AI (@exL_id) (AI (@vaL_id) (AI (@exV_id) @vaV_id))) (AI (@exV_ren) (AI (@exL_ren) (AI (@vaV_ren) @vaL_ren))) ?_
      refine goG Y54_BH @G54_BH ?_
      refine wG Y54_BH @G54_BH ?_
      exact Fin.oneSP (AI (@exL_id) (AI (@vaL_id) (AI (@exV_id) @vaV_id)))
  · have e : (o == 2) = false := by simp [ho]
    rw [e, if_neg (by decide)]
    refine wG Y54_BH (AI (@G54_BH) ho) ?_
    refine AR.callQP [2, 0] h2 True.intro (AI (@exL_id) (AI (@vaL_id) (AI (@exV_id) @vaV_id))) (AI (@exV_ren) (AI (@exL_ren) (AI (@vaV_ren) @vaL_ren))) ?_
    refine goG Y54_BH @G54_BH ?_
    rw [any_not]
    refine wG Y54_BH @G54_BH ?_
    exact Fin.oneSP (AI (@exL_id) (AI (@vaL_id) (AI (@exV_id) @vaV_id)))
theorem c_among (vs : List Va) : DC Tryz.prog 55 [(V.sl (vs.map vaV) .ro)] [.free] (V.fn (.func 90) [] [.pt 0 0]) [.box [(V.sl (vs.map vaV) .ro)]] := by
  refine DC.enterN 1 4 Tryz.func55 rfl (by decide) rfl rfl (s := [(0, (V.sl (vs.map vaV) .ro))]) (by rfl) ?_
  refine wG True.intro True.intro ?_
  refine Fin.genK 1 (rs := [.tmp 2]) rfl (by first | exact .inl rfl | exact .inr rfl) (by simp only [resX, resA, ↓accU_f, ↓reduceIte, SA, SB, SC, SD, valG, fpsG, evO, evB, evA, evA1, nilK, eqF, eqC, apOk, intOf, slB, slK,  gd, St.ev, putA, ofl, wrl, putE, V.ofVal, V.ofCell, bin2, un1, seg, fillV, partsOk, Value.oneCell', Nat.reduceBEq, Nat.reduceLT, Nat.reduceSub, Nat.reduceAdd, Nat.reduceMul, Nat.reduceLeDiff, Nat.reduceEqDiff, reduceCtorEq, Int.reduceLT, Int.reduceLE, Int.reduceEq, Int.reduceNe, Int.reduceBEq, Int.reduceBNe, Int.reduceAdd, Int.reduceSub, Int.reduceMul, Int.reduceToNat]; with_reducible exact rfl) ?_ rfl (by first | rfl | simp only [List.length_cons, List.length_nil, Nat.reduceAdd, V.ids, V.idsL, idsA, entOk, List.all_cons, List.all_nil, Bool.and_self, Bool.and_true, Bool.true_and, ltB, noId, Nat.reduceLT, decide_true, Bool.true_eq_false, tyV_id, fdV_id, tyL_id, fdL_id, exL_id, vaL_id, exV_id, vaV_id])
  repeat (first | exact WkF.of (Wk.refl _) (by first | rfl | simp only [List.length_cons, List.length_nil, Nat.reduceAdd, V.ids, V.idsL, idsA, entOk, List.all_cons, List.all_nil, Bool.and_self, Bool.and_true, Bool.true_and, ltB, noId, Nat.reduceLT, decide_true, Bool.true_eq_false, tyV_id, fdV_id, tyL_id, fdL_id, exL_id, vaL_id, exV_id, vaV_id]) | exact WkF.of (Wk.ro _ _) (by first | rfl | simp only [List.length_cons, List.length_nil, Nat.reduceAdd, V.ids, V.idsL, idsA, entOk, List.all_cons, List.all_nil, Bool.and_self, Bool.and_true, Bool.true_and, ltB, noId, Nat.reduceLT, decide_true, Bool.true_eq_false, tyV_id, fdV_id, tyL_id, fdL_id, exL_id, vaL_id, exV_id, vaV_id]) | refine WkF.tu ?_ | refine WkF.ag ?_ | refine WkFL.cons ?_ ?_ | exact WkFL.nil)
end Go.Proofs.YtfggemopnlffeaaGreat
