/- Walks: Load. -/
import Derived.Test.YtianekkfehoedaaGreatDoorHv
import Derived.Test.YtianekkfehoedaaGreatDoorK8
import Derived.Test.YtianekkfehoedaaGreatDoorZc
namespace Go.Proofs.YtianekkfehoedaaGreatDoor
set_option linter.unusedSimpArgs false
set_option linter.unusedVariables false
set_option linter.unnecessarySimpa false
open Go.RowKit
theorem Y6_Zf : type_of% (And.intro @F_ag_28 (And.intro @F_ag_3 (And.intro @F_ag_4 (And.intro @F_ag_46 (And.intro @F_al_46 (And.intro @F_al_56 (And.intro @F_el_22 (And.intro @F_el_28 (And.intro @F_fl_56_1 (And.intro @F_fl_56_2 (And.intro @F_fl_64_1 (And.intro @F_in_22 (And.intro @F_in_9 (And.intro @F_st_56 (And.intro @F_sz_28 (And.intro @F_sz_3 (And.intro @F_sz_4 (And.intro @F_sz_46 (And.intro @F_sz_5 (And.intro @F_un_22 (And.intro @F_un_5 (@F_un_9)))))))))))))))))))))) := And.intro @F_ag_28 (And.intro @F_ag_3 (And.intro @F_ag_4 (And.intro @F_ag_46 (And.intro @F_al_46 (And.intro @F_al_56 (And.intro @F_el_22 (And.intro @F_el_28 (And.intro @F_fl_56_1 (And.intro @F_fl_56_2 (And.intro @F_fl_64_1 (And.intro @F_in_22 (And.intro @F_in_9 (And.intro @F_st_56 (And.intro @F_sz_28 (And.intro @F_sz_3 (And.intro @F_sz_4 (And.intro @F_sz_46 (And.intro @F_sz_5 (And.intro @F_un_22 (And.intro @F_un_5 (@F_un_9)))))))))))))))))))))
theorem I1_Zf : type_of% (And.intro enV_id (And.intro enL_id (And.intro byL_id (And.intro lsV_id (And.intro lsL_id (And.intro (@tyV_id) flE_id)))))) := (And.intro enV_id (And.intro enL_id (And.intro byL_id (And.intro lsV_id (And.intro lsL_id (And.intro (@tyV_id) flE_id))))))
theorem N1_Zf : type_of% (And.intro enV_ren (And.intro enL_ren (And.intro byL_ren (And.intro lsV_ren (And.intro lsL_ren flE_ren))))) := (And.intro enV_ren (And.intro enL_ren (And.intro byL_ren (And.intro lsV_ren (And.intro lsL_ren flE_ren)))))
theorem lsN_le (b : Bs) : ∀ (n : Nat) (acc : List En) (a : Nat) (s : Bool), a ≤ b.length → (lsN b n acc a s).2.1 ≤ b.length
  | 0, acc, a, s, h => h
  | n + 1, acc, a, s, h => by
    unfold lsN
    split
    · exact h
    · refine lsN_le b n _ _ _ ?_
      unfold enN nuN
      simp only
      exact (tkN_le b _ _ _ (tkN_le b _ _ _ (tkN_le b _ _ _ (tkN_le b _ _ _ (tkN_le b _ _ _ h).2).2).2).2).2
theorem lsN_len (b : Bs) : ∀ (n : Nat) (acc : List En) (a : Nat) (s : Bool), (lsN b n acc a s).1.length ≤ acc.length + n
  | 0, acc, a, s => Nat.le_refl _
  | n + 1, acc, a, s => by
    unfold lsN
    split
    · simp only; omega
    · have := lsN_len b n (acc ++ [(enN b a s).1]) (enN b a s).2.1 (enN b a s).2.2
      simp only [List.length_append, List.length_cons, List.length_nil] at this
      omega
theorem enN_txt (b : Bs) (a : Nat) (s : Bool) : (enN b a s).1.text.length ≤ 65535 := by
  unfold enN
  simp only
  rw [tkN_len]
  have := nuN_lt b 2
  exact Nat.le_of_lt_succ (this _ _)
theorem lsN_txt (b : Bs) : ∀ (n : Nat) (acc : List En) (a : Nat) (s : Bool), (∀ e ∈ acc, e.text.length ≤ 65535) → ∀ e ∈ (lsN b n acc a s).1, e.text.length ≤ 65535
  | 0, acc, a, s, h => h
  | n + 1, acc, a, s, h => by
    unfold lsN
    split
    · exact h
    · refine lsN_txt b n _ _ _ fun e he => ?_
      rcases List.mem_append.1 he with he | he
      · exact h e he
      · obtain rfl := List.mem_singleton.1 he
        exact enN_txt b a s
theorem ite_ro {p : Prop} [Decidable p] : (if p then Slk.ro else Slk.ro) = Slk.ro := ite_self _
theorem bA_magic (x : Bs) (m : ByteArray) (hm : m = bA magicB) : ((bA x).toList == m.toList) = (x == magicB) := by rw [hm, bA_eq]
theorem c_LoadE (b : Bs) (hb : b.length ≤ 140737488355328) (h0 : (ldN b).1 ≠ 0) : PC Tryz.prog 6 [.sl (b.map byB) .ro] (.tu [.im (.pointer none), (.im (.int .i64 ((ldN b).1)))]) := by
  have hb0 : 0 ≤ b.length := Nat.zero_le _
  have q1 := c_take b 4 0 false hb (by omega) hb0
  have a1 := (tkN_le b 4 0 false hb0).2
  obtain ⟨H, hH⟩ : ∃ H, H = tkN b 4 0 false := ⟨_, rfl⟩
  rw [← hH] at q1 a1
  have q2 := c_list b H.2.1 H.2.2 hb a1
  have a2 := nuN_le b 2 H.2.1 H.2.2 a1
  have n2 := nuN_lt b 2 H.2.1 H.2.2
  have a3 := lsN_le b (nuN b 2 H.2.1 H.2.2).1 [] (nuN b 2 H.2.1 H.2.2).2.1 (nuN b 2 H.2.1 H.2.2).2.2 a2
  have n3 := lsN_len b (nuN b 2 H.2.1 H.2.2).1 [] (nuN b 2 H.2.1 H.2.2).2.1 (nuN b 2 H.2.1 H.2.2).2.2
  have t3 := lsN_txt b (nuN b 2 H.2.1 H.2.2).1 [] (nuN b 2 H.2.1 H.2.2).2.1 (nuN b 2 H.2.1 H.2.2).2.2 (fun e he => by simp at he)
  obtain ⟨R, hR⟩ : ∃ R, R = lsN b (nuN b 2 H.2.1 H.2.2).1 [] (nuN b 2 H.2.1 H.2.2).2.1 (nuN b 2 H.2.1 H.2.2).2.2 := ⟨_, rfl⟩
  rw [← hR] at q2 a3 n3 t3
  have n5 : R.1.length ≤ 65535 := by simp at n3; omega
  clear n3
  have q3 := c_numR b 2 R.2.1 R.2.2 hb (by omega) a3
  obtain ⟨K, hK⟩ : ∃ K, K = nuN b 2 R.2.1 R.2.2 := ⟨_, rfl⟩
  rw [← hK] at q3
  have hld : ldN b = if K.2.2 = true then (5, []) else if H.1 ≠ magicB ∨ K.1 ≠ sumB (b.take R.2.1) ∨ K.2.1 ≠ b.length ∨ ascB R.1 = false then (4, []) else ldF [] R.1 := by
    subst hK; subst hR; subst hH; rfl
  clear hK hR hH a2 n2
  have q4 := c_sum (b.take R.2.1) (by simp; omega)
  have q5 := c_ascending R.1 (by omega)
  have q6 := c_New
  have hm := fun m hm => bA_magic H.1 m hm
  have htk : List.take R.2.1 (b.map byB) = (b.take R.2.1).map byB := (List.map_take).symm
  have g1 : ((R.2.1 : Nat) : Int) ≤ (b.length : Int) := by omega
  obtain ⟨h1, h2, h3⟩ := H
  obtain ⟨l, ra, rs⟩ := R
  obtain ⟨kv, ka, ks⟩ := K
  dsimp only at q1 a1 q2 a3 n5 t3 q3 hld q4 q5 hm htk g1
  generalize b.take ra = bt at q4 htk hld
  generalize sumB bt = sm at q4 hld
  refine PC.enter 81 Tryz.func6 rfl (by decide) rfl rfl (s := [(0, .sl (b.map byB) .ro)]) (by rfl) ?_
  refine wG Y6_Zf BAT ?_
  refine AR.callSP [0] q1 @Int.cast_ofNat_Int I1_Zf N1_Zf ?_
  refine goG Y6_Zf (And.intro BAT bA_mk) ?_
  refine wG Y6_Zf True.intro ?_
  refine AR.callSP [0] q2 True.intro I1_Zf N1_Zf ?_
  refine goG Y6_Zf True.intro ?_
  refine wG Y6_Zf True.intro ?_
  refine AR.callSP [0] q3 @Int.cast_ofNat_Int I1_Zf N1_Zf ?_
  refine goG Y6_Zf True.intro ?_
  cases ks with
  | true =>
    rw [if_pos rfl] at hld
    rw [hld]
    refine wG Y6_Zf True.intro ?_
    refine Fin.gen0 (rs := [.tmp 2, .tmp 3]) rfl (by first | exact .inl rfl | exact .inr rfl) (finG Y6_Zf) ?_
    skip
    all_goals exact wkG I1_Zf
  | false =>
  rw [if_neg (by decide)] at hld
  by_cases e1 : h1 = magicB
  case neg =>
    rw [if_pos (.inl e1)] at hld
    rw [hld]
    have e1 : (h1 == magicB) = false := by simpa using e1
    have hm := hm ⟨#[68, 67, 80, 49]⟩ rfl
    rw [e1] at hm
    refine wdG Y6_Zf hm ?_
    refine Fin.gen0 (rs := [.tmp 2, .tmp 3]) rfl (by first | exact .inl rfl | exact .inr rfl) (finG Y6_Zf) ?_
    skip
    all_goals exact wkG I1_Zf
  have e1' : (h1 == magicB) = true := by simpa using e1
  have hm := hm ⟨#[68, 67, 80, 49]⟩ rfl
  rw [e1'] at hm
  refine wdG Y6_Zf (And.intro hm (And.intro (@List.length_map.{0, 0}) (And.intro GDS (And.intro g1 (And.intro htk (And.intro byL_allS @ite_ro)))))) ?_
  refine AR.callP q4 True.intro I1_Zf ?_
  by_cases e2 : kv = sm
  case neg =>
    rw [if_pos (.inr (.inl e2))] at hld
    rw [hld]
    have e2 : (((kv : Nat) : Int) = ((sm : Nat) : Int)) = False := eq_false (by omega)
    refine goG Y6_Zf e2 ?_
    refine wdG Y6_Zf True.intro ?_
    refine Fin.gen0 (rs := [.tmp 2, .tmp 3]) rfl (by first | exact .inl rfl | exact .inr rfl) (finG Y6_Zf) ?_
    skip
    all_goals exact wkG I1_Zf
  subst e2
  by_cases e3 : ka = b.length
  case neg =>
    rw [if_pos (.inr (.inr (.inl e3)))] at hld
    rw [hld]
    have e3 : (((ka : Nat) : Int) = ((b.length : Nat) : Int)) = False := eq_false (by omega)
    refine goG Y6_Zf (And.intro e3 @List.length_map.{0, 0}) ?_
    refine wdG Y6_Zf True.intro ?_
    refine Fin.gen0 (rs := [.tmp 2, .tmp 3]) rfl (by first | exact .inl rfl | exact .inr rfl) (finG Y6_Zf) ?_
    skip
    all_goals exact wkG I1_Zf
  subst e3
  refine goG Y6_Zf @List.length_map.{0, 0} ?_
  refine AR.callP q5 True.intro I1_Zf ?_
  cases e4 : ascB l with
  | false =>
    rw [if_pos (.inr (.inr (.inr e4)))] at hld
    rw [hld]
    refine goG Y6_Zf True.intro ?_
    refine wdG Y6_Zf True.intro ?_
    refine Fin.gen0 (rs := [.tmp 2, .tmp 3]) rfl (by first | exact .inl rfl | exact .inr rfl) (finG Y6_Zf) ?_
    skip
    all_goals exact wkG I1_Zf
  | true =>
  rw [if_neg (by rintro (k | k | k | k); exact k e1; exact k rfl; exact k rfl; rw [e4] at k; cases k)] at hld
  refine goG Y6_Zf True.intro ?_
  refine wdG Y6_Zf True.intro ?_
  refine AR.callSP [1] q6 True.intro I1_Zf N1_Zf ?_
  refine goG Y6_Zf True.intro ?_
  refine wG Y6_Zf @List.length_map.{0, 0} ?_
  refine AWp.frz 2 [(9, .pt 1 0), (57, .sl (l.map enV) .ro), (58, (.im (.int .i64 (l.length)))), (59, (.im (.int .i64 (0))))] [.box [.sl (b.map byB) .ro, (.im (.int .i64 (b.length))), (.im (.bool (false)))], .box [(.im (.bool (true))), .sl [] .ro, .sl [] .nl, .sl [] .nl]] ?_ (by simp) (by repeat (first | exact WkFA.nil | refine WkFA.cons (by first | exact .of (Wk.refl _) (by first | rfl | simp only [List.length_cons, List.length_nil, Nat.reduceAdd, V.ids, V.idsL, idsA, entOk, List.all_cons, List.all_nil, Bool.and_self, Bool.and_true, Bool.true_and, ltB, noId, Nat.reduceLT, decide_true, Bool.true_eq_false, tyV_id, fdV_id, tyL_id, fdL_id, enV_id, enL_id, byL_id, lsV_id, lsL_id, tyV_id, flE_id]) | exact .of (Wk.ro _ _) rfl) ?_)) (by repeat (first | exact WkFE.nil | refine WkFE.box (by repeat (first | exact WkFL.nil | refine WkFL.cons (by first | exact .of (Wk.refl _) (by first | rfl | simp only [List.length_cons, List.length_nil, Nat.reduceAdd, V.ids, V.idsL, idsA, entOk, List.all_cons, List.all_nil, Bool.and_self, Bool.and_true, Bool.true_and, ltB, noId, Nat.reduceLT, decide_true, Bool.true_eq_false, tyV_id, fdV_id, tyL_id, fdL_id, enV_id, enL_id, byL_id, lsV_id, lsL_id, tyV_id, flE_id]) | exact .of (Wk.ro _ _) rfl) ?_)) ?_ | refine WkFE.same (fun _ e => by cases e) ?_)) (fun i hi => by first | exact absurd rfl hi | exact Nat.lt_of_lt_of_le (ofl_lt hi) (by simp))
  refine AWp.loop ?_
  suffices H : ∀ x : Nat × List En, x.1 ≤ l.length ∧ AscE x.2 ∧ x.2.length ≤ 1024 ∧ ldF [] l = ldF x.2 (l.drop x.1) → ALp _ _ _ _ _ ⟨dn 81 [(9, .pt 1 0), (57, .sl (l.map enV) .ro), (58, (.im (.int .i64 (l.length)))), (59, (.im (.int .i64 ((((x.1) : Nat) : Int)))))], ofl [.box [.sl (b.map byB) .ro, (.im (.int .i64 (b.length))), (.im (.bool (false)))], .box [(.im (.bool (true))), .sl ((x.2).map enV) .ro, .sl [] .nl, .sl [] .nl]]⟩ by
    exact H (0, []) ⟨Nat.zero_le _, List.Pairwise.nil, by simp, rfl⟩
  refine ALp.meas (α := Nat × List En) (fun x => ⟨dn 81 [(9, .pt 1 0), (57, .sl (l.map enV) .ro), (58, (.im (.int .i64 (l.length)))), (59, (.im (.int .i64 ((((x.1) : Nat) : Int)))))], ofl [.box [.sl (b.map byB) .ro, (.im (.int .i64 (b.length))), (.im (.bool (false)))], .box [(.im (.bool (true))), .sl ((x.2).map enV) .ro, .sl [] .nl, .sl [] .nl]]⟩) (fun x => x.1 ≤ l.length ∧ AscE x.2 ∧ x.2.length ≤ 1024 ∧ ldF [] l = ldF x.2 (l.drop x.1)) (fun x => l.length - x.1) ?_
  rintro ⟨m, acc⟩ ⟨h1, h2, h3, h4⟩ hnext
  dsimp only at h1 h2 h3 h4 hnext ⊢
  by_cases hlt : m < l.length
  · have hlt' : (m : Int) < (l.length : Int) := by omega
    have hg := get_some hlt
    have hm1 := wrap_succ hlt (by omega)
    have hd : l.drop m = l[m] :: l.drop (m + 1) := List.drop_eq_getElem_cons hlt
    rw [hd] at h4
    have hte := t3 l[m] (List.getElem_mem hlt)
    generalize l[m] = e at hg h4 hte
    have q := c_with acc e h2 h3 (by omega)
    by_cases hE : eErr acc e = 0
    · have h5 := len_eWith h3 hE
      rw [ldF, if_pos hE] at h4
      rw [hE, if_pos rfl] at q
      have hn := hnext (m + 1, eWith acc e) (by simp; omega) ⟨by simp; omega, asc_eWith h2 e, h5, h4⟩
      clear hnext h4
      generalize eWith acc e = acc2 at q hn
      refine wdG Y6_Zf (And.intro hlt' (And.intro ENT hg)) ?_
      refine AR.callP q enV_eq I1_Zf ?_
      refine goG Y6_Zf True.intro ?_
      refine wdG Y6_Zf hm1 ?_
      refine ALp.cutP 2 [(9, .pt 1 0), (57, .sl (l.map enV) .ro), (58, (.im (.int .i64 (l.length)))), (59, (.im (.int .i64 ((((m + 1) : Nat) : Int)))))] [.box [.sl (b.map byB) .ro, (.im (.int .i64 (b.length))), (.im (.bool (false)))], .box [(.im (.bool (true))), .sl ((acc2).map enV) .ro, .sl [] .nl, .sl [] .nl]] I1_Zf ?_
      exact hn
    · rw [ldF, if_neg hE] at h4
      rw [hld, h4]
      rw [if_neg hE] at q
      clear hnext h4 hld h0
      generalize eErr acc e = er at q hE
      refine wdG Y6_Zf (And.intro hlt' (And.intro ENT hg)) ?_
      refine AR.callP q enV_eq I1_Zf ?_
      refine goG Y6_Zf hE ?_
      refine wdG Y6_Zf hE ?_
      refine Fin.gen0 (rs := [.tmp 2, .tmp 3]) rfl (by first | exact .inl rfl | exact .inr rfl) (finG Y6_Zf) ?_
      skip
      all_goals exact wkG I1_Zf
  · obtain rfl : m = l.length := by omega
    have hlt' : ¬ (l.length : Int) < (l.length : Int) := by omega
    rw [List.drop_length, ldF] at h4
    rw [hld, h4] at h0
    exact absurd rfl h0
theorem c_LoadK (b : Bs) (hb : b.length ≤ 140737488355328) (h0 : (ldN b).1 = 0) : DC Tryz.prog 6 [.sl (b.map byB) .ro] [.free, .free] (.tu [.pt 1 0, (.im (.int .i64 (0)))]) [.box [.sl (b.map byB) .ro, (.im (.int .i64 (b.length))), (.im (.bool (false)))], .box [(.im (.bool (true))), .sl (((ldN b).2).map enV) .ro, .sl [] .nl, .sl [] .nl]] := by
  have hb0 : 0 ≤ b.length := Nat.zero_le _
  have q1 := c_take b 4 0 false hb (by omega) hb0
  have a1 := (tkN_le b 4 0 false hb0).2
  obtain ⟨H, hH⟩ : ∃ H, H = tkN b 4 0 false := ⟨_, rfl⟩
  rw [← hH] at q1 a1
  have q2 := c_list b H.2.1 H.2.2 hb a1
  have a2 := nuN_le b 2 H.2.1 H.2.2 a1
  have n2 := nuN_lt b 2 H.2.1 H.2.2
  have a3 := lsN_le b (nuN b 2 H.2.1 H.2.2).1 [] (nuN b 2 H.2.1 H.2.2).2.1 (nuN b 2 H.2.1 H.2.2).2.2 a2
  have n3 := lsN_len b (nuN b 2 H.2.1 H.2.2).1 [] (nuN b 2 H.2.1 H.2.2).2.1 (nuN b 2 H.2.1 H.2.2).2.2
  have t3 := lsN_txt b (nuN b 2 H.2.1 H.2.2).1 [] (nuN b 2 H.2.1 H.2.2).2.1 (nuN b 2 H.2.1 H.2.2).2.2 (fun e he => by simp at he)
  obtain ⟨R, hR⟩ : ∃ R, R = lsN b (nuN b 2 H.2.1 H.2.2).1 [] (nuN b 2 H.2.1 H.2.2).2.1 (nuN b 2 H.2.1 H.2.2).2.2 := ⟨_, rfl⟩
  rw [← hR] at q2 a3 n3 t3
  have n5 : R.1.length ≤ 65535 := by simp at n3; omega
  clear n3
  have q3 := c_numR b 2 R.2.1 R.2.2 hb (by omega) a3
  obtain ⟨K, hK⟩ : ∃ K, K = nuN b 2 R.2.1 R.2.2 := ⟨_, rfl⟩
  rw [← hK] at q3
  have hld : ldN b = if K.2.2 = true then (5, []) else if H.1 ≠ magicB ∨ K.1 ≠ sumB (b.take R.2.1) ∨ K.2.1 ≠ b.length ∨ ascB R.1 = false then (4, []) else ldF [] R.1 := by
    subst hK; subst hR; subst hH; rfl
  clear hK hR hH a2 n2
  have q4 := c_sum (b.take R.2.1) (by simp; omega)
  have q5 := c_ascending R.1 (by omega)
  have q6 := c_New
  have hm := fun m hm => bA_magic H.1 m hm
  have htk : List.take R.2.1 (b.map byB) = (b.take R.2.1).map byB := (List.map_take).symm
  have g1 : ((R.2.1 : Nat) : Int) ≤ (b.length : Int) := by omega
  obtain ⟨h1, h2, h3⟩ := H
  obtain ⟨l, ra, rs⟩ := R
  obtain ⟨kv, ka, ks⟩ := K
  dsimp only at q1 a1 q2 a3 n5 t3 q3 hld q4 q5 hm htk g1
  generalize b.take ra = bt at q4 htk hld
  generalize sumB bt = sm at q4 hld
  refine DC.enterN 2 81 Tryz.func6 rfl (by decide) rfl rfl (s := [(0, .sl (b.map byB) .ro)]) (by rfl) ?_
  refine wG Y6_Zf BAT ?_
  refine AR.callSP [0] q1 @Int.cast_ofNat_Int I1_Zf N1_Zf ?_
  refine goG Y6_Zf (And.intro BAT bA_mk) ?_
  refine wG Y6_Zf True.intro ?_
  refine AR.callSP [0] q2 True.intro I1_Zf N1_Zf ?_
  refine goG Y6_Zf True.intro ?_
  refine wG Y6_Zf True.intro ?_
  refine AR.callSP [0] q3 @Int.cast_ofNat_Int I1_Zf N1_Zf ?_
  refine goG Y6_Zf True.intro ?_
  cases ks with
  | true =>
    rw [if_pos rfl] at hld
    rw [hld] at h0
    exact absurd h0 (by decide)
  | false =>
  rw [if_neg (by decide)] at hld
  by_cases e1 : h1 = magicB
  case neg =>
    rw [if_pos (.inl e1)] at hld
    rw [hld] at h0
    exact absurd h0 (by decide)
  have e1' : (h1 == magicB) = true := by simpa using e1
  have hm := hm ⟨#[68, 67, 80, 49]⟩ rfl
  rw [e1'] at hm
  refine wdG Y6_Zf (And.intro hm (And.intro (@List.length_map.{0, 0}) (And.intro GDS (And.intro g1 (And.intro htk (And.intro byL_allS @ite_ro)))))) ?_
  refine AR.callP q4 True.intro I1_Zf ?_
  by_cases e2 : kv = sm
  case neg =>
    rw [if_pos (.inr (.inl e2))] at hld
    rw [hld] at h0
    exact absurd h0 (by decide)
  subst e2
  by_cases e3 : ka = b.length
  case neg =>
    rw [if_pos (.inr (.inr (.inl e3)))] at hld
    rw [hld] at h0
    exact absurd h0 (by decide)
  subst e3
  refine goG Y6_Zf @List.length_map.{0, 0} ?_
  refine AR.callP q5 True.intro I1_Zf ?_
  cases e4 : ascB l with
  | false =>
    rw [if_pos (.inr (.inr (.inr e4)))] at hld
    rw [hld] at h0
    exact absurd h0 (by decide)
  | true =>
  rw [if_neg (by rintro (k | k | k | k); exact k e1; exact k rfl; exact k rfl; rw [e4] at k; cases k)] at hld
  refine goG Y6_Zf True.intro ?_
  refine wdG Y6_Zf True.intro ?_
  refine AR.callSP [1] q6 True.intro I1_Zf N1_Zf ?_
  refine goG Y6_Zf True.intro ?_
  refine wG Y6_Zf @List.length_map.{0, 0} ?_
  refine AWp.frz 2 [(9, .pt 1 0), (57, .sl (l.map enV) .ro), (58, (.im (.int .i64 (l.length)))), (59, (.im (.int .i64 (0))))] [.box [.sl (b.map byB) .ro, (.im (.int .i64 (b.length))), (.im (.bool (false)))], .box [(.im (.bool (true))), .sl [] .ro, .sl [] .nl, .sl [] .nl]] ?_ (by simp) (by repeat (first | exact WkFA.nil | refine WkFA.cons (by first | exact .of (Wk.refl _) (by first | rfl | simp only [List.length_cons, List.length_nil, Nat.reduceAdd, V.ids, V.idsL, idsA, entOk, List.all_cons, List.all_nil, Bool.and_self, Bool.and_true, Bool.true_and, ltB, noId, Nat.reduceLT, decide_true, Bool.true_eq_false, tyV_id, fdV_id, tyL_id, fdL_id, enV_id, enL_id, byL_id, lsV_id, lsL_id, tyV_id, flE_id]) | exact .of (Wk.ro _ _) rfl) ?_)) (by repeat (first | exact WkFE.nil | refine WkFE.box (by repeat (first | exact WkFL.nil | refine WkFL.cons (by first | exact .of (Wk.refl _) (by first | rfl | simp only [List.length_cons, List.length_nil, Nat.reduceAdd, V.ids, V.idsL, idsA, entOk, List.all_cons, List.all_nil, Bool.and_self, Bool.and_true, Bool.true_and, ltB, noId, Nat.reduceLT, decide_true, Bool.true_eq_false, tyV_id, fdV_id, tyL_id, fdL_id, enV_id, enL_id, byL_id, lsV_id, lsL_id, tyV_id, flE_id]) | exact .of (Wk.ro _ _) rfl) ?_)) ?_ | refine WkFE.same (fun _ e => by cases e) ?_)) (fun i hi => by first | exact absurd rfl hi | exact Nat.lt_of_lt_of_le (ofl_lt hi) (by simp))
  refine AWp.loop ?_
  suffices H : ∀ x : Nat × List En, x.1 ≤ l.length ∧ AscE x.2 ∧ x.2.length ≤ 1024 ∧ ldF [] l = ldF x.2 (l.drop x.1) → ALp _ _ _ _ _ ⟨dn 81 [(9, .pt 1 0), (57, .sl (l.map enV) .ro), (58, (.im (.int .i64 (l.length)))), (59, (.im (.int .i64 ((((x.1) : Nat) : Int)))))], ofl [.box [.sl (b.map byB) .ro, (.im (.int .i64 (b.length))), (.im (.bool (false)))], .box [(.im (.bool (true))), .sl ((x.2).map enV) .ro, .sl [] .nl, .sl [] .nl]]⟩ by
    exact H (0, []) ⟨Nat.zero_le _, List.Pairwise.nil, by simp, rfl⟩
  refine ALp.meas (α := Nat × List En) (fun x => ⟨dn 81 [(9, .pt 1 0), (57, .sl (l.map enV) .ro), (58, (.im (.int .i64 (l.length)))), (59, (.im (.int .i64 ((((x.1) : Nat) : Int)))))], ofl [.box [.sl (b.map byB) .ro, (.im (.int .i64 (b.length))), (.im (.bool (false)))], .box [(.im (.bool (true))), .sl ((x.2).map enV) .ro, .sl [] .nl, .sl [] .nl]]⟩) (fun x => x.1 ≤ l.length ∧ AscE x.2 ∧ x.2.length ≤ 1024 ∧ ldF [] l = ldF x.2 (l.drop x.1)) (fun x => l.length - x.1) ?_
  rintro ⟨m, acc⟩ ⟨h1, h2, h3, h4⟩ hnext
  dsimp only at h1 h2 h3 h4 hnext ⊢
  by_cases hlt : m < l.length
  · have hlt' : (m : Int) < (l.length : Int) := by omega
    have hg := get_some hlt
    have hm1 := wrap_succ hlt (by omega)
    have hd : l.drop m = l[m] :: l.drop (m + 1) := List.drop_eq_getElem_cons hlt
    rw [hd] at h4
    have hte := t3 l[m] (List.getElem_mem hlt)
    generalize l[m] = e at hg h4 hte
    have q := c_with acc e h2 h3 (by omega)
    by_cases hE : eErr acc e = 0
    · have h5 := len_eWith h3 hE
      rw [ldF, if_pos hE] at h4
      rw [hE, if_pos rfl] at q
      have hn := hnext (m + 1, eWith acc e) (by simp; omega) ⟨by simp; omega, asc_eWith h2 e, h5, h4⟩
      clear hnext h4
      generalize eWith acc e = acc2 at q hn
      refine wdG Y6_Zf (And.intro hlt' (And.intro ENT hg)) ?_
      refine AR.callP q enV_eq I1_Zf ?_
      refine goG Y6_Zf True.intro ?_
      refine wdG Y6_Zf hm1 ?_
      refine ALp.cutP 2 [(9, .pt 1 0), (57, .sl (l.map enV) .ro), (58, (.im (.int .i64 (l.length)))), (59, (.im (.int .i64 ((((m + 1) : Nat) : Int)))))] [.box [.sl (b.map byB) .ro, (.im (.int .i64 (b.length))), (.im (.bool (false)))], .box [(.im (.bool (true))), .sl ((acc2).map enV) .ro, .sl [] .nl, .sl [] .nl]] I1_Zf ?_
      exact hn
    · rw [ldF, if_neg hE] at h4
      rw [hld, h4] at h0
      exact absurd h0 hE
  · obtain rfl : m = l.length := by omega
    have hlt' : ¬ (l.length : Int) < (l.length : Int) := by omega
    rw [List.drop_length, ldF] at h4
    rw [hld, h4]
    clear hnext hlt h4
    refine wdG Y6_Zf hlt' ?_
    refine Fin.genM 2 (by simp) (rs := [.tmp 2, .tmp 3]) rfl (by first | exact .inl rfl | exact .inr rfl) (by simp only [resX, resA, ↓accU_f, ↓reduceIte, SA, SB, SC, SD, Y6_Zf, valG, fpsG, evO, evB, evA, evA1, nilK, eqF, eqC, apOk, intOf, slB, slK,  gd, St.ev, putA, ofl, wrl, putE, V.ofVal, V.ofCell, bin2, un1, seg, fillV, partsOk, Value.oneCell', Nat.reduceBEq, Nat.reduceLT, Nat.reduceSub, Nat.reduceAdd, Nat.reduceMul, Nat.reduceLeDiff, Nat.reduceEqDiff, reduceCtorEq, Int.reduceLT, Int.reduceLE, Int.reduceEq, Int.reduceNe, Int.reduceBEq, Int.reduceBNe, Int.reduceAdd, Int.reduceSub, Int.reduceMul, Int.reduceToNat]; with_reducible exact rfl) ?_ rfl (by first | rfl | simp only [List.length_cons, List.length_nil, Nat.reduceAdd, V.ids, V.idsL, idsA, entOk, List.all_cons, List.all_nil, Bool.and_self, Bool.and_true, Bool.true_and, ltB, noId, Nat.reduceLT, decide_true, Bool.true_eq_false, tyV_id, fdV_id, tyL_id, fdL_id, enV_id, enL_id, byL_id, lsV_id, lsL_id, tyV_id, flE_id])
    repeat (first | exact WkF.of (Wk.refl _) (by first | rfl | simp only [List.length_cons, List.length_nil, Nat.reduceAdd, V.ids, V.idsL, idsA, entOk, List.all_cons, List.all_nil, Bool.and_self, Bool.and_true, Bool.true_and, ltB, noId, Nat.reduceLT, decide_true, Bool.true_eq_false, tyV_id, fdV_id, tyL_id, fdL_id, enV_id, enL_id, byL_id, lsV_id, lsL_id, tyV_id, flE_id]) | exact WkF.of (Wk.ro _ _) (by first | rfl | simp only [List.length_cons, List.length_nil, Nat.reduceAdd, V.ids, V.idsL, idsA, entOk, List.all_cons, List.all_nil, Bool.and_self, Bool.and_true, Bool.true_and, ltB, noId, Nat.reduceLT, decide_true, Bool.true_eq_false, tyV_id, fdV_id, tyL_id, fdL_id, enV_id, enL_id, byL_id, lsV_id, lsL_id, tyV_id, flE_id]) | refine WkF.tu ?_ | refine WkF.ag ?_ | refine WkFL.cons ?_ ?_ | exact WkFL.nil)
end Go.Proofs.YtianekkfehoedaaGreatDoor
