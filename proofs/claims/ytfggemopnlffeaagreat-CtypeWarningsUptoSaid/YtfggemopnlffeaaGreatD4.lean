import Derived.Test.YtfggemopnlffeaaGreatHv
import Derived.Test.YtfggemopnlffeaaGreatD3
namespace Go.Proofs.YtfggemopnlffeaaGreat
set_option linter.unusedSimpArgs false
set_option linter.unusedVariables false
set_option linter.unnecessarySimpa false
open Go.RowKit
theorem Y76_D4 : type_of% (AI @F_ag_3 (AI @F_ag_35 (AI @F_ag_57 (AI @F_ag_59 (AI @F_al_130 (AI @F_by_130 (AI @F_el_108 (AI @F_el_35 (AI @F_el_57 (AI @F_fl_59_0 (AI @F_fl_59_4 (AI @F_fl_59_5 (AI @F_fl_59_6 (AI @F_st_130 (AI @F_sz_130 (AI @F_sz_3 (AI @F_sz_35 (AI @F_sz_57 (@F_sz_59))))))))))))))))))) := AI @F_ag_3 (AI @F_ag_35 (AI @F_ag_57 (AI @F_ag_59 (AI @F_al_130 (AI @F_by_130 (AI @F_el_108 (AI @F_el_35 (AI @F_el_57 (AI @F_fl_59_0 (AI @F_fl_59_4 (AI @F_fl_59_5 (AI @F_fl_59_6 (AI @F_st_130 (AI @F_sz_130 (AI @F_sz_3 (AI @F_sz_35 (AI @F_sz_57 (@F_sz_59))))))))))))))))))
set_option maxHeartbeats 2000000 in
theorem c_flat : ∀ l : List Nd, fitNL l → cnt l ≤ 4194304 → ∀ lp : Bool, PC Tryz.prog 76 [.sl (l.map ndV) .ro, (.im (.bool (lp)))] (.sl ((flaL l lp).map plV) .ro) := by
  refine subs_induct fun l hl hf hc lp => ?_
  have hl1 := hf.1
  have hlen := flaL_len l lp
  unfold flaL at hlen ⊢
  refine PC.enter 80 Tryz.func76 rfl (by decide) rfl rfl (s := [(0, .sl (l.map ndV) .ro), (1, (.im (.bool (lp))))]) (by rfl) ?_
  refine wG Y76_D4 True.intro ?_
  refine AWp.loop ?_
  refine ALp.ghost 5 [] .nl 130 8 ?_
  refine ALp.cutP 1 [(0, .sl (l.map ndV) .ro), (1, (.im (.bool (lp)))), (5, .sl (((l.take (0)).flatMap fun t => flaT t lp).map plV) (.own 0)), (6, (.im (.int .i64 ((((0 : Nat)) : Int)))))] [.tip 130 8 ((l.take (0)).flatMap fun t => flaT t lp).length] (AI ndV_id (AI ndLs_id (AI nlVs_id (AI nlV_id (AI plV_id (AI plVs_id @exL_id)))))) ?_
  refine ALp.upto l.length (fun _ => True) (fun m => ⟨dn 80 [(0, .sl (l.map ndV) .ro), (1, (.im (.bool (lp)))), (5, .sl (((l.take (m)).flatMap fun t => flaT t lp).map plV) (.own 0)), (6, (.im (.int .i64 ((((m : Nat)) : Int)))))], ofl [.tip 130 8 ((l.take (m)).flatMap fun t => flaT t lp).length]⟩) ?_ 0 (Nat.zero_le _) trivial
  intro m hm _ hnext
  by_cases hlt : m < l.length
  case neg =>
    obtain rfl : m = l.length := by omega
    clear hnext
    rw [List.take_length]
    refine wG Y76_D4 (AI (@Int.lt_irrefl) @List.length_map.{0, 0}) ?_
    refine Fin.gen0 (rs := [.tmp 4]) rfl (by first | exact .inl rfl | exact .inr rfl) (by simp only [resX, resA, ↓accU_f, ↓reduceIte, SA, SB, SC, SD, Y76_D4, valG, fpsG, evO, evB, evA, evA1, nilK, eqF, eqC, apOk, intOf, slB, slK,  gd, St.ev, putA, ofl, wrl, putE, V.ofVal, V.ofCell, bin2, un1, seg, fillV, partsOk, Value.oneCell', Nat.reduceBEq, Nat.reduceLT, Nat.reduceSub, Nat.reduceAdd, Nat.reduceMul, Nat.reduceLeDiff, Nat.reduceEqDiff, reduceCtorEq, Int.reduceLT, Int.reduceLE, Int.reduceEq, Int.reduceNe, Int.reduceBEq, Int.reduceBNe, Int.reduceAdd, Int.reduceSub, Int.reduceMul, Int.reduceToNat]; with_reducible exact rfl) ?_
    repeat (first | exact WkF.of (Wk.refl _) (by first | rfl | simp only [List.length_cons, List.length_nil, Nat.reduceAdd, V.ids, V.idsL, idsA, entOk, List.all_cons, List.all_nil, Bool.and_self, Bool.and_true, Bool.true_and, ltB, noId, Nat.reduceLT, decide_true, Bool.true_eq_false, tyV_id, fdV_id, tyL_id, fdL_id, ndV_id, ndLs_id, nlVs_id, nlV_id, plV_id, plVs_id, exL_id]) | exact WkF.of (Wk.ro _ _) (by first | rfl | simp only [List.length_cons, List.length_nil, Nat.reduceAdd, V.ids, V.idsL, idsA, entOk, List.all_cons, List.all_nil, Bool.and_self, Bool.and_true, Bool.true_and, ltB, noId, Nat.reduceLT, decide_true, Bool.true_eq_false, tyV_id, fdV_id, tyL_id, fdL_id, ndV_id, ndLs_id, nlVs_id, nlV_id, plV_id, plVs_id, exL_id]) | refine WkF.tu ?_ | refine WkF.ag ?_ | refine WkFL.cons ?_ ?_ | exact WkFL.nil)
  have hlt' : (m : Int) < (l.length : Int) := by omega
  have hm1 := wrap_succ hlt (by omega)
  have hg := get_some hlt
  have ht := hf.2 _ (List.getElem_mem hlt)
  obtain ⟨_, hs2⟩ := fit_subs ht
  have hcl := (fitN_inv ht).2.2.2.2.2.1
  have hcs : ∀ c ∈ subs l[m], 1 + cnt c ≤ cnt l := fun c hc => cnt_sub (List.getElem_mem hlt) hc
  have hR := fun c hc' => hl l[m] (List.getElem_mem hlt) c hc' (hs2 c hc') (by have := hcs c hc'; omega)
  have q1 := hR l[m].l (by simp [subs]) (inL l[m] lp)
  have q2 := hR l[m].el (by simp [subs]) lp
  have q3 := fun c (hc : c ∈ l[m].cs) => hR c (by simp [subs, hc]) lp
  have hsn := flatMap_snoc (fun t => flaT t lp) hlt
  have hle := flatMap_le (fun t => flaT t lp) l (m + 1)
  simp only [flaT_eq l[m]] at hsn
  generalize hA : (l.take m).flatMap (fun t => flaT t lp) = A at hsn ⊢
  obtain ⟨B0, hB0⟩ : ∃ B0, B0 = A ++ [(l[m], lp)] := ⟨_, rfl⟩
  obtain ⟨B1, hB1⟩ : ∃ B1, B1 = B0 ++ flaL l[m].l (inL l[m] lp) := ⟨_, rfl⟩
  obtain ⟨Bf, hBf⟩ : ∃ Bf : Nat → List (Nd × Bool), ∀ j, Bf j = B1 ++ flaL l[m].el lp ++ (l[m].cs.take j).flatMap fun c => flaL c lp := ⟨_, fun _ => rfl⟩
  have hend : Bf l[m].cs.length = (l.take (m + 1)).flatMap fun t => flaT t lp := by
    rw [hBf, List.take_length, ← hsn, hB1, hB0]
    simp only [List.flatMap_cons, List.append_assoc, List.cons_append, List.nil_append]
  have hstep : ∀ j (hj : j < l[m].cs.length), Bf j ++ flaL l[m].cs[j] lp = Bf (j + 1) := fun j hj => by
    rw [hBf, hBf, ← flatMap_snoc _ hj, List.append_assoc]
  have hlen2 : ∀ j, (Bf j).length ≤ (Bf l[m].cs.length).length := fun j => by
    rw [hBf, hBf, List.length_append, List.length_append (bs := (l[m].cs.take l[m].cs.length).flatMap fun c => flaL c lp), List.take_length]
    have := flatMap_le (fun c => flaL c lp) l[m].cs j
    omega
  have hz0 : Bf 0 = B1 ++ flaL l[m].el lp := by rw [hBf]; simp
  have p0 : A.map plV ++ [.ag [.im (.int .i64 l[m].kind), .im (.int .i64 l[m].width), .im (.string l[m].name), .sl (l[m].e.map exV) .ro, .sl (l[m].l.map ndV) .ro, .sl (l[m].el.map ndV) .ro, .sl (l[m].cs.map nlV) .ro, .im (.bool lp)]] = B0.map plV := by rw [hB0]; simp [plV]
  have p1 : B0.map plV ++ (flaL l[m].l (inL l[m] lp)).map plV = B1.map plV := by rw [hB1, List.map_append]
  have p2 : B1.map plV ++ (flaL l[m].el lp).map plV = (Bf 0).map plV := by rw [hz0, List.map_append]
  have n0 : A.length + 1 = B0.length := by rw [hB0]; simp
  have n1 : B0.length + (flaL l[m].l (inL l[m] lp)).length = B1.length := by rw [hB1, List.length_append]
  have n2 : B1.length + (flaL l[m].el lp).length = (Bf 0).length := by rw [hz0, List.length_append]
  rw [hend] at hlen2
  have b2 : (Bf 0).length * 136 ≤ 140737488355328 := by have := hlen2 0; omega
  have b1 : B1.length * 136 ≤ 140737488355328 := by have := hlen2 0; omega
  have b0 : B0.length * 136 ≤ 140737488355328 := by have := hlen2 0; omega
  clear hsn hA hB0 hB1 hR hs2
  have hin : inL l[m] lp = (lp || decide (l[m].kind = 7) || decide (l[m].kind = 8)) := rfl
  refine wG Y76_D4 (AI hlt' (AI hg (AI b0 (AI p0 (AI n0 (AI (@List.length_map.{0, 0}) ND)))))) ?_
  refine wdG Y76_D4 (AI hlt' (AI hg ND)) ?_
  refine AR.callP q1 hin (AI ndV_id (AI ndLs_id (AI nlVs_id (AI nlV_id (AI plV_id (AI plVs_id @exL_id)))))) ?_
  refine goG Y76_D4 (AI p1 (AI n1 (AI b1 (AI plVs_all @List.length_map.{0, 0})))) ?_
  refine wdG Y76_D4 (AI hlt' (AI hg ND)) ?_
  refine AR.callP q2 True.intro (AI ndV_id (AI ndLs_id (AI nlVs_id (AI nlV_id (AI plV_id (AI plVs_id @exL_id)))))) ?_
  refine goG Y76_D4 (AI p2 (AI n2 (AI b2 (AI plVs_all @List.length_map.{0, 0})))) ?_
  refine wG Y76_D4 True.intro ?_
  refine AWp.loop ?_
  refine ALp.cutP 1 [(0, .sl (l.map ndV) .ro), (1, (.im (.bool (lp)))), (5, .sl ((Bf (0)).map plV) (.own 0)), (6, (.im (.int .i64 ((m : Int))))), (7, (.im (.int .i64 ((((0 : Nat)) : Int)))))] [.tip 130 8 (Bf (0)).length] (AI ndV_id (AI ndLs_id (AI nlVs_id (AI nlV_id (AI plV_id (AI plVs_id @exL_id)))))) ?_
  refine ALp.upto l[m].cs.length (fun _ => True) (fun j => ⟨dn 80 [(0, .sl (l.map ndV) .ro), (1, (.im (.bool (lp)))), (5, .sl ((Bf (j)).map plV) (.own 0)), (6, (.im (.int .i64 ((m : Int))))), (7, (.im (.int .i64 ((((j : Nat)) : Int)))))], ofl [.tip 130 8 (Bf (j)).length]⟩) ?_ 0 (Nat.zero_le _) trivial
  intro j hj _ hnext2
  by_cases hlu : j < l[m].cs.length
  case neg =>
    obtain rfl : j = l[m].cs.length := by omega
    clear hnext2
    rw [hend]
    refine whG Y76_D4 (AI hlt' (AI hg (AI (@Int.lt_irrefl) (AI (@List.length_map.{0, 0}) ND)))) ?_
    refine Blk'.here (Thn.n ?_)
    refine wG Y76_D4 hm1 ?_
    refine ALp.cutP 1 [(0, .sl (l.map ndV) .ro), (1, (.im (.bool (lp)))), (5, .sl (((l.take (m + 1)).flatMap fun t => flaT t lp).map plV) (.own 0)), (6, (.im (.int .i64 ((((m + 1 : Nat)) : Int)))))] [.tip 130 8 ((l.take (m + 1)).flatMap fun t => flaT t lp).length] (AI ndV_id (AI ndLs_id (AI nlVs_id (AI nlV_id (AI plV_id (AI plVs_id @exL_id)))))) ?_
    exact hnext (m + 1) (by omega) (by omega) trivial
  have hlu' : (j : Int) < (l[m].cs.length : Int) := by omega
  have hj1 := wrap_succ hlu (by omega)
  have hg2 := get_some hlu
  have hc2 := q3 l[m].cs[j] (List.getElem_mem hlu)
  have hs3 := congrArg (List.map plV) (hstep j hlu)
  rw [List.map_append] at hs3
  have hs4 := congrArg List.length (hstep j hlu)
  rw [List.length_append] at hs4
  have hb1 : (Bf (j + 1)).length * 136 ≤ 140737488355328 := by have := hlen2 (j + 1); omega
  refine wG Y76_D4 (AI hlt' (AI hg (AI hlu' (AI hg2 (AI (@List.length_map.{0, 0}) ND))))) ?_
  refine AR.callP hc2 nlV_eq (AI ndV_id (AI ndLs_id (AI nlVs_id (AI nlV_id (AI plV_id (AI plVs_id @exL_id)))))) ?_
  refine goG Y76_D4 (AI hs3 (AI hs4 (AI hb1 (AI plVs_all @List.length_map.{0, 0})))) ?_
  refine wG Y76_D4 hj1 ?_
  refine ALp.cutP 1 [(0, .sl (l.map ndV) .ro), (1, (.im (.bool (lp)))), (5, .sl ((Bf (j + 1)).map plV) (.own 0)), (6, (.im (.int .i64 ((m : Int))))), (7, (.im (.int .i64 ((((j + 1 : Nat)) : Int)))))] [.tip 130 8 (Bf (j + 1)).length] (AI ndV_id (AI ndLs_id (AI nlVs_id (AI nlV_id (AI plV_id (AI plVs_id @exL_id)))))) ?_
  exact hnext2 (j + 1) (by omega) (by omega) trivial
theorem Y114_D4 : type_of% (AI @F_ag_3 (AI @F_ag_59 (AI @F_ag_9 (AI @F_el_108 (AI @F_fl_130_0 (AI @F_fl_59_0 (AI @F_fl_59_2 (AI @F_sz_130 (AI @F_sz_3 (AI @F_sz_59 (@F_sz_9))))))))))) := AI @F_ag_3 (AI @F_ag_59 (AI @F_ag_9 (AI @F_el_108 (AI @F_fl_130_0 (AI @F_fl_59_0 (AI @F_fl_59_2 (AI @F_sz_130 (AI @F_sz_3 (AI @F_sz_59 (@F_sz_9))))))))))
theorem c_label (l : List (Nd × Bool)) (hl : l.length ≤ 4194304) (n : Nat) (hn : n ≤ l.length) (s : ByteArray) : PC Tryz.prog 114 [.sl (l.map plV) .ro, (.im (.int .i64 ((n : Int)))), .im (.string s)] (.im (.bool ((labs (l.take n)).any fun x => eqS x s))) := by
  refine PC.enter 30 Tryz.func114 rfl (by decide) rfl rfl (s := [(0, .sl (l.map plV) .ro), (1, (.im (.int .i64 ((n : Int))))), (2, .im (.string s))]) (by rfl) ?_
  refine wG Y114_D4 True.intro ?_
  refine AWp.loop ?_
  refine ALp.cutP 0 [(0, .sl (l.map plV) .ro), (1, (.im (.int .i64 ((n : Int))))), (2, .im (.string s)), (7, (.im (.int .i64 ((((0 : Nat)) : Int)))))] [] (AI ndV_id (AI ndLs_id (AI nlVs_id (AI nlV_id (AI plV_id (AI plVs_id @exL_id)))))) ?_
  refine ALp.upto n (fun m => ((labs (l.take m)).any fun x => eqS x s) = false) (fun m => ⟨dn 30 [(0, .sl (l.map plV) .ro), (1, (.im (.int .i64 ((n : Int))))), (2, .im (.string s)), (7, (.im (.int .i64 ((((m : Nat)) : Int)))))], ofl []⟩) ?_ 0 (Nat.zero_le _) rfl
  intro m hm hI hnext
  by_cases hlt : m < n
  case neg =>
    obtain rfl : m = n := by omega
    clear hnext
    rw [hI]
    refine wG Y114_D4 @Int.lt_irrefl ?_
    exact Fin.oneP
  have hlt' : (m : Int) < (n : Int) := by omega
  have hm1 := wrap_succ hlt (by omega)
  have hlm : m < l.length := by omega
  have hg := get_some hlm
  have hst := labs_step hlm
  by_cases k13 : l[m].1.kind = 13
  case neg =>
    rw [if_neg (by simp [k13])] at hst
    refine wG Y114_D4 (AI hlt' (AI hg (AI k13 (AI hm1 PL)))) ?_
    refine ALp.cutP 0 [(0, .sl (l.map plV) .ro), (1, (.im (.int .i64 ((n : Int))))), (2, .im (.string s)), (7, (.im (.int .i64 ((((m + 1 : Nat)) : Int)))))] [] (AI ndV_id (AI ndLs_id (AI nlVs_id (AI nlV_id (AI plV_id (AI plVs_id @exL_id)))))) ?_
    exact hnext (m + 1) (by omega) (by omega) (by rw [hst]; exact hI)
  rw [if_pos (by simp [k13])] at hst
  cases b : eqS l[m].1.name s with
  | true =>
    have b' : (l[m].1.name.toList == s.toList) = true := b
    have hy : ((labs (l.take n)).any fun x => eqS x s) = true := by
      refine List.any_eq_true.2 ⟨l[m].1.name, ?_, b⟩
      unfold labs
      refine List.mem_flatMap.2 ⟨l[m], by rw [List.mem_take_iff_getElem]; exact ⟨m, by omega, rfl⟩, ?_⟩
      simp [k13]
    rw [hy]
    refine wG Y114_D4 (AI hlt' (AI hg (AI k13 (AI b' PL)))) ?_
    exact Fin.oneP
  | false =>
    have b' : (l[m].1.name.toList == s.toList) = false := b
    refine wG Y114_D4 (AI hlt' (AI hg (AI k13 (AI b' (AI hm1 PL))))) ?_
    refine ALp.cutP 0 [(0, .sl (l.map plV) .ro), (1, (.im (.int .i64 ((n : Int))))), (2, .im (.string s)), (7, (.im (.int .i64 ((((m + 1 : Nat)) : Int)))))] [] (AI ndV_id (AI ndLs_id (AI nlVs_id (AI nlV_id (AI plV_id (AI plVs_id @exL_id)))))) ?_
    exact hnext (m + 1) (by omega) (by omega) (by rw [hst, List.any_append, hI]; simp [b])
end Go.Proofs.YtfggemopnlffeaaGreat
