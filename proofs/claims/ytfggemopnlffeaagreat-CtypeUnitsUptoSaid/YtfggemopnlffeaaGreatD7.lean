import Derived.Test.YtfggemopnlffeaaGreatHv
import Derived.Test.YtfggemopnlffeaaGreatD6
import Derived.Test.YtfggemopnlffeaaGreatJN
namespace Go.Proofs.YtfggemopnlffeaaGreat
set_option linter.unusedSimpArgs false
set_option linter.unusedVariables false
set_option linter.unnecessarySimpa false
open Go.RowKit
def preL (l : List Nd) : List Nd := (flaL l false).map Prod.fst
def preT (t : Nd) : List Nd := t :: (preL t.l ++ (t.el :: t.cs).flatMap preL)
theorem preT_eq (t : Nd) : (flaT t false).map Prod.fst = preT t := by
  rw [flaT_eq, List.map_cons, List.map_append, List.map_flatMap]
  unfold preT preL
  rw [flaL_fst t.l (inL t false) false, ← flaL_fst t.l false false]
theorem preL_eq (l : List Nd) : preL l = l.flatMap preT := by
  unfold preL
  rw [show flaL l false = l.flatMap fun t => flaT t false from rfl, List.map_flatMap]
  exact flatMap_cg fun t _ => preT_eq t
theorem preL_len (l : List Nd) : (preL l).length = cnt l := by unfold preL; rw [List.length_map, flaL_len]
theorem preL_all (l : List Nd) (lp : Bool) : preL l = (allL l lp).map Prod.fst := flaL_fst l false lp
theorem ndLs_all (l : List Nd) : allZ 7 (l.map ndV) = true := by
  unfold allZ
  rw [List.all_map]
  exact List.all_eq_true.2 fun x _ => by simp only [Function.comp, ndV_live, ndV_size]; rfl
theorem Y21_D7 : type_of% (AI @F_ag_35 (AI @F_ag_57 (AI @F_ag_59 (AI @F_al_59 (AI @F_by_59 (AI @F_el_35 (AI @F_el_57 (AI @F_fl_59_4 (AI @F_fl_59_5 (AI @F_fl_59_6 (AI @F_sz_35 (AI @F_sz_57 (@F_sz_59))))))))))))) := AI @F_ag_35 (AI @F_ag_57 (AI @F_ag_59 (AI @F_al_59 (AI @F_by_59 (AI @F_el_35 (AI @F_el_57 (AI @F_fl_59_4 (AI @F_fl_59_5 (AI @F_fl_59_6 (AI @F_sz_35 (AI @F_sz_57 (@F_sz_59))))))))))))
set_option maxHeartbeats 2000000 in
theorem c_statements : ∀ l : List Nd, fitNL l → cnt l ≤ 4194304 → PC Tryz.prog 21 [.sl (l.map ndV) .ro] (.sl ((preL l).map ndV) .ro) := by
  refine subs_induct fun l hl hf hc => ?_
  have hl1 := hf.1
  have hlen := preL_len l
  rw [preL_eq] at hlen ⊢
  refine PC.enter 57 Tryz.func21 rfl (by decide) rfl rfl (s := [(0, .sl (l.map ndV) .ro)]) (by rfl) ?_
  refine wG Y21_D7 True.intro ?_
  refine AWp.loop ?_
  refine ALp.ghost 3 [] .nl 59 7 ?_
  refine ALp.cutP 1 [(0, .sl (l.map ndV) .ro), (3, .sl (((l.take (0)).flatMap preT).map ndV) (.own 0)), (4, (.im (.int .i64 ((((0 : Nat)) : Int)))))] [.tip 59 7 ((l.take (0)).flatMap preT).length] (AI ndV_id (AI ndLs_id (AI nlVs_id (AI nlV_id (AI plV_id (AI plVs_id @exL_id)))))) ?_
  refine ALp.upto l.length (fun _ => True) (fun m => ⟨dn 57 [(0, .sl (l.map ndV) .ro), (3, .sl (((l.take (m)).flatMap preT).map ndV) (.own 0)), (4, (.im (.int .i64 ((((m : Nat)) : Int)))))], ofl [.tip 59 7 ((l.take (m)).flatMap preT).length]⟩) ?_ 0 (Nat.zero_le _) trivial
  intro m hm _ hnext
  by_cases hlt : m < l.length
  case neg =>
    obtain rfl : m = l.length := by omega
    clear hnext
    rw [List.take_length]
    refine wG Y21_D7 (AI (@Int.lt_irrefl) @List.length_map.{0, 0}) ?_
    refine Fin.gen0 (rs := [.tmp 2]) rfl (by first | exact .inl rfl | exact .inr rfl) (by simp only [resX, resA, ↓accU_f, ↓reduceIte, SA, SB, SC, SD, Y21_D7, valG, fpsG, evO, evB, evA, evA1, nilK, eqF, eqC, apOk, intOf, slB, slK,  gd, St.ev, putA, ofl, wrl, putE, V.ofVal, V.ofCell, bin2, un1, seg, fillV, partsOk, Value.oneCell', Nat.reduceBEq, Nat.reduceLT, Nat.reduceSub, Nat.reduceAdd, Nat.reduceMul, Nat.reduceLeDiff, Nat.reduceEqDiff, reduceCtorEq, Int.reduceLT, Int.reduceLE, Int.reduceEq, Int.reduceNe, Int.reduceBEq, Int.reduceBNe, Int.reduceAdd, Int.reduceSub, Int.reduceMul, Int.reduceToNat]; with_reducible exact rfl) ?_
    repeat (first | exact WkF.of (Wk.refl _) (by first | rfl | simp only [List.length_cons, List.length_nil, Nat.reduceAdd, V.ids, V.idsL, idsA, entOk, List.all_cons, List.all_nil, Bool.and_self, Bool.and_true, Bool.true_and, ltB, noId, Nat.reduceLT, decide_true, Bool.true_eq_false, tyV_id, fdV_id, tyL_id, fdL_id, ndV_id, ndLs_id, nlVs_id, nlV_id, plV_id, plVs_id, exL_id]) | exact WkF.of (Wk.ro _ _) (by first | rfl | simp only [List.length_cons, List.length_nil, Nat.reduceAdd, V.ids, V.idsL, idsA, entOk, List.all_cons, List.all_nil, Bool.and_self, Bool.and_true, Bool.true_and, ltB, noId, Nat.reduceLT, decide_true, Bool.true_eq_false, tyV_id, fdV_id, tyL_id, fdL_id, ndV_id, ndLs_id, nlVs_id, nlV_id, plV_id, plVs_id, exL_id]) | refine WkF.tu ?_ | refine WkF.ag ?_ | refine WkFL.cons ?_ ?_ | exact WkFL.nil)
  have hlt' : (m : Int) < (l.length : Int) := by omega
  have hm1 := wrap_succ hlt (by omega)
  have hg := get_some hlt
  have ht := hf.2 _ (List.getElem_mem hlt)
  obtain ⟨_, hs2⟩ := fit_subs ht
  have hcl := (fitN_inv ht).2.2.2.2.2.1
  have hcs : ∀ c ∈ subs l[m], 1 + cnt c ≤ cnt l := fun c hc => cnt_sub (List.getElem_mem hlt) hc
  have hR := fun c hc' => hl l[m] (List.getElem_mem hlt) c hc' (hs2 c hc') (by have := hcs c hc'; omega)
  have q1 := hR l[m].l (by simp [subs])
  have q2 := hR l[m].el (by simp [subs])
  have q3 := fun c (hc : c ∈ l[m].cs) => hR c (by simp [subs, hc])
  have hsn := flatMap_snoc preT hlt
  have hle := flatMap_le preT l (m + 1)
  rw [show preT l[m] = l[m] :: (preL l[m].l ++ (l[m].el :: l[m].cs).flatMap preL) from rfl] at hsn
  generalize hA : (l.take m).flatMap preT = A at hsn ⊢
  obtain ⟨B0, hB0⟩ : ∃ B0, B0 = A ++ [l[m]] := ⟨_, rfl⟩
  obtain ⟨B1, hB1⟩ : ∃ B1, B1 = B0 ++ preL l[m].l := ⟨_, rfl⟩
  obtain ⟨Bf, hBf⟩ : ∃ Bf : Nat → List Nd, ∀ j, Bf j = B1 ++ preL l[m].el ++ (l[m].cs.take j).flatMap preL := ⟨_, fun _ => rfl⟩
  have hend : Bf l[m].cs.length = (l.take (m + 1)).flatMap preT := by
    rw [hBf, List.take_length, ← hsn, hB1, hB0]
    simp only [List.flatMap_cons, List.append_assoc, List.cons_append, List.nil_append]
  have hstep : ∀ j (hj : j < l[m].cs.length), Bf j ++ preL l[m].cs[j] = Bf (j + 1) := fun j hj => by
    rw [hBf, hBf, ← flatMap_snoc _ hj, List.append_assoc]
  have hlen2 : ∀ j, (Bf j).length ≤ (Bf l[m].cs.length).length := fun j => by
    rw [hBf, hBf, List.length_append, List.length_append (bs := (l[m].cs.take l[m].cs.length).flatMap preL), List.take_length]
    have := flatMap_le preL l[m].cs j
    omega
  have hz0 : Bf 0 = B1 ++ preL l[m].el := by rw [hBf]; simp
  have p0 : A.map ndV ++ [ndV l[m]] = B0.map ndV := by rw [hB0]; simp
  have p0' := p0
  rw [ndV_eq l[m]] at p0'
  have p1 : B0.map ndV ++ (preL l[m].l).map ndV = B1.map ndV := by rw [hB1, List.map_append]
  have p2 : B1.map ndV ++ (preL l[m].el).map ndV = (Bf 0).map ndV := by rw [hz0, List.map_append]
  have n0 : A.length + 1 = B0.length := by rw [hB0]; simp
  have n1 : B0.length + (preL l[m].l).length = B1.length := by rw [hB1, List.length_append]
  have n2 : B1.length + (preL l[m].el).length = (Bf 0).length := by rw [hz0, List.length_append]
  rw [hend] at hlen2
  have b2 : (Bf 0).length * 128 ≤ 140737488355328 := by have := hlen2 0; omega
  have b1 : B1.length * 128 ≤ 140737488355328 := by have := hlen2 0; omega
  have b0 : B0.length * 128 ≤ 140737488355328 := by have := hlen2 0; omega
  clear hsn hA hB0 hB1 hR hs2
  refine wG Y21_D7 (AI hlt' (AI hg (AI b0 (AI p0 (AI p0' (AI n0 (AI (@List.length_map.{0, 0}) ND))))))) ?_
  refine AR.callP q1 True.intro (AI ndV_id (AI ndLs_id (AI nlVs_id (AI nlV_id (AI plV_id (AI plVs_id @exL_id)))))) ?_
  refine goG Y21_D7 (AI p1 (AI n1 (AI b1 (AI ndLs_all @List.length_map.{0, 0})))) ?_
  refine wG Y21_D7 (AI hlt' (AI hg ND)) ?_
  refine AR.callP q2 True.intro (AI ndV_id (AI ndLs_id (AI nlVs_id (AI nlV_id (AI plV_id (AI plVs_id @exL_id)))))) ?_
  refine goG Y21_D7 (AI p2 (AI n2 (AI b2 (AI ndLs_all @List.length_map.{0, 0})))) ?_
  refine wG Y21_D7 True.intro ?_
  refine AWp.loop ?_
  refine ALp.cutP 1 [(0, .sl (l.map ndV) .ro), (3, .sl ((Bf (0)).map ndV) (.own 0)), (4, (.im (.int .i64 ((m : Int))))), (5, (.im (.int .i64 ((((0 : Nat)) : Int)))))] [.tip 59 7 (Bf (0)).length] (AI ndV_id (AI ndLs_id (AI nlVs_id (AI nlV_id (AI plV_id (AI plVs_id @exL_id)))))) ?_
  refine ALp.upto l[m].cs.length (fun _ => True) (fun j => ⟨dn 57 [(0, .sl (l.map ndV) .ro), (3, .sl ((Bf (j)).map ndV) (.own 0)), (4, (.im (.int .i64 ((m : Int))))), (5, (.im (.int .i64 ((((j : Nat)) : Int)))))], ofl [.tip 59 7 (Bf (j)).length]⟩) ?_ 0 (Nat.zero_le _) trivial
  intro j hj _ hnext2
  by_cases hlu : j < l[m].cs.length
  case neg =>
    obtain rfl : j = l[m].cs.length := by omega
    clear hnext2
    rw [hend]
    refine whG Y21_D7 (AI hlt' (AI hg (AI (@Int.lt_irrefl) (AI (@List.length_map.{0, 0}) ND)))) ?_
    refine Blk'.here (Thn.n ?_)
    refine wG Y21_D7 hm1 ?_
    refine ALp.cutP 1 [(0, .sl (l.map ndV) .ro), (3, .sl (((l.take (m + 1)).flatMap preT).map ndV) (.own 0)), (4, (.im (.int .i64 ((((m + 1 : Nat)) : Int)))))] [.tip 59 7 ((l.take (m + 1)).flatMap preT).length] (AI ndV_id (AI ndLs_id (AI nlVs_id (AI nlV_id (AI plV_id (AI plVs_id @exL_id)))))) ?_
    exact hnext (m + 1) (by omega) (by omega) trivial
  have hlu' : (j : Int) < (l[m].cs.length : Int) := by omega
  have hj1 := wrap_succ hlu (by omega)
  have hg2 := get_some hlu
  have hc2 := q3 l[m].cs[j] (List.getElem_mem hlu)
  have hs3 := congrArg (List.map ndV) (hstep j hlu)
  rw [List.map_append] at hs3
  have hs4 := congrArg List.length (hstep j hlu)
  rw [List.length_append] at hs4
  have hb1 : (Bf (j + 1)).length * 128 ≤ 140737488355328 := by have := hlen2 (j + 1); omega
  refine wG Y21_D7 (AI hlt' (AI hg (AI hlu' (AI hg2 (AI (@List.length_map.{0, 0}) ND))))) ?_
  refine AR.callP hc2 nlV_eq (AI ndV_id (AI ndLs_id (AI nlVs_id (AI nlV_id (AI plV_id (AI plVs_id @exL_id)))))) ?_
  refine goG Y21_D7 (AI hs3 (AI hs4 (AI hb1 (AI ndLs_all @List.length_map.{0, 0})))) ?_
  refine wG Y21_D7 hj1 ?_
  refine ALp.cutP 1 [(0, .sl (l.map ndV) .ro), (3, .sl ((Bf (j + 1)).map ndV) (.own 0)), (4, (.im (.int .i64 ((m : Int))))), (5, (.im (.int .i64 ((((j + 1 : Nat)) : Int)))))] [.tip 59 7 (Bf (j + 1)).length] (AI ndV_id (AI ndLs_id (AI nlVs_id (AI nlV_id (AI plV_id (AI plVs_id @exL_id)))))) ?_
  exact hnext2 (j + 1) (by omega) (by omega) trivial
theorem Y22_D7 : type_of% (AI @F_ag_3 (AI @F_ag_41 (AI @F_ag_46 (AI @F_ag_48 (AI @F_ag_9 (AI @F_al_41 (AI @F_el_46 (AI @F_fl_59_0 (AI @F_fl_59_1 (AI @F_fl_59_2 (AI @F_fl_59_3 (AI @F_sz_3 (AI @F_sz_41 (AI @F_sz_46 (AI @F_sz_48 (@F_sz_9)))))))))))))))) := AI @F_ag_3 (AI @F_ag_41 (AI @F_ag_46 (AI @F_ag_48 (AI @F_ag_9 (AI @F_al_41 (AI @F_el_46 (AI @F_fl_59_0 (AI @F_fl_59_1 (AI @F_fl_59_2 (AI @F_fl_59_3 (AI @F_sz_3 (AI @F_sz_41 (AI @F_sz_46 (AI @F_sz_48 (@F_sz_9)))))))))))))))
set_option maxHeartbeats 2000000 in
theorem c_wrong (vs : List Va) (hv : fitV vs) (s : Nd) (hf : fitN s) (hs : stT s = true) : PC Tryz.prog 22 [ndV s, (V.sl (vs.map vaV) .ro)] (.im (.bool (!stmE vs s))) := by
  obtain ⟨hI, hsz, ⟨he1, he2⟩, h4, h5, h6, h7⟩ := fitN_inv hf
  have hfm := stT_efm hs
  have hln := stT_len hs
  refine PC.enter 78 Tryz.func22 rfl (by decide) rfl rfl (s := [(0, ndV s), (1, (V.sl (vs.map vaV) .ro))]) (by rfl) ?_
  rw [ndV_eq s]
  refine wG Y22_D7 True.intro ?_
  refine AWp.loop ?_
  refine ALp.cutP 1 [(1, (V.sl (vs.map vaV) .ro)), (2, .pt 0 0), (5, (.im (.int .i64 ((((0 : Nat)) : Int)))))] [.box [.im (.int .i64 (s).kind), .im (.int .i64 (s).width), .im (.string (s).name), .sl ((s).e.map exV) .ro, .sl ((s).l.map ndV) .ro, .sl ((s).el.map ndV) .ro, .sl ((s).cs.map nlV) .ro]] (AI (@exL_id) (AI (@vaL_id) (AI (@exV_id) (AI (@vaV_id) (AI ndLs_id (AI nlVs_id ndV_id)))))) ?_
  refine ALp.upto s.e.length (AllTo (acs vs) s.e) (fun m => ⟨dn 78 [(1, (V.sl (vs.map vaV) .ro)), (2, .pt 0 0), (5, (.im (.int .i64 ((((m : Nat)) : Int)))))], ofl [.box [.im (.int .i64 (s).kind), .im (.int .i64 (s).width), .im (.string (s).name), .sl ((s).e.map exV) .ro, .sl ((s).l.map ndV) .ro, .sl ((s).el.map ndV) .ro, .sl ((s).cs.map nlV) .ro]]⟩) ?_ 0 (Nat.zero_le _) (AllTo.zero _ _)
  intro m hm hI hnext
  by_cases hlt : m < s.e.length
  · have hlt' : (m : Int) < (s.e.length : Int) := by omega
    have hm1 := wrap_succ hlt (by omega)
    have hg := get_some hlt
    have hc := c_accessesR vs hv s.e[m] (he2 _ (List.getElem_mem hlt)) (hfm _ (List.getElem_mem hlt))
    cases b : acs vs s.e[m] with
    | false =>
      rw [b] at hc
      have hr : stmE vs s = false := by unfold stmE; rw [not_all_of hlt b, Bool.false_and]
      rw [hr]
      refine wG Y22_D7 (AI hlt' (AI hg (AI (@List.length_map.{0, 0}) EX))) ?_
      refine AR.callP hc @exV_eq (AI (@exL_id) (AI (@vaL_id) (AI (@exV_id) (AI (@vaV_id) (AI ndLs_id (AI nlVs_id ndV_id)))))) ?_
      refine goG Y22_D7 True.intro ?_
      refine wG Y22_D7 True.intro ?_
      simp only [Bool.not_false]
      exact Fin.oneP
    | true =>
      rw [b] at hc
      refine wG Y22_D7 (AI hlt' (AI hg (AI (@List.length_map.{0, 0}) EX))) ?_
      refine AR.callP hc @exV_eq (AI (@exL_id) (AI (@vaL_id) (AI (@exV_id) (AI (@vaV_id) (AI ndLs_id (AI nlVs_id ndV_id)))))) ?_
      refine goG Y22_D7 True.intro ?_
      refine wG Y22_D7 hm1 ?_
      refine ALp.cutP 1 [(1, (V.sl (vs.map vaV) .ro)), (2, .pt 0 0), (5, (.im (.int .i64 ((((m + 1 : Nat)) : Int)))))] [.box [.im (.int .i64 (s).kind), .im (.int .i64 (s).width), .im (.string (s).name), .sl ((s).e.map exV) .ro, .sl ((s).l.map ndV) .ro, .sl ((s).el.map ndV) .ro, .sl ((s).cs.map nlV) .ro]] (AI (@exL_id) (AI (@vaL_id) (AI (@exV_id) (AI (@vaV_id) (AI ndLs_id (AI nlVs_id ndV_id)))))) ?_
      exact hnext (m + 1) (by omega) (by omega) (hI.succ hlt b)
  obtain rfl : m = s.e.length := by omega
  clear hnext
  have hall : s.e.all (acs vs) = true := List.all_eq_true.2 fun x hx => by
    obtain ⟨j, hj, rfl⟩ := List.getElem_of_mem hx
    exact hI j hj hj
  unfold stmE
  rw [hall, Bool.true_and]
  by_cases k1 : s.kind = 1
  · rw [if_pos (by simp [k1])]
    rw [k1] at hln
    obtain ⟨x, hx⟩ : ∃ x, s.e = [x] := List.length_eq_one_iff.1 (by have : nE 1 = 1 := rfl; omega)
    rw [hx] at hfm ⊢
    have q1 := c_typeOfR vs hv.1 s.name
    have q2 := c_kindR vs hv x (hfm x (by simp))
    have q3 := c_AssignableR (tyOf vs s.name) (typ vs x) (fit_tyOf hv _) (fit_typ hv x)
    simp only [List.headD_cons, List.map_cons, List.map_nil, List.length_cons, List.length_nil]
    refine wdG Y22_D7 (AI (@Int.lt_irrefl) (AI k1 EX)) ?_
    refine AR.callP q1 True.intro (AI (@exL_id) (AI (@vaL_id) (AI (@exV_id) (AI (@vaV_id) (AI ndLs_id (AI nlVs_id ndV_id)))))) ?_
    refine goG Y22_D7 (AI TY EX) ?_
    refine AR.callP q2 @exV_eq (AI (@exL_id) (AI (@vaL_id) (AI (@exV_id) (AI (@vaV_id) (AI ndLs_id (AI nlVs_id ndV_id)))))) ?_
    refine goG Y22_D7 (AI TY EX) ?_
    refine AR.callP q3 True.intro (AI (@exL_id) (AI (@vaL_id) (AI (@exV_id) (AI (@vaV_id) (AI ndLs_id (AI nlVs_id ndV_id)))))) ?_
    refine goG Y22_D7 True.intro ?_
    refine wdG Y22_D7 True.intro ?_
    exact Fin.oneP
  rw [if_neg (by simp [k1])]
  by_cases k2 : s.kind = 2
  case neg =>
    rw [if_neg (by simp [k2])]
    refine wG Y22_D7 (AI (@Int.lt_irrefl) (AI k1 (AI k2 @List.length_map.{0, 0}))) ?_
    simp only [Bool.not_true]
    exact Fin.oneP
  rw [if_pos (by simp [k2])]
  rw [k2] at hln
  obtain ⟨x, y, hx⟩ : ∃ x y, s.e = [x, y] := by
    have h2 : s.e.length = 2 := by have : nE 2 = 2 := rfl; omega
    match s.e, h2 with
    | [x, y], _ => exact ⟨x, y, rfl⟩
  rw [hx] at hfm ⊢
  have q1 := c_permittedR vs hv x (hfm x (by simp)) s.width
  have q2 := c_foundR vs hv x (hfm x (by simp)) s.width
  have q3 := c_kindR vs hv y (hfm y (by simp))
  simp only [List.headD_cons, List.tail_cons, List.map_cons, List.map_nil, List.length_cons, List.length_nil]
  cases b1 : prm vs x s.width with
  | false =>
    rw [b1] at q1
    simp only [Bool.false_and, Bool.not_false]
    refine wdG Y22_D7 (AI (@Int.lt_irrefl) (AI k1 (AI k2 EX))) ?_
    refine AR.callP q1 @exV_eq (AI (@exL_id) (AI (@vaL_id) (AI (@exV_id) (AI (@vaV_id) (AI ndLs_id (AI nlVs_id ndV_id)))))) ?_
    refine goG Y22_D7 True.intro ?_
    refine wdG Y22_D7 True.intro ?_
    exact Fin.oneP
  | true =>
  rw [b1] at q1
  simp only [Bool.true_and]
  refine wdG Y22_D7 (AI (@Int.lt_irrefl) (AI k1 (AI k2 EX))) ?_
  refine AR.callP q1 @exV_eq (AI (@exL_id) (AI (@vaL_id) (AI (@exV_id) (AI (@vaV_id) (AI ndLs_id (AI nlVs_id ndV_id)))))) ?_
  refine goG Y22_D7 True.intro ?_
  refine wdG Y22_D7 EX ?_
  refine AR.callP q2 @exV_eq (AI (@exL_id) (AI (@vaL_id) (AI (@exV_id) (AI (@vaV_id) (AI ndLs_id (AI nlVs_id ndV_id)))))) ?_
  by_cases w4 : s.width = 4
  case neg =>
    generalize (fnd vs x s.width).2 = fb
    generalize (fnd vs x s.width).1 = ft
    rw [tyV_eq ft]
    refine goG Y22_D7 (AI TY EX) ?_
    refine wdG Y22_D7 (AI w4 (AI TY EX)) ?_
    have e : (s.width == 4) = false := by simp [w4]
    simp only [e, Bool.and_false, Bool.not_false, Bool.true_or, Bool.not_true]
    exact Fin.oneP
  rw [w4]
  have q4 := c_AssignableR (fnd vs x 4).1 (typ vs y) (fit_fnd hv x 4) (fit_typ hv y)
  generalize (fnd vs x 4).2 = fb at q2 ⊢
  generalize asgT (fnd vs x 4).1 (typ vs y) = ab at q4 ⊢
  generalize (fnd vs x 4).1 = ft at q2 q4 ⊢
  rw [tyV_eq ft]
  refine goG Y22_D7 (AI TY EX) ?_
  cases fb with
  | false =>
    refine wdG Y22_D7 (AI w4 (AI TY EX)) ?_
    simp only [Bool.false_and, Bool.not_false, Bool.true_or, Bool.not_true]
    exact Fin.oneP
  | true =>
    refine wdG Y22_D7 (AI w4 (AI TY EX)) ?_
    refine AR.callP q3 @exV_eq (AI (@exL_id) (AI (@vaL_id) (AI (@exV_id) (AI (@vaV_id) (AI ndLs_id (AI nlVs_id ndV_id)))))) ?_
    refine goG Y22_D7 (AI TY EX) ?_
    refine AR.callP q4 @tyV_eq (AI (@exL_id) (AI (@vaL_id) (AI (@exV_id) (AI (@vaV_id) (AI ndLs_id (AI nlVs_id ndV_id)))))) ?_
    refine goG Y22_D7 True.intro ?_
    refine wdG Y22_D7 True.intro ?_
    simp only [show ((4 : Int) == 4) = true from rfl, Bool.and_self, Bool.not_true, Bool.false_or]
    exact Fin.oneP
end Go.Proofs.YtfggemopnlffeaaGreat
