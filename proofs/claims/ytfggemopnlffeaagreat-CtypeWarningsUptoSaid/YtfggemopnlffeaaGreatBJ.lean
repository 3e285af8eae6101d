import Derived.Test.YtfggemopnlffeaaGreatHv
import Derived.Test.YtfggemopnlffeaaGreatJF
import Derived.Test.YtfggemopnlffeaaGreatBI
namespace Go.Proofs.YtfggemopnlffeaaGreat
set_option linter.unusedSimpArgs false
set_option linter.unusedVariables false
set_option linter.unnecessarySimpa false
open Go.RowKit
theorem not_any_of {α : Type} {l : List α} {p : α → Bool} (h : AllTo (fun x => !p x) l l.length) : l.any p = false := by
  rw [List.any_eq_false]
  intro x hx
  obtain ⟨j, hj, rfl⟩ := List.getElem_of_mem hx
  simpa using h j hj hj
theorem Y72_BJ : type_of% (AI @F_ag_9 (AI @F_el_22 (AI @F_fl_44_0 (AI @F_sz_44 (@F_sz_9))))) := AI @F_ag_9 (AI @F_el_22 (AI @F_fl_44_0 (AI @F_sz_44 (@F_sz_9))))
theorem G72_BJ : type_of% (AI (@exV_firm) (AI (@exV_strip) (AI (@exV_live) (AI (@exV_size) (AI (@exV_isAg) (AI (@exV_cells) (AI (@vaV_firm) (AI (@vaV_strip) (AI (@vaV_live) (AI (@vaV_size) (AI (@vaV_isAg) (AI (@vaV_cells) (AI (@List.getElem?_map.{0, 0}) @Int.natCast_nonneg))))))))))))) := (AI (@exV_firm) (AI (@exV_strip) (AI (@exV_live) (AI (@exV_size) (AI (@exV_isAg) (AI (@exV_cells) (AI (@vaV_firm) (AI (@vaV_strip) (AI (@vaV_live) (AI (@vaV_size) (AI (@vaV_isAg) (AI (@vaV_cells) (AI (@List.getElem?_map.{0, 0}) @Int.natCast_nonneg)))))))))))))
theorem c_hasR (vs : List Va) (hv : vs.length ≤ 4194304) (s : ByteArray) : PC Tryz.prog 72 [(V.sl (vs.map vaV) .ro), .im (.string s)] (.im (.bool (has vs s))) := by
  refine PC.enter 19 Tryz.func72 rfl (by decide) rfl rfl (s := [(0, (V.sl (vs.map vaV) .ro)), (1, .im (.string s))]) (by rfl) ?_
  unfold has
  refine wG Y72_BJ @G72_BJ ?_
  refine AWp.loop ?_
  refine ALp.cutP 0 [(0, (V.sl (vs.map vaV) .ro)), (1, .im (.string s)), (5, (.im (.int .i64 ((((0 : Nat)) : Int)))))] [] (AI (@exL_id) (AI (@vaL_id) (AI (@exV_id) @vaV_id))) ?_
  refine ALp.upto vs.length (AllTo (fun x => !eqS x.name s) vs) (fun m => ⟨dn 19 [(0, (V.sl (vs.map vaV) .ro)), (1, .im (.string s)), (5, (.im (.int .i64 ((((m : Nat)) : Int)))))], ofl []⟩) ?_ 0 (Nat.zero_le _) (AllTo.zero _ _)
  intro m hm hI hnext
  by_cases hlt : m < vs.length
  · have hlt' : (m : Int) < (vs.length : Int) := by omega
    have hg := get_some hlt
    have hm1 := wrap_succ hlt (by omega)
    cases b : eqS vs[m].name s with
    | true =>
      have b' : (vs[m].name.toList == s.toList) = true := b
      have hr : (vs.any fun v => eqS v.name s) = true := List.any_eq_true.2 ⟨_, List.getElem_mem hlt, b⟩
      rw [hr]
      refine wG Y72_BJ (AI (@G72_BJ) (AI hlt' (AI hg (AI hm1 b')))) ?_
      exact Fin.oneP
    | false =>
      have b' : (vs[m].name.toList == s.toList) = false := b
      refine wG Y72_BJ (AI (@G72_BJ) (AI hlt' (AI hg (AI hm1 b')))) ?_
      refine ALp.cutP 0 [(0, (V.sl (vs.map vaV) .ro)), (1, .im (.string s)), (5, (.im (.int .i64 ((((m + 1 : Nat)) : Int)))))] [] (AI (@exL_id) (AI (@vaL_id) (AI (@exV_id) @vaV_id))) ?_
      exact hnext (m + 1) (by omega) (by omega) (hI.succ hlt (by rw [b]; rfl))
  · obtain rfl : m = vs.length := by omega
    have hlt' : ¬ (vs.length : Int) < (vs.length : Int) := by omega
    clear hnext
    rw [not_any_of hI]
    refine wG Y72_BJ (AI (@G72_BJ) hlt') ?_
    exact Fin.oneP
theorem Y113_BJ : type_of% (AI @F_ag_3 (AI @F_ag_46 (AI @F_ag_48 (AI @F_ag_9 (AI @F_el_46 (AI @F_fl_48_0 (AI @F_fl_48_2 (AI @F_fl_48_4 (AI @F_sz_3 (AI @F_sz_46 (AI @F_sz_48 (@F_sz_9)))))))))))) := AI @F_ag_3 (AI @F_ag_46 (AI @F_ag_48 (AI @F_ag_9 (AI @F_el_46 (AI @F_fl_48_0 (AI @F_fl_48_2 (AI @F_fl_48_4 (AI @F_sz_3 (AI @F_sz_46 (AI @F_sz_48 (@F_sz_9)))))))))))
theorem G113_BJ : type_of% (AI (@exV_firm) (AI (@exV_strip) (AI (@exV_live) (AI (@exV_size) (AI (@exV_isAg) (AI (@exV_cells) (AI (@vaV_firm) (AI (@vaV_strip) (AI (@vaV_live) (AI (@vaV_size) (AI (@vaV_isAg) (AI (@vaV_cells) (AI (@List.getElem?_map.{0, 0}) @Int.natCast_nonneg))))))))))))) := (AI (@exV_firm) (AI (@exV_strip) (AI (@exV_live) (AI (@exV_size) (AI (@exV_isAg) (AI (@exV_cells) (AI (@vaV_firm) (AI (@vaV_strip) (AI (@vaV_live) (AI (@vaV_size) (AI (@vaV_isAg) (AI (@vaV_cells) (AI (@List.getElem?_map.{0, 0}) @Int.natCast_nonneg)))))))))))))
theorem c_knownR (vs : List Va) (hv : vs.length ≤ 4194304) : ∀ (t : Ex), fitE t → PC Tryz.prog 113 [exV t, (V.sl (vs.map vaV) .ro)] (.im (.bool (knw vs t))) := by
  refine Ex.induct fun o n s w l hE => ?_
  intro hfit
  obtain ⟨hl1, hfE⟩ := fitE_mk hfit
  have h1 := c_hasR vs hv s
  refine PC.enter 28 Tryz.func113 rfl (by decide) rfl rfl (s := [(0, exV (.mk o n s w l)), (1, (V.sl (vs.map vaV) .ro))]) (by rfl) ?_
  simp only [exV_mk]
  rw [knw_mk]
  by_cases ho : o = 2
  · have e : (o == 2) = true := by simp [ho]
    rw [e, if_pos rfl]
    refine wG Y113_BJ (AI (@G113_BJ) ho) ?_
    refine AR.callP h1 True.intro (AI (@exL_id) (AI (@vaL_id) (AI (@exV_id) @vaV_id))) ?_
    refine goG Y113_BJ @G113_BJ ?_
    refine wG Y113_BJ @G113_BJ ?_
    exact Fin.oneP
  have e : (o == 2) = false := by simp [ho]
  rw [e, if_neg (by decide)]
  refine wG Y113_BJ (AI (@G113_BJ) ho) ?_
  refine AWp.loop ?_
  refine ALp.cutP 1 [(1, (V.sl (vs.map vaV) .ro)), (2, .pt 0 0), (4, .im (.bool false)), (5, (.im (.int .i64 ((((0 : Nat)) : Int)))))] [.box [.im (.int .i64 o), .im (.int .u32 n), .im (.string s), .im (.int .i64 w), .sl (l.map exV) .ro]] (AI (@exL_id) (AI (@vaL_id) (AI (@exV_id) @vaV_id))) ?_
  refine ALp.upto l.length (AllTo (knw vs) l) (fun m => ⟨dn 28 [(1, (V.sl (vs.map vaV) .ro)), (2, .pt 0 0), (4, .im (.bool false)), (5, (.im (.int .i64 ((((m : Nat)) : Int)))))], ofl [.box [.im (.int .i64 o), .im (.int .u32 n), .im (.string s), .im (.int .i64 w), .sl (l.map exV) .ro]]⟩) ?_ 0 (Nat.zero_le _) (AllTo.zero _ _)
  intro m hm hI hnext
  by_cases hlt : m < l.length
  · have hlt' : (m : Int) < (l.length : Int) := by omega
    have hg := get_some hlt
    have hm1 := wrap_succ hlt (by omega)
    have hc := hE l[m] (List.getElem_mem hlt) (hfE _ (List.getElem_mem hlt))
    refine wG Y113_BJ (AI (@G113_BJ) (AI hlt' (AI hg hm1))) ?_
    cases b : knw vs l[m] with
    | true =>
      rw [b] at hc
      refine AR.callP hc @exV_eq (AI (@exL_id) (AI (@vaL_id) (AI (@exV_id) @vaV_id))) ?_
      refine goG Y113_BJ @G113_BJ ?_
      refine wG Y113_BJ (AI (@G113_BJ) hm1) ?_
      refine ALp.cutP 1 [(1, (V.sl (vs.map vaV) .ro)), (2, .pt 0 0), (4, .im (.bool false)), (5, (.im (.int .i64 ((((m + 1 : Nat)) : Int)))))] [.box [.im (.int .i64 o), .im (.int .u32 n), .im (.string s), .im (.int .i64 w), .sl (l.map exV) .ro]] (AI (@exL_id) (AI (@vaL_id) (AI (@exV_id) @vaV_id))) ?_
      exact hnext (m + 1) (by omega) (by omega) (hI.succ hlt b)
    | false =>
      rw [b] at hc
      refine AR.callP hc @exV_eq (AI (@exL_id) (AI (@vaL_id) (AI (@exV_id) @vaV_id))) ?_
      refine goG Y113_BJ @G113_BJ ?_
      refine wG Y113_BJ (AI (@G113_BJ) hm1) ?_
      rw [not_all_of hlt b]
      exact Fin.oneP
  · have hall := hI.done (by omega)
    have hlt' : ¬ (m : Int) < (l.length : Int) := by omega
    clear hnext
    rw [hall]
    refine wG Y113_BJ (AI (@G113_BJ) hlt') ?_
    exact Fin.oneP
theorem Y27_BJ : type_of% (AI @F_ag_48 (@F_sz_48)) := AI @F_ag_48 (@F_sz_48)
theorem c_CheckE (vs : List Va) (hv : vs.length ≤ 4194304) (e : Ex) (he : fitE e) : PC Tryz.prog 27 [exV e, (V.sl (vs.map vaV) .ro)] (.im (.int .i64 (chkE vs e))) := by
  have h1 := c_eshallow e he 64 (by decide)
  have h2 := c_eformed e he
  have h4 := c_among vs
  refine PC.enter 19 Tryz.func27 rfl (by decide) rfl rfl (s := [(0, exV e), (1, (V.sl (vs.map vaV) .ro))]) (by rfl) ?_
  simp only [exV_eq]
  unfold chkE
  cases b1 : esh e 64 with
  | false =>
    rw [b1] at h1
    refine wG Y27_BJ True.intro ?_
    refine AR.callP h1 @exV_eq (AI (@exL_id) (AI (@vaL_id) (AI (@exV_id) @vaV_id))) ?_
    refine goG Y27_BJ True.intro ?_
    refine wG Y27_BJ True.intro ?_
    simp only [Bool.not_false, if_true]
    exact Fin.oneP
  | true =>
  rw [b1] at h1
  refine wG Y27_BJ True.intro ?_
  refine AR.callP h1 @exV_eq (AI (@exL_id) (AI (@vaL_id) (AI (@exV_id) @vaV_id))) ?_
  refine goG Y27_BJ True.intro ?_
  refine wG Y27_BJ True.intro ?_
  cases b2 : efm e with
  | false =>
    rw [b2] at h2
    refine AR.callP h2 @exV_eq (AI (@exL_id) (AI (@vaL_id) (AI (@exV_id) @vaV_id))) ?_
    refine goG Y27_BJ True.intro ?_
    refine wG Y27_BJ True.intro ?_
    simp only [Bool.not_false, Bool.not_true, if_true, if_false, Bool.false_eq_true]
    exact Fin.oneP
  | true =>
  rw [b2] at h2
  refine AR.callP h2 @exV_eq (AI (@exL_id) (AI (@vaL_id) (AI (@exV_id) @vaV_id))) ?_
  refine goG Y27_BJ True.intro ?_
  refine wdG Y27_BJ True.intro ?_
  have h3 := c_known vs hv e he b2
  cases b3 : knw vs e with
  | false =>
    rw [b3] at h3
    refine AR.callS [1] h4 rfl rfl (by first | (simp only [SR, exV_ren, exL_ren, vaV_ren, vaL_ren]; done) | (simp only [SR, exV_ren, exL_ren, vaV_ren, vaL_ren]; with_reducible exact rfl)) (by first | (simp only [SR, exV_ren, exL_ren, vaV_ren, vaL_ren]; done) | (simp only [SR, exV_ren, exL_ren, vaV_ren, vaL_ren]; with_reducible exact rfl)) (WkL.of_eq (by simp only [St.ev, V.ofVal, V.ofCell, V.size_im, getD_dn, look_cons, look_nil, Nat.reduceLT, Nat.reduceEqDiff, reduceIte, if_true, if_false, List.map_cons, List.map_nil, List.nil_append, List.cons_append, List.append_nil])) (by first | rfl | simp only [List.length_cons, List.length_nil, Nat.reduceAdd, V.ids, V.idsL, idsA, entOk, List.all_cons, List.all_nil, Bool.and_self, Bool.and_true, Bool.true_and, ltB, noId, Nat.reduceLT, decide_true, Bool.true_eq_false, tyV_id, fdV_id, tyL_id, fdL_id, exL_id, vaL_id, exV_id, vaV_id]) rfl rfl rfl (by first | rfl | simp only [List.length_cons, List.length_nil, Nat.reduceAdd, V.ids, V.idsL, idsA, entOk, List.all_cons, List.all_nil, Bool.and_self, Bool.and_true, Bool.true_and, ltB, noId, Nat.reduceLT, decide_true, Bool.true_eq_false, tyV_id, fdV_id, tyL_id, fdL_id, exL_id, vaL_id, exV_id, vaV_id]) (by intro p hp; simp only [renE, SR, Ent.ren, List.mem_cons, List.not_mem_nil, or_false, exV_ren, exL_ren, vaV_ren, vaL_ren] at hp; rcases hp with rfl <;> rfl) (by simp only [renE, Ent.ren, SR, exV_ren, exL_ren, vaV_ren, vaL_ren, wrl, putE, SC, SD, Nat.reduceBEq, Nat.reduceLT, Nat.reduceSub, Nat.reduceAdd, Nat.reduceMul, Nat.reduceLeDiff, Nat.reduceEqDiff, reduceCtorEq, Int.reduceLT, Int.reduceLE, Int.reduceEq, Int.reduceNe, Int.reduceBEq, Int.reduceBNe, Int.reduceAdd, Int.reduceSub, Int.reduceMul, Int.reduceToNat]; with_reducible exact rfl) ?_
    refine goG Y27_BJ True.intro ?_
    refine AR.callQP [1] h3 @exV_eq (AI (@exL_id) (AI (@vaL_id) (AI (@exV_id) @vaV_id))) (AI (@exV_ren) (AI (@exL_ren) (AI (@vaV_ren) @vaL_ren))) ?_
    refine goG Y27_BJ True.intro ?_
    refine wdG Y27_BJ True.intro ?_
    simp only [Bool.not_false, Bool.not_true, if_true, if_false, Bool.false_eq_true]
    exact Fin.oneP
  | true =>
    rw [b3] at h3
    refine AR.callS [1] h4 rfl rfl (by first | (simp only [SR, exV_ren, exL_ren, vaV_ren, vaL_ren]; done) | (simp only [SR, exV_ren, exL_ren, vaV_ren, vaL_ren]; with_reducible exact rfl)) (by first | (simp only [SR, exV_ren, exL_ren, vaV_ren, vaL_ren]; done) | (simp only [SR, exV_ren, exL_ren, vaV_ren, vaL_ren]; with_reducible exact rfl)) (WkL.of_eq (by simp only [St.ev, V.ofVal, V.ofCell, V.size_im, getD_dn, look_cons, look_nil, Nat.reduceLT, Nat.reduceEqDiff, reduceIte, if_true, if_false, List.map_cons, List.map_nil, List.nil_append, List.cons_append, List.append_nil])) (by first | rfl | simp only [List.length_cons, List.length_nil, Nat.reduceAdd, V.ids, V.idsL, idsA, entOk, List.all_cons, List.all_nil, Bool.and_self, Bool.and_true, Bool.true_and, ltB, noId, Nat.reduceLT, decide_true, Bool.true_eq_false, tyV_id, fdV_id, tyL_id, fdL_id, exL_id, vaL_id, exV_id, vaV_id]) rfl rfl rfl (by first | rfl | simp only [List.length_cons, List.length_nil, Nat.reduceAdd, V.ids, V.idsL, idsA, entOk, List.all_cons, List.all_nil, Bool.and_self, Bool.and_true, Bool.true_and, ltB, noId, Nat.reduceLT, decide_true, Bool.true_eq_false, tyV_id, fdV_id, tyL_id, fdL_id, exL_id, vaL_id, exV_id, vaV_id]) (by intro p hp; simp only [renE, SR, Ent.ren, List.mem_cons, List.not_mem_nil, or_false, exV_ren, exL_ren, vaV_ren, vaL_ren] at hp; rcases hp with rfl <;> rfl) (by simp only [renE, Ent.ren, SR, exV_ren, exL_ren, vaV_ren, vaL_ren, wrl, putE, SC, SD, Nat.reduceBEq, Nat.reduceLT, Nat.reduceSub, Nat.reduceAdd, Nat.reduceMul, Nat.reduceLeDiff, Nat.reduceEqDiff, reduceCtorEq, Int.reduceLT, Int.reduceLE, Int.reduceEq, Int.reduceNe, Int.reduceBEq, Int.reduceBNe, Int.reduceAdd, Int.reduceSub, Int.reduceMul, Int.reduceToNat]; with_reducible exact rfl) ?_
    refine goG Y27_BJ True.intro ?_
    refine AR.callQP [1] h3 @exV_eq (AI (@exL_id) (AI (@vaL_id) (AI (@exV_id) @vaV_id))) (AI (@exV_ren) (AI (@exL_ren) (AI (@vaV_ren) @vaL_ren))) ?_
    refine goG Y27_BJ True.intro ?_
    refine wdG Y27_BJ True.intro ?_
    simp only [Bool.not_true, if_false, Bool.false_eq_true]
    exact Fin.oneP
end Go.Proofs.YtfggemopnlffeaaGreat
