import Derived.Test.YtfggemopnlffeaaGreatHv
import Derived.Test.YtfggemopnlffeaaGreatJH
import Derived.Test.YtfggemopnlffeaaGreatJC
import Derived.Test.YtfggemopnlffeaaGreatLe
import Derived.Test.YtfggemopnlffeaaGreatPm
import Derived.Test.YtfggemopnlffeaaGreatJF
namespace Go.Proofs.YtfggemopnlffeaaGreat
set_option linter.unusedSimpArgs false
set_option linter.unusedVariables false
set_option linter.unnecessarySimpa false
open Go.RowKit
theorem take_snoc {α β : Type} (f : α → β) {l : List α} {m : Nat} (h : m < l.length) : (l.take m).map f ++ [f l[m]] = (l.take (m + 1)).map f := by
  rw [List.take_succ_eq_append_getElem h, List.map_append]; rfl
theorem take_len {α β : Type} (f : α → β) {l : List α} {m : Nat} (h : m ≤ l.length) : ((l.take m).map f).length = m := by
  simp [Nat.min_eq_left h]
theorem Y29_BS : type_of% (AI @F_ag_3 (AI @F_ag_38 (AI @F_ag_39 (AI @F_ag_41 (AI @F_ag_64 (AI @F_al_41 (AI @F_al_64 (AI @F_by_41 (AI @F_by_64 (AI @F_el_38 (AI @F_el_39 (AI @F_fl_41_3 (AI @F_fl_41_4 (AI @F_fl_64_0 (AI @F_fl_64_1 (AI @F_st_64 (AI @F_sz_3 (AI @F_sz_38 (AI @F_sz_39 (AI @F_sz_41 (@F_sz_64))))))))))))))))))))) := AI @F_ag_3 (AI @F_ag_38 (AI @F_ag_39 (AI @F_ag_41 (AI @F_ag_64 (AI @F_al_41 (AI @F_al_64 (AI @F_by_41 (AI @F_by_64 (AI @F_el_38 (AI @F_el_39 (AI @F_fl_41_3 (AI @F_fl_41_4 (AI @F_fl_64_0 (AI @F_fl_64_1 (AI @F_st_64 (AI @F_sz_3 (AI @F_sz_38 (AI @F_sz_39 (AI @F_sz_41 (@F_sz_64))))))))))))))))))))
theorem G29_BS : type_of% (AI (@Int.natCast_nonneg) (AI (@tyV_firm) (AI (@fdV_firm) (AI (@tyV_strip) (AI (@fdV_strip) (AI (@tyV_live) (AI (@tyV_size) (AI (@tyV_isAg) (AI (@tyV_cells) (AI (@fdV_live) (AI (@fdV_size) (AI (@fdV_isAg) (AI (@fdV_cells) (AI (@List.getElem?_map.{0, 0}) (AI (@List.length_take.{0}) @Int.lt_irrefl))))))))))))))) := (AI (@Int.natCast_nonneg) (AI (@tyV_firm) (AI (@fdV_firm) (AI (@tyV_strip) (AI (@fdV_strip) (AI (@tyV_live) (AI (@tyV_size) (AI (@tyV_isAg) (AI (@tyV_cells) (AI (@fdV_live) (AI (@fdV_size) (AI (@fdV_isAg) (AI (@fdV_cells) (AI (@List.getElem?_map.{0, 0}) (AI (@List.length_take.{0}) @Int.lt_irrefl)))))))))))))))
theorem c_clone : ∀ (t : Ty), fit t → PC Tryz.prog 29 [tyV t] (tyV t) := by
  refine Ty.induct fun o k s c es fs hE hF => ?_
  intro hfit
  obtain ⟨hl1, hl2, hfE, hfF⟩ := fit_mk hfit
  refine PC.enter 44 Tryz.func29 rfl (by decide) rfl rfl (s := [(0, tyV (.mk o k s c es fs))]) (by rfl) ?_
  simp only [tyV_mk]
  refine wG Y29_BS @G29_BS ?_
  refine AWp.loop ?_
  refine ALp.ghost 3 [] .nl 41 5 ?_
  refine ALp.cutP 3 [(1, .pt 0 0), (2, .pt 1 0), (3, .sl ((es.take (0)).map tyV) (.own 2)), (10, .sl (es.map tyV) .ro), (11, (.im (.int .i64 (es.length)))), (12, (.im (.int .i64 ((((0 : Nat)) : Int)))))] [.box [.im (.int .i64 k), .im (.int .i64 s), .im (.int .i64 c), .sl (es.map tyV) .ro, .sl (fs.map fdV) .ro], .box [.im (.int .i64 0), .im (.int .i64 0), .im (.int .i64 0), .sl [] .nl, .sl [] .nl], .tip 41 5 (0)] (AI (@tyV_id) (AI (@tyL_id) @fdL_id)) ?_
  refine ALp.upto es.length (fun _ => True) (fun m => ⟨dn 44 [(1, .pt 0 0), (2, .pt 1 0), (3, .sl ((es.take (m)).map tyV) (.own 2)), (10, .sl (es.map tyV) .ro), (11, (.im (.int .i64 (es.length)))), (12, (.im (.int .i64 ((((m : Nat)) : Int)))))], ofl [.box [.im (.int .i64 k), .im (.int .i64 s), .im (.int .i64 c), .sl (es.map tyV) .ro, .sl (fs.map fdV) .ro], .box [.im (.int .i64 0), .im (.int .i64 0), .im (.int .i64 0), .sl [] .nl, .sl [] .nl], .tip 41 5 (m)]⟩) ?_ 0 (Nat.zero_le _) trivial
  intro m hm _ hnext
  by_cases hlt : m < es.length
  case pos =>
    have hlt' : (m : Int) < (es.length : Int) := by omega
    have hm1 := wrap_succ hlt (by omega)
    have hc := hE es[m] (List.getElem_mem hlt) (hfE _ (List.getElem_mem hlt))
    have hmin : min m es.length = m := Nat.min_eq_left hm
    have hsn := take_snoc tyV hlt
    have hg := get_some hlt
    have hA : (m + 1) * 72 ≤ 140737488355328 := by omega
    refine wG Y29_BS (AI (@G29_BS) (AI hlt' hg)) ?_
    refine AR.callP hc @tyV_eq (AI (@tyV_id) (AI (@tyL_id) @fdL_id)) ?_
    refine goG Y29_BS (AI (@G29_BS) (AI hlt' (AI hmin (AI hA hsn)))) ?_
    refine wG Y29_BS (AI (@G29_BS) hm1) ?_
    refine ALp.cutP 3 [(1, .pt 0 0), (2, .pt 1 0), (3, .sl ((es.take (m + 1)).map tyV) (.own 2)), (10, .sl (es.map tyV) .ro), (11, (.im (.int .i64 (es.length)))), (12, (.im (.int .i64 ((((m + 1 : Nat)) : Int)))))] [.box [.im (.int .i64 k), .im (.int .i64 s), .im (.int .i64 c), .sl (es.map tyV) .ro, .sl (fs.map fdV) .ro], .box [.im (.int .i64 0), .im (.int .i64 0), .im (.int .i64 0), .sl [] .nl, .sl [] .nl], .tip 41 5 (m + 1)] (AI (@tyV_id) (AI (@tyL_id) @fdL_id)) ?_
    exact hnext (m + 1) (by omega) (by omega) trivial
  obtain rfl : m = es.length := by omega
  clear hnext
  rw [List.take_length]
  refine whG Y29_BS @G29_BS ?_
  refine Blk'.here (Thn.n ?_)
  refine wG Y29_BS @G29_BS ?_
  refine AWp.loop ?_
  refine ALp.ghost 6 [] .nl 64 6 ?_
  refine ALp.cutP 4 [(1, .pt 0 0), (2, .pt 1 0), (3, .sl (es.map tyV) (.own 2)), (6, .sl ((fs.take (0)).map fdV) (.own 3)), (23, .sl (fs.map fdV) .ro), (24, (.im (.int .i64 (fs.length)))), (25, (.im (.int .i64 ((((0 : Nat)) : Int)))))] [.box [.im (.int .i64 k), .im (.int .i64 s), .im (.int .i64 c), .sl (es.map tyV) .ro, .sl (fs.map fdV) .ro], .box [.im (.int .i64 0), .im (.int .i64 0), .im (.int .i64 0), .sl [] .nl, .sl [] .nl], .tip 41 5 es.length, .tip 64 6 (0)] (AI (@tyV_id) (AI (@tyL_id) @fdL_id)) ?_
  refine ALp.upto fs.length (fun _ => True) (fun m => ⟨dn 44 [(1, .pt 0 0), (2, .pt 1 0), (3, .sl (es.map tyV) (.own 2)), (6, .sl ((fs.take (m)).map fdV) (.own 3)), (23, .sl (fs.map fdV) .ro), (24, (.im (.int .i64 (fs.length)))), (25, (.im (.int .i64 ((((m : Nat)) : Int)))))], ofl [.box [.im (.int .i64 k), .im (.int .i64 s), .im (.int .i64 c), .sl (es.map tyV) .ro, .sl (fs.map fdV) .ro], .box [.im (.int .i64 0), .im (.int .i64 0), .im (.int .i64 0), .sl [] .nl, .sl [] .nl], .tip 41 5 es.length, .tip 64 6 (m)]⟩) ?_ 0 (Nat.zero_le _) trivial
  intro m hm _ hnext
  by_cases hlt : m < fs.length
  case pos =>
    have hlt' : (m : Int) < (fs.length : Int) := by omega
    have hm1 := wrap_succ hlt (by omega)
    have hc := hF fs[m] (List.getElem_mem hlt) (hfF _ (List.getElem_mem hlt))
    have hmin : min m fs.length = m := Nat.min_eq_left hm
    have hsn := take_snoc fdV hlt
    have hg := get_some hlt
    have hA : (m + 1) * 80 ≤ 140737488355328 := by omega
    rw [fdV_eq fs[m]] at hsn
    refine wdG Y29_BS (AI (@G29_BS) (AI hlt' hg)) ?_
    refine AR.callP hc @tyV_eq (AI (@tyV_id) (AI (@tyL_id) @fdL_id)) ?_
    refine goG Y29_BS (AI (@G29_BS) (AI hlt' (AI hmin (AI hA hsn)))) ?_
    refine wdG Y29_BS (AI (@G29_BS) hm1) ?_
    refine ALp.cutP 4 [(1, .pt 0 0), (2, .pt 1 0), (3, .sl (es.map tyV) (.own 2)), (6, .sl ((fs.take (m + 1)).map fdV) (.own 3)), (23, .sl (fs.map fdV) .ro), (24, (.im (.int .i64 (fs.length)))), (25, (.im (.int .i64 ((((m + 1 : Nat)) : Int)))))] [.box [.im (.int .i64 k), .im (.int .i64 s), .im (.int .i64 c), .sl (es.map tyV) .ro, .sl (fs.map fdV) .ro], .box [.im (.int .i64 0), .im (.int .i64 0), .im (.int .i64 0), .sl [] .nl, .sl [] .nl], .tip 41 5 es.length, .tip 64 6 (m + 1)] (AI (@tyV_id) (AI (@tyL_id) @fdL_id)) ?_
    exact hnext (m + 1) (by omega) (by omega) trivial
  obtain rfl : m = fs.length := by omega
  clear hnext
  rw [List.take_length]
  refine wG Y29_BS @G29_BS ?_
  refine Fin.gen0 (rs := [.cell 2 41]) rfl (by first | exact .inl rfl | exact .inr rfl) (by simp only [resX, resA, ↓accU_f, ↓reduceIte, SA, SB, SC, SD, Y29_BS, valG, fpsG, evO, evB, evA, evA1, nilK, eqF, eqC, apOk, intOf, slB, slK,  gd, St.ev, putA, ofl, wrl, putE, V.ofVal, V.ofCell, bin2, un1, seg, fillV, partsOk, Value.oneCell', Nat.reduceBEq, Nat.reduceLT, Nat.reduceSub, Nat.reduceAdd, Nat.reduceMul, Nat.reduceLeDiff, Nat.reduceEqDiff, reduceCtorEq, Int.reduceLT, Int.reduceLE, Int.reduceEq, Int.reduceNe, Int.reduceBEq, Int.reduceBNe, Int.reduceAdd, Int.reduceSub, Int.reduceMul, Int.reduceToNat]; with_reducible exact rfl) ?_
  repeat (first | exact WkF.of (Wk.refl _) (by first | rfl | simp only [List.length_cons, List.length_nil, Nat.reduceAdd, V.ids, V.idsL, idsA, entOk, List.all_cons, List.all_nil, Bool.and_self, Bool.and_true, Bool.true_and, ltB, noId, Nat.reduceLT, decide_true, Bool.true_eq_false, tyV_id, fdV_id, tyL_id, fdL_id, tyV_id, tyL_id, fdL_id]) | exact WkF.of (Wk.ro _ _) (by first | rfl | simp only [List.length_cons, List.length_nil, Nat.reduceAdd, V.ids, V.idsL, idsA, entOk, List.all_cons, List.all_nil, Bool.and_self, Bool.and_true, Bool.true_and, ltB, noId, Nat.reduceLT, decide_true, Bool.true_eq_false, tyV_id, fdV_id, tyL_id, fdL_id, tyV_id, tyL_id, fdL_id]) | refine WkF.tu ?_ | refine WkF.ag ?_ | refine WkFL.cons ?_ ?_ | exact WkFL.nil)
theorem fit_get {x : Option Ty} (h : ∀ y, x = some y → fit y) : fit (x.getD tz) := by
  cases x with
  | none => exact fit_tz
  | some y => exact h y rfl
theorem fit_fnd {vs : List Va} (hv : fitV vs) (e : Ex) (w : Int) : fit (fnd vs e w).1 := by
  unfold fnd
  split
  · split
    · rename_i hg
      have ht := fit_tyOf hv (thr e).1
      generalize tyOf vs (thr e).1 = t at ht hg
      refine fit_get fun y hy => ?_
      unfold fieldA at hy
      split at hy
      · cases he : t.elem with
        | nil => rw [he] at hy; exact fat_fit fit_tz hy
        | cons x l => rw [he] at hy; exact fat_fit (fit_elem ht (by rw [he]; simp)) hy
      · cases hy
    · exact fit_tz
  · exact fit_tz
theorem fit_typ {vs : List Va} (hv : fitV vs) (e : Ex) : fit (typ vs e) := by
  unfold typ
  split
  · exact fit_tyOf hv _
  split
  · unfold fit; kernel_rfl
  split
  · unfold fit; kernel_rfl
  split
  · split
    · exact fit_fnd hv _ _
    · exact fit_tz
  · exact fit_tz
theorem Y15_BS : type_of% (AI @F_ag_41 (AI @F_ag_48 (AI @F_al_41 (AI @F_st_41 (AI @F_sz_41 (@F_sz_48)))))) := AI @F_ag_41 (AI @F_ag_48 (AI @F_al_41 (AI @F_st_41 (AI @F_sz_41 (@F_sz_48)))))
theorem G15_BS : type_of% (AI (@tyV_firm) (AI (@fdV_firm) (AI (@tyV_strip) (AI (@fdV_strip) (AI (@tyV_live) (AI (@tyV_size) (AI (@tyV_isAg) (AI (@tyV_cells) (AI (@fdV_live) (AI (@fdV_size) (AI (@fdV_isAg) (AI (@fdV_cells) (AI (@List.getElem?_map.{0, 0}) @Int.natCast_nonneg))))))))))))) := (AI (@tyV_firm) (AI (@fdV_firm) (AI (@tyV_strip) (AI (@fdV_strip) (AI (@tyV_live) (AI (@tyV_size) (AI (@tyV_isAg) (AI (@tyV_cells) (AI (@fdV_live) (AI (@fdV_size) (AI (@fdV_isAg) (AI (@fdV_cells) (AI (@List.getElem?_map.{0, 0}) @Int.natCast_nonneg)))))))))))))
theorem c_Expr (vs : List Va) (hv : fitV vs) (e : Ex) (he : fitE e) : PC Tryz.prog 15 [exV e, (V.sl (vs.map vaV) .ro)] (.tu [tyV (exT vs e).1, (.im (.int .i64 ((exT vs e).2)))]) := by
  have h1 := c_CheckE vs hv.1 e he
  unfold exT
  refine PC.enter 23 Tryz.func15 rfl (by decide) rfl rfl (s := [(0, exV e), (1, (V.sl (vs.map vaV) .ro))]) (by rfl) ?_
  simp only [exV_eq]
  by_cases hc : chkE vs e = 0
  case neg =>
    have ec : (chkE vs e == 0) = false := by simp [hc]
    rw [ec]
    simp only [Bool.false_eq_true, if_false]
    refine wG Y15_BS @G15_BS ?_
    refine AR.callP h1 @exV_eq (AI (@exL_id) (AI (@vaL_id) (AI (@exV_id) @vaV_id))) ?_
    refine goG Y15_BS (AI (@G15_BS) hc) ?_
    refine wG Y15_BS (AI (@G15_BS) hc) ?_
    refine Fin.gen0 (rs := [.cell 4 41, .tmp 5]) rfl (by first | exact .inl rfl | exact .inr rfl) (by simp only [resX, resA, ↓accU_f, ↓reduceIte, SA, SB, SC, SD, Y15_BS, valG, fpsG, evO, evB, evA, evA1, nilK, eqF, eqC, apOk, intOf, slB, slK,  gd, St.ev, putA, ofl, wrl, putE, V.ofVal, V.ofCell, bin2, un1, seg, fillV, partsOk, Value.oneCell', Nat.reduceBEq, Nat.reduceLT, Nat.reduceSub, Nat.reduceAdd, Nat.reduceMul, Nat.reduceLeDiff, Nat.reduceEqDiff, reduceCtorEq, Int.reduceLT, Int.reduceLE, Int.reduceEq, Int.reduceNe, Int.reduceBEq, Int.reduceBNe, Int.reduceAdd, Int.reduceSub, Int.reduceMul, Int.reduceToNat]; with_reducible exact rfl) ?_
    simp only [tz, tyV_mk, List.map_nil]
    repeat (first | exact WkF.of (Wk.refl _) (by first | rfl | simp only [List.length_cons, List.length_nil, Nat.reduceAdd, V.ids, V.idsL, idsA, entOk, List.all_cons, List.all_nil, Bool.and_self, Bool.and_true, Bool.true_and, ltB, noId, Nat.reduceLT, decide_true, Bool.true_eq_false, tyV_id, fdV_id, tyL_id, fdL_id, exL_id, vaL_id, exV_id, vaV_id]) | exact WkF.of (Wk.ro _ _) (by first | rfl | simp only [List.length_cons, List.length_nil, Nat.reduceAdd, V.ids, V.idsL, idsA, entOk, List.all_cons, List.all_nil, Bool.and_self, Bool.and_true, Bool.true_and, ltB, noId, Nat.reduceLT, decide_true, Bool.true_eq_false, tyV_id, fdV_id, tyL_id, fdL_id, exL_id, vaL_id, exV_id, vaV_id]) | refine WkF.tu ?_ | refine WkF.ag ?_ | refine WkFL.cons ?_ ?_ | exact WkFL.nil)
  have hf := chkE_efm hc
  have ec : (chkE vs e == 0) = true := by simp [hc]
  rw [ec]
  simp only [if_true]
  rw [hc] at h1
  have h2 := c_accesses vs hv e he hf
  have h3 := c_typed vs hv e hf
  cases ha : acs vs e with
  | false =>
    rw [ha] at h2
    simp only [Bool.false_eq_true, if_false]
    refine wG Y15_BS @G15_BS ?_
    refine AR.callP h1 @exV_eq (AI (@exL_id) (AI (@vaL_id) (AI (@exV_id) @vaV_id))) ?_
    refine goG Y15_BS @G15_BS ?_
    refine wG Y15_BS @G15_BS ?_
    refine AR.callP h2 @exV_eq (AI (@exL_id) (AI (@vaL_id) (AI (@exV_id) @vaV_id))) ?_
    refine goG Y15_BS @G15_BS ?_
    refine wG Y15_BS @G15_BS ?_
    refine Fin.gen0 (rs := [.cell 4 41, .tmp 5]) rfl (by first | exact .inl rfl | exact .inr rfl) (by simp only [resX, resA, ↓accU_f, ↓reduceIte, SA, SB, SC, SD, Y15_BS, valG, fpsG, evO, evB, evA, evA1, nilK, eqF, eqC, apOk, intOf, slB, slK,  gd, St.ev, putA, ofl, wrl, putE, V.ofVal, V.ofCell, bin2, un1, seg, fillV, partsOk, Value.oneCell', Nat.reduceBEq, Nat.reduceLT, Nat.reduceSub, Nat.reduceAdd, Nat.reduceMul, Nat.reduceLeDiff, Nat.reduceEqDiff, reduceCtorEq, Int.reduceLT, Int.reduceLE, Int.reduceEq, Int.reduceNe, Int.reduceBEq, Int.reduceBNe, Int.reduceAdd, Int.reduceSub, Int.reduceMul, Int.reduceToNat]; with_reducible exact rfl) ?_
    simp only [tz, tyV_mk, List.map_nil]
    repeat (first | exact WkF.of (Wk.refl _) (by first | rfl | simp only [List.length_cons, List.length_nil, Nat.reduceAdd, V.ids, V.idsL, idsA, entOk, List.all_cons, List.all_nil, Bool.and_self, Bool.and_true, Bool.true_and, ltB, noId, Nat.reduceLT, decide_true, Bool.true_eq_false, tyV_id, fdV_id, tyL_id, fdL_id, exL_id, vaL_id, exV_id, vaV_id]) | exact WkF.of (Wk.ro _ _) (by first | rfl | simp only [List.length_cons, List.length_nil, Nat.reduceAdd, V.ids, V.idsL, idsA, entOk, List.all_cons, List.all_nil, Bool.and_self, Bool.and_true, Bool.true_and, ltB, noId, Nat.reduceLT, decide_true, Bool.true_eq_false, tyV_id, fdV_id, tyL_id, fdL_id, exL_id, vaL_id, exV_id, vaV_id]) | refine WkF.tu ?_ | refine WkF.ag ?_ | refine WkFL.cons ?_ ?_ | exact WkFL.nil)
  | true =>
    rw [ha] at h2
    simp only [if_true]
    have h4 := c_clone _ (fit_typ hv e)
    generalize typ vs e = t at h3 h4 ⊢
    refine wG Y15_BS @G15_BS ?_
    refine AR.callP h1 @exV_eq (AI (@exL_id) (AI (@vaL_id) (AI (@exV_id) @vaV_id))) ?_
    refine goG Y15_BS @G15_BS ?_
    refine wG Y15_BS @G15_BS ?_
    refine AR.callP h2 @exV_eq (AI (@exL_id) (AI (@vaL_id) (AI (@exV_id) @vaV_id))) ?_
    refine goG Y15_BS @G15_BS ?_
    refine wG Y15_BS @G15_BS ?_
    refine AR.callP h3 @exV_eq (AI (@exL_id) (AI (@vaL_id) (AI (@exV_id) @vaV_id))) ?_
    refine goG Y15_BS @G15_BS ?_
    refine AR.callP h4 @tyV_eq (AI (@exL_id) (AI (@vaL_id) (AI (@exV_id) @vaV_id))) ?_
    refine goG Y15_BS @G15_BS ?_
    refine wG Y15_BS @G15_BS ?_
    refine Fin.gen0 (rs := [.cell 4 41, .tmp 5]) rfl (by first | exact .inl rfl | exact .inr rfl) (by simp only [resX, resA, ↓accU_f, ↓reduceIte, SA, SB, SC, SD, Y15_BS, valG, fpsG, evO, evB, evA, evA1, nilK, eqF, eqC, apOk, intOf, slB, slK,  gd, St.ev, putA, ofl, wrl, putE, V.ofVal, V.ofCell, bin2, un1, seg, fillV, partsOk, Value.oneCell', Nat.reduceBEq, Nat.reduceLT, Nat.reduceSub, Nat.reduceAdd, Nat.reduceMul, Nat.reduceLeDiff, Nat.reduceEqDiff, reduceCtorEq, Int.reduceLT, Int.reduceLE, Int.reduceEq, Int.reduceNe, Int.reduceBEq, Int.reduceBNe, Int.reduceAdd, Int.reduceSub, Int.reduceMul, Int.reduceToNat]; with_reducible exact rfl) ?_
    simp only [tyV_eq]
    repeat (first | exact WkF.of (Wk.refl _) (by first | rfl | simp only [List.length_cons, List.length_nil, Nat.reduceAdd, V.ids, V.idsL, idsA, entOk, List.all_cons, List.all_nil, Bool.and_self, Bool.and_true, Bool.true_and, ltB, noId, Nat.reduceLT, decide_true, Bool.true_eq_false, tyV_id, fdV_id, tyL_id, fdL_id, exL_id, vaL_id, exV_id, vaV_id]) | exact WkF.of (Wk.ro _ _) (by first | rfl | simp only [List.length_cons, List.length_nil, Nat.reduceAdd, V.ids, V.idsL, idsA, entOk, List.all_cons, List.all_nil, Bool.and_self, Bool.and_true, Bool.true_and, ltB, noId, Nat.reduceLT, decide_true, Bool.true_eq_false, tyV_id, fdV_id, tyL_id, fdL_id, exL_id, vaL_id, exV_id, vaV_id]) | refine WkF.tu ?_ | refine WkF.ag ?_ | refine WkFL.cons ?_ ?_ | exact WkFL.nil)
end Go.Proofs.YtfggemopnlffeaaGreat
namespace Go.Proofs.YtfggemopnlffeaaGreat
set_option linter.unusedSimpArgs false
set_option linter.unusedVariables false
set_option linter.unnecessarySimpa false
open Go.RowKit
theorem pair_cond {m n : Nat} {g : Int} (h : (decide ((m : Int) < n) && decide (0 < g)) = true) : m < n ∧ 0 < g := by
  simp only [Bool.and_eq_true, decide_eq_true_eq] at h
  omega
theorem pair_stop {α : Type} {f : α → Int → Int} {l : List α} (hb : ∀ t ∈ l, ∀ n, 0 < n → 0 ≤ f t n ∧ f t n < n) {m : Nat} (hm : m ≤ l.length) {n : Int} (hn : 0 ≤ n) (h : (decide ((m : Int) < l.length) && decide (0 < gfold f (l.take m) n)) = false) : gfold f (l.take m) n = gfold f l n := by
  simp only [Bool.and_eq_false_iff, decide_eq_false_iff_not] at h
  rcases h with h | h
  · rw [List.take_of_length_le (by omega)]
  · exact (gfold_all hb hn h).symm
theorem Y23_BT : type_of% (AI @F_ag_38 (AI @F_ag_39 (AI @F_ag_41 (AI @F_el_38 (AI @F_el_39 (AI @F_fl_41_3 (AI @F_fl_41_4 (AI @F_fl_64_1 (AI @F_sz_38 (AI @F_sz_39 (AI @F_sz_41 (@F_sz_64)))))))))))) := AI @F_ag_38 (AI @F_ag_39 (AI @F_ag_41 (AI @F_el_38 (AI @F_el_39 (AI @F_fl_41_3 (AI @F_fl_41_4 (AI @F_fl_64_1 (AI @F_sz_38 (AI @F_sz_39 (AI @F_sz_41 (@F_sz_64)))))))))))
theorem G23_BT : type_of% (AI (@Int.natCast_nonneg) (AI (@tyV_firm) (AI (@fdV_firm) (AI (@tyV_strip) (AI (@fdV_strip) (AI (@tyV_live) (AI (@tyV_size) (AI (@tyV_isAg) (AI (@tyV_cells) (AI (@fdV_live) (AI (@fdV_size) (AI (@fdV_isAg) (AI (@fdV_cells) @List.getElem?_map.{0, 0}))))))))))))) := (AI (@Int.natCast_nonneg) (AI (@tyV_firm) (AI (@fdV_firm) (AI (@tyV_strip) (AI (@fdV_strip) (AI (@tyV_live) (AI (@tyV_size) (AI (@tyV_isAg) (AI (@tyV_cells) (AI (@fdV_live) (AI (@fdV_size) (AI (@fdV_isAg) (AI (@fdV_cells) @List.getElem?_map.{0, 0})))))))))))))
theorem c_left : ∀ (t : Ty), fit t → ∀ n : Int, 0 < n → n ≤ 4194304 → PC Tryz.prog 23 [tyV t, (.im (.int .i64 (n)))] (.im (.int .i64 (lft t n))) := by
  refine Ty.induct fun o k s c es fs hT hF => ?_
  intro hfit n hn hn2
  obtain ⟨hl1, hl2, hfE, hfF⟩ := fit_mk hfit
  have hw : IntKind.i64.wrap (n - 1) = n - 1 := wrap_in (by omega)
  rw [lft_mk]
  refine PC.enter 47 Tryz.func23 rfl (by decide) rfl rfl (s := [(0, tyV (.mk o k s c es fs)), (1, (.im (.int .i64 (n))))]) (by rfl) ?_
  simp only [tyV_mk]
  refine wG Y23_BT (AI (@G23_BT) hw) ?_
  refine AWp.loop ?_
  refine ALp.cutP 1 [(1, (.im (.int .i64 (gfold lft (es.take (0)) (n - 1))))), (2, .pt 0 0), (5, (.im (.int .i64 ((((0 : Nat)) : Int)))))] [.box [.im (.int .i64 k), .im (.int .i64 s), .im (.int .i64 c), .sl (es.map tyV) .ro, .sl (fs.map fdV) .ro]] (AI (@exL_id) (AI (@vaL_id) (AI (@exV_id) @vaV_id))) ?_
  refine ALp.upto es.length (fun _ => True) (fun m => ⟨dn 47 [(1, (.im (.int .i64 (gfold lft (es.take (m)) (n - 1))))), (2, .pt 0 0), (5, (.im (.int .i64 ((((m : Nat)) : Int)))))], ofl [.box [.im (.int .i64 k), .im (.int .i64 s), .im (.int .i64 c), .sl (es.map tyV) .ro, .sl (fs.map fdV) .ro]]⟩) ?_ 0 (Nat.zero_le _) trivial
  intro m hm _ hnext
  refine wG Y23_BT @G23_BT ?_
  refine AWp.condAB rfl rfl (fun hE => ?_) (fun hE => ?_)
  · obtain ⟨hlt, hp⟩ := pair_cond hE
    have hlt' : (m : Int) < (es.length : Int) := by omega
    have hm1 := wrap_succ hlt (by omega)
    have hb := gfold_bound (f := lft) (l := es.take m) (fun t _ => lft_bound t) (n - 1) (by omega)
    have hc := hT es[m] (List.getElem_mem hlt) (hfE _ (List.getElem_mem hlt)) _ hp (by omega)
    rw [← gfold_take hlt hp] at hc
    have hg := get_some hlt
    refine wG Y23_BT (AI (@G23_BT) (AI hlt' hg)) ?_
    refine AR.callP hc @tyV_eq (AI (@exL_id) (AI (@vaL_id) (AI (@exV_id) @vaV_id))) ?_
    refine goG Y23_BT @G23_BT ?_
    refine wG Y23_BT (AI (@G23_BT) hm1) ?_
    refine ALp.cutP 1 [(1, (.im (.int .i64 (gfold lft (es.take (m + 1)) (n - 1))))), (2, .pt 0 0), (5, (.im (.int .i64 ((((m + 1 : Nat)) : Int)))))] [.box [.im (.int .i64 k), .im (.int .i64 s), .im (.int .i64 c), .sl (es.map tyV) .ro, .sl (fs.map fdV) .ro]] (AI (@exL_id) (AI (@vaL_id) (AI (@exV_id) @vaV_id))) ?_
    exact hnext (m + 1) (by omega) (by omega) trivial
  rw [pair_stop (fun t _ => lft_bound t) hm (by omega) hE]
  clear hnext hE
  generalize hm0 : m = m0
  clear hm hm0
  have hb0 := gfold_bound (f := lft) (l := es) (fun t _ => lft_bound t) (n - 1) (by omega)
  refine whG Y23_BT @G23_BT ?_
  refine Blk'.here (Thn.n ?_)
  refine wG Y23_BT @G23_BT ?_
  refine AWp.loop ?_
  refine ALp.cutP 1 [(1, (.im (.int .i64 (gfold lft (fs.take (0)) (gfold lft es (n - 1)))))), (2, .pt 0 0), (6, (.im (.int .i64 ((((0 : Nat)) : Int)))))] [.box [.im (.int .i64 k), .im (.int .i64 s), .im (.int .i64 c), .sl (es.map tyV) .ro, .sl (fs.map fdV) .ro]] (AI (@exL_id) (AI (@vaL_id) (AI (@exV_id) @vaV_id))) ?_
  refine ALp.upto fs.length (fun _ => True) (fun m => ⟨dn 47 [(1, (.im (.int .i64 (gfold lft (fs.take (m)) (gfold lft es (n - 1)))))), (2, .pt 0 0), (6, (.im (.int .i64 ((((m : Nat)) : Int)))))], ofl [.box [.im (.int .i64 k), .im (.int .i64 s), .im (.int .i64 c), .sl (es.map tyV) .ro, .sl (fs.map fdV) .ro]]⟩) ?_ 0 (Nat.zero_le _) trivial
  intro m hm _ hnext
  refine wG Y23_BT @G23_BT ?_
  refine AWp.condAB rfl rfl (fun hE => ?_) (fun hE => ?_)
  · obtain ⟨hlt, hp⟩ := pair_cond hE
    have hlt' : (m : Int) < (fs.length : Int) := by omega
    have hm1 := wrap_succ hlt (by omega)
    have hb := gfold_bound (f := lft) (l := fs.take m) (fun t _ => lft_bound t) (gfold lft es (n - 1)) (by omega)
    have hc := hF fs[m] (List.getElem_mem hlt) (hfF _ (List.getElem_mem hlt)) _ hp (by omega)
    rw [← gfold_take hlt hp] at hc
    have hg := get_some hlt
    refine wG Y23_BT (AI (@G23_BT) (AI hlt' hg)) ?_
    refine AR.callP hc @tyV_eq (AI (@exL_id) (AI (@vaL_id) (AI (@exV_id) @vaV_id))) ?_
    refine goG Y23_BT @G23_BT ?_
    refine wG Y23_BT (AI (@G23_BT) hm1) ?_
    refine ALp.cutP 1 [(1, (.im (.int .i64 (gfold lft (fs.take (m + 1)) (gfold lft es (n - 1)))))), (2, .pt 0 0), (6, (.im (.int .i64 ((((m + 1 : Nat)) : Int)))))] [.box [.im (.int .i64 k), .im (.int .i64 s), .im (.int .i64 c), .sl (es.map tyV) .ro, .sl (fs.map fdV) .ro]] (AI (@exL_id) (AI (@vaL_id) (AI (@exV_id) @vaV_id))) ?_
    exact hnext (m + 1) (by omega) (by omega) trivial
  rw [pair_stop (fun t _ => lft_bound t) hm (by omega) hE]
  clear hnext hE
  refine wG Y23_BT @G23_BT ?_
  exact Fin.oneP
theorem Y24_BT : type_of% (AI @F_ag_46 (AI @F_ag_48 (AI @F_el_46 (AI @F_fl_48_4 (AI @F_sz_46 (@F_sz_48)))))) := AI @F_ag_46 (AI @F_ag_48 (AI @F_el_46 (AI @F_fl_48_4 (AI @F_sz_46 (@F_sz_48)))))
theorem G24_BT : type_of% (AI (@Int.natCast_nonneg) (AI (@exV_firm) (AI (@exV_strip) (AI (@exV_live) (AI (@exV_size) (AI (@exV_isAg) (AI (@exV_cells) @List.getElem?_map.{0, 0}))))))) := (AI (@Int.natCast_nonneg) (AI (@exV_firm) (AI (@exV_strip) (AI (@exV_live) (AI (@exV_size) (AI (@exV_isAg) (AI (@exV_cells) @List.getElem?_map.{0, 0})))))))
theorem c_exprs : ∀ (t : Ex), fitE t → ∀ n : Int, 0 < n → n ≤ 4194304 → PC Tryz.prog 24 [exV t, (.im (.int .i64 (n)))] (.im (.int .i64 (exn t n))) := by
  refine Ex.induct fun o k s w l hL => ?_
  intro hfit n hn hn2
  obtain ⟨hl1, hfL⟩ := fitE_mk hfit
  have hw : IntKind.i64.wrap (n - 1) = n - 1 := wrap_in (by omega)
  rw [exn_mk]
  refine PC.enter 27 Tryz.func24 rfl (by decide) rfl rfl (s := [(0, exV (.mk o k s w l)), (1, (.im (.int .i64 (n))))]) (by rfl) ?_
  simp only [exV_mk]
  refine wG Y24_BT (AI (@G24_BT) hw) ?_
  refine AWp.loop ?_
  refine ALp.cutP 1 [(1, (.im (.int .i64 (gfold exn (l.take (0)) (n - 1))))), (2, .pt 0 0), (5, (.im (.int .i64 ((((0 : Nat)) : Int)))))] [.box [.im (.int .i64 o), .im (.int .u32 k), .im (.string s), .im (.int .i64 w), .sl (l.map exV) .ro]] (AI (@exL_id) (AI (@vaL_id) (AI (@exV_id) @vaV_id))) ?_
  refine ALp.upto l.length (fun _ => True) (fun m => ⟨dn 27 [(1, (.im (.int .i64 (gfold exn (l.take (m)) (n - 1))))), (2, .pt 0 0), (5, (.im (.int .i64 ((((m : Nat)) : Int)))))], ofl [.box [.im (.int .i64 o), .im (.int .u32 k), .im (.string s), .im (.int .i64 w), .sl (l.map exV) .ro]]⟩) ?_ 0 (Nat.zero_le _) trivial
  intro m hm _ hnext
  refine wG Y24_BT @G24_BT ?_
  refine AWp.condAB rfl rfl (fun hE => ?_) (fun hE => ?_)
  · obtain ⟨hlt, hp⟩ := pair_cond hE
    have hlt' : (m : Int) < (l.length : Int) := by omega
    have hm1 := wrap_succ hlt (by omega)
    have hb := gfold_bound (f := exn) (l := l.take m) (fun t _ => exn_bound t) (n - 1) (by omega)
    have hc := hL l[m] (List.getElem_mem hlt) (hfL _ (List.getElem_mem hlt)) _ hp (by omega)
    rw [← gfold_take hlt hp] at hc
    have hg := get_some hlt
    refine wG Y24_BT (AI (@G24_BT) (AI hlt' hg)) ?_
    refine AR.callP hc @exV_eq (AI (@exL_id) (AI (@vaL_id) (AI (@exV_id) @vaV_id))) ?_
    refine goG Y24_BT @G24_BT ?_
    refine wG Y24_BT (AI (@G24_BT) hm1) ?_
    refine ALp.cutP 1 [(1, (.im (.int .i64 (gfold exn (l.take (m + 1)) (n - 1))))), (2, .pt 0 0), (5, (.im (.int .i64 ((((m + 1 : Nat)) : Int)))))] [.box [.im (.int .i64 o), .im (.int .u32 k), .im (.string s), .im (.int .i64 w), .sl (l.map exV) .ro]] (AI (@exL_id) (AI (@vaL_id) (AI (@exV_id) @vaV_id))) ?_
    exact hnext (m + 1) (by omega) (by omega) trivial
  rw [pair_stop (fun t _ => exn_bound t) hm (by omega) hE]
  clear hnext hE
  refine wG Y24_BT @G24_BT ?_
  exact Fin.oneP
theorem Y11_BT : type_of% (AI @F_ag_41 (AI @F_el_22 (AI @F_fl_44_1 (AI @F_sz_41 (@F_sz_44))))) := AI @F_ag_41 (AI @F_el_22 (AI @F_fl_44_1 (AI @F_sz_41 (@F_sz_44))))
theorem G11_BT : type_of% (AI (@Int.natCast_nonneg) (AI (@vaV_firm) (AI (@vaV_strip) (AI (@vaV_live) (AI (@vaV_size) (AI (@vaV_isAg) (AI (@vaV_cells) @List.getElem?_map.{0, 0}))))))) := (AI (@Int.natCast_nonneg) (AI (@vaV_firm) (AI (@vaV_strip) (AI (@vaV_live) (AI (@vaV_size) (AI (@vaV_isAg) (AI (@vaV_cells) @List.getElem?_map.{0, 0})))))))
theorem c_variables (vs : List Va) (hv : fitV vs) (n : Int) (hn : 0 ≤ n) (hn2 : n ≤ 4194304) : PC Tryz.prog 11 [V.sl (vs.map vaV) .ro, (.im (.int .i64 (n)))] (.im (.int .i64 (gfold (fun v => lft v.ty) vs n))) := by
  refine PC.enter 24 Tryz.func11 rfl (by decide) rfl rfl (s := [(0, V.sl (vs.map vaV) .ro), (1, (.im (.int .i64 (n))))]) (by rfl) ?_
  have hv1 := hv.1
  refine wG Y11_BT @G11_BT ?_
  refine AWp.loop ?_
  refine ALp.cutP 0 [(0, V.sl (vs.map vaV) .ro), (1, (.im (.int .i64 (gfold (fun v => lft v.ty) (vs.take (0)) n)))), (5, (.im (.int .i64 ((((0 : Nat)) : Int)))))] [] (AI (@exL_id) (AI (@vaL_id) (AI (@exV_id) @vaV_id))) ?_
  refine ALp.upto vs.length (fun _ => True) (fun m => ⟨dn 24 [(0, V.sl (vs.map vaV) .ro), (1, (.im (.int .i64 (gfold (fun v => lft v.ty) (vs.take (m)) n)))), (5, (.im (.int .i64 ((((m : Nat)) : Int)))))], ofl []⟩) ?_ 0 (Nat.zero_le _) trivial
  intro m hm _ hnext
  refine wG Y11_BT @G11_BT ?_
  refine AWp.condAB rfl rfl (fun hE => ?_) (fun hE => ?_)
  · obtain ⟨hlt, hp⟩ := pair_cond hE
    have hlt' : (m : Int) < (vs.length : Int) := by omega
    have hm1 := wrap_succ hlt (by omega)
    have hb := gfold_bound (f := fun v : Va => lft v.ty) (l := vs.take m) (fun t _ => lft_bound t.ty) n hn
    have hc := c_left vs[m].ty (hv.2 _ (List.getElem_mem hlt)) _ hp (by omega)
    rw [← gfold_take (f := fun v : Va => lft v.ty) hlt hp] at hc
    have hg := get_some hlt
    refine wG Y11_BT (AI (@G11_BT) (AI hlt' hg)) ?_
    refine AR.callP hc @tyV_eq (AI (@exL_id) (AI (@vaL_id) (AI (@exV_id) @vaV_id))) ?_
    refine goG Y11_BT @G11_BT ?_
    refine wG Y11_BT (AI (@G11_BT) hm1) ?_
    refine ALp.cutP 0 [(0, V.sl (vs.map vaV) .ro), (1, (.im (.int .i64 (gfold (fun v => lft v.ty) (vs.take (m + 1)) n)))), (5, (.im (.int .i64 ((((m + 1 : Nat)) : Int)))))] [] (AI (@exL_id) (AI (@vaL_id) (AI (@exV_id) @vaV_id))) ?_
    exact hnext (m + 1) (by omega) (by omega) trivial
  rw [pair_stop (fun t _ => lft_bound t.ty) hm hn hE]
  clear hnext hE
  refine wG Y11_BT @G11_BT ?_
  exact Fin.oneP
end Go.Proofs.YtfggemopnlffeaaGreat
namespace Go.Proofs.YtfggemopnlffeaaGreat
set_option linter.unusedSimpArgs false
set_option linter.unusedVariables false
set_option linter.unnecessarySimpa false
open Go.RowKit
theorem Y17_BR : type_of% (AI @F_ag_41 (AI @F_al_41 (AI @F_st_41 (@F_sz_41)))) := AI @F_ag_41 (AI @F_al_41 (AI @F_st_41 (@F_sz_41)))
theorem c_Int (n : Int) : PC Tryz.prog 17 [(.im (.int .i64 (n)))] (tyV (.mk 0 1 n 0 [] [])) := by
  refine PC.enter 5 Tryz.func17 rfl (by decide) rfl rfl (s := [(0, (.im (.int .i64 (n))))]) (by rfl) ?_
  refine wG Y17_BR True.intro ?_
  refine Fin.gen0 (rs := [.cell 2 41]) rfl (by first | exact .inl rfl | exact .inr rfl) (by simp only [resX, resA, ↓accU_f, ↓reduceIte, SA, SB, SC, SD, Y17_BR, valG, fpsG, evO, evB, evA, evA1, nilK, eqF, eqC, apOk, intOf, slB, slK,  gd, St.ev, putA, ofl, wrl, putE, V.ofVal, V.ofCell, bin2, un1, seg, fillV, partsOk, Value.oneCell', Nat.reduceBEq, Nat.reduceLT, Nat.reduceSub, Nat.reduceAdd, Nat.reduceMul, Nat.reduceLeDiff, Nat.reduceEqDiff, reduceCtorEq, Int.reduceLT, Int.reduceLE, Int.reduceEq, Int.reduceNe, Int.reduceBEq, Int.reduceBNe, Int.reduceAdd, Int.reduceSub, Int.reduceMul, Int.reduceToNat]; with_reducible exact rfl) ?_
  simp only [tyV_mk, List.map_nil]
  repeat (first | exact WkF.of (Wk.refl _) (by first | rfl | simp only [List.length_cons, List.length_nil, Nat.reduceAdd, V.ids, V.idsL, idsA, entOk, List.all_cons, List.all_nil, Bool.and_self, Bool.and_true, Bool.true_and, ltB, noId, Nat.reduceLT, decide_true, Bool.true_eq_false, tyV_id, fdV_id, tyL_id, fdL_id, exL_id, vaL_id, exV_id, vaV_id]) | exact WkF.of (Wk.ro _ _) (by first | rfl | simp only [List.length_cons, List.length_nil, Nat.reduceAdd, V.ids, V.idsL, idsA, entOk, List.all_cons, List.all_nil, Bool.and_self, Bool.and_true, Bool.true_and, ltB, noId, Nat.reduceLT, decide_true, Bool.true_eq_false, tyV_id, fdV_id, tyL_id, fdL_id, exL_id, vaL_id, exV_id, vaV_id]) | refine WkF.tu ?_ | refine WkF.ag ?_ | refine WkFL.cons ?_ ?_ | exact WkFL.nil)
theorem Y26_BR : type_of% (AI @F_ag_41 (AI @F_al_41 (AI @F_st_41 (@F_sz_41)))) := AI @F_ag_41 (AI @F_al_41 (AI @F_st_41 (@F_sz_41)))
theorem c_Uint (n : Int) : PC Tryz.prog 26 [(.im (.int .i64 (n)))] (tyV (.mk 0 2 n 0 [] [])) := by
  refine PC.enter 5 Tryz.func26 rfl (by decide) rfl rfl (s := [(0, (.im (.int .i64 (n))))]) (by rfl) ?_
  refine wG Y26_BR True.intro ?_
  refine Fin.gen0 (rs := [.cell 2 41]) rfl (by first | exact .inl rfl | exact .inr rfl) (by simp only [resX, resA, ↓accU_f, ↓reduceIte, SA, SB, SC, SD, Y26_BR, valG, fpsG, evO, evB, evA, evA1, nilK, eqF, eqC, apOk, intOf, slB, slK,  gd, St.ev, putA, ofl, wrl, putE, V.ofVal, V.ofCell, bin2, un1, seg, fillV, partsOk, Value.oneCell', Nat.reduceBEq, Nat.reduceLT, Nat.reduceSub, Nat.reduceAdd, Nat.reduceMul, Nat.reduceLeDiff, Nat.reduceEqDiff, reduceCtorEq, Int.reduceLT, Int.reduceLE, Int.reduceEq, Int.reduceNe, Int.reduceBEq, Int.reduceBNe, Int.reduceAdd, Int.reduceSub, Int.reduceMul, Int.reduceToNat]; with_reducible exact rfl) ?_
  simp only [tyV_mk, List.map_nil]
  repeat (first | exact WkF.of (Wk.refl _) (by first | rfl | simp only [List.length_cons, List.length_nil, Nat.reduceAdd, V.ids, V.idsL, idsA, entOk, List.all_cons, List.all_nil, Bool.and_self, Bool.and_true, Bool.true_and, ltB, noId, Nat.reduceLT, decide_true, Bool.true_eq_false, tyV_id, fdV_id, tyL_id, fdL_id, exL_id, vaL_id, exV_id, vaV_id]) | exact WkF.of (Wk.ro _ _) (by first | rfl | simp only [List.length_cons, List.length_nil, Nat.reduceAdd, V.ids, V.idsL, idsA, entOk, List.all_cons, List.all_nil, Bool.and_self, Bool.and_true, Bool.true_and, ltB, noId, Nat.reduceLT, decide_true, Bool.true_eq_false, tyV_id, fdV_id, tyL_id, fdL_id, exL_id, vaL_id, exV_id, vaV_id]) | refine WkF.tu ?_ | refine WkF.ag ?_ | refine WkFL.cons ?_ ?_ | exact WkFL.nil)
theorem Y25_BR : type_of% (AI @F_ag_41 (AI @F_al_41 (AI @F_el_38 (AI @F_st_41 (@F_sz_41))))) := AI @F_ag_41 (AI @F_al_41 (AI @F_el_38 (AI @F_st_41 (@F_sz_41))))
theorem G25_BR : type_of% (AI (@tyV_firm) (AI (@fdV_firm) (AI (@tyV_strip) (AI (@fdV_strip) (AI (@tyV_live) (AI (@tyV_size) (AI (@tyV_isAg) (AI (@tyV_cells) (AI (@fdV_live) (AI (@fdV_size) (AI (@fdV_isAg) (AI (@fdV_cells) (AI (@List.getElem?_map.{0, 0}) @Int.natCast_nonneg))))))))))))) := (AI (@tyV_firm) (AI (@fdV_firm) (AI (@tyV_strip) (AI (@fdV_strip) (AI (@tyV_live) (AI (@tyV_size) (AI (@tyV_isAg) (AI (@tyV_cells) (AI (@fdV_live) (AI (@fdV_size) (AI (@fdV_isAg) (AI (@fdV_cells) (AI (@List.getElem?_map.{0, 0}) @Int.natCast_nonneg)))))))))))))
theorem c_Ptr (x : Ty) (hx : fit x) : PC Tryz.prog 25 [tyV x] (tyV (.mk 0 3 0 0 [x] [])) := by
  have h := c_own x hx
  refine PC.enter 7 Tryz.func25 rfl (by decide) rfl rfl (s := [(0, tyV x)]) (by rfl) ?_
  rw [tyV_eq x]
  refine wG Y25_BR @G25_BR ?_
  refine AR.callP h @tyV_eq (AI (@exL_id) (AI (@vaL_id) (AI (@exV_id) @vaV_id))) ?_
  refine goG Y25_BR @G25_BR ?_
  refine wG Y25_BR @G25_BR ?_
  refine Fin.gen0 (rs := [.cell 2 41]) rfl (by first | exact .inl rfl | exact .inr rfl) (by simp only [resX, resA, ↓accU_f, ↓reduceIte, SA, SB, SC, SD, Y25_BR, valG, fpsG, evO, evB, evA, evA1, nilK, eqF, eqC, apOk, intOf, slB, slK,  gd, St.ev, putA, ofl, wrl, putE, V.ofVal, V.ofCell, bin2, un1, seg, fillV, partsOk, Value.oneCell', Nat.reduceBEq, Nat.reduceLT, Nat.reduceSub, Nat.reduceAdd, Nat.reduceMul, Nat.reduceLeDiff, Nat.reduceEqDiff, reduceCtorEq, Int.reduceLT, Int.reduceLE, Int.reduceEq, Int.reduceNe, Int.reduceBEq, Int.reduceBNe, Int.reduceAdd, Int.reduceSub, Int.reduceMul, Int.reduceToNat]; with_reducible exact rfl) ?_
  simp only [tyV_mk, List.map_nil, List.map_cons]
  repeat (first | exact WkF.of (Wk.refl _) (by first | rfl | simp only [List.length_cons, List.length_nil, Nat.reduceAdd, V.ids, V.idsL, idsA, entOk, List.all_cons, List.all_nil, Bool.and_self, Bool.and_true, Bool.true_and, ltB, noId, Nat.reduceLT, decide_true, Bool.true_eq_false, tyV_id, fdV_id, tyL_id, fdL_id, exL_id, vaL_id, exV_id, vaV_id]) | exact WkF.of (Wk.ro _ _) (by first | rfl | simp only [List.length_cons, List.length_nil, Nat.reduceAdd, V.ids, V.idsL, idsA, entOk, List.all_cons, List.all_nil, Bool.and_self, Bool.and_true, Bool.true_and, ltB, noId, Nat.reduceLT, decide_true, Bool.true_eq_false, tyV_id, fdV_id, tyL_id, fdL_id, exL_id, vaL_id, exV_id, vaV_id]) | refine WkF.tu ?_ | refine WkF.ag ?_ | refine WkFL.cons ?_ ?_ | exact WkFL.nil)
def ptS : Ty := .mk 0 5 0 0 [] [.mk 8 2 4 0 [] []]
def ptT : Ty := .mk 0 3 0 0 [ptS] []
theorem Y13_BR : type_of% (AI @F_ag_41 (AI @F_al_41 (AI @F_al_64 (AI @F_el_39 (AI @F_st_41 (AI @F_st_64 (AI @F_sz_41 (@F_sz_64)))))))) := AI @F_ag_41 (AI @F_al_41 (AI @F_al_64 (AI @F_el_39 (AI @F_st_41 (AI @F_st_64 (AI @F_sz_41 (@F_sz_64)))))))
theorem G13_BR : type_of% (AI (@tyV_firm) (AI (@fdV_firm) (AI (@tyV_strip) (AI (@fdV_strip) (AI (@tyV_live) (AI (@tyV_size) (AI (@tyV_isAg) (AI (@tyV_cells) (AI (@fdV_live) (AI (@fdV_size) (AI (@fdV_isAg) (AI (@fdV_cells) (AI (@List.getElem?_map.{0, 0}) @Int.natCast_nonneg))))))))))))) := (AI (@tyV_firm) (AI (@fdV_firm) (AI (@tyV_strip) (AI (@fdV_strip) (AI (@tyV_live) (AI (@tyV_size) (AI (@tyV_isAg) (AI (@tyV_cells) (AI (@fdV_live) (AI (@fdV_size) (AI (@fdV_isAg) (AI (@fdV_cells) (AI (@List.getElem?_map.{0, 0}) @Int.natCast_nonneg)))))))))))))
theorem c_pointer : PC Tryz.prog 13 [] (tyV ptT) := by
  have h1 := c_Uint 4
  have h2 := c_Ptr ptS (by unfold fit; kernel_rfl)
  rw [tyV_mk] at h1
  simp only [ptS, tyV_mk, fdV_mk, List.map_nil, List.map_cons] at h2
  refine PC.enter 6 Tryz.func13 rfl (by decide) rfl rfl (s := []) (by rfl) ?_
  refine wG Y13_BR @G13_BR ?_
  refine AR.callP h1 True.intro (AI (@exL_id) (AI (@vaL_id) (AI (@exV_id) @vaV_id))) ?_
  refine goG Y13_BR @G13_BR ?_
  refine AR.callW h2 True.intro (AI (@exL_id) (AI (@vaL_id) (AI (@exV_id) @vaV_id))) ?_
  refine goG Y13_BR @G13_BR ?_
  refine wG Y13_BR @G13_BR ?_
  refine Fin.gen0 (rs := [.cell 0 41]) rfl (by first | exact .inl rfl | exact .inr rfl) (by simp only [resX, resA, ↓accU_f, ↓reduceIte, SA, SB, SC, SD, Y13_BR, valG, fpsG, evO, evB, evA, evA1, nilK, eqF, eqC, apOk, intOf, slB, slK,  gd, St.ev, putA, ofl, wrl, putE, V.ofVal, V.ofCell, bin2, un1, seg, fillV, partsOk, Value.oneCell', Nat.reduceBEq, Nat.reduceLT, Nat.reduceSub, Nat.reduceAdd, Nat.reduceMul, Nat.reduceLeDiff, Nat.reduceEqDiff, reduceCtorEq, Int.reduceLT, Int.reduceLE, Int.reduceEq, Int.reduceNe, Int.reduceBEq, Int.reduceBNe, Int.reduceAdd, Int.reduceSub, Int.reduceMul, Int.reduceToNat]; with_reducible exact rfl) ?_
  simp only [ptT, ptS, tyV_mk, fdV_mk, List.map_nil, List.map_cons]
  repeat (first | exact WkF.of (Wk.refl _) (by first | rfl | simp only [List.length_cons, List.length_nil, Nat.reduceAdd, V.ids, V.idsL, idsA, entOk, List.all_cons, List.all_nil, Bool.and_self, Bool.and_true, Bool.true_and, ltB, noId, Nat.reduceLT, decide_true, Bool.true_eq_false, tyV_id, fdV_id, tyL_id, fdL_id, exL_id, vaL_id, exV_id, vaV_id]) | exact WkF.of (Wk.ro _ _) (by first | rfl | simp only [List.length_cons, List.length_nil, Nat.reduceAdd, V.ids, V.idsL, idsA, entOk, List.all_cons, List.all_nil, Bool.and_self, Bool.and_true, Bool.true_and, ltB, noId, Nat.reduceLT, decide_true, Bool.true_eq_false, tyV_id, fdV_id, tyL_id, fdL_id, exL_id, vaL_id, exV_id, vaV_id]) | refine WkF.tu ?_ | refine WkF.ag ?_ | refine WkFL.cons ?_ ?_ | exact WkFL.nil)
def atE (n : Int) : Ex := .mk 18 0 .empty 4 [.mk 3 0 .empty 0 [.mk 2 0 ⟨#[112]⟩ 0 [], .mk 1 n .empty 0 []]]
theorem Y14_BR : type_of% (AI @F_ag_48 (AI @F_al_48 (AI @F_el_46 (AI @F_st_48 (@F_sz_48))))) := AI @F_ag_48 (AI @F_al_48 (AI @F_el_46 (AI @F_st_48 (@F_sz_48))))
theorem c_at (n : Int) : PC Tryz.prog 14 [.im (.int .u32 n)] (exV (atE n)) := by
  refine PC.enter 10 Tryz.func14 rfl (by decide) rfl rfl (s := [(0, .im (.int .u32 n))]) (by rfl) ?_
  refine wG Y14_BR True.intro ?_
  refine Fin.gen0 (rs := [.cell 2 48]) rfl (by first | exact .inl rfl | exact .inr rfl) (by simp only [resX, resA, ↓accU_f, ↓reduceIte, SA, SB, SC, SD, Y14_BR, valG, fpsG, evO, evB, evA, evA1, nilK, eqF, eqC, apOk, intOf, slB, slK,  gd, St.ev, putA, ofl, wrl, putE, V.ofVal, V.ofCell, bin2, un1, seg, fillV, partsOk, Value.oneCell', Nat.reduceBEq, Nat.reduceLT, Nat.reduceSub, Nat.reduceAdd, Nat.reduceMul, Nat.reduceLeDiff, Nat.reduceEqDiff, reduceCtorEq, Int.reduceLT, Int.reduceLE, Int.reduceEq, Int.reduceNe, Int.reduceBEq, Int.reduceBNe, Int.reduceAdd, Int.reduceSub, Int.reduceMul, Int.reduceToNat]; with_reducible exact rfl) ?_
  simp only [atE, exV_mk, List.map_nil, List.map_cons]
  repeat (first | exact WkF.of (Wk.refl _) (by first | rfl | simp only [List.length_cons, List.length_nil, Nat.reduceAdd, V.ids, V.idsL, idsA, entOk, List.all_cons, List.all_nil, Bool.and_self, Bool.and_true, Bool.true_and, ltB, noId, Nat.reduceLT, decide_true, Bool.true_eq_false, tyV_id, fdV_id, tyL_id, fdL_id, exL_id, vaL_id, exV_id, vaV_id]) | exact WkF.of (Wk.ro _ _) (by first | rfl | simp only [List.length_cons, List.length_nil, Nat.reduceAdd, V.ids, V.idsL, idsA, entOk, List.all_cons, List.all_nil, Bool.and_self, Bool.and_true, Bool.true_and, ltB, noId, Nat.reduceLT, decide_true, Bool.true_eq_false, tyV_id, fdV_id, tyL_id, fdL_id, exL_id, vaL_id, exV_id, vaV_id]) | refine WkF.tu ?_ | refine WkF.ag ?_ | refine WkFL.cons ?_ ?_ | exact WkFL.nil)
  all_goals first | exact WkFL.nil | exact WkF.wk
end Go.Proofs.YtfggemopnlffeaaGreat
namespace Go.Proofs.YtfggemopnlffeaaGreat
set_option linter.unusedSimpArgs false
set_option linter.unusedVariables false
set_option linter.unnecessarySimpa false
open Go.RowKit
def vsE : List Va := [⟨⟨#[112]⟩, ptT⟩]
theorem fit_ptT : fit ptT := by unfold fit; kernel_rfl
theorem fit_vsE : fitV vsE := ⟨by decide, fun v hv => by rw [List.mem_singleton.1 hv]; exact fit_ptT⟩
theorem Y6_BU : type_of% (AI @F_ag_3 (AI @F_al_41 (AI @F_al_44 (AI @F_el_22 (AI @F_fl_41_0 (AI @F_fl_41_1 (AI @F_st_44 (AI @F_sz_3 (AI @F_sz_41 (@F_sz_44)))))))))) := AI @F_ag_3 (AI @F_al_41 (AI @F_al_44 (AI @F_el_22 (AI @F_fl_41_0 (AI @F_fl_41_1 (AI @F_st_44 (AI @F_sz_3 (AI @F_sz_41 (@F_sz_44)))))))))
theorem G6_BU : type_of% (AI (@tyV_firm) (AI (@fdV_firm) (AI (@tyV_strip) (AI (@fdV_strip) (AI (@tyV_live) (AI (@tyV_size) (AI (@tyV_isAg) (AI (@tyV_cells) (AI (@fdV_live) (AI (@fdV_size) (AI (@fdV_isAg) (AI (@fdV_cells) (AI (@List.getElem?_map.{0, 0}) @Int.natCast_nonneg))))))))))))) := (AI (@tyV_firm) (AI (@fdV_firm) (AI (@tyV_strip) (AI (@fdV_strip) (AI (@tyV_live) (AI (@tyV_size) (AI (@tyV_isAg) (AI (@tyV_cells) (AI (@fdV_live) (AI (@fdV_size) (AI (@fdV_isAg) (AI (@fdV_cells) (AI (@List.getElem?_map.{0, 0}) @Int.natCast_nonneg)))))))))))))
theorem c_example : PC Tryz.prog 6 [] (.im (.bool (true))) := by
  have h1 := c_pointer
  have h2 := c_at 8
  have h3 := c_at 4
  have h4 := c_Expr vsE fit_vsE (atE 8) (by unfold fitE; kernel_rfl)
  have h5 := c_Expr vsE fit_vsE (atE 4) (by unfold fitE; kernel_rfl)
  rw [show exT vsE (atE 8) = (.mk 0 2 4 0 [] [], 0) by kernel_rfl] at h4
  rw [show exT vsE (atE 4) = (tz, 16) by kernel_rfl] at h5
  have h6 := c_Int 4
  have h7 := c_Assignable (.mk 0 1 4 0 [] []) (.mk 0 1 4 0 [] []) (by unfold fit; kernel_rfl) (by unfold fit; kernel_rfl)
  have h8 := c_Assignable ptT (.mk 0 1 4 0 [] []) fit_ptT (by unfold fit; kernel_rfl)
  rw [show asgT (.mk 0 1 4 0 [] []) (.mk 0 1 4 0 [] []) = true by kernel_rfl] at h7
  rw [show asgT ptT (.mk 0 1 4 0 [] []) = false by kernel_rfl] at h8
  simp only [vsE, List.map_cons, List.map_nil, vaV_eq] at h4 h5
  simp only [tyV_mk, List.map_nil, tz] at h4 h5
  refine PC.enter 51 Tryz.func6 rfl (by decide) rfl rfl (s := []) (by rfl) ?_
  refine wG Y6_BU @G6_BU ?_
  refine AR.callP h1 True.intro (AI (@exL_id) (AI (@vaL_id) (AI (@exV_id) @vaV_id))) ?_
  refine goG Y6_BU @G6_BU ?_
  refine wG Y6_BU @G6_BU ?_
  refine AR.callP h2 True.intro (AI (@exL_id) (AI (@vaL_id) (AI (@exV_id) @vaV_id))) ?_
  refine goG Y6_BU @G6_BU ?_
  refine AR.callW h4 True.intro (AI (@exL_id) (AI (@vaL_id) (AI (@exV_id) @vaV_id))) ?_
  refine goG Y6_BU @G6_BU ?_
  refine wG Y6_BU @G6_BU ?_
  refine AR.callP h3 True.intro (AI (@exL_id) (AI (@vaL_id) (AI (@exV_id) @vaV_id))) ?_
  refine goG Y6_BU @G6_BU ?_
  refine AR.callW h5 True.intro (AI (@exL_id) (AI (@vaL_id) (AI (@exV_id) @vaV_id))) ?_
  refine goG Y6_BU @G6_BU ?_
  refine wG Y6_BU @G6_BU ?_
  refine AR.callP h6 True.intro (AI (@exL_id) (AI (@vaL_id) (AI (@exV_id) @vaV_id))) ?_
  refine goG Y6_BU @G6_BU ?_
  refine AR.callP h6 True.intro (AI (@exL_id) (AI (@vaL_id) (AI (@exV_id) @vaV_id))) ?_
  refine goG Y6_BU @G6_BU ?_
  refine AR.callP h7 True.intro (AI (@exL_id) (AI (@vaL_id) (AI (@exV_id) @vaV_id))) ?_
  refine goG Y6_BU @G6_BU ?_
  refine AR.callP h1 True.intro (AI (@exL_id) (AI (@vaL_id) (AI (@exV_id) @vaV_id))) ?_
  refine goG Y6_BU @G6_BU ?_
  refine AR.callP h6 True.intro (AI (@exL_id) (AI (@vaL_id) (AI (@exV_id) @vaV_id))) ?_
  refine goG Y6_BU @G6_BU ?_
  refine AR.callP h8 True.intro (AI (@exL_id) (AI (@vaL_id) (AI (@exV_id) @vaV_id))) ?_
  refine goG Y6_BU @G6_BU ?_
  refine wG Y6_BU @G6_BU ?_
  exact Fin.oneP
end Go.Proofs.YtfggemopnlffeaaGreat
namespace Go.Proofs.YtfggemopnlffeaaGreat
set_option linter.unusedSimpArgs false
set_option linter.unusedVariables false
set_option linter.unnecessarySimpa false
open Go.RowKit
end Go.Proofs.YtfggemopnlffeaaGreat
