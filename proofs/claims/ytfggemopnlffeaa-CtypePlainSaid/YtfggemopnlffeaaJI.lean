/- Walks: clone of the program; Expr of the program. Walks: how many of a number of types, expressions are left. Walks: small makers of types and expressions. Walks: the examples of the chapter. Walks: the laws on accesses and on the order of types. -/
import Derived.Test.YtfggemopnlffeaaHv
import Derived.Test.YtfggemopnlffeaaJH
import Derived.Test.YtfggemopnlffeaaJC
import Derived.Test.YtfggemopnlffeaaLe
import Derived.Test.YtfggemopnlffeaaPm
import Derived.Test.YtfggemopnlffeaaJF
namespace Go.Proofs.Ytfggemopnlffeaa
set_option linter.unusedSimpArgs false
set_option linter.unusedVariables false
set_option linter.unnecessarySimpa false
open Go.RowKit
theorem take_snoc {α β : Type} (f : α → β) {l : List α} {m : Nat} (h : m < l.length) : (l.take m).map f ++ [f l[m]] = (l.take (m + 1)).map f := by
  rw [List.take_succ_eq_append_getElem h, List.map_append]; rfl
theorem take_len {α β : Type} (f : α → β) {l : List α} {m : Nat} (h : m ≤ l.length) : ((l.take m).map f).length = m := by
  simp [Nat.min_eq_left h]
theorem Y39_BS : type_of% (And.intro @F_ag_22 (And.intro @F_ag_23 (And.intro @F_ag_25 (And.intro @F_ag_3 (And.intro @F_ag_59 (And.intro @F_al_25 (And.intro @F_al_59 (And.intro @F_by_25 (And.intro @F_by_59 (And.intro @F_el_22 (And.intro @F_el_23 (And.intro @F_fl_25_3 (And.intro @F_fl_25_4 (And.intro @F_fl_59_0 (And.intro @F_fl_59_1 (And.intro @F_st_59 (And.intro @F_sz_22 (And.intro @F_sz_23 (And.intro @F_sz_25 (And.intro @F_sz_3 (@F_sz_59))))))))))))))))))))) := And.intro @F_ag_22 (And.intro @F_ag_23 (And.intro @F_ag_25 (And.intro @F_ag_3 (And.intro @F_ag_59 (And.intro @F_al_25 (And.intro @F_al_59 (And.intro @F_by_25 (And.intro @F_by_59 (And.intro @F_el_22 (And.intro @F_el_23 (And.intro @F_fl_25_3 (And.intro @F_fl_25_4 (And.intro @F_fl_59_0 (And.intro @F_fl_59_1 (And.intro @F_st_59 (And.intro @F_sz_22 (And.intro @F_sz_23 (And.intro @F_sz_25 (And.intro @F_sz_3 (@F_sz_59))))))))))))))))))))
theorem G39_BS : type_of% (And.intro (@Int.natCast_nonneg) (And.intro (@tyV_firm) (And.intro (@fdV_firm) (And.intro (@tyV_strip) (And.intro (@fdV_strip) (And.intro (@tyV_live) (And.intro (@tyV_size) (And.intro (@tyV_isAg) (And.intro (@tyV_cells) (And.intro (@fdV_live) (And.intro (@fdV_size) (And.intro (@fdV_isAg) (And.intro (@fdV_cells) (And.intro (@List.getElem?_map.{0, 0}) (And.intro (@List.length_take.{0}) @Int.lt_irrefl))))))))))))))) := (And.intro (@Int.natCast_nonneg) (And.intro (@tyV_firm) (And.intro (@fdV_firm) (And.intro (@tyV_strip) (And.intro (@fdV_strip) (And.intro (@tyV_live) (And.intro (@tyV_size) (And.intro (@tyV_isAg) (And.intro (@tyV_cells) (And.intro (@fdV_live) (And.intro (@fdV_size) (And.intro (@fdV_isAg) (And.intro (@fdV_cells) (And.intro (@List.getElem?_map.{0, 0}) (And.intro (@List.length_take.{0}) @Int.lt_irrefl)))))))))))))))
theorem c_clone : ∀ (t : Ty), fit t → PC Try.prog 39 [tyV t] (tyV t) := by
  refine Ty.induct fun o k s c es fs hE hF => ?_
  intro hfit
  obtain ⟨hl1, hl2, hfE, hfF⟩ := fit_mk hfit
  refine PC.enter 44 Try.func39 rfl (by decide) rfl rfl (s := [(0, tyV (.mk o k s c es fs))]) (by rfl) ?_
  simp only [tyV_mk]
  refine wG Y39_BS @G39_BS ?_
  refine AWp.loop ?_
  refine ALp.ghost 3 [] .nl 25 5 ?_
  refine ALp.cutP 3 [(1, .pt 0 0), (2, .pt 1 0), (3, .sl ((es.take (0)).map tyV) (.own 2)), (10, .sl (es.map tyV) .ro), (11, (.im (.int .i64 (es.length)))), (12, (.im (.int .i64 ((((0 : Nat)) : Int)))))] [.box [.im (.int .i64 k), .im (.int .i64 s), .im (.int .i64 c), .sl (es.map tyV) .ro, .sl (fs.map fdV) .ro], .box [.im (.int .i64 0), .im (.int .i64 0), .im (.int .i64 0), .sl [] .nl, .sl [] .nl], .tip 25 5 (0)] (And.intro (@tyV_id) (And.intro (@tyL_id) @fdL_id)) ?_
  refine ALp.upto es.length (fun _ => True) (fun m => ⟨dn 44 [(1, .pt 0 0), (2, .pt 1 0), (3, .sl ((es.take (m)).map tyV) (.own 2)), (10, .sl (es.map tyV) .ro), (11, (.im (.int .i64 (es.length)))), (12, (.im (.int .i64 ((((m : Nat)) : Int)))))], ofl [.box [.im (.int .i64 k), .im (.int .i64 s), .im (.int .i64 c), .sl (es.map tyV) .ro, .sl (fs.map fdV) .ro], .box [.im (.int .i64 0), .im (.int .i64 0), .im (.int .i64 0), .sl [] .nl, .sl [] .nl], .tip 25 5 (m)]⟩) ?_ 0 (Nat.zero_le _) trivial
  intro m hm _ hnext
  by_cases hlt : m < es.length
  case pos =>
    have hlt' : (m : Int) < (es.length : Int) := by omega
    have hm1 := wrap_succ hlt (by omega)
    have hc := hE es[m] (List.getElem_mem hlt) (hfE _ (List.getElem_mem hlt))
    have hmin : min m es.length = m := Nat.min_eq_left hm
    have hsn := take_snoc tyV hlt
    have hg := get_some hlt
    have hA : (m + 1) * 72 ≤ 140737488355328 := by omega
    refine wG Y39_BS (And.intro (@G39_BS) (And.intro hlt' hg)) ?_
    refine AR.callP hc @tyV_eq (And.intro (@tyV_id) (And.intro (@tyL_id) @fdL_id)) ?_
    refine goG Y39_BS (And.intro (@G39_BS) (And.intro hlt' (And.intro hmin (And.intro hA hsn)))) ?_
    refine wG Y39_BS (And.intro (@G39_BS) hm1) ?_
    refine ALp.cutP 3 [(1, .pt 0 0), (2, .pt 1 0), (3, .sl ((es.take (m + 1)).map tyV) (.own 2)), (10, .sl (es.map tyV) .ro), (11, (.im (.int .i64 (es.length)))), (12, (.im (.int .i64 ((((m + 1 : Nat)) : Int)))))] [.box [.im (.int .i64 k), .im (.int .i64 s), .im (.int .i64 c), .sl (es.map tyV) .ro, .sl (fs.map fdV) .ro], .box [.im (.int .i64 0), .im (.int .i64 0), .im (.int .i64 0), .sl [] .nl, .sl [] .nl], .tip 25 5 (m + 1)] (And.intro (@tyV_id) (And.intro (@tyL_id) @fdL_id)) ?_
    exact hnext (m + 1) (by omega) (by omega) trivial
  obtain rfl : m = es.length := by omega
  clear hnext
  rw [List.take_length]
  refine whG Y39_BS @G39_BS ?_
  refine Blk'.here (Thn.n ?_)
  refine wG Y39_BS @G39_BS ?_
  refine AWp.loop ?_
  refine ALp.ghost 6 [] .nl 59 6 ?_
  refine ALp.cutP 4 [(1, .pt 0 0), (2, .pt 1 0), (3, .sl (es.map tyV) (.own 2)), (6, .sl ((fs.take (0)).map fdV) (.own 3)), (23, .sl (fs.map fdV) .ro), (24, (.im (.int .i64 (fs.length)))), (25, (.im (.int .i64 ((((0 : Nat)) : Int)))))] [.box [.im (.int .i64 k), .im (.int .i64 s), .im (.int .i64 c), .sl (es.map tyV) .ro, .sl (fs.map fdV) .ro], .box [.im (.int .i64 0), .im (.int .i64 0), .im (.int .i64 0), .sl [] .nl, .sl [] .nl], .tip 25 5 es.length, .tip 59 6 (0)] (And.intro (@tyV_id) (And.intro (@tyL_id) @fdL_id)) ?_
  refine ALp.upto fs.length (fun _ => True) (fun m => ⟨dn 44 [(1, .pt 0 0), (2, .pt 1 0), (3, .sl (es.map tyV) (.own 2)), (6, .sl ((fs.take (m)).map fdV) (.own 3)), (23, .sl (fs.map fdV) .ro), (24, (.im (.int .i64 (fs.length)))), (25, (.im (.int .i64 ((((m : Nat)) : Int)))))], ofl [.box [.im (.int .i64 k), .im (.int .i64 s), .im (.int .i64 c), .sl (es.map tyV) .ro, .sl (fs.map fdV) .ro], .box [.im (.int .i64 0), .im (.int .i64 0), .im (.int .i64 0), .sl [] .nl, .sl [] .nl], .tip 25 5 es.length, .tip 59 6 (m)]⟩) ?_ 0 (Nat.zero_le _) trivial
  intro m hm _ hnext
  by_cases hlt : m < fs.length
  case pos =>
    have hlt' : (m : Int) < (fs.length : Int) := by omega
    have hm1 := wrap_succ hlt (by omega)
    have hc := hF fs[m] (List.getElem_mem hlt) (hfF _ (List.getElem_mem hlt))
    have hmin : min m fs.length = m := Nat.min_eq_left hm
    have hsn := take_snoc fdV hlt
    have hg := get_some hlt
    have hA : (m + 1) * 80 ≤ 140737488355328 := by omega
    rw [fdV_eq fs[m]] at hsn
    refine wdG Y39_BS (And.intro (@G39_BS) (And.intro hlt' hg)) ?_
    refine AR.callP hc @tyV_eq (And.intro (@tyV_id) (And.intro (@tyL_id) @fdL_id)) ?_
    refine goG Y39_BS (And.intro (@G39_BS) (And.intro hlt' (And.intro hmin (And.intro hA hsn)))) ?_
    refine wdG Y39_BS (And.intro (@G39_BS) hm1) ?_
    refine ALp.cutP 4 [(1, .pt 0 0), (2, .pt 1 0), (3, .sl (es.map tyV) (.own 2)), (6, .sl ((fs.take (m + 1)).map fdV) (.own 3)), (23, .sl (fs.map fdV) .ro), (24, (.im (.int .i64 (fs.length)))), (25, (.im (.int .i64 ((((m + 1 : Nat)) : Int)))))] [.box [.im (.int .i64 k), .im (.int .i64 s), .im (.int .i64 c), .sl (es.map tyV) .ro, .sl (fs.map fdV) .ro], .box [.im (.int .i64 0), .im (.int .i64 0), .im (.int .i64 0), .sl [] .nl, .sl [] .nl], .tip 25 5 es.length, .tip 59 6 (m + 1)] (And.intro (@tyV_id) (And.intro (@tyL_id) @fdL_id)) ?_
    exact hnext (m + 1) (by omega) (by omega) trivial
  obtain rfl : m = fs.length := by omega
  clear hnext
  rw [List.take_length]
  refine wG Y39_BS @G39_BS ?_
  refine Fin.gen0 (rs := [.cell 2 25]) rfl (by first | exact .inl rfl | exact .inr rfl) (by simp only [resX, resA, ↓accU_f, ↓reduceIte, SA, SB, SC, SD, Y39_BS, valG, fpsG, evO, evB, evA, evA1, nilK, eqF, eqC, apOk, intOf, slB, slK,  gd, St.ev, putA, ofl, wrl, putE, V.ofVal, V.ofCell, bin2, un1, seg, fillV, partsOk, Value.oneCell', Nat.reduceBEq, Nat.reduceLT, Nat.reduceSub, Nat.reduceAdd, Nat.reduceMul, Nat.reduceLeDiff, Nat.reduceEqDiff, reduceCtorEq, Int.reduceLT, Int.reduceLE, Int.reduceEq, Int.reduceNe, Int.reduceBEq, Int.reduceBNe, Int.reduceAdd, Int.reduceSub, Int.reduceMul, Int.reduceToNat]; with_reducible exact rfl) ?_
  repeat (first | exact WkF.of (Wk.refl _) (by first | rfl | simp only [List.length_cons, List.length_nil, Nat.reduceAdd, V.ids, V.idsL, idsA, entOk, List.all_cons, List.all_nil, Bool.and_self, Bool.and_true, Bool.true_and, ltB, noId, Nat.reduceLT, decide_true, Bool.true_eq_false, tyV_id, fdV_id, tyL_id, fdL_id, tyV_id, tyL_id, fdL_id]) | exact WkF.of (Wk.ro _ _) (by first | rfl | simp only [List.length_cons, List.length_nil, Nat.reduceAdd, V.ids, V.idsL, idsA, entOk, List.all_cons, List.all_nil, Bool.and_self, Bool.and_true, Bool.true_and, ltB, noId, Nat.reduceLT, decide_true, Bool.true_eq_false, tyV_id, fdV_id, tyL_id, fdL_id, tyV_id, tyL_id, fdL_id]) | refine WkF.tu ?_ | refine WkF.ag ?_ | refine WkFL.cons ?_ ?_ | exact WkFL.nil)
theorem fit_get {x : Option Ty} (h : ∀ y, x = some y → fit y) : fit (x.getD tz) := by
  cases x with
  | none => exact fit_tz
  | some y => exact h y rfl
theorem fit_fnd {vs : List Va} (hv : fitV vs) (e : Ex) (w : Int) : fit (fnd vs e w).1 := by
  unfold fnd
  split
  · split
    · rename_i hg
      have ht := fit_tyOf hv (thr e).1
      generalize tyOf vs (thr e).1 = t at ht hg
      refine fit_get fun y hy => ?_
      unfold fieldA at hy
      split at hy
      · cases he : t.elem with
        | nil => rw [he] at hy; exact fat_fit fit_tz hy
        | cons x l => rw [he] at hy; exact fat_fit (fit_elem ht (by rw [he]; simp)) hy
      · cases hy
    · exact fit_tz
  · exact fit_tz
theorem fit_typ {vs : List Va} (hv : fitV vs) (e : Ex) : fit (typ vs e) := by
  unfold typ
  split
  · exact fit_tyOf hv _
  split
  · unfold fit; kernel_rfl
  split
  · unfold fit; kernel_rfl
  split
  · split
    · exact fit_fnd hv _ _
    · exact fit_tz
  · exact fit_tz
theorem Y16_BS : type_of% (And.intro @F_ag_25 (And.intro @F_ag_34 (And.intro @F_al_25 (And.intro @F_st_25 (And.intro @F_sz_25 (@F_sz_34)))))) := And.intro @F_ag_25 (And.intro @F_ag_34 (And.intro @F_al_25 (And.intro @F_st_25 (And.intro @F_sz_25 (@F_sz_34)))))
theorem G16_BS : type_of% (And.intro (@tyV_firm) (And.intro (@fdV_firm) (And.intro (@tyV_strip) (And.intro (@fdV_strip) (And.intro (@tyV_live) (And.intro (@tyV_size) (And.intro (@tyV_isAg) (And.intro (@tyV_cells) (And.intro (@fdV_live) (And.intro (@fdV_size) (And.intro (@fdV_isAg) (And.intro (@fdV_cells) (And.intro (@List.getElem?_map.{0, 0}) @Int.natCast_nonneg))))))))))))) := (And.intro (@tyV_firm) (And.intro (@fdV_firm) (And.intro (@tyV_strip) (And.intro (@fdV_strip) (And.intro (@tyV_live) (And.intro (@tyV_size) (And.intro (@tyV_isAg) (And.intro (@tyV_cells) (And.intro (@fdV_live) (And.intro (@fdV_size) (And.intro (@fdV_isAg) (And.intro (@fdV_cells) (And.intro (@List.getElem?_map.{0, 0}) @Int.natCast_nonneg)))))))))))))
theorem c_Expr (vs : List Va) (hv : fitV vs) (e : Ex) (he : fitE e) : PC Try.prog 16 [exV e, (V.sl (vs.map vaV) .ro)] (.tu [tyV (exT vs e).1, (.im (.int .i64 ((exT vs e).2)))]) := by
  have h1 := c_CheckE vs hv.1 e he
  unfold exT
  refine PC.enter 23 Try.func16 rfl (by decide) rfl rfl (s := [(0, exV e), (1, (V.sl (vs.map vaV) .ro))]) (by rfl) ?_
  simp only [exV_eq]
  by_cases hc : chkE vs e = 0
  case neg =>
    have ec : (chkE vs e == 0) = false := by simp [hc]
    rw [ec]
    simp only [Bool.false_eq_true, if_false]
    refine wG Y16_BS @G16_BS ?_
    refine AR.callP h1 @exV_eq (And.intro (@exL_id) (And.intro (@vaL_id) (And.intro (@exV_id) @vaV_id))) ?_
    refine goG Y16_BS (And.intro (@G16_BS) hc) ?_
    refine wG Y16_BS (And.intro (@G16_BS) hc) ?_
    refine Fin.gen0 (rs := [.cell 4 25, .tmp 5]) rfl (by first | exact .inl rfl | exact .inr rfl) (by simp only [resX, resA, ↓accU_f, ↓reduceIte, SA, SB, SC, SD, Y16_BS, valG, fpsG, evO, evB, evA, evA1, nilK, eqF, eqC, apOk, intOf, slB, slK,  gd, St.ev, putA, ofl, wrl, putE, V.ofVal, V.ofCell, bin2, un1, seg, fillV, partsOk, Value.oneCell', Nat.reduceBEq, Nat.reduceLT, Nat.reduceSub, Nat.reduceAdd, Nat.reduceMul, Nat.reduceLeDiff, Nat.reduceEqDiff, reduceCtorEq, Int.reduceLT, Int.reduceLE, Int.reduceEq, Int.reduceNe, Int.reduceBEq, Int.reduceBNe, Int.reduceAdd, Int.reduceSub, Int.reduceMul, Int.reduceToNat]; with_reducible exact rfl) ?_
    simp only [tz, tyV_mk, List.map_nil]
    repeat (first | exact WkF.of (Wk.refl _) (by first | rfl | simp only [List.length_cons, List.length_nil, Nat.reduceAdd, V.ids, V.idsL, idsA, entOk, List.all_cons, List.all_nil, Bool.and_self, Bool.and_true, Bool.true_and, ltB, noId, Nat.reduceLT, decide_true, Bool.true_eq_false, tyV_id, fdV_id, tyL_id, fdL_id, exL_id, vaL_id, exV_id, vaV_id]) | exact WkF.of (Wk.ro _ _) (by first | rfl | simp only [List.length_cons, List.length_nil, Nat.reduceAdd, V.ids, V.idsL, idsA, entOk, List.all_cons, List.all_nil, Bool.and_self, Bool.and_true, Bool.true_and, ltB, noId, Nat.reduceLT, decide_true, Bool.true_eq_false, tyV_id, fdV_id, tyL_id, fdL_id, exL_id, vaL_id, exV_id, vaV_id]) | refine WkF.tu ?_ | refine WkF.ag ?_ | refine WkFL.cons ?_ ?_ | exact WkFL.nil)
  have hf := chkE_efm hc
  have ec : (chkE vs e == 0) = true := by simp [hc]
  rw [ec]
  simp only [if_true]
  rw [hc] at h1
  have h2 := c_accesses vs hv e he hf
  have h3 := c_typed vs hv e hf
  cases ha : acs vs e with
  | false =>
    rw [ha] at h2
    simp only [Bool.false_eq_true, if_false]
    refine wG Y16_BS @G16_BS ?_
    refine AR.callP h1 @exV_eq (And.intro (@exL_id) (And.intro (@vaL_id) (And.intro (@exV_id) @vaV_id))) ?_
    refine goG Y16_BS @G16_BS ?_
    refine wG Y16_BS @G16_BS ?_
    refine AR.callP h2 @exV_eq (And.intro (@exL_id) (And.intro (@vaL_id) (And.intro (@exV_id) @vaV_id))) ?_
    refine goG Y16_BS @G16_BS ?_
    refine wG Y16_BS @G16_BS ?_
    refine Fin.gen0 (rs := [.cell 4 25, .tmp 5]) rfl (by first | exact .inl rfl | exact .inr rfl) (by simp only [resX, resA, ↓accU_f, ↓reduceIte, SA, SB, SC, SD, Y16_BS, valG, fpsG, evO, evB, evA, evA1, nilK, eqF, eqC, apOk, intOf, slB, slK,  gd, St.ev, putA, ofl, wrl, putE, V.ofVal, V.ofCell, bin2, un1, seg, fillV, partsOk, Value.oneCell', Nat.reduceBEq, Nat.reduceLT, Nat.reduceSub, Nat.reduceAdd, Nat.reduceMul, Nat.reduceLeDiff, Nat.reduceEqDiff, reduceCtorEq, Int.reduceLT, Int.reduceLE, Int.reduceEq, Int.reduceNe, Int.reduceBEq, Int.reduceBNe, Int.reduceAdd, Int.reduceSub, Int.reduceMul, Int.reduceToNat]; with_reducible exact rfl) ?_
    simp only [tz, tyV_mk, List.map_nil]
    repeat (first | exact WkF.of (Wk.refl _) (by first | rfl | simp only [List.length_cons, List.length_nil, Nat.reduceAdd, V.ids, V.idsL, idsA, entOk, List.all_cons, List.all_nil, Bool.and_self, Bool.and_true, Bool.true_and, ltB, noId, Nat.reduceLT, decide_true, Bool.true_eq_false, tyV_id, fdV_id, tyL_id, fdL_id, exL_id, vaL_id, exV_id, vaV_id]) | exact WkF.of (Wk.ro _ _) (by first | rfl | simp only [List.length_cons, List.length_nil, Nat.reduceAdd, V.ids, V.idsL, idsA, entOk, List.all_cons, List.all_nil, Bool.and_self, Bool.and_true, Bool.true_and, ltB, noId, Nat.reduceLT, decide_true, Bool.true_eq_false, tyV_id, fdV_id, tyL_id, fdL_id, exL_id, vaL_id, exV_id, vaV_id]) | refine WkF.tu ?_ | refine WkF.ag ?_ | refine WkFL.cons ?_ ?_ | exact WkFL.nil)
  | true =>
    rw [ha] at h2
    simp only [if_true]
    have h4 := c_clone _ (fit_typ hv e)
    generalize typ vs e = t at h3 h4 ⊢
    refine wG Y16_BS @G16_BS ?_
    refine AR.callP h1 @exV_eq (And.intro (@exL_id) (And.intro (@vaL_id) (And.intro (@exV_id) @vaV_id))) ?_
    refine goG Y16_BS @G16_BS ?_
    refine wG Y16_BS @G16_BS ?_
    refine AR.callP h2 @exV_eq (And.intro (@exL_id) (And.intro (@vaL_id) (And.intro (@exV_id) @vaV_id))) ?_
    refine goG Y16_BS @G16_BS ?_
    refine wG Y16_BS @G16_BS ?_
    refine AR.callP h3 @exV_eq (And.intro (@exL_id) (And.intro (@vaL_id) (And.intro (@exV_id) @vaV_id))) ?_
    refine goG Y16_BS @G16_BS ?_
    refine AR.callP h4 @tyV_eq (And.intro (@exL_id) (And.intro (@vaL_id) (And.intro (@exV_id) @vaV_id))) ?_
    refine goG Y16_BS @G16_BS ?_
    refine wG Y16_BS @G16_BS ?_
    refine Fin.gen0 (rs := [.cell 4 25, .tmp 5]) rfl (by first | exact .inl rfl | exact .inr rfl) (by simp only [resX, resA, ↓accU_f, ↓reduceIte, SA, SB, SC, SD, Y16_BS, valG, fpsG, evO, evB, evA, evA1, nilK, eqF, eqC, apOk, intOf, slB, slK,  gd, St.ev, putA, ofl, wrl, putE, V.ofVal, V.ofCell, bin2, un1, seg, fillV, partsOk, Value.oneCell', Nat.reduceBEq, Nat.reduceLT, Nat.reduceSub, Nat.reduceAdd, Nat.reduceMul, Nat.reduceLeDiff, Nat.reduceEqDiff, reduceCtorEq, Int.reduceLT, Int.reduceLE, Int.reduceEq, Int.reduceNe, Int.reduceBEq, Int.reduceBNe, Int.reduceAdd, Int.reduceSub, Int.reduceMul, Int.reduceToNat]; with_reducible exact rfl) ?_
    simp only [tyV_eq]
    repeat (first | exact WkF.of (Wk.refl _) (by first | rfl | simp only [List.length_cons, List.length_nil, Nat.reduceAdd, V.ids, V.idsL, idsA, entOk, List.all_cons, List.all_nil, Bool.and_self, Bool.and_true, Bool.true_and, ltB, noId, Nat.reduceLT, decide_true, Bool.true_eq_false, tyV_id, fdV_id, tyL_id, fdL_id, exL_id, vaL_id, exV_id, vaV_id]) | exact WkF.of (Wk.ro _ _) (by first | rfl | simp only [List.length_cons, List.length_nil, Nat.reduceAdd, V.ids, V.idsL, idsA, entOk, List.all_cons, List.all_nil, Bool.and_self, Bool.and_true, Bool.true_and, ltB, noId, Nat.reduceLT, decide_true, Bool.true_eq_false, tyV_id, fdV_id, tyL_id, fdL_id, exL_id, vaL_id, exV_id, vaV_id]) | refine WkF.tu ?_ | refine WkF.ag ?_ | refine WkFL.cons ?_ ?_ | exact WkFL.nil)
end Go.Proofs.Ytfggemopnlffeaa
namespace Go.Proofs.Ytfggemopnlffeaa
set_option linter.unusedSimpArgs false
set_option linter.unusedVariables false
set_option linter.unnecessarySimpa false
open Go.RowKit
theorem pair_cond {m n : Nat} {g : Int} (h : (decide ((m : Int) < n) && decide (0 < g)) = true) : m < n ∧ 0 < g := by
  simp only [Bool.and_eq_true, decide_eq_true_eq] at h
  omega
theorem pair_stop {α : Type} {f : α → Int → Int} {l : List α} (hb : ∀ t ∈ l, ∀ n, 0 < n → 0 ≤ f t n ∧ f t n < n) {m : Nat} (hm : m ≤ l.length) {n : Int} (hn : 0 ≤ n) (h : (decide ((m : Int) < l.length) && decide (0 < gfold f (l.take m) n)) = false) : gfold f (l.take m) n = gfold f l n := by
  simp only [Bool.and_eq_false_iff, decide_eq_false_iff_not] at h
  rcases h with h | h
  · rw [List.take_of_length_le (by omega)]
  · exact (gfold_all hb hn h).symm
theorem Y8_BT : type_of% (And.intro @F_ag_22 (And.intro @F_ag_23 (And.intro @F_ag_25 (And.intro @F_el_22 (And.intro @F_el_23 (And.intro @F_fl_25_3 (And.intro @F_fl_25_4 (And.intro @F_fl_59_1 (And.intro @F_sz_22 (And.intro @F_sz_23 (And.intro @F_sz_25 (@F_sz_59)))))))))))) := And.intro @F_ag_22 (And.intro @F_ag_23 (And.intro @F_ag_25 (And.intro @F_el_22 (And.intro @F_el_23 (And.intro @F_fl_25_3 (And.intro @F_fl_25_4 (And.intro @F_fl_59_1 (And.intro @F_sz_22 (And.intro @F_sz_23 (And.intro @F_sz_25 (@F_sz_59)))))))))))
theorem G8_BT : type_of% (And.intro (@Int.natCast_nonneg) (And.intro (@tyV_firm) (And.intro (@fdV_firm) (And.intro (@tyV_strip) (And.intro (@fdV_strip) (And.intro (@tyV_live) (And.intro (@tyV_size) (And.intro (@tyV_isAg) (And.intro (@tyV_cells) (And.intro (@fdV_live) (And.intro (@fdV_size) (And.intro (@fdV_isAg) (And.intro (@fdV_cells) @List.getElem?_map.{0, 0}))))))))))))) := (And.intro (@Int.natCast_nonneg) (And.intro (@tyV_firm) (And.intro (@fdV_firm) (And.intro (@tyV_strip) (And.intro (@fdV_strip) (And.intro (@tyV_live) (And.intro (@tyV_size) (And.intro (@tyV_isAg) (And.intro (@tyV_cells) (And.intro (@fdV_live) (And.intro (@fdV_size) (And.intro (@fdV_isAg) (And.intro (@fdV_cells) @List.getElem?_map.{0, 0})))))))))))))
theorem c_left : ∀ (t : Ty), fit t → ∀ n : Int, 0 < n → n ≤ 4194304 → PC Try.prog 8 [tyV t, (.im (.int .i64 (n)))] (.im (.int .i64 (lft t n))) := by
  refine Ty.induct fun o k s c es fs hT hF => ?_
  intro hfit n hn hn2
  obtain ⟨hl1, hl2, hfE, hfF⟩ := fit_mk hfit
  have hw : IntKind.i64.wrap (n - 1) = n - 1 := wrap_in (by omega)
  rw [lft_mk]
  refine PC.enter 47 Try.func8 rfl (by decide) rfl rfl (s := [(0, tyV (.mk o k s c es fs)), (1, (.im (.int .i64 (n))))]) (by rfl) ?_
  simp only [tyV_mk]
  refine wG Y8_BT (And.intro (@G8_BT) hw) ?_
  refine AWp.loop ?_
  refine ALp.cutP 1 [(1, (.im (.int .i64 (gfold lft (es.take (0)) (n - 1))))), (2, .pt 0 0), (5, (.im (.int .i64 ((((0 : Nat)) : Int)))))] [.box [.im (.int .i64 k), .im (.int .i64 s), .im (.int .i64 c), .sl (es.map tyV) .ro, .sl (fs.map fdV) .ro]] (And.intro (@exL_id) (And.intro (@vaL_id) (And.intro (@exV_id) @vaV_id))) ?_
  refine ALp.upto es.length (fun _ => True) (fun m => ⟨dn 47 [(1, (.im (.int .i64 (gfold lft (es.take (m)) (n - 1))))), (2, .pt 0 0), (5, (.im (.int .i64 ((((m : Nat)) : Int)))))], ofl [.box [.im (.int .i64 k), .im (.int .i64 s), .im (.int .i64 c), .sl (es.map tyV) .ro, .sl (fs.map fdV) .ro]]⟩) ?_ 0 (Nat.zero_le _) trivial
  intro m hm _ hnext
  refine wG Y8_BT @G8_BT ?_
  refine AWp.condAB rfl rfl (fun hE => ?_) (fun hE => ?_)
  · obtain ⟨hlt, hp⟩ := pair_cond hE
    have hlt' : (m : Int) < (es.length : Int) := by omega
    have hm1 := wrap_succ hlt (by omega)
    have hb := gfold_bound (f := lft) (l := es.take m) (fun t _ => lft_bound t) (n - 1) (by omega)
    have hc := hT es[m] (List.getElem_mem hlt) (hfE _ (List.getElem_mem hlt)) _ hp (by omega)
    rw [← gfold_take hlt hp] at hc
    have hg := get_some hlt
    refine wG Y8_BT (And.intro (@G8_BT) (And.intro hlt' hg)) ?_
    refine AR.callP hc @tyV_eq (And.intro (@exL_id) (And.intro (@vaL_id) (And.intro (@exV_id) @vaV_id))) ?_
    refine goG Y8_BT @G8_BT ?_
    refine wG Y8_BT (And.intro (@G8_BT) hm1) ?_
    refine ALp.cutP 1 [(1, (.im (.int .i64 (gfold lft (es.take (m + 1)) (n - 1))))), (2, .pt 0 0), (5, (.im (.int .i64 ((((m + 1 : Nat)) : Int)))))] [.box [.im (.int .i64 k), .im (.int .i64 s), .im (.int .i64 c), .sl (es.map tyV) .ro, .sl (fs.map fdV) .ro]] (And.intro (@exL_id) (And.intro (@vaL_id) (And.intro (@exV_id) @vaV_id))) ?_
    exact hnext (m + 1) (by omega) (by omega) trivial
  rw [pair_stop (fun t _ => lft_bound t) hm (by omega) hE]
  clear hnext hE
  generalize hm0 : m = m0
  clear hm hm0
  have hb0 := gfold_bound (f := lft) (l := es) (fun t _ => lft_bound t) (n - 1) (by omega)
  refine whG Y8_BT @G8_BT ?_
  refine Blk'.here (Thn.n ?_)
  refine wG Y8_BT @G8_BT ?_
  refine AWp.loop ?_
  refine ALp.cutP 1 [(1, (.im (.int .i64 (gfold lft (fs.take (0)) (gfold lft es (n - 1)))))), (2, .pt 0 0), (6, (.im (.int .i64 ((((0 : Nat)) : Int)))))] [.box [.im (.int .i64 k), .im (.int .i64 s), .im (.int .i64 c), .sl (es.map tyV) .ro, .sl (fs.map fdV) .ro]] (And.intro (@exL_id) (And.intro (@vaL_id) (And.intro (@exV_id) @vaV_id))) ?_
  refine ALp.upto fs.length (fun _ => True) (fun m => ⟨dn 47 [(1, (.im (.int .i64 (gfold lft (fs.take (m)) (gfold lft es (n - 1)))))), (2, .pt 0 0), (6, (.im (.int .i64 ((((m : Nat)) : Int)))))], ofl [.box [.im (.int .i64 k), .im (.int .i64 s), .im (.int .i64 c), .sl (es.map tyV) .ro, .sl (fs.map fdV) .ro]]⟩) ?_ 0 (Nat.zero_le _) trivial
  intro m hm _ hnext
  refine wG Y8_BT @G8_BT ?_
  refine AWp.condAB rfl rfl (fun hE => ?_) (fun hE => ?_)
  · obtain ⟨hlt, hp⟩ := pair_cond hE
    have hlt' : (m : Int) < (fs.length : Int) := by omega
    have hm1 := wrap_succ hlt (by omega)
    have hb := gfold_bound (f := lft) (l := fs.take m) (fun t _ => lft_bound t) (gfold lft es (n - 1)) (by omega)
    have hc := hF fs[m] (List.getElem_mem hlt) (hfF _ (List.getElem_mem hlt)) _ hp (by omega)
    rw [← gfold_take hlt hp] at hc
    have hg := get_some hlt
    refine wG Y8_BT (And.intro (@G8_BT) (And.intro hlt' hg)) ?_
    refine AR.callP hc @tyV_eq (And.intro (@exL_id) (And.intro (@vaL_id) (And.intro (@exV_id) @vaV_id))) ?_
    refine goG Y8_BT @G8_BT ?_
    refine wG Y8_BT (And.intro (@G8_BT) hm1) ?_
    refine ALp.cutP 1 [(1, (.im (.int .i64 (gfold lft (fs.take (m + 1)) (gfold lft es (n - 1)))))), (2, .pt 0 0), (6, (.im (.int .i64 ((((m + 1 : Nat)) : Int)))))] [.box [.im (.int .i64 k), .im (.int .i64 s), .im (.int .i64 c), .sl (es.map tyV) .ro, .sl (fs.map fdV) .ro]] (And.intro (@exL_id) (And.intro (@vaL_id) (And.intro (@exV_id) @vaV_id))) ?_
    exact hnext (m + 1) (by omega) (by omega) trivial
  rw [pair_stop (fun t _ => lft_bound t) hm (by omega) hE]
  clear hnext hE
  refine wG Y8_BT @G8_BT ?_
  exact Fin.oneP
theorem Y14_BT : type_of% (And.intro @F_ag_32 (And.intro @F_ag_34 (And.intro @F_el_32 (And.intro @F_fl_34_4 (And.intro @F_sz_32 (@F_sz_34)))))) := And.intro @F_ag_32 (And.intro @F_ag_34 (And.intro @F_el_32 (And.intro @F_fl_34_4 (And.intro @F_sz_32 (@F_sz_34)))))
theorem G14_BT : type_of% (And.intro (@Int.natCast_nonneg) (And.intro (@exV_firm) (And.intro (@exV_strip) (And.intro (@exV_live) (And.intro (@exV_size) (And.intro (@exV_isAg) (And.intro (@exV_cells) @List.getElem?_map.{0, 0}))))))) := (And.intro (@Int.natCast_nonneg) (And.intro (@exV_firm) (And.intro (@exV_strip) (And.intro (@exV_live) (And.intro (@exV_size) (And.intro (@exV_isAg) (And.intro (@exV_cells) @List.getElem?_map.{0, 0})))))))
theorem c_exprs : ∀ (t : Ex), fitE t → ∀ n : Int, 0 < n → n ≤ 4194304 → PC Try.prog 14 [exV t, (.im (.int .i64 (n)))] (.im (.int .i64 (exn t n))) := by
  refine Ex.induct fun o k s w l hL => ?_
  intro hfit n hn hn2
  obtain ⟨hl1, hfL⟩ := fitE_mk hfit
  have hw : IntKind.i64.wrap (n - 1) = n - 1 := wrap_in (by omega)
  rw [exn_mk]
  refine PC.enter 27 Try.func14 rfl (by decide) rfl rfl (s := [(0, exV (.mk o k s w l)), (1, (.im (.int .i64 (n))))]) (by rfl) ?_
  simp only [exV_mk]
  refine wG Y14_BT (And.intro (@G14_BT) hw) ?_
  refine AWp.loop ?_
  refine ALp.cutP 1 [(1, (.im (.int .i64 (gfold exn (l.take (0)) (n - 1))))), (2, .pt 0 0), (5, (.im (.int .i64 ((((0 : Nat)) : Int)))))] [.box [.im (.int .i64 o), .im (.int .u32 k), .im (.string s), .im (.int .i64 w), .sl (l.map exV) .ro]] (And.intro (@exL_id) (And.intro (@vaL_id) (And.intro (@exV_id) @vaV_id))) ?_
  refine ALp.upto l.length (fun _ => True) (fun m => ⟨dn 27 [(1, (.im (.int .i64 (gfold exn (l.take (m)) (n - 1))))), (2, .pt 0 0), (5, (.im (.int .i64 ((((m : Nat)) : Int)))))], ofl [.box [.im (.int .i64 o), .im (.int .u32 k), .im (.string s), .im (.int .i64 w), .sl (l.map exV) .ro]]⟩) ?_ 0 (Nat.zero_le _) trivial
  intro m hm _ hnext
  refine wG Y14_BT @G14_BT ?_
  refine AWp.condAB rfl rfl (fun hE => ?_) (fun hE => ?_)
  · obtain ⟨hlt, hp⟩ := pair_cond hE
    have hlt' : (m : Int) < (l.length : Int) := by omega
    have hm1 := wrap_succ hlt (by omega)
    have hb := gfold_bound (f := exn) (l := l.take m) (fun t _ => exn_bound t) (n - 1) (by omega)
    have hc := hL l[m] (List.getElem_mem hlt) (hfL _ (List.getElem_mem hlt)) _ hp (by omega)
    rw [← gfold_take hlt hp] at hc
    have hg := get_some hlt
    refine wG Y14_BT (And.intro (@G14_BT) (And.intro hlt' hg)) ?_
    refine AR.callP hc @exV_eq (And.intro (@exL_id) (And.intro (@vaL_id) (And.intro (@exV_id) @vaV_id))) ?_
    refine goG Y14_BT @G14_BT ?_
    refine wG Y14_BT (And.intro (@G14_BT) hm1) ?_
    refine ALp.cutP 1 [(1, (.im (.int .i64 (gfold exn (l.take (m + 1)) (n - 1))))), (2, .pt 0 0), (5, (.im (.int .i64 ((((m + 1 : Nat)) : Int)))))] [.box [.im (.int .i64 o), .im (.int .u32 k), .im (.string s), .im (.int .i64 w), .sl (l.map exV) .ro]] (And.intro (@exL_id) (And.intro (@vaL_id) (And.intro (@exV_id) @vaV_id))) ?_
    exact hnext (m + 1) (by omega) (by omega) trivial
  rw [pair_stop (fun t _ => exn_bound t) hm (by omega) hE]
  clear hnext hE
  refine wG Y14_BT @G14_BT ?_
  exact Fin.oneP
theorem Y15_BT : type_of% (And.intro @F_ag_25 (And.intro @F_el_35 (And.intro @F_fl_44_1 (And.intro @F_sz_25 (@F_sz_44))))) := And.intro @F_ag_25 (And.intro @F_el_35 (And.intro @F_fl_44_1 (And.intro @F_sz_25 (@F_sz_44))))
theorem G15_BT : type_of% (And.intro (@Int.natCast_nonneg) (And.intro (@vaV_firm) (And.intro (@vaV_strip) (And.intro (@vaV_live) (And.intro (@vaV_size) (And.intro (@vaV_isAg) (And.intro (@vaV_cells) @List.getElem?_map.{0, 0}))))))) := (And.intro (@Int.natCast_nonneg) (And.intro (@vaV_firm) (And.intro (@vaV_strip) (And.intro (@vaV_live) (And.intro (@vaV_size) (And.intro (@vaV_isAg) (And.intro (@vaV_cells) @List.getElem?_map.{0, 0})))))))
theorem c_variables (vs : List Va) (hv : fitV vs) (n : Int) (hn : 0 ≤ n) (hn2 : n ≤ 4194304) : PC Try.prog 15 [V.sl (vs.map vaV) .ro, (.im (.int .i64 (n)))] (.im (.int .i64 (gfold (fun v => lft v.ty) vs n))) := by
  refine PC.enter 24 Try.func15 rfl (by decide) rfl rfl (s := [(0, V.sl (vs.map vaV) .ro), (1, (.im (.int .i64 (n))))]) (by rfl) ?_
  have hv1 := hv.1
  refine wG Y15_BT @G15_BT ?_
  refine AWp.loop ?_
  refine ALp.cutP 0 [(0, V.sl (vs.map vaV) .ro), (1, (.im (.int .i64 (gfold (fun v => lft v.ty) (vs.take (0)) n)))), (5, (.im (.int .i64 ((((0 : Nat)) : Int)))))] [] (And.intro (@exL_id) (And.intro (@vaL_id) (And.intro (@exV_id) @vaV_id))) ?_
  refine ALp.upto vs.length (fun _ => True) (fun m => ⟨dn 24 [(0, V.sl (vs.map vaV) .ro), (1, (.im (.int .i64 (gfold (fun v => lft v.ty) (vs.take (m)) n)))), (5, (.im (.int .i64 ((((m : Nat)) : Int)))))], ofl []⟩) ?_ 0 (Nat.zero_le _) trivial
  intro m hm _ hnext
  refine wG Y15_BT @G15_BT ?_
  refine AWp.condAB rfl rfl (fun hE => ?_) (fun hE => ?_)
  · obtain ⟨hlt, hp⟩ := pair_cond hE
    have hlt' : (m : Int) < (vs.length : Int) := by omega
    have hm1 := wrap_succ hlt (by omega)
    have hb := gfold_bound (f := fun v : Va => lft v.ty) (l := vs.take m) (fun t _ => lft_bound t.ty) n hn
    have hc := c_left vs[m].ty (hv.2 _ (List.getElem_mem hlt)) _ hp (by omega)
    rw [← gfold_take (f := fun v : Va => lft v.ty) hlt hp] at hc
    have hg := get_some hlt
    refine wG Y15_BT (And.intro (@G15_BT) (And.intro hlt' hg)) ?_
    refine AR.callP hc @tyV_eq (And.intro (@exL_id) (And.intro (@vaL_id) (And.intro (@exV_id) @vaV_id))) ?_
    refine goG Y15_BT @G15_BT ?_
    refine wG Y15_BT (And.intro (@G15_BT) hm1) ?_
    refine ALp.cutP 0 [(0, V.sl (vs.map vaV) .ro), (1, (.im (.int .i64 (gfold (fun v => lft v.ty) (vs.take (m + 1)) n)))), (5, (.im (.int .i64 ((((m + 1 : Nat)) : Int)))))] [] (And.intro (@exL_id) (And.intro (@vaL_id) (And.intro (@exV_id) @vaV_id))) ?_
    exact hnext (m + 1) (by omega) (by omega) trivial
  rw [pair_stop (fun t _ => lft_bound t.ty) hm hn hE]
  clear hnext hE
  refine wG Y15_BT @G15_BT ?_
  exact Fin.oneP
end Go.Proofs.Ytfggemopnlffeaa
namespace Go.Proofs.Ytfggemopnlffeaa
set_option linter.unusedSimpArgs false
set_option linter.unusedVariables false
set_option linter.unnecessarySimpa false
open Go.RowKit
theorem Y29_BR : type_of% (And.intro @F_ag_25 (And.intro @F_al_25 (And.intro @F_st_25 (@F_sz_25)))) := And.intro @F_ag_25 (And.intro @F_al_25 (And.intro @F_st_25 (@F_sz_25)))
theorem c_Int (n : Int) : PC Try.prog 29 [(.im (.int .i64 (n)))] (tyV (.mk 0 1 n 0 [] [])) := by
  refine PC.enter 5 Try.func29 rfl (by decide) rfl rfl (s := [(0, (.im (.int .i64 (n))))]) (by rfl) ?_
  refine wG Y29_BR True.intro ?_
  refine Fin.gen0 (rs := [.cell 2 25]) rfl (by first | exact .inl rfl | exact .inr rfl) (by simp only [resX, resA, ↓accU_f, ↓reduceIte, SA, SB, SC, SD, Y29_BR, valG, fpsG, evO, evB, evA, evA1, nilK, eqF, eqC, apOk, intOf, slB, slK,  gd, St.ev, putA, ofl, wrl, putE, V.ofVal, V.ofCell, bin2, un1, seg, fillV, partsOk, Value.oneCell', Nat.reduceBEq, Nat.reduceLT, Nat.reduceSub, Nat.reduceAdd, Nat.reduceMul, Nat.reduceLeDiff, Nat.reduceEqDiff, reduceCtorEq, Int.reduceLT, Int.reduceLE, Int.reduceEq, Int.reduceNe, Int.reduceBEq, Int.reduceBNe, Int.reduceAdd, Int.reduceSub, Int.reduceMul, Int.reduceToNat]; with_reducible exact rfl) ?_
  simp only [tyV_mk, List.map_nil]
  repeat (first | exact WkF.of (Wk.refl _) (by first | rfl | simp only [List.length_cons, List.length_nil, Nat.reduceAdd, V.ids, V.idsL, idsA, entOk, List.all_cons, List.all_nil, Bool.and_self, Bool.and_true, Bool.true_and, ltB, noId, Nat.reduceLT, decide_true, Bool.true_eq_false, tyV_id, fdV_id, tyL_id, fdL_id, exL_id, vaL_id, exV_id, vaV_id]) | exact WkF.of (Wk.ro _ _) (by first | rfl | simp only [List.length_cons, List.length_nil, Nat.reduceAdd, V.ids, V.idsL, idsA, entOk, List.all_cons, List.all_nil, Bool.and_self, Bool.and_true, Bool.true_and, ltB, noId, Nat.reduceLT, decide_true, Bool.true_eq_false, tyV_id, fdV_id, tyL_id, fdL_id, exL_id, vaL_id, exV_id, vaV_id]) | refine WkF.tu ?_ | refine WkF.ag ?_ | refine WkFL.cons ?_ ?_ | exact WkFL.nil)
theorem Y62_BR : type_of% (And.intro @F_ag_25 (And.intro @F_al_25 (And.intro @F_st_25 (@F_sz_25)))) := And.intro @F_ag_25 (And.intro @F_al_25 (And.intro @F_st_25 (@F_sz_25)))
theorem c_Uint (n : Int) : PC Try.prog 62 [(.im (.int .i64 (n)))] (tyV (.mk 0 2 n 0 [] [])) := by
  refine PC.enter 5 Try.func62 rfl (by decide) rfl rfl (s := [(0, (.im (.int .i64 (n))))]) (by rfl) ?_
  refine wG Y62_BR True.intro ?_
  refine Fin.gen0 (rs := [.cell 2 25]) rfl (by first | exact .inl rfl | exact .inr rfl) (by simp only [resX, resA, ↓accU_f, ↓reduceIte, SA, SB, SC, SD, Y62_BR, valG, fpsG, evO, evB, evA, evA1, nilK, eqF, eqC, apOk, intOf, slB, slK,  gd, St.ev, putA, ofl, wrl, putE, V.ofVal, V.ofCell, bin2, un1, seg, fillV, partsOk, Value.oneCell', Nat.reduceBEq, Nat.reduceLT, Nat.reduceSub, Nat.reduceAdd, Nat.reduceMul, Nat.reduceLeDiff, Nat.reduceEqDiff, reduceCtorEq, Int.reduceLT, Int.reduceLE, Int.reduceEq, Int.reduceNe, Int.reduceBEq, Int.reduceBNe, Int.reduceAdd, Int.reduceSub, Int.reduceMul, Int.reduceToNat]; with_reducible exact rfl) ?_
  simp only [tyV_mk, List.map_nil]
  repeat (first | exact WkF.of (Wk.refl _) (by first | rfl | simp only [List.length_cons, List.length_nil, Nat.reduceAdd, V.ids, V.idsL, idsA, entOk, List.all_cons, List.all_nil, Bool.and_self, Bool.and_true, Bool.true_and, ltB, noId, Nat.reduceLT, decide_true, Bool.true_eq_false, tyV_id, fdV_id, tyL_id, fdL_id, exL_id, vaL_id, exV_id, vaV_id]) | exact WkF.of (Wk.ro _ _) (by first | rfl | simp only [List.length_cons, List.length_nil, Nat.reduceAdd, V.ids, V.idsL, idsA, entOk, List.all_cons, List.all_nil, Bool.and_self, Bool.and_true, Bool.true_and, ltB, noId, Nat.reduceLT, decide_true, Bool.true_eq_false, tyV_id, fdV_id, tyL_id, fdL_id, exL_id, vaL_id, exV_id, vaV_id]) | refine WkF.tu ?_ | refine WkF.ag ?_ | refine WkFL.cons ?_ ?_ | exact WkFL.nil)
theorem Y61_BR : type_of% (And.intro @F_ag_25 (And.intro @F_al_25 (And.intro @F_el_22 (And.intro @F_st_25 (@F_sz_25))))) := And.intro @F_ag_25 (And.intro @F_al_25 (And.intro @F_el_22 (And.intro @F_st_25 (@F_sz_25))))
theorem G61_BR : type_of% (And.intro (@tyV_firm) (And.intro (@fdV_firm) (And.intro (@tyV_strip) (And.intro (@fdV_strip) (And.intro (@tyV_live) (And.intro (@tyV_size) (And.intro (@tyV_isAg) (And.intro (@tyV_cells) (And.intro (@fdV_live) (And.intro (@fdV_size) (And.intro (@fdV_isAg) (And.intro (@fdV_cells) (And.intro (@List.getElem?_map.{0, 0}) @Int.natCast_nonneg))))))))))))) := (And.intro (@tyV_firm) (And.intro (@fdV_firm) (And.intro (@tyV_strip) (And.intro (@fdV_strip) (And.intro (@tyV_live) (And.intro (@tyV_size) (And.intro (@tyV_isAg) (And.intro (@tyV_cells) (And.intro (@fdV_live) (And.intro (@fdV_size) (And.intro (@fdV_isAg) (And.intro (@fdV_cells) (And.intro (@List.getElem?_map.{0, 0}) @Int.natCast_nonneg)))))))))))))
theorem c_Ptr (x : Ty) (hx : fit x) : PC Try.prog 61 [tyV x] (tyV (.mk 0 3 0 0 [x] [])) := by
  have h := c_own x hx
  refine PC.enter 7 Try.func61 rfl (by decide) rfl rfl (s := [(0, tyV x)]) (by rfl) ?_
  rw [tyV_eq x]
  refine wG Y61_BR @G61_BR ?_
  refine AR.callP h @tyV_eq (And.intro (@exL_id) (And.intro (@vaL_id) (And.intro (@exV_id) @vaV_id))) ?_
  refine goG Y61_BR @G61_BR ?_
  refine wG Y61_BR @G61_BR ?_
  refine Fin.gen0 (rs := [.cell 2 25]) rfl (by first | exact .inl rfl | exact .inr rfl) (by simp only [resX, resA, ↓accU_f, ↓reduceIte, SA, SB, SC, SD, Y61_BR, valG, fpsG, evO, evB, evA, evA1, nilK, eqF, eqC, apOk, intOf, slB, slK,  gd, St.ev, putA, ofl, wrl, putE, V.ofVal, V.ofCell, bin2, un1, seg, fillV, partsOk, Value.oneCell', Nat.reduceBEq, Nat.reduceLT, Nat.reduceSub, Nat.reduceAdd, Nat.reduceMul, Nat.reduceLeDiff, Nat.reduceEqDiff, reduceCtorEq, Int.reduceLT, Int.reduceLE, Int.reduceEq, Int.reduceNe, Int.reduceBEq, Int.reduceBNe, Int.reduceAdd, Int.reduceSub, Int.reduceMul, Int.reduceToNat]; with_reducible exact rfl) ?_
  simp only [tyV_mk, List.map_nil, List.map_cons]
  repeat (first | exact WkF.of (Wk.refl _) (by first | rfl | simp only [List.length_cons, List.length_nil, Nat.reduceAdd, V.ids, V.idsL, idsA, entOk, List.all_cons, List.all_nil, Bool.and_self, Bool.and_true, Bool.true_and, ltB, noId, Nat.reduceLT, decide_true, Bool.true_eq_false, tyV_id, fdV_id, tyL_id, fdL_id, exL_id, vaL_id, exV_id, vaV_id]) | exact WkF.of (Wk.ro _ _) (by first | rfl | simp only [List.length_cons, List.length_nil, Nat.reduceAdd, V.ids, V.idsL, idsA, entOk, List.all_cons, List.all_nil, Bool.and_self, Bool.and_true, Bool.true_and, ltB, noId, Nat.reduceLT, decide_true, Bool.true_eq_false, tyV_id, fdV_id, tyL_id, fdL_id, exL_id, vaL_id, exV_id, vaV_id]) | refine WkF.tu ?_ | refine WkF.ag ?_ | refine WkFL.cons ?_ ?_ | exact WkFL.nil)
/-- The pointer of the example: to a structure with an unsigned number at 8. -/
def ptS : Ty := .mk 0 5 0 0 [] [.mk 8 2 4 0 [] []]
def ptT : Ty := .mk 0 3 0 0 [ptS] []
theorem Y27_BR : type_of% (And.intro @F_ag_25 (And.intro @F_al_25 (And.intro @F_al_59 (And.intro @F_el_23 (And.intro @F_st_25 (And.intro @F_st_59 (And.intro @F_sz_25 (@F_sz_59)))))))) := And.intro @F_ag_25 (And.intro @F_al_25 (And.intro @F_al_59 (And.intro @F_el_23 (And.intro @F_st_25 (And.intro @F_st_59 (And.intro @F_sz_25 (@F_sz_59)))))))
theorem G27_BR : type_of% (And.intro (@tyV_firm) (And.intro (@fdV_firm) (And.intro (@tyV_strip) (And.intro (@fdV_strip) (And.intro (@tyV_live) (And.intro (@tyV_size) (And.intro (@tyV_isAg) (And.intro (@tyV_cells) (And.intro (@fdV_live) (And.intro (@fdV_size) (And.intro (@fdV_isAg) (And.intro (@fdV_cells) (And.intro (@List.getElem?_map.{0, 0}) @Int.natCast_nonneg))))))))))))) := (And.intro (@tyV_firm) (And.intro (@fdV_firm) (And.intro (@tyV_strip) (And.intro (@fdV_strip) (And.intro (@tyV_live) (And.intro (@tyV_size) (And.intro (@tyV_isAg) (And.intro (@tyV_cells) (And.intro (@fdV_live) (And.intro (@fdV_size) (And.intro (@fdV_isAg) (And.intro (@fdV_cells) (And.intro (@List.getElem?_map.{0, 0}) @Int.natCast_nonneg)))))))))))))
theorem c_pointer : PC Try.prog 27 [] (tyV ptT) := by
  have h1 := c_Uint 4
  have h2 := c_Ptr ptS (by unfold fit; kernel_rfl)
  rw [tyV_mk] at h1
  simp only [ptS, tyV_mk, fdV_mk, List.map_nil, List.map_cons] at h2
  refine PC.enter 6 Try.func27 rfl (by decide) rfl rfl (s := []) (by rfl) ?_
  refine wG Y27_BR @G27_BR ?_
  refine AR.callP h1 True.intro (And.intro (@exL_id) (And.intro (@vaL_id) (And.intro (@exV_id) @vaV_id))) ?_
  refine goG Y27_BR @G27_BR ?_
  refine AR.callW h2 True.intro (And.intro (@exL_id) (And.intro (@vaL_id) (And.intro (@exV_id) @vaV_id))) ?_
  refine goG Y27_BR @G27_BR ?_
  refine wG Y27_BR @G27_BR ?_
  refine Fin.gen0 (rs := [.cell 0 25]) rfl (by first | exact .inl rfl | exact .inr rfl) (by simp only [resX, resA, ↓accU_f, ↓reduceIte, SA, SB, SC, SD, Y27_BR, valG, fpsG, evO, evB, evA, evA1, nilK, eqF, eqC, apOk, intOf, slB, slK,  gd, St.ev, putA, ofl, wrl, putE, V.ofVal, V.ofCell, bin2, un1, seg, fillV, partsOk, Value.oneCell', Nat.reduceBEq, Nat.reduceLT, Nat.reduceSub, Nat.reduceAdd, Nat.reduceMul, Nat.reduceLeDiff, Nat.reduceEqDiff, reduceCtorEq, Int.reduceLT, Int.reduceLE, Int.reduceEq, Int.reduceNe, Int.reduceBEq, Int.reduceBNe, Int.reduceAdd, Int.reduceSub, Int.reduceMul, Int.reduceToNat]; with_reducible exact rfl) ?_
  simp only [ptT, ptS, tyV_mk, fdV_mk, List.map_nil, List.map_cons]
  repeat (first | exact WkF.of (Wk.refl _) (by first | rfl | simp only [List.length_cons, List.length_nil, Nat.reduceAdd, V.ids, V.idsL, idsA, entOk, List.all_cons, List.all_nil, Bool.and_self, Bool.and_true, Bool.true_and, ltB, noId, Nat.reduceLT, decide_true, Bool.true_eq_false, tyV_id, fdV_id, tyL_id, fdL_id, exL_id, vaL_id, exV_id, vaV_id]) | exact WkF.of (Wk.ro _ _) (by first | rfl | simp only [List.length_cons, List.length_nil, Nat.reduceAdd, V.ids, V.idsL, idsA, entOk, List.all_cons, List.all_nil, Bool.and_self, Bool.and_true, Bool.true_and, ltB, noId, Nat.reduceLT, decide_true, Bool.true_eq_false, tyV_id, fdV_id, tyL_id, fdL_id, exL_id, vaL_id, exV_id, vaV_id]) | refine WkF.tu ?_ | refine WkF.ag ?_ | refine WkFL.cons ?_ ?_ | exact WkFL.nil)
/-- The example's load, through p and n. -/
def atE (n : Int) : Ex := .mk 18 0 .empty 4 [.mk 3 0 .empty 0 [.mk 2 0 ⟨#[112]⟩ 0 [], .mk 1 n .empty 0 []]]
theorem Y28_BR : type_of% (And.intro @F_ag_34 (And.intro @F_al_34 (And.intro @F_el_32 (And.intro @F_st_34 (@F_sz_34))))) := And.intro @F_ag_34 (And.intro @F_al_34 (And.intro @F_el_32 (And.intro @F_st_34 (@F_sz_34))))
theorem c_at (n : Int) : PC Try.prog 28 [.im (.int .u32 n)] (exV (atE n)) := by
  refine PC.enter 10 Try.func28 rfl (by decide) rfl rfl (s := [(0, .im (.int .u32 n))]) (by rfl) ?_
  refine wG Y28_BR True.intro ?_
  refine Fin.gen0 (rs := [.cell 2 34]) rfl (by first | exact .inl rfl | exact .inr rfl) (by simp only [resX, resA, ↓accU_f, ↓reduceIte, SA, SB, SC, SD, Y28_BR, valG, fpsG, evO, evB, evA, evA1, nilK, eqF, eqC, apOk, intOf, slB, slK,  gd, St.ev, putA, ofl, wrl, putE, V.ofVal, V.ofCell, bin2, un1, seg, fillV, partsOk, Value.oneCell', Nat.reduceBEq, Nat.reduceLT, Nat.reduceSub, Nat.reduceAdd, Nat.reduceMul, Nat.reduceLeDiff, Nat.reduceEqDiff, reduceCtorEq, Int.reduceLT, Int.reduceLE, Int.reduceEq, Int.reduceNe, Int.reduceBEq, Int.reduceBNe, Int.reduceAdd, Int.reduceSub, Int.reduceMul, Int.reduceToNat]; with_reducible exact rfl) ?_
  simp only [atE, exV_mk, List.map_nil, List.map_cons]
  repeat (first | exact WkF.of (Wk.refl _) (by first | rfl | simp only [List.length_cons, List.length_nil, Nat.reduceAdd, V.ids, V.idsL, idsA, entOk, List.all_cons, List.all_nil, Bool.and_self, Bool.and_true, Bool.true_and, ltB, noId, Nat.reduceLT, decide_true, Bool.true_eq_false, tyV_id, fdV_id, tyL_id, fdL_id, exL_id, vaL_id, exV_id, vaV_id]) | exact WkF.of (Wk.ro _ _) (by first | rfl | simp only [List.length_cons, List.length_nil, Nat.reduceAdd, V.ids, V.idsL, idsA, entOk, List.all_cons, List.all_nil, Bool.and_self, Bool.and_true, Bool.true_and, ltB, noId, Nat.reduceLT, decide_true, Bool.true_eq_false, tyV_id, fdV_id, tyL_id, fdL_id, exL_id, vaL_id, exV_id, vaV_id]) | refine WkF.tu ?_ | refine WkF.ag ?_ | refine WkFL.cons ?_ ?_ | exact WkFL.nil)
  all_goals first | exact WkFL.nil | exact WkF.wk
end Go.Proofs.Ytfggemopnlffeaa
namespace Go.Proofs.Ytfggemopnlffeaa
set_option linter.unusedSimpArgs false
set_option linter.unusedVariables false
set_option linter.unnecessarySimpa false
open Go.RowKit
def vsE : List Va := [⟨⟨#[112]⟩, ptT⟩]
theorem fit_ptT : fit ptT := by unfold fit; kernel_rfl
theorem fit_vsE : fitV vsE := ⟨by decide, fun v hv => by rw [List.mem_singleton.1 hv]; exact fit_ptT⟩
theorem Y9_BU : type_of% (And.intro @F_ag_3 (And.intro @F_al_25 (And.intro @F_al_44 (And.intro @F_el_35 (And.intro @F_fl_25_0 (And.intro @F_fl_25_1 (And.intro @F_st_44 (And.intro @F_sz_25 (And.intro @F_sz_3 (@F_sz_44)))))))))) := And.intro @F_ag_3 (And.intro @F_al_25 (And.intro @F_al_44 (And.intro @F_el_35 (And.intro @F_fl_25_0 (And.intro @F_fl_25_1 (And.intro @F_st_44 (And.intro @F_sz_25 (And.intro @F_sz_3 (@F_sz_44)))))))))
theorem G9_BU : type_of% (And.intro (@tyV_firm) (And.intro (@fdV_firm) (And.intro (@tyV_strip) (And.intro (@fdV_strip) (And.intro (@tyV_live) (And.intro (@tyV_size) (And.intro (@tyV_isAg) (And.intro (@tyV_cells) (And.intro (@fdV_live) (And.intro (@fdV_size) (And.intro (@fdV_isAg) (And.intro (@fdV_cells) (And.intro (@List.getElem?_map.{0, 0}) @Int.natCast_nonneg))))))))))))) := (And.intro (@tyV_firm) (And.intro (@fdV_firm) (And.intro (@tyV_strip) (And.intro (@fdV_strip) (And.intro (@tyV_live) (And.intro (@tyV_size) (And.intro (@tyV_isAg) (And.intro (@tyV_cells) (And.intro (@fdV_live) (And.intro (@fdV_size) (And.intro (@fdV_isAg) (And.intro (@fdV_cells) (And.intro (@List.getElem?_map.{0, 0}) @Int.natCast_nonneg)))))))))))))
theorem c_example : PC Try.prog 9 [] (.im (.bool (true))) := by
  have h1 := c_pointer
  have h2 := c_at 8
  have h3 := c_at 4
  have h4 := c_Expr vsE fit_vsE (atE 8) (by unfold fitE; kernel_rfl)
  have h5 := c_Expr vsE fit_vsE (atE 4) (by unfold fitE; kernel_rfl)
  rw [show exT vsE (atE 8) = (.mk 0 2 4 0 [] [], 0) by kernel_rfl] at h4
  rw [show exT vsE (atE 4) = (tz, 16) by kernel_rfl] at h5
  have h6 := c_Int 4
  have h7 := c_Assignable (.mk 0 1 4 0 [] []) (.mk 0 1 4 0 [] []) (by unfold fit; kernel_rfl) (by unfold fit; kernel_rfl)
  have h8 := c_Assignable ptT (.mk 0 1 4 0 [] []) fit_ptT (by unfold fit; kernel_rfl)
  rw [show asgT (.mk 0 1 4 0 [] []) (.mk 0 1 4 0 [] []) = true by kernel_rfl] at h7
  rw [show asgT ptT (.mk 0 1 4 0 [] []) = false by kernel_rfl] at h8
  simp only [vsE, List.map_cons, List.map_nil, vaV_eq] at h4 h5
  simp only [tyV_mk, List.map_nil, tz] at h4 h5
  refine PC.enter 51 Try.func9 rfl (by decide) rfl rfl (s := []) (by rfl) ?_
  refine wG Y9_BU @G9_BU ?_
  refine AR.callP h1 True.intro (And.intro (@exL_id) (And.intro (@vaL_id) (And.intro (@exV_id) @vaV_id))) ?_
  refine goG Y9_BU @G9_BU ?_
  refine wG Y9_BU @G9_BU ?_
  refine AR.callP h2 True.intro (And.intro (@exL_id) (And.intro (@vaL_id) (And.intro (@exV_id) @vaV_id))) ?_
  refine goG Y9_BU @G9_BU ?_
  refine AR.callW h4 True.intro (And.intro (@exL_id) (And.intro (@vaL_id) (And.intro (@exV_id) @vaV_id))) ?_
  refine goG Y9_BU @G9_BU ?_
  refine wG Y9_BU @G9_BU ?_
  refine AR.callP h3 True.intro (And.intro (@exL_id) (And.intro (@vaL_id) (And.intro (@exV_id) @vaV_id))) ?_
  refine goG Y9_BU @G9_BU ?_
  refine AR.callW h5 True.intro (And.intro (@exL_id) (And.intro (@vaL_id) (And.intro (@exV_id) @vaV_id))) ?_
  refine goG Y9_BU @G9_BU ?_
  refine wG Y9_BU @G9_BU ?_
  refine AR.callP h6 True.intro (And.intro (@exL_id) (And.intro (@vaL_id) (And.intro (@exV_id) @vaV_id))) ?_
  refine goG Y9_BU @G9_BU ?_
  refine AR.callP h6 True.intro (And.intro (@exL_id) (And.intro (@vaL_id) (And.intro (@exV_id) @vaV_id))) ?_
  refine goG Y9_BU @G9_BU ?_
  refine AR.callP h7 True.intro (And.intro (@exL_id) (And.intro (@vaL_id) (And.intro (@exV_id) @vaV_id))) ?_
  refine goG Y9_BU @G9_BU ?_
  refine AR.callP h1 True.intro (And.intro (@exL_id) (And.intro (@vaL_id) (And.intro (@exV_id) @vaV_id))) ?_
  refine goG Y9_BU @G9_BU ?_
  refine AR.callP h6 True.intro (And.intro (@exL_id) (And.intro (@vaL_id) (And.intro (@exV_id) @vaV_id))) ?_
  refine goG Y9_BU @G9_BU ?_
  refine AR.callP h8 True.intro (And.intro (@exL_id) (And.intro (@vaL_id) (And.intro (@exV_id) @vaV_id))) ?_
  refine goG Y9_BU @G9_BU ?_
  refine wG Y9_BU @G9_BU ?_
  exact Fin.oneP
end Go.Proofs.Ytfggemopnlffeaa
namespace Go.Proofs.Ytfggemopnlffeaa
set_option linter.unusedSimpArgs false
set_option linter.unusedVariables false
set_option linter.unnecessarySimpa false
open Go.RowKit
theorem Y3_BV : type_of% (And.intro @F_ag_25 (And.intro @F_sz_25 (@F_un_4))) := And.intro @F_ag_25 (And.intro @F_sz_25 (@F_un_4))
theorem G3_BV : type_of% (And.intro (@tyV_firm) (And.intro (@fdV_firm) (And.intro (@tyV_strip) (And.intro (@fdV_strip) (And.intro (@tyV_live) (And.intro (@tyV_size) (And.intro (@tyV_isAg) (And.intro (@tyV_cells) (And.intro (@fdV_live) (And.intro (@fdV_size) (And.intro (@fdV_isAg) (And.intro (@fdV_cells) (And.intro (@List.getElem?_map.{0, 0}) @Int.natCast_nonneg))))))))))))) := (And.intro (@tyV_firm) (And.intro (@fdV_firm) (And.intro (@tyV_strip) (And.intro (@fdV_strip) (And.intro (@tyV_live) (And.intro (@tyV_size) (And.intro (@tyV_isAg) (And.intro (@tyV_cells) (And.intro (@fdV_live) (And.intro (@fdV_size) (And.intro (@fdV_isAg) (And.intro (@fdV_cells) (And.intro (@List.getElem?_map.{0, 0}) @Int.natCast_nonneg)))))))))))))
theorem c_law1 (t u : Ty) (ht : fit t) (hu : fit u) (off w : Int) (ho : I64 off) : PC Try.prog 3 [tyV t, tyV u, (.im (.int .i64 (off))), (.im (.int .i64 (w)))] (.im (.bool (true))) := by
  have h1 := c_left t ht 500 (by decide) (by decide)
  have h2 := c_left u hu 500 (by decide) (by decide)
  have h3 := c_example
  have h4 := c_Access t ht off w ho
  have h5 := c_AccessR t ht off w ho
  have h6 := c_Assignable t u ht hu
  have h7 := c_AssignableR t u ht hu
  generalize accT t off w = ac at h4 h5
  generalize asgT t u = sb at h6 h7
  generalize hl1 : lft t 500 = l1 at h1
  generalize hl2 : lft u 500 = l2 at h2
  clear hl1 hl2
  refine PC.enter 39 Try.func3 rfl (by decide) rfl rfl (s := [(0, tyV t), (1, tyV u), (2, (.im (.int .i64 (off)))), (3, (.im (.int .i64 (w))))]) (by rfl) ?_
  rw [tyV_eq t, tyV_eq u]
  refine wG Y3_BV @G3_BV ?_
  refine AR.callP h1 @tyV_eq (And.intro (@exL_id) (And.intro (@vaL_id) (And.intro (@exV_id) @vaV_id))) ?_
  by_cases hA : l1 ≤ 0
  · refine goG Y3_BV (And.intro (@G3_BV) hA) ?_
    refine wG Y3_BV @G3_BV ?_
    refine AR.callP h3 True.intro (And.intro (@exL_id) (And.intro (@vaL_id) (And.intro (@exV_id) @vaV_id))) ?_
    refine goG Y3_BV @G3_BV ?_
    refine wG Y3_BV @G3_BV ?_
    exact Fin.oneP
  · refine goG Y3_BV (And.intro (@G3_BV) hA) ?_
    refine AR.callP h2 @tyV_eq (And.intro (@exL_id) (And.intro (@vaL_id) (And.intro (@exV_id) @vaV_id))) ?_
    by_cases hB : l2 ≤ 0
    · refine goG Y3_BV (And.intro (@G3_BV) hB) ?_
      refine wG Y3_BV @G3_BV ?_
      refine AR.callP h3 True.intro (And.intro (@exL_id) (And.intro (@vaL_id) (And.intro (@exV_id) @vaV_id))) ?_
      refine goG Y3_BV @G3_BV ?_
      refine wG Y3_BV @G3_BV ?_
      exact Fin.oneP
    · refine goG Y3_BV (And.intro (@G3_BV) hB) ?_
      refine wdG Y3_BV @G3_BV ?_
      refine AR.callP h4 @tyV_eq (And.intro (@exL_id) (And.intro (@vaL_id) (And.intro (@exV_id) @vaV_id))) ?_
      refine goG Y3_BV @G3_BV ?_
      refine AR.callP h5 @tyV_eq (And.intro (@exL_id) (And.intro (@vaL_id) (And.intro (@exV_id) @vaV_id))) ?_
      refine goG Y3_BV @G3_BV ?_
      refine AR.callP h6 @tyV_eq (And.intro (@exL_id) (And.intro (@vaL_id) (And.intro (@exV_id) @vaV_id))) ?_
      refine goG Y3_BV @G3_BV ?_
      refine AR.callP h7 @tyV_eq (And.intro (@exL_id) (And.intro (@vaL_id) (And.intro (@exV_id) @vaV_id))) ?_
      refine goG Y3_BV @G3_BV ?_
      refine AR.callP h3 True.intro (And.intro (@exL_id) (And.intro (@vaL_id) (And.intro (@exV_id) @vaV_id))) ?_
      refine goG Y3_BV @G3_BV ?_
      refine wdG Y3_BV @G3_BV ?_
      exact Fin.oneP
end Go.Proofs.Ytfggemopnlffeaa
