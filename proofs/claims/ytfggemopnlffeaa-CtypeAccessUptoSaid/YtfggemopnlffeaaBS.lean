/- Walks: clone of the program; Expr of the program. -/
import Derived.Test.YtfggemopnlffeaaHx
import Derived.Test.YtfggemopnlffeaaBQ
import Derived.Test.YtfggemopnlffeaaB7
import Derived.Test.YtfggemopnlffeaaLe
namespace Go.Proofs.Ytfggemopnlffeaa
set_option linter.unusedSimpArgs false
set_option linter.unusedVariables false
set_option linter.unnecessarySimpa false
open Go.RowKit
theorem take_snoc {α β : Type} (f : α → β) {l : List α} {m : Nat} (h : m < l.length) : (l.take m).map f ++ [f l[m]] = (l.take (m + 1)).map f := by
  rw [List.take_succ_eq_append_getElem h, List.map_append]; rfl
theorem take_len {α β : Type} (f : α → β) {l : List α} {m : Nat} (h : m ≤ l.length) : ((l.take m).map f).length = m := by
  simp [Nat.min_eq_left h]
theorem c_clone : ∀ (t : Ty), fit t → PC Try.prog 39 [tyV t] (tyV t) := by
  refine Ty.induct fun o k s c es fs hE hF => ?_
  intro hfit
  obtain ⟨hl1, hl2, hfE, hfF⟩ := fit_mk hfit
  refine PC.enter 44 Try.func39 rfl (by decide) rfl rfl (s := [(0, tyV (.mk o k s c es fs))]) (by rfl) ?_
  simp only [tyV_mk]
  refine w39x True.intro ?_
  refine AWp.loop ?_
  refine ALp.ghost 3 [] .nl 25 5 ?_
  refine ALp.cutP 3 [(1, .pt 0 0), (2, .pt 1 0), (3, .sl ((es.take (0)).map tyV) (.own 2)), (10, .sl (es.map tyV) .ro), (11, (.im (.int .i64 (es.length)))), (12, (.im (.int .i64 ((((0 : Nat)) : Int)))))] [.box [.im (.int .i64 k), .im (.int .i64 s), .im (.int .i64 c), .sl (es.map tyV) .ro, .sl (fs.map fdV) .ro], .box [.im (.int .i64 0), .im (.int .i64 0), .im (.int .i64 0), .sl [] .nl, .sl [] .nl], .tip 25 5 (0)] (And.intro (@tyV_id) (And.intro (@tyL_id) @fdL_id)) ?_
  refine ALp.upto es.length (fun _ => True) (fun m => ⟨dn 44 [(1, .pt 0 0), (2, .pt 1 0), (3, .sl ((es.take (m)).map tyV) (.own 2)), (10, .sl (es.map tyV) .ro), (11, (.im (.int .i64 (es.length)))), (12, (.im (.int .i64 ((((m : Nat)) : Int)))))], ofl [.box [.im (.int .i64 k), .im (.int .i64 s), .im (.int .i64 c), .sl (es.map tyV) .ro, .sl (fs.map fdV) .ro], .box [.im (.int .i64 0), .im (.int .i64 0), .im (.int .i64 0), .sl [] .nl, .sl [] .nl], .tip 25 5 (m)]⟩) ?_ 0 (Nat.zero_le _) trivial
  intro m hm _ hnext
  by_cases hlt : m < es.length
  case pos =>
    have hlt' : (m : Int) < (es.length : Int) := by omega
    have hm1 := wrap_succ hlt (by omega)
    have hc := hE es[m] (List.getElem_mem hlt) (hfE _ (List.getElem_mem hlt))
    have hmin : min m es.length = m := Nat.min_eq_left hm
    have hsn := take_snoc tyV hlt
    have hg := get_some hlt
    have hA : (m + 1) * 72 ≤ 140737488355328 := by omega
    refine w39x (And.intro hlt' hg) ?_
    refine AR.callP hc @tyV_eq (And.intro (@tyV_id) (And.intro (@tyL_id) @fdL_id)) ?_
    refine go39x (And.intro hlt' (And.intro hmin (And.intro hA hsn))) ?_
    refine w39x hm1 ?_
    refine ALp.cutP 3 [(1, .pt 0 0), (2, .pt 1 0), (3, .sl ((es.take (m + 1)).map tyV) (.own 2)), (10, .sl (es.map tyV) .ro), (11, (.im (.int .i64 (es.length)))), (12, (.im (.int .i64 ((((m + 1 : Nat)) : Int)))))] [.box [.im (.int .i64 k), .im (.int .i64 s), .im (.int .i64 c), .sl (es.map tyV) .ro, .sl (fs.map fdV) .ro], .box [.im (.int .i64 0), .im (.int .i64 0), .im (.int .i64 0), .sl [] .nl, .sl [] .nl], .tip 25 5 (m + 1)] (And.intro (@tyV_id) (And.intro (@tyL_id) @fdL_id)) ?_
    exact hnext (m + 1) (by omega) (by omega) trivial
  obtain rfl : m = es.length := by omega
  clear hnext
  rw [List.take_length]
  refine wh39x True.intro ?_
  refine Blk'.here (Thn.n ?_)
  refine w39x True.intro ?_
  refine AWp.loop ?_
  refine ALp.ghost 6 [] .nl 59 6 ?_
  refine ALp.cutP 4 [(1, .pt 0 0), (2, .pt 1 0), (3, .sl (es.map tyV) (.own 2)), (6, .sl ((fs.take (0)).map fdV) (.own 3)), (23, .sl (fs.map fdV) .ro), (24, (.im (.int .i64 (fs.length)))), (25, (.im (.int .i64 ((((0 : Nat)) : Int)))))] [.box [.im (.int .i64 k), .im (.int .i64 s), .im (.int .i64 c), .sl (es.map tyV) .ro, .sl (fs.map fdV) .ro], .box [.im (.int .i64 0), .im (.int .i64 0), .im (.int .i64 0), .sl [] .nl, .sl [] .nl], .tip 25 5 es.length, .tip 59 6 (0)] (And.intro (@tyV_id) (And.intro (@tyL_id) @fdL_id)) ?_
  refine ALp.upto fs.length (fun _ => True) (fun m => ⟨dn 44 [(1, .pt 0 0), (2, .pt 1 0), (3, .sl (es.map tyV) (.own 2)), (6, .sl ((fs.take (m)).map fdV) (.own 3)), (23, .sl (fs.map fdV) .ro), (24, (.im (.int .i64 (fs.length)))), (25, (.im (.int .i64 ((((m : Nat)) : Int)))))], ofl [.box [.im (.int .i64 k), .im (.int .i64 s), .im (.int .i64 c), .sl (es.map tyV) .ro, .sl (fs.map fdV) .ro], .box [.im (.int .i64 0), .im (.int .i64 0), .im (.int .i64 0), .sl [] .nl, .sl [] .nl], .tip 25 5 es.length, .tip 59 6 (m)]⟩) ?_ 0 (Nat.zero_le _) trivial
  intro m hm _ hnext
  by_cases hlt : m < fs.length
  case pos =>
    have hlt' : (m : Int) < (fs.length : Int) := by omega
    have hm1 := wrap_succ hlt (by omega)
    have hc := hF fs[m] (List.getElem_mem hlt) (hfF _ (List.getElem_mem hlt))
    have hmin : min m fs.length = m := Nat.min_eq_left hm
    have hsn := take_snoc fdV hlt
    have hg := get_some hlt
    have hA : (m + 1) * 80 ≤ 140737488355328 := by omega
    rw [fdV_eq fs[m]] at hsn
    refine wd39x (And.intro hlt' hg) ?_
    refine AR.callP hc @tyV_eq (And.intro (@tyV_id) (And.intro (@tyL_id) @fdL_id)) ?_
    refine go39x (And.intro hlt' (And.intro hmin (And.intro hA hsn))) ?_
    refine wd39x hm1 ?_
    refine ALp.cutP 4 [(1, .pt 0 0), (2, .pt 1 0), (3, .sl (es.map tyV) (.own 2)), (6, .sl ((fs.take (m + 1)).map fdV) (.own 3)), (23, .sl (fs.map fdV) .ro), (24, (.im (.int .i64 (fs.length)))), (25, (.im (.int .i64 ((((m + 1 : Nat)) : Int)))))] [.box [.im (.int .i64 k), .im (.int .i64 s), .im (.int .i64 c), .sl (es.map tyV) .ro, .sl (fs.map fdV) .ro], .box [.im (.int .i64 0), .im (.int .i64 0), .im (.int .i64 0), .sl [] .nl, .sl [] .nl], .tip 25 5 es.length, .tip 59 6 (m + 1)] (And.intro (@tyV_id) (And.intro (@tyL_id) @fdL_id)) ?_
    exact hnext (m + 1) (by omega) (by omega) trivial
  obtain rfl : m = fs.length := by omega
  clear hnext
  rw [List.take_length]
  refine w39x True.intro ?_
  refine Fin.gen0 (rs := [.cell 2 25]) rfl (by first | exact .inl rfl | exact .inr rfl) (by simp only [resX, resA, ↓accU_f, ↓reduceIte, SA, SB, SC, SD, T39, valG, fpsG, evO, evB, evA, evA1, nilK, eqF, eqC, apOk, intOf, slB, slK,  gd, St.ev, putA, ofl, wrl, putE, V.ofVal, V.ofCell, bin2, un1, seg, fillV, partsOk, Value.oneCell', Nat.reduceBEq, Nat.reduceLT, Nat.reduceSub, Nat.reduceAdd, Nat.reduceMul, Nat.reduceLeDiff, Nat.reduceEqDiff, reduceCtorEq, Int.reduceLT, Int.reduceLE, Int.reduceEq, Int.reduceNe, Int.reduceBEq, Int.reduceBNe, Int.reduceAdd, Int.reduceSub, Int.reduceMul, Int.reduceToNat]; with_reducible exact rfl) ?_
  repeat (first | exact WkF.of (Wk.refl _) (by first | rfl | simp only [List.length_cons, List.length_nil, Nat.reduceAdd, V.ids, V.idsL, idsA, entOk, List.all_cons, List.all_nil, Bool.and_self, Bool.and_true, Bool.true_and, ltB, noId, Nat.reduceLT, decide_true, Bool.true_eq_false, tyV_id, fdV_id, tyL_id, fdL_id, tyV_id, tyL_id, fdL_id]) | exact WkF.of (Wk.ro _ _) (by first | rfl | simp only [List.length_cons, List.length_nil, Nat.reduceAdd, V.ids, V.idsL, idsA, entOk, List.all_cons, List.all_nil, Bool.and_self, Bool.and_true, Bool.true_and, ltB, noId, Nat.reduceLT, decide_true, Bool.true_eq_false, tyV_id, fdV_id, tyL_id, fdL_id, tyV_id, tyL_id, fdL_id]) | refine WkF.tu ?_ | refine WkF.ag ?_ | refine WkFL.cons ?_ ?_ | exact WkFL.nil)
theorem fit_get {x : Option Ty} (h : ∀ y, x = some y → fit y) : fit (x.getD tz) := by
  cases x with
  | none => exact fit_tz
  | some y => exact h y rfl
theorem fit_fnd {vs : List Va} (hv : fitV vs) (e : Ex) (w : Int) : fit (fnd vs e w).1 := by
  unfold fnd
  split
  · split
    · rename_i hg
      have ht := fit_tyOf hv (thr e).1
      generalize tyOf vs (thr e).1 = t at ht hg
      refine fit_get fun y hy => ?_
      unfold fieldA at hy
      split at hy
      · cases he : t.elem with
        | nil => rw [he] at hy; exact fat_fit fit_tz hy
        | cons x l => rw [he] at hy; exact fat_fit (fit_elem ht (by rw [he]; simp)) hy
      · cases hy
    · exact fit_tz
  · exact fit_tz
theorem fit_typ {vs : List Va} (hv : fitV vs) (e : Ex) : fit (typ vs e) := by
  unfold typ
  split
  · exact fit_tyOf hv _
  split
  · unfold fit; kernel_rfl
  split
  · unfold fit; kernel_rfl
  split
  · split
    · exact fit_fnd hv _ _
    · exact fit_tz
  · exact fit_tz
theorem c_Expr (vs : List Va) (hv : fitV vs) (e : Ex) (he : fitE e) : PC Try.prog 16 [exV e, (V.sl (vs.map vaV) .ro)] (.tu [tyV (exT vs e).1, (.im (.int .i64 ((exT vs e).2)))]) := by
  have h1 := c_CheckE vs hv.1 e he
  unfold exT
  refine PC.enter 23 Try.func16 rfl (by decide) rfl rfl (s := [(0, exV e), (1, (V.sl (vs.map vaV) .ro))]) (by rfl) ?_
  simp only [exV_eq]
  by_cases hc : chkE vs e = 0
  case neg =>
    have ec : (chkE vs e == 0) = false := by simp [hc]
    rw [ec]
    simp only [Bool.false_eq_true, if_false]
    refine w16x True.intro ?_
    refine AR.callP h1 @exV_eq (And.intro (@exL_id) (And.intro (@vaL_id) (And.intro (@exV_id) @vaV_id))) ?_
    refine go16x hc ?_
    refine w16x hc ?_
    refine Fin.gen0 (rs := [.cell 4 25, .tmp 5]) rfl (by first | exact .inl rfl | exact .inr rfl) (by simp only [resX, resA, ↓accU_f, ↓reduceIte, SA, SB, SC, SD, T16, valG, fpsG, evO, evB, evA, evA1, nilK, eqF, eqC, apOk, intOf, slB, slK,  gd, St.ev, putA, ofl, wrl, putE, V.ofVal, V.ofCell, bin2, un1, seg, fillV, partsOk, Value.oneCell', Nat.reduceBEq, Nat.reduceLT, Nat.reduceSub, Nat.reduceAdd, Nat.reduceMul, Nat.reduceLeDiff, Nat.reduceEqDiff, reduceCtorEq, Int.reduceLT, Int.reduceLE, Int.reduceEq, Int.reduceNe, Int.reduceBEq, Int.reduceBNe, Int.reduceAdd, Int.reduceSub, Int.reduceMul, Int.reduceToNat]; with_reducible exact rfl) ?_
    simp only [tz, tyV_mk, List.map_nil]
    repeat (first | exact WkF.of (Wk.refl _) (by first | rfl | simp only [List.length_cons, List.length_nil, Nat.reduceAdd, V.ids, V.idsL, idsA, entOk, List.all_cons, List.all_nil, Bool.and_self, Bool.and_true, Bool.true_and, ltB, noId, Nat.reduceLT, decide_true, Bool.true_eq_false, tyV_id, fdV_id, tyL_id, fdL_id, exL_id, vaL_id, exV_id, vaV_id]) | exact WkF.of (Wk.ro _ _) (by first | rfl | simp only [List.length_cons, List.length_nil, Nat.reduceAdd, V.ids, V.idsL, idsA, entOk, List.all_cons, List.all_nil, Bool.and_self, Bool.and_true, Bool.true_and, ltB, noId, Nat.reduceLT, decide_true, Bool.true_eq_false, tyV_id, fdV_id, tyL_id, fdL_id, exL_id, vaL_id, exV_id, vaV_id]) | refine WkF.tu ?_ | refine WkF.ag ?_ | refine WkFL.cons ?_ ?_ | exact WkFL.nil)
  have hf := chkE_efm hc
  have ec : (chkE vs e == 0) = true := by simp [hc]
  rw [ec]
  simp only [if_true]
  rw [hc] at h1
  have h2 := c_accesses vs hv e he hf
  have h3 := c_typed vs hv e hf
  cases ha : acs vs e with
  | false =>
    rw [ha] at h2
    simp only [Bool.false_eq_true, if_false]
    refine w16x True.intro ?_
    refine AR.callP h1 @exV_eq (And.intro (@exL_id) (And.intro (@vaL_id) (And.intro (@exV_id) @vaV_id))) ?_
    refine go16x True.intro ?_
    refine w16x True.intro ?_
    refine AR.callP h2 @exV_eq (And.intro (@exL_id) (And.intro (@vaL_id) (And.intro (@exV_id) @vaV_id))) ?_
    refine go16x True.intro ?_
    refine w16x True.intro ?_
    refine Fin.gen0 (rs := [.cell 4 25, .tmp 5]) rfl (by first | exact .inl rfl | exact .inr rfl) (by simp only [resX, resA, ↓accU_f, ↓reduceIte, SA, SB, SC, SD, T16, valG, fpsG, evO, evB, evA, evA1, nilK, eqF, eqC, apOk, intOf, slB, slK,  gd, St.ev, putA, ofl, wrl, putE, V.ofVal, V.ofCell, bin2, un1, seg, fillV, partsOk, Value.oneCell', Nat.reduceBEq, Nat.reduceLT, Nat.reduceSub, Nat.reduceAdd, Nat.reduceMul, Nat.reduceLeDiff, Nat.reduceEqDiff, reduceCtorEq, Int.reduceLT, Int.reduceLE, Int.reduceEq, Int.reduceNe, Int.reduceBEq, Int.reduceBNe, Int.reduceAdd, Int.reduceSub, Int.reduceMul, Int.reduceToNat]; with_reducible exact rfl) ?_
    simp only [tz, tyV_mk, List.map_nil]
    repeat (first | exact WkF.of (Wk.refl _) (by first | rfl | simp only [List.length_cons, List.length_nil, Nat.reduceAdd, V.ids, V.idsL, idsA, entOk, List.all_cons, List.all_nil, Bool.and_self, Bool.and_true, Bool.true_and, ltB, noId, Nat.reduceLT, decide_true, Bool.true_eq_false, tyV_id, fdV_id, tyL_id, fdL_id, exL_id, vaL_id, exV_id, vaV_id]) | exact WkF.of (Wk.ro _ _) (by first | rfl | simp only [List.length_cons, List.length_nil, Nat.reduceAdd, V.ids, V.idsL, idsA, entOk, List.all_cons, List.all_nil, Bool.and_self, Bool.and_true, Bool.true_and, ltB, noId, Nat.reduceLT, decide_true, Bool.true_eq_false, tyV_id, fdV_id, tyL_id, fdL_id, exL_id, vaL_id, exV_id, vaV_id]) | refine WkF.tu ?_ | refine WkF.ag ?_ | refine WkFL.cons ?_ ?_ | exact WkFL.nil)
  | true =>
    rw [ha] at h2
    simp only [if_true]
    have h4 := c_clone _ (fit_typ hv e)
    generalize typ vs e = t at h3 h4 ⊢
    refine w16x True.intro ?_
    refine AR.callP h1 @exV_eq (And.intro (@exL_id) (And.intro (@vaL_id) (And.intro (@exV_id) @vaV_id))) ?_
    refine go16x True.intro ?_
    refine w16x True.intro ?_
    refine AR.callP h2 @exV_eq (And.intro (@exL_id) (And.intro (@vaL_id) (And.intro (@exV_id) @vaV_id))) ?_
    refine go16x True.intro ?_
    refine w16x True.intro ?_
    refine AR.callP h3 @exV_eq (And.intro (@exL_id) (And.intro (@vaL_id) (And.intro (@exV_id) @vaV_id))) ?_
    refine go16x True.intro ?_
    refine AR.callP h4 @tyV_eq (And.intro (@exL_id) (And.intro (@vaL_id) (And.intro (@exV_id) @vaV_id))) ?_
    refine go16x True.intro ?_
    refine w16x True.intro ?_
    refine Fin.gen0 (rs := [.cell 4 25, .tmp 5]) rfl (by first | exact .inl rfl | exact .inr rfl) (by simp only [resX, resA, ↓accU_f, ↓reduceIte, SA, SB, SC, SD, T16, valG, fpsG, evO, evB, evA, evA1, nilK, eqF, eqC, apOk, intOf, slB, slK,  gd, St.ev, putA, ofl, wrl, putE, V.ofVal, V.ofCell, bin2, un1, seg, fillV, partsOk, Value.oneCell', Nat.reduceBEq, Nat.reduceLT, Nat.reduceSub, Nat.reduceAdd, Nat.reduceMul, Nat.reduceLeDiff, Nat.reduceEqDiff, reduceCtorEq, Int.reduceLT, Int.reduceLE, Int.reduceEq, Int.reduceNe, Int.reduceBEq, Int.reduceBNe, Int.reduceAdd, Int.reduceSub, Int.reduceMul, Int.reduceToNat]; with_reducible exact rfl) ?_
    simp only [tyV_eq]
    repeat (first | exact WkF.of (Wk.refl _) (by first | rfl | simp only [List.length_cons, List.length_nil, Nat.reduceAdd, V.ids, V.idsL, idsA, entOk, List.all_cons, List.all_nil, Bool.and_self, Bool.and_true, Bool.true_and, ltB, noId, Nat.reduceLT, decide_true, Bool.true_eq_false, tyV_id, fdV_id, tyL_id, fdL_id, exL_id, vaL_id, exV_id, vaV_id]) | exact WkF.of (Wk.ro _ _) (by first | rfl | simp only [List.length_cons, List.length_nil, Nat.reduceAdd, V.ids, V.idsL, idsA, entOk, List.all_cons, List.all_nil, Bool.and_self, Bool.and_true, Bool.true_and, ltB, noId, Nat.reduceLT, decide_true, Bool.true_eq_false, tyV_id, fdV_id, tyL_id, fdL_id, exL_id, vaL_id, exV_id, vaV_id]) | refine WkF.tu ?_ | refine WkF.ag ?_ | refine WkFL.cons ?_ ?_ | exact WkFL.nil)
end Go.Proofs.Ytfggemopnlffeaa

