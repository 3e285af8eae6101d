/- Walks: known names of the reference; CheckExpr, both. -/
import Derived.Test.YtfggemopnlffeaaHw
import Derived.Test.YtfggemopnlffeaaBH
import Derived.Test.YtfggemopnlffeaaBG
import Derived.Test.YtfggemopnlffeaaBI
namespace Go.Proofs.Ytfggemopnlffeaa
set_option linter.unusedSimpArgs false
set_option linter.unusedVariables false
set_option linter.unnecessarySimpa false
open Go.RowKit
theorem not_any_of {α : Type} {l : List α} {p : α → Bool} (h : AllTo (fun x => !p x) l l.length) : l.any p = false := by
  rw [List.any_eq_false]
  intro x hx
  obtain ⟨j, hj, rfl⟩ := List.getElem_of_mem hx
  simpa using h j hj hj
theorem c_hasR (vs : List Va) (hv : vs.length ≤ 4194304) (s : ByteArray) : PC Try.prog 110 [(V.sl (vs.map vaV) .ro), .im (.string s)] (.im (.bool (has vs s))) := by
  refine PC.enter 19 Try.func110 rfl (by decide) rfl rfl (s := [(0, (V.sl (vs.map vaV) .ro)), (1, .im (.string s))]) (by rfl) ?_
  unfold has
  refine w110 True.intro ?_
  refine AWp.loop ?_
  refine ALp.cutP 0 [(0, (V.sl (vs.map vaV) .ro)), (1, .im (.string s)), (5, (.im (.int .i64 ((((0 : Nat)) : Int)))))] [] (And.intro (@exL_id) (And.intro (@vaL_id) (And.intro (@exV_id) @vaV_id))) ?_
  refine ALp.upto vs.length (AllTo (fun x => !eqS x.name s) vs) (fun m => ⟨dn 19 [(0, (V.sl (vs.map vaV) .ro)), (1, .im (.string s)), (5, (.im (.int .i64 ((((m : Nat)) : Int)))))], ofl []⟩) ?_ 0 (Nat.zero_le _) (AllTo.zero _ _)
  intro m hm hI hnext
  by_cases hlt : m < vs.length
  · have hlt' : (m : Int) < (vs.length : Int) := by omega
    have hg := get_some hlt
    have hm1 := wrap_succ hlt (by omega)
    cases b : eqS vs[m].name s with
    | true =>
      have b' : (vs[m].name.toList == s.toList) = true := b
      have hr : (vs.any fun v => eqS v.name s) = true := List.any_eq_true.2 ⟨_, List.getElem_mem hlt, b⟩
      rw [hr]
      refine w110 (And.intro hlt' (And.intro hg (And.intro hm1 b'))) ?_
      exact Fin.oneP
    | false =>
      have b' : (vs[m].name.toList == s.toList) = false := b
      refine w110 (And.intro hlt' (And.intro hg (And.intro hm1 b'))) ?_
      refine ALp.cutP 0 [(0, (V.sl (vs.map vaV) .ro)), (1, .im (.string s)), (5, (.im (.int .i64 ((((m + 1 : Nat)) : Int)))))] [] (And.intro (@exL_id) (And.intro (@vaL_id) (And.intro (@exV_id) @vaV_id))) ?_
      exact hnext (m + 1) (by omega) (by omega) (hI.succ hlt (by rw [b]; rfl))
  · obtain rfl : m = vs.length := by omega
    have hlt' : ¬ (vs.length : Int) < (vs.length : Int) := by omega
    clear hnext
    rw [not_any_of hI]
    refine w110 hlt' ?_
    exact Fin.oneP
theorem c_knownR (vs : List Va) (hv : vs.length ≤ 4194304) : ∀ (t : Ex), fitE t → PC Try.prog 78 [exV t, (V.sl (vs.map vaV) .ro)] (.im (.bool (knw vs t))) := by
  refine Ex.induct fun o n s w l hE => ?_
  intro hfit
  obtain ⟨hl1, hfE⟩ := fitE_mk hfit
  have h1 := c_hasR vs hv s
  refine PC.enter 28 Try.func78 rfl (by decide) rfl rfl (s := [(0, exV (.mk o n s w l)), (1, (V.sl (vs.map vaV) .ro))]) (by rfl) ?_
  simp only [exV_mk]
  rw [knw_mk]
  by_cases ho : o = 2
  · have e : (o == 2) = true := by simp [ho]
    rw [e, if_pos rfl]
    refine w78 ho ?_
    refine AR.callP h1 True.intro (And.intro (@exL_id) (And.intro (@vaL_id) (And.intro (@exV_id) @vaV_id))) ?_
    refine go78 True.intro ?_
    refine w78 True.intro ?_
    exact Fin.oneP
  have e : (o == 2) = false := by simp [ho]
  rw [e, if_neg (by decide)]
  refine w78 ho ?_
  refine AWp.loop ?_
  refine ALp.cutP 1 [(1, (V.sl (vs.map vaV) .ro)), (2, .pt 0 0), (4, .im (.bool false)), (5, (.im (.int .i64 ((((0 : Nat)) : Int)))))] [.box [.im (.int .i64 o), .im (.int .u32 n), .im (.string s), .im (.int .i64 w), .sl (l.map exV) .ro]] (And.intro (@exL_id) (And.intro (@vaL_id) (And.intro (@exV_id) @vaV_id))) ?_
  refine ALp.upto l.length (AllTo (knw vs) l) (fun m => ⟨dn 28 [(1, (V.sl (vs.map vaV) .ro)), (2, .pt 0 0), (4, .im (.bool false)), (5, (.im (.int .i64 ((((m : Nat)) : Int)))))], ofl [.box [.im (.int .i64 o), .im (.int .u32 n), .im (.string s), .im (.int .i64 w), .sl (l.map exV) .ro]]⟩) ?_ 0 (Nat.zero_le _) (AllTo.zero _ _)
  intro m hm hI hnext
  by_cases hlt : m < l.length
  · have hlt' : (m : Int) < (l.length : Int) := by omega
    have hg := get_some hlt
    have hm1 := wrap_succ hlt (by omega)
    have hc := hE l[m] (List.getElem_mem hlt) (hfE _ (List.getElem_mem hlt))
    refine w78 (And.intro hlt' (And.intro hg hm1)) ?_
    cases b : knw vs l[m] with
    | true =>
      rw [b] at hc
      refine AR.callP hc @exV_eq (And.intro (@exL_id) (And.intro (@vaL_id) (And.intro (@exV_id) @vaV_id))) ?_
      refine go78 True.intro ?_
      refine w78 hm1 ?_
      refine ALp.cutP 1 [(1, (V.sl (vs.map vaV) .ro)), (2, .pt 0 0), (4, .im (.bool false)), (5, (.im (.int .i64 ((((m + 1 : Nat)) : Int)))))] [.box [.im (.int .i64 o), .im (.int .u32 n), .im (.string s), .im (.int .i64 w), .sl (l.map exV) .ro]] (And.intro (@exL_id) (And.intro (@vaL_id) (And.intro (@exV_id) @vaV_id))) ?_
      exact hnext (m + 1) (by omega) (by omega) (hI.succ hlt b)
    | false =>
      rw [b] at hc
      refine AR.callP hc @exV_eq (And.intro (@exL_id) (And.intro (@vaL_id) (And.intro (@exV_id) @vaV_id))) ?_
      refine go78 True.intro ?_
      refine w78 hm1 ?_
      rw [not_all_of hlt b]
      exact Fin.oneP
  · have hall := hI.done (by omega)
    have hlt' : ¬ (m : Int) < (l.length : Int) := by omega
    clear hnext
    rw [hall]
    refine w78 hlt' ?_
    exact Fin.oneP
theorem c_CheckER (vs : List Va) (hv : vs.length ≤ 4194304) (e : Ex) (he : fitE e) : PC Try.prog 41 [exV e, (V.sl (vs.map vaV) .ro)] (.im (.int .i64 (chkE vs e))) := by
  have h1 := c_edeep e he 64 (by decide)
  have h2 := c_eformedR e he
  have h3 := c_knownR vs hv e he
  refine PC.enter 14 Try.func41 rfl (by decide) rfl rfl (s := [(0, exV e), (1, (V.sl (vs.map vaV) .ro))]) (by rfl) ?_
  simp only [exV_eq]
  unfold chkE
  cases b1 : esh e 64 with
  | false =>
    rw [b1] at h1
    refine w41 True.intro ?_
    refine AR.callP h1 @exV_eq (And.intro (@exL_id) (And.intro (@vaL_id) (And.intro (@exV_id) @vaV_id))) ?_
    refine go41 True.intro ?_
    refine w41 True.intro ?_
    simp only [Bool.not_false, if_true]
    exact Fin.oneP
  | true =>
  rw [b1] at h1
  refine w41 True.intro ?_
  refine AR.callP h1 @exV_eq (And.intro (@exL_id) (And.intro (@vaL_id) (And.intro (@exV_id) @vaV_id))) ?_
  refine go41 True.intro ?_
  refine w41 True.intro ?_
  cases b2 : efm e with
  | false =>
    rw [b2] at h2
    refine AR.callP h2 @exV_eq (And.intro (@exL_id) (And.intro (@vaL_id) (And.intro (@exV_id) @vaV_id))) ?_
    refine go41 True.intro ?_
    refine w41 True.intro ?_
    simp only [Bool.not_false, Bool.not_true, if_true, if_false, Bool.false_eq_true]
    exact Fin.oneP
  | true =>
  rw [b2] at h2
  refine AR.callP h2 @exV_eq (And.intro (@exL_id) (And.intro (@vaL_id) (And.intro (@exV_id) @vaV_id))) ?_
  refine go41 True.intro ?_
  refine w41 True.intro ?_
  cases b3 : knw vs e with
  | false =>
    rw [b3] at h3
    refine AR.callP h3 @exV_eq (And.intro (@exL_id) (And.intro (@vaL_id) (And.intro (@exV_id) @vaV_id))) ?_
    refine go41 True.intro ?_
    refine w41 True.intro ?_
    simp only [Bool.not_false, Bool.not_true, if_true, if_false, Bool.false_eq_true]
    exact Fin.oneP
  | true =>
    rw [b3] at h3
    refine AR.callP h3 @exV_eq (And.intro (@exL_id) (And.intro (@vaL_id) (And.intro (@exV_id) @vaV_id))) ?_
    refine go41 True.intro ?_
    refine w41 True.intro ?_
    simp only [Bool.not_true, if_false, Bool.false_eq_true]
    exact Fin.oneP
theorem c_CheckE (vs : List Va) (hv : vs.length ≤ 4194304) (e : Ex) (he : fitE e) : PC Try.prog 37 [exV e, (V.sl (vs.map vaV) .ro)] (.im (.int .i64 (chkE vs e))) := by
  have h1 := c_eshallow e he 64 (by decide)
  have h2 := c_eformed e he
  have h4 := c_among vs
  refine PC.enter 19 Try.func37 rfl (by decide) rfl rfl (s := [(0, exV e), (1, (V.sl (vs.map vaV) .ro))]) (by rfl) ?_
  simp only [exV_eq]
  unfold chkE
  cases b1 : esh e 64 with
  | false =>
    rw [b1] at h1
    refine w37 True.intro ?_
    refine AR.callP h1 @exV_eq (And.intro (@exL_id) (And.intro (@vaL_id) (And.intro (@exV_id) @vaV_id))) ?_
    refine go37 True.intro ?_
    refine w37 True.intro ?_
    simp only [Bool.not_false, if_true]
    exact Fin.oneP
  | true =>
  rw [b1] at h1
  refine w37 True.intro ?_
  refine AR.callP h1 @exV_eq (And.intro (@exL_id) (And.intro (@vaL_id) (And.intro (@exV_id) @vaV_id))) ?_
  refine go37 True.intro ?_
  refine w37 True.intro ?_
  cases b2 : efm e with
  | false =>
    rw [b2] at h2
    refine AR.callP h2 @exV_eq (And.intro (@exL_id) (And.intro (@vaL_id) (And.intro (@exV_id) @vaV_id))) ?_
    refine go37 True.intro ?_
    refine w37 True.intro ?_
    simp only [Bool.not_false, Bool.not_true, if_true, if_false, Bool.false_eq_true]
    exact Fin.oneP
  | true =>
  rw [b2] at h2
  refine AR.callP h2 @exV_eq (And.intro (@exL_id) (And.intro (@vaL_id) (And.intro (@exV_id) @vaV_id))) ?_
  refine go37 True.intro ?_
  refine wd37 True.intro ?_
  have h3 := c_known vs hv e he b2
  cases b3 : knw vs e with
  | false =>
    rw [b3] at h3
    refine AR.callS [1] h4 rfl rfl (by first | (simp only [SR, exV_ren, exL_ren, vaV_ren, vaL_ren]; done) | (simp only [SR, exV_ren, exL_ren, vaV_ren, vaL_ren]; with_reducible exact rfl)) (by first | (simp only [SR, exV_ren, exL_ren, vaV_ren, vaL_ren]; done) | (simp only [SR, exV_ren, exL_ren, vaV_ren, vaL_ren]; with_reducible exact rfl)) (WkL.of_eq (by simp only [St.ev, V.ofVal, V.ofCell, V.size_im, getD_dn, look_cons, look_nil, Nat.reduceLT, Nat.reduceEqDiff, reduceIte, if_true, if_false, List.map_cons, List.map_nil, List.nil_append, List.cons_append, List.append_nil])) (by first | rfl | simp only [List.length_cons, List.length_nil, Nat.reduceAdd, V.ids, V.idsL, idsA, entOk, List.all_cons, List.all_nil, Bool.and_self, Bool.and_true, Bool.true_and, ltB, noId, Nat.reduceLT, decide_true, Bool.true_eq_false, tyV_id, fdV_id, tyL_id, fdL_id, exL_id, vaL_id, exV_id, vaV_id]) rfl rfl rfl (by first | rfl | simp only [List.length_cons, List.length_nil, Nat.reduceAdd, V.ids, V.idsL, idsA, entOk, List.all_cons, List.all_nil, Bool.and_self, Bool.and_true, Bool.true_and, ltB, noId, Nat.reduceLT, decide_true, Bool.true_eq_false, tyV_id, fdV_id, tyL_id, fdL_id, exL_id, vaL_id, exV_id, vaV_id]) (by intro p hp; simp only [renE, SR, Ent.ren, List.mem_cons, List.not_mem_nil, or_false] at hp; rcases hp with rfl <;> rfl) (by simp only [renE, Ent.ren, SR, exV_ren, exL_ren, vaV_ren, vaL_ren, wrl, putE, SC, SD, Nat.reduceBEq, Nat.reduceLT, Nat.reduceSub, Nat.reduceAdd, Nat.reduceMul, Nat.reduceLeDiff, Nat.reduceEqDiff, reduceCtorEq, Int.reduceLT, Int.reduceLE, Int.reduceEq, Int.reduceNe, Int.reduceBEq, Int.reduceBNe, Int.reduceAdd, Int.reduceSub, Int.reduceMul, Int.reduceToNat]; with_reducible exact rfl) ?_
    refine go37 True.intro ?_
    refine AR.callQP [1] h3 @exV_eq (And.intro (@exL_id) (And.intro (@vaL_id) (And.intro (@exV_id) @vaV_id))) (And.intro (@exV_ren) (And.intro (@exL_ren) (And.intro (@vaV_ren) @vaL_ren))) ?_
    refine go37 True.intro ?_
    refine wd37 True.intro ?_
    simp only [Bool.not_false, Bool.not_true, if_true, if_false, Bool.false_eq_true]
    exact Fin.oneP
  | true =>
    rw [b3] at h3
    refine AR.callS [1] h4 rfl rfl (by first | (simp only [SR, exV_ren, exL_ren, vaV_ren, vaL_ren]; done) | (simp only [SR, exV_ren, exL_ren, vaV_ren, vaL_ren]; with_reducible exact rfl)) (by first | (simp only [SR, exV_ren, exL_ren, vaV_ren, vaL_ren]; done) | (simp only [SR, exV_ren, exL_ren, vaV_ren, vaL_ren]; with_reducible exact rfl)) (WkL.of_eq (by simp only [St.ev, V.ofVal, V.ofCell, V.size_im, getD_dn, look_cons, look_nil, Nat.reduceLT, Nat.reduceEqDiff, reduceIte, if_true, if_false, List.map_cons, List.map_nil, List.nil_append, List.cons_append, List.append_nil])) (by first | rfl | simp only [List.length_cons, List.length_nil, Nat.reduceAdd, V.ids, V.idsL, idsA, entOk, List.all_cons, List.all_nil, Bool.and_self, Bool.and_true, Bool.true_and, ltB, noId, Nat.reduceLT, decide_true, Bool.true_eq_false, tyV_id, fdV_id, tyL_id, fdL_id, exL_id, vaL_id, exV_id, vaV_id]) rfl rfl rfl (by first | rfl | simp only [List.length_cons, List.length_nil, Nat.reduceAdd, V.ids, V.idsL, idsA, entOk, List.all_cons, List.all_nil, Bool.and_self, Bool.and_true, Bool.true_and, ltB, noId, Nat.reduceLT, decide_true, Bool.true_eq_false, tyV_id, fdV_id, tyL_id, fdL_id, exL_id, vaL_id, exV_id, vaV_id]) (by intro p hp; simp only [renE, SR, Ent.ren, List.mem_cons, List.not_mem_nil, or_false] at hp; rcases hp with rfl <;> rfl) (by simp only [renE, Ent.ren, SR, exV_ren, exL_ren, vaV_ren, vaL_ren, wrl, putE, SC, SD, Nat.reduceBEq, Nat.reduceLT, Nat.reduceSub, Nat.reduceAdd, Nat.reduceMul, Nat.reduceLeDiff, Nat.reduceEqDiff, reduceCtorEq, Int.reduceLT, Int.reduceLE, Int.reduceEq, Int.reduceNe, Int.reduceBEq, Int.reduceBNe, Int.reduceAdd, Int.reduceSub, Int.reduceMul, Int.reduceToNat]; with_reducible exact rfl) ?_
    refine go37 True.intro ?_
    refine AR.callQP [1] h3 @exV_eq (And.intro (@exL_id) (And.intro (@vaL_id) (And.intro (@exV_id) @vaV_id))) (And.intro (@exV_ren) (And.intro (@exL_ren) (And.intro (@vaV_ren) @vaL_ren))) ?_
    refine go37 True.intro ?_
    refine wd37 True.intro ?_
    simp only [Bool.not_true, if_false, Bool.false_eq_true]
    exact Fin.oneP
end Go.Proofs.Ytfggemopnlffeaa

