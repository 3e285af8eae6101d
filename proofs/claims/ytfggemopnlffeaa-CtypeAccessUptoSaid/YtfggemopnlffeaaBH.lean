/- Walks: known names; CheckExpr of the program. -/
import Derived.Test.YtfggemopnlffeaaHw
import Derived.Test.YtfggemopnlffeaaBF
import Derived.Test.YtfggemopnlffeaaLe
namespace Go.Proofs.Ytfggemopnlffeaa
set_option linter.unusedSimpArgs false
set_option linter.unusedVariables false
set_option linter.unnecessarySimpa false
open Go.RowKit
theorem c_among11 (v : Va) (s : ByteArray) : DC Try.prog 107 [vaV v, .pt 0 0] [.box [.im (.string s)]] (.im (.bool (eqS v.name s))) [.box [.im (.string s)]] := by
  refine DC.enter 8 Try.func107 rfl (by decide) rfl rfl (s := [(0, vaV v), (1, .pt 0 0)]) (by rfl) ?_
  simp only [vaV_eq]
  refine w107 True.intro ?_
  exact Fin.oneSP (And.intro (@exL_id) (And.intro (@vaL_id) (And.intro (@exV_id) @vaV_id)))
theorem c_among1 (vs : List Va) (hv : vs.length ≤ 4194304) (s : ByteArray) : DC Try.prog 105 [.im (.string s), .pt 0 0] [.box [(V.sl (vs.map vaV) .ro)]] (.im (.bool (has vs s))) [.box [(V.sl (vs.map vaV) .ro)]] := by
  have h := c_containsV1 (gs := vs) (F := 107) (cs := [.im (.string s)]) (fun v => eqS v.name s) (by simp [V.idsL, V.ids]) (by simp only [SR]) hv (fun v _ => c_among11 v s)
  unfold has
  refine DC.enter 7 Try.func105 rfl (by decide) rfl rfl (s := [(0, .im (.string s)), (1, .pt 0 0)]) (by rfl) ?_
  refine w105 True.intro ?_
  refine AR.callQP [1] h True.intro (And.intro (@exL_id) (And.intro (@vaL_id) (And.intro (@exV_id) @vaV_id))) (And.intro (@exV_ren) (And.intro (@exL_ren) (And.intro (@vaV_ren) @vaL_ren))) ?_
  refine go105 True.intro ?_
  refine w105 True.intro ?_
  exact Fin.oneSP (And.intro (@exL_id) (And.intro (@vaL_id) (And.intro (@exV_id) @vaV_id)))
theorem c_known1 {x : Ex} {vs : List Va} {r : Bool} (h : DC Try.prog 70 [exV x, (V.fn (.func 105) [] [.pt 0 0])] [.box [(V.sl (vs.map vaV) .ro)]] (.im (.bool (r))) [.box [(V.sl (vs.map vaV) .ro)]]) : DC Try.prog 104 [exV x, .pt 0 0] [.box [(V.fn (.func 105) [] [.pt 1 0])], .box [(V.sl (vs.map vaV) .ro)]] (.im (.bool (!r))) [.box [(V.fn (.func 105) [] [.pt 1 0])], .box [(V.sl (vs.map vaV) .ro)]] := by
  refine DC.enter 8 Try.func104 rfl (by decide) rfl rfl (s := [(0, exV x), (1, .pt 0 0)]) (by rfl) ?_
  simp only [exV_eq]
  refine w104 True.intro ?_
  refine AR.callQP [1] h @exV_eq (And.intro (@exL_id) (And.intro (@vaL_id) (And.intro (@exV_id) @vaV_id))) (And.intro (@exV_ren) (And.intro (@exL_ren) (And.intro (@vaV_ren) @vaL_ren))) ?_
  refine go104 True.intro ?_
  refine w104 True.intro ?_
  exact Fin.oneSP (And.intro (@exL_id) (And.intro (@vaL_id) (And.intro (@exV_id) @vaV_id)))
theorem c_known (vs : List Va) (hv : vs.length ≤ 4194304) : ∀ (t : Ex), fitE t → efm t = true → DC Try.prog 70 [exV t, (V.fn (.func 105) [] [.pt 0 0])] [.box [(V.sl (vs.map vaV) .ro)]] (.im (.bool (knw vs t))) [.box [(V.sl (vs.map vaV) .ro)]] := by
  refine Ex.induct fun o n s w l hE => ?_
  intro hfit hf
  rw [efm_mk, Bool.and_eq_true, List.all_eq_true] at hf
  obtain ⟨hl1, hfE⟩ := fitE_mk hfit
  have h1 := c_among1 vs hv s
  have hc : ∀ t ∈ l, DC Try.prog 104 [exV t, .pt 0 0] [.box [(V.fn (.func 105) [] [.pt 1 0])], .box [(V.sl (vs.map vaV) .ro)]] (.im (.bool (!knw vs t))) [.box [(V.fn (.func 105) [] [.pt 1 0])], .box [(V.sl (vs.map vaV) .ro)]] := fun t ht => c_known1 (hE t ht (hfE t ht) (hf.2 t ht))
  have h2 := c_containsE2 (gs := l) (F := 104) (cs := [(V.fn (.func 105) [] [.pt 1 0])]) (ds := [(V.sl (vs.map vaV) .ro)]) (fun t => !knw vs t) (by simp [V.idsL, V.ids, ltB]) (by simp only [SR]) (by simp [V.idsL, V.ids, vaL_id]) (by simp only [SR, vaL_ren]) hl1 hc
  refine DC.enter 20 Try.func70 rfl (by decide) rfl rfl (s := [(0, exV (.mk o n s w l)), (1, (V.fn (.func 105) [] [.pt 0 0]))]) (by rfl) ?_
  simp only [exV_mk]
  rw [knw_mk]
  by_cases ho : o = 2
  · have e : (o == 2) = true := by simp [ho]
    rw [e, if_pos rfl]
    cases b : has vs s with
    | true =>
      rw [b] at h1
      refine w70 ho ?_
      refine AR.callQP [0] h1 True.intro (And.intro (@exL_id) (And.intro (@vaL_id) (And.intro (@exV_id) @vaV_id))) (And.intro (@exV_ren) (And.intro (@exL_ren) (And.intro (@vaV_ren) @vaL_ren))) ?_
      refine go70 True.intro ?_
      refine w70 True.intro ?_
      refine AR.callQP [2, 0] h2 True.intro (And.intro (@exL_id) (And.intro (@vaL_id) (And.intro (@exV_id) @vaV_id))) (And.intro (@exV_ren) (And.intro (@exL_ren) (And.intro (@vaV_ren) @vaL_ren))) ?_
      refine go70 True.intro ?_
      have hl : l = [] := by
        have := hf.1
        rw [ho] at this
        simp only [ebase, Int.reduceBEq, Bool.false_eq_true, if_false, if_true, Bool.and_eq_true, beq_iff_eq] at this
        exact List.length_eq_zero_iff.1 this.2
      rw [hl]
      refine w70 True.intro ?_
      exact Fin.oneSP (And.intro (@exL_id) (And.intro (@vaL_id) (And.intro (@exV_id) @vaV_id)))
    | false =>
      rw [b] at h1
      refine w70 ho ?_
      refine AR.callQP [0] h1 True.intro (And.intro (@exL_id) (And.intro (@vaL_id) (And.intro (@exV_id) @vaV_id))) (And.intro (@exV_ren) (And.intro (@exL_ren) (And.intro (@vaV_ren) @vaL_ren))) ?_
      refine go70 True.intro ?_
      refine w70 True.intro ?_
      exact Fin.oneSP (And.intro (@exL_id) (And.intro (@vaL_id) (And.intro (@exV_id) @vaV_id)))
  · have e : (o == 2) = false := by simp [ho]
    rw [e, if_neg (by decide)]
    refine w70 ho ?_
    refine AR.callQP [2, 0] h2 True.intro (And.intro (@exL_id) (And.intro (@vaL_id) (And.intro (@exV_id) @vaV_id))) (And.intro (@exV_ren) (And.intro (@exL_ren) (And.intro (@vaV_ren) @vaL_ren))) ?_
    refine go70 True.intro ?_
    rw [any_not]
    refine w70 True.intro ?_
    exact Fin.oneSP (And.intro (@exL_id) (And.intro (@vaL_id) (And.intro (@exV_id) @vaV_id)))
theorem c_among (vs : List Va) : DC Try.prog 71 [(V.sl (vs.map vaV) .ro)] [.free] (V.fn (.func 105) [] [.pt 0 0]) [.box [(V.sl (vs.map vaV) .ro)]] := by
  refine DC.enterN 1 4 Try.func71 rfl (by decide) rfl rfl (s := [(0, (V.sl (vs.map vaV) .ro))]) (by rfl) ?_
  refine w71 True.intro ?_
  refine Fin.genK 1 (rs := [.tmp 2]) rfl (by first | exact .inl rfl | exact .inr rfl) (by simp only [resX, resA, ↓accU_f, ↓reduceIte, SA, SB, SC, SD, valG, fpsG, evO, evB, evA, evA1, nilK, eqF, eqC, apOk, intOf, slB, slK,  gd, St.ev, putA, ofl, wrl, putE, V.ofVal, V.ofCell, bin2, un1, seg, fillV, partsOk, Value.oneCell', Nat.reduceBEq, Nat.reduceLT, Nat.reduceSub, Nat.reduceAdd, Nat.reduceMul, Nat.reduceLeDiff, Nat.reduceEqDiff, reduceCtorEq, Int.reduceLT, Int.reduceLE, Int.reduceEq, Int.reduceNe, Int.reduceBEq, Int.reduceBNe, Int.reduceAdd, Int.reduceSub, Int.reduceMul, Int.reduceToNat]; with_reducible exact rfl) ?_ rfl (by first | rfl | simp only [List.length_cons, List.length_nil, Nat.reduceAdd, V.ids, V.idsL, idsA, entOk, List.all_cons, List.all_nil, Bool.and_self, Bool.and_true, Bool.true_and, ltB, noId, Nat.reduceLT, decide_true, Bool.true_eq_false, tyV_id, fdV_id, tyL_id, fdL_id, exL_id, vaL_id, exV_id, vaV_id])
  repeat (first | exact WkF.of (Wk.refl _) (by first | rfl | simp only [List.length_cons, List.length_nil, Nat.reduceAdd, V.ids, V.idsL, idsA, entOk, List.all_cons, List.all_nil, Bool.and_self, Bool.and_true, Bool.true_and, ltB, noId, Nat.reduceLT, decide_true, Bool.true_eq_false, tyV_id, fdV_id, tyL_id, fdL_id, exL_id, vaL_id, exV_id, vaV_id]) | exact WkF.of (Wk.ro _ _) (by first | rfl | simp only [List.length_cons, List.length_nil, Nat.reduceAdd, V.ids, V.idsL, idsA, entOk, List.all_cons, List.all_nil, Bool.and_self, Bool.and_true, Bool.true_and, ltB, noId, Nat.reduceLT, decide_true, Bool.true_eq_false, tyV_id, fdV_id, tyL_id, fdL_id, exL_id, vaL_id, exV_id, vaV_id]) | refine WkF.tu ?_ | refine WkF.ag ?_ | refine WkFL.cons ?_ ?_ | exact WkFL.nil)
end Go.Proofs.Ytfggemopnlffeaa

