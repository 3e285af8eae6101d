/- Walks: accesses of the program: a closure that calls itself through a box. -/
import Derived.Test.YtfggemopnlffeaaHw
import Derived.Test.YtfggemopnlffeaaBM
namespace Go.Proofs.Ytfggemopnlffeaa
set_option linter.unusedSimpArgs false
set_option linter.unusedVariables false
set_option linter.unnecessarySimpa false
open Go.RowKit
theorem c_accesses1 (vs : List Va) (hv : fitV vs) : ∀ (t : Ex), fitE t → efm t = true → DC Try.prog 72 [exV t, .pt 0 0, .pt 1 0] [.box [(V.sl (vs.map vaV) .ro)], .box [(V.fn (.func 72) [] [.pt 0 0, .pt 1 0])]] (.im (.bool (acs vs t))) [.box [(V.sl (vs.map vaV) .ro)], .box [(V.fn (.func 72) [] [.pt 0 0, .pt 1 0])]] := by
  refine Ex.induct fun o n s w l hE => ?_
  intro hfit hf
  obtain ⟨hl1, hfE⟩ := fitE_mk hfit
  have hfl := hf
  rw [efm_mk, Bool.and_eq_true, List.all_eq_true] at hfl
  refine DC.enter 33 Try.func72 rfl (by decide) rfl rfl (s := [(0, exV (.mk o n s w l)), (1, .pt 0 0), (2, .pt 1 0)]) (by rfl) ?_
  simp only [exV_mk]
  rw [acs_mk]
  by_cases ho : o = 18
  · subst ho
    obtain ⟨x, rfl⟩ := efm_one hf
    have hp := c_permitted vs hv x (hfl.2 x (by simp)) w
    have hg0 : (List.map exV [x])[0]? = some (exV x) := rfl
    have hq : (if ((18 : Int) == 18) = true then (match [x] with | x :: _ => prm vs x w | [] => true) else true) = prm vs x w := rfl
    rw [hq]
    obtain ⟨L, hL⟩ : ∃ L, [x] = L := ⟨_, rfl⟩
    rw [hL] at hg0 hE hfE hfl hl1 ⊢
    cases b : prm vs x w with
    | false =>
      rw [b] at hp
      refine wd72 hg0 ?_
      refine AR.callP hp @exV_eq (And.intro (@exL_id) (And.intro (@vaL_id) (And.intro (@exV_id) @vaV_id))) ?_
      refine go72 True.intro ?_
      refine wd72 True.intro ?_
      rw [Bool.false_and]
      exact Fin.oneSP (And.intro (@exL_id) (And.intro (@vaL_id) (And.intro (@exV_id) @vaV_id)))
    | true =>
      rw [b] at hp
      refine wd72 hg0 ?_
      refine AR.callP hp @exV_eq (And.intro (@exL_id) (And.intro (@vaL_id) (And.intro (@exV_id) @vaV_id))) ?_
      refine go72 True.intro ?_
      refine wd72 True.intro ?_
      rw [Bool.true_and]
      clear hg0 hL hf hp
      refine AWp.loop ?_
      refine ALp.cutP 3 [(1, .pt 0 0), (2, .pt 1 0), (3, .pt 2 0), (22, .sl (L.map exV) .ro), (23, (.im (.int .i64 (L.length)))), (24, (.im (.int .i64 ((((0 : Nat)) : Int)))))] [.box [(V.sl (vs.map vaV) .ro)], .box [(V.fn (.func 72) [] [.pt 0 0, .pt 1 0])], .box [.im (.int .i64 18), .im (.int .u32 n), .im (.string s), .im (.int .i64 w), .sl (L.map exV) .ro]] (And.intro (@exL_id) (And.intro (@vaL_id) (And.intro (@exV_id) @vaV_id))) ?_
      refine ALp.upto L.length (AllTo (acs vs) L) (fun m => ⟨dn 33 [(1, .pt 0 0), (2, .pt 1 0), (3, .pt 2 0), (22, .sl (L.map exV) .ro), (23, (.im (.int .i64 (L.length)))), (24, (.im (.int .i64 ((((m : Nat)) : Int)))))], ofl [.box [(V.sl (vs.map vaV) .ro)], .box [(V.fn (.func 72) [] [.pt 0 0, .pt 1 0])], .box [.im (.int .i64 18), .im (.int .u32 n), .im (.string s), .im (.int .i64 w), .sl (L.map exV) .ro]]⟩) ?_ 0 (Nat.zero_le _) (AllTo.zero _ _)
      intro m hm hI hnext
      by_cases hlt : m < L.length
      · have hlt' : (m : Int) < (L.length : Int) := by omega
        have hg := get_some hlt
        have hm1 := wrap_succ hlt (by omega)
        have hc := hE L[m] (List.getElem_mem hlt) (hfE _ (List.getElem_mem hlt)) (hfl.2 _ (List.getElem_mem hlt))
        cases b : acs vs L[m] with
        | true =>
          rw [b] at hc
          refine w72 (And.intro hlt' (And.intro hg hm1)) ?_
          refine AR.callQP [0, 1] hc @exV_eq (And.intro (@exL_id) (And.intro (@vaL_id) (And.intro (@exV_id) @vaV_id))) (And.intro (@exV_ren) (And.intro (@exL_ren) (And.intro (@vaV_ren) @vaL_ren))) ?_
          refine go72 True.intro ?_
          refine w72 hm1 ?_
          refine ALp.cutP 3 [(1, .pt 0 0), (2, .pt 1 0), (3, .pt 2 0), (22, .sl (L.map exV) .ro), (23, (.im (.int .i64 (L.length)))), (24, (.im (.int .i64 ((((m + 1 : Nat)) : Int)))))] [.box [(V.sl (vs.map vaV) .ro)], .box [(V.fn (.func 72) [] [.pt 0 0, .pt 1 0])], .box [.im (.int .i64 18), .im (.int .u32 n), .im (.string s), .im (.int .i64 w), .sl (L.map exV) .ro]] (And.intro (@exL_id) (And.intro (@vaL_id) (And.intro (@exV_id) @vaV_id))) ?_
          exact hnext (m + 1) (by omega) (by omega) (hI.succ hlt b)
        | false =>
          rw [b] at hc
          refine w72 (And.intro hlt' (And.intro hg hm1)) ?_
          refine AR.callQP [0, 1] hc @exV_eq (And.intro (@exL_id) (And.intro (@vaL_id) (And.intro (@exV_id) @vaV_id))) (And.intro (@exV_ren) (And.intro (@exL_ren) (And.intro (@vaV_ren) @vaL_ren))) ?_
          refine go72 True.intro ?_
          refine w72 hm1 ?_
          rw [not_all_of hlt b]
          exact Fin.oneSP (And.intro (@exL_id) (And.intro (@vaL_id) (And.intro (@exV_id) @vaV_id)))
      · have hall := hI.done (by omega)
        have hlt' : ¬ (m : Int) < (L.length : Int) := by omega
        clear hnext
        rw [hall]
        refine w72 hlt' ?_
        exact Fin.oneSP (And.intro (@exL_id) (And.intro (@vaL_id) (And.intro (@exV_id) @vaV_id)))
  · have e : (o == 18) = false := by simp [ho]
    rw [e]
    simp only [Bool.false_eq_true, if_false, Bool.true_and]
    refine wd72 ho ?_
    refine AWp.loop ?_
    refine ALp.cutP 3 [(1, .pt 0 0), (2, .pt 1 0), (3, .pt 2 0), (22, .sl (l.map exV) .ro), (23, (.im (.int .i64 (l.length)))), (24, (.im (.int .i64 ((((0 : Nat)) : Int)))))] [.box [(V.sl (vs.map vaV) .ro)], .box [(V.fn (.func 72) [] [.pt 0 0, .pt 1 0])], .box [.im (.int .i64 o), .im (.int .u32 n), .im (.string s), .im (.int .i64 w), .sl (l.map exV) .ro]] (And.intro (@exL_id) (And.intro (@vaL_id) (And.intro (@exV_id) @vaV_id))) ?_
    refine ALp.upto l.length (AllTo (acs vs) l) (fun m => ⟨dn 33 [(1, .pt 0 0), (2, .pt 1 0), (3, .pt 2 0), (22, .sl (l.map exV) .ro), (23, (.im (.int .i64 (l.length)))), (24, (.im (.int .i64 ((((m : Nat)) : Int)))))], ofl [.box [(V.sl (vs.map vaV) .ro)], .box [(V.fn (.func 72) [] [.pt 0 0, .pt 1 0])], .box [.im (.int .i64 o), .im (.int .u32 n), .im (.string s), .im (.int .i64 w), .sl (l.map exV) .ro]]⟩) ?_ 0 (Nat.zero_le _) (AllTo.zero _ _)
    intro m hm hI hnext
    by_cases hlt : m < l.length
    · have hlt' : (m : Int) < (l.length : Int) := by omega
      have hg := get_some hlt
      have hm1 := wrap_succ hlt (by omega)
      have hc := hE l[m] (List.getElem_mem hlt) (hfE _ (List.getElem_mem hlt)) (hfl.2 _ (List.getElem_mem hlt))
      cases b : acs vs l[m] with
      | true =>
        rw [b] at hc
        refine w72 (And.intro hlt' (And.intro hg hm1)) ?_
        refine AR.callQP [0, 1] hc @exV_eq (And.intro (@exL_id) (And.intro (@vaL_id) (And.intro (@exV_id) @vaV_id))) (And.intro (@exV_ren) (And.intro (@exL_ren) (And.intro (@vaV_ren) @vaL_ren))) ?_
        refine go72 True.intro ?_
        refine w72 hm1 ?_
        refine ALp.cutP 3 [(1, .pt 0 0), (2, .pt 1 0), (3, .pt 2 0), (22, .sl (l.map exV) .ro), (23, (.im (.int .i64 (l.length)))), (24, (.im (.int .i64 ((((m + 1 : Nat)) : Int)))))] [.box [(V.sl (vs.map vaV) .ro)], .box [(V.fn (.func 72) [] [.pt 0 0, .pt 1 0])], .box [.im (.int .i64 o), .im (.int .u32 n), .im (.string s), .im (.int .i64 w), .sl (l.map exV) .ro]] (And.intro (@exL_id) (And.intro (@vaL_id) (And.intro (@exV_id) @vaV_id))) ?_
        exact hnext (m + 1) (by omega) (by omega) (hI.succ hlt b)
      | false =>
        rw [b] at hc
        refine w72 (And.intro hlt' (And.intro hg hm1)) ?_
        refine AR.callQP [0, 1] hc @exV_eq (And.intro (@exL_id) (And.intro (@vaL_id) (And.intro (@exV_id) @vaV_id))) (And.intro (@exV_ren) (And.intro (@exL_ren) (And.intro (@vaV_ren) @vaL_ren))) ?_
        refine go72 True.intro ?_
        refine w72 hm1 ?_
        rw [not_all_of hlt b]
        exact Fin.oneSP (And.intro (@exL_id) (And.intro (@vaL_id) (And.intro (@exV_id) @vaV_id)))
    · have hall := hI.done (by omega)
      have hlt' : ¬ (m : Int) < (l.length : Int) := by omega
      clear hnext
      rw [hall]
      refine w72 hlt' ?_
      exact Fin.oneSP (And.intro (@exL_id) (And.intro (@vaL_id) (And.intro (@exV_id) @vaV_id)))
theorem c_accesses (vs : List Va) (hv : fitV vs) (e : Ex) (he : fitE e) (hf : efm e = true) : PC Try.prog 38 [exV e, (V.sl (vs.map vaV) .ro)] (.im (.bool (acs vs e))) := by
  have h := c_accesses1 vs hv e he hf
  refine PC.enter 10 Try.func38 rfl (by decide) rfl rfl (s := [(0, exV e), (1, (V.sl (vs.map vaV) .ro))]) (by rfl) ?_
  simp only [exV_eq]
  refine w38 True.intro ?_
  refine AR.callQP [1, 2] h @exV_eq (And.intro (@exL_id) (And.intro (@vaL_id) (And.intro (@exV_id) @vaV_id))) (And.intro (@exV_ren) (And.intro (@exL_ren) (And.intro (@vaV_ren) @vaL_ren))) ?_
  refine go38 True.intro ?_
  refine w38 True.intro ?_
  exact Fin.oneP
end Go.Proofs.Ytfggemopnlffeaa

