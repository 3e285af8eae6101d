/- Walks: Same of the program. -/
import Derived.Test.YtfggemopnlffeaaHv
import Derived.Test.YtfggemopnlffeaaCA
namespace Go.Proofs.Ytfggemopnlffeaa
set_option linter.unusedSimpArgs false
set_option linter.unusedVariables false
set_option linter.unnecessarySimpa false
open Go.RowKit
theorem Y51_CC : type_of% (And.intro @F_ag_25 (And.intro @F_al_25 (And.intro @F_el_22 (@F_sz_25)))) := And.intro @F_ag_25 (And.intro @F_al_25 (And.intro @F_el_22 (@F_sz_25)))
theorem c_eqT {l k : List Ty} {F : FuncId} (p : Ty → Ty → Bool) (hl : l.length ≤ 4194304) (hk : k.length ≤ 4194304) (hF : ∀ x ∈ l, ∀ y ∈ k, PC Try.prog F [tyV x, tyV y] (.im (.bool (p x y)))) :
    PC Try.prog 51 [.sl (l.map tyV) .ro, .sl (k.map tyV) .ro, .fn (.func F) [] []] (.im (.bool (all2 p l k))) := by
  refine PC.enter 32 Try.func51 rfl (by decide) rfl rfl (s := [(0, .sl (l.map tyV) .ro), (1, .sl (k.map tyV) .ro), (2, .fn (.func F) [] [])]) (by rfl) ?_
  by_cases he : l.length = k.length
  case neg =>
    have he' : ¬ (l.length : Int) = (k.length : Int) := by omega
    rw [all2_ne he]
    refine wG Y51_CC he' ?_
    exact Fin.oneP
  have he' : (l.length : Int) = (k.length : Int) := by omega
  refine wG Y51_CC he' ?_
  refine AWp.loop ?_
  refine ALp.cutP 0 [(1, .sl (k.map tyV) .ro), (2, .fn (.func F) [] []), (15, .sl (l.map tyV) .ro), (16, (.im (.int .i64 (k.length)))), (17, (.im (.int .i64 ((((0 : Nat)) : Int)))))] [] (And.intro (@tyV_id) (And.intro (@fdV_id) (And.intro (@tyL_id) @fdL_id))) ?_
  refine ALp.upto l.length (to2 p l k) (fun m => ⟨dn 32 [(1, .sl (k.map tyV) .ro), (2, .fn (.func F) [] []), (15, .sl (l.map tyV) .ro), (16, (.im (.int .i64 (k.length)))), (17, (.im (.int .i64 ((((m : Nat)) : Int)))))], ofl []⟩) ?_ 0 (Nat.zero_le _) (to2.zero _ _ _)
  intro m hm hI hnext
  by_cases hlt : m < l.length
  · have hlt2 : m < k.length := by omega
    have hlt' : (m : Int) < (l.length : Int) := by omega
    have hlt2' : (m : Int) < (k.length : Int) := by omega
    have hg := get_some hlt
    have hg2 := get_some hlt2
    have hm1 := wrap_succ hlt (by omega)
    have hc := hF l[m] (List.getElem_mem hlt) k[m] (List.getElem_mem hlt2)
    refine wG Y51_CC (And.intro hlt' (And.intro hlt2' (And.intro he' (And.intro hg (And.intro hg2 TY))))) ?_
    refine AR.callP hc @tyV_eq (And.intro (@tyV_id) (And.intro (@fdV_id) (And.intro (@tyL_id) @fdL_id))) ?_
    cases hs : p l[m] k[m] with
    | false =>
      rw [all2_at hlt hlt2 hs]
      refine goG Y51_CC hs ?_
      refine wG Y51_CC True.intro ?_
      exact Fin.oneP
    | true =>
      refine goG Y51_CC hs ?_
      refine wG Y51_CC hm1 ?_
      refine ALp.cutP 0 [(1, .sl (k.map tyV) .ro), (2, .fn (.func F) [] []), (15, .sl (l.map tyV) .ro), (16, (.im (.int .i64 (k.length)))), (17, (.im (.int .i64 ((((m + 1 : Nat)) : Int)))))] [] (And.intro (@tyV_id) (And.intro (@fdV_id) (And.intro (@tyL_id) @fdL_id))) ?_
      exact hnext (m + 1) (by omega) (by omega) (hI.succ hlt hlt2 hs)
  obtain rfl : m = l.length := by omega
  rw [hI.all he]
  clear hnext hI
  refine wG Y51_CC (And.intro he' @Int.lt_irrefl) ?_
  exact Fin.oneP
theorem Y52_CC : type_of% (And.intro @F_ag_59 (And.intro @F_al_59 (And.intro @F_el_23 (@F_sz_59)))) := And.intro @F_ag_59 (And.intro @F_al_59 (And.intro @F_el_23 (@F_sz_59)))
theorem c_eqF {l k : List Ty} {F : FuncId} (p : Ty → Ty → Bool) (hl : l.length ≤ 4194304) (hk : k.length ≤ 4194304) (hF : ∀ x ∈ l, ∀ y ∈ k, PC Try.prog F [fdV x, fdV y] (.im (.bool (p x y)))) :
    PC Try.prog 52 [.sl (l.map fdV) .ro, .sl (k.map fdV) .ro, .fn (.func F) [] []] (.im (.bool (all2 p l k))) := by
  refine PC.enter 32 Try.func52 rfl (by decide) rfl rfl (s := [(0, .sl (l.map fdV) .ro), (1, .sl (k.map fdV) .ro), (2, .fn (.func F) [] [])]) (by rfl) ?_
  by_cases he : l.length = k.length
  case neg =>
    have he' : ¬ (l.length : Int) = (k.length : Int) := by omega
    rw [all2_ne he]
    refine wG Y52_CC he' ?_
    exact Fin.oneP
  have he' : (l.length : Int) = (k.length : Int) := by omega
  refine wG Y52_CC he' ?_
  refine AWp.loop ?_
  refine ALp.cutP 0 [(1, .sl (k.map fdV) .ro), (2, .fn (.func F) [] []), (15, .sl (l.map fdV) .ro), (16, (.im (.int .i64 (k.length)))), (17, (.im (.int .i64 ((((0 : Nat)) : Int)))))] [] (And.intro (@tyV_id) (And.intro (@fdV_id) (And.intro (@tyL_id) @fdL_id))) ?_
  refine ALp.upto l.length (to2 p l k) (fun m => ⟨dn 32 [(1, .sl (k.map fdV) .ro), (2, .fn (.func F) [] []), (15, .sl (l.map fdV) .ro), (16, (.im (.int .i64 (k.length)))), (17, (.im (.int .i64 ((((m : Nat)) : Int)))))], ofl []⟩) ?_ 0 (Nat.zero_le _) (to2.zero _ _ _)
  intro m hm hI hnext
  by_cases hlt : m < l.length
  · have hlt2 : m < k.length := by omega
    have hlt' : (m : Int) < (l.length : Int) := by omega
    have hlt2' : (m : Int) < (k.length : Int) := by omega
    have hg := get_some hlt
    have hg2 := get_some hlt2
    have hm1 := wrap_succ hlt (by omega)
    have hc := hF l[m] (List.getElem_mem hlt) k[m] (List.getElem_mem hlt2)
    refine wG Y52_CC (And.intro hlt' (And.intro hlt2' (And.intro he' (And.intro hg (And.intro hg2 TY))))) ?_
    refine AR.callP hc @fdV_eq (And.intro (@tyV_id) (And.intro (@fdV_id) (And.intro (@tyL_id) @fdL_id))) ?_
    cases hs : p l[m] k[m] with
    | false =>
      rw [all2_at hlt hlt2 hs]
      refine goG Y52_CC hs ?_
      refine wG Y52_CC True.intro ?_
      exact Fin.oneP
    | true =>
      refine goG Y52_CC hs ?_
      refine wG Y52_CC hm1 ?_
      refine ALp.cutP 0 [(1, .sl (k.map fdV) .ro), (2, .fn (.func F) [] []), (15, .sl (l.map fdV) .ro), (16, (.im (.int .i64 (k.length)))), (17, (.im (.int .i64 ((((m + 1 : Nat)) : Int)))))] [] (And.intro (@tyV_id) (And.intro (@fdV_id) (And.intro (@tyL_id) @fdL_id))) ?_
      exact hnext (m + 1) (by omega) (by omega) (hI.succ hlt hlt2 hs)
  obtain rfl : m = l.length := by omega
  rw [hI.all he]
  clear hnext hI
  refine wG Y52_CC (And.intro he' @Int.lt_irrefl) ?_
  exact Fin.oneP
theorem Y53_CC : type_of% (And.intro @F_ag_25 (And.intro @F_ag_3 (And.intro @F_fl_59_0 (And.intro @F_fl_59_1 (And.intro @F_sz_25 (@F_sz_3)))))) := And.intro @F_ag_25 (And.intro @F_ag_3 (And.intro @F_fl_59_0 (And.intro @F_fl_59_1 (And.intro @F_sz_25 (@F_sz_3)))))
theorem c_same1 {x y : Ty} {r : Bool} (h : PC Try.prog 22 [tyV x, tyV y] (.im (.bool (r)))) : PC Try.prog 53 [fdV x, fdV y] (.im (.bool (x.off == y.off && r))) := by
  refine PC.enter 17 Try.func53 rfl (by decide) rfl rfl (s := [(0, fdV x), (1, fdV y)]) (by rfl) ?_
  rw [fdV_eq x, fdV_eq y]
  by_cases ho : x.off = y.off
  · refine wG Y53_CC (And.intro ho TY) ?_
    rw [tyV_eq x, tyV_eq y] at h
    refine AR.callP h True.intro (And.intro (@tyV_id) (And.intro (@fdV_id) (And.intro (@tyL_id) @fdL_id))) ?_
    refine goG Y53_CC True.intro ?_
    refine wG Y53_CC True.intro ?_
    simp only [ho, beq_self_eq_true, Bool.true_and]
    exact Fin.oneP
  · refine wG Y53_CC (And.intro ho TY) ?_
    have : (x.off == y.off) = false := by simp [ho]
    rw [this, Bool.false_and]
    exact Fin.oneP
theorem Y22_CC : type_of% (And.intro @F_ag_22 (And.intro @F_ag_23 (And.intro @F_ag_3 (And.intro @F_fl_25_0 (And.intro @F_fl_25_1 (And.intro @F_fl_25_2 (And.intro @F_fl_25_3 (And.intro @F_fl_25_4 (And.intro @F_sz_22 (And.intro @F_sz_23 (@F_sz_3))))))))))) := And.intro @F_ag_22 (And.intro @F_ag_23 (And.intro @F_ag_3 (And.intro @F_fl_25_0 (And.intro @F_fl_25_1 (And.intro @F_fl_25_2 (And.intro @F_fl_25_3 (And.intro @F_fl_25_4 (And.intro @F_sz_22 (And.intro @F_sz_23 (@F_sz_3))))))))))
theorem c_Same : ∀ (a : Ty), fit a → ∀ b, fit b → PC Try.prog 22 [tyV a, tyV b] (.im (.bool (samT a b))) := by
  refine Ty.induct fun o k s c es fs hT hF => ?_
  intro hfit b hfb
  obtain ⟨o', k', s', c', es', fs'⟩ := b
  obtain ⟨hl1, hl2, hfE, hfF⟩ := fit_mk hfit
  obtain ⟨hl3, hl4, hfE', hfF'⟩ := fit_mk hfb
  have h1 := c_eqT (l := es) (k := es') samT hl1 hl3 (fun x hx y hy => hT x hx (hfE x hx) y (hfE' y hy))
  have h2 := c_eqF (l := fs) (k := fs') samF hl2 hl4 (fun x hx y hy => c_same1 (hF x hx (hfF x hx) y (hfF' y hy)))
  rw [samT_mk]
  simp only [Ty.kind, Ty.size, Ty.count, Ty.elem, Ty.fields]
  show PC _ _ _ (.im (.bool (k == k' && s == s' && c == c' && all2 samT es es' && all2 samF fs fs')))
  generalize all2 samT es es' = r1 at h1 ⊢
  generalize all2 samF fs fs' = r2 at h2 ⊢
  refine PC.enter 38 Try.func22 rfl (by decide) rfl rfl (s := [(0, tyV (.mk o k s c es fs)), (1, tyV (.mk o' k' s' c' es' fs'))]) (by rfl) ?_
  simp only [tyV_mk]
  by_cases e1 : k = k'
  case neg =>
    have q : (k == k') = false := by simp [e1]
    rw [q]
    simp only [Bool.false_and]
    refine wG Y22_CC e1 ?_
    exact Fin.oneP
  by_cases e2 : s = s'
  case neg =>
    have q : (s == s') = false := by simp [e2]
    rw [q]
    simp only [Bool.and_false, Bool.false_and]
    refine wG Y22_CC (And.intro e1 e2) ?_
    exact Fin.oneP
  by_cases e3 : c = c'
  case neg =>
    have q : (c == c') = false := by simp [e3]
    rw [q]
    simp only [Bool.and_false, Bool.false_and]
    refine wG Y22_CC (And.intro e1 (And.intro e2 e3)) ?_
    exact Fin.oneP
  subst e1 e2 e3
  simp only [beq_self_eq_true, Bool.true_and]
  refine wG Y22_CC True.intro ?_
  refine AR.callP h1 True.intro (And.intro (@tyV_id) (And.intro (@fdV_id) (And.intro (@tyL_id) @fdL_id))) ?_
  cases r1 with
  | false =>
    simp only [Bool.false_and]
    refine goG Y22_CC True.intro ?_
    refine wG Y22_CC True.intro ?_
    exact Fin.oneP
  | true =>
    simp only [Bool.true_and]
    refine goG Y22_CC True.intro ?_
    refine AR.callP h2 True.intro (And.intro (@tyV_id) (And.intro (@fdV_id) (And.intro (@tyL_id) @fdL_id))) ?_
    refine goG Y22_CC True.intro ?_
    refine wG Y22_CC True.intro ?_
    exact Fin.oneP
end Go.Proofs.Ytfggemopnlffeaa

