/- Walks: the order of types. -/
import Derived.Test.YtfggemopnlffeaaHw
import Derived.Test.YtfggemopnlffeaaB6
namespace Go.Proofs.Ytfggemopnlffeaa
set_option linter.unusedSimpArgs false
set_option linter.unusedVariables false
set_option linter.unnecessarySimpa false
open Go.RowKit
set_option maxHeartbeats 1000000 in
theorem c_sub : ∀ (b : Ty), fit b → frm b = true → ∀ (a : Ty), fit a → frm a = true → PC Try.prog 48 [tyV a, tyV b] (.im (.bool (subT a b))) := by
  refine Ty.induct fun o k s c es fs hE hF => ?_
  intro hfit hfrm a hfita hfrma
  obtain ⟨hl1, hl2, hfE, hfF⟩ := fit_mk hfit
  obtain ⟨hb, hof, hfs, hes⟩ := frm_inv hfrm
  obtain ⟨oa, ka, sa, ca, ea, fa⟩ := a
  obtain ⟨ha1, ha2, haE, haF⟩ := fit_mk hfita
  obtain ⟨hba, haof, hafs, haes⟩ := frm_inv hfrma
  refine PC.enter 74 Try.func48 rfl (by decide) rfl rfl (s := [(0, tyV (.mk oa ka sa ca ea fa)), (1, tyV (.mk o k s c es fs))]) (by rfl) ?_
  simp only [tyV_mk]
  rw [subT_mk2]
  by_cases h0 : ka = 0
  · subst h0
    simp only [Int.reduceBEq, Bool.true_or, if_true]
    refine w48 True.intro ?_
    exact Fin.oneP
  by_cases h6 : k = 6
  · subst h6
    simp only [Int.reduceBEq, Bool.or_true, if_true]
    refine w48 h0 ?_
    exact Fin.oneP
  have e0 : (ka == 0 || k == 6) = false := by simp [h0, h6]
  rw [e0]
  simp only [Bool.false_eq_true, if_false]
  by_cases hk : ka = k
  case neg =>
    have e1 : (ka != k) = true := by simp [hk]
    rw [e1]
    simp only [if_true]
    refine w48 (And.intro h0 (And.intro h6 hk)) ?_
    exact Fin.oneP
  subst hk
  have e1 : (ka != ka) = false := by simp
  rw [e1]
  simp only [Bool.false_eq_true, if_false]
  rcases base_cases hb with h | h | h | h | h
  · omega
  · obtain ⟨h, _⟩ := h
    have e2 : (ka == 1 || ka == 2) = true := by rcases h with rfl | rfl <;> rfl
    rw [e2]
    simp only [if_true]
    by_cases hsz : sa = s
    · have e3 : (sa == s) = true := by simp [hsz]
      rw [e3]
      rcases h with rfl | rfl
      all_goals
        refine w48 hsz ?_
        exact Fin.oneP
    · have e3 : (sa == s) = false := by simp [hsz]
      rw [e3]
      rcases h with rfl | rfl
      all_goals
        refine w48 hsz ?_
        exact Fin.oneP
  · obtain ⟨rfl, _, _, h4, _⟩ := h
    have h4a : ea.length = 1 := by rcases base_cases hba with q | q | q | q | q <;> omega
    obtain ⟨x, rfl⟩ := List.length_eq_one_iff.1 h4
    obtain ⟨y, rfl⟩ := List.length_eq_one_iff.1 h4a
    simp only [Int.reduceBEq, Bool.or_false, Bool.false_eq_true, if_false, if_true, hd2]
    have hc := hE x (by simp) (hfE x (by simp)) (hes x (by simp)) y (haE y (by simp)) (haes y (by simp))
    refine wd48 True.intro ?_
    refine AR.callP hc @tyV_eq True.intro ?_
    refine go48 True.intro ?_
    refine wd48 True.intro ?_
    exact Fin.oneP
  · obtain ⟨rfl, _, _, _, h4, _⟩ := h
    have h4a : ea.length = 1 := by rcases base_cases hba with q | q | q | q | q <;> omega
    obtain ⟨x, rfl⟩ := List.length_eq_one_iff.1 h4
    obtain ⟨y, rfl⟩ := List.length_eq_one_iff.1 h4a
    simp only [Int.reduceBEq, Bool.or_false, Bool.false_eq_true, if_false, if_true, hd2]
    by_cases hcc : ca ≥ c
    · have e3 : decide (c ≤ ca) = true := by simp; omega
      rw [e3, Bool.true_and]
      have hc := hE x (by simp) (hfE x (by simp)) (hes x (by simp)) y (haE y (by simp)) (haes y (by simp))
      refine wd48 hcc ?_
      refine AR.callP hc @tyV_eq True.intro ?_
      refine go48 True.intro ?_
      refine wd48 True.intro ?_
      exact Fin.oneP
    · have e3 : decide (c ≤ ca) = false := by simp; omega
      rw [e3, Bool.false_and]
      refine wd48 hcc ?_
      exact Fin.oneP
  · obtain ⟨rfl, _⟩ := h
    simp only [Int.reduceBEq, Bool.or_false, Bool.false_eq_true, if_false]
    refine w48 True.intro ?_
    refine AWp.loop ?_
    refine ALp.cut 2 [(2, .pt 0 0), (3, .pt 1 0), (61, .sl (fs.map fdV) .ro), (62, (.im (.int .i64 (fs.length)))), (63, (.im (.int .i64 ((((0 : Nat)) : Int)))))] [.box [.im (.int .i64 5), .im (.int .i64 sa), .im (.int .i64 ca), .sl (ea.map tyV) .ro, .sl (fa.map fdV) .ro], .box [.im (.int .i64 5), .im (.int .i64 s), .im (.int .i64 c), .sl (es.map tyV) .ro, .sl (fs.map fdV) .ro]] ?_ rfl (by repeat (first | exact WkA.nil | refine WkA.cons (Wk.refl _) ?_)) (fun i hi => by first | exact absurd rfl hi) (by simp [idsA, V.ids, V.idsL, ltB, fdL_id]) (by simp [entOk, V.idsL, V.ids, tyL_id, fdL_id])
    refine ALp.upto fs.length (AllTo (fun f => fa.any fun x => x.off == f.off && subT x f) fs) (fun m => ⟨dn 74 [(2, .pt 0 0), (3, .pt 1 0), (61, .sl (fs.map fdV) .ro), (62, (.im (.int .i64 (fs.length)))), (63, (.im (.int .i64 ((((m : Nat)) : Int)))))], ofl [.box [.im (.int .i64 5), .im (.int .i64 sa), .im (.int .i64 ca), .sl (ea.map tyV) .ro, .sl (fa.map fdV) .ro], .box [.im (.int .i64 5), .im (.int .i64 s), .im (.int .i64 c), .sl (es.map tyV) .ro, .sl (fs.map fdV) .ro]]⟩) ?_ 0 (Nat.zero_le _) (AllTo.zero _ _)
    intro m hm hI hnext
    by_cases hlt : m < fs.length
    · have hlt' : (m : Int) < (fs.length : Int) := by omega
      have hg := get_some hlt
      have hm1 := wrap_succ hlt (by omega)
      have hc : ∀ x ∈ fa, DC Try.prog 84 [fdV x, .pt 0 0] [.box [.im (.int .i64 fs[m].off), .im (.int .i64 fs[m].kind), .im (.int .i64 fs[m].size), .im (.int .i64 fs[m].count), .sl (fs[m].elem.map tyV) .ro, .sl (fs[m].fields.map fdV) .ro]] (.im (.bool (x.off == fs[m].off && subT x fs[m]))) [.box [.im (.int .i64 fs[m].off), .im (.int .i64 fs[m].kind), .im (.int .i64 fs[m].size), .im (.int .i64 fs[m].count), .sl (fs[m].elem.map tyV) .ro, .sl (fs[m].fields.map fdV) .ro]] := fun x hx => c_sub1 (hF fs[m] (List.getElem_mem hlt) (hfF _ (List.getElem_mem hlt)) (hfs _ (List.getElem_mem hlt)) x (haF x hx) (hafs x hx))
      have hcc := c_containsF (gs := fa) (F := 84) (cs := [.im (.int .i64 fs[m].off), .im (.int .i64 fs[m].kind), .im (.int .i64 fs[m].size), .im (.int .i64 fs[m].count), .sl (fs[m].elem.map tyV) .ro, .sl (fs[m].fields.map fdV) .ro]) (fun x => x.off == fs[m].off && subT x fs[m]) (by simp [V.idsL, V.ids, tyL_id, fdL_id]) (by simp only [SR]) ha2 hc
      refine w48 (And.intro hlt' (And.intro hg hm1)) ?_
      cases b : fa.any (fun x => x.off == fs[m].off && subT x fs[m]) with
      | true =>
        rw [b] at hcc
        refine AR.callQP [2] hcc True.intro True.intro True.intro ?_
        refine go48 True.intro ?_
        refine w48 hm1 ?_
        refine ALp.cutP 2 [(2, .pt 0 0), (3, .pt 1 0), (61, .sl (fs.map fdV) .ro), (62, (.im (.int .i64 (fs.length)))), (63, (.im (.int .i64 ((((m + 1 : Nat)) : Int)))))] [.box [.im (.int .i64 5), .im (.int .i64 sa), .im (.int .i64 ca), .sl (ea.map tyV) .ro, .sl (fa.map fdV) .ro], .box [.im (.int .i64 5), .im (.int .i64 s), .im (.int .i64 c), .sl (es.map tyV) .ro, .sl (fs.map fdV) .ro]] True.intro ?_
        exact hnext (m + 1) (by omega) (by omega) (hI.succ hlt b)
      | false =>
        rw [b] at hcc
        refine AR.callQP [2] hcc True.intro True.intro True.intro ?_
        refine go48 True.intro ?_
        refine w48 hm1 ?_
        rw [not_all_of hlt b]
        exact Fin.oneP
    · have hall := hI.done (by omega)
      have hlt' : ¬ (m : Int) < (fs.length : Int) := by omega
      clear hnext
      rw [hall]
      refine w48 hlt' ?_
      exact Fin.oneP
end Go.Proofs.Ytfggemopnlffeaa

