/- Walks: IndexFunc and ContainsFunc over expressions and variables. -/
import Derived.Test.YtfggemopnlffeaaHw
import Derived.Test.YtfggemopnlffeaaB6
import Derived.Test.YtfggemopnlffeaaLe
namespace Go.Proofs.Ytfggemopnlffeaa
set_option linter.unusedSimpArgs false
set_option linter.unusedVariables false
set_option linter.unnecessarySimpa false
open Go.RowKit
theorem c_indexE0 {gs : List Ex} {F : FuncId} (p : Ex → Bool) (hl : gs.length ≤ 4194304) (hF : ∀ t ∈ gs, PC Try.prog F [exV t] (.im (.bool (p t)))) :
    PC Try.prog 121 [.sl (gs.map exV) .ro, .fn (.func F) [] []] (.im (.int .i64 (idx gs p))) := by
  refine PC.enter 19 Try.func121 rfl (by decide) rfl rfl (s := [(0, .sl (gs.map exV) .ro), (1, .fn (.func F) [] [])]) (by rfl) ?_
  refine w121 True.intro ?_
  refine AWp.loop ?_
  refine ALp.cutP 0 [(0, .sl (gs.map exV) .ro), (1, .fn (.func F) [] []), (7, (.im (.int .i64 (gs.length)))), (8, (.im (.int .i64 ((((0 : Nat)) : Int)))))] [] (And.intro (@exL_id) (And.intro (@vaL_id) (And.intro (@exV_id) @vaV_id))) ?_
  refine ALp.upto gs.length (AllTo (fun x => !p x) gs) (fun m => ⟨dn 19 [(0, .sl (gs.map exV) .ro), (1, .fn (.func F) [] []), (7, (.im (.int .i64 (gs.length)))), (8, (.im (.int .i64 ((((m : Nat)) : Int)))))], ofl []⟩) ?_ 0 (Nat.zero_le _) (AllTo.zero _ _)
  intro m hm hI hnext
  by_cases hlt : m < gs.length
  · have hlt' : (m : Int) < (gs.length : Int) := by omega
    have hg := get_some hlt
    have hm1 := wrap_succ hlt (by omega)
    have hc := hF gs[m] (List.getElem_mem hlt)
    refine w121 (And.intro hlt' (And.intro hg hm1)) ?_
    by_cases b : p gs[m] = true
    · rw [b] at hc
      refine AR.callP hc @exV_eq (And.intro (@exL_id) (And.intro (@vaL_id) (And.intro (@exV_id) @vaV_id))) ?_
      refine go121 True.intro ?_
      refine w121 True.intro ?_
      rw [idx_some hlt hI b]
      exact Fin.oneP
    · have b : p gs[m] = false := by simpa using b
      rw [b] at hc
      refine AR.callP hc @exV_eq (And.intro (@exL_id) (And.intro (@vaL_id) (And.intro (@exV_id) @vaV_id))) ?_
      refine go121 True.intro ?_
      refine w121 hm1 ?_
      refine ALp.cutP 0 [(0, .sl (gs.map exV) .ro), (1, .fn (.func F) [] []), (7, (.im (.int .i64 (gs.length)))), (8, (.im (.int .i64 ((((m + 1 : Nat)) : Int)))))] [] (And.intro (@exL_id) (And.intro (@vaL_id) (And.intro (@exV_id) @vaV_id))) ?_
      exact hnext (m + 1) (by omega) (by omega) (hI.succ hlt (by simp [b]))
  · obtain rfl : m = gs.length := by omega
    have hlt' : ¬ (gs.length : Int) < (gs.length : Int) := by omega
    clear hnext hlt
    rw [idx_none hI]
    refine w121 hlt' ?_
    exact Fin.oneP
theorem c_containsE0 {gs : List Ex} {F : FuncId} (p : Ex → Bool) (hl : gs.length ≤ 4194304) (hF : ∀ t ∈ gs, PC Try.prog F [exV t] (.im (.bool (p t)))) :
    PC Try.prog 101 [.sl (gs.map exV) .ro, .fn (.func F) [] []] (.im (.bool (gs.any p))) := by
  have h := c_indexE0 p hl hF
  refine PC.enter 9 Try.func101 rfl (by decide) rfl rfl (s := [(0, .sl (gs.map exV) .ro), (1, .fn (.func F) [] [])]) (by rfl) ?_
  refine w101 True.intro ?_
  refine AR.callP h True.intro (And.intro (@exL_id) (And.intro (@vaL_id) (And.intro (@exV_id) @vaV_id))) ?_
  refine go101 True.intro ?_
  rw [idx_any]
  refine w101 True.intro ?_
  exact Fin.oneP
theorem c_indexE1 {gs : List Ex} {F : FuncId} {cs : List V} (p : Ex → Bool) (hcs : V.idsL (ltB 1) cs = true) (hr : V.renL (gOf [0]) cs = cs) (hl : gs.length ≤ 4194304) (hF : ∀ t ∈ gs, DC Try.prog F [exV t, .pt 0 0] [.box cs] (.im (.bool (p t))) [.box cs]) :
    DC Try.prog 121 [.sl (gs.map exV) .ro, .fn (.func F) [] [.pt 0 0]] [.box cs] (.im (.int .i64 (idx gs p))) [.box cs] := by
  refine DC.enter 19 Try.func121 rfl (by decide) rfl rfl (s := [(0, .sl (gs.map exV) .ro), (1, .fn (.func F) [] [.pt 0 0])]) (by rfl) ?_
  refine w121 True.intro ?_
  refine AWp.loop ?_
  refine ALp.cutP 1 [(0, .sl (gs.map exV) .ro), (1, .fn (.func F) [] [.pt 0 0]), (7, (.im (.int .i64 (gs.length)))), (8, (.im (.int .i64 ((((0 : Nat)) : Int)))))] [.box cs] (And.intro (@exL_id) (And.intro (@vaL_id) (And.intro (@exV_id) (And.intro (@vaV_id) hcs)))) ?_
  refine ALp.upto gs.length (AllTo (fun x => !p x) gs) (fun m => ⟨dn 19 [(0, .sl (gs.map exV) .ro), (1, .fn (.func F) [] [.pt 0 0]), (7, (.im (.int .i64 (gs.length)))), (8, (.im (.int .i64 ((((m : Nat)) : Int)))))], ofl [.box cs]⟩) ?_ 0 (Nat.zero_le _) (AllTo.zero _ _)
  intro m hm hI hnext
  by_cases hlt : m < gs.length
  · have hlt' : (m : Int) < (gs.length : Int) := by omega
    have hg := get_some hlt
    have hm1 := wrap_succ hlt (by omega)
    have hc := hF gs[m] (List.getElem_mem hlt)
    refine w121 (And.intro hlt' (And.intro hg hm1)) ?_
    by_cases b : p gs[m] = true
    · rw [b] at hc
      refine AR.callQP [0] hc @exV_eq (And.intro (@exL_id) (And.intro (@vaL_id) (And.intro (@exV_id) (And.intro (@vaV_id) hcs)))) (And.intro (@exV_ren) (And.intro (@exL_ren) (And.intro (@vaV_ren) (And.intro (@vaL_ren) hr)))) ?_
      refine go121 True.intro ?_
      refine w121 True.intro ?_
      rw [idx_some hlt hI b]
      exact Fin.oneSP (And.intro (@exL_id) (And.intro (@vaL_id) (And.intro (@exV_id) (And.intro (@vaV_id) hcs))))
    · have b : p gs[m] = false := by simpa using b
      rw [b] at hc
      refine AR.callQP [0] hc @exV_eq (And.intro (@exL_id) (And.intro (@vaL_id) (And.intro (@exV_id) (And.intro (@vaV_id) hcs)))) (And.intro (@exV_ren) (And.intro (@exL_ren) (And.intro (@vaV_ren) (And.intro (@vaL_ren) hr)))) ?_
      refine go121 True.intro ?_
      refine w121 hm1 ?_
      refine ALp.cutP 1 [(0, .sl (gs.map exV) .ro), (1, .fn (.func F) [] [.pt 0 0]), (7, (.im (.int .i64 (gs.length)))), (8, (.im (.int .i64 ((((m + 1 : Nat)) : Int)))))] [.box cs] (And.intro (@exL_id) (And.intro (@vaL_id) (And.intro (@exV_id) (And.intro (@vaV_id) hcs)))) ?_
      exact hnext (m + 1) (by omega) (by omega) (hI.succ hlt (by simp [b]))
  · obtain rfl : m = gs.length := by omega
    have hlt' : ¬ (gs.length : Int) < (gs.length : Int) := by omega
    clear hnext hlt
    rw [idx_none hI]
    refine w121 hlt' ?_
    exact Fin.oneSP (And.intro (@exL_id) (And.intro (@vaL_id) (And.intro (@exV_id) (And.intro (@vaV_id) hcs))))
theorem c_containsE1 {gs : List Ex} {F : FuncId} {cs : List V} (p : Ex → Bool) (hcs : V.idsL (ltB 1) cs = true) (hr : V.renL (gOf [0]) cs = cs) (hl : gs.length ≤ 4194304) (hF : ∀ t ∈ gs, DC Try.prog F [exV t, .pt 0 0] [.box cs] (.im (.bool (p t))) [.box cs]) :
    DC Try.prog 101 [.sl (gs.map exV) .ro, .fn (.func F) [] [.pt 0 0]] [.box cs] (.im (.bool (gs.any p))) [.box cs] := by
  have h := c_indexE1 p hcs hr hl hF
  refine DC.enter 9 Try.func101 rfl (by decide) rfl rfl (s := [(0, .sl (gs.map exV) .ro), (1, .fn (.func F) [] [.pt 0 0])]) (by rfl) ?_
  refine w101 True.intro ?_
  refine AR.callQP [0] h True.intro (And.intro (@exL_id) (And.intro (@vaL_id) (And.intro (@exV_id) (And.intro (@vaV_id) hcs)))) (And.intro (@exV_ren) (And.intro (@exL_ren) (And.intro (@vaV_ren) (And.intro (@vaL_ren) hr)))) ?_
  refine go101 True.intro ?_
  rw [idx_any]
  refine w101 True.intro ?_
  exact Fin.oneSP (And.intro (@exL_id) (And.intro (@vaL_id) (And.intro (@exV_id) (And.intro (@vaV_id) hcs))))
theorem c_indexE2 {gs : List Ex} {F : FuncId} {cs ds : List V} (p : Ex → Bool) (hcs : V.idsL (ltB 2) cs = true) (hr : V.renL (gOf [0, 1]) cs = cs) (hds : V.idsL (ltB 2) ds = true) (hrs : V.renL (gOf [0, 1]) ds = ds) (hl : gs.length ≤ 4194304) (hF : ∀ t ∈ gs, DC Try.prog F [exV t, .pt 0 0] [.box cs, .box ds] (.im (.bool (p t))) [.box cs, .box ds]) :
    DC Try.prog 121 [.sl (gs.map exV) .ro, .fn (.func F) [] [.pt 0 0]] [.box cs, .box ds] (.im (.int .i64 (idx gs p))) [.box cs, .box ds] := by
  refine DC.enter 19 Try.func121 rfl (by decide) rfl rfl (s := [(0, .sl (gs.map exV) .ro), (1, .fn (.func F) [] [.pt 0 0])]) (by rfl) ?_
  refine w121 True.intro ?_
  refine AWp.loop ?_
  refine ALp.cutP 2 [(0, .sl (gs.map exV) .ro), (1, .fn (.func F) [] [.pt 0 0]), (7, (.im (.int .i64 (gs.length)))), (8, (.im (.int .i64 ((((0 : Nat)) : Int)))))] [.box cs, .box ds] (And.intro (@exL_id) (And.intro (@vaL_id) (And.intro (@exV_id) (And.intro (@vaV_id) (And.intro hcs hds))))) ?_
  refine ALp.upto gs.length (AllTo (fun x => !p x) gs) (fun m => ⟨dn 19 [(0, .sl (gs.map exV) .ro), (1, .fn (.func F) [] [.pt 0 0]), (7, (.im (.int .i64 (gs.length)))), (8, (.im (.int .i64 ((((m : Nat)) : Int)))))], ofl [.box cs, .box ds]⟩) ?_ 0 (Nat.zero_le _) (AllTo.zero _ _)
  intro m hm hI hnext
  by_cases hlt : m < gs.length
  · have hlt' : (m : Int) < (gs.length : Int) := by omega
    have hg := get_some hlt
    have hm1 := wrap_succ hlt (by omega)
    have hc := hF gs[m] (List.getElem_mem hlt)
    refine w121 (And.intro hlt' (And.intro hg hm1)) ?_
    by_cases b : p gs[m] = true
    · rw [b] at hc
      refine AR.callQP [0, 1] hc @exV_eq (And.intro (@exL_id) (And.intro (@vaL_id) (And.intro (@exV_id) (And.intro (@vaV_id) (And.intro hcs hds))))) (And.intro (@exV_ren) (And.intro (@exL_ren) (And.intro (@vaV_ren) (And.intro (@vaL_ren) (And.intro hr hrs))))) ?_
      refine go121 True.intro ?_
      refine w121 True.intro ?_
      rw [idx_some hlt hI b]
      exact Fin.oneSP (And.intro (@exL_id) (And.intro (@vaL_id) (And.intro (@exV_id) (And.intro (@vaV_id) (And.intro hcs hds)))))
    · have b : p gs[m] = false := by simpa using b
      rw [b] at hc
      refine AR.callQP [0, 1] hc @exV_eq (And.intro (@exL_id) (And.intro (@vaL_id) (And.intro (@exV_id) (And.intro (@vaV_id) (And.intro hcs hds))))) (And.intro (@exV_ren) (And.intro (@exL_ren) (And.intro (@vaV_ren) (And.intro (@vaL_ren) (And.intro hr hrs))))) ?_
      refine go121 True.intro ?_
      refine w121 hm1 ?_
      refine ALp.cutP 2 [(0, .sl (gs.map exV) .ro), (1, .fn (.func F) [] [.pt 0 0]), (7, (.im (.int .i64 (gs.length)))), (8, (.im (.int .i64 ((((m + 1 : Nat)) : Int)))))] [.box cs, .box ds] (And.intro (@exL_id) (And.intro (@vaL_id) (And.intro (@exV_id) (And.intro (@vaV_id) (And.intro hcs hds))))) ?_
      exact hnext (m + 1) (by omega) (by omega) (hI.succ hlt (by simp [b]))
  · obtain rfl : m = gs.length := by omega
    have hlt' : ¬ (gs.length : Int) < (gs.length : Int) := by omega
    clear hnext hlt
    rw [idx_none hI]
    refine w121 hlt' ?_
    exact Fin.oneSP (And.intro (@exL_id) (And.intro (@vaL_id) (And.intro (@exV_id) (And.intro (@vaV_id) (And.intro hcs hds)))))
theorem c_containsE2 {gs : List Ex} {F : FuncId} {cs ds : List V} (p : Ex → Bool) (hcs : V.idsL (ltB 2) cs = true) (hr : V.renL (gOf [0, 1]) cs = cs) (hds : V.idsL (ltB 2) ds = true) (hrs : V.renL (gOf [0, 1]) ds = ds) (hl : gs.length ≤ 4194304) (hF : ∀ t ∈ gs, DC Try.prog F [exV t, .pt 0 0] [.box cs, .box ds] (.im (.bool (p t))) [.box cs, .box ds]) :
    DC Try.prog 101 [.sl (gs.map exV) .ro, .fn (.func F) [] [.pt 0 0]] [.box cs, .box ds] (.im (.bool (gs.any p))) [.box cs, .box ds] := by
  have h := c_indexE2 p hcs hr hds hrs hl hF
  refine DC.enter 9 Try.func101 rfl (by decide) rfl rfl (s := [(0, .sl (gs.map exV) .ro), (1, .fn (.func F) [] [.pt 0 0])]) (by rfl) ?_
  refine w101 True.intro ?_
  refine AR.callQP [0, 1] h True.intro (And.intro (@exL_id) (And.intro (@vaL_id) (And.intro (@exV_id) (And.intro (@vaV_id) (And.intro hcs hds))))) (And.intro (@exV_ren) (And.intro (@exL_ren) (And.intro (@vaV_ren) (And.intro (@vaL_ren) (And.intro hr hrs))))) ?_
  refine go101 True.intro ?_
  rw [idx_any]
  refine w101 True.intro ?_
  exact Fin.oneSP (And.intro (@exL_id) (And.intro (@vaL_id) (And.intro (@exV_id) (And.intro (@vaV_id) (And.intro hcs hds)))))
theorem c_indexV1 {gs : List Va} {F : FuncId} {cs : List V} (p : Va → Bool) (hcs : V.idsL (ltB 1) cs = true) (hr : V.renL (gOf [0]) cs = cs) (hl : gs.length ≤ 4194304) (hF : ∀ t ∈ gs, DC Try.prog F [vaV t, .pt 0 0] [.box cs] (.im (.bool (p t))) [.box cs]) :
    DC Try.prog 122 [.sl (gs.map vaV) .ro, .fn (.func F) [] [.pt 0 0]] [.box cs] (.im (.int .i64 (idx gs p))) [.box cs] := by
  refine DC.enter 19 Try.func122 rfl (by decide) rfl rfl (s := [(0, .sl (gs.map vaV) .ro), (1, .fn (.func F) [] [.pt 0 0])]) (by rfl) ?_
  refine w122 True.intro ?_
  refine AWp.loop ?_
  refine ALp.cutP 1 [(0, .sl (gs.map vaV) .ro), (1, .fn (.func F) [] [.pt 0 0]), (7, (.im (.int .i64 (gs.length)))), (8, (.im (.int .i64 ((((0 : Nat)) : Int)))))] [.box cs] (And.intro (@exL_id) (And.intro (@vaL_id) (And.intro (@exV_id) (And.intro (@vaV_id) hcs)))) ?_
  refine ALp.upto gs.length (AllTo (fun x => !p x) gs) (fun m => ⟨dn 19 [(0, .sl (gs.map vaV) .ro), (1, .fn (.func F) [] [.pt 0 0]), (7, (.im (.int .i64 (gs.length)))), (8, (.im (.int .i64 ((((m : Nat)) : Int)))))], ofl [.box cs]⟩) ?_ 0 (Nat.zero_le _) (AllTo.zero _ _)
  intro m hm hI hnext
  by_cases hlt : m < gs.length
  · have hlt' : (m : Int) < (gs.length : Int) := by omega
    have hg := get_some hlt
    have hm1 := wrap_succ hlt (by omega)
    have hc := hF gs[m] (List.getElem_mem hlt)
    refine w122 (And.intro hlt' (And.intro hg hm1)) ?_
    by_cases b : p gs[m] = true
    · rw [b] at hc
      refine AR.callQP [0] hc @vaV_eq (And.intro (@exL_id) (And.intro (@vaL_id) (And.intro (@exV_id) (And.intro (@vaV_id) hcs)))) (And.intro (@exV_ren) (And.intro (@exL_ren) (And.intro (@vaV_ren) (And.intro (@vaL_ren) hr)))) ?_
      refine go122 True.intro ?_
      refine w122 True.intro ?_
      rw [idx_some hlt hI b]
      exact Fin.oneSP (And.intro (@exL_id) (And.intro (@vaL_id) (And.intro (@exV_id) (And.intro (@vaV_id) hcs))))
    · have b : p gs[m] = false := by simpa using b
      rw [b] at hc
      refine AR.callQP [0] hc @vaV_eq (And.intro (@exL_id) (And.intro (@vaL_id) (And.intro (@exV_id) (And.intro (@vaV_id) hcs)))) (And.intro (@exV_ren) (And.intro (@exL_ren) (And.intro (@vaV_ren) (And.intro (@vaL_ren) hr)))) ?_
      refine go122 True.intro ?_
      refine w122 hm1 ?_
      refine ALp.cutP 1 [(0, .sl (gs.map vaV) .ro), (1, .fn (.func F) [] [.pt 0 0]), (7, (.im (.int .i64 (gs.length)))), (8, (.im (.int .i64 ((((m + 1 : Nat)) : Int)))))] [.box cs] (And.intro (@exL_id) (And.intro (@vaL_id) (And.intro (@exV_id) (And.intro (@vaV_id) hcs)))) ?_
      exact hnext (m + 1) (by omega) (by omega) (hI.succ hlt (by simp [b]))
  · obtain rfl : m = gs.length := by omega
    have hlt' : ¬ (gs.length : Int) < (gs.length : Int) := by omega
    clear hnext hlt
    rw [idx_none hI]
    refine w122 hlt' ?_
    exact Fin.oneSP (And.intro (@exL_id) (And.intro (@vaL_id) (And.intro (@exV_id) (And.intro (@vaV_id) hcs))))
theorem c_containsV1 {gs : List Va} {F : FuncId} {cs : List V} (p : Va → Bool) (hcs : V.idsL (ltB 1) cs = true) (hr : V.renL (gOf [0]) cs = cs) (hl : gs.length ≤ 4194304) (hF : ∀ t ∈ gs, DC Try.prog F [vaV t, .pt 0 0] [.box cs] (.im (.bool (p t))) [.box cs]) :
    DC Try.prog 106 [.sl (gs.map vaV) .ro, .fn (.func F) [] [.pt 0 0]] [.box cs] (.im (.bool (gs.any p))) [.box cs] := by
  have h := c_indexV1 p hcs hr hl hF
  refine DC.enter 9 Try.func106 rfl (by decide) rfl rfl (s := [(0, .sl (gs.map vaV) .ro), (1, .fn (.func F) [] [.pt 0 0])]) (by rfl) ?_
  refine w106 True.intro ?_
  refine AR.callQP [0] h True.intro (And.intro (@exL_id) (And.intro (@vaL_id) (And.intro (@exV_id) (And.intro (@vaV_id) hcs)))) (And.intro (@exV_ren) (And.intro (@exL_ren) (And.intro (@vaV_ren) (And.intro (@vaL_ren) hr)))) ?_
  refine go106 True.intro ?_
  rw [idx_any]
  refine w106 True.intro ?_
  exact Fin.oneSP (And.intro (@exL_id) (And.intro (@vaL_id) (And.intro (@exV_id) (And.intro (@vaV_id) hcs))))
end Go.Proofs.Ytfggemopnlffeaa

