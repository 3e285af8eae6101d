/- Walks: the examples of the chapter. -/
import Derived.Test.YtfggemopnlffeaaHx
import Derived.Test.YtfggemopnlffeaaBR
namespace Go.Proofs.Ytfggemopnlffeaa
set_option linter.unusedSimpArgs false
set_option linter.unusedVariables false
set_option linter.unnecessarySimpa false
open Go.RowKit
def vsE : List Va := [⟨⟨#[112]⟩, ptT⟩]
theorem fit_ptT : fit ptT := by unfold fit; kernel_rfl
theorem fit_vsE : fitV vsE := ⟨by decide, fun v hv => by rw [List.mem_singleton.1 hv]; exact fit_ptT⟩
theorem c_example : PC Try.prog 9 [] (.im (.bool (true))) := by
  have h1 := c_pointer
  have h2 := c_at 8
  have h3 := c_at 4
  have h4 := c_Expr vsE fit_vsE (atE 8) (by unfold fitE; kernel_rfl)
  have h5 := c_Expr vsE fit_vsE (atE 4) (by unfold fitE; kernel_rfl)
  rw [show exT vsE (atE 8) = (.mk 0 2 4 0 [] [], 0) by kernel_rfl] at h4
  rw [show exT vsE (atE 4) = (tz, 16) by kernel_rfl] at h5
  have h6 := c_Int 4
  have h7 := c_Assignable (.mk 0 1 4 0 [] []) (.mk 0 1 4 0 [] []) (by unfold fit; kernel_rfl) (by unfold fit; kernel_rfl)
  have h8 := c_Assignable ptT (.mk 0 1 4 0 [] []) fit_ptT (by unfold fit; kernel_rfl)
  rw [show asgT (.mk 0 1 4 0 [] []) (.mk 0 1 4 0 [] []) = true by kernel_rfl] at h7
  rw [show asgT ptT (.mk 0 1 4 0 [] []) = false by kernel_rfl] at h8
  simp only [vsE, List.map_cons, List.map_nil, vaV_eq] at h4 h5
  simp only [tyV_mk, List.map_nil, tz] at h4 h5
  refine PC.enter 51 Try.func9 rfl (by decide) rfl rfl (s := []) (by rfl) ?_
  refine w9x True.intro ?_
  refine AR.callP h1 True.intro (And.intro (@exL_id) (And.intro (@vaL_id) (And.intro (@exV_id) @vaV_id))) ?_
  refine go9x True.intro ?_
  refine w9x True.intro ?_
  refine AR.callP h2 True.intro (And.intro (@exL_id) (And.intro (@vaL_id) (And.intro (@exV_id) @vaV_id))) ?_
  refine go9x True.intro ?_
  refine AR.callW h4 True.intro (And.intro (@exL_id) (And.intro (@vaL_id) (And.intro (@exV_id) @vaV_id))) ?_
  refine go9x True.intro ?_
  refine w9x True.intro ?_
  refine AR.callP h3 True.intro (And.intro (@exL_id) (And.intro (@vaL_id) (And.intro (@exV_id) @vaV_id))) ?_
  refine go9x True.intro ?_
  refine AR.callW h5 True.intro (And.intro (@exL_id) (And.intro (@vaL_id) (And.intro (@exV_id) @vaV_id))) ?_
  refine go9x True.intro ?_
  refine w9x True.intro ?_
  refine AR.callP h6 True.intro (And.intro (@exL_id) (And.intro (@vaL_id) (And.intro (@exV_id) @vaV_id))) ?_
  refine go9x True.intro ?_
  refine AR.callP h6 True.intro (And.intro (@exL_id) (And.intro (@vaL_id) (And.intro (@exV_id) @vaV_id))) ?_
  refine go9x True.intro ?_
  refine AR.callP h7 True.intro (And.intro (@exL_id) (And.intro (@vaL_id) (And.intro (@exV_id) @vaV_id))) ?_
  refine go9x True.intro ?_
  refine AR.callP h1 True.intro (And.intro (@exL_id) (And.intro (@vaL_id) (And.intro (@exV_id) @vaV_id))) ?_
  refine go9x True.intro ?_
  refine AR.callP h6 True.intro (And.intro (@exL_id) (And.intro (@vaL_id) (And.intro (@exV_id) @vaV_id))) ?_
  refine go9x True.intro ?_
  refine AR.callP h8 True.intro (And.intro (@exL_id) (And.intro (@vaL_id) (And.intro (@exV_id) @vaV_id))) ?_
  refine go9x True.intro ?_
  refine w9x True.intro ?_
  exact Fin.oneP
end Go.Proofs.Ytfggemopnlffeaa

