/- Walks: the laws on accesses and on the order of types. -/
import Derived.Test.YtfggemopnlffeaaHx
import Derived.Test.YtfggemopnlffeaaBU
namespace Go.Proofs.Ytfggemopnlffeaa
set_option linter.unusedSimpArgs false
set_option linter.unusedVariables false
set_option linter.unnecessarySimpa false
open Go.RowKit
theorem c_law1 (t u : Ty) (ht : fit t) (hu : fit u) (off w : Int) (ho : I64 off) : PC Try.prog 3 [tyV t, tyV u, (.im (.int .i64 (off))), (.im (.int .i64 (w)))] (.im (.bool (true))) := by
  have h1 := c_left t ht 500 (by decide) (by decide)
  have h2 := c_left u hu 500 (by decide) (by decide)
  have h3 := c_example
  have h4 := c_Access t ht off w ho
  have h5 := c_AccessR t ht off w ho
  have h6 := c_Assignable t u ht hu
  have h7 := c_AssignableR t u ht hu
  generalize accT t off w = ac at h4 h5
  generalize asgT t u = sb at h6 h7
  generalize hl1 : lft t 500 = l1 at h1
  generalize hl2 : lft u 500 = l2 at h2
  clear hl1 hl2
  refine PC.enter 39 Try.func3 rfl (by decide) rfl rfl (s := [(0, tyV t), (1, tyV u), (2, (.im (.int .i64 (off)))), (3, (.im (.int .i64 (w))))]) (by rfl) ?_
  rw [tyV_eq t, tyV_eq u]
  refine w3x True.intro ?_
  refine AR.callP h1 @tyV_eq (And.intro (@exL_id) (And.intro (@vaL_id) (And.intro (@exV_id) @vaV_id))) ?_
  by_cases hA : l1 ≤ 0
  · refine go3x hA ?_
    refine w3x True.intro ?_
    refine AR.callP h3 True.intro (And.intro (@exL_id) (And.intro (@vaL_id) (And.intro (@exV_id) @vaV_id))) ?_
    refine go3x True.intro ?_
    refine w3x True.intro ?_
    exact Fin.oneP
  · refine go3x hA ?_
    refine AR.callP h2 @tyV_eq (And.intro (@exL_id) (And.intro (@vaL_id) (And.intro (@exV_id) @vaV_id))) ?_
    by_cases hB : l2 ≤ 0
    · refine go3x hB ?_
      refine w3x True.intro ?_
      refine AR.callP h3 True.intro (And.intro (@exL_id) (And.intro (@vaL_id) (And.intro (@exV_id) @vaV_id))) ?_
      refine go3x True.intro ?_
      refine w3x True.intro ?_
      exact Fin.oneP
    · refine go3x hB ?_
      refine wd3x True.intro ?_
      refine AR.callP h4 @tyV_eq (And.intro (@exL_id) (And.intro (@vaL_id) (And.intro (@exV_id) @vaV_id))) ?_
      refine go3x True.intro ?_
      refine AR.callP h5 @tyV_eq (And.intro (@exL_id) (And.intro (@vaL_id) (And.intro (@exV_id) @vaV_id))) ?_
      refine go3x True.intro ?_
      refine AR.callP h6 @tyV_eq (And.intro (@exL_id) (And.intro (@vaL_id) (And.intro (@exV_id) @vaV_id))) ?_
      refine go3x True.intro ?_
      refine AR.callP h7 @tyV_eq (And.intro (@exL_id) (And.intro (@vaL_id) (And.intro (@exV_id) @vaV_id))) ?_
      refine go3x True.intro ?_
      refine AR.callP h3 True.intro (And.intro (@exL_id) (And.intro (@vaL_id) (And.intro (@exV_id) @vaV_id))) ?_
      refine go3x True.intro ?_
      refine wd3x True.intro ?_
      exact Fin.oneP
end Go.Proofs.Ytfggemopnlffeaa

