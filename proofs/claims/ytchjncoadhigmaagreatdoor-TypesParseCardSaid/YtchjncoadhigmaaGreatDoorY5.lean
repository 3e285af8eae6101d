/- Walks: join and meet of the program, if merge is as told. -/
import Derived.Test.YtchjncoadhigmaaGreatDoorHv
import Derived.Test.YtchjncoadhigmaaGreatDoorY1
import Derived.Test.YtchjncoadhigmaaGreatDoorPs
import Derived.Test.YtchjncoadhigmaaGreatDoorTp
namespace Go.Proofs.YtchjncoadhigmaaGreatDoor
set_option linter.unusedSimpArgs false
set_option linter.unusedVariables false
set_option linter.unnecessarySimpa false
open Go.RowKit
/-- What merge does. -/
def MergeC : Prop := ∀ (k : Bool) (f : Ty → Ty → Ty) (F : FuncId) (fa fb : List Ty), fa.length ≤ 4194304 → fb.length ≤ 4194304 →
  (∀ x, x ∈ fa ∨ x ∈ fb → PC Tryz.prog F [fdV x, .im (.pointer none)] (.tu [fdV x, (.im (.bool (k)))])) →
  (∀ x ∈ fa, ∀ y ∈ fb, PC Tryz.prog F [fdV x, .ep (fdV y) 0] (.tu [fdV ((f x y).at_ x.off), (.im (.bool (true)))])) →
  PC Tryz.prog 65 [.sl (fa.map fdV) .ro, .sl (fb.map fdV) .ro, .fn (.func 66) [] [], .fn (.func F) [] []] (.sl ((mrgP k f fa fb).map fdV) .ro)
theorem Y67_Y5 : type_of% (And.intro @F_ag_25 (And.intro @F_ag_3 (And.intro @F_ag_47 (And.intro @F_al_47 (And.intro @F_fl_47_0 (And.intro @F_fl_47_1 (And.intro @F_st_47 (And.intro @F_sz_25 (And.intro @F_sz_3 (@F_sz_47)))))))))) := And.intro @F_ag_25 (And.intro @F_ag_3 (And.intro @F_ag_47 (And.intro @F_al_47 (And.intro @F_fl_47_0 (And.intro @F_fl_47_1 (And.intro @F_st_47 (And.intro @F_sz_25 (And.intro @F_sz_3 (@F_sz_47)))))))))
theorem c_join0 (x : Ty) : PC Tryz.prog 67 [fdV x, .im (.pointer none)] (.tu [fdV x, (.im (.bool (false)))]) := by
  refine PC.enter 19 Tryz.func67 rfl (by decide) rfl rfl (s := [(0, fdV x), (1, .im (.pointer none))]) (by rfl) ?_
  rw [fdV_eq x]
  refine wG Y67_Y5 True.intro ?_
  refine AR.eqP true ?_
  refine goG Y67_Y5 True.intro ?_
  refine wG Y67_Y5 True.intro ?_
  refine Fin.gen0 (rs := [.cell 4 47, .tmp 5]) rfl (by first | exact .inl rfl | exact .inr rfl) (finG Y67_Y5) ?_
  skip
  all_goals exact wkG (And.intro (@tyV_id) (And.intro (@fdV_id) (And.intro (@tyL_id) @fdL_id)))
theorem c_join1 (x y : Ty) (h : PC Tryz.prog 40 [tyV x, tyV y] (tyV (joinT x y))) : PC Tryz.prog 67 [fdV x, .ep (fdV y) 0] (.tu [fdV ((joinT x y).at_ x.off), (.im (.bool (true)))]) := by
  refine PC.enter 19 Tryz.func67 rfl (by decide) rfl rfl (s := [(0, fdV x), (1, .ep (fdV y) 0)]) (by rfl) ?_
  rw [fdV_eq x, fdV_eq y]
  refine wG Y67_Y5 True.intro ?_
  refine AR.eqP false ?_
  refine goG Y67_Y5 True.intro ?_
  refine wdG Y67_Y5 True.intro ?_
  refine AR.callP h @tyV_eq (And.intro (@tyV_id) (And.intro (@fdV_id) (And.intro (@tyL_id) @fdL_id))) ?_
  refine goG Y67_Y5 (And.intro (@tyV_firm) (And.intro (@fdV_firm) (And.intro (@tyV_strip) (And.intro (@fdV_strip) (And.intro (@tyV_live) (And.intro (@tyV_size) (And.intro (@tyV_isAg) (And.intro (@tyV_cells) (And.intro (@fdV_live) (And.intro (@fdV_size) (And.intro (@fdV_isAg) (And.intro (@fdV_cells) (And.intro (@List.getElem?_map.{0, 0}) @Int.natCast_nonneg))))))))))))) ?_
  refine wdG Y67_Y5 (And.intro (@tyV_firm) (And.intro (@fdV_firm) (And.intro (@tyV_strip) (And.intro (@fdV_strip) (And.intro (@tyV_live) (And.intro (@tyV_size) (And.intro (@tyV_isAg) (And.intro (@tyV_cells) (And.intro (@fdV_live) (And.intro (@fdV_size) (And.intro (@fdV_isAg) (And.intro (@fdV_cells) (And.intro (@List.getElem?_map.{0, 0}) @Int.natCast_nonneg))))))))))))) ?_
  refine Fin.gen0 (rs := [.cell 4 47, .tmp 5]) rfl (by first | exact .inl rfl | exact .inr rfl) (finG Y67_Y5) ?_
  rw [fdV_eq]
  all_goals exact wkG (And.intro (@tyV_id) (And.intro (@fdV_id) (And.intro (@tyL_id) @fdL_id)))
theorem Y68_Y5 : type_of% (And.intro @F_ag_25 (And.intro @F_ag_3 (And.intro @F_ag_47 (And.intro @F_al_47 (And.intro @F_fl_47_0 (And.intro @F_fl_47_1 (And.intro @F_st_47 (And.intro @F_sz_25 (And.intro @F_sz_3 (@F_sz_47)))))))))) := And.intro @F_ag_25 (And.intro @F_ag_3 (And.intro @F_ag_47 (And.intro @F_al_47 (And.intro @F_fl_47_0 (And.intro @F_fl_47_1 (And.intro @F_st_47 (And.intro @F_sz_25 (And.intro @F_sz_3 (@F_sz_47)))))))))
theorem c_meet0 (x : Ty) : PC Tryz.prog 68 [fdV x, .im (.pointer none)] (.tu [fdV x, (.im (.bool (true)))]) := by
  refine PC.enter 19 Tryz.func68 rfl (by decide) rfl rfl (s := [(0, fdV x), (1, .im (.pointer none))]) (by rfl) ?_
  rw [fdV_eq x]
  refine wG Y68_Y5 True.intro ?_
  refine AR.eqP true ?_
  refine goG Y68_Y5 True.intro ?_
  refine wG Y68_Y5 True.intro ?_
  refine Fin.gen0 (rs := [.cell 4 47, .tmp 5]) rfl (by first | exact .inl rfl | exact .inr rfl) (finG Y68_Y5) ?_
  skip
  all_goals exact wkG (And.intro (@tyV_id) (And.intro (@fdV_id) (And.intro (@tyL_id) @fdL_id)))
theorem c_meet1 (x y : Ty) (h : PC Tryz.prog 42 [tyV x, tyV y] (tyV (meetT x y))) : PC Tryz.prog 68 [fdV x, .ep (fdV y) 0] (.tu [fdV ((meetT x y).at_ x.off), (.im (.bool (true)))]) := by
  refine PC.enter 19 Tryz.func68 rfl (by decide) rfl rfl (s := [(0, fdV x), (1, .ep (fdV y) 0)]) (by rfl) ?_
  rw [fdV_eq x, fdV_eq y]
  refine wG Y68_Y5 True.intro ?_
  refine AR.eqP false ?_
  refine goG Y68_Y5 True.intro ?_
  refine wdG Y68_Y5 True.intro ?_
  refine AR.callP h @tyV_eq (And.intro (@tyV_id) (And.intro (@fdV_id) (And.intro (@tyL_id) @fdL_id))) ?_
  refine goG Y68_Y5 (And.intro (@tyV_firm) (And.intro (@fdV_firm) (And.intro (@tyV_strip) (And.intro (@fdV_strip) (And.intro (@tyV_live) (And.intro (@tyV_size) (And.intro (@tyV_isAg) (And.intro (@tyV_cells) (And.intro (@fdV_live) (And.intro (@fdV_size) (And.intro (@fdV_isAg) (And.intro (@fdV_cells) (And.intro (@List.getElem?_map.{0, 0}) @Int.natCast_nonneg))))))))))))) ?_
  refine wdG Y68_Y5 (And.intro (@tyV_firm) (And.intro (@fdV_firm) (And.intro (@tyV_strip) (And.intro (@fdV_strip) (And.intro (@tyV_live) (And.intro (@tyV_size) (And.intro (@tyV_isAg) (And.intro (@tyV_cells) (And.intro (@fdV_live) (And.intro (@fdV_size) (And.intro (@fdV_isAg) (And.intro (@fdV_cells) (And.intro (@List.getElem?_map.{0, 0}) @Int.natCast_nonneg))))))))))))) ?_
  refine Fin.gen0 (rs := [.cell 4 47, .tmp 5]) rfl (by first | exact .inl rfl | exact .inr rfl) (finG Y68_Y5) ?_
  rw [fdV_eq]
  all_goals exact wkG (And.intro (@tyV_id) (And.intro (@fdV_id) (And.intro (@tyL_id) @fdL_id)))
end Go.Proofs.YtchjncoadhigmaaGreatDoor

