/- Walks: strings.Builder's WriteString. -/
import Derived.Test.YtchjncoadhigmaaGreatDoorHv
import Derived.Test.YtchjncoadhigmaaGreatDoorYb
import Derived.Test.YtchjncoadhigmaaGreatDoorTz
namespace Go.Proofs.YtchjncoadhigmaaGreatDoor
set_option linter.unusedSimpArgs false
set_option linter.unusedVariables false
set_option linter.unnecessarySimpa false
open Go.RowKit
theorem byV_append (a b : ByteArray) : byV a ++ byV b = byV (a ++ b) := by
  unfold byV
  rw [← List.map_append]
  congr 1
theorem nb_ren (g : Nat → Nat) (i : Nat) (t : TypeId) : V.ren g (.nb i t) = .nb (g i) t := by rw [V.ren]
theorem byV_allZ (a : ByteArray) : allZ 1 (byV a) = true := by
  simp only [allZ, byV, List.all_map, List.all_eq_true]
  intro x _
  rfl
theorem byV_id (p : Nat → Bool) (a : ByteArray) : V.idsL p (byV a) = true := by
  unfold byV
  exact idsL_map (fun _ => rfl) _
theorem byV_ren (g : Nat → Nat) (a : ByteArray) : V.renL g (byV a) = byV a := V.renL_id g _ (byV_id _ a)
theorem Y79_Yc : type_of% (And.intro @F_ag_56 (And.intro @F_al_5 (And.intro @F_by_5 (And.intro @F_el_56 (And.intro @F_fl_58_1 (And.intro @F_sz_5 (And.intro @F_sz_56 (@F_un_9)))))))) := And.intro @F_ag_56 (And.intro @F_al_5 (And.intro @F_by_5 (And.intro @F_el_56 (And.intro @F_fl_58_1 (And.intro @F_sz_5 (And.intro @F_sz_56 (@F_un_9)))))))
theorem c_WriteString (b s : ByteArray) (hlen : b.size + s.size ≤ 140737488355328) : DC Tryz.prog 79 [.pt 0 0, .im (.string s)] [.box [.nb 0 60, .sl (byV (b)) (.mine 1)], .tip 5 1 (b).size] (.tu [(.im (.int .i64 ((s.size : Int)))), .im Value.nilIface]) [.box [.nb 0 60, .sl (byV ((b ++ s))) (.mine 1)], .tip 5 1 ((b ++ s)).size] := by
  have h := c_copyCheck (.sl (byV b) (.mine 1)) [.tip 5 1 b.size]
  obtain ⟨B, hB⟩ : ∃ B, B = b ++ s := ⟨_, rfl⟩
  have hA : byV b ++ byV s = byV B := by rw [hB]; exact byV_append b s
  have hz : b.size + s.size = B.size := by rw [hB, ByteArray.size_append]
  rw [← hB]
  refine DC.enter 19 Tryz.func79 rfl (by decide) rfl rfl (s := [(0, .pt 0 0), (1, .im (.string s))]) (by rfl) ?_
  refine wG Y79_Yc True.intro ?_
  refine AR.callSP [0, 1] h True.intro (And.intro (@tyV_id) (And.intro (@fdV_id) (And.intro (@tyL_id) (And.intro (@fdL_id) byV_id)))) (And.intro (@fdL_ren) (And.intro (@tyL_ren) (And.intro (@fdV_ren) (And.intro (@tyV_ren) (And.intro byV_ren nb_ren))))) ?_
  refine goG Y79_Yc True.intro ?_
  have hl1 : B.size * 1 ≤ 140737488355328 := by omega
  refine wG Y79_Yc (And.intro hA (And.intro hz (And.intro hl1 byV_length))) ?_
  refine Fin.gen (rs := [.tmp 4, .tmp 5]) rfl (by first | exact .inl rfl | exact .inr rfl) (finG Y79_Yc) ?_ rfl (idG (And.intro (@tyV_id) (And.intro (@fdV_id) (And.intro (@tyL_id) (And.intro (@fdL_id) byV_id)))))
  all_goals exact wkG (And.intro (@tyV_id) (And.intro (@fdV_id) (And.intro (@tyL_id) (And.intro (@fdL_id) byV_id))))
end Go.Proofs.YtchjncoadhigmaaGreatDoor

