/- Walks: a strings.Builder at the head of a struct of three cells: WriteString; a line is written. -/
import Derived.Test.YtlbfgnpadggbgaaGreatDoorHv
import Derived.Test.YtlbfgnpadggbgaaGreatDoorE2
import Derived.Test.YtlbfgnpadggbgaaGreatDoorM6
namespace Go.Proofs.YtlbfgnpadggbgaaGreatDoor
set_option linter.unusedSimpArgs false
set_option linter.unusedVariables false
set_option linter.unnecessarySimpa false
open Go.RowKit
theorem nb_ren (g : Nat → Nat) (i : Nat) (t : TypeId) : V.ren g (.nb i t) = .nb (g i) t := by rw [V.ren]
theorem Y72_E4 : type_of% (And.intro @F_ag_51 (And.intro @F_al_5 (And.intro @F_by_5 (And.intro @F_el_51 (And.intro @F_fl_53_1 (And.intro @F_sz_5 (And.intro @F_sz_51 (@F_un_9)))))))) := And.intro @F_ag_51 (And.intro @F_al_5 (And.intro @F_by_5 (And.intro @F_el_51 (And.intro @F_fl_53_1 (And.intro @F_sz_5 (And.intro @F_sz_51 (@F_un_9)))))))
theorem c_WriteStringA (b s : Bs) (k : Int) (hlen : b.length + s.length ≤ 140737488355328) : DC Tryz.prog 72 [.pt 0 0, .im (.string ⟨(s).toArray⟩)] [.box [.nb 0 PQ, .sl ((b).map byB) (.mine 1), (.im (.int .i64 (k)))], .tip 5 1 (b).length] (.tu [(.im (.int .i64 ((s.length : Int)))), .im Value.nilIface]) [.box [.nb 0 PQ, .sl (((b ++ s)).map byB) (.mine 1), (.im (.int .i64 (k)))], .tip 5 1 ((b ++ s)).length] := by
  have h := c_copyCheckA (.sl (b.map byB) (.mine 1)) (.im (.int .i64 (k))) [.tip 5 1 b.length]
  obtain ⟨B, hB⟩ : ∃ B, B = b ++ s := ⟨_, rfl⟩
  have hA : b.map byB ++ s.map byB = B.map byB := by rw [hB, List.map_append]
  have hz : b.length + s.length = B.length := by rw [hB, List.length_append]
  rw [← hB]
  refine DC.enter 19 Tryz.func72 rfl (by decide) rfl rfl (s := [(0, .pt 0 0), (1, .im (.string ⟨(s).toArray⟩))]) (by rfl) ?_
  refine wG Y72_E4 True.intro ?_
  refine AR.callSP [0, 1] h True.intro (And.intro byL_id (And.intro (@exL_id) (And.intro (@exV_id) sL_id))) (And.intro (@exV_ren) (And.intro (@exL_ren) (And.intro sL_ren (And.intro byL_ren nb_ren)))) ?_
  refine goG Y72_E4 True.intro ?_
  have hl1 : B.length * 1 ≤ 140737488355328 := by omega
  have hl2 : B.length ≤ 140737488355328 := by omega
  refine wG Y72_E4 (And.intro BY (And.intro hA (And.intro hz (And.intro hl1 (And.intro hl2 @List.length_map.{0, 0}))))) ?_
  refine Fin.gen (rs := [.tmp 4, .tmp 5]) rfl (by first | exact .inl rfl | exact .inr rfl) (finG Y72_E4) ?_ rfl (idG (And.intro byL_id (And.intro (@exL_id) (And.intro (@exV_id) sL_id))))
  all_goals exact wkG (And.intro byL_id (And.intro (@exL_id) (And.intro (@exV_id) sL_id)))
/-- A line at a level. -/
def lnT (k : Nat) (s : Bs) : Bs := Lib.repeatL [32, 32] k ++ (s ++ [10])
theorem Y52_E4 : type_of% (And.intro @F_ag_3 (And.intro @F_ag_53 (And.intro @F_al_9 (And.intro @F_el_58 (And.intro @F_fl_55_0 (And.intro @F_fl_55_1 (And.intro @F_sz_3 (And.intro @F_sz_53 (@F_sz_9))))))))) := And.intro @F_ag_3 (And.intro @F_ag_53 (And.intro @F_al_9 (And.intro @F_el_58 (And.intro @F_fl_55_0 (And.intro @F_fl_55_1 (And.intro @F_sz_3 (And.intro @F_sz_53 (@F_sz_9))))))))
theorem c_line (b : Bs) (l : List Bs) (s : Bs) (hs : l.flatten = s) (k : Nat) (hl : l.length ≤ 4194304) (hlen : (b ++ lnT k s).length ≤ 140737488355328) : DC Tryz.prog 52 [.pt 0 0, .sl (l.map sV) .ro] [.box [.nb 0 PQ, .sl ((b).map byB) (.mine 1), (.im (.int .i64 ((k : Int))))], .tip 5 1 (b).length] (.tu []) [.box [.nb 0 PQ, .sl (((b ++ lnT k s)).map byB) (.mine 1), (.im (.int .i64 ((k : Int))))], .tip 5 1 ((b ++ lnT k s)).length] := by
  have hl0 := hlen
  unfold lnT at hl0
  simp only [List.length_append, Lib.repeatL_length, List.length_cons, List.length_nil] at hl0
  have q1 := c_Repeat [32, 32] k (by omega) (by simp only [List.length_cons, List.length_nil]; omega)
  have q2 := c_jn l s hs hl (by omega)
  have q3 := c_j3 (Lib.repeatL [32, 32] k) s [10] (lnT k s) rfl (by rw [List.length_append] at hlen; omega)
  have q4 := c_WriteStringA b (lnT k s) k (by rw [List.length_append] at hlen; omega)
  generalize lnT k s = L at q3 q4 ⊢
  obtain ⟨B, hB⟩ : ∃ B, B = b ++ L := ⟨_, rfl⟩
  rw [← hB] at q4 ⊢
  generalize Lib.repeatL [32, 32] k = rp at q1 q3
  refine DC.enter 17 Tryz.func52 rfl (by decide) rfl rfl (s := [(0, .pt 0 0), (1, .sl (l.map sV) .ro)]) (by rfl) ?_
  refine wdG Y52_E4 True.intro ?_
  refine AR.callP q1 True.intro (And.intro byL_id (And.intro (@exL_id) (And.intro (@exV_id) sL_id))) ?_
  refine goG Y52_E4 True.intro ?_
  refine AR.callP q2 True.intro (And.intro byL_id (And.intro (@exL_id) (And.intro (@exV_id) sL_id))) ?_
  refine goG Y52_E4 True.intro ?_
  refine AR.callW q3 True.intro (And.intro byL_id (And.intro (@exL_id) (And.intro (@exV_id) sL_id))) ?_
  refine goG Y52_E4 True.intro ?_
  refine AR.callSP [0, 1] q4 True.intro (And.intro byL_id (And.intro (@exL_id) (And.intro (@exV_id) sL_id))) (And.intro (@exV_ren) (And.intro (@exL_ren) (And.intro sL_ren (And.intro byL_ren nb_ren)))) ?_
  refine goG Y52_E4 True.intro ?_
  refine wdG Y52_E4 True.intro ?_
  refine Fin.gen (rs := []) rfl (by first | exact .inl rfl | exact .inr rfl) (finG Y52_E4) ?_ rfl (idG (And.intro byL_id (And.intro (@exL_id) (And.intro (@exV_id) sL_id))))
  all_goals exact wkG (And.intro byL_id (And.intro (@exL_id) (And.intro (@exV_id) sL_id)))
end Go.Proofs.YtlbfgnpadggbgaaGreatDoor

