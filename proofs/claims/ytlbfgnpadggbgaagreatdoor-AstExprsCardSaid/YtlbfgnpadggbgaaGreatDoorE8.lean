/- Walks: the standard globals. -/
import Derived.Test.YtlbfgnpadggbgaaGreatDoorHv
import Derived.Test.YtlbfgnpadggbgaaGreatDoorE1
namespace Go.Proofs.YtlbfgnpadggbgaaGreatDoor
set_option linter.unusedSimpArgs false
set_option linter.unusedVariables false
set_option linter.unnecessarySimpa false
open Go.RowKit
theorem sV_cell (t : Bs) : (sV t).cells = [sV t] := rfl
theorem Y27_E8 : type_of% (And.intro @F_ag_63 (And.intro @F_al_63 (And.intro @F_st_63 (@F_sz_63)))) := And.intro @F_ag_63 (And.intro @F_al_63 (And.intro @F_st_63 (@F_sz_63)))
theorem c_Uint (n : Int) : PC Tryz.prog 27 [(.im (.int .i64 (n)))] (tyV (.mk 0 2 n 0 [] [])) := by
  refine PC.enter 5 Tryz.func27 rfl (by decide) rfl rfl (s := [(0, (.im (.int .i64 (n))))]) (by rfl) ?_
  refine wG Y27_E8 True.intro ?_
  refine Fin.gen0 (rs := [.cell 2 63]) rfl (by first | exact .inl rfl | exact .inr rfl) (finG Y27_E8) ?_
  simp only [tyV_mk, List.map_nil]
  all_goals exact wkG (And.intro (@vaL_id) (And.intro (@vaV_id) (And.intro sL_id (And.intro (@tyV_id) (And.intro (@tyL_id) (And.intro (@fdV_id) @fdL_id))))))
/-- The names, in one text, and one by one. -/
def gbT : Bs := [114, 48, 32, 114, 49, 32, 114, 50, 32, 114, 51, 32, 114, 52, 32, 114, 53, 32, 114, 54, 32, 114, 55, 32, 102, 122, 32, 102, 110, 32, 102, 99, 32, 102, 118]
def gbN : List Bs := [[114, 48], [114, 49], [114, 50], [114, 51], [114, 52], [114, 53], [114, 54], [114, 55], [102, 122], [102, 110], [102, 99], [102, 118]]
theorem gb_fields : Lib.fields gbT = gbN := by decide
def gbV (n : Bs) : Va := ⟨⟨n.toArray⟩, .mk 0 2 4 0 [] []⟩
theorem vaVs_all (l : List Va) : allZ 6 (l.map vaV) = true := by
  unfold allZ
  rw [List.all_map]
  exact List.all_eq_true.2 fun x _ => rfl
theorem Y13_E8 : type_of% (And.intro @F_ag_9 (And.intro @F_al_66 (And.intro @F_by_66 (And.intro @F_el_26 (And.intro @F_el_58 (And.intro @F_st_66 (And.intro @F_sz_66 (@F_sz_9)))))))) := And.intro @F_ag_9 (And.intro @F_al_66 (And.intro @F_by_66 (And.intro @F_el_26 (And.intro @F_el_58 (And.intro @F_st_66 (And.intro @F_sz_66 (@F_sz_9)))))))
theorem c_Globals : PC Tryz.prog 13 [] (.sl ((gbN.map gbV).map vaV) .ro) := by
  have qf := c_Fields gbT (by decide) (by decide) (by rw [gb_fields]; decide)
  rw [gb_fields] at qf
  have qu := c_Uint 4
  have hN : gbN.length = 12 := rfl
  unfold gbT at qf
  generalize gbN = l at qf hN ⊢
  refine PC.enter 18 Tryz.func13 rfl (by decide) rfl rfl (s := []) (by rfl) ?_
  refine wG Y13_E8 True.intro ?_
  refine AR.callP qf True.intro (And.intro (@vaL_id) (And.intro (@vaV_id) (And.intro sL_id (And.intro (@tyV_id) (And.intro (@tyL_id) (And.intro (@fdV_id) @fdL_id)))))) ?_
  refine goG Y13_E8 @List.length_map.{0, 0} ?_
  refine wG Y13_E8 True.intro ?_
  refine AWp.loop ?_
  refine ALp.ghost 1 [] .nl 66 6 ?_
  refine ALp.cutP 1 [(1, .sl (((l.take (0)).map gbV).map vaV) (.own 0)), (4, .sl (l.map sV) .full), (5, (.im (.int .i64 (l.length)))), (6, (.im (.int .i64 ((((0 : Nat)) : Int)))))] [.tip 66 6 (l.take (0)).length] (And.intro (@vaL_id) (And.intro (@vaV_id) (And.intro sL_id (And.intro (@tyV_id) (And.intro (@tyL_id) (And.intro (@fdV_id) @fdL_id)))))) ?_
  refine ALp.upto l.length (fun _ => True) (fun m => ⟨dn 18 [(1, .sl (((l.take (m)).map gbV).map vaV) (.own 0)), (4, .sl (l.map sV) .full), (5, (.im (.int .i64 (l.length)))), (6, (.im (.int .i64 ((((m : Nat)) : Int)))))], ofl [.tip 66 6 (l.take (m)).length]⟩) ?_ 0 (Nat.zero_le _) trivial
  intro m hm _ hnext
  by_cases hlt : m < l.length
  · have hlt' : (m : Int) < (l.length : Int) := by omega
    have hm1 := wrap_succ hlt (by omega)
    have hg := get_some hlt
    have hsn := List.take_succ_eq_append_getElem hlt
    have hap : ((l.take m).map gbV).map vaV ++ [.ag [sV l[m], (.im (.int .i64 (2))), (.im (.int .i64 (4))), (.im (.int .i64 (0))), .sl [] .ro, .sl [] .ro]] = ((l.take (m + 1)).map gbV).map vaV := by
      rw [hsn, List.map_append, List.map_append]
      rfl
    have hone : (l.take m).length + 1 = (l.take (m + 1)).length := by rw [List.length_take, List.length_take]; omega
    have hb : (l.take (m + 1)).length * 88 ≤ 140737488355328 := by rw [List.length_take]; omega
    have hty : tyV (.mk 0 2 4 0 [] []) = .ag [(.im (.int .i64 (2))), (.im (.int .i64 (4))), (.im (.int .i64 (0))), .sl [] .ro, .sl [] .ro] := by simp only [tyV_mk, List.map_nil]
    rw [hty] at qu
    refine wG Y13_E8 (And.intro hlt' (And.intro hg (And.intro sV_live (And.intro sV_size (And.intro sV_isAg (And.intro sV_firm (And.intro sV_strip (And.intro sV_cell (And.intro (@List.getElem?_map.{0, 0}) @Int.natCast_nonneg))))))))) ?_
    refine AR.callP qu True.intro (And.intro (@vaL_id) (And.intro (@vaV_id) (And.intro sL_id (And.intro (@tyV_id) (And.intro (@tyL_id) (And.intro (@fdV_id) @fdL_id)))))) ?_
    refine goG Y13_E8 (And.intro hap (And.intro hone (And.intro hb (And.intro vaVs_all (And.intro (@List.length_map.{0, 0}) (And.intro sV_live (And.intro sV_size (And.intro sV_isAg (And.intro sV_firm (And.intro sV_strip sV_cell)))))))))) ?_
    refine wG Y13_E8 hm1 ?_
    refine ALp.cutP 1 [(1, .sl (((l.take (m + 1)).map gbV).map vaV) (.own 0)), (4, .sl (l.map sV) .full), (5, (.im (.int .i64 (l.length)))), (6, (.im (.int .i64 ((((m + 1 : Nat)) : Int)))))] [.tip 66 6 (l.take (m + 1)).length] (And.intro (@vaL_id) (And.intro (@vaV_id) (And.intro sL_id (And.intro (@tyV_id) (And.intro (@tyL_id) (And.intro (@fdV_id) @fdL_id)))))) ?_
    exact hnext (m + 1) (by omega) (by omega) trivial
  obtain rfl : m = l.length := by omega
  clear hnext
  rw [List.take_length]
  refine wG Y13_E8 @Int.lt_irrefl ?_
  refine Fin.gen0 (rs := [.tmp 0]) rfl (by first | exact .inl rfl | exact .inr rfl) (finG Y13_E8) ?_
  all_goals exact wkG (And.intro (@vaL_id) (And.intro (@vaV_id) (And.intro sL_id (And.intro (@tyV_id) (And.intro (@tyL_id) (And.intro (@fdV_id) @fdL_id))))))
end Go.Proofs.YtlbfgnpadggbgaaGreatDoor

