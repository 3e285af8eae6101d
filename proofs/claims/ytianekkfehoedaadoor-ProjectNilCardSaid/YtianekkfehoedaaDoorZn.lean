/- Walks: nil projects, and those that were not made; the law ProjectNil. -/
import Derived.Test.YtianekkfehoedaaDoorHv
import Derived.Test.YtianekkfehoedaaDoorK9
namespace Go.Proofs.YtianekkfehoedaaDoor
set_option linter.unusedSimpArgs false
set_option linter.unusedVariables false
set_option linter.unnecessarySimpa false
open Go.RowKit
theorem Y22_Zn : type_of% (And.intro @F_ag_4 (And.intro @F_fl_45_0 (@F_sz_4))) := And.intro @F_ag_4 (And.intro @F_fl_45_0 (@F_sz_4))
theorem c_usableY (b : Bool) : DC Tryd.prog 22 [.pt 0 0] [.box [(.im (.bool ((b)))), .sl [] .nl, .sl [] .nl, .sl [] .nl]] (.im (.bool (b))) [.box [(.im (.bool ((b)))), .sl [] .nl, .sl [] .nl, .sl [] .nl]] := by
  refine DC.enter 11 Tryd.func22 rfl (by decide) rfl rfl (s := [(0, .pt 0 0)]) (by rfl) ?_
  refine wG Y22_Zn True.intro ?_
  refine AR.eqP false ?_
  refine goG Y22_Zn True.intro ?_
  refine wG Y22_Zn True.intro ?_
  exact Fin.oneSP (And.intro enV_id (And.intro enL_id (And.intro byL_id (And.intro lsV_id (And.intro lsL_id (And.intro (@tyV_id) (And.intro flE_id (And.intro spV_id spL_id))))))))
theorem Y16_Zn : type_of% (And.intro @F_ag_28 (And.intro @F_ag_9 (And.intro @F_al_36 (And.intro @F_el_28 (And.intro @F_fl_36_3 (And.intro @F_fl_45_1 (And.intro @F_st_36 (And.intro @F_sz_28 (And.intro @F_sz_36 (@F_sz_9)))))))))) := And.intro @F_ag_28 (And.intro @F_ag_9 (And.intro @F_al_36 (And.intro @F_el_28 (And.intro @F_fl_36_3 (And.intro @F_fl_45_1 (And.intro @F_st_36 (And.intro @F_sz_28 (And.intro @F_sz_36 (@F_sz_9)))))))))
theorem c_Get_0 (k a v : Int) : PC Tryd.prog 16 [.im (.pointer none), (.im (.int .i64 (k))), (.im (.int .u32 (a))), (.im (.int .i64 (v)))] (.tu [.im (.string ByteArray.empty), (.im (.bool (false)))]) := by
  have q := c_usable0
  refine PC.enter 37 Tryd.func16 rfl (by decide) rfl rfl (s := [(0, .im (.pointer none)), (1, (.im (.int .i64 (k)))), (2, (.im (.int .u32 (a)))), (3, (.im (.int .i64 (v))))]) (by rfl) ?_
  refine wG Y16_Zn True.intro ?_
  refine AR.callP q True.intro (And.intro enV_id (And.intro enL_id (And.intro byL_id (And.intro lsV_id (And.intro lsL_id (And.intro (@tyV_id) (And.intro flE_id (And.intro spV_id spL_id)))))))) ?_
  refine goG Y16_Zn True.intro ?_
  refine wG Y16_Zn True.intro ?_
  refine Fin.gen0 (rs := [.tmp 8, .tmp 9]) rfl (by first | exact .inl rfl | exact .inr rfl) (finG Y16_Zn) ?_
  skip
  all_goals exact wkG (And.intro enV_id (And.intro enL_id (And.intro byL_id (And.intro lsV_id (And.intro lsL_id (And.intro (@tyV_id) (And.intro flE_id (And.intro spV_id spL_id))))))))
theorem c_Get_Z (k a v : Int) : DC Tryd.prog 16 [.pt 0 0, (.im (.int .i64 (k))), (.im (.int .u32 (a))), (.im (.int .i64 (v)))] [.box [(.im (.bool ((false)))), .sl [] .nl, .sl [] .nl, .sl [] .nl]] (.tu [.im (.string ByteArray.empty), (.im (.bool (false)))]) [.box [(.im (.bool ((false)))), .sl [] .nl, .sl [] .nl, .sl [] .nl]] := by
  have q := c_usableY false
  refine DC.enter 37 Tryd.func16 rfl (by decide) rfl rfl (s := [(0, .pt 0 0), (1, (.im (.int .i64 (k)))), (2, (.im (.int .u32 (a)))), (3, (.im (.int .i64 (v))))]) (by rfl) ?_
  refine wG Y16_Zn True.intro ?_
  refine AR.callQP [0] q True.intro (And.intro enV_id (And.intro enL_id (And.intro byL_id (And.intro lsV_id (And.intro lsL_id (And.intro (@tyV_id) (And.intro flE_id (And.intro spV_id spL_id)))))))) (And.intro enV_ren (And.intro enL_ren (And.intro byL_ren (And.intro lsV_ren (And.intro lsL_ren (And.intro flE_ren (And.intro spV_ren spL_ren))))))) ?_
  refine goG Y16_Zn True.intro ?_
  refine wG Y16_Zn True.intro ?_
  refine Fin.gen (rs := [.tmp 8, .tmp 9]) rfl (by first | exact .inl rfl | exact .inr rfl) (finG Y16_Zn) ?_ rfl (idG (And.intro enV_id (And.intro enL_id (And.intro byL_id (And.intro lsV_id (And.intro lsL_id (And.intro (@tyV_id) (And.intro flE_id (And.intro spV_id spL_id)))))))))
  skip
  all_goals exact wkG (And.intro enV_id (And.intro enL_id (And.intro byL_id (And.intro lsV_id (And.intro lsL_id (And.intro (@tyV_id) (And.intro flE_id (And.intro spV_id spL_id))))))))
theorem Y20_Zn : type_of% (And.intro @F_ag_28 (And.intro @F_ag_36 (And.intro @F_fl_45_1 (And.intro @F_sz_28 (@F_sz_36))))) := And.intro @F_ag_28 (And.intro @F_ag_36 (And.intro @F_fl_45_1 (And.intro @F_sz_28 (@F_sz_36))))
theorem c_Put_0 (k v a : Int) (t : Bs) : PC Tryd.prog 20 [.im (.pointer none), .ag [(.im (.int .i64 (k))), (.im (.int .i64 (v))), (.im (.int .u32 (a))), (.im (.string (bA (t))))]] (.im (.int .i64 (1))) := by
  have q := c_usable0
  refine PC.enter 25 Tryd.func20 rfl (by decide) rfl rfl (s := [(0, .im (.pointer none)), (1, .ag [(.im (.int .i64 (k))), (.im (.int .i64 (v))), (.im (.int .u32 (a))), (.im (.string (bA (t))))])]) (by rfl) ?_
  refine wG Y20_Zn True.intro ?_
  refine AR.callP q True.intro (And.intro enV_id (And.intro enL_id (And.intro byL_id (And.intro lsV_id (And.intro lsL_id (And.intro (@tyV_id) (And.intro flE_id (And.intro spV_id spL_id)))))))) ?_
  refine goG Y20_Zn True.intro ?_
  refine wG Y20_Zn True.intro ?_
  refine Fin.gen0 (rs := [.tmp 4]) rfl (by first | exact .inl rfl | exact .inr rfl) (finG Y20_Zn) ?_
  skip
  all_goals exact wkG (And.intro enV_id (And.intro enL_id (And.intro byL_id (And.intro lsV_id (And.intro lsL_id (And.intro (@tyV_id) (And.intro flE_id (And.intro spV_id spL_id))))))))
theorem c_Put_Z (k v a : Int) (t : Bs) : DC Tryd.prog 20 [.pt 0 0, .ag [(.im (.int .i64 (k))), (.im (.int .i64 (v))), (.im (.int .u32 (a))), (.im (.string (bA (t))))]] [.box [(.im (.bool ((false)))), .sl [] .nl, .sl [] .nl, .sl [] .nl]] (.im (.int .i64 (1))) [.box [(.im (.bool ((false)))), .sl [] .nl, .sl [] .nl, .sl [] .nl]] := by
  have q := c_usableY false
  refine DC.enter 25 Tryd.func20 rfl (by decide) rfl rfl (s := [(0, .pt 0 0), (1, .ag [(.im (.int .i64 (k))), (.im (.int .i64 (v))), (.im (.int .u32 (a))), (.im (.string (bA (t))))])]) (by rfl) ?_
  refine wG Y20_Zn True.intro ?_
  refine AR.callQP [0] q True.intro (And.intro enV_id (And.intro enL_id (And.intro byL_id (And.intro lsV_id (And.intro lsL_id (And.intro (@tyV_id) (And.intro flE_id (And.intro spV_id spL_id)))))))) (And.intro enV_ren (And.intro enL_ren (And.intro byL_ren (And.intro lsV_ren (And.intro lsL_ren (And.intro flE_ren (And.intro spV_ren spL_ren))))))) ?_
  refine goG Y20_Zn True.intro ?_
  refine wG Y20_Zn True.intro ?_
  refine Fin.gen (rs := [.tmp 4]) rfl (by first | exact .inl rfl | exact .inr rfl) (finG Y20_Zn) ?_ rfl (idG (And.intro enV_id (And.intro enL_id (And.intro byL_id (And.intro lsV_id (And.intro lsL_id (And.intro (@tyV_id) (And.intro flE_id (And.intro spV_id spL_id)))))))))
  skip
  all_goals exact wkG (And.intro enV_id (And.intro enL_id (And.intro byL_id (And.intro lsV_id (And.intro lsL_id (And.intro (@tyV_id) (And.intro flE_id (And.intro spV_id spL_id))))))))
theorem Y21_Zn : type_of% (And.intro @F_ag_28 (And.intro @F_ag_36 (And.intro @F_fl_45_1 (And.intro @F_sz_28 (@F_sz_36))))) := And.intro @F_ag_28 (And.intro @F_ag_36 (And.intro @F_fl_45_1 (And.intro @F_sz_28 (@F_sz_36))))
theorem c_Remove_0 (k v a : Int) (t : Bs) : PC Tryd.prog 21 [.im (.pointer none), .ag [(.im (.int .i64 (k))), (.im (.int .i64 (v))), (.im (.int .u32 (a))), (.im (.string (bA (t))))]] (.im (.int .i64 (1))) := by
  have q := c_usable0
  refine PC.enter 35 Tryd.func21 rfl (by decide) rfl rfl (s := [(0, .im (.pointer none)), (1, .ag [(.im (.int .i64 (k))), (.im (.int .i64 (v))), (.im (.int .u32 (a))), (.im (.string (bA (t))))])]) (by rfl) ?_
  refine wG Y21_Zn True.intro ?_
  refine AR.callP q True.intro (And.intro enV_id (And.intro enL_id (And.intro byL_id (And.intro lsV_id (And.intro lsL_id (And.intro (@tyV_id) (And.intro flE_id (And.intro spV_id spL_id)))))))) ?_
  refine goG Y21_Zn True.intro ?_
  refine wG Y21_Zn True.intro ?_
  refine Fin.gen0 (rs := [.tmp 4]) rfl (by first | exact .inl rfl | exact .inr rfl) (finG Y21_Zn) ?_
  skip
  all_goals exact wkG (And.intro enV_id (And.intro enL_id (And.intro byL_id (And.intro lsV_id (And.intro lsL_id (And.intro (@tyV_id) (And.intro flE_id (And.intro spV_id spL_id))))))))
theorem c_Remove_Z (k v a : Int) (t : Bs) : DC Tryd.prog 21 [.pt 0 0, .ag [(.im (.int .i64 (k))), (.im (.int .i64 (v))), (.im (.int .u32 (a))), (.im (.string (bA (t))))]] [.box [(.im (.bool ((false)))), .sl [] .nl, .sl [] .nl, .sl [] .nl]] (.im (.int .i64 (1))) [.box [(.im (.bool ((false)))), .sl [] .nl, .sl [] .nl, .sl [] .nl]] := by
  have q := c_usableY false
  refine DC.enter 35 Tryd.func21 rfl (by decide) rfl rfl (s := [(0, .pt 0 0), (1, .ag [(.im (.int .i64 (k))), (.im (.int .i64 (v))), (.im (.int .u32 (a))), (.im (.string (bA (t))))])]) (by rfl) ?_
  refine wG Y21_Zn True.intro ?_
  refine AR.callQP [0] q True.intro (And.intro enV_id (And.intro enL_id (And.intro byL_id (And.intro lsV_id (And.intro lsL_id (And.intro (@tyV_id) (And.intro flE_id (And.intro spV_id spL_id)))))))) (And.intro enV_ren (And.intro enL_ren (And.intro byL_ren (And.intro lsV_ren (And.intro lsL_ren (And.intro flE_ren (And.intro spV_ren spL_ren))))))) ?_
  refine goG Y21_Zn True.intro ?_
  refine wG Y21_Zn True.intro ?_
  refine Fin.gen (rs := [.tmp 4]) rfl (by first | exact .inl rfl | exact .inr rfl) (finG Y21_Zn) ?_ rfl (idG (And.intro enV_id (And.intro enL_id (And.intro byL_id (And.intro lsV_id (And.intro lsL_id (And.intro (@tyV_id) (And.intro flE_id (And.intro spV_id spL_id)))))))))
  skip
  all_goals exact wkG (And.intro enV_id (And.intro enL_id (And.intro byL_id (And.intro lsV_id (And.intro lsL_id (And.intro (@tyV_id) (And.intro flE_id (And.intro spV_id spL_id))))))))
theorem Y13_Zn : type_of% (And.intro @F_ag_28 (And.intro @F_ag_43 (And.intro @F_al_28 (And.intro @F_by_28 (And.intro @F_el_43 (And.intro @F_fl_45_1 (And.intro @F_fl_45_2 (And.intro @F_fl_45_3 (And.intro @F_sz_28 (And.intro @F_sz_43 (@F_un_43))))))))))) := And.intro @F_ag_28 (And.intro @F_ag_43 (And.intro @F_al_28 (And.intro @F_by_28 (And.intro @F_el_43 (And.intro @F_fl_45_1 (And.intro @F_fl_45_2 (And.intro @F_fl_45_3 (And.intro @F_sz_28 (And.intro @F_sz_43 (@F_un_43))))))))))
theorem c_Undo_0  : PC Tryd.prog 13 [.im (.pointer none)] (.im (.bool (false))) := by
  have q := c_usable0
  refine PC.enter 54 Tryd.func13 rfl (by decide) rfl rfl (s := [(0, .im (.pointer none))]) (by rfl) ?_
  refine wG Y13_Zn True.intro ?_
  refine AR.callP q True.intro (And.intro enV_id (And.intro enL_id (And.intro byL_id (And.intro lsV_id (And.intro lsL_id (And.intro (@tyV_id) (And.intro flE_id (And.intro spV_id spL_id)))))))) ?_
  refine goG Y13_Zn True.intro ?_
  refine wG Y13_Zn True.intro ?_
  refine Fin.gen0 (rs := [.tmp 2]) rfl (by first | exact .inl rfl | exact .inr rfl) (finG Y13_Zn) ?_
  skip
  all_goals exact wkG (And.intro enV_id (And.intro enL_id (And.intro byL_id (And.intro lsV_id (And.intro lsL_id (And.intro (@tyV_id) (And.intro flE_id (And.intro spV_id spL_id))))))))
theorem c_Undo_Z  : DC Tryd.prog 13 [.pt 0 0] [.box [(.im (.bool ((false)))), .sl [] .nl, .sl [] .nl, .sl [] .nl]] (.im (.bool (false))) [.box [(.im (.bool ((false)))), .sl [] .nl, .sl [] .nl, .sl [] .nl]] := by
  have q := c_usableY false
  refine DC.enter 54 Tryd.func13 rfl (by decide) rfl rfl (s := [(0, .pt 0 0)]) (by rfl) ?_
  refine wG Y13_Zn True.intro ?_
  refine AR.callQP [0] q True.intro (And.intro enV_id (And.intro enL_id (And.intro byL_id (And.intro lsV_id (And.intro lsL_id (And.intro (@tyV_id) (And.intro flE_id (And.intro spV_id spL_id)))))))) (And.intro enV_ren (And.intro enL_ren (And.intro byL_ren (And.intro lsV_ren (And.intro lsL_ren (And.intro flE_ren (And.intro spV_ren spL_ren))))))) ?_
  refine goG Y13_Zn True.intro ?_
  refine wG Y13_Zn True.intro ?_
  refine Fin.gen (rs := [.tmp 2]) rfl (by first | exact .inl rfl | exact .inr rfl) (finG Y13_Zn) ?_ rfl (idG (And.intro enV_id (And.intro enL_id (And.intro byL_id (And.intro lsV_id (And.intro lsL_id (And.intro (@tyV_id) (And.intro flE_id (And.intro spV_id spL_id)))))))))
  skip
  all_goals exact wkG (And.intro enV_id (And.intro enL_id (And.intro byL_id (And.intro lsV_id (And.intro lsL_id (And.intro (@tyV_id) (And.intro flE_id (And.intro spV_id spL_id))))))))
theorem Y15_Zn : type_of% (And.intro @F_ag_28 (And.intro @F_ag_43 (And.intro @F_al_28 (And.intro @F_by_28 (And.intro @F_el_43 (And.intro @F_fl_45_1 (And.intro @F_fl_45_2 (And.intro @F_fl_45_3 (And.intro @F_sz_28 (And.intro @F_sz_43 (@F_un_43))))))))))) := And.intro @F_ag_28 (And.intro @F_ag_43 (And.intro @F_al_28 (And.intro @F_by_28 (And.intro @F_el_43 (And.intro @F_fl_45_1 (And.intro @F_fl_45_2 (And.intro @F_fl_45_3 (And.intro @F_sz_28 (And.intro @F_sz_43 (@F_un_43))))))))))
theorem c_Redo_0  : PC Tryd.prog 15 [.im (.pointer none)] (.im (.bool (false))) := by
  have q := c_usable0
  refine PC.enter 54 Tryd.func15 rfl (by decide) rfl rfl (s := [(0, .im (.pointer none))]) (by rfl) ?_
  refine wG Y15_Zn True.intro ?_
  refine AR.callP q True.intro (And.intro enV_id (And.intro enL_id (And.intro byL_id (And.intro lsV_id (And.intro lsL_id (And.intro (@tyV_id) (And.intro flE_id (And.intro spV_id spL_id)))))))) ?_
  refine goG Y15_Zn True.intro ?_
  refine wG Y15_Zn True.intro ?_
  refine Fin.gen0 (rs := [.tmp 2]) rfl (by first | exact .inl rfl | exact .inr rfl) (finG Y15_Zn) ?_
  skip
  all_goals exact wkG (And.intro enV_id (And.intro enL_id (And.intro byL_id (And.intro lsV_id (And.intro lsL_id (And.intro (@tyV_id) (And.intro flE_id (And.intro spV_id spL_id))))))))
theorem c_Redo_Z  : DC Tryd.prog 15 [.pt 0 0] [.box [(.im (.bool ((false)))), .sl [] .nl, .sl [] .nl, .sl [] .nl]] (.im (.bool (false))) [.box [(.im (.bool ((false)))), .sl [] .nl, .sl [] .nl, .sl [] .nl]] := by
  have q := c_usableY false
  refine DC.enter 54 Tryd.func15 rfl (by decide) rfl rfl (s := [(0, .pt 0 0)]) (by rfl) ?_
  refine wG Y15_Zn True.intro ?_
  refine AR.callQP [0] q True.intro (And.intro enV_id (And.intro enL_id (And.intro byL_id (And.intro lsV_id (And.intro lsL_id (And.intro (@tyV_id) (And.intro flE_id (And.intro spV_id spL_id)))))))) (And.intro enV_ren (And.intro enL_ren (And.intro byL_ren (And.intro lsV_ren (And.intro lsL_ren (And.intro flE_ren (And.intro spV_ren spL_ren))))))) ?_
  refine goG Y15_Zn True.intro ?_
  refine wG Y15_Zn True.intro ?_
  refine Fin.gen (rs := [.tmp 2]) rfl (by first | exact .inl rfl | exact .inr rfl) (finG Y15_Zn) ?_ rfl (idG (And.intro enV_id (And.intro enL_id (And.intro byL_id (And.intro lsV_id (And.intro lsL_id (And.intro (@tyV_id) (And.intro flE_id (And.intro spV_id spL_id)))))))))
  skip
  all_goals exact wkG (And.intro enV_id (And.intro enL_id (And.intro byL_id (And.intro lsV_id (And.intro lsL_id (And.intro (@tyV_id) (And.intro flE_id (And.intro spV_id spL_id))))))))
theorem Y12_Zn : type_of% (And.intro @F_ag_28 (And.intro @F_fl_45_1 (@F_sz_28))) := And.intro @F_ag_28 (And.intro @F_fl_45_1 (@F_sz_28))
theorem c_All_0  : PC Tryd.prog 12 [.im (.pointer none)] (.sl [] .nl) := by
  have q := c_usable0
  refine PC.enter 11 Tryd.func12 rfl (by decide) rfl rfl (s := [(0, .im (.pointer none))]) (by rfl) ?_
  refine wG Y12_Zn True.intro ?_
  refine AR.callP q True.intro (And.intro enV_id (And.intro enL_id (And.intro byL_id (And.intro lsV_id (And.intro lsL_id (And.intro (@tyV_id) (And.intro flE_id (And.intro spV_id spL_id)))))))) ?_
  refine goG Y12_Zn True.intro ?_
  refine wG Y12_Zn True.intro ?_
  refine Fin.gen0 (rs := [.tmp 2]) rfl (by first | exact .inl rfl | exact .inr rfl) (finG Y12_Zn) ?_
  skip
  all_goals exact wkG (And.intro enV_id (And.intro enL_id (And.intro byL_id (And.intro lsV_id (And.intro lsL_id (And.intro (@tyV_id) (And.intro flE_id (And.intro spV_id spL_id))))))))
theorem c_All_Z  : DC Tryd.prog 12 [.pt 0 0] [.box [(.im (.bool ((false)))), .sl [] .nl, .sl [] .nl, .sl [] .nl]] (.sl [] .nl) [.box [(.im (.bool ((false)))), .sl [] .nl, .sl [] .nl, .sl [] .nl]] := by
  have q := c_usableY false
  refine DC.enter 11 Tryd.func12 rfl (by decide) rfl rfl (s := [(0, .pt 0 0)]) (by rfl) ?_
  refine wG Y12_Zn True.intro ?_
  refine AR.callQP [0] q True.intro (And.intro enV_id (And.intro enL_id (And.intro byL_id (And.intro lsV_id (And.intro lsL_id (And.intro (@tyV_id) (And.intro flE_id (And.intro spV_id spL_id)))))))) (And.intro enV_ren (And.intro enL_ren (And.intro byL_ren (And.intro lsV_ren (And.intro lsL_ren (And.intro flE_ren (And.intro spV_ren spL_ren))))))) ?_
  refine goG Y12_Zn True.intro ?_
  refine wG Y12_Zn True.intro ?_
  refine Fin.gen (rs := [.tmp 2]) rfl (by first | exact .inl rfl | exact .inr rfl) (finG Y12_Zn) ?_ rfl (idG (And.intro enV_id (And.intro enL_id (And.intro byL_id (And.intro lsV_id (And.intro lsL_id (And.intro (@tyV_id) (And.intro flE_id (And.intro spV_id spL_id)))))))))
  skip
  all_goals exact wkG (And.intro enV_id (And.intro enL_id (And.intro byL_id (And.intro lsV_id (And.intro lsL_id (And.intro (@tyV_id) (And.intro flE_id (And.intro spV_id spL_id))))))))
theorem Y17_Zn : type_of% (And.intro @F_ag_28 (And.intro @F_ag_3 (And.intro @F_ag_34 (And.intro @F_ag_36 (And.intro @F_ag_9 (And.intro @F_al_36 (And.intro @F_al_5 (And.intro @F_by_5 (And.intro @F_el_28 (And.intro @F_el_37 (And.intro @F_fl_36_0 (And.intro @F_fl_36_1 (And.intro @F_fl_36_2 (And.intro @F_fl_36_3 (And.intro @F_fl_45_1 (And.intro @F_in_3 (And.intro @F_in_34 (And.intro @F_in_37 (And.intro @F_in_5 (And.intro @F_sz_28 (And.intro @F_sz_3 (And.intro @F_sz_34 (And.intro @F_sz_36 (And.intro @F_sz_5 (And.intro @F_sz_9 (And.intro @F_un_3 (And.intro @F_un_34 (And.intro @F_un_37 (And.intro @F_un_5 (@F_un_9)))))))))))))))))))))))))))))) := And.intro @F_ag_28 (And.intro @F_ag_3 (And.intro @F_ag_34 (And.intro @F_ag_36 (And.intro @F_ag_9 (And.intro @F_al_36 (And.intro @F_al_5 (And.intro @F_by_5 (And.intro @F_el_28 (And.intro @F_el_37 (And.intro @F_fl_36_0 (And.intro @F_fl_36_1 (And.intro @F_fl_36_2 (And.intro @F_fl_36_3 (And.intro @F_fl_45_1 (And.intro @F_in_3 (And.intro @F_in_34 (And.intro @F_in_37 (And.intro @F_in_5 (And.intro @F_sz_28 (And.intro @F_sz_3 (And.intro @F_sz_34 (And.intro @F_sz_36 (And.intro @F_sz_5 (And.intro @F_sz_9 (And.intro @F_un_3 (And.intro @F_un_34 (And.intro @F_un_37 (And.intro @F_un_5 (@F_un_9)))))))))))))))))))))))))))))
theorem c_Save_0  : PC Tryd.prog 17 [.im (.pointer none)] (.sl [] .nl) := by
  have q := c_usable0
  refine PC.enter 55 Tryd.func17 rfl (by decide) rfl rfl (s := [(0, .im (.pointer none))]) (by rfl) ?_
  refine wG Y17_Zn True.intro ?_
  refine AR.callP q True.intro (And.intro enV_id (And.intro enL_id (And.intro byL_id (And.intro lsV_id (And.intro lsL_id (And.intro (@tyV_id) (And.intro flE_id (And.intro spV_id spL_id)))))))) ?_
  refine goG Y17_Zn True.intro ?_
  refine wG Y17_Zn True.intro ?_
  refine Fin.gen0 (rs := [.tmp 2]) rfl (by first | exact .inl rfl | exact .inr rfl) (finG Y17_Zn) ?_
  skip
  all_goals exact wkG (And.intro enV_id (And.intro enL_id (And.intro byL_id (And.intro lsV_id (And.intro lsL_id (And.intro (@tyV_id) (And.intro flE_id (And.intro spV_id spL_id))))))))
theorem c_Save_Z  : DC Tryd.prog 17 [.pt 0 0] [.box [(.im (.bool ((false)))), .sl [] .nl, .sl [] .nl, .sl [] .nl]] (.sl [] .nl) [.box [(.im (.bool ((false)))), .sl [] .nl, .sl [] .nl, .sl [] .nl]] := by
  have q := c_usableY false
  refine DC.enter 55 Tryd.func17 rfl (by decide) rfl rfl (s := [(0, .pt 0 0)]) (by rfl) ?_
  refine wG Y17_Zn True.intro ?_
  refine AR.callQP [0] q True.intro (And.intro enV_id (And.intro enL_id (And.intro byL_id (And.intro lsV_id (And.intro lsL_id (And.intro (@tyV_id) (And.intro flE_id (And.intro spV_id spL_id)))))))) (And.intro enV_ren (And.intro enL_ren (And.intro byL_ren (And.intro lsV_ren (And.intro lsL_ren (And.intro flE_ren (And.intro spV_ren spL_ren))))))) ?_
  refine goG Y17_Zn True.intro ?_
  refine wG Y17_Zn True.intro ?_
  refine Fin.gen (rs := [.tmp 2]) rfl (by first | exact .inl rfl | exact .inr rfl) (finG Y17_Zn) ?_ rfl (idG (And.intro enV_id (And.intro enL_id (And.intro byL_id (And.intro lsV_id (And.intro lsL_id (And.intro (@tyV_id) (And.intro flE_id (And.intro spV_id spL_id)))))))))
  skip
  all_goals exact wkG (And.intro enV_id (And.intro enL_id (And.intro byL_id (And.intro lsV_id (And.intro lsL_id (And.intro (@tyV_id) (And.intro flE_id (And.intro spV_id spL_id))))))))
theorem Y19_Zn : type_of% (And.intro @F_ag_28 (And.intro @F_ag_36 (And.intro @F_al_36 (And.intro @F_by_36 (And.intro @F_el_28 (And.intro @F_eq_36 (And.intro @F_fl_45_1 (And.intro @F_sz_28 (@F_sz_36))))))))) := And.intro @F_ag_28 (And.intro @F_ag_36 (And.intro @F_al_36 (And.intro @F_by_36 (And.intro @F_el_28 (And.intro @F_eq_36 (And.intro @F_fl_45_1 (And.intro @F_sz_28 (@F_sz_36))))))))
theorem c_Merge_0Y : DC Tryd.prog 19 [.im (.pointer none), .pt 0 0] [.box [(.im (.bool ((true)))), .sl [] .nl, .sl [] .nl, .sl [] .nl]] (.tu [.sl [] .nl, (.im (.int .i64 (1)))]) [.box [(.im (.bool ((true)))), .sl [] .nl, .sl [] .nl, .sl [] .nl]] := by
  have q0 := c_usable0
  have q1 := c_usableY true
  have q2 := c_usableY false
  refine DC.enter 76 Tryd.func19 rfl (by decide) rfl rfl (s := [(0, .im (.pointer none)), (1, .pt 0 0)]) (by rfl) ?_
  refine wG Y19_Zn True.intro ?_
  refine AR.callP q0 True.intro (And.intro enV_id (And.intro enL_id (And.intro byL_id (And.intro lsV_id (And.intro lsL_id (And.intro (@tyV_id) (And.intro flE_id (And.intro spV_id spL_id)))))))) ?_
  refine goG Y19_Zn True.intro ?_
  refine wG Y19_Zn True.intro ?_
  refine Fin.gen (rs := [.tmp 4, .tmp 5]) rfl (by first | exact .inl rfl | exact .inr rfl) (finG Y19_Zn) ?_ rfl (idG (And.intro enV_id (And.intro enL_id (And.intro byL_id (And.intro lsV_id (And.intro lsL_id (And.intro (@tyV_id) (And.intro flE_id (And.intro spV_id spL_id)))))))))
  skip
  all_goals exact wkG (And.intro enV_id (And.intro enL_id (And.intro byL_id (And.intro lsV_id (And.intro lsL_id (And.intro (@tyV_id) (And.intro flE_id (And.intro spV_id spL_id))))))))
theorem c_Merge_ZY : DC Tryd.prog 19 [.pt 0 0, .pt 1 0] [.box [(.im (.bool ((false)))), .sl [] .nl, .sl [] .nl, .sl [] .nl], .box [(.im (.bool ((true)))), .sl [] .nl, .sl [] .nl, .sl [] .nl]] (.tu [.sl [] .nl, (.im (.int .i64 (1)))]) [.box [(.im (.bool ((false)))), .sl [] .nl, .sl [] .nl, .sl [] .nl], .box [(.im (.bool ((true)))), .sl [] .nl, .sl [] .nl, .sl [] .nl]] := by
  have q0 := c_usable0
  have q1 := c_usableY true
  have q2 := c_usableY false
  refine DC.enter 76 Tryd.func19 rfl (by decide) rfl rfl (s := [(0, .pt 0 0), (1, .pt 1 0)]) (by rfl) ?_
  refine wG Y19_Zn True.intro ?_
  refine AR.callQP [0] q2 True.intro (And.intro enV_id (And.intro enL_id (And.intro byL_id (And.intro lsV_id (And.intro lsL_id (And.intro (@tyV_id) (And.intro flE_id (And.intro spV_id spL_id)))))))) (And.intro enV_ren (And.intro enL_ren (And.intro byL_ren (And.intro lsV_ren (And.intro lsL_ren (And.intro flE_ren (And.intro spV_ren spL_ren))))))) ?_
  refine goG Y19_Zn True.intro ?_
  refine wG Y19_Zn True.intro ?_
  refine Fin.gen (rs := [.tmp 4, .tmp 5]) rfl (by first | exact .inl rfl | exact .inr rfl) (finG Y19_Zn) ?_ rfl (idG (And.intro enV_id (And.intro enL_id (And.intro byL_id (And.intro lsV_id (And.intro lsL_id (And.intro (@tyV_id) (And.intro flE_id (And.intro spV_id spL_id)))))))))
  skip
  all_goals exact wkG (And.intro enV_id (And.intro enL_id (And.intro byL_id (And.intro lsV_id (And.intro lsL_id (And.intro (@tyV_id) (And.intro flE_id (And.intro spV_id spL_id))))))))
theorem c_Merge_Y0 : DC Tryd.prog 19 [.pt 0 0, .im (.pointer none)] [.box [(.im (.bool ((true)))), .sl [] .nl, .sl [] .nl, .sl [] .nl]] (.tu [.sl [] .nl, (.im (.int .i64 (1)))]) [.box [(.im (.bool ((true)))), .sl [] .nl, .sl [] .nl, .sl [] .nl]] := by
  have q0 := c_usable0
  have q1 := c_usableY true
  have q2 := c_usableY false
  refine DC.enter 76 Tryd.func19 rfl (by decide) rfl rfl (s := [(0, .pt 0 0), (1, .im (.pointer none))]) (by rfl) ?_
  refine wG Y19_Zn True.intro ?_
  refine AR.callQP [0] q1 True.intro (And.intro enV_id (And.intro enL_id (And.intro byL_id (And.intro lsV_id (And.intro lsL_id (And.intro (@tyV_id) (And.intro flE_id (And.intro spV_id spL_id)))))))) (And.intro enV_ren (And.intro enL_ren (And.intro byL_ren (And.intro lsV_ren (And.intro lsL_ren (And.intro flE_ren (And.intro spV_ren spL_ren))))))) ?_
  refine goG Y19_Zn True.intro ?_
  refine AR.callP q0 True.intro (And.intro enV_id (And.intro enL_id (And.intro byL_id (And.intro lsV_id (And.intro lsL_id (And.intro (@tyV_id) (And.intro flE_id (And.intro spV_id spL_id)))))))) ?_
  refine goG Y19_Zn True.intro ?_
  refine wG Y19_Zn True.intro ?_
  refine Fin.gen (rs := [.tmp 4, .tmp 5]) rfl (by first | exact .inl rfl | exact .inr rfl) (finG Y19_Zn) ?_ rfl (idG (And.intro enV_id (And.intro enL_id (And.intro byL_id (And.intro lsV_id (And.intro lsL_id (And.intro (@tyV_id) (And.intro flE_id (And.intro spV_id spL_id)))))))))
  skip
  all_goals exact wkG (And.intro enV_id (And.intro enL_id (And.intro byL_id (And.intro lsV_id (And.intro lsL_id (And.intro (@tyV_id) (And.intro flE_id (And.intro spV_id spL_id))))))))
theorem c_Merge_YZ : DC Tryd.prog 19 [.pt 0 0, .pt 1 0] [.box [(.im (.bool ((true)))), .sl [] .nl, .sl [] .nl, .sl [] .nl], .box [(.im (.bool ((false)))), .sl [] .nl, .sl [] .nl, .sl [] .nl]] (.tu [.sl [] .nl, (.im (.int .i64 (1)))]) [.box [(.im (.bool ((true)))), .sl [] .nl, .sl [] .nl, .sl [] .nl], .box [(.im (.bool ((false)))), .sl [] .nl, .sl [] .nl, .sl [] .nl]] := by
  have q0 := c_usable0
  have q1 := c_usableY true
  have q2 := c_usableY false
  refine DC.enter 76 Tryd.func19 rfl (by decide) rfl rfl (s := [(0, .pt 0 0), (1, .pt 1 0)]) (by rfl) ?_
  refine wG Y19_Zn True.intro ?_
  refine AR.callQP [0] q1 True.intro (And.intro enV_id (And.intro enL_id (And.intro byL_id (And.intro lsV_id (And.intro lsL_id (And.intro (@tyV_id) (And.intro flE_id (And.intro spV_id spL_id)))))))) (And.intro enV_ren (And.intro enL_ren (And.intro byL_ren (And.intro lsV_ren (And.intro lsL_ren (And.intro flE_ren (And.intro spV_ren spL_ren))))))) ?_
  refine goG Y19_Zn True.intro ?_
  refine AR.callQP [1] q2 True.intro (And.intro enV_id (And.intro enL_id (And.intro byL_id (And.intro lsV_id (And.intro lsL_id (And.intro (@tyV_id) (And.intro flE_id (And.intro spV_id spL_id)))))))) (And.intro enV_ren (And.intro enL_ren (And.intro byL_ren (And.intro lsV_ren (And.intro lsL_ren (And.intro flE_ren (And.intro spV_ren spL_ren))))))) ?_
  refine goG Y19_Zn True.intro ?_
  refine wG Y19_Zn True.intro ?_
  refine Fin.gen (rs := [.tmp 4, .tmp 5]) rfl (by first | exact .inl rfl | exact .inr rfl) (finG Y19_Zn) ?_ rfl (idG (And.intro enV_id (And.intro enL_id (And.intro byL_id (And.intro lsV_id (And.intro lsL_id (And.intro (@tyV_id) (And.intro flE_id (And.intro spV_id spL_id)))))))))
  skip
  all_goals exact wkG (And.intro enV_id (And.intro enL_id (And.intro byL_id (And.intro lsV_id (And.intro lsL_id (And.intro (@tyV_id) (And.intro flE_id (And.intro spV_id spL_id))))))))
theorem Y6_Zn : type_of% (And.intro @F_ag_25 (And.intro @F_ag_3 (And.intro @F_ag_34 (And.intro @F_ag_36 (And.intro @F_al_25 (And.intro @F_al_45 (And.intro @F_el_28 (And.intro @F_el_37 (And.intro @F_el_46 (And.intro @F_fl_36_0 (And.intro @F_fl_36_1 (And.intro @F_fl_36_2 (And.intro @F_st_45 (And.intro @F_sz_25 (And.intro @F_sz_3 (And.intro @F_sz_34 (And.intro @F_sz_36 (@F_sz_5)))))))))))))))))) := And.intro @F_ag_25 (And.intro @F_ag_3 (And.intro @F_ag_34 (And.intro @F_ag_36 (And.intro @F_al_25 (And.intro @F_al_45 (And.intro @F_el_28 (And.intro @F_el_37 (And.intro @F_el_46 (And.intro @F_fl_36_0 (And.intro @F_fl_36_1 (And.intro @F_fl_36_2 (And.intro @F_st_45 (And.intro @F_sz_25 (And.intro @F_sz_3 (And.intro @F_sz_34 (And.intro @F_sz_36 (@F_sz_5)))))))))))))))))
theorem c_nil47 (k v a : Int) (t : Bs) : PC Tryd.prog 6 [.ag [(.im (.int .i64 (k))), (.im (.int .i64 (v))), (.im (.int .u32 (a))), (.im (.string (bA (t))))]] (.im (.bool (true))) := by
  have qx := c_example47
  have qn := c_New
  have w1 : IntKind.i64.wrap 1 = 1 := by decide
  have he : (ByteArray.empty.toList == ({ data := #[] } : ByteArray).toList) = true := beq_self_eq_true _
  have w2 : IntKind.i64.wrap 2 = 2 := by decide
  refine PC.enter 99 Tryd.func6 rfl (by decide) rfl rfl (s := [(0, .ag [(.im (.int .i64 (k))), (.im (.int .i64 (v))), (.im (.int .u32 (a))), (.im (.string (bA (t))))])]) (by rfl) ?_
  refine wG Y6_Zn True.intro ?_
  refine AWp.loop ?_
  refine ALp.cutP 2 [(1, .pt 0 0), (3, .sl [.im (.pointer none), .pt 1 0] .full), (4, (.im (.int .i64 (0))))] [.box [(.im (.int .i64 (k))), (.im (.int .i64 (v))), (.im (.int .u32 (a))), (.im (.string (bA (t))))], .box [(.im (.bool ((false)))), .sl [] .nl, .sl [] .nl, .sl [] .nl]] (And.intro enV_id (And.intro enL_id (And.intro byL_id (And.intro lsV_id (And.intro lsL_id (And.intro (@tyV_id) (And.intro flE_id (And.intro spV_id spL_id)))))))) ?_
  refine ALp.round ?_
  refine wG Y6_Zn True.intro ?_
  have h1n := c_Get_0 k a v
  refine AR.callP h1n True.intro (And.intro enV_id (And.intro enL_id (And.intro byL_id (And.intro lsV_id (And.intro lsL_id (And.intro (@tyV_id) (And.intro flE_id (And.intro spV_id spL_id)))))))) ?_
  refine goG Y6_Zn True.intro ?_
  refine wG Y6_Zn True.intro ?_
  refine AR.callSP [2] qn True.intro (And.intro enV_id (And.intro enL_id (And.intro byL_id (And.intro lsV_id (And.intro lsL_id (And.intro (@tyV_id) (And.intro flE_id (And.intro spV_id spL_id)))))))) (And.intro enV_ren (And.intro enL_ren (And.intro byL_ren (And.intro lsV_ren (And.intro lsL_ren (And.intro flE_ren (And.intro spV_ren spL_ren))))))) ?_
  refine goG Y6_Zn True.intro ?_
  have hm1 := c_Merge_0Y
  refine AR.callSP [2] hm1 True.intro (And.intro enV_id (And.intro enL_id (And.intro byL_id (And.intro lsV_id (And.intro lsL_id (And.intro (@tyV_id) (And.intro flE_id (And.intro spV_id spL_id)))))))) (And.intro enV_ren (And.intro enL_ren (And.intro byL_ren (And.intro lsV_ren (And.intro lsL_ren (And.intro flE_ren (And.intro spV_ren spL_ren))))))) ?_
  refine goG Y6_Zn True.intro ?_
  refine wG Y6_Zn True.intro ?_
  refine AR.callSP [3] qn True.intro (And.intro enV_id (And.intro enL_id (And.intro byL_id (And.intro lsV_id (And.intro lsL_id (And.intro (@tyV_id) (And.intro flE_id (And.intro spV_id spL_id)))))))) (And.intro enV_ren (And.intro enL_ren (And.intro byL_ren (And.intro lsV_ren (And.intro lsL_ren (And.intro flE_ren (And.intro spV_ren spL_ren))))))) ?_
  refine goG Y6_Zn True.intro ?_
  have hm2 := c_Merge_Y0
  refine AR.callSP [3] hm2 True.intro (And.intro enV_id (And.intro enL_id (And.intro byL_id (And.intro lsV_id (And.intro lsL_id (And.intro (@tyV_id) (And.intro flE_id (And.intro spV_id spL_id)))))))) (And.intro enV_ren (And.intro enL_ren (And.intro byL_ren (And.intro lsV_ren (And.intro lsL_ren (And.intro flE_ren (And.intro spV_ren spL_ren))))))) ?_
  refine goG Y6_Zn True.intro ?_
  refine wG Y6_Zn he ?_
  have h2n := c_Put_0 k v a t
  refine AR.callP h2n True.intro (And.intro enV_id (And.intro enL_id (And.intro byL_id (And.intro lsV_id (And.intro lsL_id (And.intro (@tyV_id) (And.intro flE_id (And.intro spV_id spL_id)))))))) ?_
  refine goG Y6_Zn True.intro ?_
  have h3n := c_Remove_0 k v a t
  refine AR.callP h3n True.intro (And.intro enV_id (And.intro enL_id (And.intro byL_id (And.intro lsV_id (And.intro lsL_id (And.intro (@tyV_id) (And.intro flE_id (And.intro spV_id spL_id)))))))) ?_
  refine goG Y6_Zn True.intro ?_
  have h4n := c_Undo_0
  refine AR.callP h4n True.intro (And.intro enV_id (And.intro enL_id (And.intro byL_id (And.intro lsV_id (And.intro lsL_id (And.intro (@tyV_id) (And.intro flE_id (And.intro spV_id spL_id)))))))) ?_
  refine goG Y6_Zn True.intro ?_
  have h5n := c_Redo_0
  refine AR.callP h5n True.intro (And.intro enV_id (And.intro enL_id (And.intro byL_id (And.intro lsV_id (And.intro lsL_id (And.intro (@tyV_id) (And.intro flE_id (And.intro spV_id spL_id)))))))) ?_
  refine goG Y6_Zn True.intro ?_
  have h6n := c_All_0
  refine AR.callP h6n True.intro (And.intro enV_id (And.intro enL_id (And.intro byL_id (And.intro lsV_id (And.intro lsL_id (And.intro (@tyV_id) (And.intro flE_id (And.intro spV_id spL_id)))))))) ?_
  refine goG Y6_Zn True.intro ?_
  have h7n := c_Save_0
  refine AR.callP h7n True.intro (And.intro enV_id (And.intro enL_id (And.intro byL_id (And.intro lsV_id (And.intro lsL_id (And.intro (@tyV_id) (And.intro flE_id (And.intro spV_id spL_id)))))))) ?_
  refine goG Y6_Zn True.intro ?_
  refine wG Y6_Zn (And.intro w1 w2) ?_
  refine ALp.cutP 2 [(1, .pt 0 0), (3, .sl [.im (.pointer none), .pt 1 0] .full), (4, (.im (.int .i64 (1))))] [.box [(.im (.int .i64 (k))), (.im (.int .i64 (v))), (.im (.int .u32 (a))), (.im (.string (bA (t))))], .box [(.im (.bool ((false)))), .sl [] .nl, .sl [] .nl, .sl [] .nl]] (And.intro enV_id (And.intro enL_id (And.intro byL_id (And.intro lsV_id (And.intro lsL_id (And.intro (@tyV_id) (And.intro flE_id (And.intro spV_id spL_id)))))))) ?_
  clear hm1 hm2
  refine ALp.round ?_
  refine wG Y6_Zn True.intro ?_
  have h1z := c_Get_Z k a v
  refine AR.callQP [1] h1z True.intro (And.intro enV_id (And.intro enL_id (And.intro byL_id (And.intro lsV_id (And.intro lsL_id (And.intro (@tyV_id) (And.intro flE_id (And.intro spV_id spL_id)))))))) (And.intro enV_ren (And.intro enL_ren (And.intro byL_ren (And.intro lsV_ren (And.intro lsL_ren (And.intro flE_ren (And.intro spV_ren spL_ren))))))) ?_
  refine goG Y6_Zn True.intro ?_
  refine wG Y6_Zn True.intro ?_
  refine AR.callSP [2] qn True.intro (And.intro enV_id (And.intro enL_id (And.intro byL_id (And.intro lsV_id (And.intro lsL_id (And.intro (@tyV_id) (And.intro flE_id (And.intro spV_id spL_id)))))))) (And.intro enV_ren (And.intro enL_ren (And.intro byL_ren (And.intro lsV_ren (And.intro lsL_ren (And.intro flE_ren (And.intro spV_ren spL_ren))))))) ?_
  refine goG Y6_Zn True.intro ?_
  have hm1 := c_Merge_ZY
  refine AR.callSP [1, 2] hm1 True.intro (And.intro enV_id (And.intro enL_id (And.intro byL_id (And.intro lsV_id (And.intro lsL_id (And.intro (@tyV_id) (And.intro flE_id (And.intro spV_id spL_id)))))))) (And.intro enV_ren (And.intro enL_ren (And.intro byL_ren (And.intro lsV_ren (And.intro lsL_ren (And.intro flE_ren (And.intro spV_ren spL_ren))))))) ?_
  refine goG Y6_Zn True.intro ?_
  refine wG Y6_Zn True.intro ?_
  refine AR.callSP [3] qn True.intro (And.intro enV_id (And.intro enL_id (And.intro byL_id (And.intro lsV_id (And.intro lsL_id (And.intro (@tyV_id) (And.intro flE_id (And.intro spV_id spL_id)))))))) (And.intro enV_ren (And.intro enL_ren (And.intro byL_ren (And.intro lsV_ren (And.intro lsL_ren (And.intro flE_ren (And.intro spV_ren spL_ren))))))) ?_
  refine goG Y6_Zn True.intro ?_
  have hm2 := c_Merge_YZ
  refine AR.callSP [3, 1] hm2 True.intro (And.intro enV_id (And.intro enL_id (And.intro byL_id (And.intro lsV_id (And.intro lsL_id (And.intro (@tyV_id) (And.intro flE_id (And.intro spV_id spL_id)))))))) (And.intro enV_ren (And.intro enL_ren (And.intro byL_ren (And.intro lsV_ren (And.intro lsL_ren (And.intro flE_ren (And.intro spV_ren spL_ren))))))) ?_
  refine goG Y6_Zn True.intro ?_
  refine wG Y6_Zn he ?_
  have h2z := c_Put_Z k v a t
  refine AR.callQP [1] h2z True.intro (And.intro enV_id (And.intro enL_id (And.intro byL_id (And.intro lsV_id (And.intro lsL_id (And.intro (@tyV_id) (And.intro flE_id (And.intro spV_id spL_id)))))))) (And.intro enV_ren (And.intro enL_ren (And.intro byL_ren (And.intro lsV_ren (And.intro lsL_ren (And.intro flE_ren (And.intro spV_ren spL_ren))))))) ?_
  refine goG Y6_Zn True.intro ?_
  have h3z := c_Remove_Z k v a t
  refine AR.callQP [1] h3z True.intro (And.intro enV_id (And.intro enL_id (And.intro byL_id (And.intro lsV_id (And.intro lsL_id (And.intro (@tyV_id) (And.intro flE_id (And.intro spV_id spL_id)))))))) (And.intro enV_ren (And.intro enL_ren (And.intro byL_ren (And.intro lsV_ren (And.intro lsL_ren (And.intro flE_ren (And.intro spV_ren spL_ren))))))) ?_
  refine goG Y6_Zn True.intro ?_
  have h4z := c_Undo_Z
  refine AR.callQP [1] h4z True.intro (And.intro enV_id (And.intro enL_id (And.intro byL_id (And.intro lsV_id (And.intro lsL_id (And.intro (@tyV_id) (And.intro flE_id (And.intro spV_id spL_id)))))))) (And.intro enV_ren (And.intro enL_ren (And.intro byL_ren (And.intro lsV_ren (And.intro lsL_ren (And.intro flE_ren (And.intro spV_ren spL_ren))))))) ?_
  refine goG Y6_Zn True.intro ?_
  have h5z := c_Redo_Z
  refine AR.callQP [1] h5z True.intro (And.intro enV_id (And.intro enL_id (And.intro byL_id (And.intro lsV_id (And.intro lsL_id (And.intro (@tyV_id) (And.intro flE_id (And.intro spV_id spL_id)))))))) (And.intro enV_ren (And.intro enL_ren (And.intro byL_ren (And.intro lsV_ren (And.intro lsL_ren (And.intro flE_ren (And.intro spV_ren spL_ren))))))) ?_
  refine goG Y6_Zn True.intro ?_
  have h6z := c_All_Z
  refine AR.callQP [1] h6z True.intro (And.intro enV_id (And.intro enL_id (And.intro byL_id (And.intro lsV_id (And.intro lsL_id (And.intro (@tyV_id) (And.intro flE_id (And.intro spV_id spL_id)))))))) (And.intro enV_ren (And.intro enL_ren (And.intro byL_ren (And.intro lsV_ren (And.intro lsL_ren (And.intro flE_ren (And.intro spV_ren spL_ren))))))) ?_
  refine goG Y6_Zn True.intro ?_
  have h7z := c_Save_Z
  refine AR.callQP [1] h7z True.intro (And.intro enV_id (And.intro enL_id (And.intro byL_id (And.intro lsV_id (And.intro lsL_id (And.intro (@tyV_id) (And.intro flE_id (And.intro spV_id spL_id)))))))) (And.intro enV_ren (And.intro enL_ren (And.intro byL_ren (And.intro lsV_ren (And.intro lsL_ren (And.intro flE_ren (And.intro spV_ren spL_ren))))))) ?_
  refine goG Y6_Zn True.intro ?_
  refine wG Y6_Zn (And.intro w1 w2) ?_
  refine ALp.cutP 2 [(1, .pt 0 0), (3, .sl [.im (.pointer none), .pt 1 0] .full), (4, (.im (.int .i64 (2))))] [.box [(.im (.int .i64 (k))), (.im (.int .i64 (v))), (.im (.int .u32 (a))), (.im (.string (bA (t))))], .box [(.im (.bool ((false)))), .sl [] .nl, .sl [] .nl, .sl [] .nl]] (And.intro enV_id (And.intro enL_id (And.intro byL_id (And.intro lsV_id (And.intro lsL_id (And.intro (@tyV_id) (And.intro flE_id (And.intro spV_id spL_id)))))))) ?_
  clear hm1 hm2
  refine ALp.round ?_
  refine wG Y6_Zn True.intro ?_
  refine AR.callP qx True.intro (And.intro enV_id (And.intro enL_id (And.intro byL_id (And.intro lsV_id (And.intro lsL_id (And.intro (@tyV_id) (And.intro flE_id (And.intro spV_id spL_id)))))))) ?_
  refine goG Y6_Zn True.intro ?_
  refine wG Y6_Zn True.intro ?_
  exact Fin.oneP
end Go.Proofs.YtianekkfehoedaaDoor

