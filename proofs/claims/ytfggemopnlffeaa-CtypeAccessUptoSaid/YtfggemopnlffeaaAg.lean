/- What the tables say of the types that the program uses. -/
import Derived.Test.YtfggemopnlffeaaLd
import Derived.Test.YtfggemopnlffeaaChecked
namespace Go.Proofs.Ytfggemopnlffeaa
set_option linter.unusedSimpArgs false
set_option linter.unusedVariables false
set_option linter.unnecessarySimpa false
open Go.RowKit
theorem F_ag_102 : agOf Try.prog 102 = some false := by kernel_rfl
theorem F_ag_104 : agOf Try.prog 104 = some true := by kernel_rfl
theorem F_ag_117 : agOf Try.prog 117 = some true := by kernel_rfl
theorem F_ag_22 : agOf Try.prog 22 = some false := by kernel_rfl
theorem F_ag_23 : agOf Try.prog 23 = some false := by kernel_rfl
theorem F_ag_25 : agOf Try.prog 25 = some true := by kernel_rfl
theorem F_ag_3 : agOf Try.prog 3 = some false := by kernel_rfl
theorem F_ag_31 : agOf Try.prog 31 = some false := by kernel_rfl
theorem F_ag_32 : agOf Try.prog 32 = some false := by kernel_rfl
theorem F_ag_34 : agOf Try.prog 34 = some true := by kernel_rfl
theorem F_ag_35 : agOf Try.prog 35 = some false := by kernel_rfl
theorem F_ag_4 : agOf Try.prog 4 = some false := by kernel_rfl
theorem F_ag_44 : agOf Try.prog 44 = some true := by kernel_rfl
theorem F_ag_48 : agOf Try.prog 48 = some false := by kernel_rfl
theorem F_ag_49 : agOf Try.prog 49 = some false := by kernel_rfl
theorem F_ag_51 : agOf Try.prog 51 = some true := by kernel_rfl
theorem F_ag_55 : agOf Try.prog 55 = some false := by kernel_rfl
theorem F_ag_57 : agOf Try.prog 57 = some true := by kernel_rfl
theorem F_ag_59 : agOf Try.prog 59 = some true := by kernel_rfl
theorem F_ag_75 : agOf Try.prog 75 = some false := by kernel_rfl
theorem F_ag_76 : agOf Try.prog 76 = some false := by kernel_rfl
theorem F_ag_82 : agOf Try.prog 82 = some false := by kernel_rfl
theorem F_ag_9 : agOf Try.prog 9 = some false := by kernel_rfl
theorem F_ag_97 : agOf Try.prog 97 = some false := by kernel_rfl
theorem F_ag_99 : agOf Try.prog 99 = some true := by kernel_rfl
theorem F_al_104 : alOf Try.prog 104 = some [.im (.string ByteArray.empty), .im (.int .u32 0), .sl [] .nl, .im (.bool false), .im (.bool false)] := by kernel_rfl
theorem F_al_115 : alOf Try.prog 115 = some [.im .nilFunc, .sl [] .nl, .sl [] .nl, .sl [] .nl] := by kernel_rfl
theorem F_al_117 : alOf Try.prog 117 = some [.im (.int .i64 0), .im (.int .i64 0), .im (.string ByteArray.empty), .sl [] .nl, .sl [] .nl, .sl [] .nl, .sl [] .nl, .im (.bool false)] := by kernel_rfl
theorem F_al_25 : alOf Try.prog 25 = some [.im (.int .i64 0), .im (.int .i64 0), .im (.int .i64 0), .sl [] .nl, .sl [] .nl] := by kernel_rfl
theorem F_al_34 : alOf Try.prog 34 = some [.im (.int .i64 0), .im (.int .u32 0), .im (.string ByteArray.empty), .im (.int .i64 0), .sl [] .nl] := by kernel_rfl
theorem F_al_35 : alOf Try.prog 35 = some [.sl [] .nl] := by kernel_rfl
theorem F_al_4 : alOf Try.prog 4 = some [.im (.bool false)] := by kernel_rfl
theorem F_al_44 : alOf Try.prog 44 = some [.im (.string ByteArray.empty), .im (.int .i64 0), .im (.int .i64 0), .im (.int .i64 0), .sl [] .nl, .sl [] .nl] := by kernel_rfl
theorem F_al_55 : alOf Try.prog 55 = some [.sl [] .nl] := by kernel_rfl
theorem F_al_57 : alOf Try.prog 57 = some [.im (.string ByteArray.empty), .sl [] .nl, .sl [] .nl] := by kernel_rfl
theorem F_al_59 : alOf Try.prog 59 = some [.im (.int .i64 0), .im (.int .i64 0), .im (.int .i64 0), .im (.int .i64 0), .sl [] .nl, .sl [] .nl] := by kernel_rfl
theorem F_al_80 : alOf Try.prog 80 = some [.im (.int .i64 0), .im (.int .i64 0)] := by kernel_rfl
theorem F_al_82 : alOf Try.prog 82 = some [.im .nilFunc] := by kernel_rfl
theorem F_al_9 : alOf Try.prog 9 = some [.im (.string ByteArray.empty)] := by kernel_rfl
theorem F_al_97 : alOf Try.prog 97 = some [.sl [] .nl] := by kernel_rfl
theorem F_al_99 : alOf Try.prog 99 = some [.im (.int .i64 0), .im (.int .i64 0), .im (.string ByteArray.empty), .sl [] .nl, .sl [] .nl, .sl [] .nl, .sl [] .nl] := by kernel_rfl
theorem F_by_117 : byOf Try.prog 117 = some 136 := by kernel_rfl
theorem F_by_25 : byOf Try.prog 25 = some 72 := by kernel_rfl
theorem F_by_44 : byOf Try.prog 44 = some 88 := by kernel_rfl
theorem F_by_55 : byOf Try.prog 55 = some 24 := by kernel_rfl
theorem F_by_59 : byOf Try.prog 59 = some 80 := by kernel_rfl
theorem F_by_9 : byOf Try.prog 9 = some 16 := by kernel_rfl
theorem F_el_102 : elOf Try.prog 102 = some 5 := by kernel_rfl
theorem F_el_110 : elOf Try.prog 110 = some 117 := by kernel_rfl
theorem F_el_132 : elOf Try.prog 132 = some 35 := by kernel_rfl
theorem F_el_142 : elOf Try.prog 142 = some 97 := by kernel_rfl
theorem F_el_22 : elOf Try.prog 22 = some 25 := by kernel_rfl
theorem F_el_23 : elOf Try.prog 23 = some 59 := by kernel_rfl
theorem F_el_32 : elOf Try.prog 32 = some 34 := by kernel_rfl
theorem F_el_35 : elOf Try.prog 35 = some 44 := by kernel_rfl
theorem F_el_48 : elOf Try.prog 48 = some 104 := by kernel_rfl
theorem F_el_49 : elOf Try.prog 49 = some 57 := by kernel_rfl
theorem F_el_55 : elOf Try.prog 55 = some 99 := by kernel_rfl
theorem F_el_75 : elOf Try.prog 75 = some 9 := by kernel_rfl
theorem F_el_97 : elOf Try.prog 97 = some 55 := by kernel_rfl
theorem F_eq_80 : eqK Try.prog 80 = some [(0, 0), (1, 0)] := by kernel_rfl
theorem F_fl_104_0 : flOf Try.prog 104 0 = some (0, 9) := by kernel_rfl
theorem F_fl_104_2 : flOf Try.prog 104 2 = some (2, 102) := by kernel_rfl
theorem F_fl_115_0 : flOf Try.prog 115 0 = some (0, 76) := by kernel_rfl
theorem F_fl_115_1 : flOf Try.prog 115 1 = some (1, 75) := by kernel_rfl
theorem F_fl_115_2 : flOf Try.prog 115 2 = some (2, 75) := by kernel_rfl
theorem F_fl_115_3 : flOf Try.prog 115 3 = some (3, 75) := by kernel_rfl
theorem F_fl_117_0 : flOf Try.prog 117 0 = some (0, 99) := by kernel_rfl
theorem F_fl_117_1 : flOf Try.prog 117 1 = some (7, 4) := by kernel_rfl
theorem F_fl_25_0 : flOf Try.prog 25 0 = some (0, 3) := by kernel_rfl
theorem F_fl_25_1 : flOf Try.prog 25 1 = some (1, 3) := by kernel_rfl
theorem F_fl_25_2 : flOf Try.prog 25 2 = some (2, 3) := by kernel_rfl
theorem F_fl_25_3 : flOf Try.prog 25 3 = some (3, 22) := by kernel_rfl
theorem F_fl_25_4 : flOf Try.prog 25 4 = some (4, 23) := by kernel_rfl
theorem F_fl_34_0 : flOf Try.prog 34 0 = some (0, 3) := by kernel_rfl
theorem F_fl_34_1 : flOf Try.prog 34 1 = some (1, 31) := by kernel_rfl
theorem F_fl_34_2 : flOf Try.prog 34 2 = some (2, 9) := by kernel_rfl
theorem F_fl_34_3 : flOf Try.prog 34 3 = some (3, 3) := by kernel_rfl
theorem F_fl_34_4 : flOf Try.prog 34 4 = some (4, 32) := by kernel_rfl
theorem F_fl_44_0 : flOf Try.prog 44 0 = some (0, 9) := by kernel_rfl
theorem F_fl_44_1 : flOf Try.prog 44 1 = some (1, 25) := by kernel_rfl
theorem F_fl_51_0 : flOf Try.prog 51 0 = some (0, 35) := by kernel_rfl
theorem F_fl_51_1 : flOf Try.prog 51 1 = some (1, 48) := by kernel_rfl
theorem F_fl_51_2 : flOf Try.prog 51 2 = some (2, 49) := by kernel_rfl
theorem F_fl_57_0 : flOf Try.prog 57 0 = some (0, 9) := by kernel_rfl
theorem F_fl_57_1 : flOf Try.prog 57 1 = some (1, 35) := by kernel_rfl
theorem F_fl_57_2 : flOf Try.prog 57 2 = some (2, 55) := by kernel_rfl
theorem F_fl_59_0 : flOf Try.prog 59 0 = some (0, 3) := by kernel_rfl
theorem F_fl_59_1 : flOf Try.prog 59 1 = some (1, 25) := by kernel_rfl
theorem F_fl_99_0 : flOf Try.prog 99 0 = some (0, 3) := by kernel_rfl
theorem F_fl_99_1 : flOf Try.prog 99 1 = some (1, 3) := by kernel_rfl
theorem F_fl_99_2 : flOf Try.prog 99 2 = some (2, 9) := by kernel_rfl
theorem F_fl_99_3 : flOf Try.prog 99 3 = some (3, 32) := by kernel_rfl
theorem F_fl_99_4 : flOf Try.prog 99 4 = some (4, 55) := by kernel_rfl
theorem F_fl_99_5 : flOf Try.prog 99 5 = some (5, 55) := by kernel_rfl
theorem F_fl_99_6 : flOf Try.prog 99 6 = some (6, 97) := by kernel_rfl
theorem F_in_21 : inOf Try.prog 21 = some .i32 := by kernel_rfl
theorem F_in_3 : inOf Try.prog 3 = some .i64 := by kernel_rfl
theorem F_in_31 : inOf Try.prog 31 = some .u32 := by kernel_rfl
theorem F_in_5 : inOf Try.prog 5 = some .u8 := by kernel_rfl
theorem F_st_115 : stOf Try.prog 115 = some [(0, 1), (1, 1), (2, 1), (3, 1)] := by kernel_rfl
theorem F_st_117 : stOf Try.prog 117 = some [(0, 7), (7, 1)] := by kernel_rfl
theorem F_st_25 : stOf Try.prog 25 = some [(0, 1), (1, 1), (2, 1), (3, 1), (4, 1)] := by kernel_rfl
theorem F_st_34 : stOf Try.prog 34 = some [(0, 1), (1, 1), (2, 1), (3, 1), (4, 1)] := by kernel_rfl
theorem F_st_44 : stOf Try.prog 44 = some [(0, 1), (1, 5)] := by kernel_rfl
theorem F_st_59 : stOf Try.prog 59 = some [(0, 1), (1, 5)] := by kernel_rfl
theorem F_st_80 : stOf Try.prog 80 = some [(0, 1), (1, 1)] := by kernel_rfl
theorem F_sz_102 : szOf Try.prog 102 = some 1 := by kernel_rfl
theorem F_sz_104 : szOf Try.prog 104 = some 5 := by kernel_rfl
theorem F_sz_117 : szOf Try.prog 117 = some 8 := by kernel_rfl
theorem F_sz_22 : szOf Try.prog 22 = some 1 := by kernel_rfl
theorem F_sz_23 : szOf Try.prog 23 = some 1 := by kernel_rfl
theorem F_sz_25 : szOf Try.prog 25 = some 5 := by kernel_rfl
theorem F_sz_3 : szOf Try.prog 3 = some 1 := by kernel_rfl
theorem F_sz_31 : szOf Try.prog 31 = some 1 := by kernel_rfl
theorem F_sz_32 : szOf Try.prog 32 = some 1 := by kernel_rfl
theorem F_sz_34 : szOf Try.prog 34 = some 5 := by kernel_rfl
theorem F_sz_35 : szOf Try.prog 35 = some 1 := by kernel_rfl
theorem F_sz_4 : szOf Try.prog 4 = some 1 := by kernel_rfl
theorem F_sz_44 : szOf Try.prog 44 = some 6 := by kernel_rfl
theorem F_sz_48 : szOf Try.prog 48 = some 1 := by kernel_rfl
theorem F_sz_49 : szOf Try.prog 49 = some 1 := by kernel_rfl
theorem F_sz_5 : szOf Try.prog 5 = some 1 := by kernel_rfl
theorem F_sz_51 : szOf Try.prog 51 = some 3 := by kernel_rfl
theorem F_sz_55 : szOf Try.prog 55 = some 1 := by kernel_rfl
theorem F_sz_57 : szOf Try.prog 57 = some 3 := by kernel_rfl
theorem F_sz_59 : szOf Try.prog 59 = some 6 := by kernel_rfl
theorem F_sz_75 : szOf Try.prog 75 = some 1 := by kernel_rfl
theorem F_sz_76 : szOf Try.prog 76 = some 1 := by kernel_rfl
theorem F_sz_82 : szOf Try.prog 82 = some 1 := by kernel_rfl
theorem F_sz_9 : szOf Try.prog 9 = some 1 := by kernel_rfl
theorem F_sz_97 : szOf Try.prog 97 = some 1 := by kernel_rfl
theorem F_sz_99 : szOf Try.prog 99 = some 7 := by kernel_rfl
theorem F_un_21 : Try.prog.underlying 21 = some (.int .i32) := by kernel_rfl
theorem F_un_3 : Try.prog.underlying 3 = some (.int .i64) := by kernel_rfl
theorem F_un_31 : Try.prog.underlying 31 = some (.int .u32) := by kernel_rfl
theorem F_un_35 : Try.prog.underlying 35 = some (.slice 44) := by kernel_rfl
theorem F_un_4 : Try.prog.underlying 4 = some (.bool) := by kernel_rfl
theorem F_un_48 : Try.prog.underlying 48 = some (.slice 104) := by kernel_rfl
theorem F_un_5 : Try.prog.underlying 5 = some (.int .u8) := by kernel_rfl
theorem F_un_9 : Try.prog.underlying 9 = some (.string) := by kernel_rfl
theorem F_un_97 : Try.prog.underlying 97 = some (.slice 55) := by kernel_rfl
end Go.Proofs.Ytfggemopnlffeaa
