import Derived.Test.YtfggemopnlffeaaGreatLd
import Derived.Test.YtfggemopnlffeaaGreatChecked
namespace Go.Proofs.YtfggemopnlffeaaGreat
set_option linter.unusedSimpArgs false
open Go.RowKit
theorem F_ag_104 : agOf Tryz.prog 104 = some true := by kernel_rfl
theorem F_ag_22 : agOf Tryz.prog 22 = some false := by kernel_rfl
theorem F_ag_23 : agOf Tryz.prog 23 = some false := by kernel_rfl
theorem F_ag_24 : agOf Tryz.prog 24 = some false := by kernel_rfl
theorem F_ag_26 : agOf Tryz.prog 26 = some true := by kernel_rfl
theorem F_ag_29 : agOf Tryz.prog 29 = some false := by kernel_rfl
theorem F_ag_3 : agOf Tryz.prog 3 = some false := by kernel_rfl
theorem F_ag_35 : agOf Tryz.prog 35 = some false := by kernel_rfl
theorem F_ag_37 : agOf Tryz.prog 37 = some true := by kernel_rfl
theorem F_ag_38 : agOf Tryz.prog 38 = some false := by kernel_rfl
theorem F_ag_39 : agOf Tryz.prog 39 = some false := by kernel_rfl
theorem F_ag_4 : agOf Tryz.prog 4 = some false := by kernel_rfl
theorem F_ag_41 : agOf Tryz.prog 41 = some true := by kernel_rfl
theorem F_ag_44 : agOf Tryz.prog 44 = some true := by kernel_rfl
theorem F_ag_45 : agOf Tryz.prog 45 = some false := by kernel_rfl
theorem F_ag_46 : agOf Tryz.prog 46 = some false := by kernel_rfl
theorem F_ag_48 : agOf Tryz.prog 48 = some true := by kernel_rfl
theorem F_ag_57 : agOf Tryz.prog 57 = some false := by kernel_rfl
theorem F_ag_59 : agOf Tryz.prog 59 = some true := by kernel_rfl
theorem F_ag_64 : agOf Tryz.prog 64 = some true := by kernel_rfl
theorem F_ag_71 : agOf Tryz.prog 71 = some false := by kernel_rfl
theorem F_ag_81 : agOf Tryz.prog 81 = some false := by kernel_rfl
theorem F_ag_89 : agOf Tryz.prog 89 = some false := by kernel_rfl
theorem F_ag_9 : agOf Tryz.prog 9 = some false := by kernel_rfl
theorem F_ag_91 : agOf Tryz.prog 91 = some true := by kernel_rfl
theorem F_al_102 : alOf Tryz.prog 102 = some [.im .nilFunc, .sl [] .nl, .sl [] .nl, .sl [] .nl] := by kernel_rfl
theorem F_al_104 : alOf Tryz.prog 104 = some [.im (.int .i64 0), .im (.int .i64 0), .im (.string ByteArray.empty), .sl [] .nl, .sl [] .nl, .sl [] .nl, .sl [] .nl, .im (.bool false)] := by kernel_rfl
theorem F_al_130 : alOf Tryz.prog 130 = some [.im (.int .i64 0), .im (.int .i64 0), .im (.string ByteArray.empty), .sl [] .nl, .sl [] .nl, .sl [] .nl, .sl [] .nl, .im (.bool false)] := by kernel_rfl
theorem F_al_22 : alOf Tryz.prog 22 = some [.sl [] .nl] := by kernel_rfl
theorem F_al_35 : alOf Tryz.prog 35 = some [.sl [] .nl] := by kernel_rfl
theorem F_al_37 : alOf Tryz.prog 37 = some [.im (.string ByteArray.empty), .sl [] .nl, .sl [] .nl] := by kernel_rfl
theorem F_al_4 : alOf Tryz.prog 4 = some [.im (.bool false)] := by kernel_rfl
theorem F_al_41 : alOf Tryz.prog 41 = some [.im (.int .i64 0), .im (.int .i64 0), .im (.int .i64 0), .sl [] .nl, .sl [] .nl] := by kernel_rfl
theorem F_al_44 : alOf Tryz.prog 44 = some [.im (.string ByteArray.empty), .im (.int .i64 0), .im (.int .i64 0), .im (.int .i64 0), .sl [] .nl, .sl [] .nl] := by kernel_rfl
theorem F_al_48 : alOf Tryz.prog 48 = some [.im (.int .i64 0), .im (.int .u32 0), .im (.string ByteArray.empty), .im (.int .i64 0), .sl [] .nl] := by kernel_rfl
theorem F_al_57 : alOf Tryz.prog 57 = some [.sl [] .nl] := by kernel_rfl
theorem F_al_59 : alOf Tryz.prog 59 = some [.im (.int .i64 0), .im (.int .i64 0), .im (.string ByteArray.empty), .sl [] .nl, .sl [] .nl, .sl [] .nl, .sl [] .nl] := by kernel_rfl
theorem F_al_64 : alOf Tryz.prog 64 = some [.im (.int .i64 0), .im (.int .i64 0), .im (.int .i64 0), .im (.int .i64 0), .sl [] .nl, .sl [] .nl] := by kernel_rfl
theorem F_al_81 : alOf Tryz.prog 81 = some [.im .nilFunc] := by kernel_rfl
theorem F_al_86 : alOf Tryz.prog 86 = some [.im (.int .i64 0), .im (.int .i64 0)] := by kernel_rfl
theorem F_al_9 : alOf Tryz.prog 9 = some [.im (.string ByteArray.empty)] := by kernel_rfl
theorem F_al_91 : alOf Tryz.prog 91 = some [.im (.string ByteArray.empty), .im (.int .u32 0), .sl [] .nl, .im (.bool false), .im (.bool false)] := by kernel_rfl
theorem F_by_104 : byOf Tryz.prog 104 = some 136 := by kernel_rfl
theorem F_by_130 : byOf Tryz.prog 130 = some 136 := by kernel_rfl
theorem F_by_35 : byOf Tryz.prog 35 = some 24 := by kernel_rfl
theorem F_by_41 : byOf Tryz.prog 41 = some 72 := by kernel_rfl
theorem F_by_44 : byOf Tryz.prog 44 = some 88 := by kernel_rfl
theorem F_by_59 : byOf Tryz.prog 59 = some 128 := by kernel_rfl
theorem F_by_64 : byOf Tryz.prog 64 = some 80 := by kernel_rfl
theorem F_by_9 : byOf Tryz.prog 9 = some 16 := by kernel_rfl
theorem F_el_108 : elOf Tryz.prog 108 = some 130 := by kernel_rfl
theorem F_el_126 : elOf Tryz.prog 126 = some 22 := by kernel_rfl
theorem F_el_147 : elOf Tryz.prog 147 = some 57 := by kernel_rfl
theorem F_el_22 : elOf Tryz.prog 22 = some 44 := by kernel_rfl
theorem F_el_23 : elOf Tryz.prog 23 = some 91 := by kernel_rfl
theorem F_el_24 : elOf Tryz.prog 24 = some 37 := by kernel_rfl
theorem F_el_29 : elOf Tryz.prog 29 = some 9 := by kernel_rfl
theorem F_el_35 : elOf Tryz.prog 35 = some 59 := by kernel_rfl
theorem F_el_38 : elOf Tryz.prog 38 = some 41 := by kernel_rfl
theorem F_el_39 : elOf Tryz.prog 39 = some 64 := by kernel_rfl
theorem F_el_46 : elOf Tryz.prog 46 = some 48 := by kernel_rfl
theorem F_el_57 : elOf Tryz.prog 57 = some 35 := by kernel_rfl
theorem F_el_89 : elOf Tryz.prog 89 = some 5 := by kernel_rfl
theorem F_el_97 : elOf Tryz.prog 97 = some 104 := by kernel_rfl
theorem F_eq_86 : eqK Tryz.prog 86 = some [(0, 0), (1, 0)] := by kernel_rfl
theorem F_fl_102_0 : flOf Tryz.prog 102 0 = some (0, 71) := by kernel_rfl
theorem F_fl_102_1 : flOf Tryz.prog 102 1 = some (1, 29) := by kernel_rfl
theorem F_fl_102_2 : flOf Tryz.prog 102 2 = some (2, 29) := by kernel_rfl
theorem F_fl_102_3 : flOf Tryz.prog 102 3 = some (3, 29) := by kernel_rfl
theorem F_fl_104_0 : flOf Tryz.prog 104 0 = some (0, 59) := by kernel_rfl
theorem F_fl_104_1 : flOf Tryz.prog 104 1 = some (7, 4) := by kernel_rfl
theorem F_fl_130_0 : flOf Tryz.prog 130 0 = some (0, 59) := by kernel_rfl
theorem F_fl_130_1 : flOf Tryz.prog 130 1 = some (7, 4) := by kernel_rfl
theorem F_fl_26_0 : flOf Tryz.prog 26 0 = some (0, 22) := by kernel_rfl
theorem F_fl_26_1 : flOf Tryz.prog 26 1 = some (1, 23) := by kernel_rfl
theorem F_fl_26_2 : flOf Tryz.prog 26 2 = some (2, 24) := by kernel_rfl
theorem F_fl_37_0 : flOf Tryz.prog 37 0 = some (0, 9) := by kernel_rfl
theorem F_fl_37_1 : flOf Tryz.prog 37 1 = some (1, 22) := by kernel_rfl
theorem F_fl_37_2 : flOf Tryz.prog 37 2 = some (2, 35) := by kernel_rfl
theorem F_fl_41_0 : flOf Tryz.prog 41 0 = some (0, 3) := by kernel_rfl
theorem F_fl_41_1 : flOf Tryz.prog 41 1 = some (1, 3) := by kernel_rfl
theorem F_fl_41_2 : flOf Tryz.prog 41 2 = some (2, 3) := by kernel_rfl
theorem F_fl_41_3 : flOf Tryz.prog 41 3 = some (3, 38) := by kernel_rfl
theorem F_fl_41_4 : flOf Tryz.prog 41 4 = some (4, 39) := by kernel_rfl
theorem F_fl_44_0 : flOf Tryz.prog 44 0 = some (0, 9) := by kernel_rfl
theorem F_fl_44_1 : flOf Tryz.prog 44 1 = some (1, 41) := by kernel_rfl
theorem F_fl_48_0 : flOf Tryz.prog 48 0 = some (0, 3) := by kernel_rfl
theorem F_fl_48_1 : flOf Tryz.prog 48 1 = some (1, 45) := by kernel_rfl
theorem F_fl_48_2 : flOf Tryz.prog 48 2 = some (2, 9) := by kernel_rfl
theorem F_fl_48_3 : flOf Tryz.prog 48 3 = some (3, 3) := by kernel_rfl
theorem F_fl_48_4 : flOf Tryz.prog 48 4 = some (4, 46) := by kernel_rfl
theorem F_fl_59_0 : flOf Tryz.prog 59 0 = some (0, 3) := by kernel_rfl
theorem F_fl_59_1 : flOf Tryz.prog 59 1 = some (1, 3) := by kernel_rfl
theorem F_fl_59_2 : flOf Tryz.prog 59 2 = some (2, 9) := by kernel_rfl
theorem F_fl_59_3 : flOf Tryz.prog 59 3 = some (3, 46) := by kernel_rfl
theorem F_fl_59_4 : flOf Tryz.prog 59 4 = some (4, 35) := by kernel_rfl
theorem F_fl_59_5 : flOf Tryz.prog 59 5 = some (5, 35) := by kernel_rfl
theorem F_fl_59_6 : flOf Tryz.prog 59 6 = some (6, 57) := by kernel_rfl
theorem F_fl_64_0 : flOf Tryz.prog 64 0 = some (0, 3) := by kernel_rfl
theorem F_fl_64_1 : flOf Tryz.prog 64 1 = some (1, 41) := by kernel_rfl
theorem F_fl_91_0 : flOf Tryz.prog 91 0 = some (0, 9) := by kernel_rfl
theorem F_fl_91_2 : flOf Tryz.prog 91 2 = some (2, 89) := by kernel_rfl
theorem F_in_21 : inOf Tryz.prog 21 = some .i32 := by kernel_rfl
theorem F_in_3 : inOf Tryz.prog 3 = some .i64 := by kernel_rfl
theorem F_in_45 : inOf Tryz.prog 45 = some .u32 := by kernel_rfl
theorem F_in_5 : inOf Tryz.prog 5 = some .u8 := by kernel_rfl
theorem F_st_102 : stOf Tryz.prog 102 = some [(0, 1), (1, 1), (2, 1), (3, 1)] := by kernel_rfl
theorem F_st_104 : stOf Tryz.prog 104 = some [(0, 7), (7, 1)] := by kernel_rfl
theorem F_st_130 : stOf Tryz.prog 130 = some [(0, 7), (7, 1)] := by kernel_rfl
theorem F_st_41 : stOf Tryz.prog 41 = some [(0, 1), (1, 1), (2, 1), (3, 1), (4, 1)] := by kernel_rfl
theorem F_st_44 : stOf Tryz.prog 44 = some [(0, 1), (1, 5)] := by kernel_rfl
theorem F_st_48 : stOf Tryz.prog 48 = some [(0, 1), (1, 1), (2, 1), (3, 1), (4, 1)] := by kernel_rfl
theorem F_st_64 : stOf Tryz.prog 64 = some [(0, 1), (1, 5)] := by kernel_rfl
theorem F_st_86 : stOf Tryz.prog 86 = some [(0, 1), (1, 1)] := by kernel_rfl
theorem F_sz_104 : szOf Tryz.prog 104 = some 8 := by kernel_rfl
theorem F_sz_130 : szOf Tryz.prog 130 = some 8 := by kernel_rfl
theorem F_sz_22 : szOf Tryz.prog 22 = some 1 := by kernel_rfl
theorem F_sz_23 : szOf Tryz.prog 23 = some 1 := by kernel_rfl
theorem F_sz_24 : szOf Tryz.prog 24 = some 1 := by kernel_rfl
theorem F_sz_26 : szOf Tryz.prog 26 = some 3 := by kernel_rfl
theorem F_sz_29 : szOf Tryz.prog 29 = some 1 := by kernel_rfl
theorem F_sz_3 : szOf Tryz.prog 3 = some 1 := by kernel_rfl
theorem F_sz_35 : szOf Tryz.prog 35 = some 1 := by kernel_rfl
theorem F_sz_37 : szOf Tryz.prog 37 = some 3 := by kernel_rfl
theorem F_sz_38 : szOf Tryz.prog 38 = some 1 := by kernel_rfl
theorem F_sz_39 : szOf Tryz.prog 39 = some 1 := by kernel_rfl
theorem F_sz_4 : szOf Tryz.prog 4 = some 1 := by kernel_rfl
theorem F_sz_41 : szOf Tryz.prog 41 = some 5 := by kernel_rfl
theorem F_sz_44 : szOf Tryz.prog 44 = some 6 := by kernel_rfl
theorem F_sz_45 : szOf Tryz.prog 45 = some 1 := by kernel_rfl
theorem F_sz_46 : szOf Tryz.prog 46 = some 1 := by kernel_rfl
theorem F_sz_48 : szOf Tryz.prog 48 = some 5 := by kernel_rfl
theorem F_sz_5 : szOf Tryz.prog 5 = some 1 := by kernel_rfl
theorem F_sz_57 : szOf Tryz.prog 57 = some 1 := by kernel_rfl
theorem F_sz_59 : szOf Tryz.prog 59 = some 7 := by kernel_rfl
theorem F_sz_64 : szOf Tryz.prog 64 = some 6 := by kernel_rfl
theorem F_sz_71 : szOf Tryz.prog 71 = some 1 := by kernel_rfl
theorem F_sz_81 : szOf Tryz.prog 81 = some 1 := by kernel_rfl
theorem F_sz_89 : szOf Tryz.prog 89 = some 1 := by kernel_rfl
theorem F_sz_9 : szOf Tryz.prog 9 = some 1 := by kernel_rfl
theorem F_sz_91 : szOf Tryz.prog 91 = some 5 := by kernel_rfl
theorem F_un_21 : Tryz.prog.underlying 21 = some (.int .i32) := by kernel_rfl
theorem F_un_22 : Tryz.prog.underlying 22 = some (.slice 44) := by kernel_rfl
theorem F_un_23 : Tryz.prog.underlying 23 = some (.slice 91) := by kernel_rfl
theorem F_un_3 : Tryz.prog.underlying 3 = some (.int .i64) := by kernel_rfl
theorem F_un_45 : Tryz.prog.underlying 45 = some (.int .u32) := by kernel_rfl
theorem F_un_5 : Tryz.prog.underlying 5 = some (.int .u8) := by kernel_rfl
theorem F_un_57 : Tryz.prog.underlying 57 = some (.slice 35) := by kernel_rfl
theorem F_un_9 : Tryz.prog.underlying 9 = some (.string) := by kernel_rfl
end Go.Proofs.YtfggemopnlffeaaGreat
