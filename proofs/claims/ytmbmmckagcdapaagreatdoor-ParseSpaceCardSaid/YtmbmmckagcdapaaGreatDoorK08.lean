import Derived.Test.YtmbmmckagcdapaaGreatDoorChecked
import Derived.Test.YtmbmmckagcdapaaGreatDoorK06
set_option linter.unusedSimpArgs false
set_option linter.unusedVariables false
set_option linter.unnecessarySimpa false
namespace Go.Proofs.YtmbmmckagcdapaaGreatDoor
open Go.RowKit
theorem F_ag_122 : agOf Tryz.prog 122 = some true := by kernel_rfl
theorem F_ag_163 : agOf Tryz.prog 163 = some false := by kernel_rfl
theorem F_ag_165 : agOf Tryz.prog 165 = some true := by kernel_rfl
theorem F_ag_167 : agOf Tryz.prog 167 = some true := by kernel_rfl
theorem F_ag_218 : agOf Tryz.prog 218 = some true := by kernel_rfl
theorem F_ag_23 : agOf Tryz.prog 23 = some false := by kernel_rfl
theorem F_ag_24 : agOf Tryz.prog 24 = some false := by kernel_rfl
theorem F_ag_25 : agOf Tryz.prog 25 = some false := by kernel_rfl
theorem F_ag_27 : agOf Tryz.prog 27 = some true := by kernel_rfl
theorem F_ag_28 : agOf Tryz.prog 28 = some false := by kernel_rfl
theorem F_ag_3 : agOf Tryz.prog 3 = some false := by kernel_rfl
theorem F_ag_34 : agOf Tryz.prog 34 = some false := by kernel_rfl
theorem F_ag_35 : agOf Tryz.prog 35 = some false := by kernel_rfl
theorem F_ag_37 : agOf Tryz.prog 37 = some true := by kernel_rfl
theorem F_ag_4 : agOf Tryz.prog 4 = some false := by kernel_rfl
theorem F_ag_43 : agOf Tryz.prog 43 = some false := by kernel_rfl
theorem F_ag_44 : agOf Tryz.prog 44 = some false := by kernel_rfl
theorem F_ag_46 : agOf Tryz.prog 46 = some true := by kernel_rfl
theorem F_ag_5 : agOf Tryz.prog 5 = some false := by kernel_rfl
theorem F_ag_52 : agOf Tryz.prog 52 = some false := by kernel_rfl
theorem F_ag_61 : agOf Tryz.prog 61 = some true := by kernel_rfl
theorem F_ag_69 : agOf Tryz.prog 69 = some false := by kernel_rfl
theorem F_ag_76 : agOf Tryz.prog 76 = some true := by kernel_rfl
theorem F_ag_84 : agOf Tryz.prog 84 = some false := by kernel_rfl
theorem F_ag_9 : agOf Tryz.prog 9 = some false := by kernel_rfl
theorem F_ag_91 : agOf Tryz.prog 91 = some false := by kernel_rfl
theorem F_ag_92 : agOf Tryz.prog 92 = some false := by kernel_rfl
theorem F_ag_94 : agOf Tryz.prog 94 = some true := by kernel_rfl
theorem F_ag_96 : agOf Tryz.prog 96 = some true := by kernel_rfl
theorem F_al_120 : alOf Tryz.prog 120 = some [.im (.string ByteArray.empty), .im (.int .i64 0), .im (.int .i64 0), .sl [] .nl] := by kernel_rfl
theorem F_al_122 : alOf Tryz.prog 122 = some [.im (.int .i64 0), .im (.string ByteArray.empty), .im (.int .u32 0), .im (.int .i64 0), .im (.int .i64 0)] := by kernel_rfl
theorem F_al_133 : alOf Tryz.prog 133 = some [.sl [] .nl, .im (.int .i64 0), .im (.int .i64 0)] := by kernel_rfl
theorem F_al_162 : alOf Tryz.prog 162 = some [.im .nilFunc, .sl [] .nl, .sl [] .nl, .sl [] .nl] := by kernel_rfl
theorem F_al_163 : alOf Tryz.prog 163 = some [.sl [] .nl] := by kernel_rfl
theorem F_al_165 : alOf Tryz.prog 165 = some [.im (.int .i64 0), .im (.int .i64 0), .im (.string ByteArray.empty), .sl [] .nl, .sl [] .nl, .sl [] .nl, .sl [] .nl] := by kernel_rfl
theorem F_al_167 : alOf Tryz.prog 167 = some [.im (.int .i64 0), .im (.int .i64 0), .im (.string ByteArray.empty), .sl [] .nl, .sl [] .nl, .sl [] .nl, .sl [] .nl, .im (.bool false)] := by kernel_rfl
theorem F_al_218 : alOf Tryz.prog 218 = some [.im (.int .i64 0), .im (.int .i64 0), .im (.int .i64 0), .im (.int .i64 0), .sl [] .nl, .sl [] .nl] := by kernel_rfl
theorem F_al_23 : alOf Tryz.prog 23 = some [.sl [] .nl] := by kernel_rfl
theorem F_al_254 : alOf Tryz.prog 254 = some [.im (.int .u8 0), .im (.int .u8 0), .im (.int .u8 0), .im (.int .u8 0), .im (.int .u8 0), .im (.int .u8 0), .im (.int .u8 0), .im (.int .u8 0), .im (.int .u8 0), .im (.int .u8 0), .im (.int .u8 0), .im (.int .u8 0), .im (.int .u8 0), .im (.int .u8 0), .im (.int .u8 0), .im (.int .u8 0), .im (.int .u8 0), .im (.int .u8 0), .im (.int .u8 0), .im (.int .u8 0), .im (.int .u8 0), .im (.int .u8 0), .im (.int .u8 0), .im (.int .u8 0)] := by kernel_rfl
theorem F_al_27 : alOf Tryz.prog 27 = some [.sl [] .nl, .sl [] .nl, .sl [] .nl] := by kernel_rfl
theorem F_al_281 : alOf Tryz.prog 281 = some [.im (.int .u8 0), .im (.int .u8 0), .im (.int .u8 0), .im (.int .u8 0), .im (.int .u8 0), .im (.int .u8 0), .im (.int .u8 0), .im (.int .u8 0), .im (.int .u8 0), .im (.int .u8 0), .im (.int .u8 0), .im (.int .u8 0), .im (.int .u8 0), .im (.int .u8 0), .im (.int .u8 0), .im (.int .u8 0), .im (.int .u8 0), .im (.int .u8 0), .im (.int .u8 0), .im (.int .u8 0), .im (.int .u8 0), .im (.int .u8 0), .im (.int .u8 0), .im (.int .u8 0), .im (.int .u8 0), .im (.int .u8 0), .im (.int .u8 0), .im (.int .u8 0), .im (.int .u8 0), .im (.int .u8 0), .im (.int .u8 0), .im (.int .u8 0), .im (.int .u8 0), .im (.int .u8 0), .im (.int .u8 0), .im (.int .u8 0), .im (.int .u8 0), .im (.int .u8 0), .im (.int .u8 0), .im (.int .u8 0), .im (.int .u8 0), .im (.int .u8 0), .im (.int .u8 0), .im (.int .u8 0), .im (.int .u8 0), .im (.int .u8 0), .im (.int .u8 0), .im (.int .u8 0), .im (.int .u8 0), .im (.int .u8 0), .im (.int .u8 0), .im (.int .u8 0), .im (.int .u8 0), .im (.int .u8 0), .im (.int .u8 0), .im (.int .u8 0), .im (.int .u8 0), .im (.int .u8 0), .im (.int .u8 0), .im (.int .u8 0), .im (.int .u8 0), .im (.int .u8 0), .im (.int .u8 0), .im (.int .u8 0), .im (.int .u8 0)] := by kernel_rfl
theorem F_al_35 : alOf Tryz.prog 35 = some [.sl [] .nl] := by kernel_rfl
theorem F_al_37 : alOf Tryz.prog 37 = some [.im (.string ByteArray.empty), .sl [] .nl, .sl [] .nl] := by kernel_rfl
theorem F_al_46 : alOf Tryz.prog 46 = some [.im (.int .i64 0), .im (.int .u32 0), .im (.string ByteArray.empty), .im (.int .i64 0), .sl [] .nl] := by kernel_rfl
theorem F_al_5 : alOf Tryz.prog 5 = some [.im (.int .u8 0)] := by kernel_rfl
theorem F_al_61 : alOf Tryz.prog 61 = some [.im (.int .i64 0), .im (.int .i64 0)] := by kernel_rfl
theorem F_al_76 : alOf Tryz.prog 76 = some [.im (.string ByteArray.empty), .im (.int .u32 0), .sl [] .nl, .im (.bool false), .im (.bool false)] := by kernel_rfl
theorem F_al_9 : alOf Tryz.prog 9 = some [.im (.string ByteArray.empty)] := by kernel_rfl
theorem F_al_94 : alOf Tryz.prog 94 = some [.im (.int .i64 0), .im (.int .i64 0), .im (.int .i64 0), .sl [] .nl, .sl [] .nl] := by kernel_rfl
theorem F_al_96 : alOf Tryz.prog 96 = some [.im (.string ByteArray.empty), .im (.int .i64 0), .im (.int .i64 0), .im (.int .i64 0), .sl [] .nl, .sl [] .nl] := by kernel_rfl
theorem F_ar_254 : arOf Tryz.prog 254 = some (24, 5) := by kernel_rfl
theorem F_ar_281 : arOf Tryz.prog 281 = some (65, 5) := by kernel_rfl
theorem F_by_122 : byOf Tryz.prog 122 = some 48 := by kernel_rfl
theorem F_by_165 : byOf Tryz.prog 165 = some 128 := by kernel_rfl
theorem F_by_167 : byOf Tryz.prog 167 = some 136 := by kernel_rfl
theorem F_by_218 : byOf Tryz.prog 218 = some 80 := by kernel_rfl
theorem F_by_35 : byOf Tryz.prog 35 = some 24 := by kernel_rfl
theorem F_by_37 : byOf Tryz.prog 37 = some 64 := by kernel_rfl
theorem F_by_5 : byOf Tryz.prog 5 = some 1 := by kernel_rfl
theorem F_by_76 : byOf Tryz.prog 76 = some 56 := by kernel_rfl
theorem F_by_9 : byOf Tryz.prog 9 = some 16 := by kernel_rfl
theorem F_by_96 : byOf Tryz.prog 96 = some 88 := by kernel_rfl
theorem F_el_157 : elOf Tryz.prog 157 = some 167 := by kernel_rfl
theorem F_el_163 : elOf Tryz.prog 163 = some 35 := by kernel_rfl
theorem F_el_215 : elOf Tryz.prog 215 = some 23 := by kernel_rfl
theorem F_el_23 : elOf Tryz.prog 23 = some 96 := by kernel_rfl
theorem F_el_24 : elOf Tryz.prog 24 = some 76 := by kernel_rfl
theorem F_el_25 : elOf Tryz.prog 25 = some 37 := by kernel_rfl
theorem F_el_283 : elOf Tryz.prog 283 = some 163 := by kernel_rfl
theorem F_el_35 : elOf Tryz.prog 35 = some 165 := by kernel_rfl
theorem F_el_44 : elOf Tryz.prog 44 = some 46 := by kernel_rfl
theorem F_el_52 : elOf Tryz.prog 52 = some 122 := by kernel_rfl
theorem F_el_69 : elOf Tryz.prog 69 = some 5 := by kernel_rfl
theorem F_el_84 : elOf Tryz.prog 84 = some 9 := by kernel_rfl
theorem F_el_91 : elOf Tryz.prog 91 = some 94 := by kernel_rfl
theorem F_el_92 : elOf Tryz.prog 92 = some 218 := by kernel_rfl
theorem F_fl_120_0 : flOf Tryz.prog 120 0 = some (0, 9) := by kernel_rfl
theorem F_fl_120_1 : flOf Tryz.prog 120 1 = some (1, 3) := by kernel_rfl
theorem F_fl_120_2 : flOf Tryz.prog 120 2 = some (2, 3) := by kernel_rfl
theorem F_fl_120_3 : flOf Tryz.prog 120 3 = some (3, 52) := by kernel_rfl
theorem F_fl_122_0 : flOf Tryz.prog 122 0 = some (0, 3) := by kernel_rfl
theorem F_fl_122_1 : flOf Tryz.prog 122 1 = some (1, 9) := by kernel_rfl
theorem F_fl_122_2 : flOf Tryz.prog 122 2 = some (2, 43) := by kernel_rfl
theorem F_fl_122_3 : flOf Tryz.prog 122 3 = some (3, 3) := by kernel_rfl
theorem F_fl_122_4 : flOf Tryz.prog 122 4 = some (4, 3) := by kernel_rfl
theorem F_fl_133_0 : flOf Tryz.prog 133 0 = some (0, 52) := by kernel_rfl
theorem F_fl_133_1 : flOf Tryz.prog 133 1 = some (1, 3) := by kernel_rfl
theorem F_fl_133_2 : flOf Tryz.prog 133 2 = some (2, 3) := by kernel_rfl
theorem F_fl_162_0 : flOf Tryz.prog 162 0 = some (0, 34) := by kernel_rfl
theorem F_fl_162_1 : flOf Tryz.prog 162 1 = some (1, 84) := by kernel_rfl
theorem F_fl_162_2 : flOf Tryz.prog 162 2 = some (2, 84) := by kernel_rfl
theorem F_fl_162_3 : flOf Tryz.prog 162 3 = some (3, 84) := by kernel_rfl
theorem F_fl_165_0 : flOf Tryz.prog 165 0 = some (0, 3) := by kernel_rfl
theorem F_fl_165_1 : flOf Tryz.prog 165 1 = some (1, 3) := by kernel_rfl
theorem F_fl_165_2 : flOf Tryz.prog 165 2 = some (2, 9) := by kernel_rfl
theorem F_fl_165_3 : flOf Tryz.prog 165 3 = some (3, 44) := by kernel_rfl
theorem F_fl_165_4 : flOf Tryz.prog 165 4 = some (4, 35) := by kernel_rfl
theorem F_fl_165_5 : flOf Tryz.prog 165 5 = some (5, 35) := by kernel_rfl
theorem F_fl_165_6 : flOf Tryz.prog 165 6 = some (6, 163) := by kernel_rfl
theorem F_fl_167_0 : flOf Tryz.prog 167 0 = some (0, 165) := by kernel_rfl
theorem F_fl_167_1 : flOf Tryz.prog 167 1 = some (7, 4) := by kernel_rfl
theorem F_fl_218_0 : flOf Tryz.prog 218 0 = some (0, 3) := by kernel_rfl
theorem F_fl_218_1 : flOf Tryz.prog 218 1 = some (1, 94) := by kernel_rfl
theorem F_fl_27_0 : flOf Tryz.prog 27 0 = some (0, 23) := by kernel_rfl
theorem F_fl_27_1 : flOf Tryz.prog 27 1 = some (1, 24) := by kernel_rfl
theorem F_fl_27_2 : flOf Tryz.prog 27 2 = some (2, 25) := by kernel_rfl
theorem F_fl_37_0 : flOf Tryz.prog 37 0 = some (0, 9) := by kernel_rfl
theorem F_fl_37_1 : flOf Tryz.prog 37 1 = some (1, 23) := by kernel_rfl
theorem F_fl_37_2 : flOf Tryz.prog 37 2 = some (2, 35) := by kernel_rfl
theorem F_fl_46_0 : flOf Tryz.prog 46 0 = some (0, 3) := by kernel_rfl
theorem F_fl_46_1 : flOf Tryz.prog 46 1 = some (1, 43) := by kernel_rfl
theorem F_fl_46_2 : flOf Tryz.prog 46 2 = some (2, 9) := by kernel_rfl
theorem F_fl_46_3 : flOf Tryz.prog 46 3 = some (3, 3) := by kernel_rfl
theorem F_fl_46_4 : flOf Tryz.prog 46 4 = some (4, 44) := by kernel_rfl
theorem F_fl_61_0 : flOf Tryz.prog 61 0 = some (0, 3) := by kernel_rfl
theorem F_fl_61_1 : flOf Tryz.prog 61 1 = some (1, 28) := by kernel_rfl
theorem F_fl_76_0 : flOf Tryz.prog 76 0 = some (0, 9) := by kernel_rfl
theorem F_fl_76_1 : flOf Tryz.prog 76 1 = some (1, 43) := by kernel_rfl
theorem F_fl_76_2 : flOf Tryz.prog 76 2 = some (2, 69) := by kernel_rfl
theorem F_fl_76_3 : flOf Tryz.prog 76 3 = some (3, 4) := by kernel_rfl
theorem F_fl_76_4 : flOf Tryz.prog 76 4 = some (4, 4) := by kernel_rfl
theorem F_fl_94_0 : flOf Tryz.prog 94 0 = some (0, 3) := by kernel_rfl
theorem F_fl_94_1 : flOf Tryz.prog 94 1 = some (1, 3) := by kernel_rfl
theorem F_fl_94_2 : flOf Tryz.prog 94 2 = some (2, 3) := by kernel_rfl
theorem F_fl_94_3 : flOf Tryz.prog 94 3 = some (3, 91) := by kernel_rfl
theorem F_fl_94_4 : flOf Tryz.prog 94 4 = some (4, 92) := by kernel_rfl
theorem F_fl_96_0 : flOf Tryz.prog 96 0 = some (0, 9) := by kernel_rfl
theorem F_fl_96_1 : flOf Tryz.prog 96 1 = some (1, 94) := by kernel_rfl
theorem F_in_145 : inOf Tryz.prog 145 = some .u64 := by kernel_rfl
theorem F_in_146 : inOf Tryz.prog 146 = some .u64 := by kernel_rfl
theorem F_in_2 : inOf Tryz.prog 2 = some .i64 := by kernel_rfl
theorem F_in_21 : inOf Tryz.prog 21 = some .i32 := by kernel_rfl
theorem F_in_3 : inOf Tryz.prog 3 = some .i64 := by kernel_rfl
theorem F_in_43 : inOf Tryz.prog 43 = some .u32 := by kernel_rfl
theorem F_in_5 : inOf Tryz.prog 5 = some .u8 := by kernel_rfl
theorem F_in_69 : inOf Tryz.prog 69 = none := by kernel_rfl
theorem F_in_9 : inOf Tryz.prog 9 = none := by kernel_rfl
theorem F_st_120 : stOf Tryz.prog 120 = some [(0, 1), (1, 1), (2, 1), (3, 1)] := by kernel_rfl
theorem F_st_122 : stOf Tryz.prog 122 = some [(0, 1), (1, 1), (2, 1), (3, 1), (4, 1)] := by kernel_rfl
theorem F_st_133 : stOf Tryz.prog 133 = some [(0, 1), (1, 1), (2, 1)] := by kernel_rfl
theorem F_st_162 : stOf Tryz.prog 162 = some [(0, 1), (1, 1), (2, 1), (3, 1)] := by kernel_rfl
theorem F_st_165 : stOf Tryz.prog 165 = some [(0, 1), (1, 1), (2, 1), (3, 1), (4, 1), (5, 1), (6, 1)] := by kernel_rfl
theorem F_st_167 : stOf Tryz.prog 167 = some [(0, 7), (7, 1)] := by kernel_rfl
theorem F_st_218 : stOf Tryz.prog 218 = some [(0, 1), (1, 5)] := by kernel_rfl
theorem F_st_27 : stOf Tryz.prog 27 = some [(0, 1), (1, 1), (2, 1)] := by kernel_rfl
theorem F_st_37 : stOf Tryz.prog 37 = some [(0, 1), (1, 1), (2, 1)] := by kernel_rfl
theorem F_st_46 : stOf Tryz.prog 46 = some [(0, 1), (1, 1), (2, 1), (3, 1), (4, 1)] := by kernel_rfl
theorem F_st_61 : stOf Tryz.prog 61 = some [(0, 1), (1, 1)] := by kernel_rfl
theorem F_st_76 : stOf Tryz.prog 76 = some [(0, 1), (1, 1), (2, 1), (3, 1), (4, 1)] := by kernel_rfl
theorem F_st_94 : stOf Tryz.prog 94 = some [(0, 1), (1, 1), (2, 1), (3, 1), (4, 1)] := by kernel_rfl
theorem F_st_96 : stOf Tryz.prog 96 = some [(0, 1), (1, 5)] := by kernel_rfl
theorem F_sz_122 : szOf Tryz.prog 122 = some 5 := by kernel_rfl
theorem F_sz_163 : szOf Tryz.prog 163 = some 1 := by kernel_rfl
theorem F_sz_165 : szOf Tryz.prog 165 = some 7 := by kernel_rfl
theorem F_sz_167 : szOf Tryz.prog 167 = some 8 := by kernel_rfl
theorem F_sz_218 : szOf Tryz.prog 218 = some 6 := by kernel_rfl
theorem F_sz_23 : szOf Tryz.prog 23 = some 1 := by kernel_rfl
theorem F_sz_24 : szOf Tryz.prog 24 = some 1 := by kernel_rfl
theorem F_sz_25 : szOf Tryz.prog 25 = some 1 := by kernel_rfl
theorem F_sz_27 : szOf Tryz.prog 27 = some 3 := by kernel_rfl
theorem F_sz_28 : szOf Tryz.prog 28 = some 1 := by kernel_rfl
theorem F_sz_3 : szOf Tryz.prog 3 = some 1 := by kernel_rfl
theorem F_sz_34 : szOf Tryz.prog 34 = some 1 := by kernel_rfl
theorem F_sz_35 : szOf Tryz.prog 35 = some 1 := by kernel_rfl
theorem F_sz_37 : szOf Tryz.prog 37 = some 3 := by kernel_rfl
theorem F_sz_4 : szOf Tryz.prog 4 = some 1 := by kernel_rfl
theorem F_sz_43 : szOf Tryz.prog 43 = some 1 := by kernel_rfl
theorem F_sz_44 : szOf Tryz.prog 44 = some 1 := by kernel_rfl
theorem F_sz_46 : szOf Tryz.prog 46 = some 5 := by kernel_rfl
theorem F_sz_5 : szOf Tryz.prog 5 = some 1 := by kernel_rfl
theorem F_sz_52 : szOf Tryz.prog 52 = some 1 := by kernel_rfl
theorem F_sz_61 : szOf Tryz.prog 61 = some 2 := by kernel_rfl
theorem F_sz_69 : szOf Tryz.prog 69 = some 1 := by kernel_rfl
theorem F_sz_76 : szOf Tryz.prog 76 = some 5 := by kernel_rfl
theorem F_sz_84 : szOf Tryz.prog 84 = some 1 := by kernel_rfl
theorem F_sz_9 : szOf Tryz.prog 9 = some 1 := by kernel_rfl
theorem F_sz_91 : szOf Tryz.prog 91 = some 1 := by kernel_rfl
theorem F_sz_92 : szOf Tryz.prog 92 = some 1 := by kernel_rfl
theorem F_sz_94 : szOf Tryz.prog 94 = some 5 := by kernel_rfl
theorem F_sz_96 : szOf Tryz.prog 96 = some 6 := by kernel_rfl
theorem F_un_145 : Tryz.prog.underlying 145 = some (.int .u64) := by kernel_rfl
theorem F_un_146 : Tryz.prog.underlying 146 = some (.int .u64) := by kernel_rfl
theorem F_un_2 : Tryz.prog.underlying 2 = some (.int .i64) := by kernel_rfl
theorem F_un_21 : Tryz.prog.underlying 21 = some (.int .i32) := by kernel_rfl
theorem F_un_24 : Tryz.prog.underlying 24 = some (.slice 76) := by kernel_rfl
theorem F_un_3 : Tryz.prog.underlying 3 = some (.int .i64) := by kernel_rfl
theorem F_un_4 : Tryz.prog.underlying 4 = some (.bool) := by kernel_rfl
theorem F_un_43 : Tryz.prog.underlying 43 = some (.int .u32) := by kernel_rfl
theorem F_un_5 : Tryz.prog.underlying 5 = some (.int .u8) := by kernel_rfl
theorem F_un_69 : Tryz.prog.underlying 69 = some (.slice 5) := by kernel_rfl
theorem F_un_9 : Tryz.prog.underlying 9 = some (.string) := by kernel_rfl
end Go.Proofs.YtmbmmckagcdapaaGreatDoor
