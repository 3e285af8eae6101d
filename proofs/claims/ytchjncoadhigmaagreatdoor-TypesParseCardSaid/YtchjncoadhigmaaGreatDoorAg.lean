/- What the tables say of the types that the program uses. -/
import Derived.Test.YtchjncoadhigmaaGreatDoorLd
import Derived.Test.YtchjncoadhigmaaGreatDoorChecked
namespace Go.Proofs.YtchjncoadhigmaaGreatDoor
set_option linter.unusedSimpArgs false
open Go.RowKit
theorem F_ag_113 : agOf Tryz.prog 113 = some false := by kernel_rfl
theorem F_ag_22 : agOf Tryz.prog 22 = some false := by kernel_rfl
theorem F_ag_23 : agOf Tryz.prog 23 = some false := by kernel_rfl
theorem F_ag_25 : agOf Tryz.prog 25 = some true := by kernel_rfl
theorem F_ag_3 : agOf Tryz.prog 3 = some false := by kernel_rfl
theorem F_ag_4 : agOf Tryz.prog 4 = some false := by kernel_rfl
theorem F_ag_47 : agOf Tryz.prog 47 = some true := by kernel_rfl
theorem F_ag_5 : agOf Tryz.prog 5 = some false := by kernel_rfl
theorem F_ag_55 : agOf Tryz.prog 55 = some false := by kernel_rfl
theorem F_ag_56 : agOf Tryz.prog 56 = some false := by kernel_rfl
theorem F_ag_58 : agOf Tryz.prog 58 = some true := by kernel_rfl
theorem F_ag_74 : agOf Tryz.prog 74 = some false := by kernel_rfl
theorem F_ag_84 : agOf Tryz.prog 84 = some false := by kernel_rfl
theorem F_ag_9 : agOf Tryz.prog 9 = some false := by kernel_rfl
theorem F_al_112 : alOf Tryz.prog 112 = some [.im (.int .u8 0), .im (.int .u8 0), .im (.int .u8 0), .im (.int .u8 0), .im (.int .u8 0), .im (.int .u8 0), .im (.int .u8 0), .im (.int .u8 0), .im (.int .u8 0), .im (.int .u8 0), .im (.int .u8 0), .im (.int .u8 0), .im (.int .u8 0), .im (.int .u8 0), .im (.int .u8 0), .im (.int .u8 0), .im (.int .u8 0), .im (.int .u8 0), .im (.int .u8 0), .im (.int .u8 0), .im (.int .u8 0), .im (.int .u8 0), .im (.int .u8 0), .im (.int .u8 0)] := by kernel_rfl
theorem F_al_123 : alOf Tryz.prog 123 = some [.im (.string ByteArray.empty), .im (.string ByteArray.empty), .im .nilIface] := by kernel_rfl
theorem F_al_127 : alOf Tryz.prog 127 = some [.im (.int .u64 0), .im (.int .u64 0), .im (.int .u64 0), .im (.int .u64 0), .im (.int .u64 0), .im (.int .u64 0), .im (.int .u64 0), .im (.int .u64 0), .im (.int .u64 0), .im (.int .u64 0), .im (.int .u64 0), .im (.int .u64 0), .im (.int .u64 0), .im (.int .u64 0), .im (.int .u64 0), .im (.int .u64 0), .im (.int .u64 0), .im (.int .u64 0), .im (.int .u64 0), .im (.int .u64 0)] := by kernel_rfl
theorem F_al_129 : alOf Tryz.prog 129 = some [.im (.int .u8 0), .im (.int .u8 0), .im (.int .u8 0), .im (.int .u8 0), .im (.int .u8 0), .im (.int .u8 0), .im (.int .u8 0), .im (.int .u8 0), .im (.int .u8 0), .im (.int .u8 0), .im (.int .u8 0), .im (.int .u8 0), .im (.int .u8 0), .im (.int .u8 0), .im (.int .u8 0), .im (.int .u8 0), .im (.int .u8 0), .im (.int .u8 0), .im (.int .u8 0), .im (.int .u8 0), .im (.int .u8 0), .im (.int .u8 0), .im (.int .u8 0), .im (.int .u8 0), .im (.int .u8 0), .im (.int .u8 0), .im (.int .u8 0), .im (.int .u8 0), .im (.int .u8 0), .im (.int .u8 0), .im (.int .u8 0), .im (.int .u8 0), .im (.int .u8 0), .im (.int .u8 0), .im (.int .u8 0), .im (.int .u8 0), .im (.int .u8 0), .im (.int .u8 0), .im (.int .u8 0), .im (.int .u8 0), .im (.int .u8 0), .im (.int .u8 0), .im (.int .u8 0), .im (.int .u8 0), .im (.int .u8 0), .im (.int .u8 0), .im (.int .u8 0), .im (.int .u8 0), .im (.int .u8 0), .im (.int .u8 0), .im (.int .u8 0), .im (.int .u8 0), .im (.int .u8 0), .im (.int .u8 0), .im (.int .u8 0), .im (.int .u8 0), .im (.int .u8 0), .im (.int .u8 0), .im (.int .u8 0), .im (.int .u8 0), .im (.int .u8 0), .im (.int .u8 0), .im (.int .u8 0), .im (.int .u8 0), .im (.int .u8 0)] := by kernel_rfl
theorem F_al_134 : alOf Tryz.prog 134 = some [.im (.string ByteArray.empty)] := by kernel_rfl
theorem F_al_136 : alOf Tryz.prog 136 = some [.im (.int .u8 0), .im (.int .u8 0), .im (.int .u8 0), .im (.int .u8 0), .im (.int .u8 0), .im (.int .u8 0), .im (.int .u8 0), .im (.int .u8 0), .im (.int .u8 0), .im (.int .u8 0), .im (.int .u8 0), .im (.int .u8 0), .im (.int .u8 0), .im (.int .u8 0), .im (.int .u8 0), .im (.int .u8 0), .im (.int .u8 0), .im (.int .u8 0), .im (.int .u8 0), .im (.int .u8 0), .im (.int .u8 0), .im (.int .u8 0), .im (.int .u8 0), .im (.int .u8 0), .im (.int .u8 0), .im (.int .u8 0), .im (.int .u8 0), .im (.int .u8 0), .im (.int .u8 0), .im (.int .u8 0), .im (.int .u8 0), .im (.int .u8 0)] := by kernel_rfl
theorem F_al_137 : alOf Tryz.prog 137 = some [.im (.int .u8 0), .im (.int .u8 0), .im (.int .u8 0), .im (.int .u8 0), .im (.int .u8 0), .im (.int .u8 0), .im (.int .u8 0), .im (.int .u8 0), .im (.int .u8 0), .im (.int .u8 0), .im (.int .u8 0), .im (.int .u8 0), .im (.int .u8 0), .im (.int .u8 0), .im (.int .u8 0), .im (.int .u8 0), .im (.int .u8 0), .im (.int .u8 0), .im (.int .u8 0), .im (.int .u8 0), .im (.int .u8 0), .im (.int .u8 0), .im (.int .u8 0), .im (.int .u8 0), .im (.int .u8 0), .im (.int .u8 0), .im (.int .u8 0), .im (.int .u8 0), .im (.int .u8 0), .im (.int .u8 0), .im (.int .u8 0), .im (.int .u8 0), .im (.int .u8 0), .im (.int .u8 0), .im (.int .u8 0), .im (.int .u8 0), .im (.int .u8 0), .im (.int .u8 0), .im (.int .u8 0), .im (.int .u8 0), .im (.int .u8 0), .im (.int .u8 0), .im (.int .u8 0), .im (.int .u8 0), .im (.int .u8 0), .im (.int .u8 0), .im (.int .u8 0), .im (.int .u8 0), .im (.int .u8 0), .im (.int .u8 0), .im (.int .u8 0), .im (.int .u8 0), .im (.int .u8 0), .im (.int .u8 0), .im (.int .u8 0), .im (.int .u8 0), .im (.int .u8 0), .im (.int .u8 0), .im (.int .u8 0), .im (.int .u8 0), .im (.int .u8 0), .im (.int .u8 0), .im (.int .u8 0), .im (.int .u8 0)] := by kernel_rfl
theorem F_al_23 : alOf Tryz.prog 23 = some [.sl [] .nl] := by kernel_rfl
theorem F_al_25 : alOf Tryz.prog 25 = some [.im (.int .i64 0), .im (.int .i64 0), .im (.int .i64 0), .sl [] .nl, .sl [] .nl] := by kernel_rfl
theorem F_al_3 : alOf Tryz.prog 3 = some [.im (.int .i64 0)] := by kernel_rfl
theorem F_al_4 : alOf Tryz.prog 4 = some [.im (.bool false)] := by kernel_rfl
theorem F_al_47 : alOf Tryz.prog 47 = some [.im (.int .i64 0), .im (.int .i64 0), .im (.int .i64 0), .im (.int .i64 0), .sl [] .nl, .sl [] .nl] := by kernel_rfl
theorem F_al_5 : alOf Tryz.prog 5 = some [.im (.int .u8 0)] := by kernel_rfl
theorem F_al_51 : alOf Tryz.prog 51 = some [.im (.string ByteArray.empty), .im (.bool false)] := by kernel_rfl
theorem F_al_60 : alOf Tryz.prog 60 = some [.im (.pointer none), .sl [] .nl] := by kernel_rfl
theorem F_al_9 : alOf Tryz.prog 9 = some [.im (.string ByteArray.empty)] := by kernel_rfl
theorem F_ar_112 : arOf Tryz.prog 112 = some (24, 5) := by kernel_rfl
theorem F_ar_127 : arOf Tryz.prog 127 = some (20, 113) := by kernel_rfl
theorem F_ar_129 : arOf Tryz.prog 129 = some (65, 5) := by kernel_rfl
theorem F_ar_136 : arOf Tryz.prog 136 = some (32, 5) := by kernel_rfl
theorem F_ar_137 : arOf Tryz.prog 137 = some (64, 5) := by kernel_rfl
theorem F_by_25 : byOf Tryz.prog 25 = some 72 := by kernel_rfl
theorem F_by_47 : byOf Tryz.prog 47 = some 80 := by kernel_rfl
theorem F_by_5 : byOf Tryz.prog 5 = some 1 := by kernel_rfl
theorem F_el_22 : elOf Tryz.prog 22 = some 25 := by kernel_rfl
theorem F_el_23 : elOf Tryz.prog 23 = some 47 := by kernel_rfl
theorem F_el_56 : elOf Tryz.prog 56 = some 5 := by kernel_rfl
theorem F_el_98 : elOf Tryz.prog 98 = some 3 := by kernel_rfl
theorem F_el_99 : elOf Tryz.prog 99 = some 9 := by kernel_rfl
theorem F_fl_25_0 : flOf Tryz.prog 25 0 = some (0, 3) := by kernel_rfl
theorem F_fl_25_1 : flOf Tryz.prog 25 1 = some (1, 3) := by kernel_rfl
theorem F_fl_25_2 : flOf Tryz.prog 25 2 = some (2, 3) := by kernel_rfl
theorem F_fl_25_3 : flOf Tryz.prog 25 3 = some (3, 22) := by kernel_rfl
theorem F_fl_25_4 : flOf Tryz.prog 25 4 = some (4, 23) := by kernel_rfl
theorem F_fl_47_0 : flOf Tryz.prog 47 0 = some (0, 3) := by kernel_rfl
theorem F_fl_47_1 : flOf Tryz.prog 47 1 = some (1, 25) := by kernel_rfl
theorem F_fl_51_0 : flOf Tryz.prog 51 0 = some (0, 9) := by kernel_rfl
theorem F_fl_51_1 : flOf Tryz.prog 51 1 = some (1, 4) := by kernel_rfl
theorem F_fl_58_0 : flOf Tryz.prog 58 0 = some (0, 55) := by kernel_rfl
theorem F_fl_58_1 : flOf Tryz.prog 58 1 = some (1, 56) := by kernel_rfl
theorem F_fl_60_0 : flOf Tryz.prog 60 0 = some (0, 58) := by kernel_rfl
theorem F_in_103 : inOf Tryz.prog 103 = none := by kernel_rfl
theorem F_in_113 : inOf Tryz.prog 113 = some .u64 := by kernel_rfl
theorem F_in_120 : inOf Tryz.prog 120 = some .u64 := by kernel_rfl
theorem F_in_128 : inOf Tryz.prog 128 = some .u32 := by kernel_rfl
theorem F_in_2 : inOf Tryz.prog 2 = some .i64 := by kernel_rfl
theorem F_in_3 : inOf Tryz.prog 3 = some .i64 := by kernel_rfl
theorem F_in_5 : inOf Tryz.prog 5 = some .u8 := by kernel_rfl
theorem F_in_55 : inOf Tryz.prog 55 = none := by kernel_rfl
theorem F_in_56 : inOf Tryz.prog 56 = none := by kernel_rfl
theorem F_in_9 : inOf Tryz.prog 9 = none := by kernel_rfl
theorem F_st_123 : stOf Tryz.prog 123 = some [(0, 1), (1, 1), (2, 1)] := by kernel_rfl
theorem F_st_134 : stOf Tryz.prog 134 = some [(0, 1)] := by kernel_rfl
theorem F_st_25 : stOf Tryz.prog 25 = some [(0, 1), (1, 1), (2, 1), (3, 1), (4, 1)] := by kernel_rfl
theorem F_st_47 : stOf Tryz.prog 47 = some [(0, 1), (1, 5)] := by kernel_rfl
theorem F_st_51 : stOf Tryz.prog 51 = some [(0, 1), (1, 1)] := by kernel_rfl
theorem F_st_60 : stOf Tryz.prog 60 = some [(0, 2)] := by kernel_rfl
theorem F_sz_113 : szOf Tryz.prog 113 = some 1 := by kernel_rfl
theorem F_sz_127 : szOf Tryz.prog 127 = some 20 := by kernel_rfl
theorem F_sz_136 : szOf Tryz.prog 136 = some 32 := by kernel_rfl
theorem F_sz_137 : szOf Tryz.prog 137 = some 64 := by kernel_rfl
theorem F_sz_22 : szOf Tryz.prog 22 = some 1 := by kernel_rfl
theorem F_sz_23 : szOf Tryz.prog 23 = some 1 := by kernel_rfl
theorem F_sz_25 : szOf Tryz.prog 25 = some 5 := by kernel_rfl
theorem F_sz_3 : szOf Tryz.prog 3 = some 1 := by kernel_rfl
theorem F_sz_4 : szOf Tryz.prog 4 = some 1 := by kernel_rfl
theorem F_sz_47 : szOf Tryz.prog 47 = some 6 := by kernel_rfl
theorem F_sz_5 : szOf Tryz.prog 5 = some 1 := by kernel_rfl
theorem F_sz_55 : szOf Tryz.prog 55 = some 1 := by kernel_rfl
theorem F_sz_56 : szOf Tryz.prog 56 = some 1 := by kernel_rfl
theorem F_sz_58 : szOf Tryz.prog 58 = some 2 := by kernel_rfl
theorem F_sz_74 : szOf Tryz.prog 74 = some 1 := by kernel_rfl
theorem F_sz_84 : szOf Tryz.prog 84 = some 1 := by kernel_rfl
theorem F_sz_9 : szOf Tryz.prog 9 = some 1 := by kernel_rfl
theorem F_un_113 : Tryz.prog.underlying 113 = some (.int .u64) := by kernel_rfl
theorem F_un_120 : Tryz.prog.underlying 120 = some (.int .u64) := by kernel_rfl
theorem F_un_128 : Tryz.prog.underlying 128 = some (.int .u32) := by kernel_rfl
theorem F_un_2 : Tryz.prog.underlying 2 = some (.int .i64) := by kernel_rfl
theorem F_un_23 : Tryz.prog.underlying 23 = some (.slice 47) := by kernel_rfl
theorem F_un_3 : Tryz.prog.underlying 3 = some (.int .i64) := by kernel_rfl
theorem F_un_4 : Tryz.prog.underlying 4 = some (.bool) := by kernel_rfl
theorem F_un_5 : Tryz.prog.underlying 5 = some (.int .u8) := by kernel_rfl
theorem F_un_56 : Tryz.prog.underlying 56 = some (.slice 5) := by kernel_rfl
theorem F_un_9 : Tryz.prog.underlying 9 = some (.string) := by kernel_rfl
end Go.Proofs.YtchjncoadhigmaaGreatDoor
