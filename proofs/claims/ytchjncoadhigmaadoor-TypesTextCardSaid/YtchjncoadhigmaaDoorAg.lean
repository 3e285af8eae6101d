/- What the tables say of the types that the program uses. -/
import Derived.Test.YtchjncoadhigmaaDoorLd
import Derived.Test.YtchjncoadhigmaaDoorChecked
namespace Go.Proofs.YtchjncoadhigmaaDoor
set_option linter.unusedSimpArgs false
open Go.RowKit
theorem F_ag_101 : agOf Tryd.prog 101 = some false := by kernel_rfl
theorem F_ag_22 : agOf Tryd.prog 22 = some false := by kernel_rfl
theorem F_ag_23 : agOf Tryd.prog 23 = some false := by kernel_rfl
theorem F_ag_25 : agOf Tryd.prog 25 = some true := by kernel_rfl
theorem F_ag_3 : agOf Tryd.prog 3 = some false := by kernel_rfl
theorem F_ag_4 : agOf Tryd.prog 4 = some false := by kernel_rfl
theorem F_ag_46 : agOf Tryd.prog 46 = some true := by kernel_rfl
theorem F_ag_5 : agOf Tryd.prog 5 = some false := by kernel_rfl
theorem F_ag_54 : agOf Tryd.prog 54 = some false := by kernel_rfl
theorem F_ag_55 : agOf Tryd.prog 55 = some false := by kernel_rfl
theorem F_ag_57 : agOf Tryd.prog 57 = some true := by kernel_rfl
theorem F_ag_71 : agOf Tryd.prog 71 = some false := by kernel_rfl
theorem F_ag_79 : agOf Tryd.prog 79 = some false := by kernel_rfl
theorem F_ag_9 : agOf Tryd.prog 9 = some false := by kernel_rfl
theorem F_al_100 : alOf Tryd.prog 100 = some [.im (.int .u8 0), .im (.int .u8 0), .im (.int .u8 0), .im (.int .u8 0), .im (.int .u8 0), .im (.int .u8 0), .im (.int .u8 0), .im (.int .u8 0), .im (.int .u8 0), .im (.int .u8 0), .im (.int .u8 0), .im (.int .u8 0), .im (.int .u8 0), .im (.int .u8 0), .im (.int .u8 0), .im (.int .u8 0), .im (.int .u8 0), .im (.int .u8 0), .im (.int .u8 0), .im (.int .u8 0), .im (.int .u8 0), .im (.int .u8 0), .im (.int .u8 0), .im (.int .u8 0)] := by kernel_rfl
theorem F_al_114 : alOf Tryd.prog 114 = some [.im (.int .u64 0), .im (.int .u64 0), .im (.int .u64 0), .im (.int .u64 0), .im (.int .u64 0), .im (.int .u64 0), .im (.int .u64 0), .im (.int .u64 0), .im (.int .u64 0), .im (.int .u64 0), .im (.int .u64 0), .im (.int .u64 0), .im (.int .u64 0), .im (.int .u64 0), .im (.int .u64 0), .im (.int .u64 0), .im (.int .u64 0), .im (.int .u64 0), .im (.int .u64 0), .im (.int .u64 0)] := by kernel_rfl
theorem F_al_116 : alOf Tryd.prog 116 = some [.im (.int .u8 0), .im (.int .u8 0), .im (.int .u8 0), .im (.int .u8 0), .im (.int .u8 0), .im (.int .u8 0), .im (.int .u8 0), .im (.int .u8 0), .im (.int .u8 0), .im (.int .u8 0), .im (.int .u8 0), .im (.int .u8 0), .im (.int .u8 0), .im (.int .u8 0), .im (.int .u8 0), .im (.int .u8 0), .im (.int .u8 0), .im (.int .u8 0), .im (.int .u8 0), .im (.int .u8 0), .im (.int .u8 0), .im (.int .u8 0), .im (.int .u8 0), .im (.int .u8 0), .im (.int .u8 0), .im (.int .u8 0), .im (.int .u8 0), .im (.int .u8 0), .im (.int .u8 0), .im (.int .u8 0), .im (.int .u8 0), .im (.int .u8 0), .im (.int .u8 0), .im (.int .u8 0), .im (.int .u8 0), .im (.int .u8 0), .im (.int .u8 0), .im (.int .u8 0), .im (.int .u8 0), .im (.int .u8 0), .im (.int .u8 0), .im (.int .u8 0), .im (.int .u8 0), .im (.int .u8 0), .im (.int .u8 0), .im (.int .u8 0), .im (.int .u8 0), .im (.int .u8 0), .im (.int .u8 0), .im (.int .u8 0), .im (.int .u8 0), .im (.int .u8 0), .im (.int .u8 0), .im (.int .u8 0), .im (.int .u8 0), .im (.int .u8 0), .im (.int .u8 0), .im (.int .u8 0), .im (.int .u8 0), .im (.int .u8 0), .im (.int .u8 0), .im (.int .u8 0), .im (.int .u8 0), .im (.int .u8 0), .im (.int .u8 0)] := by kernel_rfl
theorem F_al_123 : alOf Tryd.prog 123 = some [.im (.string ByteArray.empty), .im (.string ByteArray.empty), .im .nilIface] := by kernel_rfl
theorem F_al_129 : alOf Tryd.prog 129 = some [.im (.string ByteArray.empty)] := by kernel_rfl
theorem F_al_130 : alOf Tryd.prog 130 = some [.im (.int .u8 0), .im (.int .u8 0), .im (.int .u8 0), .im (.int .u8 0), .im (.int .u8 0), .im (.int .u8 0), .im (.int .u8 0), .im (.int .u8 0), .im (.int .u8 0), .im (.int .u8 0), .im (.int .u8 0), .im (.int .u8 0), .im (.int .u8 0), .im (.int .u8 0), .im (.int .u8 0), .im (.int .u8 0), .im (.int .u8 0), .im (.int .u8 0), .im (.int .u8 0), .im (.int .u8 0), .im (.int .u8 0), .im (.int .u8 0), .im (.int .u8 0), .im (.int .u8 0), .im (.int .u8 0), .im (.int .u8 0), .im (.int .u8 0), .im (.int .u8 0), .im (.int .u8 0), .im (.int .u8 0), .im (.int .u8 0), .im (.int .u8 0)] := by kernel_rfl
theorem F_al_131 : alOf Tryd.prog 131 = some [.im (.int .u8 0), .im (.int .u8 0), .im (.int .u8 0), .im (.int .u8 0), .im (.int .u8 0), .im (.int .u8 0), .im (.int .u8 0), .im (.int .u8 0), .im (.int .u8 0), .im (.int .u8 0), .im (.int .u8 0), .im (.int .u8 0), .im (.int .u8 0), .im (.int .u8 0), .im (.int .u8 0), .im (.int .u8 0), .im (.int .u8 0), .im (.int .u8 0), .im (.int .u8 0), .im (.int .u8 0), .im (.int .u8 0), .im (.int .u8 0), .im (.int .u8 0), .im (.int .u8 0), .im (.int .u8 0), .im (.int .u8 0), .im (.int .u8 0), .im (.int .u8 0), .im (.int .u8 0), .im (.int .u8 0), .im (.int .u8 0), .im (.int .u8 0), .im (.int .u8 0), .im (.int .u8 0), .im (.int .u8 0), .im (.int .u8 0), .im (.int .u8 0), .im (.int .u8 0), .im (.int .u8 0), .im (.int .u8 0), .im (.int .u8 0), .im (.int .u8 0), .im (.int .u8 0), .im (.int .u8 0), .im (.int .u8 0), .im (.int .u8 0), .im (.int .u8 0), .im (.int .u8 0), .im (.int .u8 0), .im (.int .u8 0), .im (.int .u8 0), .im (.int .u8 0), .im (.int .u8 0), .im (.int .u8 0), .im (.int .u8 0), .im (.int .u8 0), .im (.int .u8 0), .im (.int .u8 0), .im (.int .u8 0), .im (.int .u8 0), .im (.int .u8 0), .im (.int .u8 0), .im (.int .u8 0), .im (.int .u8 0)] := by kernel_rfl
theorem F_al_23 : alOf Tryd.prog 23 = some [.sl [] .nl] := by kernel_rfl
theorem F_al_25 : alOf Tryd.prog 25 = some [.im (.int .i64 0), .im (.int .i64 0), .im (.int .i64 0), .sl [] .nl, .sl [] .nl] := by kernel_rfl
theorem F_al_3 : alOf Tryd.prog 3 = some [.im (.int .i64 0)] := by kernel_rfl
theorem F_al_4 : alOf Tryd.prog 4 = some [.im (.bool false)] := by kernel_rfl
theorem F_al_46 : alOf Tryd.prog 46 = some [.im (.int .i64 0), .im (.int .i64 0), .im (.int .i64 0), .im (.int .i64 0), .sl [] .nl, .sl [] .nl] := by kernel_rfl
theorem F_al_5 : alOf Tryd.prog 5 = some [.im (.int .u8 0)] := by kernel_rfl
theorem F_al_59 : alOf Tryd.prog 59 = some [.im (.pointer none), .sl [] .nl] := by kernel_rfl
theorem F_al_64 : alOf Tryd.prog 64 = some [.im (.string ByteArray.empty), .im (.bool false)] := by kernel_rfl
theorem F_ar_100 : arOf Tryd.prog 100 = some (24, 5) := by kernel_rfl
theorem F_ar_114 : arOf Tryd.prog 114 = some (20, 101) := by kernel_rfl
theorem F_ar_116 : arOf Tryd.prog 116 = some (65, 5) := by kernel_rfl
theorem F_ar_130 : arOf Tryd.prog 130 = some (32, 5) := by kernel_rfl
theorem F_ar_131 : arOf Tryd.prog 131 = some (64, 5) := by kernel_rfl
theorem F_by_25 : byOf Tryd.prog 25 = some 72 := by kernel_rfl
theorem F_by_46 : byOf Tryd.prog 46 = some 80 := by kernel_rfl
theorem F_by_5 : byOf Tryd.prog 5 = some 1 := by kernel_rfl
theorem F_el_22 : elOf Tryd.prog 22 = some 25 := by kernel_rfl
theorem F_el_23 : elOf Tryd.prog 23 = some 46 := by kernel_rfl
theorem F_el_55 : elOf Tryd.prog 55 = some 5 := by kernel_rfl
theorem F_el_94 : elOf Tryd.prog 94 = some 3 := by kernel_rfl
theorem F_fl_25_0 : flOf Tryd.prog 25 0 = some (0, 3) := by kernel_rfl
theorem F_fl_25_1 : flOf Tryd.prog 25 1 = some (1, 3) := by kernel_rfl
theorem F_fl_25_2 : flOf Tryd.prog 25 2 = some (2, 3) := by kernel_rfl
theorem F_fl_25_3 : flOf Tryd.prog 25 3 = some (3, 22) := by kernel_rfl
theorem F_fl_25_4 : flOf Tryd.prog 25 4 = some (4, 23) := by kernel_rfl
theorem F_fl_46_0 : flOf Tryd.prog 46 0 = some (0, 3) := by kernel_rfl
theorem F_fl_46_1 : flOf Tryd.prog 46 1 = some (1, 25) := by kernel_rfl
theorem F_fl_57_0 : flOf Tryd.prog 57 0 = some (0, 54) := by kernel_rfl
theorem F_fl_57_1 : flOf Tryd.prog 57 1 = some (1, 55) := by kernel_rfl
theorem F_fl_59_0 : flOf Tryd.prog 59 0 = some (0, 57) := by kernel_rfl
theorem F_fl_64_0 : flOf Tryd.prog 64 0 = some (0, 9) := by kernel_rfl
theorem F_fl_64_1 : flOf Tryd.prog 64 1 = some (1, 4) := by kernel_rfl
theorem F_in_101 : inOf Tryd.prog 101 = some .u64 := by kernel_rfl
theorem F_in_115 : inOf Tryd.prog 115 = some .u32 := by kernel_rfl
theorem F_in_117 : inOf Tryd.prog 117 = some .u64 := by kernel_rfl
theorem F_in_2 : inOf Tryd.prog 2 = some .i64 := by kernel_rfl
theorem F_in_3 : inOf Tryd.prog 3 = some .i64 := by kernel_rfl
theorem F_in_5 : inOf Tryd.prog 5 = some .u8 := by kernel_rfl
theorem F_in_54 : inOf Tryd.prog 54 = none := by kernel_rfl
theorem F_in_55 : inOf Tryd.prog 55 = none := by kernel_rfl
theorem F_in_9 : inOf Tryd.prog 9 = none := by kernel_rfl
theorem F_in_96 : inOf Tryd.prog 96 = none := by kernel_rfl
theorem F_st_123 : stOf Tryd.prog 123 = some [(0, 1), (1, 1), (2, 1)] := by kernel_rfl
theorem F_st_129 : stOf Tryd.prog 129 = some [(0, 1)] := by kernel_rfl
theorem F_st_25 : stOf Tryd.prog 25 = some [(0, 1), (1, 1), (2, 1), (3, 1), (4, 1)] := by kernel_rfl
theorem F_st_46 : stOf Tryd.prog 46 = some [(0, 1), (1, 5)] := by kernel_rfl
theorem F_st_59 : stOf Tryd.prog 59 = some [(0, 2)] := by kernel_rfl
theorem F_st_64 : stOf Tryd.prog 64 = some [(0, 1), (1, 1)] := by kernel_rfl
theorem F_sz_101 : szOf Tryd.prog 101 = some 1 := by kernel_rfl
theorem F_sz_114 : szOf Tryd.prog 114 = some 20 := by kernel_rfl
theorem F_sz_130 : szOf Tryd.prog 130 = some 32 := by kernel_rfl
theorem F_sz_131 : szOf Tryd.prog 131 = some 64 := by kernel_rfl
theorem F_sz_22 : szOf Tryd.prog 22 = some 1 := by kernel_rfl
theorem F_sz_23 : szOf Tryd.prog 23 = some 1 := by kernel_rfl
theorem F_sz_25 : szOf Tryd.prog 25 = some 5 := by kernel_rfl
theorem F_sz_3 : szOf Tryd.prog 3 = some 1 := by kernel_rfl
theorem F_sz_4 : szOf Tryd.prog 4 = some 1 := by kernel_rfl
theorem F_sz_46 : szOf Tryd.prog 46 = some 6 := by kernel_rfl
theorem F_sz_5 : szOf Tryd.prog 5 = some 1 := by kernel_rfl
theorem F_sz_54 : szOf Tryd.prog 54 = some 1 := by kernel_rfl
theorem F_sz_55 : szOf Tryd.prog 55 = some 1 := by kernel_rfl
theorem F_sz_57 : szOf Tryd.prog 57 = some 2 := by kernel_rfl
theorem F_sz_71 : szOf Tryd.prog 71 = some 1 := by kernel_rfl
theorem F_sz_79 : szOf Tryd.prog 79 = some 1 := by kernel_rfl
theorem F_sz_9 : szOf Tryd.prog 9 = some 1 := by kernel_rfl
theorem F_un_101 : Tryd.prog.underlying 101 = some (.int .u64) := by kernel_rfl
theorem F_un_115 : Tryd.prog.underlying 115 = some (.int .u32) := by kernel_rfl
theorem F_un_117 : Tryd.prog.underlying 117 = some (.int .u64) := by kernel_rfl
theorem F_un_2 : Tryd.prog.underlying 2 = some (.int .i64) := by kernel_rfl
theorem F_un_23 : Tryd.prog.underlying 23 = some (.slice 46) := by kernel_rfl
theorem F_un_3 : Tryd.prog.underlying 3 = some (.int .i64) := by kernel_rfl
theorem F_un_4 : Tryd.prog.underlying 4 = some (.bool) := by kernel_rfl
theorem F_un_5 : Tryd.prog.underlying 5 = some (.int .u8) := by kernel_rfl
theorem F_un_55 : Tryd.prog.underlying 55 = some (.slice 5) := by kernel_rfl
theorem F_un_9 : Tryd.prog.underlying 9 = some (.string) := by kernel_rfl
end Go.Proofs.YtchjncoadhigmaaDoor
