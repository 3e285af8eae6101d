/- What the tables say of the types that the program uses. -/
import Derived.Test.YtianekkfehoedaaGreatDoorLd
import Derived.Test.YtianekkfehoedaaGreatDoorChecked
namespace Go.Proofs.YtianekkfehoedaaGreatDoor
set_option linter.unusedSimpArgs false
open Go.RowKit
theorem F_ag_100 : agOf Tryz.prog 100 = some true := by kernel_rfl
theorem F_ag_132 : agOf Tryz.prog 132 = some true := by kernel_rfl
theorem F_ag_22 : agOf Tryz.prog 22 = some false := by kernel_rfl
theorem F_ag_28 : agOf Tryz.prog 28 = some false := by kernel_rfl
theorem F_ag_29 : agOf Tryz.prog 29 = some false := by kernel_rfl
theorem F_ag_3 : agOf Tryz.prog 3 = some false := by kernel_rfl
theorem F_ag_31 : agOf Tryz.prog 31 = some true := by kernel_rfl
theorem F_ag_4 : agOf Tryz.prog 4 = some false := by kernel_rfl
theorem F_ag_44 : agOf Tryz.prog 44 = some false := by kernel_rfl
theorem F_ag_46 : agOf Tryz.prog 46 = some true := by kernel_rfl
theorem F_ag_5 : agOf Tryz.prog 5 = some false := by kernel_rfl
theorem F_ag_9 : agOf Tryz.prog 9 = some false := by kernel_rfl
theorem F_ag_97 : agOf Tryz.prog 97 = some false := by kernel_rfl
theorem F_ag_98 : agOf Tryz.prog 98 = some false := by kernel_rfl
theorem F_al_100 : alOf Tryz.prog 100 = some [.im (.int .i64 0), .im (.int .i64 0), .im (.int .i64 0), .sl [] .nl, .sl [] .nl] := by kernel_rfl
theorem F_al_110 : alOf Tryz.prog 110 = some [.im (.string ByteArray.empty), .im (.bool false)] := by kernel_rfl
theorem F_al_132 : alOf Tryz.prog 132 = some [.im (.int .i64 0), .im (.int .i64 0), .im (.int .i64 0), .im (.int .i64 0), .sl [] .nl, .sl [] .nl] := by kernel_rfl
theorem F_al_28 : alOf Tryz.prog 28 = some [.sl [] .nl] := by kernel_rfl
theorem F_al_3 : alOf Tryz.prog 3 = some [.im (.int .i64 0)] := by kernel_rfl
theorem F_al_31 : alOf Tryz.prog 31 = some [.im (.bool false), .sl [] .nl, .sl [] .nl, .sl [] .nl] := by kernel_rfl
theorem F_al_46 : alOf Tryz.prog 46 = some [.im (.int .i64 0), .im (.int .i64 0), .im (.int .u32 0), .im (.string ByteArray.empty)] := by kernel_rfl
theorem F_al_5 : alOf Tryz.prog 5 = some [.im (.int .u8 0)] := by kernel_rfl
theorem F_al_56 : alOf Tryz.prog 56 = some [.sl [] .nl, .im (.int .i64 0), .im (.bool false)] := by kernel_rfl
theorem F_al_64 : alOf Tryz.prog 64 = some [.im (.bool false), .sl [] .nl, .sl [] .nl, .sl [] .nl] := by kernel_rfl
theorem F_al_9 : alOf Tryz.prog 9 = some [.im (.string ByteArray.empty)] := by kernel_rfl
theorem F_by_132 : byOf Tryz.prog 132 = some 80 := by kernel_rfl
theorem F_by_28 : byOf Tryz.prog 28 = some 24 := by kernel_rfl
theorem F_by_46 : byOf Tryz.prog 46 = some 40 := by kernel_rfl
theorem F_by_5 : byOf Tryz.prog 5 = some 1 := by kernel_rfl
theorem F_el_105 : elOf Tryz.prog 105 = some 3 := by kernel_rfl
theorem F_el_135 : elOf Tryz.prog 135 = some 9 := by kernel_rfl
theorem F_el_22 : elOf Tryz.prog 22 = some 5 := by kernel_rfl
theorem F_el_28 : elOf Tryz.prog 28 = some 46 := by kernel_rfl
theorem F_el_29 : elOf Tryz.prog 29 = some 28 := by kernel_rfl
theorem F_el_97 : elOf Tryz.prog 97 = some 100 := by kernel_rfl
theorem F_el_98 : elOf Tryz.prog 98 = some 132 := by kernel_rfl
theorem F_eq_46 : eqK Tryz.prog 46 = some [(0, 0), (1, 0), (2, 0), (3, 1)] := by kernel_rfl
theorem F_fl_100_0 : flOf Tryz.prog 100 0 = some (0, 3) := by kernel_rfl
theorem F_fl_100_1 : flOf Tryz.prog 100 1 = some (1, 3) := by kernel_rfl
theorem F_fl_100_2 : flOf Tryz.prog 100 2 = some (2, 3) := by kernel_rfl
theorem F_fl_100_3 : flOf Tryz.prog 100 3 = some (3, 97) := by kernel_rfl
theorem F_fl_100_4 : flOf Tryz.prog 100 4 = some (4, 98) := by kernel_rfl
theorem F_fl_110_0 : flOf Tryz.prog 110 0 = some (0, 9) := by kernel_rfl
theorem F_fl_110_1 : flOf Tryz.prog 110 1 = some (1, 4) := by kernel_rfl
theorem F_fl_132_0 : flOf Tryz.prog 132 0 = some (0, 3) := by kernel_rfl
theorem F_fl_132_1 : flOf Tryz.prog 132 1 = some (1, 100) := by kernel_rfl
theorem F_fl_31_1 : flOf Tryz.prog 31 1 = some (1, 28) := by kernel_rfl
theorem F_fl_46_0 : flOf Tryz.prog 46 0 = some (0, 3) := by kernel_rfl
theorem F_fl_46_1 : flOf Tryz.prog 46 1 = some (1, 3) := by kernel_rfl
theorem F_fl_46_2 : flOf Tryz.prog 46 2 = some (2, 44) := by kernel_rfl
theorem F_fl_46_3 : flOf Tryz.prog 46 3 = some (3, 9) := by kernel_rfl
theorem F_fl_56_0 : flOf Tryz.prog 56 0 = some (0, 22) := by kernel_rfl
theorem F_fl_56_1 : flOf Tryz.prog 56 1 = some (1, 3) := by kernel_rfl
theorem F_fl_56_2 : flOf Tryz.prog 56 2 = some (2, 4) := by kernel_rfl
theorem F_fl_64_0 : flOf Tryz.prog 64 0 = some (0, 4) := by kernel_rfl
theorem F_fl_64_1 : flOf Tryz.prog 64 1 = some (1, 28) := by kernel_rfl
theorem F_fl_64_2 : flOf Tryz.prog 64 2 = some (2, 29) := by kernel_rfl
theorem F_fl_64_3 : flOf Tryz.prog 64 3 = some (3, 29) := by kernel_rfl
theorem F_in_22 : inOf Tryz.prog 22 = none := by kernel_rfl
theorem F_in_3 : inOf Tryz.prog 3 = some .i64 := by kernel_rfl
theorem F_in_44 : inOf Tryz.prog 44 = some .u32 := by kernel_rfl
theorem F_in_5 : inOf Tryz.prog 5 = some .u8 := by kernel_rfl
theorem F_in_9 : inOf Tryz.prog 9 = none := by kernel_rfl
theorem F_in_90 : inOf Tryz.prog 90 = some .u64 := by kernel_rfl
theorem F_st_100 : stOf Tryz.prog 100 = some [(0, 1), (1, 1), (2, 1), (3, 1), (4, 1)] := by kernel_rfl
theorem F_st_110 : stOf Tryz.prog 110 = some [(0, 1), (1, 1)] := by kernel_rfl
theorem F_st_132 : stOf Tryz.prog 132 = some [(0, 1), (1, 5)] := by kernel_rfl
theorem F_st_31 : stOf Tryz.prog 31 = some [(0, 1), (1, 1), (2, 1), (3, 1)] := by kernel_rfl
theorem F_st_46 : stOf Tryz.prog 46 = some [(0, 1), (1, 1), (2, 1), (3, 1)] := by kernel_rfl
theorem F_st_56 : stOf Tryz.prog 56 = some [(0, 1), (1, 1), (2, 1)] := by kernel_rfl
theorem F_st_64 : stOf Tryz.prog 64 = some [(0, 1), (1, 1), (2, 1), (3, 1)] := by kernel_rfl
theorem F_sz_100 : szOf Tryz.prog 100 = some 5 := by kernel_rfl
theorem F_sz_132 : szOf Tryz.prog 132 = some 6 := by kernel_rfl
theorem F_sz_22 : szOf Tryz.prog 22 = some 1 := by kernel_rfl
theorem F_sz_28 : szOf Tryz.prog 28 = some 1 := by kernel_rfl
theorem F_sz_29 : szOf Tryz.prog 29 = some 1 := by kernel_rfl
theorem F_sz_3 : szOf Tryz.prog 3 = some 1 := by kernel_rfl
theorem F_sz_31 : szOf Tryz.prog 31 = some 4 := by kernel_rfl
theorem F_sz_4 : szOf Tryz.prog 4 = some 1 := by kernel_rfl
theorem F_sz_44 : szOf Tryz.prog 44 = some 1 := by kernel_rfl
theorem F_sz_46 : szOf Tryz.prog 46 = some 4 := by kernel_rfl
theorem F_sz_5 : szOf Tryz.prog 5 = some 1 := by kernel_rfl
theorem F_sz_9 : szOf Tryz.prog 9 = some 1 := by kernel_rfl
theorem F_sz_97 : szOf Tryz.prog 97 = some 1 := by kernel_rfl
theorem F_sz_98 : szOf Tryz.prog 98 = some 1 := by kernel_rfl
theorem F_un_22 : Tryz.prog.underlying 22 = some (.slice 5) := by kernel_rfl
theorem F_un_28 : Tryz.prog.underlying 28 = some (.slice 46) := by kernel_rfl
theorem F_un_29 : Tryz.prog.underlying 29 = some (.slice 28) := by kernel_rfl
theorem F_un_3 : Tryz.prog.underlying 3 = some (.int .i64) := by kernel_rfl
theorem F_un_44 : Tryz.prog.underlying 44 = some (.int .u32) := by kernel_rfl
theorem F_un_5 : Tryz.prog.underlying 5 = some (.int .u8) := by kernel_rfl
theorem F_un_9 : Tryz.prog.underlying 9 = some (.string) := by kernel_rfl
theorem F_un_90 : Tryz.prog.underlying 90 = some (.int .u64) := by kernel_rfl
end Go.Proofs.YtianekkfehoedaaGreatDoor
