/- What the tables say of the types that the program uses. -/
import Derived.Test.YtianekkfehoedaaDoorLd
import Derived.Test.YtianekkfehoedaaDoorChecked
namespace Go.Proofs.YtianekkfehoedaaDoor
set_option linter.unusedSimpArgs false
open Go.RowKit
theorem F_ag_103 : agOf Tryd.prog 103 = some true := by kernel_rfl
theorem F_ag_114 : agOf Tryd.prog 114 = some false := by kernel_rfl
theorem F_ag_25 : agOf Tryd.prog 25 = some false := by kernel_rfl
theorem F_ag_28 : agOf Tryd.prog 28 = some false := by kernel_rfl
theorem F_ag_3 : agOf Tryd.prog 3 = some false := by kernel_rfl
theorem F_ag_34 : agOf Tryd.prog 34 = some false := by kernel_rfl
theorem F_ag_36 : agOf Tryd.prog 36 = some true := by kernel_rfl
theorem F_ag_37 : agOf Tryd.prog 37 = some false := by kernel_rfl
theorem F_ag_4 : agOf Tryd.prog 4 = some false := by kernel_rfl
theorem F_ag_43 : agOf Tryd.prog 43 = some false := by kernel_rfl
theorem F_ag_5 : agOf Tryd.prog 5 = some false := by kernel_rfl
theorem F_ag_78 : agOf Tryd.prog 78 = some false := by kernel_rfl
theorem F_ag_79 : agOf Tryd.prog 79 = some false := by kernel_rfl
theorem F_ag_81 : agOf Tryd.prog 81 = some true := by kernel_rfl
theorem F_ag_9 : agOf Tryd.prog 9 = some false := by kernel_rfl
theorem F_ag_99 : agOf Tryd.prog 99 = some false := by kernel_rfl
theorem F_al_103 : alOf Tryd.prog 103 = some [.im (.int .i64 0), .im (.int .i64 0), .im (.int .i64 0), .im (.int .i64 0), .sl [] .nl, .sl [] .nl] := by kernel_rfl
theorem F_al_119 : alOf Tryd.prog 119 = some [.im (.string ByteArray.empty), .im (.string ByteArray.empty), .im .nilIface] := by kernel_rfl
theorem F_al_121 : alOf Tryd.prog 121 = some [.im (.int .u8 0), .im (.int .u8 0), .im (.int .u8 0), .im (.int .u8 0), .im (.int .u8 0), .im (.int .u8 0), .im (.int .u8 0), .im (.int .u8 0), .im (.int .u8 0), .im (.int .u8 0), .im (.int .u8 0), .im (.int .u8 0), .im (.int .u8 0), .im (.int .u8 0), .im (.int .u8 0), .im (.int .u8 0), .im (.int .u8 0), .im (.int .u8 0), .im (.int .u8 0), .im (.int .u8 0), .im (.int .u8 0), .im (.int .u8 0), .im (.int .u8 0), .im (.int .u8 0)] := by kernel_rfl
theorem F_al_130 : alOf Tryd.prog 130 = some [.im (.string ByteArray.empty)] := by kernel_rfl
theorem F_al_133 : alOf Tryd.prog 133 = some [.im (.int .u64 0), .im (.int .u64 0), .im (.int .u64 0), .im (.int .u64 0), .im (.int .u64 0), .im (.int .u64 0), .im (.int .u64 0), .im (.int .u64 0), .im (.int .u64 0), .im (.int .u64 0), .im (.int .u64 0), .im (.int .u64 0), .im (.int .u64 0), .im (.int .u64 0), .im (.int .u64 0), .im (.int .u64 0), .im (.int .u64 0), .im (.int .u64 0), .im (.int .u64 0), .im (.int .u64 0)] := by kernel_rfl
theorem F_al_134 : alOf Tryd.prog 134 = some [.im (.int .u8 0), .im (.int .u8 0), .im (.int .u8 0), .im (.int .u8 0), .im (.int .u8 0), .im (.int .u8 0), .im (.int .u8 0), .im (.int .u8 0), .im (.int .u8 0), .im (.int .u8 0), .im (.int .u8 0), .im (.int .u8 0), .im (.int .u8 0), .im (.int .u8 0), .im (.int .u8 0), .im (.int .u8 0), .im (.int .u8 0), .im (.int .u8 0), .im (.int .u8 0), .im (.int .u8 0), .im (.int .u8 0), .im (.int .u8 0), .im (.int .u8 0), .im (.int .u8 0), .im (.int .u8 0), .im (.int .u8 0), .im (.int .u8 0), .im (.int .u8 0), .im (.int .u8 0), .im (.int .u8 0), .im (.int .u8 0), .im (.int .u8 0), .im (.int .u8 0), .im (.int .u8 0), .im (.int .u8 0), .im (.int .u8 0), .im (.int .u8 0), .im (.int .u8 0), .im (.int .u8 0), .im (.int .u8 0), .im (.int .u8 0), .im (.int .u8 0), .im (.int .u8 0), .im (.int .u8 0), .im (.int .u8 0), .im (.int .u8 0), .im (.int .u8 0), .im (.int .u8 0), .im (.int .u8 0), .im (.int .u8 0), .im (.int .u8 0), .im (.int .u8 0), .im (.int .u8 0), .im (.int .u8 0), .im (.int .u8 0), .im (.int .u8 0), .im (.int .u8 0), .im (.int .u8 0), .im (.int .u8 0), .im (.int .u8 0), .im (.int .u8 0), .im (.int .u8 0), .im (.int .u8 0), .im (.int .u8 0), .im (.int .u8 0)] := by kernel_rfl
theorem F_al_137 : alOf Tryd.prog 137 = some [.im (.int .u8 0), .im (.int .u8 0), .im (.int .u8 0), .im (.int .u8 0), .im (.int .u8 0), .im (.int .u8 0), .im (.int .u8 0), .im (.int .u8 0), .im (.int .u8 0), .im (.int .u8 0), .im (.int .u8 0), .im (.int .u8 0), .im (.int .u8 0), .im (.int .u8 0), .im (.int .u8 0), .im (.int .u8 0), .im (.int .u8 0), .im (.int .u8 0), .im (.int .u8 0), .im (.int .u8 0), .im (.int .u8 0), .im (.int .u8 0), .im (.int .u8 0), .im (.int .u8 0), .im (.int .u8 0), .im (.int .u8 0), .im (.int .u8 0), .im (.int .u8 0), .im (.int .u8 0), .im (.int .u8 0), .im (.int .u8 0), .im (.int .u8 0)] := by kernel_rfl
theorem F_al_138 : alOf Tryd.prog 138 = some [.im (.int .u8 0), .im (.int .u8 0), .im (.int .u8 0), .im (.int .u8 0), .im (.int .u8 0), .im (.int .u8 0), .im (.int .u8 0), .im (.int .u8 0), .im (.int .u8 0), .im (.int .u8 0), .im (.int .u8 0), .im (.int .u8 0), .im (.int .u8 0), .im (.int .u8 0), .im (.int .u8 0), .im (.int .u8 0), .im (.int .u8 0), .im (.int .u8 0), .im (.int .u8 0), .im (.int .u8 0), .im (.int .u8 0), .im (.int .u8 0), .im (.int .u8 0), .im (.int .u8 0), .im (.int .u8 0), .im (.int .u8 0), .im (.int .u8 0), .im (.int .u8 0), .im (.int .u8 0), .im (.int .u8 0), .im (.int .u8 0), .im (.int .u8 0), .im (.int .u8 0), .im (.int .u8 0), .im (.int .u8 0), .im (.int .u8 0), .im (.int .u8 0), .im (.int .u8 0), .im (.int .u8 0), .im (.int .u8 0), .im (.int .u8 0), .im (.int .u8 0), .im (.int .u8 0), .im (.int .u8 0), .im (.int .u8 0), .im (.int .u8 0), .im (.int .u8 0), .im (.int .u8 0), .im (.int .u8 0), .im (.int .u8 0), .im (.int .u8 0), .im (.int .u8 0), .im (.int .u8 0), .im (.int .u8 0), .im (.int .u8 0), .im (.int .u8 0), .im (.int .u8 0), .im (.int .u8 0), .im (.int .u8 0), .im (.int .u8 0), .im (.int .u8 0), .im (.int .u8 0), .im (.int .u8 0), .im (.int .u8 0)] := by kernel_rfl
theorem F_al_25 : alOf Tryd.prog 25 = some [.im (.pointer none)] := by kernel_rfl
theorem F_al_28 : alOf Tryd.prog 28 = some [.sl [] .nl] := by kernel_rfl
theorem F_al_3 : alOf Tryd.prog 3 = some [.im (.int .i64 0)] := by kernel_rfl
theorem F_al_36 : alOf Tryd.prog 36 = some [.im (.int .i64 0), .im (.int .i64 0), .im (.int .u32 0), .im (.string ByteArray.empty)] := by kernel_rfl
theorem F_al_45 : alOf Tryd.prog 45 = some [.im (.bool false), .sl [] .nl, .sl [] .nl, .sl [] .nl] := by kernel_rfl
theorem F_al_5 : alOf Tryd.prog 5 = some [.im (.int .u8 0)] := by kernel_rfl
theorem F_al_61 : alOf Tryd.prog 61 = some [.sl [] .nl, .im (.int .i64 0), .im (.bool false)] := by kernel_rfl
theorem F_al_81 : alOf Tryd.prog 81 = some [.im (.int .i64 0), .im (.int .i64 0), .im (.int .i64 0), .sl [] .nl, .sl [] .nl] := by kernel_rfl
theorem F_al_88 : alOf Tryd.prog 88 = some [.im (.string ByteArray.empty), .im (.bool false)] := by kernel_rfl
theorem F_ar_121 : arOf Tryd.prog 121 = some (24, 5) := by kernel_rfl
theorem F_ar_133 : arOf Tryd.prog 133 = some (20, 114) := by kernel_rfl
theorem F_ar_134 : arOf Tryd.prog 134 = some (65, 5) := by kernel_rfl
theorem F_ar_137 : arOf Tryd.prog 137 = some (32, 5) := by kernel_rfl
theorem F_ar_138 : arOf Tryd.prog 138 = some (64, 5) := by kernel_rfl
theorem F_by_103 : byOf Tryd.prog 103 = some 80 := by kernel_rfl
theorem F_by_28 : byOf Tryd.prog 28 = some 24 := by kernel_rfl
theorem F_by_36 : byOf Tryd.prog 36 = some 40 := by kernel_rfl
theorem F_by_5 : byOf Tryd.prog 5 = some 1 := by kernel_rfl
theorem F_el_22 : elOf Tryd.prog 22 = some 52 := by kernel_rfl
theorem F_el_28 : elOf Tryd.prog 28 = some 36 := by kernel_rfl
theorem F_el_37 : elOf Tryd.prog 37 = some 5 := by kernel_rfl
theorem F_el_43 : elOf Tryd.prog 43 = some 28 := by kernel_rfl
theorem F_el_46 : elOf Tryd.prog 46 = some 25 := by kernel_rfl
theorem F_el_74 : elOf Tryd.prog 74 = some 3 := by kernel_rfl
theorem F_el_78 : elOf Tryd.prog 78 = some 81 := by kernel_rfl
theorem F_el_79 : elOf Tryd.prog 79 = some 103 := by kernel_rfl
theorem F_eq_36 : eqK Tryd.prog 36 = some [(0, 0), (1, 0), (2, 0), (3, 1)] := by kernel_rfl
theorem F_fl_103_0 : flOf Tryd.prog 103 0 = some (0, 3) := by kernel_rfl
theorem F_fl_103_1 : flOf Tryd.prog 103 1 = some (1, 81) := by kernel_rfl
theorem F_fl_36_0 : flOf Tryd.prog 36 0 = some (0, 3) := by kernel_rfl
theorem F_fl_36_1 : flOf Tryd.prog 36 1 = some (1, 3) := by kernel_rfl
theorem F_fl_36_2 : flOf Tryd.prog 36 2 = some (2, 34) := by kernel_rfl
theorem F_fl_36_3 : flOf Tryd.prog 36 3 = some (3, 9) := by kernel_rfl
theorem F_fl_45_0 : flOf Tryd.prog 45 0 = some (0, 4) := by kernel_rfl
theorem F_fl_45_1 : flOf Tryd.prog 45 1 = some (1, 28) := by kernel_rfl
theorem F_fl_45_2 : flOf Tryd.prog 45 2 = some (2, 43) := by kernel_rfl
theorem F_fl_45_3 : flOf Tryd.prog 45 3 = some (3, 43) := by kernel_rfl
theorem F_fl_52_0 : flOf Tryd.prog 52 0 = some (0, 3) := by kernel_rfl
theorem F_fl_52_1 : flOf Tryd.prog 52 1 = some (1, 36) := by kernel_rfl
theorem F_fl_52_2 : flOf Tryd.prog 52 2 = some (5, 28) := by kernel_rfl
theorem F_fl_61_0 : flOf Tryd.prog 61 0 = some (0, 37) := by kernel_rfl
theorem F_fl_61_1 : flOf Tryd.prog 61 1 = some (1, 3) := by kernel_rfl
theorem F_fl_61_2 : flOf Tryd.prog 61 2 = some (2, 4) := by kernel_rfl
theorem F_fl_81_0 : flOf Tryd.prog 81 0 = some (0, 3) := by kernel_rfl
theorem F_fl_81_1 : flOf Tryd.prog 81 1 = some (1, 3) := by kernel_rfl
theorem F_fl_81_2 : flOf Tryd.prog 81 2 = some (2, 3) := by kernel_rfl
theorem F_fl_81_3 : flOf Tryd.prog 81 3 = some (3, 78) := by kernel_rfl
theorem F_fl_81_4 : flOf Tryd.prog 81 4 = some (4, 79) := by kernel_rfl
theorem F_fl_88_0 : flOf Tryd.prog 88 0 = some (0, 9) := by kernel_rfl
theorem F_fl_88_1 : flOf Tryd.prog 88 1 = some (1, 4) := by kernel_rfl
theorem F_in_114 : inOf Tryd.prog 114 = some .u64 := by kernel_rfl
theorem F_in_2 : inOf Tryd.prog 2 = some .i64 := by kernel_rfl
theorem F_in_3 : inOf Tryd.prog 3 = some .i64 := by kernel_rfl
theorem F_in_34 : inOf Tryd.prog 34 = some .u32 := by kernel_rfl
theorem F_in_37 : inOf Tryd.prog 37 = none := by kernel_rfl
theorem F_in_5 : inOf Tryd.prog 5 = some .u8 := by kernel_rfl
theorem F_in_68 : inOf Tryd.prog 68 = some .u64 := by kernel_rfl
theorem F_in_9 : inOf Tryd.prog 9 = none := by kernel_rfl
theorem F_st_103 : stOf Tryd.prog 103 = some [(0, 1), (1, 5)] := by kernel_rfl
theorem F_st_119 : stOf Tryd.prog 119 = some [(0, 1), (1, 1), (2, 1)] := by kernel_rfl
theorem F_st_130 : stOf Tryd.prog 130 = some [(0, 1)] := by kernel_rfl
theorem F_st_36 : stOf Tryd.prog 36 = some [(0, 1), (1, 1), (2, 1), (3, 1)] := by kernel_rfl
theorem F_st_45 : stOf Tryd.prog 45 = some [(0, 1), (1, 1), (2, 1), (3, 1)] := by kernel_rfl
theorem F_st_61 : stOf Tryd.prog 61 = some [(0, 1), (1, 1), (2, 1)] := by kernel_rfl
theorem F_st_81 : stOf Tryd.prog 81 = some [(0, 1), (1, 1), (2, 1), (3, 1), (4, 1)] := by kernel_rfl
theorem F_st_88 : stOf Tryd.prog 88 = some [(0, 1), (1, 1)] := by kernel_rfl
theorem F_sz_103 : szOf Tryd.prog 103 = some 6 := by kernel_rfl
theorem F_sz_114 : szOf Tryd.prog 114 = some 1 := by kernel_rfl
theorem F_sz_133 : szOf Tryd.prog 133 = some 20 := by kernel_rfl
theorem F_sz_137 : szOf Tryd.prog 137 = some 32 := by kernel_rfl
theorem F_sz_138 : szOf Tryd.prog 138 = some 64 := by kernel_rfl
theorem F_sz_25 : szOf Tryd.prog 25 = some 1 := by kernel_rfl
theorem F_sz_28 : szOf Tryd.prog 28 = some 1 := by kernel_rfl
theorem F_sz_3 : szOf Tryd.prog 3 = some 1 := by kernel_rfl
theorem F_sz_34 : szOf Tryd.prog 34 = some 1 := by kernel_rfl
theorem F_sz_36 : szOf Tryd.prog 36 = some 4 := by kernel_rfl
theorem F_sz_37 : szOf Tryd.prog 37 = some 1 := by kernel_rfl
theorem F_sz_4 : szOf Tryd.prog 4 = some 1 := by kernel_rfl
theorem F_sz_43 : szOf Tryd.prog 43 = some 1 := by kernel_rfl
theorem F_sz_5 : szOf Tryd.prog 5 = some 1 := by kernel_rfl
theorem F_sz_52 : szOf Tryd.prog 52 = some 6 := by kernel_rfl
theorem F_sz_78 : szOf Tryd.prog 78 = some 1 := by kernel_rfl
theorem F_sz_79 : szOf Tryd.prog 79 = some 1 := by kernel_rfl
theorem F_sz_81 : szOf Tryd.prog 81 = some 5 := by kernel_rfl
theorem F_sz_9 : szOf Tryd.prog 9 = some 1 := by kernel_rfl
theorem F_sz_99 : szOf Tryd.prog 99 = some 1 := by kernel_rfl
theorem F_un_114 : Tryd.prog.underlying 114 = some (.int .u64) := by kernel_rfl
theorem F_un_2 : Tryd.prog.underlying 2 = some (.int .i64) := by kernel_rfl
theorem F_un_28 : Tryd.prog.underlying 28 = some (.slice 36) := by kernel_rfl
theorem F_un_3 : Tryd.prog.underlying 3 = some (.int .i64) := by kernel_rfl
theorem F_un_34 : Tryd.prog.underlying 34 = some (.int .u32) := by kernel_rfl
theorem F_un_37 : Tryd.prog.underlying 37 = some (.slice 5) := by kernel_rfl
theorem F_un_43 : Tryd.prog.underlying 43 = some (.slice 28) := by kernel_rfl
theorem F_un_5 : Tryd.prog.underlying 5 = some (.int .u8) := by kernel_rfl
theorem F_un_68 : Tryd.prog.underlying 68 = some (.int .u64) := by kernel_rfl
theorem F_un_9 : Tryd.prog.underlying 9 = some (.string) := by kernel_rfl
end Go.Proofs.YtianekkfehoedaaDoor
