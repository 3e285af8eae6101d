/- What the tables say of the types that the program uses. -/
import Derived.Test.YtlbfgnpadggbgaaDoorLd
import Derived.Test.YtlbfgnpadggbgaaDoorChecked
namespace Go.Proofs.YtlbfgnpadggbgaaDoor
set_option linter.unusedSimpArgs false
open Go.RowKit
theorem F_ag_106 : agOf Tryd.prog 106 = some true := by kernel_rfl
theorem F_ag_108 : agOf Tryd.prog 108 = some false := by kernel_rfl
theorem F_ag_114 : agOf Tryd.prog 114 = some true := by kernel_rfl
theorem F_ag_125 : agOf Tryd.prog 125 = some false := by kernel_rfl
theorem F_ag_126 : agOf Tryd.prog 126 = some false := by kernel_rfl
theorem F_ag_129 : agOf Tryd.prog 129 = some false := by kernel_rfl
theorem F_ag_134 : agOf Tryd.prog 134 = some true := by kernel_rfl
theorem F_ag_22 : agOf Tryd.prog 22 = some false := by kernel_rfl
theorem F_ag_23 : agOf Tryd.prog 23 = some false := by kernel_rfl
theorem F_ag_25 : agOf Tryd.prog 25 = some true := by kernel_rfl
theorem F_ag_3 : agOf Tryd.prog 3 = some false := by kernel_rfl
theorem F_ag_33 : agOf Tryd.prog 33 = some false := by kernel_rfl
theorem F_ag_34 : agOf Tryd.prog 34 = some false := by kernel_rfl
theorem F_ag_36 : agOf Tryd.prog 36 = some true := by kernel_rfl
theorem F_ag_37 : agOf Tryd.prog 37 = some false := by kernel_rfl
theorem F_ag_39 : agOf Tryd.prog 39 = some true := by kernel_rfl
theorem F_ag_46 : agOf Tryd.prog 46 = some false := by kernel_rfl
theorem F_ag_47 : agOf Tryd.prog 47 = some false := by kernel_rfl
theorem F_ag_49 : agOf Tryd.prog 49 = some true := by kernel_rfl
theorem F_ag_5 : agOf Tryd.prog 5 = some false := by kernel_rfl
theorem F_ag_56 : agOf Tryd.prog 56 = some false := by kernel_rfl
theorem F_ag_57 : agOf Tryd.prog 57 = some false := by kernel_rfl
theorem F_ag_59 : agOf Tryd.prog 59 = some true := by kernel_rfl
theorem F_ag_62 : agOf Tryd.prog 62 = some true := by kernel_rfl
theorem F_ag_70 : agOf Tryd.prog 70 = some true := by kernel_rfl
theorem F_ag_78 : agOf Tryd.prog 78 = some true := by kernel_rfl
theorem F_ag_9 : agOf Tryd.prog 9 = some false := by kernel_rfl
theorem F_ag_90 : agOf Tryd.prog 90 = some false := by kernel_rfl
theorem F_al_106 : alOf Tryd.prog 106 = some [.im (.int .i64 0), .im (.int .i64 0)] := by kernel_rfl
theorem F_al_114 : alOf Tryd.prog 114 = some [.im (.int .i64 0), .im (.int .i64 0), .im (.int .i64 0), .im (.int .i64 0), .sl [] .nl, .sl [] .nl] := by kernel_rfl
theorem F_al_122 : alOf Tryd.prog 122 = some [.im (.pointer none), .sl [] .nl] := by kernel_rfl
theorem F_al_128 : alOf Tryd.prog 128 = some [.sl [] .nl, .sl [] .nl, .im (.int .i64 0)] := by kernel_rfl
theorem F_al_131 : alOf Tryd.prog 131 = some [.im (.int .u16 0), .im (.int .u16 0), .im (.int .u16 0)] := by kernel_rfl
theorem F_al_134 : alOf Tryd.prog 134 = some [.im (.int .u32 0), .im (.int .u32 0), .im (.int .u32 0)] := by kernel_rfl
theorem F_al_136 : alOf Tryd.prog 136 = some [.im (.int .u8 0), .im (.int .u8 0), .im (.int .u8 0), .im (.int .u8 0), .im (.int .u8 0), .im (.int .u8 0), .im (.int .u8 0), .im (.int .u8 0), .im (.int .u8 0), .im (.int .u8 0), .im (.int .u8 0), .im (.int .u8 0), .im (.int .u8 0), .im (.int .u8 0), .im (.int .u8 0), .im (.int .u8 0), .im (.int .u8 0), .im (.int .u8 0), .im (.int .u8 0), .im (.int .u8 0), .im (.int .u8 0), .im (.int .u8 0), .im (.int .u8 0), .im (.int .u8 0)] := by kernel_rfl
theorem F_al_155 : alOf Tryd.prog 155 = some [.im (.int .u64 0), .im (.int .u64 0), .im (.int .u64 0), .im (.int .u64 0), .im (.int .u64 0), .im (.int .u64 0), .im (.int .u64 0), .im (.int .u64 0), .im (.int .u64 0), .im (.int .u64 0), .im (.int .u64 0), .im (.int .u64 0), .im (.int .u64 0), .im (.int .u64 0), .im (.int .u64 0), .im (.int .u64 0), .im (.int .u64 0), .im (.int .u64 0), .im (.int .u64 0), .im (.int .u64 0)] := by kernel_rfl
theorem F_al_156 : alOf Tryd.prog 156 = some [.im (.int .u8 0), .im (.int .u8 0), .im (.int .u8 0), .im (.int .u8 0), .im (.int .u8 0), .im (.int .u8 0), .im (.int .u8 0), .im (.int .u8 0), .im (.int .u8 0), .im (.int .u8 0), .im (.int .u8 0), .im (.int .u8 0), .im (.int .u8 0), .im (.int .u8 0), .im (.int .u8 0), .im (.int .u8 0), .im (.int .u8 0), .im (.int .u8 0), .im (.int .u8 0), .im (.int .u8 0), .im (.int .u8 0), .im (.int .u8 0), .im (.int .u8 0), .im (.int .u8 0), .im (.int .u8 0), .im (.int .u8 0), .im (.int .u8 0), .im (.int .u8 0), .im (.int .u8 0), .im (.int .u8 0), .im (.int .u8 0), .im (.int .u8 0), .im (.int .u8 0), .im (.int .u8 0), .im (.int .u8 0), .im (.int .u8 0), .im (.int .u8 0), .im (.int .u8 0), .im (.int .u8 0), .im (.int .u8 0), .im (.int .u8 0), .im (.int .u8 0), .im (.int .u8 0), .im (.int .u8 0), .im (.int .u8 0), .im (.int .u8 0), .im (.int .u8 0), .im (.int .u8 0), .im (.int .u8 0), .im (.int .u8 0), .im (.int .u8 0), .im (.int .u8 0), .im (.int .u8 0), .im (.int .u8 0), .im (.int .u8 0), .im (.int .u8 0), .im (.int .u8 0), .im (.int .u8 0), .im (.int .u8 0), .im (.int .u8 0), .im (.int .u8 0), .im (.int .u8 0), .im (.int .u8 0), .im (.int .u8 0), .im (.int .u8 0)] := by kernel_rfl
theorem F_al_162 : alOf Tryd.prog 162 = some [.im (.int .u8 0), .im (.int .u8 0), .im (.int .u8 0), .im (.int .u8 0), .im (.int .u8 0), .im (.int .u8 0), .im (.int .u8 0), .im (.int .u8 0), .im (.int .u8 0), .im (.int .u8 0), .im (.int .u8 0), .im (.int .u8 0), .im (.int .u8 0), .im (.int .u8 0), .im (.int .u8 0), .im (.int .u8 0), .im (.int .u8 0), .im (.int .u8 0), .im (.int .u8 0), .im (.int .u8 0), .im (.int .u8 0), .im (.int .u8 0), .im (.int .u8 0), .im (.int .u8 0), .im (.int .u8 0), .im (.int .u8 0), .im (.int .u8 0), .im (.int .u8 0), .im (.int .u8 0), .im (.int .u8 0), .im (.int .u8 0), .im (.int .u8 0)] := by kernel_rfl
theorem F_al_163 : alOf Tryd.prog 163 = some [.im (.int .u8 0), .im (.int .u8 0), .im (.int .u8 0), .im (.int .u8 0), .im (.int .u8 0), .im (.int .u8 0), .im (.int .u8 0), .im (.int .u8 0), .im (.int .u8 0), .im (.int .u8 0), .im (.int .u8 0), .im (.int .u8 0), .im (.int .u8 0), .im (.int .u8 0), .im (.int .u8 0), .im (.int .u8 0), .im (.int .u8 0), .im (.int .u8 0), .im (.int .u8 0), .im (.int .u8 0), .im (.int .u8 0), .im (.int .u8 0), .im (.int .u8 0), .im (.int .u8 0), .im (.int .u8 0), .im (.int .u8 0), .im (.int .u8 0), .im (.int .u8 0), .im (.int .u8 0), .im (.int .u8 0), .im (.int .u8 0), .im (.int .u8 0), .im (.int .u8 0), .im (.int .u8 0), .im (.int .u8 0), .im (.int .u8 0), .im (.int .u8 0), .im (.int .u8 0), .im (.int .u8 0), .im (.int .u8 0), .im (.int .u8 0), .im (.int .u8 0), .im (.int .u8 0), .im (.int .u8 0), .im (.int .u8 0), .im (.int .u8 0), .im (.int .u8 0), .im (.int .u8 0), .im (.int .u8 0), .im (.int .u8 0), .im (.int .u8 0), .im (.int .u8 0), .im (.int .u8 0), .im (.int .u8 0), .im (.int .u8 0), .im (.int .u8 0), .im (.int .u8 0), .im (.int .u8 0), .im (.int .u8 0), .im (.int .u8 0), .im (.int .u8 0), .im (.int .u8 0), .im (.int .u8 0), .im (.int .u8 0)] := by kernel_rfl
theorem F_al_25 : alOf Tryd.prog 25 = some [.im (.int .i64 0), .im (.int .u32 0), .im (.string ByteArray.empty), .im (.int .i64 0), .sl [] .nl] := by kernel_rfl
theorem F_al_33 : alOf Tryd.prog 33 = some [.sl [] .nl] := by kernel_rfl
theorem F_al_34 : alOf Tryd.prog 34 = some [.sl [] .nl] := by kernel_rfl
theorem F_al_36 : alOf Tryd.prog 36 = some [.im (.int .i64 0), .im (.int .i64 0), .im (.string ByteArray.empty), .sl [] .nl, .sl [] .nl, .sl [] .nl, .sl [] .nl] := by kernel_rfl
theorem F_al_39 : alOf Tryd.prog 39 = some [.im (.string ByteArray.empty), .sl [] .nl, .sl [] .nl] := by kernel_rfl
theorem F_al_49 : alOf Tryd.prog 49 = some [.im (.pointer none), .sl [] .nl] := by kernel_rfl
theorem F_al_5 : alOf Tryd.prog 5 = some [.im (.int .u8 0)] := by kernel_rfl
theorem F_al_51 : alOf Tryd.prog 51 = some [.im (.pointer none), .sl [] .nl, .im (.int .i64 0)] := by kernel_rfl
theorem F_al_59 : alOf Tryd.prog 59 = some [.im (.int .i64 0), .im (.int .i64 0), .im (.int .i64 0), .sl [] .nl, .sl [] .nl] := by kernel_rfl
theorem F_al_62 : alOf Tryd.prog 62 = some [.im (.string ByteArray.empty), .im (.int .i64 0), .im (.int .i64 0), .im (.int .i64 0), .sl [] .nl, .sl [] .nl] := by kernel_rfl
theorem F_al_70 : alOf Tryd.prog 70 = some [.im (.string ByteArray.empty), .im (.int .i64 0)] := by kernel_rfl
theorem F_al_78 : alOf Tryd.prog 78 = some [.im (.int .i64 0), .im (.int .i64 0), .im (.string ByteArray.empty), .sl [] .nl, .sl [] .nl, .sl [] .nl, .sl [] .nl, .im (.bool false)] := by kernel_rfl
theorem F_al_84 : alOf Tryd.prog 84 = some [.im (.int .u8 0), .im (.int .u8 0), .im (.int .u8 0), .im (.int .u8 0), .im (.int .u8 0), .im (.int .u8 0), .im (.int .u8 0), .im (.int .u8 0), .im (.int .u8 0), .im (.int .u8 0), .im (.int .u8 0), .im (.int .u8 0), .im (.int .u8 0), .im (.int .u8 0), .im (.int .u8 0), .im (.int .u8 0), .im (.int .u8 0), .im (.int .u8 0), .im (.int .u8 0), .im (.int .u8 0), .im (.int .u8 0), .im (.int .u8 0), .im (.int .u8 0), .im (.int .u8 0), .im (.int .u8 0), .im (.int .u8 0), .im (.int .u8 0), .im (.int .u8 0), .im (.int .u8 0), .im (.int .u8 0), .im (.int .u8 0), .im (.int .u8 0), .im (.int .u8 0), .im (.int .u8 0), .im (.int .u8 0), .im (.int .u8 0), .im (.int .u8 0), .im (.int .u8 0), .im (.int .u8 0), .im (.int .u8 0), .im (.int .u8 0), .im (.int .u8 0), .im (.int .u8 0), .im (.int .u8 0), .im (.int .u8 0), .im (.int .u8 0), .im (.int .u8 0), .im (.int .u8 0), .im (.int .u8 0), .im (.int .u8 0), .im (.int .u8 0), .im (.int .u8 0), .im (.int .u8 0), .im (.int .u8 0), .im (.int .u8 0), .im (.int .u8 0), .im (.int .u8 0), .im (.int .u8 0), .im (.int .u8 0), .im (.int .u8 0), .im (.int .u8 0), .im (.int .u8 0), .im (.int .u8 0), .im (.int .u8 0), .im (.int .u8 0), .im (.int .u8 0), .im (.int .u8 0), .im (.int .u8 0), .im (.int .u8 0), .im (.int .u8 0), .im (.int .u8 0), .im (.int .u8 0), .im (.int .u8 0), .im (.int .u8 0), .im (.int .u8 0), .im (.int .u8 0), .im (.int .u8 0), .im (.int .u8 0), .im (.int .u8 0), .im (.int .u8 0), .im (.int .u8 0), .im (.int .u8 0), .im (.int .u8 0), .im (.int .u8 0), .im (.int .u8 0), .im (.int .u8 0), .im (.int .u8 0), .im (.int .u8 0), .im (.int .u8 0), .im (.int .u8 0), .im (.int .u8 0), .im (.int .u8 0), .im (.int .u8 0), .im (.int .u8 0), .im (.int .u8 0), .im (.int .u8 0), .im (.int .u8 0), .im (.int .u8 0), .im (.int .u8 0), .im (.int .u8 0), .im (.int .u8 0), .im (.int .u8 0), .im (.int .u8 0), .im (.int .u8 0), .im (.int .u8 0), .im (.int .u8 0), .im (.int .u8 0), .im (.int .u8 0), .im (.int .u8 0), .im (.int .u8 0), .im (.int .u8 0), .im (.int .u8 0), .im (.int .u8 0), .im (.int .u8 0), .im (.int .u8 0), .im (.int .u8 0), .im (.int .u8 0), .im (.int .u8 0), .im (.int .u8 0), .im (.int .u8 0), .im (.int .u8 0), .im (.int .u8 0), .im (.int .u8 0), .im (.int .u8 0), .im (.int .u8 0), .im (.int .u8 0), .im (.int .u8 0), .im (.int .u8 0), .im (.int .u8 0), .im (.int .u8 0), .im (.int .u8 0), .im (.int .u8 0), .im (.int .u8 0), .im (.int .u8 0), .im (.int .u8 0), .im (.int .u8 0), .im (.int .u8 0), .im (.int .u8 0), .im (.int .u8 0), .im (.int .u8 0), .im (.int .u8 0), .im (.int .u8 0), .im (.int .u8 0), .im (.int .u8 0), .im (.int .u8 0), .im (.int .u8 0), .im (.int .u8 0), .im (.int .u8 0), .im (.int .u8 0), .im (.int .u8 0), .im (.int .u8 0), .im (.int .u8 0), .im (.int .u8 0), .im (.int .u8 0), .im (.int .u8 0), .im (.int .u8 0), .im (.int .u8 0), .im (.int .u8 0), .im (.int .u8 0), .im (.int .u8 0), .im (.int .u8 0), .im (.int .u8 0), .im (.int .u8 0), .im (.int .u8 0), .im (.int .u8 0), .im (.int .u8 0), .im (.int .u8 0), .im (.int .u8 0), .im (.int .u8 0), .im (.int .u8 0), .im (.int .u8 0), .im (.int .u8 0), .im (.int .u8 0), .im (.int .u8 0), .im (.int .u8 0), .im (.int .u8 0), .im (.int .u8 0), .im (.int .u8 0), .im (.int .u8 0), .im (.int .u8 0), .im (.int .u8 0), .im (.int .u8 0), .im (.int .u8 0), .im (.int .u8 0), .im (.int .u8 0), .im (.int .u8 0), .im (.int .u8 0), .im (.int .u8 0), .im (.int .u8 0), .im (.int .u8 0), .im (.int .u8 0), .im (.int .u8 0), .im (.int .u8 0), .im (.int .u8 0), .im (.int .u8 0), .im (.int .u8 0), .im (.int .u8 0), .im (.int .u8 0), .im (.int .u8 0), .im (.int .u8 0), .im (.int .u8 0), .im (.int .u8 0), .im (.int .u8 0), .im (.int .u8 0), .im (.int .u8 0), .im (.int .u8 0), .im (.int .u8 0), .im (.int .u8 0), .im (.int .u8 0), .im (.int .u8 0), .im (.int .u8 0), .im (.int .u8 0), .im (.int .u8 0), .im (.int .u8 0), .im (.int .u8 0), .im (.int .u8 0), .im (.int .u8 0), .im (.int .u8 0), .im (.int .u8 0), .im (.int .u8 0), .im (.int .u8 0), .im (.int .u8 0), .im (.int .u8 0), .im (.int .u8 0), .im (.int .u8 0), .im (.int .u8 0), .im (.int .u8 0), .im (.int .u8 0), .im (.int .u8 0), .im (.int .u8 0), .im (.int .u8 0), .im (.int .u8 0), .im (.int .u8 0), .im (.int .u8 0), .im (.int .u8 0), .im (.int .u8 0), .im (.int .u8 0), .im (.int .u8 0), .im (.int .u8 0), .im (.int .u8 0), .im (.int .u8 0), .im (.int .u8 0), .im (.int .u8 0), .im (.int .u8 0), .im (.int .u8 0), .im (.int .u8 0), .im (.int .u8 0), .im (.int .u8 0), .im (.int .u8 0), .im (.int .u8 0), .im (.int .u8 0), .im (.int .u8 0), .im (.int .u8 0), .im (.int .u8 0), .im (.int .u8 0), .im (.int .u8 0)] := by kernel_rfl
theorem F_al_9 : alOf Tryd.prog 9 = some [.im (.string ByteArray.empty)] := by kernel_rfl
theorem F_al_93 : alOf Tryd.prog 93 = some [.im (.string ByteArray.empty), .im (.int .i64 0), .im (.string ByteArray.empty), .im (.int .i64 0), .im (.string ByteArray.empty), .im (.int .i64 0), .im (.string ByteArray.empty), .im (.int .i64 0), .im (.string ByteArray.empty), .im (.int .i64 0), .im (.string ByteArray.empty), .im (.int .i64 0), .im (.string ByteArray.empty), .im (.int .i64 0), .im (.string ByteArray.empty), .im (.int .i64 0), .im (.string ByteArray.empty), .im (.int .i64 0), .im (.string ByteArray.empty), .im (.int .i64 0), .im (.string ByteArray.empty), .im (.int .i64 0), .im (.string ByteArray.empty), .im (.int .i64 0), .im (.string ByteArray.empty), .im (.int .i64 0)] := by kernel_rfl
theorem F_ar_136 : arOf Tryd.prog 136 = some (24, 5) := by kernel_rfl
theorem F_ar_155 : arOf Tryd.prog 155 = some (20, 90) := by kernel_rfl
theorem F_ar_156 : arOf Tryd.prog 156 = some (65, 5) := by kernel_rfl
theorem F_ar_162 : arOf Tryd.prog 162 = some (32, 5) := by kernel_rfl
theorem F_ar_163 : arOf Tryd.prog 163 = some (64, 5) := by kernel_rfl
theorem F_ar_84 : arOf Tryd.prog 84 = some (256, 5) := by kernel_rfl
theorem F_ar_93 : arOf Tryd.prog 93 = some (13, 70) := by kernel_rfl
theorem F_by_106 : byOf Tryd.prog 106 = some 16 := by kernel_rfl
theorem F_by_33 : byOf Tryd.prog 33 = some 24 := by kernel_rfl
theorem F_by_5 : byOf Tryd.prog 5 = some 1 := by kernel_rfl
theorem F_by_62 : byOf Tryd.prog 62 = some 88 := by kernel_rfl
theorem F_by_78 : byOf Tryd.prog 78 = some 136 := by kernel_rfl
theorem F_el_104 : elOf Tryd.prog 104 = some 106 := by kernel_rfl
theorem F_el_125 : elOf Tryd.prog 125 = some 131 := by kernel_rfl
theorem F_el_126 : elOf Tryd.prog 126 = some 134 := by kernel_rfl
theorem F_el_141 : elOf Tryd.prog 141 = some 34 := by kernel_rfl
theorem F_el_23 : elOf Tryd.prog 23 = some 25 := by kernel_rfl
theorem F_el_33 : elOf Tryd.prog 33 = some 36 := by kernel_rfl
theorem F_el_34 : elOf Tryd.prog 34 = some 33 := by kernel_rfl
theorem F_el_37 : elOf Tryd.prog 37 = some 62 := by kernel_rfl
theorem F_el_47 : elOf Tryd.prog 47 = some 5 := by kernel_rfl
theorem F_el_54 : elOf Tryd.prog 54 = some 9 := by kernel_rfl
theorem F_el_56 : elOf Tryd.prog 56 = some 59 := by kernel_rfl
theorem F_el_57 : elOf Tryd.prog 57 = some 114 := by kernel_rfl
theorem F_el_75 : elOf Tryd.prog 75 = some 78 := by kernel_rfl
theorem F_fl_106_0 : flOf Tryd.prog 106 0 = some (0, 3) := by kernel_rfl
theorem F_fl_106_1 : flOf Tryd.prog 106 1 = some (1, 3) := by kernel_rfl
theorem F_fl_114_0 : flOf Tryd.prog 114 0 = some (0, 3) := by kernel_rfl
theorem F_fl_114_1 : flOf Tryd.prog 114 1 = some (1, 59) := by kernel_rfl
theorem F_fl_122_0 : flOf Tryd.prog 122 0 = some (0, 49) := by kernel_rfl
theorem F_fl_128_0 : flOf Tryd.prog 128 0 = some (0, 125) := by kernel_rfl
theorem F_fl_128_1 : flOf Tryd.prog 128 1 = some (1, 126) := by kernel_rfl
theorem F_fl_128_2 : flOf Tryd.prog 128 2 = some (2, 3) := by kernel_rfl
theorem F_fl_131_0 : flOf Tryd.prog 131 0 = some (0, 129) := by kernel_rfl
theorem F_fl_131_1 : flOf Tryd.prog 131 1 = some (1, 129) := by kernel_rfl
theorem F_fl_131_2 : flOf Tryd.prog 131 2 = some (2, 129) := by kernel_rfl
theorem F_fl_134_0 : flOf Tryd.prog 134 0 = some (0, 22) := by kernel_rfl
theorem F_fl_134_1 : flOf Tryd.prog 134 1 = some (1, 22) := by kernel_rfl
theorem F_fl_134_2 : flOf Tryd.prog 134 2 = some (2, 22) := by kernel_rfl
theorem F_fl_25_0 : flOf Tryd.prog 25 0 = some (0, 3) := by kernel_rfl
theorem F_fl_25_1 : flOf Tryd.prog 25 1 = some (1, 22) := by kernel_rfl
theorem F_fl_25_2 : flOf Tryd.prog 25 2 = some (2, 9) := by kernel_rfl
theorem F_fl_25_3 : flOf Tryd.prog 25 3 = some (3, 3) := by kernel_rfl
theorem F_fl_25_4 : flOf Tryd.prog 25 4 = some (4, 23) := by kernel_rfl
theorem F_fl_36_0 : flOf Tryd.prog 36 0 = some (0, 3) := by kernel_rfl
theorem F_fl_36_1 : flOf Tryd.prog 36 1 = some (1, 3) := by kernel_rfl
theorem F_fl_36_2 : flOf Tryd.prog 36 2 = some (2, 9) := by kernel_rfl
theorem F_fl_36_3 : flOf Tryd.prog 36 3 = some (3, 23) := by kernel_rfl
theorem F_fl_36_4 : flOf Tryd.prog 36 4 = some (4, 33) := by kernel_rfl
theorem F_fl_36_5 : flOf Tryd.prog 36 5 = some (5, 33) := by kernel_rfl
theorem F_fl_36_6 : flOf Tryd.prog 36 6 = some (6, 34) := by kernel_rfl
theorem F_fl_39_0 : flOf Tryd.prog 39 0 = some (0, 9) := by kernel_rfl
theorem F_fl_39_1 : flOf Tryd.prog 39 1 = some (1, 37) := by kernel_rfl
theorem F_fl_39_2 : flOf Tryd.prog 39 2 = some (2, 33) := by kernel_rfl
theorem F_fl_49_0 : flOf Tryd.prog 49 0 = some (0, 46) := by kernel_rfl
theorem F_fl_49_1 : flOf Tryd.prog 49 1 = some (1, 47) := by kernel_rfl
theorem F_fl_51_0 : flOf Tryd.prog 51 0 = some (0, 49) := by kernel_rfl
theorem F_fl_51_1 : flOf Tryd.prog 51 1 = some (2, 3) := by kernel_rfl
theorem F_fl_59_0 : flOf Tryd.prog 59 0 = some (0, 3) := by kernel_rfl
theorem F_fl_59_1 : flOf Tryd.prog 59 1 = some (1, 3) := by kernel_rfl
theorem F_fl_59_2 : flOf Tryd.prog 59 2 = some (2, 3) := by kernel_rfl
theorem F_fl_59_3 : flOf Tryd.prog 59 3 = some (3, 56) := by kernel_rfl
theorem F_fl_59_4 : flOf Tryd.prog 59 4 = some (4, 57) := by kernel_rfl
theorem F_fl_62_0 : flOf Tryd.prog 62 0 = some (0, 9) := by kernel_rfl
theorem F_fl_62_1 : flOf Tryd.prog 62 1 = some (1, 59) := by kernel_rfl
theorem F_fl_70_0 : flOf Tryd.prog 70 0 = some (0, 9) := by kernel_rfl
theorem F_fl_70_1 : flOf Tryd.prog 70 1 = some (1, 3) := by kernel_rfl
theorem F_fl_78_0 : flOf Tryd.prog 78 0 = some (0, 36) := by kernel_rfl
theorem F_in_116 : inOf Tryd.prog 116 = some .u64 := by kernel_rfl
theorem F_in_129 : inOf Tryd.prog 129 = some .u16 := by kernel_rfl
theorem F_in_143 : inOf Tryd.prog 143 = none := by kernel_rfl
theorem F_in_2 : inOf Tryd.prog 2 = some .i64 := by kernel_rfl
theorem F_in_21 : inOf Tryd.prog 21 = some .i32 := by kernel_rfl
theorem F_in_22 : inOf Tryd.prog 22 = some .u32 := by kernel_rfl
theorem F_in_3 : inOf Tryd.prog 3 = some .i64 := by kernel_rfl
theorem F_in_46 : inOf Tryd.prog 46 = none := by kernel_rfl
theorem F_in_47 : inOf Tryd.prog 47 = none := by kernel_rfl
theorem F_in_5 : inOf Tryd.prog 5 = some .u8 := by kernel_rfl
theorem F_in_9 : inOf Tryd.prog 9 = none := by kernel_rfl
theorem F_in_90 : inOf Tryd.prog 90 = some .u64 := by kernel_rfl
theorem F_st_106 : stOf Tryd.prog 106 = some [(0, 1), (1, 1)] := by kernel_rfl
theorem F_st_122 : stOf Tryd.prog 122 = some [(0, 2)] := by kernel_rfl
theorem F_st_128 : stOf Tryd.prog 128 = some [(0, 1), (1, 1), (2, 1)] := by kernel_rfl
theorem F_st_131 : stOf Tryd.prog 131 = some [(0, 1), (1, 1), (2, 1)] := by kernel_rfl
theorem F_st_25 : stOf Tryd.prog 25 = some [(0, 1), (1, 1), (2, 1), (3, 1), (4, 1)] := by kernel_rfl
theorem F_st_36 : stOf Tryd.prog 36 = some [(0, 1), (1, 1), (2, 1), (3, 1), (4, 1), (5, 1), (6, 1)] := by kernel_rfl
theorem F_st_39 : stOf Tryd.prog 39 = some [(0, 1), (1, 1), (2, 1)] := by kernel_rfl
theorem F_st_51 : stOf Tryd.prog 51 = some [(0, 2), (2, 1)] := by kernel_rfl
theorem F_st_59 : stOf Tryd.prog 59 = some [(0, 1), (1, 1), (2, 1), (3, 1), (4, 1)] := by kernel_rfl
theorem F_st_62 : stOf Tryd.prog 62 = some [(0, 1), (1, 5)] := by kernel_rfl
theorem F_st_70 : stOf Tryd.prog 70 = some [(0, 1), (1, 1)] := by kernel_rfl
theorem F_st_78 : stOf Tryd.prog 78 = some [(0, 7), (7, 1)] := by kernel_rfl
theorem F_sz_106 : szOf Tryd.prog 106 = some 2 := by kernel_rfl
theorem F_sz_108 : szOf Tryd.prog 108 = some 1 := by kernel_rfl
theorem F_sz_114 : szOf Tryd.prog 114 = some 6 := by kernel_rfl
theorem F_sz_125 : szOf Tryd.prog 125 = some 1 := by kernel_rfl
theorem F_sz_126 : szOf Tryd.prog 126 = some 1 := by kernel_rfl
theorem F_sz_129 : szOf Tryd.prog 129 = some 1 := by kernel_rfl
theorem F_sz_131 : szOf Tryd.prog 131 = some 3 := by kernel_rfl
theorem F_sz_134 : szOf Tryd.prog 134 = some 3 := by kernel_rfl
theorem F_sz_155 : szOf Tryd.prog 155 = some 20 := by kernel_rfl
theorem F_sz_162 : szOf Tryd.prog 162 = some 32 := by kernel_rfl
theorem F_sz_163 : szOf Tryd.prog 163 = some 64 := by kernel_rfl
theorem F_sz_22 : szOf Tryd.prog 22 = some 1 := by kernel_rfl
theorem F_sz_23 : szOf Tryd.prog 23 = some 1 := by kernel_rfl
theorem F_sz_25 : szOf Tryd.prog 25 = some 5 := by kernel_rfl
theorem F_sz_3 : szOf Tryd.prog 3 = some 1 := by kernel_rfl
theorem F_sz_33 : szOf Tryd.prog 33 = some 1 := by kernel_rfl
theorem F_sz_34 : szOf Tryd.prog 34 = some 1 := by kernel_rfl
theorem F_sz_36 : szOf Tryd.prog 36 = some 7 := by kernel_rfl
theorem F_sz_37 : szOf Tryd.prog 37 = some 1 := by kernel_rfl
theorem F_sz_39 : szOf Tryd.prog 39 = some 3 := by kernel_rfl
theorem F_sz_46 : szOf Tryd.prog 46 = some 1 := by kernel_rfl
theorem F_sz_47 : szOf Tryd.prog 47 = some 1 := by kernel_rfl
theorem F_sz_49 : szOf Tryd.prog 49 = some 2 := by kernel_rfl
theorem F_sz_5 : szOf Tryd.prog 5 = some 1 := by kernel_rfl
theorem F_sz_56 : szOf Tryd.prog 56 = some 1 := by kernel_rfl
theorem F_sz_57 : szOf Tryd.prog 57 = some 1 := by kernel_rfl
theorem F_sz_59 : szOf Tryd.prog 59 = some 5 := by kernel_rfl
theorem F_sz_62 : szOf Tryd.prog 62 = some 6 := by kernel_rfl
theorem F_sz_70 : szOf Tryd.prog 70 = some 2 := by kernel_rfl
theorem F_sz_78 : szOf Tryd.prog 78 = some 8 := by kernel_rfl
theorem F_sz_84 : szOf Tryd.prog 84 = some 256 := by kernel_rfl
theorem F_sz_9 : szOf Tryd.prog 9 = some 1 := by kernel_rfl
theorem F_sz_90 : szOf Tryd.prog 90 = some 1 := by kernel_rfl
theorem F_sz_93 : szOf Tryd.prog 93 = some 26 := by kernel_rfl
theorem F_un_116 : Tryd.prog.underlying 116 = some (.int .u64) := by kernel_rfl
theorem F_un_125 : Tryd.prog.underlying 125 = some (.slice 131) := by kernel_rfl
theorem F_un_129 : Tryd.prog.underlying 129 = some (.int .u16) := by kernel_rfl
theorem F_un_2 : Tryd.prog.underlying 2 = some (.int .i64) := by kernel_rfl
theorem F_un_21 : Tryd.prog.underlying 21 = some (.int .i32) := by kernel_rfl
theorem F_un_22 : Tryd.prog.underlying 22 = some (.int .u32) := by kernel_rfl
theorem F_un_3 : Tryd.prog.underlying 3 = some (.int .i64) := by kernel_rfl
theorem F_un_34 : Tryd.prog.underlying 34 = some (.slice 33) := by kernel_rfl
theorem F_un_4 : Tryd.prog.underlying 4 = some (.bool) := by kernel_rfl
theorem F_un_47 : Tryd.prog.underlying 47 = some (.slice 5) := by kernel_rfl
theorem F_un_5 : Tryd.prog.underlying 5 = some (.int .u8) := by kernel_rfl
theorem F_un_54 : Tryd.prog.underlying 54 = some (.slice 9) := by kernel_rfl
theorem F_un_9 : Tryd.prog.underlying 9 = some (.string) := by kernel_rfl
theorem F_un_90 : Tryd.prog.underlying 90 = some (.int .u64) := by kernel_rfl
end Go.Proofs.YtlbfgnpadggbgaaDoor
