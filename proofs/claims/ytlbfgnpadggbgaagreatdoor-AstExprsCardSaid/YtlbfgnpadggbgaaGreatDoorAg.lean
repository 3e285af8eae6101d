/- What the tables say of the types that the program uses. -/
import Derived.Test.YtlbfgnpadggbgaaGreatDoorLd
import Derived.Test.YtlbfgnpadggbgaaGreatDoorChecked
namespace Go.Proofs.YtlbfgnpadggbgaaGreatDoor
set_option linter.unusedSimpArgs false
open Go.RowKit
theorem F_ag_115 : agOf Tryz.prog 115 = some true := by kernel_rfl
theorem F_ag_117 : agOf Tryz.prog 117 = some false := by kernel_rfl
theorem F_ag_123 : agOf Tryz.prog 123 = some true := by kernel_rfl
theorem F_ag_134 : agOf Tryz.prog 134 = some false := by kernel_rfl
theorem F_ag_135 : agOf Tryz.prog 135 = some false := by kernel_rfl
theorem F_ag_138 : agOf Tryz.prog 138 = some false := by kernel_rfl
theorem F_ag_143 : agOf Tryz.prog 143 = some true := by kernel_rfl
theorem F_ag_22 : agOf Tryz.prog 22 = some false := by kernel_rfl
theorem F_ag_23 : agOf Tryz.prog 23 = some false := by kernel_rfl
theorem F_ag_25 : agOf Tryz.prog 25 = some true := by kernel_rfl
theorem F_ag_26 : agOf Tryz.prog 26 = some false := by kernel_rfl
theorem F_ag_3 : agOf Tryz.prog 3 = some false := by kernel_rfl
theorem F_ag_35 : agOf Tryz.prog 35 = some false := by kernel_rfl
theorem F_ag_36 : agOf Tryz.prog 36 = some false := by kernel_rfl
theorem F_ag_38 : agOf Tryz.prog 38 = some true := by kernel_rfl
theorem F_ag_40 : agOf Tryz.prog 40 = some true := by kernel_rfl
theorem F_ag_46 : agOf Tryz.prog 46 = some false := by kernel_rfl
theorem F_ag_5 : agOf Tryz.prog 5 = some false := by kernel_rfl
theorem F_ag_50 : agOf Tryz.prog 50 = some false := by kernel_rfl
theorem F_ag_51 : agOf Tryz.prog 51 = some false := by kernel_rfl
theorem F_ag_53 : agOf Tryz.prog 53 = some true := by kernel_rfl
theorem F_ag_60 : agOf Tryz.prog 60 = some false := by kernel_rfl
theorem F_ag_61 : agOf Tryz.prog 61 = some false := by kernel_rfl
theorem F_ag_63 : agOf Tryz.prog 63 = some true := by kernel_rfl
theorem F_ag_66 : agOf Tryz.prog 66 = some true := by kernel_rfl
theorem F_ag_76 : agOf Tryz.prog 76 = some true := by kernel_rfl
theorem F_ag_85 : agOf Tryz.prog 85 = some true := by kernel_rfl
theorem F_ag_9 : agOf Tryz.prog 9 = some false := by kernel_rfl
theorem F_ag_99 : agOf Tryz.prog 99 = some false := by kernel_rfl
theorem F_al_102 : alOf Tryz.prog 102 = some [.im (.string ByteArray.empty), .im (.int .i64 0), .im (.string ByteArray.empty), .im (.int .i64 0), .im (.string ByteArray.empty), .im (.int .i64 0), .im (.string ByteArray.empty), .im (.int .i64 0), .im (.string ByteArray.empty), .im (.int .i64 0), .im (.string ByteArray.empty), .im (.int .i64 0), .im (.string ByteArray.empty), .im (.int .i64 0), .im (.string ByteArray.empty), .im (.int .i64 0), .im (.string ByteArray.empty), .im (.int .i64 0), .im (.string ByteArray.empty), .im (.int .i64 0), .im (.string ByteArray.empty), .im (.int .i64 0), .im (.string ByteArray.empty), .im (.int .i64 0), .im (.string ByteArray.empty), .im (.int .i64 0)] := by kernel_rfl
theorem F_al_115 : alOf Tryz.prog 115 = some [.im (.int .i64 0), .im (.int .i64 0)] := by kernel_rfl
theorem F_al_123 : alOf Tryz.prog 123 = some [.im (.int .i64 0), .im (.int .i64 0), .im (.int .i64 0), .im (.int .i64 0), .sl [] .nl, .sl [] .nl] := by kernel_rfl
theorem F_al_131 : alOf Tryz.prog 131 = some [.im (.pointer none), .sl [] .nl] := by kernel_rfl
theorem F_al_137 : alOf Tryz.prog 137 = some [.sl [] .nl, .sl [] .nl, .im (.int .i64 0)] := by kernel_rfl
theorem F_al_140 : alOf Tryz.prog 140 = some [.im (.int .u16 0), .im (.int .u16 0), .im (.int .u16 0)] := by kernel_rfl
theorem F_al_143 : alOf Tryz.prog 143 = some [.im (.int .u32 0), .im (.int .u32 0), .im (.int .u32 0)] := by kernel_rfl
theorem F_al_145 : alOf Tryz.prog 145 = some [.im (.int .u8 0), .im (.int .u8 0), .im (.int .u8 0), .im (.int .u8 0), .im (.int .u8 0), .im (.int .u8 0), .im (.int .u8 0), .im (.int .u8 0), .im (.int .u8 0), .im (.int .u8 0), .im (.int .u8 0), .im (.int .u8 0), .im (.int .u8 0), .im (.int .u8 0), .im (.int .u8 0), .im (.int .u8 0), .im (.int .u8 0), .im (.int .u8 0), .im (.int .u8 0), .im (.int .u8 0), .im (.int .u8 0), .im (.int .u8 0), .im (.int .u8 0), .im (.int .u8 0)] := by kernel_rfl
theorem F_al_164 : alOf Tryz.prog 164 = some [.im (.int .u64 0), .im (.int .u64 0), .im (.int .u64 0), .im (.int .u64 0), .im (.int .u64 0), .im (.int .u64 0), .im (.int .u64 0), .im (.int .u64 0), .im (.int .u64 0), .im (.int .u64 0), .im (.int .u64 0), .im (.int .u64 0), .im (.int .u64 0), .im (.int .u64 0), .im (.int .u64 0), .im (.int .u64 0), .im (.int .u64 0), .im (.int .u64 0), .im (.int .u64 0), .im (.int .u64 0)] := by kernel_rfl
theorem F_al_165 : alOf Tryz.prog 165 = some [.im (.int .u8 0), .im (.int .u8 0), .im (.int .u8 0), .im (.int .u8 0), .im (.int .u8 0), .im (.int .u8 0), .im (.int .u8 0), .im (.int .u8 0), .im (.int .u8 0), .im (.int .u8 0), .im (.int .u8 0), .im (.int .u8 0), .im (.int .u8 0), .im (.int .u8 0), .im (.int .u8 0), .im (.int .u8 0), .im (.int .u8 0), .im (.int .u8 0), .im (.int .u8 0), .im (.int .u8 0), .im (.int .u8 0), .im (.int .u8 0), .im (.int .u8 0), .im (.int .u8 0), .im (.int .u8 0), .im (.int .u8 0), .im (.int .u8 0), .im (.int .u8 0), .im (.int .u8 0), .im (.int .u8 0), .im (.int .u8 0), .im (.int .u8 0), .im (.int .u8 0), .im (.int .u8 0), .im (.int .u8 0), .im (.int .u8 0), .im (.int .u8 0), .im (.int .u8 0), .im (.int .u8 0), .im (.int .u8 0), .im (.int .u8 0), .im (.int .u8 0), .im (.int .u8 0), .im (.int .u8 0), .im (.int .u8 0), .im (.int .u8 0), .im (.int .u8 0), .im (.int .u8 0), .im (.int .u8 0), .im (.int .u8 0), .im (.int .u8 0), .im (.int .u8 0), .im (.int .u8 0), .im (.int .u8 0), .im (.int .u8 0), .im (.int .u8 0), .im (.int .u8 0), .im (.int .u8 0), .im (.int .u8 0), .im (.int .u8 0), .im (.int .u8 0), .im (.int .u8 0), .im (.int .u8 0), .im (.int .u8 0), .im (.int .u8 0)] := by kernel_rfl
theorem F_al_171 : alOf Tryz.prog 171 = some [.im (.int .u8 0), .im (.int .u8 0), .im (.int .u8 0), .im (.int .u8 0), .im (.int .u8 0), .im (.int .u8 0), .im (.int .u8 0), .im (.int .u8 0), .im (.int .u8 0), .im (.int .u8 0), .im (.int .u8 0), .im (.int .u8 0), .im (.int .u8 0), .im (.int .u8 0), .im (.int .u8 0), .im (.int .u8 0), .im (.int .u8 0), .im (.int .u8 0), .im (.int .u8 0), .im (.int .u8 0), .im (.int .u8 0), .im (.int .u8 0), .im (.int .u8 0), .im (.int .u8 0), .im (.int .u8 0), .im (.int .u8 0), .im (.int .u8 0), .im (.int .u8 0), .im (.int .u8 0), .im (.int .u8 0), .im (.int .u8 0), .im (.int .u8 0)] := by kernel_rfl
theorem F_al_172 : alOf Tryz.prog 172 = some [.im (.int .u8 0), .im (.int .u8 0), .im (.int .u8 0), .im (.int .u8 0), .im (.int .u8 0), .im (.int .u8 0), .im (.int .u8 0), .im (.int .u8 0), .im (.int .u8 0), .im (.int .u8 0), .im (.int .u8 0), .im (.int .u8 0), .im (.int .u8 0), .im (.int .u8 0), .im (.int .u8 0), .im (.int .u8 0), .im (.int .u8 0), .im (.int .u8 0), .im (.int .u8 0), .im (.int .u8 0), .im (.int .u8 0), .im (.int .u8 0), .im (.int .u8 0), .im (.int .u8 0), .im (.int .u8 0), .im (.int .u8 0), .im (.int .u8 0), .im (.int .u8 0), .im (.int .u8 0), .im (.int .u8 0), .im (.int .u8 0), .im (.int .u8 0), .im (.int .u8 0), .im (.int .u8 0), .im (.int .u8 0), .im (.int .u8 0), .im (.int .u8 0), .im (.int .u8 0), .im (.int .u8 0), .im (.int .u8 0), .im (.int .u8 0), .im (.int .u8 0), .im (.int .u8 0), .im (.int .u8 0), .im (.int .u8 0), .im (.int .u8 0), .im (.int .u8 0), .im (.int .u8 0), .im (.int .u8 0), .im (.int .u8 0), .im (.int .u8 0), .im (.int .u8 0), .im (.int .u8 0), .im (.int .u8 0), .im (.int .u8 0), .im (.int .u8 0), .im (.int .u8 0), .im (.int .u8 0), .im (.int .u8 0), .im (.int .u8 0), .im (.int .u8 0), .im (.int .u8 0), .im (.int .u8 0), .im (.int .u8 0)] := by kernel_rfl
theorem F_al_25 : alOf Tryz.prog 25 = some [.im (.int .i64 0), .im (.int .u32 0), .im (.string ByteArray.empty), .im (.int .i64 0), .sl [] .nl] := by kernel_rfl
theorem F_al_35 : alOf Tryz.prog 35 = some [.sl [] .nl] := by kernel_rfl
theorem F_al_36 : alOf Tryz.prog 36 = some [.sl [] .nl] := by kernel_rfl
theorem F_al_38 : alOf Tryz.prog 38 = some [.im (.int .i64 0), .im (.int .i64 0), .im (.string ByteArray.empty), .sl [] .nl, .sl [] .nl, .sl [] .nl, .sl [] .nl] := by kernel_rfl
theorem F_al_40 : alOf Tryz.prog 40 = some [.im (.string ByteArray.empty), .sl [] .nl, .sl [] .nl] := by kernel_rfl
theorem F_al_5 : alOf Tryz.prog 5 = some [.im (.int .u8 0)] := by kernel_rfl
theorem F_al_53 : alOf Tryz.prog 53 = some [.im (.pointer none), .sl [] .nl] := by kernel_rfl
theorem F_al_55 : alOf Tryz.prog 55 = some [.im (.pointer none), .sl [] .nl, .im (.int .i64 0)] := by kernel_rfl
theorem F_al_63 : alOf Tryz.prog 63 = some [.im (.int .i64 0), .im (.int .i64 0), .im (.int .i64 0), .sl [] .nl, .sl [] .nl] := by kernel_rfl
theorem F_al_66 : alOf Tryz.prog 66 = some [.im (.string ByteArray.empty), .im (.int .i64 0), .im (.int .i64 0), .im (.int .i64 0), .sl [] .nl, .sl [] .nl] := by kernel_rfl
theorem F_al_76 : alOf Tryz.prog 76 = some [.im (.string ByteArray.empty), .im (.int .i64 0)] := by kernel_rfl
theorem F_al_85 : alOf Tryz.prog 85 = some [.im (.int .i64 0), .im (.int .i64 0), .im (.string ByteArray.empty), .sl [] .nl, .sl [] .nl, .sl [] .nl, .sl [] .nl, .im (.bool false)] := by kernel_rfl
theorem F_al_9 : alOf Tryz.prog 9 = some [.im (.string ByteArray.empty)] := by kernel_rfl
theorem F_al_91 : alOf Tryz.prog 91 = some [.im (.int .u8 0), .im (.int .u8 0), .im (.int .u8 0), .im (.int .u8 0), .im (.int .u8 0), .im (.int .u8 0), .im (.int .u8 0), .im (.int .u8 0), .im (.int .u8 0), .im (.int .u8 0), .im (.int .u8 0), .im (.int .u8 0), .im (.int .u8 0), .im (.int .u8 0), .im (.int .u8 0), .im (.int .u8 0), .im (.int .u8 0), .im (.int .u8 0), .im (.int .u8 0), .im (.int .u8 0), .im (.int .u8 0), .im (.int .u8 0), .im (.int .u8 0), .im (.int .u8 0), .im (.int .u8 0), .im (.int .u8 0), .im (.int .u8 0), .im (.int .u8 0), .im (.int .u8 0), .im (.int .u8 0), .im (.int .u8 0), .im (.int .u8 0), .im (.int .u8 0), .im (.int .u8 0), .im (.int .u8 0), .im (.int .u8 0), .im (.int .u8 0), .im (.int .u8 0), .im (.int .u8 0), .im (.int .u8 0), .im (.int .u8 0), .im (.int .u8 0), .im (.int .u8 0), .im (.int .u8 0), .im (.int .u8 0), .im (.int .u8 0), .im (.int .u8 0), .im (.int .u8 0), .im (.int .u8 0), .im (.int .u8 0), .im (.int .u8 0), .im (.int .u8 0), .im (.int .u8 0), .im (.int .u8 0), .im (.int .u8 0), .im (.int .u8 0), .im (.int .u8 0), .im (.int .u8 0), .im (.int .u8 0), .im (.int .u8 0), .im (.int .u8 0), .im (.int .u8 0), .im (.int .u8 0), .im (.int .u8 0), .im (.int .u8 0), .im (.int .u8 0), .im (.int .u8 0), .im (.int .u8 0), .im (.int .u8 0), .im (.int .u8 0), .im (.int .u8 0), .im (.int .u8 0), .im (.int .u8 0), .im (.int .u8 0), .im (.int .u8 0), .im (.int .u8 0), .im (.int .u8 0), .im (.int .u8 0), .im (.int .u8 0), .im (.int .u8 0), .im (.int .u8 0), .im (.int .u8 0), .im (.int .u8 0), .im (.int .u8 0), .im (.int .u8 0), .im (.int .u8 0), .im (.int .u8 0), .im (.int .u8 0), .im (.int .u8 0), .im (.int .u8 0), .im (.int .u8 0), .im (.int .u8 0), .im (.int .u8 0), .im (.int .u8 0), .im (.int .u8 0), .im (.int .u8 0), .im (.int .u8 0), .im (.int .u8 0), .im (.int .u8 0), .im (.int .u8 0), .im (.int .u8 0), .im (.int .u8 0), .im (.int .u8 0), .im (.int .u8 0), .im (.int .u8 0), .im (.int .u8 0), .im (.int .u8 0), .im (.int .u8 0), .im (.int .u8 0), .im (.int .u8 0), .im (.int .u8 0), .im (.int .u8 0), .im (.int .u8 0), .im (.int .u8 0), .im (.int .u8 0), .im (.int .u8 0), .im (.int .u8 0), .im (.int .u8 0), .im (.int .u8 0), .im (.int .u8 0), .im (.int .u8 0), .im (.int .u8 0), .im (.int .u8 0), .im (.int .u8 0), .im (.int .u8 0), .im (.int .u8 0), .im (.int .u8 0), .im (.int .u8 0), .im (.int .u8 0), .im (.int .u8 0), .im (.int .u8 0), .im (.int .u8 0), .im (.int .u8 0), .im (.int .u8 0), .im (.int .u8 0), .im (.int .u8 0), .im (.int .u8 0), .im (.int .u8 0), .im (.int .u8 0), .im (.int .u8 0), .im (.int .u8 0), .im (.int .u8 0), .im (.int .u8 0), .im (.int .u8 0), .im (.int .u8 0), .im (.int .u8 0), .im (.int .u8 0), .im (.int .u8 0), .im (.int .u8 0), .im (.int .u8 0), .im (.int .u8 0), .im (.int .u8 0), .im (.int .u8 0), .im (.int .u8 0), .im (.int .u8 0), .im (.int .u8 0), .im (.int .u8 0), .im (.int .u8 0), .im (.int .u8 0), .im (.int .u8 0), .im (.int .u8 0), .im (.int .u8 0), .im (.int .u8 0), .im (.int .u8 0), .im (.int .u8 0), .im (.int .u8 0), .im (.int .u8 0), .im (.int .u8 0), .im (.int .u8 0), .im (.int .u8 0), .im (.int .u8 0), .im (.int .u8 0), .im (.int .u8 0), .im (.int .u8 0), .im (.int .u8 0), .im (.int .u8 0), .im (.int .u8 0), .im (.int .u8 0), .im (.int .u8 0), .im (.int .u8 0), .im (.int .u8 0), .im (.int .u8 0), .im (.int .u8 0), .im (.int .u8 0), .im (.int .u8 0), .im (.int .u8 0), .im (.int .u8 0), .im (.int .u8 0), .im (.int .u8 0), .im (.int .u8 0), .im (.int .u8 0), .im (.int .u8 0), .im (.int .u8 0), .im (.int .u8 0), .im (.int .u8 0), .im (.int .u8 0), .im (.int .u8 0), .im (.int .u8 0), .im (.int .u8 0), .im (.int .u8 0), .im (.int .u8 0), .im (.int .u8 0), .im (.int .u8 0), .im (.int .u8 0), .im (.int .u8 0), .im (.int .u8 0), .im (.int .u8 0), .im (.int .u8 0), .im (.int .u8 0), .im (.int .u8 0), .im (.int .u8 0), .im (.int .u8 0), .im (.int .u8 0), .im (.int .u8 0), .im (.int .u8 0), .im (.int .u8 0), .im (.int .u8 0), .im (.int .u8 0), .im (.int .u8 0), .im (.int .u8 0), .im (.int .u8 0), .im (.int .u8 0), .im (.int .u8 0), .im (.int .u8 0), .im (.int .u8 0), .im (.int .u8 0), .im (.int .u8 0), .im (.int .u8 0), .im (.int .u8 0), .im (.int .u8 0), .im (.int .u8 0), .im (.int .u8 0), .im (.int .u8 0), .im (.int .u8 0), .im (.int .u8 0), .im (.int .u8 0), .im (.int .u8 0), .im (.int .u8 0), .im (.int .u8 0), .im (.int .u8 0), .im (.int .u8 0), .im (.int .u8 0), .im (.int .u8 0), .im (.int .u8 0), .im (.int .u8 0), .im (.int .u8 0), .im (.int .u8 0), .im (.int .u8 0), .im (.int .u8 0), .im (.int .u8 0), .im (.int .u8 0), .im (.int .u8 0), .im (.int .u8 0), .im (.int .u8 0), .im (.int .u8 0), .im (.int .u8 0)] := by kernel_rfl
theorem F_ar_102 : arOf Tryz.prog 102 = some (13, 76) := by kernel_rfl
theorem F_ar_145 : arOf Tryz.prog 145 = some (24, 5) := by kernel_rfl
theorem F_ar_164 : arOf Tryz.prog 164 = some (20, 99) := by kernel_rfl
theorem F_ar_165 : arOf Tryz.prog 165 = some (65, 5) := by kernel_rfl
theorem F_ar_171 : arOf Tryz.prog 171 = some (32, 5) := by kernel_rfl
theorem F_ar_172 : arOf Tryz.prog 172 = some (64, 5) := by kernel_rfl
theorem F_ar_91 : arOf Tryz.prog 91 = some (256, 5) := by kernel_rfl
theorem F_by_115 : byOf Tryz.prog 115 = some 16 := by kernel_rfl
theorem F_by_35 : byOf Tryz.prog 35 = some 24 := by kernel_rfl
theorem F_by_5 : byOf Tryz.prog 5 = some 1 := by kernel_rfl
theorem F_by_66 : byOf Tryz.prog 66 = some 88 := by kernel_rfl
theorem F_by_85 : byOf Tryz.prog 85 = some 136 := by kernel_rfl
theorem F_el_113 : elOf Tryz.prog 113 = some 115 := by kernel_rfl
theorem F_el_134 : elOf Tryz.prog 134 = some 140 := by kernel_rfl
theorem F_el_135 : elOf Tryz.prog 135 = some 143 := by kernel_rfl
theorem F_el_150 : elOf Tryz.prog 150 = some 36 := by kernel_rfl
theorem F_el_23 : elOf Tryz.prog 23 = some 25 := by kernel_rfl
theorem F_el_26 : elOf Tryz.prog 26 = some 66 := by kernel_rfl
theorem F_el_35 : elOf Tryz.prog 35 = some 38 := by kernel_rfl
theorem F_el_36 : elOf Tryz.prog 36 = some 35 := by kernel_rfl
theorem F_el_51 : elOf Tryz.prog 51 = some 5 := by kernel_rfl
theorem F_el_58 : elOf Tryz.prog 58 = some 9 := by kernel_rfl
theorem F_el_60 : elOf Tryz.prog 60 = some 63 := by kernel_rfl
theorem F_el_61 : elOf Tryz.prog 61 = some 123 := by kernel_rfl
theorem F_el_82 : elOf Tryz.prog 82 = some 85 := by kernel_rfl
theorem F_fl_115_0 : flOf Tryz.prog 115 0 = some (0, 3) := by kernel_rfl
theorem F_fl_115_1 : flOf Tryz.prog 115 1 = some (1, 3) := by kernel_rfl
theorem F_fl_123_0 : flOf Tryz.prog 123 0 = some (0, 3) := by kernel_rfl
theorem F_fl_123_1 : flOf Tryz.prog 123 1 = some (1, 63) := by kernel_rfl
theorem F_fl_131_0 : flOf Tryz.prog 131 0 = some (0, 53) := by kernel_rfl
theorem F_fl_137_0 : flOf Tryz.prog 137 0 = some (0, 134) := by kernel_rfl
theorem F_fl_137_1 : flOf Tryz.prog 137 1 = some (1, 135) := by kernel_rfl
theorem F_fl_137_2 : flOf Tryz.prog 137 2 = some (2, 3) := by kernel_rfl
theorem F_fl_140_0 : flOf Tryz.prog 140 0 = some (0, 138) := by kernel_rfl
theorem F_fl_140_1 : flOf Tryz.prog 140 1 = some (1, 138) := by kernel_rfl
theorem F_fl_140_2 : flOf Tryz.prog 140 2 = some (2, 138) := by kernel_rfl
theorem F_fl_143_0 : flOf Tryz.prog 143 0 = some (0, 22) := by kernel_rfl
theorem F_fl_143_1 : flOf Tryz.prog 143 1 = some (1, 22) := by kernel_rfl
theorem F_fl_143_2 : flOf Tryz.prog 143 2 = some (2, 22) := by kernel_rfl
theorem F_fl_25_0 : flOf Tryz.prog 25 0 = some (0, 3) := by kernel_rfl
theorem F_fl_25_1 : flOf Tryz.prog 25 1 = some (1, 22) := by kernel_rfl
theorem F_fl_25_2 : flOf Tryz.prog 25 2 = some (2, 9) := by kernel_rfl
theorem F_fl_25_3 : flOf Tryz.prog 25 3 = some (3, 3) := by kernel_rfl
theorem F_fl_25_4 : flOf Tryz.prog 25 4 = some (4, 23) := by kernel_rfl
theorem F_fl_38_0 : flOf Tryz.prog 38 0 = some (0, 3) := by kernel_rfl
theorem F_fl_38_1 : flOf Tryz.prog 38 1 = some (1, 3) := by kernel_rfl
theorem F_fl_38_2 : flOf Tryz.prog 38 2 = some (2, 9) := by kernel_rfl
theorem F_fl_38_3 : flOf Tryz.prog 38 3 = some (3, 23) := by kernel_rfl
theorem F_fl_38_4 : flOf Tryz.prog 38 4 = some (4, 35) := by kernel_rfl
theorem F_fl_38_5 : flOf Tryz.prog 38 5 = some (5, 35) := by kernel_rfl
theorem F_fl_38_6 : flOf Tryz.prog 38 6 = some (6, 36) := by kernel_rfl
theorem F_fl_40_0 : flOf Tryz.prog 40 0 = some (0, 9) := by kernel_rfl
theorem F_fl_40_1 : flOf Tryz.prog 40 1 = some (1, 26) := by kernel_rfl
theorem F_fl_40_2 : flOf Tryz.prog 40 2 = some (2, 35) := by kernel_rfl
theorem F_fl_53_0 : flOf Tryz.prog 53 0 = some (0, 50) := by kernel_rfl
theorem F_fl_53_1 : flOf Tryz.prog 53 1 = some (1, 51) := by kernel_rfl
theorem F_fl_55_0 : flOf Tryz.prog 55 0 = some (0, 53) := by kernel_rfl
theorem F_fl_55_1 : flOf Tryz.prog 55 1 = some (2, 3) := by kernel_rfl
theorem F_fl_63_0 : flOf Tryz.prog 63 0 = some (0, 3) := by kernel_rfl
theorem F_fl_63_1 : flOf Tryz.prog 63 1 = some (1, 3) := by kernel_rfl
theorem F_fl_63_2 : flOf Tryz.prog 63 2 = some (2, 3) := by kernel_rfl
theorem F_fl_63_3 : flOf Tryz.prog 63 3 = some (3, 60) := by kernel_rfl
theorem F_fl_63_4 : flOf Tryz.prog 63 4 = some (4, 61) := by kernel_rfl
theorem F_fl_66_0 : flOf Tryz.prog 66 0 = some (0, 9) := by kernel_rfl
theorem F_fl_66_1 : flOf Tryz.prog 66 1 = some (1, 63) := by kernel_rfl
theorem F_fl_76_0 : flOf Tryz.prog 76 0 = some (0, 9) := by kernel_rfl
theorem F_fl_76_1 : flOf Tryz.prog 76 1 = some (1, 3) := by kernel_rfl
theorem F_fl_85_0 : flOf Tryz.prog 85 0 = some (0, 38) := by kernel_rfl
theorem F_in_125 : inOf Tryz.prog 125 = some .u64 := by kernel_rfl
theorem F_in_138 : inOf Tryz.prog 138 = some .u16 := by kernel_rfl
theorem F_in_152 : inOf Tryz.prog 152 = none := by kernel_rfl
theorem F_in_2 : inOf Tryz.prog 2 = some .i64 := by kernel_rfl
theorem F_in_21 : inOf Tryz.prog 21 = some .i32 := by kernel_rfl
theorem F_in_22 : inOf Tryz.prog 22 = some .u32 := by kernel_rfl
theorem F_in_3 : inOf Tryz.prog 3 = some .i64 := by kernel_rfl
theorem F_in_5 : inOf Tryz.prog 5 = some .u8 := by kernel_rfl
theorem F_in_50 : inOf Tryz.prog 50 = none := by kernel_rfl
theorem F_in_51 : inOf Tryz.prog 51 = none := by kernel_rfl
theorem F_in_9 : inOf Tryz.prog 9 = none := by kernel_rfl
theorem F_in_99 : inOf Tryz.prog 99 = some .u64 := by kernel_rfl
theorem F_st_115 : stOf Tryz.prog 115 = some [(0, 1), (1, 1)] := by kernel_rfl
theorem F_st_131 : stOf Tryz.prog 131 = some [(0, 2)] := by kernel_rfl
theorem F_st_137 : stOf Tryz.prog 137 = some [(0, 1), (1, 1), (2, 1)] := by kernel_rfl
theorem F_st_140 : stOf Tryz.prog 140 = some [(0, 1), (1, 1), (2, 1)] := by kernel_rfl
theorem F_st_25 : stOf Tryz.prog 25 = some [(0, 1), (1, 1), (2, 1), (3, 1), (4, 1)] := by kernel_rfl
theorem F_st_38 : stOf Tryz.prog 38 = some [(0, 1), (1, 1), (2, 1), (3, 1), (4, 1), (5, 1), (6, 1)] := by kernel_rfl
theorem F_st_40 : stOf Tryz.prog 40 = some [(0, 1), (1, 1), (2, 1)] := by kernel_rfl
theorem F_st_55 : stOf Tryz.prog 55 = some [(0, 2), (2, 1)] := by kernel_rfl
theorem F_st_63 : stOf Tryz.prog 63 = some [(0, 1), (1, 1), (2, 1), (3, 1), (4, 1)] := by kernel_rfl
theorem F_st_66 : stOf Tryz.prog 66 = some [(0, 1), (1, 5)] := by kernel_rfl
theorem F_st_76 : stOf Tryz.prog 76 = some [(0, 1), (1, 1)] := by kernel_rfl
theorem F_st_85 : stOf Tryz.prog 85 = some [(0, 7), (7, 1)] := by kernel_rfl
theorem F_sz_102 : szOf Tryz.prog 102 = some 26 := by kernel_rfl
theorem F_sz_115 : szOf Tryz.prog 115 = some 2 := by kernel_rfl
theorem F_sz_117 : szOf Tryz.prog 117 = some 1 := by kernel_rfl
theorem F_sz_123 : szOf Tryz.prog 123 = some 6 := by kernel_rfl
theorem F_sz_134 : szOf Tryz.prog 134 = some 1 := by kernel_rfl
theorem F_sz_135 : szOf Tryz.prog 135 = some 1 := by kernel_rfl
theorem F_sz_138 : szOf Tryz.prog 138 = some 1 := by kernel_rfl
theorem F_sz_140 : szOf Tryz.prog 140 = some 3 := by kernel_rfl
theorem F_sz_143 : szOf Tryz.prog 143 = some 3 := by kernel_rfl
theorem F_sz_164 : szOf Tryz.prog 164 = some 20 := by kernel_rfl
theorem F_sz_171 : szOf Tryz.prog 171 = some 32 := by kernel_rfl
theorem F_sz_172 : szOf Tryz.prog 172 = some 64 := by kernel_rfl
theorem F_sz_22 : szOf Tryz.prog 22 = some 1 := by kernel_rfl
theorem F_sz_23 : szOf Tryz.prog 23 = some 1 := by kernel_rfl
theorem F_sz_25 : szOf Tryz.prog 25 = some 5 := by kernel_rfl
theorem F_sz_26 : szOf Tryz.prog 26 = some 1 := by kernel_rfl
theorem F_sz_3 : szOf Tryz.prog 3 = some 1 := by kernel_rfl
theorem F_sz_35 : szOf Tryz.prog 35 = some 1 := by kernel_rfl
theorem F_sz_36 : szOf Tryz.prog 36 = some 1 := by kernel_rfl
theorem F_sz_38 : szOf Tryz.prog 38 = some 7 := by kernel_rfl
theorem F_sz_40 : szOf Tryz.prog 40 = some 3 := by kernel_rfl
theorem F_sz_46 : szOf Tryz.prog 46 = some 1 := by kernel_rfl
theorem F_sz_5 : szOf Tryz.prog 5 = some 1 := by kernel_rfl
theorem F_sz_50 : szOf Tryz.prog 50 = some 1 := by kernel_rfl
theorem F_sz_51 : szOf Tryz.prog 51 = some 1 := by kernel_rfl
theorem F_sz_53 : szOf Tryz.prog 53 = some 2 := by kernel_rfl
theorem F_sz_60 : szOf Tryz.prog 60 = some 1 := by kernel_rfl
theorem F_sz_61 : szOf Tryz.prog 61 = some 1 := by kernel_rfl
theorem F_sz_63 : szOf Tryz.prog 63 = some 5 := by kernel_rfl
theorem F_sz_66 : szOf Tryz.prog 66 = some 6 := by kernel_rfl
theorem F_sz_76 : szOf Tryz.prog 76 = some 2 := by kernel_rfl
theorem F_sz_85 : szOf Tryz.prog 85 = some 8 := by kernel_rfl
theorem F_sz_9 : szOf Tryz.prog 9 = some 1 := by kernel_rfl
theorem F_sz_91 : szOf Tryz.prog 91 = some 256 := by kernel_rfl
theorem F_sz_99 : szOf Tryz.prog 99 = some 1 := by kernel_rfl
theorem F_un_125 : Tryz.prog.underlying 125 = some (.int .u64) := by kernel_rfl
theorem F_un_134 : Tryz.prog.underlying 134 = some (.slice 140) := by kernel_rfl
theorem F_un_138 : Tryz.prog.underlying 138 = some (.int .u16) := by kernel_rfl
theorem F_un_2 : Tryz.prog.underlying 2 = some (.int .i64) := by kernel_rfl
theorem F_un_21 : Tryz.prog.underlying 21 = some (.int .i32) := by kernel_rfl
theorem F_un_22 : Tryz.prog.underlying 22 = some (.int .u32) := by kernel_rfl
theorem F_un_3 : Tryz.prog.underlying 3 = some (.int .i64) := by kernel_rfl
theorem F_un_36 : Tryz.prog.underlying 36 = some (.slice 35) := by kernel_rfl
theorem F_un_5 : Tryz.prog.underlying 5 = some (.int .u8) := by kernel_rfl
theorem F_un_51 : Tryz.prog.underlying 51 = some (.slice 5) := by kernel_rfl
theorem F_un_58 : Tryz.prog.underlying 58 = some (.slice 9) := by kernel_rfl
theorem F_un_9 : Tryz.prog.underlying 9 = some (.string) := by kernel_rfl
theorem F_un_99 : Tryz.prog.underlying 99 = some (.int .u64) := by kernel_rfl
end Go.Proofs.YtlbfgnpadggbgaaGreatDoor
