/- What the tables say of the types that the program uses. -/
import Derived.Test.YtjilcaemoebloaaDoorLd
import Derived.Test.YtjilcaemoebloaaDoorChecked
namespace Go.Proofs.YtjilcaemoebloaaDoor
set_option linter.unusedSimpArgs false
open Go.RowKit
theorem F_ag_128 : agOf Tryd.prog 128 = some true := by kernel_rfl
theorem F_ag_24 : agOf Tryd.prog 24 = some false := by kernel_rfl
theorem F_ag_28 : agOf Tryd.prog 28 = some false := by kernel_rfl
theorem F_ag_3 : agOf Tryd.prog 3 = some false := by kernel_rfl
theorem F_ag_30 : agOf Tryd.prog 30 = some true := by kernel_rfl
theorem F_ag_37 : agOf Tryd.prog 37 = some true := by kernel_rfl
theorem F_ag_4 : agOf Tryd.prog 4 = some false := by kernel_rfl
theorem F_ag_5 : agOf Tryd.prog 5 = some false := by kernel_rfl
theorem F_ag_71 : agOf Tryd.prog 71 = some false := by kernel_rfl
theorem F_ag_74 : agOf Tryd.prog 74 = some false := by kernel_rfl
theorem F_ag_76 : agOf Tryd.prog 76 = some false := by kernel_rfl
theorem F_ag_80 : agOf Tryd.prog 80 = some false := by kernel_rfl
theorem F_ag_9 : agOf Tryd.prog 9 = some false := by kernel_rfl
theorem F_al_105 : alOf Tryd.prog 105 = some [.im (.int .u8 0), .im (.int .u8 0), .im (.int .u8 0), .im (.int .u8 0), .im (.int .u8 0), .im (.int .u8 0), .im (.int .u8 0), .im (.int .u8 0), .im (.int .u8 0), .im (.int .u8 0), .im (.int .u8 0), .im (.int .u8 0), .im (.int .u8 0), .im (.int .u8 0), .im (.int .u8 0), .im (.int .u8 0), .im (.int .u8 0), .im (.int .u8 0), .im (.int .u8 0), .im (.int .u8 0), .im (.int .u8 0), .im (.int .u8 0), .im (.int .u8 0), .im (.int .u8 0)] := by kernel_rfl
theorem F_al_117 : alOf Tryd.prog 117 = some [.im (.int .u64 0), .im (.int .u64 0), .im (.int .u64 0), .im (.int .u64 0), .im (.int .u64 0), .im (.int .u64 0), .im (.int .u64 0), .im (.int .u64 0), .im (.int .u64 0), .im (.int .u64 0), .im (.int .u64 0), .im (.int .u64 0), .im (.int .u64 0), .im (.int .u64 0), .im (.int .u64 0), .im (.int .u64 0), .im (.int .u64 0), .im (.int .u64 0), .im (.int .u64 0), .im (.int .u64 0)] := by kernel_rfl
theorem F_al_118 : alOf Tryd.prog 118 = some [.im (.int .u8 0), .im (.int .u8 0), .im (.int .u8 0), .im (.int .u8 0), .im (.int .u8 0), .im (.int .u8 0), .im (.int .u8 0), .im (.int .u8 0), .im (.int .u8 0), .im (.int .u8 0), .im (.int .u8 0), .im (.int .u8 0), .im (.int .u8 0), .im (.int .u8 0), .im (.int .u8 0), .im (.int .u8 0), .im (.int .u8 0), .im (.int .u8 0), .im (.int .u8 0), .im (.int .u8 0), .im (.int .u8 0), .im (.int .u8 0), .im (.int .u8 0), .im (.int .u8 0), .im (.int .u8 0), .im (.int .u8 0), .im (.int .u8 0), .im (.int .u8 0), .im (.int .u8 0), .im (.int .u8 0), .im (.int .u8 0), .im (.int .u8 0), .im (.int .u8 0), .im (.int .u8 0), .im (.int .u8 0), .im (.int .u8 0), .im (.int .u8 0), .im (.int .u8 0), .im (.int .u8 0), .im (.int .u8 0), .im (.int .u8 0), .im (.int .u8 0), .im (.int .u8 0), .im (.int .u8 0), .im (.int .u8 0), .im (.int .u8 0), .im (.int .u8 0), .im (.int .u8 0), .im (.int .u8 0), .im (.int .u8 0), .im (.int .u8 0), .im (.int .u8 0), .im (.int .u8 0), .im (.int .u8 0), .im (.int .u8 0), .im (.int .u8 0), .im (.int .u8 0), .im (.int .u8 0), .im (.int .u8 0), .im (.int .u8 0), .im (.int .u8 0), .im (.int .u8 0), .im (.int .u8 0), .im (.int .u8 0), .im (.int .u8 0)] := by kernel_rfl
theorem F_al_128 : alOf Tryd.prog 128 = some [.im (.bool false), .im (.bool false), .im (.bool false), .im (.bool false), .im (.bool false), .im (.bool false), .im (.bool false), .im (.bool false), .im (.bool false), .im (.bool false), .im (.bool false), .im (.bool false), .im (.bool false), .im (.bool false), .im (.bool false), .im (.bool false), .im (.bool false), .im (.bool false), .im (.bool false), .im (.bool false), .im (.bool false), .im (.bool false), .im (.bool false), .im (.bool false), .im (.bool false), .im (.bool false), .im (.bool false), .im (.bool false), .im (.bool false), .im (.bool false), .im (.bool false), .im (.bool false), .im (.bool false), .im (.bool false), .im (.bool false), .im (.bool false), .im (.bool false), .im (.bool false), .im (.bool false), .im (.bool false), .im (.bool false), .im (.bool false), .im (.bool false), .im (.bool false), .im (.bool false), .im (.bool false), .im (.bool false), .im (.bool false), .im (.bool false), .im (.bool false), .im (.bool false), .im (.bool false), .im (.bool false), .im (.bool false), .im (.bool false), .im (.bool false), .im (.bool false), .im (.bool false), .im (.bool false), .im (.bool false), .im (.bool false), .im (.bool false), .im (.bool false), .im (.bool false), .im (.bool false), .im (.bool false), .im (.bool false), .im (.bool false), .im (.bool false), .im (.bool false), .im (.bool false), .im (.bool false), .im (.bool false), .im (.bool false), .im (.bool false), .im (.bool false), .im (.bool false), .im (.bool false), .im (.bool false), .im (.bool false), .im (.bool false), .im (.bool false), .im (.bool false), .im (.bool false), .im (.bool false), .im (.bool false), .im (.bool false), .im (.bool false), .im (.bool false), .im (.bool false), .im (.bool false), .im (.bool false), .im (.bool false), .im (.bool false), .im (.bool false), .im (.bool false), .im (.bool false), .im (.bool false), .im (.bool false), .im (.bool false), .im (.bool false), .im (.bool false), .im (.bool false), .im (.bool false), .im (.bool false), .im (.bool false), .im (.bool false), .im (.bool false), .im (.bool false), .im (.bool false), .im (.bool false), .im (.bool false), .im (.bool false), .im (.bool false), .im (.bool false), .im (.bool false), .im (.bool false), .im (.bool false), .im (.bool false), .im (.bool false), .im (.bool false), .im (.bool false), .im (.bool false), .im (.bool false), .im (.bool false), .im (.bool false), .im (.bool false), .im (.bool false), .im (.bool false), .im (.bool false), .im (.bool false), .im (.bool false), .im (.bool false), .im (.bool false), .im (.bool false), .im (.bool false), .im (.bool false), .im (.bool false), .im (.bool false), .im (.bool false), .im (.bool false), .im (.bool false), .im (.bool false), .im (.bool false), .im (.bool false), .im (.bool false), .im (.bool false), .im (.bool false), .im (.bool false), .im (.bool false), .im (.bool false), .im (.bool false), .im (.bool false), .im (.bool false), .im (.bool false), .im (.bool false), .im (.bool false), .im (.bool false), .im (.bool false), .im (.bool false), .im (.bool false), .im (.bool false), .im (.bool false), .im (.bool false), .im (.bool false), .im (.bool false), .im (.bool false), .im (.bool false), .im (.bool false), .im (.bool false), .im (.bool false), .im (.bool false), .im (.bool false), .im (.bool false), .im (.bool false), .im (.bool false), .im (.bool false), .im (.bool false), .im (.bool false), .im (.bool false), .im (.bool false), .im (.bool false), .im (.bool false), .im (.bool false), .im (.bool false), .im (.bool false), .im (.bool false), .im (.bool false), .im (.bool false), .im (.bool false), .im (.bool false), .im (.bool false), .im (.bool false), .im (.bool false), .im (.bool false), .im (.bool false), .im (.bool false), .im (.bool false), .im (.bool false), .im (.bool false), .im (.bool false), .im (.bool false), .im (.bool false), .im (.bool false), .im (.bool false), .im (.bool false), .im (.bool false), .im (.bool false), .im (.bool false), .im (.bool false), .im (.bool false), .im (.bool false), .im (.bool false), .im (.bool false), .im (.bool false), .im (.bool false), .im (.bool false), .im (.bool false), .im (.bool false), .im (.bool false), .im (.bool false), .im (.bool false), .im (.bool false), .im (.bool false), .im (.bool false), .im (.bool false), .im (.bool false), .im (.bool false), .im (.bool false), .im (.bool false), .im (.bool false), .im (.bool false), .im (.bool false), .im (.bool false), .im (.bool false), .im (.bool false), .im (.bool false), .im (.bool false), .im (.bool false), .im (.bool false), .im (.bool false), .im (.bool false), .im (.bool false), .im (.bool false), .im (.bool false), .im (.bool false), .im (.bool false), .im (.bool false), .im (.bool false), .im (.bool false), .im (.bool false), .im (.bool false), .im (.bool false), .im (.bool false), .im (.bool false), .im (.bool false)] := by kernel_rfl
theorem F_al_133 : alOf Tryd.prog 133 = some [.im (.string ByteArray.empty), .im (.string ByteArray.empty), .im .nilIface] := by kernel_rfl
theorem F_al_136 : alOf Tryd.prog 136 = some [.im (.int .u8 0), .im (.int .u8 0), .im (.int .u8 0), .im (.int .u8 0), .im (.int .u8 0), .im (.int .u8 0), .im (.int .u8 0), .im (.int .u8 0), .im (.int .u8 0), .im (.int .u8 0), .im (.int .u8 0), .im (.int .u8 0), .im (.int .u8 0), .im (.int .u8 0), .im (.int .u8 0), .im (.int .u8 0), .im (.int .u8 0), .im (.int .u8 0), .im (.int .u8 0), .im (.int .u8 0), .im (.int .u8 0), .im (.int .u8 0), .im (.int .u8 0), .im (.int .u8 0), .im (.int .u8 0), .im (.int .u8 0), .im (.int .u8 0), .im (.int .u8 0), .im (.int .u8 0), .im (.int .u8 0), .im (.int .u8 0), .im (.int .u8 0)] := by kernel_rfl
theorem F_al_137 : alOf Tryd.prog 137 = some [.im (.int .u8 0), .im (.int .u8 0), .im (.int .u8 0), .im (.int .u8 0), .im (.int .u8 0), .im (.int .u8 0), .im (.int .u8 0), .im (.int .u8 0), .im (.int .u8 0), .im (.int .u8 0), .im (.int .u8 0), .im (.int .u8 0), .im (.int .u8 0), .im (.int .u8 0), .im (.int .u8 0), .im (.int .u8 0), .im (.int .u8 0), .im (.int .u8 0), .im (.int .u8 0), .im (.int .u8 0), .im (.int .u8 0), .im (.int .u8 0), .im (.int .u8 0), .im (.int .u8 0), .im (.int .u8 0), .im (.int .u8 0), .im (.int .u8 0), .im (.int .u8 0), .im (.int .u8 0), .im (.int .u8 0), .im (.int .u8 0), .im (.int .u8 0), .im (.int .u8 0), .im (.int .u8 0), .im (.int .u8 0), .im (.int .u8 0), .im (.int .u8 0), .im (.int .u8 0), .im (.int .u8 0), .im (.int .u8 0), .im (.int .u8 0), .im (.int .u8 0), .im (.int .u8 0), .im (.int .u8 0), .im (.int .u8 0), .im (.int .u8 0), .im (.int .u8 0), .im (.int .u8 0), .im (.int .u8 0), .im (.int .u8 0), .im (.int .u8 0), .im (.int .u8 0), .im (.int .u8 0), .im (.int .u8 0), .im (.int .u8 0), .im (.int .u8 0), .im (.int .u8 0), .im (.int .u8 0), .im (.int .u8 0), .im (.int .u8 0), .im (.int .u8 0), .im (.int .u8 0), .im (.int .u8 0), .im (.int .u8 0)] := by kernel_rfl
theorem F_al_140 : alOf Tryd.prog 140 = some [.im (.string ByteArray.empty)] := by kernel_rfl
theorem F_al_30 : alOf Tryd.prog 30 = some [.im (.int .i64 0), .im (.string ByteArray.empty), .im (.int .u32 0), .im (.int .i64 0), .im (.int .i64 0)] := by kernel_rfl
theorem F_al_37 : alOf Tryd.prog 37 = some [.im (.int .i64 0), .im (.string ByteArray.empty), .im (.int .u32 0), .im (.int .i64 0), .im (.int .i64 0)] := by kernel_rfl
theorem F_al_49 : alOf Tryd.prog 49 = some [.im (.string ByteArray.empty), .im (.int .i64 0), .im (.int .i64 0), .sl [] .nl] := by kernel_rfl
theorem F_al_5 : alOf Tryd.prog 5 = some [.im (.int .u8 0)] := by kernel_rfl
theorem F_al_78 : alOf Tryd.prog 78 = some [.im (.pointer none), .sl [] .nl] := by kernel_rfl
theorem F_al_9 : alOf Tryd.prog 9 = some [.im (.string ByteArray.empty)] := by kernel_rfl
theorem F_ar_105 : arOf Tryd.prog 105 = some (24, 5) := by kernel_rfl
theorem F_ar_117 : arOf Tryd.prog 117 = some (20, 74) := by kernel_rfl
theorem F_ar_118 : arOf Tryd.prog 118 = some (65, 5) := by kernel_rfl
theorem F_ar_128 : arOf Tryd.prog 128 = some (256, 4) := by kernel_rfl
theorem F_ar_136 : arOf Tryd.prog 136 = some (32, 5) := by kernel_rfl
theorem F_ar_137 : arOf Tryd.prog 137 = some (64, 5) := by kernel_rfl
theorem F_by_30 : byOf Tryd.prog 30 = some 48 := by kernel_rfl
theorem F_by_37 : byOf Tryd.prog 37 = some 48 := by kernel_rfl
theorem F_by_5 : byOf Tryd.prog 5 = some 1 := by kernel_rfl
theorem F_by_9 : byOf Tryd.prog 9 = some 16 := by kernel_rfl
theorem F_el_24 : elOf Tryd.prog 24 = some 30 := by kernel_rfl
theorem F_el_33 : elOf Tryd.prog 33 = some 37 := by kernel_rfl
theorem F_el_53 : elOf Tryd.prog 53 = some 9 := by kernel_rfl
theorem F_el_71 : elOf Tryd.prog 71 = some 5 := by kernel_rfl
theorem F_eq_30 : eqK Tryd.prog 30 = some [(0, 0), (1, 1), (2, 0), (3, 0), (4, 0)] := by kernel_rfl
theorem F_eq_37 : eqK Tryd.prog 37 = some [(0, 0), (1, 1), (2, 0), (3, 0), (4, 0)] := by kernel_rfl
theorem F_fl_30_0 : flOf Tryd.prog 30 0 = some (0, 3) := by kernel_rfl
theorem F_fl_30_1 : flOf Tryd.prog 30 1 = some (1, 9) := by kernel_rfl
theorem F_fl_30_2 : flOf Tryd.prog 30 2 = some (2, 28) := by kernel_rfl
theorem F_fl_30_3 : flOf Tryd.prog 30 3 = some (3, 3) := by kernel_rfl
theorem F_fl_30_4 : flOf Tryd.prog 30 4 = some (4, 3) := by kernel_rfl
theorem F_fl_37_0 : flOf Tryd.prog 37 0 = some (0, 3) := by kernel_rfl
theorem F_fl_37_1 : flOf Tryd.prog 37 1 = some (1, 9) := by kernel_rfl
theorem F_fl_37_2 : flOf Tryd.prog 37 2 = some (2, 28) := by kernel_rfl
theorem F_fl_37_3 : flOf Tryd.prog 37 3 = some (3, 3) := by kernel_rfl
theorem F_fl_37_4 : flOf Tryd.prog 37 4 = some (4, 3) := by kernel_rfl
theorem F_fl_49_0 : flOf Tryd.prog 49 0 = some (0, 9) := by kernel_rfl
theorem F_fl_49_1 : flOf Tryd.prog 49 1 = some (1, 3) := by kernel_rfl
theorem F_fl_49_2 : flOf Tryd.prog 49 2 = some (2, 3) := by kernel_rfl
theorem F_fl_49_3 : flOf Tryd.prog 49 3 = some (3, 24) := by kernel_rfl
theorem F_fl_78_0 : flOf Tryd.prog 78 0 = some (0, 76) := by kernel_rfl
theorem F_fl_78_1 : flOf Tryd.prog 78 1 = some (1, 71) := by kernel_rfl
theorem F_in_110 : inOf Tryd.prog 110 = none := by kernel_rfl
theorem F_in_2 : inOf Tryd.prog 2 = some .i64 := by kernel_rfl
theorem F_in_21 : inOf Tryd.prog 21 = some .i32 := by kernel_rfl
theorem F_in_28 : inOf Tryd.prog 28 = some .u32 := by kernel_rfl
theorem F_in_3 : inOf Tryd.prog 3 = some .i64 := by kernel_rfl
theorem F_in_5 : inOf Tryd.prog 5 = some .u8 := by kernel_rfl
theorem F_in_71 : inOf Tryd.prog 71 = none := by kernel_rfl
theorem F_in_74 : inOf Tryd.prog 74 = some .u64 := by kernel_rfl
theorem F_in_76 : inOf Tryd.prog 76 = none := by kernel_rfl
theorem F_in_9 : inOf Tryd.prog 9 = none := by kernel_rfl
theorem F_in_95 : inOf Tryd.prog 95 = some .u64 := by kernel_rfl
theorem F_st_133 : stOf Tryd.prog 133 = some [(0, 1), (1, 1), (2, 1)] := by kernel_rfl
theorem F_st_140 : stOf Tryd.prog 140 = some [(0, 1)] := by kernel_rfl
theorem F_st_30 : stOf Tryd.prog 30 = some [(0, 1), (1, 1), (2, 1), (3, 1), (4, 1)] := by kernel_rfl
theorem F_st_37 : stOf Tryd.prog 37 = some [(0, 1), (1, 1), (2, 1), (3, 1), (4, 1)] := by kernel_rfl
theorem F_st_49 : stOf Tryd.prog 49 = some [(0, 1), (1, 1), (2, 1), (3, 1)] := by kernel_rfl
theorem F_sz_117 : szOf Tryd.prog 117 = some 20 := by kernel_rfl
theorem F_sz_128 : szOf Tryd.prog 128 = some 256 := by kernel_rfl
theorem F_sz_136 : szOf Tryd.prog 136 = some 32 := by kernel_rfl
theorem F_sz_137 : szOf Tryd.prog 137 = some 64 := by kernel_rfl
theorem F_sz_24 : szOf Tryd.prog 24 = some 1 := by kernel_rfl
theorem F_sz_28 : szOf Tryd.prog 28 = some 1 := by kernel_rfl
theorem F_sz_3 : szOf Tryd.prog 3 = some 1 := by kernel_rfl
theorem F_sz_30 : szOf Tryd.prog 30 = some 5 := by kernel_rfl
theorem F_sz_37 : szOf Tryd.prog 37 = some 5 := by kernel_rfl
theorem F_sz_4 : szOf Tryd.prog 4 = some 1 := by kernel_rfl
theorem F_sz_5 : szOf Tryd.prog 5 = some 1 := by kernel_rfl
theorem F_sz_71 : szOf Tryd.prog 71 = some 1 := by kernel_rfl
theorem F_sz_74 : szOf Tryd.prog 74 = some 1 := by kernel_rfl
theorem F_sz_76 : szOf Tryd.prog 76 = some 1 := by kernel_rfl
theorem F_sz_80 : szOf Tryd.prog 80 = some 1 := by kernel_rfl
theorem F_sz_9 : szOf Tryd.prog 9 = some 1 := by kernel_rfl
theorem F_un_2 : Tryd.prog.underlying 2 = some (.int .i64) := by kernel_rfl
theorem F_un_21 : Tryd.prog.underlying 21 = some (.int .i32) := by kernel_rfl
theorem F_un_28 : Tryd.prog.underlying 28 = some (.int .u32) := by kernel_rfl
theorem F_un_3 : Tryd.prog.underlying 3 = some (.int .i64) := by kernel_rfl
theorem F_un_4 : Tryd.prog.underlying 4 = some (.bool) := by kernel_rfl
theorem F_un_5 : Tryd.prog.underlying 5 = some (.int .u8) := by kernel_rfl
theorem F_un_53 : Tryd.prog.underlying 53 = some (.slice 9) := by kernel_rfl
theorem F_un_71 : Tryd.prog.underlying 71 = some (.slice 5) := by kernel_rfl
theorem F_un_74 : Tryd.prog.underlying 74 = some (.int .u64) := by kernel_rfl
theorem F_un_9 : Tryd.prog.underlying 9 = some (.string) := by kernel_rfl
theorem F_un_95 : Tryd.prog.underlying 95 = some (.int .u64) := by kernel_rfl
end Go.Proofs.YtjilcaemoebloaaDoor
