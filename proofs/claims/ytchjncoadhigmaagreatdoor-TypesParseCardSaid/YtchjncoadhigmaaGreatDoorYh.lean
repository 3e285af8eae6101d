/- Walks: the examples of the chapter hold. -/
import Derived.Test.YtchjncoadhigmaaGreatDoorHv
import Derived.Test.YtchjncoadhigmaaGreatDoorYg
import Derived.Test.YtchjncoadhigmaaGreatDoorY7
import Derived.Test.YtchjncoadhigmaaGreatDoorBB
import Derived.Test.YtchjncoadhigmaaGreatDoorY2
namespace Go.Proofs.YtchjncoadhigmaaGreatDoor
set_option linter.unusedSimpArgs false
set_option linter.unusedVariables false
set_option linter.unnecessarySimpa false
open Go.RowKit
def T1x : Ty := .mk 0 5 0 0 [] [.mk 0 1 4 0 [] [], .mk 8 3 0 0 [.mk 0 2 1 0 [] []] []]
def pairTx : Ty := .mk 0 5 0 0 [] [.mk 0 1 4 0 [] [], .mk 8 1 1 0 [] []]
def smTx : Ty := .mk 0 5 0 0 [] [.mk 8 1 1 0 [] []]
def i4x : Ty := .mk 0 1 4 0 [] []
def i1x : Ty := .mk 0 1 1 0 [] []
def u4x : Ty := .mk 0 2 4 0 [] []
def u1x : Ty := .mk 0 2 1 0 [] []
def pi4x : Ty := .mk 0 3 0 0 [i4x] []
def pu1x : Ty := .mk 0 3 0 0 [u1x] []
def anyx : Ty := .mk 0 6 0 0 [] []
def panyx : Ty := .mk 0 3 0 0 [anyx] []
def punkx : Ty := .mk 0 3 0 0 [tz] []
theorem fitx {t : Ty} (h : fitB t = true) : fit t := h
theorem Y35_Yh : type_of% (And.intro @F_ag_25 (And.intro @F_al_25 (And.intro @F_al_47 (And.intro @F_el_23 (And.intro @F_st_25 (And.intro @F_st_47 (And.intro @F_sz_25 (@F_sz_47)))))))) := And.intro @F_ag_25 (And.intro @F_al_25 (And.intro @F_al_47 (And.intro @F_el_23 (And.intro @F_st_25 (And.intro @F_st_47 (And.intro @F_sz_25 (@F_sz_47)))))))
theorem c_pair : PC Tryz.prog 35 [] (tyV pairTx) := by
  refine PC.enter 7 Tryz.func35 rfl (by decide) rfl rfl (s := []) (by rfl) ?_
  refine wG Y35_Yh True.intro ?_
  simp only [pairTx, tyV_mk, List.map_nil, List.map_cons, fdV_eq, Ty.off, Ty.kind, Ty.size, Ty.count, Ty.elem, Ty.fields]
  refine Fin.gen0 (rs := [.cell 0 25]) rfl (by first | exact .inl rfl | exact .inr rfl) (finG Y35_Yh) ?_
  exact WkF.wk
  all_goals exact wkG (And.intro (@tyV_id) (And.intro (@fdV_id) (And.intro (@tyL_id) (And.intro (@fdL_id) byV_id))))
def txA : Bs := [123, 48, 58, 32, 105, 110, 116, 51, 50, 44, 32, 56, 58, 32, 42, 117, 105, 110, 116, 56, 125]
theorem itoa_0 : Lib.itoa 0 = [48] := by simp [Lib.itoa, Lib.decDigits]
theorem pr_any : txT panyx = [42, 97, 110, 121] := by rw [panyx, txT_mk]; simp [anyx, txT_mk]
theorem pr_unk : txT punkx = [42, 63] := by rw [punkx, txT_mk]; simp [tz, txT_mk]
theorem pr_T1 : txT T1x = txA := by
  rw [T1x, txT_mk]
  simp [txT_mk, fldT, pcT, txA, Ty.off, itoa_0, itoa_8, itoa_32]
theorem bA_eqt (l : Bs) : ((bA l).toList == (bA l).toList) = true := eqS_refl _
theorem Y7_Yh : type_of% (And.intro @F_ag_25 (And.intro @F_ag_3 (And.intro @F_al_25 (And.intro @F_al_47 (And.intro @F_el_23 (And.intro @F_fl_25_0 (And.intro @F_st_25 (And.intro @F_st_47 (And.intro @F_sz_25 (And.intro @F_sz_3 (@F_sz_47))))))))))) := And.intro @F_ag_25 (And.intro @F_ag_3 (And.intro @F_al_25 (And.intro @F_al_47 (And.intro @F_el_23 (And.intro @F_fl_25_0 (And.intro @F_st_25 (And.intro @F_st_47 (And.intro @F_sz_25 (And.intro @F_sz_3 (@F_sz_47))))))))))
set_option maxHeartbeats 8000000 in
theorem c_example : PC Tryz.prog 7 [] (.im (.bool (true))) := by
  have hP1 : PC Tryz.prog 15 [.im (.string ⟨#[123, 48, 58, 32, 105, 110, 116, 51, 50, 44, 32, 56, 58, 32, 42, 117, 105, 110, 116, 56, 125]⟩)] (.tu [tyV T1x, (.im (.int .i64 (0)))]) := by
    have h := c_Parse txA (by decide)
    rw [show psT txA = (T1x, 0) by kernel_rfl] at h
    exact h
  have hP2 : PC Tryz.prog 15 [.im (.string ⟨#[105, 110, 116, 54, 52]⟩)] (.tu [tyV tz, (.im (.int .i64 (3)))]) := by
    have h := c_Parse [105, 110, 116, 54, 52] (by decide)
    rw [show psT [105, 110, 116, 54, 52] = (tz, 3) by kernel_rfl] at h
    exact h
  have fp : fit pairTx := fitx (by kernel_rfl)
  have hF1 : PC Tryz.prog 34 [tyV pairTx, (.im (.int .i64 (8))), (.im (.int .i64 (1)))] (.tu [tyV i1x, (.im (.bool (true)))]) := by
    have h := c_FieldAt pairTx fp 8 1 ⟨by decide, by decide⟩
    rw [show (fieldA pairTx 8 1).getD tz = i1x by kernel_rfl, show (fieldA pairTx 8 1).isSome = true by kernel_rfl] at h
    exact h
  have hF2 : PC Tryz.prog 34 [tyV pairTx, (.im (.int .i64 (2))), (.im (.int .i64 (4)))] (.tu [tyV tz, (.im (.bool (false)))]) := by
    have h := c_FieldAt pairTx fp 2 4 ⟨by decide, by decide⟩
    rw [show (fieldA pairTx 2 4).getD tz = tz by kernel_rfl, show (fieldA pairTx 2 4).isSome = false by kernel_rfl] at h
    exact h
  have f4 : fit i4x := fitx (by kernel_rfl)
  have f1 : fit i1x := fitx (by kernel_rfl)
  have g4 : fit u4x := fitx (by kernel_rfl)
  have g1 : fit u1x := fitx (by kernel_rfl)
  have k4 : fit pi4x := fitx (by kernel_rfl)
  have k1 : fit pu1x := fitx (by kernel_rfl)
  have fT : fit T1x := fitx (by kernel_rfl)
  have fs : fit smTx := fitx (by kernel_rfl)
  have hI4 : PC Tryz.prog 25 [(.im (.int .i64 (4)))] (tyV i4x) := c_Int 4
  have hI1 : PC Tryz.prog 25 [(.im (.int .i64 (1)))] (tyV i1x) := c_Int 1
  have hU4 : PC Tryz.prog 27 [(.im (.int .i64 (4)))] (tyV u4x) := c_Uint 4
  have hU1 : PC Tryz.prog 27 [(.im (.int .i64 (1)))] (tyV u1x) := c_Uint 1
  have hQ4 : PC Tryz.prog 29 [tyV i4x] (tyV pi4x) := c_Ptr i4x f4
  have hQ1 : PC Tryz.prog 29 [tyV u1x] (tyV pu1x) := c_Ptr u1x g1
  have hJ1 : PC Tryz.prog 11 [tyV i4x, tyV u4x] (tyV anyx) := by
    have h := c_Join c_merge i4x u4x f4 g4
    rw [show JoinT i4x u4x = anyx by kernel_rfl] at h
    exact h
  have hJ2 : PC Tryz.prog 11 [tyV pi4x, tyV pu1x] (tyV panyx) := by
    have h := c_Join c_merge pi4x pu1x k4 k1
    rw [show JoinT pi4x pu1x = panyx by kernel_rfl] at h
    exact h
  have hM : PC Tryz.prog 13 [tyV pi4x, tyV pu1x] (tyV punkx) := by
    have h := c_Meet c_merge pi4x pu1x k4 k1
    rw [show MeetT pi4x pu1x = punkx by kernel_rfl] at h
    exact h
  have hR1 : PC Tryz.prog 17 [tyV panyx] (.im (.string ⟨#[42, 97, 110, 121]⟩)) := by
    have h := c_Print panyx (fitx (by kernel_rfl)) (fun _ => by rw [pr_any]; decide)
    rw [show prT panyx = [42, 97, 110, 121] by unfold prT; rw [if_pos (by kernel_rfl), pr_any]] at h
    exact h
  have hR2 : PC Tryz.prog 17 [tyV punkx] (.im (.string ⟨#[42, 63]⟩)) := by
    have h := c_Print punkx (fitx (by kernel_rfl)) (fun _ => by rw [pr_unk]; decide)
    rw [show prT punkx = [42, 63] by unfold prT; rw [if_pos (by kernel_rfl), pr_unk]] at h
    exact h
  have hR3 : PC Tryz.prog 17 [tyV T1x] (.im (.string ⟨#[123, 48, 58, 32, 105, 110, 116, 51, 50, 44, 32, 56, 58, 32, 42, 117, 105, 110, 116, 56, 125]⟩)) := by
    have h := c_Print T1x fT (fun _ => by rw [pr_T1]; decide)
    rw [show prT T1x = txA by unfold prT; rw [if_pos (by kernel_rfl), pr_T1]] at h
    exact h
  have hS1 : PC Tryz.prog 8 [tyV pairTx, .ag [(.im (.int .i64 (5))), (.im (.int .i64 (0))), (.im (.int .i64 (0))), .sl [] .ro, .sl [.ag [(.im (.int .i64 (8))), (.im (.int .i64 (1))), (.im (.int .i64 (1))), (.im (.int .i64 (0))), .sl [] .ro, .sl [] .ro]] .ro]] (.im (.bool (true))) := by
    have h := c_Sub pairTx smTx fp fs
    rw [show (good pairTx && good smTx && subT pairTx smTx) = true by kernel_rfl] at h
    simpa only [smTx, tyV_mk, List.map_nil, List.map_cons, fdV_eq, Ty.off, Ty.kind, Ty.size, Ty.count, Ty.elem, Ty.fields] using h
  have hS2 : PC Tryz.prog 8 [.ag [(.im (.int .i64 (5))), (.im (.int .i64 (0))), (.im (.int .i64 (0))), .sl [] .ro, .sl [.ag [(.im (.int .i64 (8))), (.im (.int .i64 (1))), (.im (.int .i64 (1))), (.im (.int .i64 (0))), .sl [] .ro, .sl [] .ro]] .ro], tyV pairTx] (.im (.bool (false))) := by
    have h := c_Sub smTx pairTx fs fp
    rw [show (good smTx && good pairTx && subT smTx pairTx) = false by kernel_rfl] at h
    simpa only [smTx, tyV_mk, List.map_nil, List.map_cons, fdV_eq, Ty.off, Ty.kind, Ty.size, Ty.count, Ty.elem, Ty.fields] using h
  have hE : PC Tryz.prog 24 [tyV i1x, tyV i1x] (.im (.bool (true))) := by
    have h := c_Same i1x f1 i1x f1
    rw [show samT i1x i1x = true by kernel_rfl] at h
    exact h
  have hZ : PC Tryz.prog 22 [tyV pairTx] (.im (.int .i64 (9))) := by
    have h := c_SizeOf pairTx fp
    rw [show (if good pairTx then siz pairTx else 0) = 9 by kernel_rfl] at h
    exact h
  have hp := c_pair
  have kA : anyx.kind = 6 := rfl
  have s1 : ((⟨#[42, 97, 110, 121]⟩ : ByteArray).toList == (⟨#[42, 97, 110, 121]⟩ : ByteArray).toList) = true := eqS_refl _
  have s2 : ((⟨#[42, 63]⟩ : ByteArray).toList == (⟨#[42, 63]⟩ : ByteArray).toList) = true := eqS_refl _
  have s3 : ((⟨#[123, 48, 58, 32, 105, 110, 116, 51, 50, 44, 32, 56, 58, 32, 42, 117, 105, 110, 116, 56, 125]⟩ : ByteArray).toList == (⟨#[123, 48, 58, 32, 105, 110, 116, 51, 50, 44, 32, 56, 58, 32, 42, 117, 105, 110, 116, 56, 125]⟩ : ByteArray).toList) = true := eqS_refl _
  refine PC.enter 96 Tryz.func7 rfl (by decide) rfl rfl (s := []) (by rfl) ?_
  simp only [List.append]
  refine wG Y7_Yh True.intro ?_
  refine AR.callP hP1 True.intro (And.intro (@tyV_id) (And.intro (@fdV_id) (And.intro (@tyL_id) (And.intro (@fdL_id) byV_id)))) ?_
  refine goG Y7_Yh (And.intro (@tyV_firm) (And.intro (@fdV_firm) (And.intro (@tyV_strip) (And.intro (@fdV_strip) (And.intro (@tyV_live) (And.intro (@tyV_size) (And.intro (@tyV_isAg) (And.intro (@tyV_cells) (And.intro (@fdV_live) (And.intro (@fdV_size) (And.intro (@fdV_isAg) (And.intro (@fdV_cells) (And.intro (@List.getElem?_map.{0, 0}) @Int.natCast_nonneg))))))))))))) ?_
  refine wG Y7_Yh True.intro ?_
  refine AR.callP hP2 True.intro (And.intro (@tyV_id) (And.intro (@fdV_id) (And.intro (@tyL_id) (And.intro (@fdL_id) byV_id)))) ?_
  refine goG Y7_Yh (And.intro (@tyV_firm) (And.intro (@fdV_firm) (And.intro (@tyV_strip) (And.intro (@fdV_strip) (And.intro (@tyV_live) (And.intro (@tyV_size) (And.intro (@tyV_isAg) (And.intro (@tyV_cells) (And.intro (@fdV_live) (And.intro (@fdV_size) (And.intro (@fdV_isAg) (And.intro (@fdV_cells) (And.intro (@List.getElem?_map.{0, 0}) @Int.natCast_nonneg))))))))))))) ?_
  refine wG Y7_Yh True.intro ?_
  refine AR.callP hp True.intro (And.intro (@tyV_id) (And.intro (@fdV_id) (And.intro (@tyL_id) (And.intro (@fdL_id) byV_id)))) ?_
  refine goG Y7_Yh True.intro ?_
  refine AR.callP hF1 True.intro (And.intro (@tyV_id) (And.intro (@fdV_id) (And.intro (@tyL_id) (And.intro (@fdL_id) byV_id)))) ?_
  refine goG Y7_Yh (And.intro (@tyV_firm) (And.intro (@fdV_firm) (And.intro (@tyV_strip) (And.intro (@fdV_strip) (And.intro (@tyV_live) (And.intro (@tyV_size) (And.intro (@tyV_isAg) (And.intro (@tyV_cells) (And.intro (@fdV_live) (And.intro (@fdV_size) (And.intro (@fdV_isAg) (And.intro (@fdV_cells) (And.intro (@List.getElem?_map.{0, 0}) @Int.natCast_nonneg))))))))))))) ?_
  refine wG Y7_Yh True.intro ?_
  refine AR.callP hp True.intro (And.intro (@tyV_id) (And.intro (@fdV_id) (And.intro (@tyL_id) (And.intro (@fdL_id) byV_id)))) ?_
  refine goG Y7_Yh True.intro ?_
  refine AR.callP hF2 True.intro (And.intro (@tyV_id) (And.intro (@fdV_id) (And.intro (@tyL_id) (And.intro (@fdL_id) byV_id)))) ?_
  refine goG Y7_Yh (And.intro (@tyV_firm) (And.intro (@fdV_firm) (And.intro (@tyV_strip) (And.intro (@fdV_strip) (And.intro (@tyV_live) (And.intro (@tyV_size) (And.intro (@tyV_isAg) (And.intro (@tyV_cells) (And.intro (@fdV_live) (And.intro (@fdV_size) (And.intro (@fdV_isAg) (And.intro (@fdV_cells) (And.intro (@List.getElem?_map.{0, 0}) @Int.natCast_nonneg))))))))))))) ?_
  refine wdG Y7_Yh True.intro ?_
  refine AR.callP hI4 True.intro (And.intro (@tyV_id) (And.intro (@fdV_id) (And.intro (@tyL_id) (And.intro (@fdL_id) byV_id)))) ?_
  refine goG Y7_Yh True.intro ?_
  refine AR.callP hU4 True.intro (And.intro (@tyV_id) (And.intro (@fdV_id) (And.intro (@tyL_id) (And.intro (@fdL_id) byV_id)))) ?_
  refine goG Y7_Yh True.intro ?_
  refine AR.callP hJ1 True.intro (And.intro (@tyV_id) (And.intro (@fdV_id) (And.intro (@tyL_id) (And.intro (@fdL_id) byV_id)))) ?_
  refine goG Y7_Yh (And.intro (@tyV_firm) (And.intro (@fdV_firm) (And.intro (@tyV_strip) (And.intro (@fdV_strip) (And.intro (@tyV_live) (And.intro (@tyV_size) (And.intro (@tyV_isAg) (And.intro (@tyV_cells) (And.intro (@fdV_live) (And.intro (@fdV_size) (And.intro (@fdV_isAg) (And.intro (@fdV_cells) (And.intro (@List.getElem?_map.{0, 0}) (And.intro (@Int.natCast_nonneg) kA)))))))))))))) ?_
  refine AR.callP hI4 True.intro (And.intro (@tyV_id) (And.intro (@fdV_id) (And.intro (@tyL_id) (And.intro (@fdL_id) byV_id)))) ?_
  refine goG Y7_Yh True.intro ?_
  refine AR.callP hQ4 True.intro (And.intro (@tyV_id) (And.intro (@fdV_id) (And.intro (@tyL_id) (And.intro (@fdL_id) byV_id)))) ?_
  refine goG Y7_Yh True.intro ?_
  refine AR.callP hU1 True.intro (And.intro (@tyV_id) (And.intro (@fdV_id) (And.intro (@tyL_id) (And.intro (@fdL_id) byV_id)))) ?_
  refine goG Y7_Yh True.intro ?_
  refine AR.callP hQ1 True.intro (And.intro (@tyV_id) (And.intro (@fdV_id) (And.intro (@tyL_id) (And.intro (@fdL_id) byV_id)))) ?_
  refine goG Y7_Yh True.intro ?_
  refine AR.callP hJ2 True.intro (And.intro (@tyV_id) (And.intro (@fdV_id) (And.intro (@tyL_id) (And.intro (@fdL_id) byV_id)))) ?_
  refine goG Y7_Yh True.intro ?_
  refine AR.callP hR1 True.intro (And.intro (@tyV_id) (And.intro (@fdV_id) (And.intro (@tyL_id) (And.intro (@fdL_id) byV_id)))) ?_
  refine goG Y7_Yh s1 ?_
  refine AR.callP hI4 True.intro (And.intro (@tyV_id) (And.intro (@fdV_id) (And.intro (@tyL_id) (And.intro (@fdL_id) byV_id)))) ?_
  refine goG Y7_Yh True.intro ?_
  refine AR.callP hQ4 True.intro (And.intro (@tyV_id) (And.intro (@fdV_id) (And.intro (@tyL_id) (And.intro (@fdL_id) byV_id)))) ?_
  refine goG Y7_Yh True.intro ?_
  refine AR.callP hU1 True.intro (And.intro (@tyV_id) (And.intro (@fdV_id) (And.intro (@tyL_id) (And.intro (@fdL_id) byV_id)))) ?_
  refine goG Y7_Yh True.intro ?_
  refine AR.callP hQ1 True.intro (And.intro (@tyV_id) (And.intro (@fdV_id) (And.intro (@tyL_id) (And.intro (@fdL_id) byV_id)))) ?_
  refine goG Y7_Yh True.intro ?_
  refine AR.callP hM True.intro (And.intro (@tyV_id) (And.intro (@fdV_id) (And.intro (@tyL_id) (And.intro (@fdL_id) byV_id)))) ?_
  refine goG Y7_Yh True.intro ?_
  refine AR.callP hR2 True.intro (And.intro (@tyV_id) (And.intro (@fdV_id) (And.intro (@tyL_id) (And.intro (@fdL_id) byV_id)))) ?_
  refine goG Y7_Yh s2 ?_
  refine AR.callP hp True.intro (And.intro (@tyV_id) (And.intro (@fdV_id) (And.intro (@tyL_id) (And.intro (@fdL_id) byV_id)))) ?_
  refine goG Y7_Yh True.intro ?_
  refine AR.callW hS1 True.intro (And.intro (@tyV_id) (And.intro (@fdV_id) (And.intro (@tyL_id) (And.intro (@fdL_id) byV_id)))) ?_
  refine goG Y7_Yh True.intro ?_
  refine AR.callP hp True.intro (And.intro (@tyV_id) (And.intro (@fdV_id) (And.intro (@tyL_id) (And.intro (@fdL_id) byV_id)))) ?_
  refine goG Y7_Yh True.intro ?_
  refine AR.callW hS2 True.intro (And.intro (@tyV_id) (And.intro (@fdV_id) (And.intro (@tyL_id) (And.intro (@fdL_id) byV_id)))) ?_
  refine goG Y7_Yh (And.intro (@tyV_firm) (And.intro (@fdV_firm) (And.intro (@tyV_strip) (And.intro (@fdV_strip) (And.intro (@tyV_live) (And.intro (@tyV_size) (And.intro (@tyV_isAg) (And.intro (@tyV_cells) (And.intro (@fdV_live) (And.intro (@fdV_size) (And.intro (@fdV_isAg) (And.intro (@fdV_cells) (And.intro (@List.getElem?_map.{0, 0}) @Int.natCast_nonneg))))))))))))) ?_
  refine AR.callP hR3 @tyV_eq (And.intro (@tyV_id) (And.intro (@fdV_id) (And.intro (@tyL_id) (And.intro (@fdL_id) byV_id)))) ?_
  refine goG Y7_Yh (And.intro s3 (And.intro (@tyV_firm) (And.intro (@fdV_firm) (And.intro (@tyV_strip) (And.intro (@fdV_strip) (And.intro (@tyV_live) (And.intro (@tyV_size) (And.intro (@tyV_isAg) (And.intro (@tyV_cells) (And.intro (@fdV_live) (And.intro (@fdV_size) (And.intro (@fdV_isAg) (And.intro (@fdV_cells) (And.intro (@List.getElem?_map.{0, 0}) @Int.natCast_nonneg)))))))))))))) ?_
  refine AR.callP hI1 True.intro (And.intro (@tyV_id) (And.intro (@fdV_id) (And.intro (@tyL_id) (And.intro (@fdL_id) byV_id)))) ?_
  refine goG Y7_Yh True.intro ?_
  refine AR.callP hE @tyV_eq (And.intro (@tyV_id) (And.intro (@fdV_id) (And.intro (@tyL_id) (And.intro (@fdL_id) byV_id)))) ?_
  refine goG Y7_Yh True.intro ?_
  refine AR.callP hp True.intro (And.intro (@tyV_id) (And.intro (@fdV_id) (And.intro (@tyL_id) (And.intro (@fdL_id) byV_id)))) ?_
  refine goG Y7_Yh True.intro ?_
  refine AR.callP hZ True.intro (And.intro (@tyV_id) (And.intro (@fdV_id) (And.intro (@tyL_id) (And.intro (@fdL_id) byV_id)))) ?_
  refine goG Y7_Yh True.intro ?_
  refine wdG Y7_Yh True.intro ?_
  refine Fin.gen0 (rs := [.tmp 0]) rfl (by first | exact .inl rfl | exact .inr rfl) (finG Y7_Yh) ?_
  skip
  all_goals exact wkG (And.intro (@tyV_id) (And.intro (@fdV_id) (And.intro (@tyL_id) (And.intro (@fdL_id) byV_id))))
end Go.Proofs.YtchjncoadhigmaaGreatDoor

