/- Walks of the laws: light, run, same. Walks of the laws: the example. -/
import Derived.Test.YtianekkfehoedaaGreatDoorHv
import Derived.Test.YtianekkfehoedaaGreatDoorKB
import Derived.Test.YtianekkfehoedaaGreatDoorZh
import Derived.Test.YtianekkfehoedaaGreatDoorZf
namespace Go.Proofs.YtianekkfehoedaaGreatDoor
set_option linter.unusedSimpArgs false
set_option linter.unusedVariables false
set_option linter.unnecessarySimpa false
open Go.RowKit
end Go.Proofs.YtianekkfehoedaaGreatDoor
namespace Go.Proofs.YtianekkfehoedaaGreatDoor
set_option linter.unusedSimpArgs false
set_option linter.unusedVariables false
set_option linter.unnecessarySimpa false
open Go.RowKit
def mnB : Bs := [109, 97, 105, 110]
def xE : En := ⟨1, 0, 16, mnB⟩
def xF : En := ⟨1, 0, 17, mnB⟩
theorem xE_e0 : eErr [] xE = 0 := by decide +kernel
theorem xE_w : eWith [] xE = [xE] := by decide +kernel
theorem xF_e : eErr [xE] xF = 8 := by decide +kernel
theorem xE_h : hasE [xE] (keyOf 1 16 0) = true := by decide +kernel
theorem xE_g : getE [xE] 1 16 0 = mnB := by decide +kernel
theorem xE_n : hasE [] (keyOf 1 16 0) = false := rfl
theorem xE_m : getE [] 1 16 0 = [] := rfl
theorem xE_asc : AscE [xE] := List.pairwise_singleton _ _
theorem xE_gd : Gd [xE] := by
  have h := Gd.nil.with_ xE_e0 ⟨by decide, by decide⟩
  rwa [xE_w] at h
theorem xE_fits : ∀ e ∈ [xE], Fits47 e := fun e he => xE_gd.fits he
theorem xE_ld : (ldN (saveB [xE])).1 = 0 := by rw [ld_save xE_gd]
theorem xE_ld2 : (ldN (saveB [xE])).2 = [xE] := by rw [ld_save xE_gd]
theorem clip1 (a : List En) : clipE ([] ++ [a]) = [a] := clipE_id (by simp)
theorem Y5_Zj : type_of% (And.intro @F_ag_46 (And.intro @F_al_46 (And.intro @F_el_28 (And.intro @F_eq_46 (And.intro @F_st_46 (@F_sz_46)))))) := And.intro @F_ag_46 (And.intro @F_al_46 (And.intro @F_el_28 (And.intro @F_eq_46 (And.intro @F_st_46 (@F_sz_46)))))
theorem I1_Zj : type_of% (And.intro enV_id (And.intro enL_id (And.intro byL_id (And.intro lsV_id (And.intro lsL_id (And.intro (@tyV_id) (And.intro flE_id (And.intro spV_id spL_id)))))))) := (And.intro enV_id (And.intro enL_id (And.intro byL_id (And.intro lsV_id (And.intro lsL_id (And.intro (@tyV_id) (And.intro flE_id (And.intro spV_id spL_id))))))))
theorem N1_Zj : type_of% (And.intro enV_ren (And.intro enL_ren (And.intro byL_ren (And.intro lsV_ren (And.intro lsL_ren (And.intro flE_ren (And.intro spV_ren spL_ren))))))) := (And.intro enV_ren (And.intro enL_ren (And.intro byL_ren (And.intro lsV_ren (And.intro lsL_ren (And.intro flE_ren (And.intro spV_ren spL_ren)))))))
theorem xSave : ∃ (sb : Bs) (n : Nat) (k : Int), (DC Tryz.prog 10 [.pt 0 0] [.box [(.im (.bool (true))), .sl [.ag [(.im (.int .i64 (1))), (.im (.int .i64 (0))), (.im (.int .u32 (16))), .im (.string ⟨#[109, 97, 105, 110]⟩)]] .ro, .sl [.sl [] .ro] .ro, .sl [] .ro], .free] (.sl (sb.map byB) (.mine 1)) [.box [(.im (.bool (true))), .sl [.ag [(.im (.int .i64 (1))), (.im (.int .i64 (0))), (.im (.int .u32 (16))), .im (.string ⟨#[109, 97, 105, 110]⟩)]] .ro, .sl [.sl [] .ro] .ro, .sl [] .ro], .tip 5 1 n]) ∧
    DC Tryz.prog 6 [.sl (sb.map byB) .ro] [.free, .free] (.tu [.pt 1 0, (.im (.int .i64 (0)))]) [.box [.sl (sb.map byB) .ro, (.im (.int .i64 (k))), (.im (.bool (false)))], .box [(.im (.bool (true))), .sl [.ag [(.im (.int .i64 (1))), (.im (.int .i64 (0))), (.im (.int .u32 (16))), .im (.string ⟨#[109, 97, 105, 110]⟩)]] .ro, .sl [] .nl, .sl [] .nl]] := by
  refine ⟨saveB [xE], (saveB [xE]).length, ((saveB [xE]).length : Int), c_SaveR [xE] [[]] [] xE_fits (by decide), ?_⟩
  have h := c_LoadK (saveB [xE]) (by rw [save_len]; have := svM_le xE_fits (by decide) [xE].length; rw [svM_all] at this; omega) xE_ld
  rw [xE_ld2] at h
  exact h
theorem c_example47 : PC Tryz.prog 5 [] (.im (.bool (true))) := by
  have q1 := c_New
  have p1 : DC Tryz.prog 20 [.pt 0 0, .ag [(.im (.int .i64 (1))), (.im (.int .i64 (0))), (.im (.int .u32 (16))), .im (.string ⟨#[109, 97, 105, 110]⟩)]] [.box [(.im (.bool (true))), .sl [] .ro, .sl [] .full, .sl [] .nl]] (.im (.int .i64 (0))) [.box [(.im (.bool (true))), .sl [.ag [(.im (.int .i64 (1))), (.im (.int .i64 (0))), (.im (.int .u32 (16))), .im (.string ⟨#[109, 97, 105, 110]⟩)]] .ro, .sl [.sl [] .ro] .full, .sl [] .nl]] := by
    have h := c_Put0N [] [] xE List.Pairwise.nil (by decide) (by decide) (by decide) xE_e0
    rw [xE_w, clip1] at h
    exact h
  have p2 : DC Tryz.prog 20 [.pt 0 0, .ag [(.im (.int .i64 (1))), (.im (.int .i64 (0))), (.im (.int .u32 (17))), .im (.string ⟨#[109, 97, 105, 110]⟩)]] [.box [(.im (.bool (true))), .sl [.ag [(.im (.int .i64 (1))), (.im (.int .i64 (0))), (.im (.int .u32 (16))), .im (.string ⟨#[109, 97, 105, 110]⟩)]] .ro, .sl [.sl [] .ro] .full, .sl [] .nl]] (.im (.int .i64 (8))) [.box [(.im (.bool (true))), .sl [.ag [(.im (.int .i64 (1))), (.im (.int .i64 (0))), (.im (.int .u32 (16))), .im (.string ⟨#[109, 97, 105, 110]⟩)]] .ro, .sl [.sl [] .ro] .full, .sl [] .nl]] := by
    have h := c_Put1N [xE] [[]] xF xE_asc (by decide) (by decide) (by rw [xF_e]; decide)
    rw [xF_e] at h
    exact h
  have p3 : DC Tryz.prog 17 [.pt 0 0, (.im (.int .i64 (1))), (.im (.int .u32 (16))), (.im (.int .i64 (0)))] [.box [(.im (.bool (true))), .sl [.ag [(.im (.int .i64 (1))), (.im (.int .i64 (0))), (.im (.int .u32 (16))), .im (.string ⟨#[109, 97, 105, 110]⟩)]] .ro, .sl [.sl [] .ro] .full, .sl [] .nl]] (.tu [.im (.string ⟨#[109, 97, 105, 110]⟩), (.im (.bool (true)))]) [.box [(.im (.bool (true))), .sl [.ag [(.im (.int .i64 (1))), (.im (.int .i64 (0))), (.im (.int .u32 (16))), .im (.string ⟨#[109, 97, 105, 110]⟩)]] .ro, .sl [.sl [] .ro] .full, .sl [] .nl]] := by
    have h := c_GetN [xE] [[]] 1 16 0 xE_asc (by decide)
    rw [xE_g, xE_h] at h
    exact h
  have p4 : DC Tryz.prog 9 [.pt 0 0] [.box [(.im (.bool (true))), .sl [.ag [(.im (.int .i64 (1))), (.im (.int .i64 (0))), (.im (.int .u32 (16))), .im (.string ⟨#[109, 97, 105, 110]⟩)]] .ro, .sl [.sl [] .ro] .full, .sl [] .nl]] (.sl [.ag [(.im (.int .i64 (1))), (.im (.int .i64 (0))), (.im (.int .u32 (16))), .im (.string ⟨#[109, 97, 105, 110]⟩)]] .ro) [.box [(.im (.bool (true))), .sl [.ag [(.im (.int .i64 (1))), (.im (.int .i64 (0))), (.im (.int .u32 (16))), .im (.string ⟨#[109, 97, 105, 110]⟩)]] .ro, .sl [.sl [] .ro] .full, .sl [] .nl]] := c_AllN [xE] [[]] (by decide)
  have p5 : DC Tryz.prog 11 [.pt 0 0] [.box [(.im (.bool (true))), .sl [.ag [(.im (.int .i64 (1))), (.im (.int .i64 (0))), (.im (.int .u32 (16))), .im (.string ⟨#[109, 97, 105, 110]⟩)]] .ro, .sl [.sl [] .ro] .full, .sl [] .nl], .free] (.im (.bool (true))) [.box [(.im (.bool (true))), .sl [] .ro, .sl [] .full, .sl [.sl [.ag [(.im (.int .i64 (1))), (.im (.int .i64 (0))), (.im (.int .u32 (16))), .im (.string ⟨#[109, 97, 105, 110]⟩)]] .ro] (.own 1)], .tip 28 1 1] := c_Undo0N [xE] [] [] (by decide)
  have p6 : DC Tryz.prog 17 [.pt 0 0, (.im (.int .i64 (1))), (.im (.int .u32 (16))), (.im (.int .i64 (0)))] [.box [(.im (.bool (true))), .sl [] .ro, .sl [] .full, .sl [.sl [.ag [(.im (.int .i64 (1))), (.im (.int .i64 (0))), (.im (.int .u32 (16))), .im (.string ⟨#[109, 97, 105, 110]⟩)]] .ro] .ro]] (.tu [.im (.string ByteArray.empty), (.im (.bool (false)))]) [.box [(.im (.bool (true))), .sl [] .ro, .sl [] .full, .sl [.sl [.ag [(.im (.int .i64 (1))), (.im (.int .i64 (0))), (.im (.int .u32 (16))), .im (.string ⟨#[109, 97, 105, 110]⟩)]] .ro] .ro]] := by
    have h := c_GetM [] [] [[xE]] 1 16 0 List.Pairwise.nil (by decide)
    rw [xE_m, xE_n] at h
    exact h
  have p7 : DC Tryz.prog 12 [.pt 0 0] [.box [(.im (.bool (true))), .sl [] .ro, .sl [] .full, .sl [.sl [.ag [(.im (.int .i64 (1))), (.im (.int .i64 (0))), (.im (.int .u32 (16))), .im (.string ⟨#[109, 97, 105, 110]⟩)]] .ro] .ro], .free] (.im (.bool (true))) [.box [(.im (.bool (true))), .sl [.ag [(.im (.int .i64 (1))), (.im (.int .i64 (0))), (.im (.int .u32 (16))), .im (.string ⟨#[109, 97, 105, 110]⟩)]] .ro, .sl [.sl [] .ro] (.own 1), .sl [] .full], .tip 28 1 1] := c_Redo0M [] [xE] [] [] (by decide) (by decide)
  have p8 : DC Tryz.prog 12 [.pt 0 0] [.box [(.im (.bool (true))), .sl [.ag [(.im (.int .i64 (1))), (.im (.int .i64 (0))), (.im (.int .u32 (16))), .im (.string ⟨#[109, 97, 105, 110]⟩)]] .ro, .sl [.sl [] .ro] (.own 1), .sl [] .full], .tip 28 1 1] (.im (.bool (false))) [.box [(.im (.bool (true))), .sl [.ag [(.im (.int .i64 (1))), (.im (.int .i64 (0))), (.im (.int .u32 (16))), .im (.string ⟨#[109, 97, 105, 110]⟩)]] .ro, .sl [.sl [] .ro] (.own 1), .sl [] .full], .tip 28 1 1] := c_Redo1Q [xE] [[]]
  have p9 : DC Tryz.prog 17 [.pt 0 0, (.im (.int .i64 (1))), (.im (.int .u32 (16))), (.im (.int .i64 (0)))] [.box [(.im (.bool (true))), .sl [.ag [(.im (.int .i64 (1))), (.im (.int .i64 (0))), (.im (.int .u32 (16))), .im (.string ⟨#[109, 97, 105, 110]⟩)]] .ro, .sl [.sl [] .ro] .ro, .sl [] .ro]] (.tu [.im (.string ⟨#[109, 97, 105, 110]⟩), (.im (.bool (true)))]) [.box [(.im (.bool (true))), .sl [.ag [(.im (.int .i64 (1))), (.im (.int .i64 (0))), (.im (.int .u32 (16))), .im (.string ⟨#[109, 97, 105, 110]⟩)]] .ro, .sl [.sl [] .ro] .ro, .sl [] .ro]] := by
    have h := c_GetR [xE] [[]] [] 1 16 0 xE_asc (by decide)
    rw [xE_g, xE_h] at h
    exact h
  obtain ⟨sb, n, k, pa, pb⟩ := xSave
  have pc : DC Tryz.prog 9 [.pt 0 0] [.box [(.im (.bool (true))), .sl [.ag [(.im (.int .i64 (1))), (.im (.int .i64 (0))), (.im (.int .u32 (16))), .im (.string ⟨#[109, 97, 105, 110]⟩)]] .ro, .sl [] .ro, .sl [] .ro]] (.sl [.ag [(.im (.int .i64 (1))), (.im (.int .i64 (0))), (.im (.int .u32 (16))), .im (.string ⟨#[109, 97, 105, 110]⟩)]] .ro) [.box [(.im (.bool (true))), .sl [.ag [(.im (.int .i64 (1))), (.im (.int .i64 (0))), (.im (.int .u32 (16))), .im (.string ⟨#[109, 97, 105, 110]⟩)]] .ro, .sl [] .ro, .sl [] .ro]] := c_AllR [xE] [] [] (by decide)
  have pd : DC Tryz.prog 11 [.pt 0 0] [.box [(.im (.bool (true))), .sl [.ag [(.im (.int .i64 (1))), (.im (.int .i64 (0))), (.im (.int .u32 (16))), .im (.string ⟨#[109, 97, 105, 110]⟩)]] .ro, .sl [] .ro, .sl [] .ro]] (.im (.bool (false))) [.box [(.im (.bool (true))), .sl [.ag [(.im (.int .i64 (1))), (.im (.int .i64 (0))), (.im (.int .u32 (16))), .im (.string ⟨#[109, 97, 105, 110]⟩)]] .ro, .sl [] .ro, .sl [] .ro]] := c_Undo1R [xE] []
  refine PC.enter 103 Tryz.func5 rfl (by decide) rfl rfl (s := []) (by rfl) ?_
  refine wG Y5_Zj True.intro ?_
  refine AR.callSP [0] q1 True.intro I1_Zj N1_Zj ?_
  refine goG Y5_Zj True.intro ?_
  refine AR.end ?_
  refine Thn.n ?_
  refine AWp.frz 1 [(1, .pt 0 0)] [.box [(.im (.bool (true))), .sl [] .ro, .sl [] .full, .sl [] .nl]] ?_ (by simp) (by repeat (first | exact WkFA.nil | refine WkFA.cons (by first | exact .of (Wk.refl _) (by first | rfl | simp only [List.length_cons, List.length_nil, Nat.reduceAdd, V.ids, V.idsL, idsA, entOk, List.all_cons, List.all_nil, Bool.and_self, Bool.and_true, Bool.true_and, ltB, noId, Nat.reduceLT, decide_true, Bool.true_eq_false, tyV_id, fdV_id, tyL_id, fdL_id, enV_id, enL_id, byL_id, lsV_id, lsL_id, tyV_id, flE_id, spV_id, spL_id]) | exact .of (Wk.ro _ _) rfl | exact .of (Wk.nlF _) rfl) ?_)) (by repeat (first | exact WkFE.nil | refine WkFE.box (by repeat (first | exact WkFL.nil | refine WkFL.cons (by first | exact .of (Wk.refl _) (by first | rfl | simp only [List.length_cons, List.length_nil, Nat.reduceAdd, V.ids, V.idsL, idsA, entOk, List.all_cons, List.all_nil, Bool.and_self, Bool.and_true, Bool.true_and, ltB, noId, Nat.reduceLT, decide_true, Bool.true_eq_false, tyV_id, fdV_id, tyL_id, fdL_id, enV_id, enL_id, byL_id, lsV_id, lsL_id, tyV_id, flE_id, spV_id, spL_id]) | exact .of (Wk.ro _ _) rfl | exact .of (Wk.nlF _) rfl) ?_)) ?_ | refine WkFE.same (fun _ e => by cases e) ?_)) (fun i hi => by first | exact absurd rfl hi | exact Nat.lt_of_lt_of_le (ofl_lt hi) (by simp))
  refine wG Y5_Zj True.intro ?_
  refine AR.eqP false ?_
  refine goG Y5_Zj True.intro ?_
  refine AR.callSP [0] p1 True.intro I1_Zj N1_Zj ?_
  refine goG Y5_Zj True.intro ?_
  refine AR.callSP [0] p2 True.intro I1_Zj N1_Zj ?_
  refine goG Y5_Zj True.intro ?_
  refine wG Y5_Zj True.intro ?_
  refine AR.callQP [0] p3 True.intro I1_Zj N1_Zj ?_
  refine goG Y5_Zj True.intro ?_
  refine wG Y5_Zj True.intro ?_
  refine AR.callQP [0] p4 True.intro I1_Zj N1_Zj ?_
  refine goG Y5_Zj True.intro ?_
  refine AR.callSP [0, 2] p5 True.intro I1_Zj N1_Zj ?_
  refine goG Y5_Zj True.intro ?_
  refine AR.end ?_
  refine Thn.n ?_
  refine AWp.frz 2 [(1, .pt 0 0), (2, .pt 1 0), (44, (.im (.bool (false))))] [.box [(.im (.bool (true))), .sl [] .ro, .sl [] .full, .sl [.sl [.ag [(.im (.int .i64 (1))), (.im (.int .i64 (0))), (.im (.int .u32 (16))), .im (.string ⟨#[109, 97, 105, 110]⟩)]] .ro] .ro], .box [(.im (.int .i64 (1))), (.im (.int .i64 (0))), (.im (.int .u32 (16))), .im (.string ⟨#[109, 97, 105, 110]⟩)]] ?_ (by simp) (by repeat (first | exact WkFA.nil | refine WkFA.cons (by first | exact .of (Wk.refl _) (by first | rfl | simp only [List.length_cons, List.length_nil, Nat.reduceAdd, V.ids, V.idsL, idsA, entOk, List.all_cons, List.all_nil, Bool.and_self, Bool.and_true, Bool.true_and, ltB, noId, Nat.reduceLT, decide_true, Bool.true_eq_false, tyV_id, fdV_id, tyL_id, fdL_id, enV_id, enL_id, byL_id, lsV_id, lsL_id, tyV_id, flE_id, spV_id, spL_id]) | exact .of (Wk.ro _ _) rfl) ?_)) (by repeat (first | exact WkFE.nil | refine WkFE.box (by repeat (first | exact WkFL.nil | refine WkFL.cons (by first | exact .of (Wk.refl _) (by first | rfl | simp only [List.length_cons, List.length_nil, Nat.reduceAdd, V.ids, V.idsL, idsA, entOk, List.all_cons, List.all_nil, Bool.and_self, Bool.and_true, Bool.true_and, ltB, noId, Nat.reduceLT, decide_true, Bool.true_eq_false, tyV_id, fdV_id, tyL_id, fdL_id, enV_id, enL_id, byL_id, lsV_id, lsL_id, tyV_id, flE_id, spV_id, spL_id]) | exact .of (Wk.ro _ _) rfl) ?_)) ?_ | refine WkFE.same (fun _ e => by cases e) ?_)) (fun i hi => by first | exact absurd rfl hi | exact Nat.lt_of_lt_of_le (ofl_lt hi) (by simp))
  refine wG Y5_Zj True.intro ?_
  refine AR.callQP [0] p6 True.intro I1_Zj N1_Zj ?_
  refine goG Y5_Zj True.intro ?_
  refine wG Y5_Zj True.intro ?_
  refine AR.callSP [0, 2] p7 True.intro I1_Zj N1_Zj ?_
  refine goG Y5_Zj True.intro ?_
  refine AR.callSP [0, 2] p8 True.intro I1_Zj N1_Zj ?_
  refine goG Y5_Zj True.intro ?_
  refine AR.end ?_
  refine Thn.n ?_
  refine AWp.frz 2 [(1, .pt 0 0), (2, .pt 1 0), (59, (.im (.bool (false))))] [.box [(.im (.bool (true))), .sl [.ag [(.im (.int .i64 (1))), (.im (.int .i64 (0))), (.im (.int .u32 (16))), .im (.string ⟨#[109, 97, 105, 110]⟩)]] .ro, .sl [.sl [] .ro] .ro, .sl [] .ro], .box [(.im (.int .i64 (1))), (.im (.int .i64 (0))), (.im (.int .u32 (16))), .im (.string ⟨#[109, 97, 105, 110]⟩)]] ?_ (by simp) (by repeat (first | exact WkFA.nil | refine WkFA.cons (by first | exact .of (Wk.refl _) (by first | rfl | simp only [List.length_cons, List.length_nil, Nat.reduceAdd, V.ids, V.idsL, idsA, entOk, List.all_cons, List.all_nil, Bool.and_self, Bool.and_true, Bool.true_and, ltB, noId, Nat.reduceLT, decide_true, Bool.true_eq_false, tyV_id, fdV_id, tyL_id, fdL_id, enV_id, enL_id, byL_id, lsV_id, lsL_id, tyV_id, flE_id, spV_id, spL_id]) | exact .of (Wk.ro _ _) rfl) ?_)) (by repeat (first | exact WkFE.nil | refine WkFE.box (by repeat (first | exact WkFL.nil | refine WkFL.cons (by first | exact .of (Wk.refl _) (by first | rfl | simp only [List.length_cons, List.length_nil, Nat.reduceAdd, V.ids, V.idsL, idsA, entOk, List.all_cons, List.all_nil, Bool.and_self, Bool.and_true, Bool.true_and, ltB, noId, Nat.reduceLT, decide_true, Bool.true_eq_false, tyV_id, fdV_id, tyL_id, fdL_id, enV_id, enL_id, byL_id, lsV_id, lsL_id, tyV_id, flE_id, spV_id, spL_id]) | exact .of (Wk.ro _ _) rfl) ?_)) ?_ | refine WkFE.same (fun _ e => by cases e) ?_)) (fun i hi => by first | exact absurd rfl hi | exact Nat.lt_of_lt_of_le (ofl_lt hi) (by simp))
  refine wG Y5_Zj True.intro ?_
  refine AR.callQP [0] p9 True.intro I1_Zj N1_Zj ?_
  refine goG Y5_Zj True.intro ?_
  refine wG Y5_Zj True.intro ?_
  refine AR.callSP [0, 2] pa True.intro I1_Zj N1_Zj ?_
  refine goG Y5_Zj True.intro ?_
  refine AR.callS [3, 4] pb rfl rfl (by first | (simp only [SR, enV_ren, enL_ren, byL_ren, lsV_ren, lsL_ren, flE_ren, spV_ren, spL_ren]; done) | (simp only [SR, enV_ren, enL_ren, byL_ren, lsV_ren, lsL_ren, flE_ren, spV_ren, spL_ren]; with_reducible exact rfl)) (by first | (simp only [SR, enV_ren, enL_ren, byL_ren, lsV_ren, lsL_ren, flE_ren, spV_ren, spL_ren]; done) | (simp only [SR, enV_ren, enL_ren, byL_ren, lsV_ren, lsL_ren, flE_ren, spV_ren, spL_ren]; with_reducible exact rfl)) (WkL.cons (Wk.ro _ _) .nil) (by first | rfl | simp only [List.length_cons, List.length_nil, Nat.reduceAdd, V.ids, V.idsL, idsA, entOk, List.all_cons, List.all_nil, Bool.and_self, Bool.and_true, Bool.true_and, ltB, noId, Nat.reduceLT, decide_true, Bool.true_eq_false, tyV_id, fdV_id, tyL_id, fdL_id, enV_id, enL_id, byL_id, lsV_id, lsL_id, tyV_id, flE_id, spV_id, spL_id]) rfl rfl rfl (by first | rfl | simp only [List.length_cons, List.length_nil, Nat.reduceAdd, V.ids, V.idsL, idsA, entOk, List.all_cons, List.all_nil, Bool.and_self, Bool.and_true, Bool.true_and, ltB, noId, Nat.reduceLT, decide_true, Bool.true_eq_false, tyV_id, fdV_id, tyL_id, fdL_id, enV_id, enL_id, byL_id, lsV_id, lsL_id, tyV_id, flE_id, spV_id, spL_id]) (by intro p hp; simp only [renE, SR, Ent.ren, List.mem_cons, List.not_mem_nil, or_false, enV_ren, enL_ren, byL_ren, lsV_ren, lsL_ren, flE_ren, spV_ren, spL_ren] at hp; rcases hp with rfl | rfl <;> rfl) (by simp only [renE, Ent.ren, SR, enV_ren, enL_ren, byL_ren, lsV_ren, lsL_ren, flE_ren, spV_ren, spL_ren, wrl, putE, SC, SD, Nat.reduceBEq, Nat.reduceLT, Nat.reduceSub, Nat.reduceAdd, Nat.reduceMul, Nat.reduceLeDiff, Nat.reduceEqDiff, reduceCtorEq, Int.reduceLT, Int.reduceLE, Int.reduceEq, Int.reduceNe, Int.reduceBEq, Int.reduceBNe, Int.reduceAdd, Int.reduceSub, Int.reduceMul, Int.reduceToNat]; with_reducible exact rfl) ?_
  refine goG Y5_Zj True.intro ?_
  refine AR.end ?_
  refine Thn.n ?_
  refine AWp.frz 5 [(1, .pt 0 0), (2, .pt 1 0), (3, .im (.string ⟨#[109, 97, 105, 110]⟩)), (4, (.im (.bool (true)))), (5, .pt 4 0), (6, (.im (.int .i64 (0))))] [.box [(.im (.bool (true))), .sl [.ag [(.im (.int .i64 (1))), (.im (.int .i64 (0))), (.im (.int .u32 (16))), .im (.string ⟨#[109, 97, 105, 110]⟩)]] .ro, .sl [.sl [] .ro] .ro, .sl [] .ro], .box [(.im (.int .i64 (1))), (.im (.int .i64 (0))), (.im (.int .u32 (16))), .im (.string ⟨#[109, 97, 105, 110]⟩)], .tip 5 1 n, .box [.sl (sb.map byB) .ro, (.im (.int .i64 (k))), (.im (.bool (false)))], .box [(.im (.bool (true))), .sl [.ag [(.im (.int .i64 (1))), (.im (.int .i64 (0))), (.im (.int .u32 (16))), .im (.string ⟨#[109, 97, 105, 110]⟩)]] .ro, .sl [] .ro, .sl [] .ro]] ?_ (by simp) (by repeat (first | exact WkFA.nil | refine WkFA.cons (by first | exact .of (Wk.refl _) (by first | rfl | simp only [List.length_cons, List.length_nil, Nat.reduceAdd, V.ids, V.idsL, idsA, entOk, List.all_cons, List.all_nil, Bool.and_self, Bool.and_true, Bool.true_and, ltB, noId, Nat.reduceLT, decide_true, Bool.true_eq_false, tyV_id, fdV_id, tyL_id, fdL_id, enV_id, enL_id, byL_id, lsV_id, lsL_id, tyV_id, flE_id, spV_id, spL_id]) | exact .of (Wk.ro _ _) rfl) ?_)) (by repeat (first | exact WkFE.nil | refine WkFE.box (by repeat (first | exact WkFL.nil | refine WkFL.cons (by first | exact .of (Wk.refl _) (by first | rfl | simp only [List.length_cons, List.length_nil, Nat.reduceAdd, V.ids, V.idsL, idsA, entOk, List.all_cons, List.all_nil, Bool.and_self, Bool.and_true, Bool.true_and, ltB, noId, Nat.reduceLT, decide_true, Bool.true_eq_false, tyV_id, fdV_id, tyL_id, fdL_id, enV_id, enL_id, byL_id, lsV_id, lsL_id, tyV_id, flE_id, spV_id, spL_id]) | exact .of (Wk.ro _ _) rfl) ?_)) ?_ | refine WkFE.same (fun _ e => by cases e) ?_)) (fun i hi => by first | exact absurd rfl hi | exact Nat.lt_of_lt_of_le (ofl_lt hi) (by simp))
  refine wdG Y5_Zj True.intro ?_
  refine AR.eqP false ?_
  refine goG Y5_Zj True.intro ?_
  refine AR.callQP [4] pc True.intro I1_Zj N1_Zj ?_
  refine goG Y5_Zj True.intro ?_
  refine AR.callQP [4] pc True.intro I1_Zj N1_Zj ?_
  refine goG Y5_Zj True.intro ?_
  refine AR.callQP [4] pd True.intro I1_Zj N1_Zj ?_
  refine goG Y5_Zj True.intro ?_
  refine wdG Y5_Zj True.intro ?_
  exact Fin.oneP
end Go.Proofs.YtianekkfehoedaaGreatDoor
