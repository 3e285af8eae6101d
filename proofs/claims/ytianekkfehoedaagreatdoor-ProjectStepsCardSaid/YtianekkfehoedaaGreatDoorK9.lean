/- Walks of the laws: light, run, same. Walks of the laws: the example. -/
import Derived.Test.YtianekkfehoedaaGreatDoorHv
import Derived.Test.YtianekkfehoedaaGreatDoorKB
import Derived.Test.YtianekkfehoedaaGreatDoorZh
import Derived.Test.YtianekkfehoedaaGreatDoorZf
namespace Go.Proofs.YtianekkfehoedaaGreatDoor
set_option linter.unusedSimpArgs false
set_option linter.unusedVariables false
set_option linter.unnecessarySimpa false
open Go.RowKit
def lgE (e : En) : Bool := decide (e.text.length ≤ 400)
def lgS (s : Sp) : Bool := decide (s.l.length ≤ 10) && (decide (s.e.text.length ≤ 400) && s.l.all lgE)
def lgB (l : List Sp) : Bool := l.all lgS && decide (l.length ≤ 30)
theorem Y13_Zi : type_of% (And.intro @F_ag_28 (And.intro @F_ag_46 (And.intro @F_ag_9 (And.intro @F_el_28 (And.intro @F_el_38 (And.intro @F_fl_46_3 (And.intro @F_fl_48_1 (And.intro @F_fl_48_2 (And.intro @F_sz_28 (And.intro @F_sz_46 (And.intro @F_sz_48 (And.intro @F_sz_9 (@F_un_9))))))))))))) := And.intro @F_ag_28 (And.intro @F_ag_46 (And.intro @F_ag_9 (And.intro @F_el_28 (And.intro @F_el_38 (And.intro @F_fl_46_3 (And.intro @F_fl_48_1 (And.intro @F_fl_48_2 (And.intro @F_sz_28 (And.intro @F_sz_46 (And.intro @F_sz_48 (And.intro @F_sz_9 (@F_un_9))))))))))))
theorem I1_Zi : type_of% (And.intro enV_id (And.intro enL_id (And.intro byL_id (And.intro lsV_id (And.intro lsL_id (And.intro (@tyV_id) (And.intro flE_id (And.intro spV_id spL_id)))))))) := (And.intro enV_id (And.intro enL_id (And.intro byL_id (And.intro lsV_id (And.intro lsL_id (And.intro (@tyV_id) (And.intro flE_id (And.intro spV_id spL_id))))))))
theorem c_light (l : List Sp) (hl : l.length ≤ 4194304) : PC Tryz.prog 13 [.sl (l.map spV) .ro] (.im (.bool (lgB l))) := by
  refine PC.enter 52 Tryz.func13 rfl (by decide) rfl rfl (s := [(0, .sl (l.map spV) .ro)]) (by rfl) ?_
  refine wG Y13_Zi True.intro ?_
  refine AWp.loop ?_
  refine ALp.cutP 0 [(0, .sl (l.map spV) .ro), (3, (.im (.int .i64 ((((0 : Nat)) : Int)))))] [] I1_Zi ?_
  refine ALp.upto l.length (fun m => lgB l = ((l.drop m).all lgS && decide (l.length ≤ 30))) (fun m => ⟨dn 52 [(0, .sl (l.map spV) .ro), (3, (.im (.int .i64 ((((m : Nat)) : Int)))))], ofl []⟩) ?_ 0 (Nat.zero_le _) rfl
  intro m hm hI hnext
  by_cases hlt : m < l.length
  · have hlt' : (m : Int) < (l.length : Int) := by omega
    have hg := get_some hlt
    have hm1 := wrap_succ hlt (by omega)
    have hn := hnext (m + 1) (by omega) (by omega)
    clear hnext
    rw [List.drop_eq_getElem_cons hlt, List.all_cons] at hI
    generalize l[m] = s at hg hI
    generalize hR : ((l.drop (m + 1)).all lgS && decide (l.length ≤ 30)) = rest at hn
    rw [Bool.and_assoc, hR] at hI
    unfold lgS at hI
    by_cases h1 : s.l.length ≤ 10
    case neg =>
      have h1' : (s.l.length : Int) > 10 := by omega
      rw [decide_eq_false h1] at hI
      rw [hI]
      clear hI hn
      refine wG Y13_Zi (And.intro hlt' (And.intro SPT (And.intro hg h1'))) ?_
      exact Fin.oneP
    have h1' : ¬ (s.l.length : Int) > 10 := by omega
    rw [decide_eq_true h1, Bool.true_and] at hI
    by_cases h2 : s.e.text.length ≤ 400
    case neg =>
      have h2' : (s.e.text.length : Int) > 400 := by omega
      rw [decide_eq_false h2] at hI
      rw [hI]
      clear hI hn
      refine wG Y13_Zi (And.intro hlt' (And.intro SPT (And.intro hg (And.intro h1' (And.intro BAT h2'))))) ?_
      exact Fin.oneP
    have h2' : ¬ (s.e.text.length : Int) > 400 := by omega
    rw [decide_eq_true h2, Bool.true_and] at hI
    refine wG Y13_Zi (And.intro hlt' (And.intro SPT (And.intro hg (And.intro h1' (And.intro BAT h2'))))) ?_
    refine AWp.loop ?_
    refine ALp.cutP 0 [(0, .sl (l.map spV) .ro), (3, (.im (.int .i64 (((m : Nat) : Int))))), (4, (.im (.int .i64 ((((0 : Nat)) : Int)))))] [] I1_Zi ?_
    refine ALp.upto s.l.length (fun k => lgB l = ((s.l.drop k).all lgE && rest)) (fun k => ⟨dn 52 [(0, .sl (l.map spV) .ro), (3, (.im (.int .i64 (((m : Nat) : Int))))), (4, (.im (.int .i64 ((((k : Nat)) : Int)))))], ofl []⟩) ?_ 0 (Nat.zero_le _) hI
    intro k hk hJ hnx
    by_cases hkl : k < s.l.length
    · have hkl' : (k : Int) < (s.l.length : Int) := by omega
      have hgk := get_some hkl
      have hk1 := wrap_succ hkl (by omega)
      have hn2 := hnx (k + 1) (by omega) (by omega)
      clear hnx
      rw [List.drop_eq_getElem_cons hkl, List.all_cons] at hJ
      generalize s.l[k] = e at hgk hJ
      by_cases h3 : e.text.length ≤ 400
      · have h3' : ¬ (e.text.length : Int) > 400 := by omega
        have he : lgE e = true := decide_eq_true h3
        rw [he, Bool.true_and] at hJ
        refine wG Y13_Zi (And.intro hlt' (And.intro SPT (And.intro hg (And.intro hkl' (And.intro ENT (And.intro hgk (And.intro BAT (And.intro h3' hk1)))))))) ?_
        refine ALp.cutP 0 [(0, .sl (l.map spV) .ro), (3, (.im (.int .i64 (((m : Nat) : Int))))), (4, (.im (.int .i64 ((((k + 1 : Nat)) : Int)))))] [] I1_Zi ?_
        exact hn2 hJ
      · have h3' : (e.text.length : Int) > 400 := by omega
        have he : lgE e = false := decide_eq_false h3
        rw [he] at hJ
        rw [hJ]
        refine wG Y13_Zi (And.intro hlt' (And.intro SPT (And.intro hg (And.intro hkl' (And.intro ENT (And.intro hgk (And.intro BAT h3'))))))) ?_
        exact Fin.oneP
    · obtain rfl : k = s.l.length := by omega
      have hkl' : ¬ (s.l.length : Int) < (s.l.length : Int) := by omega
      rw [List.drop_length] at hJ
      clear hnx hkl
      refine wG Y13_Zi (And.intro hlt' (And.intro SPT (And.intro hg (And.intro hkl' (And.intro ENT hm1))))) ?_
      refine ALp.cutP 0 [(0, .sl (l.map spV) .ro), (3, (.im (.int .i64 ((((m + 1 : Nat)) : Int)))))] [] I1_Zi ?_
      exact hn hJ
  · obtain rfl : m = l.length := by omega
    have hlt' : ¬ (l.length : Int) < (l.length : Int) := by omega
    rw [List.drop_length] at hI
    rw [hI]
    clear hnext hlt hI
    by_cases h : l.length ≤ 30
    · have h' : (l.length : Int) ≤ 30 := by omega
      rw [decide_eq_true h]
      refine wG Y13_Zi (And.intro hlt' (And.intro h' @List.length_map.{0, 0})) ?_
      exact Fin.oneP
    · have h' : ¬ (l.length : Int) ≤ 30 := by omega
      rw [decide_eq_false h]
      refine wG Y13_Zi (And.intro hlt' (And.intro h' @List.length_map.{0, 0})) ?_
      exact Fin.oneP
end Go.Proofs.YtianekkfehoedaaGreatDoor
namespace Go.Proofs.YtianekkfehoedaaGreatDoor
set_option linter.unusedSimpArgs false
set_option linter.unusedVariables false
set_option linter.unnecessarySimpa false
open Go.RowKit
def mnB : Bs := [109, 97, 105, 110]
def xE : En := ⟨1, 0, 16, mnB⟩
def xF : En := ⟨1, 0, 17, mnB⟩
theorem xE_e0 : eErr [] xE = 0 := by decide +kernel
theorem xE_w : eWith [] xE = [xE] := by decide +kernel
theorem xF_e : eErr [xE] xF = 8 := by decide +kernel
theorem xE_h : hasE [xE] (keyOf 1 16 0) = true := by decide +kernel
theorem xE_g : getE [xE] 1 16 0 = mnB := by decide +kernel
theorem xE_n : hasE [] (keyOf 1 16 0) = false := rfl
theorem xE_m : getE [] 1 16 0 = [] := rfl
theorem xE_asc : AscE [xE] := List.pairwise_singleton _ _
theorem xE_gd : Gd [xE] := by
  have h := Gd.nil.with_ xE_e0 ⟨by decide, by decide⟩
  rwa [xE_w] at h
theorem xE_fits : ∀ e ∈ [xE], Fits47 e := fun e he => xE_gd.fits he
theorem xE_ld : (ldN (saveB [xE])).1 = 0 := by rw [ld_save xE_gd]
theorem xE_ld2 : (ldN (saveB [xE])).2 = [xE] := by rw [ld_save xE_gd]
theorem clip1 (a : List En) : clipE ([] ++ [a]) = [a] := clipE_id (by simp)
theorem Y5_Zj : type_of% (And.intro @F_ag_46 (And.intro @F_al_46 (And.intro @F_el_28 (And.intro @F_eq_46 (And.intro @F_st_46 (@F_sz_46)))))) := And.intro @F_ag_46 (And.intro @F_al_46 (And.intro @F_el_28 (And.intro @F_eq_46 (And.intro @F_st_46 (@F_sz_46)))))
theorem I1_Zj : type_of% (And.intro enV_id (And.intro enL_id (And.intro byL_id (And.intro lsV_id (And.intro lsL_id (And.intro (@tyV_id) (And.intro flE_id (And.intro spV_id spL_id)))))))) := (And.intro enV_id (And.intro enL_id (And.intro byL_id (And.intro lsV_id (And.intro lsL_id (And.intro (@tyV_id) (And.intro flE_id (And.intro spV_id spL_id))))))))
theorem N1_Zj : type_of% (And.intro enV_ren (And.intro enL_ren (And.intro byL_ren (And.intro lsV_ren (And.intro lsL_ren (And.intro flE_ren (And.intro spV_ren spL_ren))))))) := (And.intro enV_ren (And.intro enL_ren (And.intro byL_ren (And.intro lsV_ren (And.intro lsL_ren (And.intro flE_ren (And.intro spV_ren spL_ren)))))))
theorem xSave : ∃ (sb : Bs) (n : Nat) (k : Int), (DC Tryz.prog 10 [.pt 0 0] [.box [(.im (.bool (true))), .sl [.ag [(.im (.int .i64 (1))), (.im (.int .i64 (0))), (.im (.int .u32 (16))), .im (.string ⟨#[109, 97, 105, 110]⟩)]] .ro, .sl [.sl [] .ro] .ro, .sl [] .ro], .free] (.sl (sb.map byB) (.mine 1)) [.box [(.im (.bool (true))), .sl [.ag [(.im (.int .i64 (1))), (.im (.int .i64 (0))), (.im (.int .u32 (16))), .im (.string ⟨#[109, 97, 105, 110]⟩)]] .ro, .sl [.sl [] .ro] .ro, .sl [] .ro], .tip 5 1 n]) ∧
    DC Tryz.prog 6 [.sl (sb.map byB) .ro] [.free, .free] (.tu [.pt 1 0, (.im (.int .i64 (0)))]) [.box [.sl (sb.map byB) .ro, (.im (.int .i64 (k))), (.im (.bool (false)))], .box [(.im (.bool (true))), .sl [.ag [(.im (.int .i64 (1))), (.im (.int .i64 (0))), (.im (.int .u32 (16))), .im (.string ⟨#[109, 97, 105, 110]⟩)]] .ro, .sl [] .nl, .sl [] .nl]] := by
  refine ⟨saveB [xE], (saveB [xE]).length, ((saveB [xE]).length : Int), c_SaveR [xE] [[]] [] xE_fits (by decide), ?_⟩
  have h := c_LoadK (saveB [xE]) (by rw [save_len]; have := svM_le xE_fits (by decide) [xE].length; rw [svM_all] at this; omega) xE_ld
  rw [xE_ld2] at h
  exact h
theorem c_example47 : PC Tryz.prog 5 [] (.im (.bool (true))) := by
  have q1 := c_New
  have p1 : DC Tryz.prog 20 [.pt 0 0, .ag [(.im (.int .i64 (1))), (.im (.int .i64 (0))), (.im (.int .u32 (16))), .im (.string ⟨#[109, 97, 105, 110]⟩)]] [.box [(.im (.bool (true))), .sl [] .ro, .sl [] .full, .sl [] .nl]] (.im (.int .i64 (0))) [.box [(.im (.bool (true))), .sl [.ag [(.im (.int .i64 (1))), (.im (.int .i64 (0))), (.im (.int .u32 (16))), .im (.string ⟨#[109, 97, 105, 110]⟩)]] .ro, .sl [.sl [] .ro] .full, .sl [] .nl]] := by
    have h := c_Put0N [] [] xE List.Pairwise.nil (by decide) (by decide) (by decide) xE_e0
    rw [xE_w, clip1] at h
    exact h
  have p2 : DC Tryz.prog 20 [.pt 0 0, .ag [(.im (.int .i64 (1))), (.im (.int .i64 (0))), (.im (.int .u32 (17))), .im (.string ⟨#[109, 97, 105, 110]⟩)]] [.box [(.im (.bool (true))), .sl [.ag [(.im (.int .i64 (1))), (.im (.int .i64 (0))), (.im (.int .u32 (16))), .im (.string ⟨#[109, 97, 105, 110]⟩)]] .ro, .sl [.sl [] .ro] .full, .sl [] .nl]] (.im (.int .i64 (8))) [.box [(.im (.bool (true))), .sl [.ag [(.im (.int .i64 (1))), (.im (.int .i64 (0))), (.im (.int .u32 (16))), .im (.string ⟨#[109, 97, 105, 110]⟩)]] .ro, .sl [.sl [] .ro] .full, .sl [] .nl]] := by
    have h := c_Put1N [xE] [[]] xF xE_asc (by decide) (by decide) (by rw [xF_e]; decide)
    rw [xF_e] at h
    exact h
  have p3 : DC Tryz.prog 17 [.pt 0 0, (.im (.int .i64 (1))), (.im (.int .u32 (16))), (.im (.int .i64 (0)))] [.box [(.im (.bool (true))), .sl [.ag [(.im (.int .i64 (1))), (.im (.int .i64 (0))), (.im (.int .u32 (16))), .im (.string ⟨#[109, 97, 105, 110]⟩)]] .ro, .sl [.sl [] .ro] .full, .sl [] .nl]] (.tu [.im (.string ⟨#[109, 97, 105, 110]⟩), (.im (.bool (true)))]) [.box [(.im (.bool (true))), .sl [.ag [(.im (.int .i64 (1))), (.im (.int .i64 (0))), (.im (.int .u32 (16))), .im (.string ⟨#[109, 97, 105, 110]⟩)]] .ro, .sl [.sl [] .ro] .full, .sl [] .nl]] := by
    have h := c_GetN [xE] [[]] 1 16 0 xE_asc (by decide)
    rw [xE_g, xE_h] at h
    exact h
  have p4 : DC Tryz.prog 9 [.pt 0 0] [.box [(.im (.bool (true))), .sl [.ag [(.im (.int .i64 (1))), (.im (.int .i64 (0))), (.im (.int .u32 (16))), .im (.string ⟨#[109, 97, 105, 110]⟩)]] .ro, .sl [.sl [] .ro] .full, .sl [] .nl]] (.sl [.ag [(.im (.int .i64 (1))), (.im (.int .i64 (0))), (.im (.int .u32 (16))), .im (.string ⟨#[109, 97, 105, 110]⟩)]] .ro) [.box [(.im (.bool (true))), .sl [.ag [(.im (.int .i64 (1))), (.im (.int .i64 (0))), (.im (.int .u32 (16))), .im (.string ⟨#[109, 97, 105, 110]⟩)]] .ro, .sl [.sl [] .ro] .full, .sl [] .nl]] := c_AllN [xE] [[]] (by decide)
  have p5 : DC Tryz.prog 11 [.pt 0 0] [.box [(.im (.bool (true))), .sl [.ag [(.im (.int .i64 (1))), (.im (.int .i64 (0))), (.im (.int .u32 (16))), .im (.string ⟨#[109, 97, 105, 110]⟩)]] .ro, .sl [.sl [] .ro] .full, .sl [] .nl], .free] (.im (.bool (true))) [.box [(.im (.bool (true))), .sl [] .ro, .sl [] .full, .sl [.sl [.ag [(.im (.int .i64 (1))), (.im (.int .i64 (0))), (.im (.int .u32 (16))), .im (.string ⟨#[109, 97, 105, 110]⟩)]] .ro] (.own 1)], .tip 28 1 1] := c_Undo0N [xE] [] [] (by decide)
  have p6 : DC Tryz.prog 17 [.pt 0 0, (.im (.int .i64 (1))), (.im (.int .u32 (16))), (.im (.int .i64 (0)))] [.box [(.im (.bool (true))), .sl [] .ro, .sl [] .full, .sl [.sl [.ag [(.im (.int .i64 (1))), (.im (.int .i64 (0))), (.im (.int .u32 (16))), .im (.string ⟨#[109, 97, 105, 110]⟩)]] .ro] .ro]] (.tu [.im (.string ByteArray.empty), (.im (.bool (false)))]) [.box [(.im (.bool (true))), .sl [] .ro, .sl [] .full, .sl [.sl [.ag [(.im (.int .i64 (1))), (.im (.int .i64 (0))), (.im (.int .u32 (16))), .im (.string ⟨#[109, 97, 105, 110]⟩)]] .ro] .ro]] := by
    have h := c_GetM [] [] [[xE]] 1 16 0 List.Pairwise.nil (by decide)
    rw [xE_m, xE_n] at h
    exact h
  have p7 : DC Tryz.prog 12 [.pt 0 0] [.box [(.im (.bool (true))), .sl [] .ro, .sl [] .full, .sl [.sl [.ag [(.im (.int .i64 (1))), (.im (.int .i64 (0))), (.im (.int .u32 (16))), .im (.string ⟨#[109, 97, 105, 110]⟩)]] .ro] .ro], .free] (.im (.bool (true))) [.box [(.im (.bool (true))), .sl [.ag [(.im (.int .i64 (1))), (.im (.int .i64 (0))), (.im (.int .u32 (16))), .im (.string ⟨#[109, 97, 105, 110]⟩)]] .ro, .sl [.sl [] .ro] (.own 1), .sl [] .full], .tip 28 1 1] := c_Redo0M [] [xE] [] [] (by decide) (by decide)
  have p8 : DC Tryz.prog 12 [.pt 0 0] [.box [(.im (.bool (true))), .sl [.ag [(.im (.int .i64 (1))), (.im (.int .i64 (0))), (.im (.int .u32 (16))), .im (.string ⟨#[109, 97, 105, 110]⟩)]] .ro, .sl [.sl [] .ro] (.own 1), .sl [] .full], .tip 28 1 1] (.im (.bool (false))) [.box [(.im (.bool (true))), .sl [.ag [(.im (.int .i64 (1))), (.im (.int .i64 (0))), (.im (.int .u32 (16))), .im (.string ⟨#[109, 97, 105, 110]⟩)]] .ro, .sl [.sl [] .ro] (.own 1), .sl [] .full], .tip 28 1 1] := c_Redo1Q [xE] [[]]
  have p9 : DC Tryz.prog 17 [.pt 0 0, (.im (.int .i64 (1))), (.im (.int .u32 (16))), (.im (.int .i64 (0)))] [.box [(.im (.bool (true))), .sl [.ag [(.im (.int .i64 (1))), (.im (.int .i64 (0))), (.im (.int .u32 (16))), .im (.string ⟨#[109, 97, 105, 110]⟩)]] .ro, .sl [.sl [] .ro] .ro, .sl [] .ro]] (.tu [.im (.string ⟨#[109, 97, 105, 110]⟩), (.im (.bool (true)))]) [.box [(.im (.bool (true))), .sl [.ag [(.im (.int .i64 (1))), (.im (.int .i64 (0))), (.im (.int .u32 (16))), .im (.string ⟨#[109, 97, 105, 110]⟩)]] .ro, .sl [.sl [] .ro] .ro, .sl [] .ro]] := by
    have h := c_GetR [xE] [[]] [] 1 16 0 xE_asc (by decide)
    rw [xE_g, xE_h] at h
    exact h
  obtain ⟨sb, n, k, pa, pb⟩ := xSave
  have pc : DC Tryz.prog 9 [.pt 0 0] [.box [(.im (.bool (true))), .sl [.ag [(.im (.int .i64 (1))), (.im (.int .i64 (0))), (.im (.int .u32 (16))), .im (.string ⟨#[109, 97, 105, 110]⟩)]] .ro, .sl [] .ro, .sl [] .ro]] (.sl [.ag [(.im (.int .i64 (1))), (.im (.int .i64 (0))), (.im (.int .u32 (16))), .im (.string ⟨#[109, 97, 105, 110]⟩)]] .ro) [.box [(.im (.bool (true))), .sl [.ag [(.im (.int .i64 (1))), (.im (.int .i64 (0))), (.im (.int .u32 (16))), .im (.string ⟨#[109, 97, 105, 110]⟩)]] .ro, .sl [] .ro, .sl [] .ro]] := c_AllR [xE] [] [] (by decide)
  have pd : DC Tryz.prog 11 [.pt 0 0] [.box [(.im (.bool (true))), .sl [.ag [(.im (.int .i64 (1))), (.im (.int .i64 (0))), (.im (.int .u32 (16))), .im (.string ⟨#[109, 97, 105, 110]⟩)]] .ro, .sl [] .ro, .sl [] .ro]] (.im (.bool (false))) [.box [(.im (.bool (true))), .sl [.ag [(.im (.int .i64 (1))), (.im (.int .i64 (0))), (.im (.int .u32 (16))), .im (.string ⟨#[109, 97, 105, 110]⟩)]] .ro, .sl [] .ro, .sl [] .ro]] := c_Undo1R [xE] []
  refine PC.enter 103 Tryz.func5 rfl (by decide) rfl rfl (s := []) (by rfl) ?_
  refine wG Y5_Zj True.intro ?_
  refine AR.callSP [0] q1 True.intro I1_Zj N1_Zj ?_
  refine goG Y5_Zj True.intro ?_
  refine AR.end ?_
  refine Thn.n ?_
  refine AWp.frz 1 [(1, .pt 0 0)] [.box [(.im (.bool (true))), .sl [] .ro, .sl [] .full, .sl [] .nl]] ?_ (by simp) (by repeat (first | exact WkFA.nil | refine WkFA.cons (by first | exact .of (Wk.refl _) (by first | rfl | simp only [List.length_cons, List.length_nil, Nat.reduceAdd, V.ids, V.idsL, idsA, entOk, List.all_cons, List.all_nil, Bool.and_self, Bool.and_true, Bool.true_and, ltB, noId, Nat.reduceLT, decide_true, Bool.true_eq_false, tyV_id, fdV_id, tyL_id, fdL_id, enV_id, enL_id, byL_id, lsV_id, lsL_id, tyV_id, flE_id, spV_id, spL_id]) | exact .of (Wk.ro _ _) rfl | exact .of (Wk.nlF _) rfl) ?_)) (by repeat (first | exact WkFE.nil | refine WkFE.box (by repeat (first | exact WkFL.nil | refine WkFL.cons (by first | exact .of (Wk.refl _) (by first | rfl | simp only [List.length_cons, List.length_nil, Nat.reduceAdd, V.ids, V.idsL, idsA, entOk, List.all_cons, List.all_nil, Bool.and_self, Bool.and_true, Bool.true_and, ltB, noId, Nat.reduceLT, decide_true, Bool.true_eq_false, tyV_id, fdV_id, tyL_id, fdL_id, enV_id, enL_id, byL_id, lsV_id, lsL_id, tyV_id, flE_id, spV_id, spL_id]) | exact .of (Wk.ro _ _) rfl | exact .of (Wk.nlF _) rfl) ?_)) ?_ | refine WkFE.same (fun _ e => by cases e) ?_)) (fun i hi => by first | exact absurd rfl hi | exact Nat.lt_of_lt_of_le (ofl_lt hi) (by simp))
  refine wG Y5_Zj True.intro ?_
  refine AR.eqP false ?_
  refine goG Y5_Zj True.intro ?_
  refine AR.callSP [0] p1 True.intro I1_Zj N1_Zj ?_
  refine goG Y5_Zj True.intro ?_
  refine AR.callSP [0] p2 True.intro I1_Zj N1_Zj ?_
  refine goG Y5_Zj True.intro ?_
  refine wG Y5_Zj True.intro ?_
  refine AR.callQP [0] p3 True.intro I1_Zj N1_Zj ?_
  refine goG Y5_Zj True.intro ?_
  refine wG Y5_Zj True.intro ?_
  refine AR.callQP [0] p4 True.intro I1_Zj N1_Zj ?_
  refine goG Y5_Zj True.intro ?_
  refine AR.callSP [0, 2] p5 True.intro I1_Zj N1_Zj ?_
  refine goG Y5_Zj True.intro ?_
  refine AR.end ?_
  refine Thn.n ?_
  refine AWp.frz 2 [(1, .pt 0 0), (2, .pt 1 0), (44, (.im (.bool (false))))] [.box [(.im (.bool (true))), .sl [] .ro, .sl [] .full, .sl [.sl [.ag [(.im (.int .i64 (1))), (.im (.int .i64 (0))), (.im (.int .u32 (16))), .im (.string ⟨#[109, 97, 105, 110]⟩)]] .ro] .ro], .box [(.im (.int .i64 (1))), (.im (.int .i64 (0))), (.im (.int .u32 (16))), .im (.string ⟨#[109, 97, 105, 110]⟩)]] ?_ (by simp) (by repeat (first | exact WkFA.nil | refine WkFA.cons (by first | exact .of (Wk.refl _) (by first | rfl | simp only [List.length_cons, List.length_nil, Nat.reduceAdd, V.ids, V.idsL, idsA, entOk, List.all_cons, List.all_nil, Bool.and_self, Bool.and_true, Bool.true_and, ltB, noId, Nat.reduceLT, decide_true, Bool.true_eq_false, tyV_id, fdV_id, tyL_id, fdL_id, enV_id, enL_id, byL_id, lsV_id, lsL_id, tyV_id, flE_id, spV_id, spL_id]) | exact .of (Wk.ro _ _) rfl) ?_)) (by repeat (first | exact WkFE.nil | refine WkFE.box (by repeat (first | exact WkFL.nil | refine WkFL.cons (by first | exact .of (Wk.refl _) (by first | rfl | simp only [List.length_cons, List.length_nil, Nat.reduceAdd, V.ids, V.idsL, idsA, entOk, List.all_cons, List.all_nil, Bool.and_self, Bool.and_true, Bool.true_and, ltB, noId, Nat.reduceLT, decide_true, Bool.true_eq_false, tyV_id, fdV_id, tyL_id, fdL_id, enV_id, enL_id, byL_id, lsV_id, lsL_id, tyV_id, flE_id, spV_id, spL_id]) | exact .of (Wk.ro _ _) rfl) ?_)) ?_ | refine WkFE.same (fun _ e => by cases e) ?_)) (fun i hi => by first | exact absurd rfl hi | exact Nat.lt_of_lt_of_le (ofl_lt hi) (by simp))
  refine wG Y5_Zj True.intro ?_
  refine AR.callQP [0] p6 True.intro I1_Zj N1_Zj ?_
  refine goG Y5_Zj True.intro ?_
  refine wG Y5_Zj True.intro ?_
  refine AR.callSP [0, 2] p7 True.intro I1_Zj N1_Zj ?_
  refine goG Y5_Zj True.intro ?_
  refine AR.callSP [0, 2] p8 True.intro I1_Zj N1_Zj ?_
  refine goG Y5_Zj True.intro ?_
  refine AR.end ?_
  refine Thn.n ?_
  refine AWp.frz 2 [(1, .pt 0 0), (2, .pt 1 0), (59, (.im (.bool (false))))] [.box [(.im (.bool (true))), .sl [.ag [(.im (.int .i64 (1))), (.im (.int .i64 (0))), (.im (.int .u32 (16))), .im (.string ⟨#[109, 97, 105, 110]⟩)]] .ro, .sl [.sl [] .ro] .ro, .sl [] .ro], .box [(.im (.int .i64 (1))), (.im (.int .i64 (0))), (.im (.int .u32 (16))), .im (.string ⟨#[109, 97, 105, 110]⟩)]] ?_ (by simp) (by repeat (first | exact WkFA.nil | refine WkFA.cons (by first | exact .of (Wk.refl _) (by first | rfl | simp only [List.length_cons, List.length_nil, Nat.reduceAdd, V.ids, V.idsL, idsA, entOk, List.all_cons, List.all_nil, Bool.and_self, Bool.and_true, Bool.true_and, ltB, noId, Nat.reduceLT, decide_true, Bool.true_eq_false, tyV_id, fdV_id, tyL_id, fdL_id, enV_id, enL_id, byL_id, lsV_id, lsL_id, tyV_id, flE_id, spV_id, spL_id]) | exact .of (Wk.ro _ _) rfl) ?_)) (by repeat (first | exact WkFE.nil | refine WkFE.box (by repeat (first | exact WkFL.nil | refine WkFL.cons (by first | exact .of (Wk.refl _) (by first | rfl | simp only [List.length_cons, List.length_nil, Nat.reduceAdd, V.ids, V.idsL, idsA, entOk, List.all_cons, List.all_nil, Bool.and_self, Bool.and_true, Bool.true_and, ltB, noId, Nat.reduceLT, decide_true, Bool.true_eq_false, tyV_id, fdV_id, tyL_id, fdL_id, enV_id, enL_id, byL_id, lsV_id, lsL_id, tyV_id, flE_id, spV_id, spL_id]) | exact .of (Wk.ro _ _) rfl) ?_)) ?_ | refine WkFE.same (fun _ e => by cases e) ?_)) (fun i hi => by first | exact absurd rfl hi | exact Nat.lt_of_lt_of_le (ofl_lt hi) (by simp))
  refine wG Y5_Zj True.intro ?_
  refine AR.callQP [0] p9 True.intro I1_Zj N1_Zj ?_
  refine goG Y5_Zj True.intro ?_
  refine wG Y5_Zj True.intro ?_
  refine AR.callSP [0, 2] pa True.intro I1_Zj N1_Zj ?_
  refine goG Y5_Zj True.intro ?_
  refine AR.callS [3, 4] pb rfl rfl (by first | (simp only [SR, enV_ren, enL_ren, byL_ren, lsV_ren, lsL_ren, flE_ren, spV_ren, spL_ren]; done) | (simp only [SR, enV_ren, enL_ren, byL_ren, lsV_ren, lsL_ren, flE_ren, spV_ren, spL_ren]; with_reducible exact rfl)) (by first | (simp only [SR, enV_ren, enL_ren, byL_ren, lsV_ren, lsL_ren, flE_ren, spV_ren, spL_ren]; done) | (simp only [SR, enV_ren, enL_ren, byL_ren, lsV_ren, lsL_ren, flE_ren, spV_ren, spL_ren]; with_reducible exact rfl)) (WkL.cons (Wk.ro _ _) .nil) (by first | rfl | simp only [List.length_cons, List.length_nil, Nat.reduceAdd, V.ids, V.idsL, idsA, entOk, List.all_cons, List.all_nil, Bool.and_self, Bool.and_true, Bool.true_and, ltB, noId, Nat.reduceLT, decide_true, Bool.true_eq_false, tyV_id, fdV_id, tyL_id, fdL_id, enV_id, enL_id, byL_id, lsV_id, lsL_id, tyV_id, flE_id, spV_id, spL_id]) rfl rfl rfl (by first | rfl | simp only [List.length_cons, List.length_nil, Nat.reduceAdd, V.ids, V.idsL, idsA, entOk, List.all_cons, List.all_nil, Bool.and_self, Bool.and_true, Bool.true_and, ltB, noId, Nat.reduceLT, decide_true, Bool.true_eq_false, tyV_id, fdV_id, tyL_id, fdL_id, enV_id, enL_id, byL_id, lsV_id, lsL_id, tyV_id, flE_id, spV_id, spL_id]) (by intro p hp; simp only [renE, SR, Ent.ren, List.mem_cons, List.not_mem_nil, or_false, enV_ren, enL_ren, byL_ren, lsV_ren, lsL_ren, flE_ren, spV_ren, spL_ren] at hp; rcases hp with rfl | rfl <;> rfl) (by simp only [renE, Ent.ren, SR, enV_ren, enL_ren, byL_ren, lsV_ren, lsL_ren, flE_ren, spV_ren, spL_ren, wrl, putE, SC, SD, Nat.reduceBEq, Nat.reduceLT, Nat.reduceSub, Nat.reduceAdd, Nat.reduceMul, Nat.reduceLeDiff, Nat.reduceEqDiff, reduceCtorEq, Int.reduceLT, Int.reduceLE, Int.reduceEq, Int.reduceNe, Int.reduceBEq, Int.reduceBNe, Int.reduceAdd, Int.reduceSub, Int.reduceMul, Int.reduceToNat]; with_reducible exact rfl) ?_
  refine goG Y5_Zj True.intro ?_
  refine AR.end ?_
  refine Thn.n ?_
  refine AWp.frz 5 [(1, .pt 0 0), (2, .pt 1 0), (3, .im (.string ⟨#[109, 97, 105, 110]⟩)), (4, (.im (.bool (true)))), (5, .pt 4 0), (6, (.im (.int .i64 (0))))] [.box [(.im (.bool (true))), .sl [.ag [(.im (.int .i64 (1))), (.im (.int .i64 (0))), (.im (.int .u32 (16))), .im (.string ⟨#[109, 97, 105, 110]⟩)]] .ro, .sl [.sl [] .ro] .ro, .sl [] .ro], .box [(.im (.int .i64 (1))), (.im (.int .i64 (0))), (.im (.int .u32 (16))), .im (.string ⟨#[109, 97, 105, 110]⟩)], .tip 5 1 n, .box [.sl (sb.map byB) .ro, (.im (.int .i64 (k))), (.im (.bool (false)))], .box [(.im (.bool (true))), .sl [.ag [(.im (.int .i64 (1))), (.im (.int .i64 (0))), (.im (.int .u32 (16))), .im (.string ⟨#[109, 97, 105, 110]⟩)]] .ro, .sl [] .ro, .sl [] .ro]] ?_ (by simp) (by repeat (first | exact WkFA.nil | refine WkFA.cons (by first | exact .of (Wk.refl _) (by first | rfl | simp only [List.length_cons, List.length_nil, Nat.reduceAdd, V.ids, V.idsL, idsA, entOk, List.all_cons, List.all_nil, Bool.and_self, Bool.and_true, Bool.true_and, ltB, noId, Nat.reduceLT, decide_true, Bool.true_eq_false, tyV_id, fdV_id, tyL_id, fdL_id, enV_id, enL_id, byL_id, lsV_id, lsL_id, tyV_id, flE_id, spV_id, spL_id]) | exact .of (Wk.ro _ _) rfl) ?_)) (by repeat (first | exact WkFE.nil | refine WkFE.box (by repeat (first | exact WkFL.nil | refine WkFL.cons (by first | exact .of (Wk.refl _) (by first | rfl | simp only [List.length_cons, List.length_nil, Nat.reduceAdd, V.ids, V.idsL, idsA, entOk, List.all_cons, List.all_nil, Bool.and_self, Bool.and_true, Bool.true_and, ltB, noId, Nat.reduceLT, decide_true, Bool.true_eq_false, tyV_id, fdV_id, tyL_id, fdL_id, enV_id, enL_id, byL_id, lsV_id, lsL_id, tyV_id, flE_id, spV_id, spL_id]) | exact .of (Wk.ro _ _) rfl) ?_)) ?_ | refine WkFE.same (fun _ e => by cases e) ?_)) (fun i hi => by first | exact absurd rfl hi | exact Nat.lt_of_lt_of_le (ofl_lt hi) (by simp))
  refine wdG Y5_Zj True.intro ?_
  refine AR.eqP false ?_
  refine goG Y5_Zj True.intro ?_
  refine AR.callQP [4] pc True.intro I1_Zj N1_Zj ?_
  refine goG Y5_Zj True.intro ?_
  refine AR.callQP [4] pc True.intro I1_Zj N1_Zj ?_
  refine goG Y5_Zj True.intro ?_
  refine AR.callQP [4] pd True.intro I1_Zj N1_Zj ?_
  refine goG Y5_Zj True.intro ?_
  refine wdG Y5_Zj True.intro ?_
  exact Fin.oneP
end Go.Proofs.YtianekkfehoedaaGreatDoor
