/- The law ProjectLoads. -/
import Derived.Test.YtianekkfehoedaaGreatDoorHv
import Derived.Test.YtianekkfehoedaaGreatDoorRv
import Derived.Test.YtianekkfehoedaaGreatDoorK9
namespace Go.Proofs.YtianekkfehoedaaGreatDoor
set_option linter.unusedSimpArgs false
set_option linter.unusedVariables false
set_option linter.unnecessarySimpa false
open Go.RowKit
theorem Y3_Rw : type_of% (And.intro @F_ag_28 (And.intro @F_al_31 (And.intro @F_el_22 (And.intro @F_fl_31_1 (And.intro @F_in_22 (And.intro @F_in_9 (And.intro @F_sz_28 (And.intro @F_sz_31 (And.intro @F_sz_5 (And.intro @F_un_22 (And.intro @F_un_5 (@F_un_9)))))))))))) := And.intro @F_ag_28 (And.intro @F_al_31 (And.intro @F_el_22 (And.intro @F_fl_31_1 (And.intro @F_in_22 (And.intro @F_in_9 (And.intro @F_sz_28 (And.intro @F_sz_31 (And.intro @F_sz_5 (And.intro @F_un_22 (And.intro @F_un_5 (@F_un_9)))))))))))
set_option maxHeartbeats 4000000 in
theorem c_loads47 (b : Bs) (hb : b.length ≤ 4194304) : PC Tryz.prog 3 [.sl (b.map byB) .ro] (.im (.bool (true))) := by
  have qx := c_example47
  refine PC.enter 56 Tryz.func3 rfl (by decide) rfl rfl (s := [(0, .sl (b.map byB) .ro)]) (by rfl) ?_
  refine wG Y3_Rw True.intro ?_
  refine AR.callP qx True.intro (And.intro enV_id (And.intro enL_id (And.intro byL_id (And.intro lsV_id (And.intro lsL_id @tyV_id))))) ?_
  by_cases h1000 : b.length > 1000
  · have h1' : ((b.length : Nat) : Int) > 1000 := by omega
    refine goG Y3_Rw True.intro ?_
    refine wG Y3_Rw (And.intro h1' @List.length_map.{0, 0}) ?_
    exact Fin.oneP
  have h1' : ¬ ((b.length : Nat) : Int) > 1000 := by omega
  have qr := c_LoadR b (by omega)
  by_cases h0 : (ldN b).1 = 0
  case neg =>
    have qe := c_LoadE b (by omega) h0
    rw [show ldV (ldN b) = .ag [(.im (.bool (false))), .sl [] .nl, .sl [] .nl, .sl [] .nl] from if_neg h0] at qr
    generalize (ldN b).1 = er at h0 qe qr
    refine goG Y3_Rw True.intro ?_
    refine wG Y3_Rw (And.intro h1' @List.length_map.{0, 0}) ?_
    refine AR.callP qe True.intro (And.intro enV_id (And.intro enL_id (And.intro byL_id (And.intro lsV_id (And.intro lsL_id @tyV_id))))) ?_
    refine goG Y3_Rw True.intro ?_
    refine wG Y3_Rw True.intro ?_
    refine AR.callP qr True.intro (And.intro enV_id (And.intro enL_id (And.intro byL_id (And.intro lsV_id (And.intro lsL_id @tyV_id))))) ?_
    refine goG Y3_Rw True.intro ?_
    refine wG Y3_Rw h0 ?_
    refine goG Y3_Rw True.intro ?_
    refine AR.eqP true ?_
    refine goG Y3_Rw True.intro ?_
    refine wG Y3_Rw True.intro ?_
    exact Fin.oneP
  have qk := c_LoadK b (by omega) h0
  obtain ⟨hsv, hgd⟩ := ld_back h0
  rw [show ldV (ldN b) = .ag [(.im (.bool (true))), .sl ((ldN b).2.map enV) .ro, .sl [] .ro, .sl [] .ro] from if_pos h0, h0] at qr
  generalize (ldN b).2 = L at *
  have hln := hgd.len
  have r5 : DC Tryz.prog 9 [.pt 0 0] [.box [(.im (.bool (true))), .sl (L.map enV) .ro, .sl [] .ro, .sl [] .ro]] (.sl (L.map enV) .ro) [.box [(.im (.bool (true))), .sl (L.map enV) .ro, .sl [] .ro, .sl [] .ro]] := c_AllR L [] [] hln
  have r6 := c_SameR L (by omega)
  have r7 : DC Tryz.prog 10 [.pt 0 0] [.box [(.im (.bool (true))), .sl (L.map enV) .ro, .sl [] .ro, .sl [] .ro], .free] (.sl ((saveB L).map byB) (.mine 1)) [.box [(.im (.bool (true))), .sl (L.map enV) .ro, .sl [] .ro, .sl [] .ro], .tip 5 1 (saveB L).length] := c_SaveR L [] [] (fun e he => hgd.fits he) hln
  have r8 : DC Tryz.prog 11 [.pt 0 0] [.box [(.im (.bool (true))), .sl (L.map enV) .ro, .sl [] .ro, .sl [] .ro]] (.im (.bool (false))) [.box [(.im (.bool (true))), .sl (L.map enV) .ro, .sl [] .ro, .sl [] .ro]] := c_Undo1R L []
  have r9 : DC Tryz.prog 12 [.pt 0 0] [.box [(.im (.bool (true))), .sl (L.map enV) .ro, .sl [] .ro, .sl [] .ro]] (.im (.bool (false))) [.box [(.im (.bool (true))), .sl (L.map enV) .ro, .sl [] .ro, .sl [] .ro]] := c_Redo1R L []
  rw [hsv] at r7
  clear hsv hgd h0
  refine goG Y3_Rw True.intro ?_
  refine wG Y3_Rw (And.intro h1' @List.length_map.{0, 0}) ?_
  refine AR.callSP [0, 1] qk True.intro (And.intro enV_id (And.intro enL_id (And.intro byL_id (And.intro lsV_id (And.intro lsL_id @tyV_id))))) (And.intro enV_ren (And.intro enL_ren (And.intro byL_ren (And.intro lsV_ren lsL_ren)))) ?_
  refine goG Y3_Rw True.intro ?_
  refine AR.end ?_
  refine Thn.n ?_
  refine AWp.frz 2 [(0, .sl (b.map byB) .ro), (3, .pt 1 0), (4, (.im (.int .i64 (0))))] [.box [.sl (b.map byB) .ro, (.im (.int .i64 (b.length))), (.im (.bool (false)))], .box [(.im (.bool (true))), .sl (L.map enV) .ro, .sl [] .ro, .sl [] .ro]] ?_ (by simp) (by repeat (first | exact WkFA.nil | refine WkFA.cons (by first | exact .of (Wk.refl _) (by first | rfl | simp only [List.length_cons, List.length_nil, Nat.reduceAdd, V.ids, V.idsL, idsA, entOk, List.all_cons, List.all_nil, Bool.and_self, Bool.and_true, Bool.true_and, ltB, noId, Nat.reduceLT, decide_true, Bool.true_eq_false, tyV_id, fdV_id, tyL_id, fdL_id, enV_id, enL_id, byL_id, lsV_id, lsL_id, tyV_id]) | exact .of (Wk.ro _ _) rfl | exact .of (Wk.nlF _) rfl) ?_)) (by repeat (first | exact WkFE.nil | refine WkFE.box (by repeat (first | exact WkFL.nil | refine WkFL.cons (by first | exact .of (Wk.refl _) (by first | rfl | simp only [List.length_cons, List.length_nil, Nat.reduceAdd, V.ids, V.idsL, idsA, entOk, List.all_cons, List.all_nil, Bool.and_self, Bool.and_true, Bool.true_and, ltB, noId, Nat.reduceLT, decide_true, Bool.true_eq_false, tyV_id, fdV_id, tyL_id, fdL_id, enV_id, enL_id, byL_id, lsV_id, lsL_id, tyV_id]) | exact .of (Wk.ro _ _) rfl | exact .of (Wk.nlF _) rfl) ?_)) ?_ | refine WkFE.same (fun _ e => by cases e) ?_)) (fun i hi => by first | exact absurd rfl hi | exact Nat.lt_of_lt_of_le (ofl_lt hi) (by simp))
  refine wG Y3_Rw True.intro ?_
  refine AR.callP qr True.intro (And.intro enV_id (And.intro enL_id (And.intro byL_id (And.intro lsV_id (And.intro lsL_id @tyV_id))))) ?_
  refine goG Y3_Rw True.intro ?_
  refine wdG Y3_Rw True.intro ?_
  refine goG Y3_Rw True.intro ?_
  refine AR.eqP false ?_
  refine goG Y3_Rw True.intro ?_
  refine AR.callQP [1] r5 True.intro (And.intro enV_id (And.intro enL_id (And.intro byL_id (And.intro lsV_id (And.intro lsL_id @tyV_id))))) (And.intro enV_ren (And.intro enL_ren (And.intro byL_ren (And.intro lsV_ren lsL_ren)))) ?_
  refine goG Y3_Rw True.intro ?_
  refine AR.callP r6 True.intro (And.intro enV_id (And.intro enL_id (And.intro byL_id (And.intro lsV_id (And.intro lsL_id @tyV_id))))) ?_
  refine goG Y3_Rw True.intro ?_
  refine AR.callSP [1, 3] r7 True.intro (And.intro enV_id (And.intro enL_id (And.intro byL_id (And.intro lsV_id (And.intro lsL_id @tyV_id))))) (And.intro enV_ren (And.intro enL_ren (And.intro byL_ren (And.intro lsV_ren lsL_ren)))) ?_
  refine goG Y3_Rw (And.intro BAT bA_mk) ?_
  refine AR.callQP [1] r8 True.intro (And.intro enV_id (And.intro enL_id (And.intro byL_id (And.intro lsV_id (And.intro lsL_id @tyV_id))))) (And.intro enV_ren (And.intro enL_ren (And.intro byL_ren (And.intro lsV_ren lsL_ren)))) ?_
  refine goG Y3_Rw True.intro ?_
  refine AR.callQP [1] r9 True.intro (And.intro enV_id (And.intro enL_id (And.intro byL_id (And.intro lsV_id (And.intro lsL_id @tyV_id))))) (And.intro enV_ren (And.intro enL_ren (And.intro byL_ren (And.intro lsV_ren lsL_ren)))) ?_
  refine goG Y3_Rw True.intro ?_
  refine wdG Y3_Rw True.intro ?_
  exact Fin.oneP
end Go.Proofs.YtianekkfehoedaaGreatDoor
