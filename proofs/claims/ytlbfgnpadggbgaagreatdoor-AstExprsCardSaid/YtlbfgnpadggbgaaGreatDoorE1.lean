/- Walks: texts are joined; operators; a number in base 16. -/
import Derived.Test.YtlbfgnpadggbgaaGreatDoorHv
import Derived.Test.YtlbfgnpadggbgaaGreatDoorM7
import Derived.Test.YtlbfgnpadggbgaaGreatDoorM5
import Derived.Test.YtlbfgnpadggbgaaGreatDoorT17
import Derived.Test.YtlbfgnpadggbgaaGreatDoorBG
import Derived.Test.YtlbfgnpadggbgaaGreatDoorM4
namespace Go.Proofs.YtlbfgnpadggbgaaGreatDoor
set_option linter.unusedSimpArgs false
set_option linter.unusedVariables false
set_option linter.unnecessarySimpa false
open Go.RowKit
theorem sV_live (v : Bs) : (sV v).live = true := rfl
theorem sV_size (v : Bs) : (sV v).size = 1 := rfl
theorem sV_isAg (v : Bs) : (sV v).isAg = false := rfl
theorem sV_firm (v : Bs) : (sV v).firm = true := rfl
theorem sV_strip (g : Bool) (v : Bs) : strip g (sV v) = sV v := rfl
theorem sV_cells (t : Bs) : (sV t).cells = [.im (.string ⟨(t).toArray⟩)] := rfl
theorem sL_id (p : Nat → Bool) (l : List Bs) : V.idsL p (l.map sV) = true := idsL_map (fun _ => rfl) l
theorem sL_ren (g : Nat → Nat) (l : List Bs) : V.renL g (l.map sV) = l.map sV := V.renL_id g _ (sL_id _ l)

theorem c_jn (l : List Bs) (r : Bs) (hr : l.flatten = r) (hN : l.length ≤ 4194304) (hlen : r.length ≤ 140737488355328) : PC Tryz.prog 40 [.sl (l.map sV) .ro] (.im (.string ⟨(r).toArray⟩)) := by
  have q := c_joinE l (by omega) (by rw [hr]; exact hlen)
  rw [hr] at q
  refine PC.enter 5 Tryz.func40 rfl (by decide) rfl rfl (s := [(0, .sl (l.map sV) .ro)]) (by rfl) ?_
  refine wG True.intro True.intro ?_
  refine AR.callP q True.intro (And.intro byL_id (And.intro (@exL_id) (And.intro (@exV_id) sL_id))) ?_
  refine goG True.intro True.intro ?_
  refine wG True.intro True.intro ?_
  exact Fin.oneP
theorem c_j1 (a : Bs) (hlen : a.length ≤ 140737488355328) : PC Tryz.prog 40 [.sl [.im (.string ⟨(a).toArray⟩)] .ro] (.im (.string ⟨(a).toArray⟩)) := c_jn [a] a (by simp) (by simp) hlen
theorem c_j2 (a b r : Bs) (hr : a ++ b = r) (hlen : r.length ≤ 140737488355328) : PC Tryz.prog 40 [.sl [.im (.string ⟨(a).toArray⟩), .im (.string ⟨(b).toArray⟩)] .ro] (.im (.string ⟨(r).toArray⟩)) := c_jn [a, b] r (by simpa using hr) (by simp) hlen
theorem c_j3 (a b c r : Bs) (hr : a ++ (b ++ c) = r) (hlen : r.length ≤ 140737488355328) : PC Tryz.prog 40 [.sl [.im (.string ⟨(a).toArray⟩), .im (.string ⟨(b).toArray⟩), .im (.string ⟨(c).toArray⟩)] .ro] (.im (.string ⟨(r).toArray⟩)) := c_jn [a, b, c] r (by simpa using hr) (by simp) hlen
theorem c_j5 (a b c d e r : Bs) (hr : a ++ (b ++ (c ++ (d ++ e))) = r) (hlen : r.length ≤ 140737488355328) : PC Tryz.prog 40 [.sl [.im (.string ⟨(a).toArray⟩), .im (.string ⟨(b).toArray⟩), .im (.string ⟨(c).toArray⟩), .im (.string ⟨(d).toArray⟩), .im (.string ⟨(e).toArray⟩)] .ro] (.im (.string ⟨(r).toArray⟩)) := c_jn [a, b, c, d, e] r (by simpa using hr) (by simp) hlen
theorem Y39_E1 : type_of% (And.intro @F_al_9 (And.intro @F_el_58 (And.intro @F_in_22 (And.intro @F_in_99 (And.intro @F_sz_9 (And.intro @F_un_22 (@F_un_99))))))) := And.intro @F_al_9 (And.intro @F_el_58 (And.intro @F_in_22 (And.intro @F_in_99 (And.intro @F_sz_9 (And.intro @F_un_22 (@F_un_99))))))
theorem c_address (n : Nat) (hn : n < 4294967296) : PC Tryz.prog 39 [.im (.int .u32 ((n : Int)))] (.im (.string ⟨(48 :: 120 :: hexS n).toArray⟩)) := by
  have hl : (48 :: 120 :: hexS n).length ≤ 140737488355328 := by
    have := hexG_len 7 (n + 1) n (by omega) (by omega)
    unfold hexS
    simp only [List.length_cons]
    omega
  have q1 := c_fmt n hn
  have q2 := c_j2 [48, 120] (hexS n) _ rfl hl
  have hw : IntKind.u64.wrap (n : Int) = n := IntWalk.u64_in _ (by omega)
  refine PC.enter 8 Tryz.func39 rfl (by decide) rfl rfl (s := [(0, .im (.int .u32 ((n : Int))))]) (by rfl) ?_
  refine wG Y39_E1 hw ?_
  refine AR.callP q1 True.intro (And.intro byL_id (And.intro (@exL_id) (And.intro (@exV_id) sL_id))) ?_
  refine goG Y39_E1 True.intro ?_
  refine wG Y39_E1 True.intro ?_
  refine AR.callW q2 True.intro (And.intro byL_id (And.intro (@exL_id) (And.intro (@exV_id) sL_id))) ?_
  refine goG Y39_E1 True.intro ?_
  refine wG Y39_E1 True.intro ?_
  exact Fin.oneP
theorem Y42_E1 : type_of% (And.intro @F_ag_76 (And.intro @F_al_102 (And.intro @F_al_76 (And.intro @F_ar_102 (And.intro @F_st_76 (And.intro @F_sz_102 (@F_sz_76))))))) := And.intro @F_ag_76 (And.intro @F_al_102 (And.intro @F_al_76 (And.intro @F_ar_102 (And.intro @F_st_76 (And.intro @F_sz_102 (@F_sz_76))))))
theorem s93 : stOf Tryz.prog 102 = none := by kernel_rfl
theorem c_binary3 : PC Tryz.prog 42 [(.im (.int .i64 (3)))] (.ag [.im (.string ⟨([43]).toArray⟩), (.im (.int .i64 (7)))]) := by
  have hw : IntKind.i64.wrap 0 = 0 := by kernel_rfl
  refine PC.enter 22 Tryz.func42 rfl (by decide) rfl rfl (s := [(0, (.im (.int .i64 (3))))]) (by rfl) ?_
  refine wG Y42_E1 s93 ?_
  refine AR.buildA (n := 13) (e := 76) (z := 2) (cs := (List.replicate 13 [.im (.string ByteArray.empty), (.im (.int .i64 (0)))]).flatten) (cs' := [.im (.string ⟨([43]).toArray⟩), (.im (.int .i64 (7))), .im (.string ⟨([45]).toArray⟩), (.im (.int .i64 (7))), .im (.string ⟨([42]).toArray⟩), (.im (.int .i64 (8))), .im (.string ⟨([38]).toArray⟩), (.im (.int .i64 (3))), .im (.string ⟨([124]).toArray⟩), (.im (.int .i64 (1))), .im (.string ⟨([94]).toArray⟩), (.im (.int .i64 (2))), .im (.string ⟨([60, 60]).toArray⟩), (.im (.int .i64 (6))), .im (.string ⟨([62, 62]).toArray⟩), (.im (.int .i64 (6))), .im (.string ⟨([62, 62, 115]).toArray⟩), (.im (.int .i64 (6))), .im (.string ⟨([61, 61]).toArray⟩), (.im (.int .i64 (4))), .im (.string ⟨([33, 61]).toArray⟩), (.im (.int .i64 (4))), .im (.string ⟨([60, 115]).toArray⟩), (.im (.int .i64 (5))), .im (.string ⟨([60]).toArray⟩), (.im (.int .i64 (5)))]) ?_
  refine goG Y42_E1 True.intro ?_
  refine wG Y42_E1 hw ?_
  refine Fin.gen0 (rs := [.cell 2 76]) rfl (by first | exact .inl rfl | exact .inr rfl) (finG Y42_E1) ?_
  all_goals exact wkG (And.intro byL_id (And.intro (@exL_id) (And.intro (@exV_id) sL_id)))
theorem c_binary4 : PC Tryz.prog 42 [(.im (.int .i64 (4)))] (.ag [.im (.string ⟨([45]).toArray⟩), (.im (.int .i64 (7)))]) := by
  have hw : IntKind.i64.wrap 1 = 1 := by kernel_rfl
  refine PC.enter 22 Tryz.func42 rfl (by decide) rfl rfl (s := [(0, (.im (.int .i64 (4))))]) (by rfl) ?_
  refine wG Y42_E1 s93 ?_
  refine AR.buildA (n := 13) (e := 76) (z := 2) (cs := (List.replicate 13 [.im (.string ByteArray.empty), (.im (.int .i64 (0)))]).flatten) (cs' := [.im (.string ⟨([43]).toArray⟩), (.im (.int .i64 (7))), .im (.string ⟨([45]).toArray⟩), (.im (.int .i64 (7))), .im (.string ⟨([42]).toArray⟩), (.im (.int .i64 (8))), .im (.string ⟨([38]).toArray⟩), (.im (.int .i64 (3))), .im (.string ⟨([124]).toArray⟩), (.im (.int .i64 (1))), .im (.string ⟨([94]).toArray⟩), (.im (.int .i64 (2))), .im (.string ⟨([60, 60]).toArray⟩), (.im (.int .i64 (6))), .im (.string ⟨([62, 62]).toArray⟩), (.im (.int .i64 (6))), .im (.string ⟨([62, 62, 115]).toArray⟩), (.im (.int .i64 (6))), .im (.string ⟨([61, 61]).toArray⟩), (.im (.int .i64 (4))), .im (.string ⟨([33, 61]).toArray⟩), (.im (.int .i64 (4))), .im (.string ⟨([60, 115]).toArray⟩), (.im (.int .i64 (5))), .im (.string ⟨([60]).toArray⟩), (.im (.int .i64 (5)))]) ?_
  refine goG Y42_E1 True.intro ?_
  refine wG Y42_E1 hw ?_
  refine Fin.gen0 (rs := [.cell 2 76]) rfl (by first | exact .inl rfl | exact .inr rfl) (finG Y42_E1) ?_
  all_goals exact wkG (And.intro byL_id (And.intro (@exL_id) (And.intro (@exV_id) sL_id)))
theorem c_binary5 : PC Tryz.prog 42 [(.im (.int .i64 (5)))] (.ag [.im (.string ⟨([42]).toArray⟩), (.im (.int .i64 (8)))]) := by
  have hw : IntKind.i64.wrap 2 = 2 := by kernel_rfl
  refine PC.enter 22 Tryz.func42 rfl (by decide) rfl rfl (s := [(0, (.im (.int .i64 (5))))]) (by rfl) ?_
  refine wG Y42_E1 s93 ?_
  refine AR.buildA (n := 13) (e := 76) (z := 2) (cs := (List.replicate 13 [.im (.string ByteArray.empty), (.im (.int .i64 (0)))]).flatten) (cs' := [.im (.string ⟨([43]).toArray⟩), (.im (.int .i64 (7))), .im (.string ⟨([45]).toArray⟩), (.im (.int .i64 (7))), .im (.string ⟨([42]).toArray⟩), (.im (.int .i64 (8))), .im (.string ⟨([38]).toArray⟩), (.im (.int .i64 (3))), .im (.string ⟨([124]).toArray⟩), (.im (.int .i64 (1))), .im (.string ⟨([94]).toArray⟩), (.im (.int .i64 (2))), .im (.string ⟨([60, 60]).toArray⟩), (.im (.int .i64 (6))), .im (.string ⟨([62, 62]).toArray⟩), (.im (.int .i64 (6))), .im (.string ⟨([62, 62, 115]).toArray⟩), (.im (.int .i64 (6))), .im (.string ⟨([61, 61]).toArray⟩), (.im (.int .i64 (4))), .im (.string ⟨([33, 61]).toArray⟩), (.im (.int .i64 (4))), .im (.string ⟨([60, 115]).toArray⟩), (.im (.int .i64 (5))), .im (.string ⟨([60]).toArray⟩), (.im (.int .i64 (5)))]) ?_
  refine goG Y42_E1 True.intro ?_
  refine wG Y42_E1 hw ?_
  refine Fin.gen0 (rs := [.cell 2 76]) rfl (by first | exact .inl rfl | exact .inr rfl) (finG Y42_E1) ?_
  all_goals exact wkG (And.intro byL_id (And.intro (@exL_id) (And.intro (@exV_id) sL_id)))
theorem c_binary6 : PC Tryz.prog 42 [(.im (.int .i64 (6)))] (.ag [.im (.string ⟨([38]).toArray⟩), (.im (.int .i64 (3)))]) := by
  have hw : IntKind.i64.wrap 3 = 3 := by kernel_rfl
  refine PC.enter 22 Tryz.func42 rfl (by decide) rfl rfl (s := [(0, (.im (.int .i64 (6))))]) (by rfl) ?_
  refine wG Y42_E1 s93 ?_
  refine AR.buildA (n := 13) (e := 76) (z := 2) (cs := (List.replicate 13 [.im (.string ByteArray.empty), (.im (.int .i64 (0)))]).flatten) (cs' := [.im (.string ⟨([43]).toArray⟩), (.im (.int .i64 (7))), .im (.string ⟨([45]).toArray⟩), (.im (.int .i64 (7))), .im (.string ⟨([42]).toArray⟩), (.im (.int .i64 (8))), .im (.string ⟨([38]).toArray⟩), (.im (.int .i64 (3))), .im (.string ⟨([124]).toArray⟩), (.im (.int .i64 (1))), .im (.string ⟨([94]).toArray⟩), (.im (.int .i64 (2))), .im (.string ⟨([60, 60]).toArray⟩), (.im (.int .i64 (6))), .im (.string ⟨([62, 62]).toArray⟩), (.im (.int .i64 (6))), .im (.string ⟨([62, 62, 115]).toArray⟩), (.im (.int .i64 (6))), .im (.string ⟨([61, 61]).toArray⟩), (.im (.int .i64 (4))), .im (.string ⟨([33, 61]).toArray⟩), (.im (.int .i64 (4))), .im (.string ⟨([60, 115]).toArray⟩), (.im (.int .i64 (5))), .im (.string ⟨([60]).toArray⟩), (.im (.int .i64 (5)))]) ?_
  refine goG Y42_E1 True.intro ?_
  refine wG Y42_E1 hw ?_
  refine Fin.gen0 (rs := [.cell 2 76]) rfl (by first | exact .inl rfl | exact .inr rfl) (finG Y42_E1) ?_
  all_goals exact wkG (And.intro byL_id (And.intro (@exL_id) (And.intro (@exV_id) sL_id)))
theorem c_binary7 : PC Tryz.prog 42 [(.im (.int .i64 (7)))] (.ag [.im (.string ⟨([124]).toArray⟩), (.im (.int .i64 (1)))]) := by
  have hw : IntKind.i64.wrap 4 = 4 := by kernel_rfl
  refine PC.enter 22 Tryz.func42 rfl (by decide) rfl rfl (s := [(0, (.im (.int .i64 (7))))]) (by rfl) ?_
  refine wG Y42_E1 s93 ?_
  refine AR.buildA (n := 13) (e := 76) (z := 2) (cs := (List.replicate 13 [.im (.string ByteArray.empty), (.im (.int .i64 (0)))]).flatten) (cs' := [.im (.string ⟨([43]).toArray⟩), (.im (.int .i64 (7))), .im (.string ⟨([45]).toArray⟩), (.im (.int .i64 (7))), .im (.string ⟨([42]).toArray⟩), (.im (.int .i64 (8))), .im (.string ⟨([38]).toArray⟩), (.im (.int .i64 (3))), .im (.string ⟨([124]).toArray⟩), (.im (.int .i64 (1))), .im (.string ⟨([94]).toArray⟩), (.im (.int .i64 (2))), .im (.string ⟨([60, 60]).toArray⟩), (.im (.int .i64 (6))), .im (.string ⟨([62, 62]).toArray⟩), (.im (.int .i64 (6))), .im (.string ⟨([62, 62, 115]).toArray⟩), (.im (.int .i64 (6))), .im (.string ⟨([61, 61]).toArray⟩), (.im (.int .i64 (4))), .im (.string ⟨([33, 61]).toArray⟩), (.im (.int .i64 (4))), .im (.string ⟨([60, 115]).toArray⟩), (.im (.int .i64 (5))), .im (.string ⟨([60]).toArray⟩), (.im (.int .i64 (5)))]) ?_
  refine goG Y42_E1 True.intro ?_
  refine wG Y42_E1 hw ?_
  refine Fin.gen0 (rs := [.cell 2 76]) rfl (by first | exact .inl rfl | exact .inr rfl) (finG Y42_E1) ?_
  all_goals exact wkG (And.intro byL_id (And.intro (@exL_id) (And.intro (@exV_id) sL_id)))
theorem c_binary8 : PC Tryz.prog 42 [(.im (.int .i64 (8)))] (.ag [.im (.string ⟨([94]).toArray⟩), (.im (.int .i64 (2)))]) := by
  have hw : IntKind.i64.wrap 5 = 5 := by kernel_rfl
  refine PC.enter 22 Tryz.func42 rfl (by decide) rfl rfl (s := [(0, (.im (.int .i64 (8))))]) (by rfl) ?_
  refine wG Y42_E1 s93 ?_
  refine AR.buildA (n := 13) (e := 76) (z := 2) (cs := (List.replicate 13 [.im (.string ByteArray.empty), (.im (.int .i64 (0)))]).flatten) (cs' := [.im (.string ⟨([43]).toArray⟩), (.im (.int .i64 (7))), .im (.string ⟨([45]).toArray⟩), (.im (.int .i64 (7))), .im (.string ⟨([42]).toArray⟩), (.im (.int .i64 (8))), .im (.string ⟨([38]).toArray⟩), (.im (.int .i64 (3))), .im (.string ⟨([124]).toArray⟩), (.im (.int .i64 (1))), .im (.string ⟨([94]).toArray⟩), (.im (.int .i64 (2))), .im (.string ⟨([60, 60]).toArray⟩), (.im (.int .i64 (6))), .im (.string ⟨([62, 62]).toArray⟩), (.im (.int .i64 (6))), .im (.string ⟨([62, 62, 115]).toArray⟩), (.im (.int .i64 (6))), .im (.string ⟨([61, 61]).toArray⟩), (.im (.int .i64 (4))), .im (.string ⟨([33, 61]).toArray⟩), (.im (.int .i64 (4))), .im (.string ⟨([60, 115]).toArray⟩), (.im (.int .i64 (5))), .im (.string ⟨([60]).toArray⟩), (.im (.int .i64 (5)))]) ?_
  refine goG Y42_E1 True.intro ?_
  refine wG Y42_E1 hw ?_
  refine Fin.gen0 (rs := [.cell 2 76]) rfl (by first | exact .inl rfl | exact .inr rfl) (finG Y42_E1) ?_
  all_goals exact wkG (And.intro byL_id (And.intro (@exL_id) (And.intro (@exV_id) sL_id)))
theorem c_binary9 : PC Tryz.prog 42 [(.im (.int .i64 (9)))] (.ag [.im (.string ⟨([60, 60]).toArray⟩), (.im (.int .i64 (6)))]) := by
  have hw : IntKind.i64.wrap 6 = 6 := by kernel_rfl
  refine PC.enter 22 Tryz.func42 rfl (by decide) rfl rfl (s := [(0, (.im (.int .i64 (9))))]) (by rfl) ?_
  refine wG Y42_E1 s93 ?_
  refine AR.buildA (n := 13) (e := 76) (z := 2) (cs := (List.replicate 13 [.im (.string ByteArray.empty), (.im (.int .i64 (0)))]).flatten) (cs' := [.im (.string ⟨([43]).toArray⟩), (.im (.int .i64 (7))), .im (.string ⟨([45]).toArray⟩), (.im (.int .i64 (7))), .im (.string ⟨([42]).toArray⟩), (.im (.int .i64 (8))), .im (.string ⟨([38]).toArray⟩), (.im (.int .i64 (3))), .im (.string ⟨([124]).toArray⟩), (.im (.int .i64 (1))), .im (.string ⟨([94]).toArray⟩), (.im (.int .i64 (2))), .im (.string ⟨([60, 60]).toArray⟩), (.im (.int .i64 (6))), .im (.string ⟨([62, 62]).toArray⟩), (.im (.int .i64 (6))), .im (.string ⟨([62, 62, 115]).toArray⟩), (.im (.int .i64 (6))), .im (.string ⟨([61, 61]).toArray⟩), (.im (.int .i64 (4))), .im (.string ⟨([33, 61]).toArray⟩), (.im (.int .i64 (4))), .im (.string ⟨([60, 115]).toArray⟩), (.im (.int .i64 (5))), .im (.string ⟨([60]).toArray⟩), (.im (.int .i64 (5)))]) ?_
  refine goG Y42_E1 True.intro ?_
  refine wG Y42_E1 hw ?_
  refine Fin.gen0 (rs := [.cell 2 76]) rfl (by first | exact .inl rfl | exact .inr rfl) (finG Y42_E1) ?_
  all_goals exact wkG (And.intro byL_id (And.intro (@exL_id) (And.intro (@exV_id) sL_id)))
theorem c_binary10 : PC Tryz.prog 42 [(.im (.int .i64 (10)))] (.ag [.im (.string ⟨([62, 62]).toArray⟩), (.im (.int .i64 (6)))]) := by
  have hw : IntKind.i64.wrap 7 = 7 := by kernel_rfl
  refine PC.enter 22 Tryz.func42 rfl (by decide) rfl rfl (s := [(0, (.im (.int .i64 (10))))]) (by rfl) ?_
  refine wG Y42_E1 s93 ?_
  refine AR.buildA (n := 13) (e := 76) (z := 2) (cs := (List.replicate 13 [.im (.string ByteArray.empty), (.im (.int .i64 (0)))]).flatten) (cs' := [.im (.string ⟨([43]).toArray⟩), (.im (.int .i64 (7))), .im (.string ⟨([45]).toArray⟩), (.im (.int .i64 (7))), .im (.string ⟨([42]).toArray⟩), (.im (.int .i64 (8))), .im (.string ⟨([38]).toArray⟩), (.im (.int .i64 (3))), .im (.string ⟨([124]).toArray⟩), (.im (.int .i64 (1))), .im (.string ⟨([94]).toArray⟩), (.im (.int .i64 (2))), .im (.string ⟨([60, 60]).toArray⟩), (.im (.int .i64 (6))), .im (.string ⟨([62, 62]).toArray⟩), (.im (.int .i64 (6))), .im (.string ⟨([62, 62, 115]).toArray⟩), (.im (.int .i64 (6))), .im (.string ⟨([61, 61]).toArray⟩), (.im (.int .i64 (4))), .im (.string ⟨([33, 61]).toArray⟩), (.im (.int .i64 (4))), .im (.string ⟨([60, 115]).toArray⟩), (.im (.int .i64 (5))), .im (.string ⟨([60]).toArray⟩), (.im (.int .i64 (5)))]) ?_
  refine goG Y42_E1 True.intro ?_
  refine wG Y42_E1 hw ?_
  refine Fin.gen0 (rs := [.cell 2 76]) rfl (by first | exact .inl rfl | exact .inr rfl) (finG Y42_E1) ?_
  all_goals exact wkG (And.intro byL_id (And.intro (@exL_id) (And.intro (@exV_id) sL_id)))
theorem c_binary11 : PC Tryz.prog 42 [(.im (.int .i64 (11)))] (.ag [.im (.string ⟨([62, 62, 115]).toArray⟩), (.im (.int .i64 (6)))]) := by
  have hw : IntKind.i64.wrap 8 = 8 := by kernel_rfl
  refine PC.enter 22 Tryz.func42 rfl (by decide) rfl rfl (s := [(0, (.im (.int .i64 (11))))]) (by rfl) ?_
  refine wG Y42_E1 s93 ?_
  refine AR.buildA (n := 13) (e := 76) (z := 2) (cs := (List.replicate 13 [.im (.string ByteArray.empty), (.im (.int .i64 (0)))]).flatten) (cs' := [.im (.string ⟨([43]).toArray⟩), (.im (.int .i64 (7))), .im (.string ⟨([45]).toArray⟩), (.im (.int .i64 (7))), .im (.string ⟨([42]).toArray⟩), (.im (.int .i64 (8))), .im (.string ⟨([38]).toArray⟩), (.im (.int .i64 (3))), .im (.string ⟨([124]).toArray⟩), (.im (.int .i64 (1))), .im (.string ⟨([94]).toArray⟩), (.im (.int .i64 (2))), .im (.string ⟨([60, 60]).toArray⟩), (.im (.int .i64 (6))), .im (.string ⟨([62, 62]).toArray⟩), (.im (.int .i64 (6))), .im (.string ⟨([62, 62, 115]).toArray⟩), (.im (.int .i64 (6))), .im (.string ⟨([61, 61]).toArray⟩), (.im (.int .i64 (4))), .im (.string ⟨([33, 61]).toArray⟩), (.im (.int .i64 (4))), .im (.string ⟨([60, 115]).toArray⟩), (.im (.int .i64 (5))), .im (.string ⟨([60]).toArray⟩), (.im (.int .i64 (5)))]) ?_
  refine goG Y42_E1 True.intro ?_
  refine wG Y42_E1 hw ?_
  refine Fin.gen0 (rs := [.cell 2 76]) rfl (by first | exact .inl rfl | exact .inr rfl) (finG Y42_E1) ?_
  all_goals exact wkG (And.intro byL_id (And.intro (@exL_id) (And.intro (@exV_id) sL_id)))
theorem c_binary12 : PC Tryz.prog 42 [(.im (.int .i64 (12)))] (.ag [.im (.string ⟨([61, 61]).toArray⟩), (.im (.int .i64 (4)))]) := by
  have hw : IntKind.i64.wrap 9 = 9 := by kernel_rfl
  refine PC.enter 22 Tryz.func42 rfl (by decide) rfl rfl (s := [(0, (.im (.int .i64 (12))))]) (by rfl) ?_
  refine wG Y42_E1 s93 ?_
  refine AR.buildA (n := 13) (e := 76) (z := 2) (cs := (List.replicate 13 [.im (.string ByteArray.empty), (.im (.int .i64 (0)))]).flatten) (cs' := [.im (.string ⟨([43]).toArray⟩), (.im (.int .i64 (7))), .im (.string ⟨([45]).toArray⟩), (.im (.int .i64 (7))), .im (.string ⟨([42]).toArray⟩), (.im (.int .i64 (8))), .im (.string ⟨([38]).toArray⟩), (.im (.int .i64 (3))), .im (.string ⟨([124]).toArray⟩), (.im (.int .i64 (1))), .im (.string ⟨([94]).toArray⟩), (.im (.int .i64 (2))), .im (.string ⟨([60, 60]).toArray⟩), (.im (.int .i64 (6))), .im (.string ⟨([62, 62]).toArray⟩), (.im (.int .i64 (6))), .im (.string ⟨([62, 62, 115]).toArray⟩), (.im (.int .i64 (6))), .im (.string ⟨([61, 61]).toArray⟩), (.im (.int .i64 (4))), .im (.string ⟨([33, 61]).toArray⟩), (.im (.int .i64 (4))), .im (.string ⟨([60, 115]).toArray⟩), (.im (.int .i64 (5))), .im (.string ⟨([60]).toArray⟩), (.im (.int .i64 (5)))]) ?_
  refine goG Y42_E1 True.intro ?_
  refine wG Y42_E1 hw ?_
  refine Fin.gen0 (rs := [.cell 2 76]) rfl (by first | exact .inl rfl | exact .inr rfl) (finG Y42_E1) ?_
  all_goals exact wkG (And.intro byL_id (And.intro (@exL_id) (And.intro (@exV_id) sL_id)))
theorem c_binary13 : PC Tryz.prog 42 [(.im (.int .i64 (13)))] (.ag [.im (.string ⟨([33, 61]).toArray⟩), (.im (.int .i64 (4)))]) := by
  have hw : IntKind.i64.wrap 10 = 10 := by kernel_rfl
  refine PC.enter 22 Tryz.func42 rfl (by decide) rfl rfl (s := [(0, (.im (.int .i64 (13))))]) (by rfl) ?_
  refine wG Y42_E1 s93 ?_
  refine AR.buildA (n := 13) (e := 76) (z := 2) (cs := (List.replicate 13 [.im (.string ByteArray.empty), (.im (.int .i64 (0)))]).flatten) (cs' := [.im (.string ⟨([43]).toArray⟩), (.im (.int .i64 (7))), .im (.string ⟨([45]).toArray⟩), (.im (.int .i64 (7))), .im (.string ⟨([42]).toArray⟩), (.im (.int .i64 (8))), .im (.string ⟨([38]).toArray⟩), (.im (.int .i64 (3))), .im (.string ⟨([124]).toArray⟩), (.im (.int .i64 (1))), .im (.string ⟨([94]).toArray⟩), (.im (.int .i64 (2))), .im (.string ⟨([60, 60]).toArray⟩), (.im (.int .i64 (6))), .im (.string ⟨([62, 62]).toArray⟩), (.im (.int .i64 (6))), .im (.string ⟨([62, 62, 115]).toArray⟩), (.im (.int .i64 (6))), .im (.string ⟨([61, 61]).toArray⟩), (.im (.int .i64 (4))), .im (.string ⟨([33, 61]).toArray⟩), (.im (.int .i64 (4))), .im (.string ⟨([60, 115]).toArray⟩), (.im (.int .i64 (5))), .im (.string ⟨([60]).toArray⟩), (.im (.int .i64 (5)))]) ?_
  refine goG Y42_E1 True.intro ?_
  refine wG Y42_E1 hw ?_
  refine Fin.gen0 (rs := [.cell 2 76]) rfl (by first | exact .inl rfl | exact .inr rfl) (finG Y42_E1) ?_
  all_goals exact wkG (And.intro byL_id (And.intro (@exL_id) (And.intro (@exV_id) sL_id)))
theorem c_binary14 : PC Tryz.prog 42 [(.im (.int .i64 (14)))] (.ag [.im (.string ⟨([60, 115]).toArray⟩), (.im (.int .i64 (5)))]) := by
  have hw : IntKind.i64.wrap 11 = 11 := by kernel_rfl
  refine PC.enter 22 Tryz.func42 rfl (by decide) rfl rfl (s := [(0, (.im (.int .i64 (14))))]) (by rfl) ?_
  refine wG Y42_E1 s93 ?_
  refine AR.buildA (n := 13) (e := 76) (z := 2) (cs := (List.replicate 13 [.im (.string ByteArray.empty), (.im (.int .i64 (0)))]).flatten) (cs' := [.im (.string ⟨([43]).toArray⟩), (.im (.int .i64 (7))), .im (.string ⟨([45]).toArray⟩), (.im (.int .i64 (7))), .im (.string ⟨([42]).toArray⟩), (.im (.int .i64 (8))), .im (.string ⟨([38]).toArray⟩), (.im (.int .i64 (3))), .im (.string ⟨([124]).toArray⟩), (.im (.int .i64 (1))), .im (.string ⟨([94]).toArray⟩), (.im (.int .i64 (2))), .im (.string ⟨([60, 60]).toArray⟩), (.im (.int .i64 (6))), .im (.string ⟨([62, 62]).toArray⟩), (.im (.int .i64 (6))), .im (.string ⟨([62, 62, 115]).toArray⟩), (.im (.int .i64 (6))), .im (.string ⟨([61, 61]).toArray⟩), (.im (.int .i64 (4))), .im (.string ⟨([33, 61]).toArray⟩), (.im (.int .i64 (4))), .im (.string ⟨([60, 115]).toArray⟩), (.im (.int .i64 (5))), .im (.string ⟨([60]).toArray⟩), (.im (.int .i64 (5)))]) ?_
  refine goG Y42_E1 True.intro ?_
  refine wG Y42_E1 hw ?_
  refine Fin.gen0 (rs := [.cell 2 76]) rfl (by first | exact .inl rfl | exact .inr rfl) (finG Y42_E1) ?_
  all_goals exact wkG (And.intro byL_id (And.intro (@exL_id) (And.intro (@exV_id) sL_id)))
theorem c_binary15 : PC Tryz.prog 42 [(.im (.int .i64 (15)))] (.ag [.im (.string ⟨([60]).toArray⟩), (.im (.int .i64 (5)))]) := by
  have hw : IntKind.i64.wrap 12 = 12 := by kernel_rfl
  refine PC.enter 22 Tryz.func42 rfl (by decide) rfl rfl (s := [(0, (.im (.int .i64 (15))))]) (by rfl) ?_
  refine wG Y42_E1 s93 ?_
  refine AR.buildA (n := 13) (e := 76) (z := 2) (cs := (List.replicate 13 [.im (.string ByteArray.empty), (.im (.int .i64 (0)))]).flatten) (cs' := [.im (.string ⟨([43]).toArray⟩), (.im (.int .i64 (7))), .im (.string ⟨([45]).toArray⟩), (.im (.int .i64 (7))), .im (.string ⟨([42]).toArray⟩), (.im (.int .i64 (8))), .im (.string ⟨([38]).toArray⟩), (.im (.int .i64 (3))), .im (.string ⟨([124]).toArray⟩), (.im (.int .i64 (1))), .im (.string ⟨([94]).toArray⟩), (.im (.int .i64 (2))), .im (.string ⟨([60, 60]).toArray⟩), (.im (.int .i64 (6))), .im (.string ⟨([62, 62]).toArray⟩), (.im (.int .i64 (6))), .im (.string ⟨([62, 62, 115]).toArray⟩), (.im (.int .i64 (6))), .im (.string ⟨([61, 61]).toArray⟩), (.im (.int .i64 (4))), .im (.string ⟨([33, 61]).toArray⟩), (.im (.int .i64 (4))), .im (.string ⟨([60, 115]).toArray⟩), (.im (.int .i64 (5))), .im (.string ⟨([60]).toArray⟩), (.im (.int .i64 (5)))]) ?_
  refine goG Y42_E1 True.intro ?_
  refine wG Y42_E1 hw ?_
  refine Fin.gen0 (rs := [.cell 2 76]) rfl (by first | exact .inl rfl | exact .inr rfl) (finG Y42_E1) ?_
  all_goals exact wkG (And.intro byL_id (And.intro (@exL_id) (And.intro (@exV_id) sL_id)))
theorem c_binary (o : Int) (ho : 3 ≤ o ∧ o ≤ 15) : PC Tryz.prog 42 [(.im (.int .i64 (o)))] (.ag [.im (.string ⟨(symB o).toArray⟩), (.im (.int .i64 ((stO o : Int))))]) := by
  have : o = 3 ∨ o = 4 ∨ o = 5 ∨ o = 6 ∨ o = 7 ∨ o = 8 ∨ o = 9 ∨ o = 10 ∨ o = 11 ∨ o = 12 ∨ o = 13 ∨ o = 14 ∨ o = 15 := by omega
  rcases this with rfl | rfl | rfl | rfl | rfl | rfl | rfl | rfl | rfl | rfl | rfl | rfl | rfl
  · exact c_binary3
  · exact c_binary4
  · exact c_binary5
  · exact c_binary6
  · exact c_binary7
  · exact c_binary8
  · exact c_binary9
  · exact c_binary10
  · exact c_binary11
  · exact c_binary12
  · exact c_binary13
  · exact c_binary14
  · exact c_binary15
theorem Y64_E1 : type_of% (And.intro @F_ag_3 (And.intro @F_fl_25_0 (And.intro @F_fl_76_1 (@F_sz_3)))) := And.intro @F_ag_3 (And.intro @F_fl_25_0 (And.intro @F_fl_76_1 (@F_sz_3)))
theorem c_strength (o n : Int) (s : ByteArray) (w : Int) (l : List Ex) : PC Tryz.prog 64 [exV (.mk o n s w l)] (.im (.int .i64 ((strE o : Int)))) := by
  refine PC.enter 23 Tryz.func64 rfl (by decide) rfl rfl (s := [(0, exV (.mk o n s w l))]) (by rfl) ?_
  simp only [exV_mk]
  by_cases h1 : 3 ≤ o ∧ o ≤ 15
  · have q := c_binary o h1
    have e1 : o ≥ 3 := h1.1
    have e2 : o ≤ 15 := h1.2
    rw [show strE o = stO o from if_pos h1]
    refine wG Y64_E1 (And.intro e1 e2) ?_
    refine AR.callP q True.intro (And.intro byL_id (And.intro (@exL_id) (And.intro (@exV_id) sL_id))) ?_
    refine goG Y64_E1 True.intro ?_
    refine wG Y64_E1 True.intro ?_
    exact Fin.oneP
  have hs : strE o = if o = 16 ∨ o = 17 then 9 else 10 := if_neg h1
  have hb : (decide (o ≥ 3) && decide (o ≤ 15)) = false := by simp; omega
  rw [hs]
  by_cases h3 : o = 16
  · subst h3
    refine wG Y64_E1 True.intro ?_
    exact Fin.oneP
  by_cases h4 : o = 17
  · subst h4
    refine wG Y64_E1 True.intro ?_
    exact Fin.oneP
  rw [if_neg (by omega)]
  by_cases e1 : o ≥ 3
  · have e2 : ¬ o ≤ 15 := by omega
    refine wG Y64_E1 (And.intro e1 (And.intro e2 (And.intro h3 h4))) ?_
    exact Fin.oneP
  · refine wG Y64_E1 (And.intro e1 (And.intro h3 h4)) ?_
    exact Fin.oneP
end Go.Proofs.YtlbfgnpadggbgaaGreatDoor

