/- Walks: the examples of the chapter; tokens alike. -/
import Derived.Test.YtjilcaemoebloaaDoorHv
import Derived.Test.YtjilcaemoebloaaDoorT19
import Derived.Test.YtjilcaemoebloaaDoorT13
namespace Go.Proofs.YtjilcaemoebloaaDoor
set_option linter.unusedSimpArgs false
set_option linter.unusedVariables false
set_option linter.unnecessarySimpa false
open Go.RowKit
/-- What Scan gives, said by the chapter's scanner. -/
theorem scnR_eq {s : Bs} (h : s.length ≤ 65536) : scnR s = ((scan s).1, if (scan s).2 then 0 else 3) := by
  rw [show scnR s = ((scnB s).1, if (scnB s).2 then 0 else 3) from if_neg (by omega), scnB_scan]
def X1 : Bs := [114, 49, 32, 61, 32, 114, 50, 32, 60, 115, 32, 48, 120, 49, 70, 59, 32, 47, 47, 32, 120]
def X2 : Bs := [120, 10, 32, 32, 48, 48, 55]
def Y1 : Bs := [114, 49, 32, 61, 32, 114, 50, 32, 60, 115, 32, 48, 120, 49, 102, 32, 59]
def W1 : Bs := [119, 104, 105, 108, 101]
def W2 : Bs := [114, 49]
def L1 : List Tk := [⟨1, [114, 49], 0, 1, 1⟩, ⟨5, [61], 0, 1, 4⟩, ⟨1, [114, 50], 0, 1, 6⟩, ⟨5, [60, 115], 0, 1, 9⟩, ⟨3, [], 31, 1, 12⟩, ⟨5, [59], 0, 1, 16⟩]
def L2 : List Tk := [⟨1, [120], 0, 1, 1⟩, ⟨6, [], 0, 2, 3⟩]
theorem sc_X1 : scnR X1 = (L1, 0) := by rw [scnR_eq (by decide), show scan X1 = (L1, true) by decide +kernel]; rfl
theorem sc_X2 : scnR X2 = (L2, 3) := by rw [scnR_eq (by decide), show scan X2 = (L2, false) by decide +kernel]; rfl
theorem pr_L1 : prn L1 = Y1 := by decide +kernel
theorem kw_1 : isK W1 = true := by decide +kernel
theorem kw_2 : isK W2 = false := by decide +kernel
theorem em_eq : (([] : Bs) == ByteArray.empty.toList) = true := by
  rw [show ByteArray.empty = ByteArray.mk ([] : Bs).toArray from rfl, bS_toList]
  rfl
theorem Y11_T20 : type_of% (@F_un_9) := @F_un_9
theorem c_few (s : Bs) : PC Tryd.prog 11 [.im (.string ⟨(s).toArray⟩)] (.im (.bool (decide (s.length ≤ 300)))) := by
  by_cases h : s.length ≤ 300
  · have h' : (s.length : Int) ≤ 300 := by omega
    rw [decide_eq_true h]
    refine PC.enter 6 Tryd.func11 rfl (by decide) rfl rfl (s := [(0, .im (.string ⟨(s).toArray⟩))]) (by rfl) ?_
    refine wG Y11_T20 (And.intro BY h') ?_
    exact Fin.oneP
  · have h' : ¬ (s.length : Int) ≤ 300 := by omega
    rw [decide_eq_false h]
    refine PC.enter 6 Tryd.func11 rfl (by decide) rfl rfl (s := [(0, .im (.string ⟨(s).toArray⟩))]) (by rfl) ?_
    refine wG Y11_T20 (And.intro BY h') ?_
    exact Fin.oneP
theorem Y12_T20 : type_of% (And.intro @F_ag_30 (And.intro @F_al_30 (And.intro @F_el_24 (And.intro @F_eq_30 (And.intro @F_st_30 (@F_sz_30)))))) := And.intro @F_ag_30 (And.intro @F_al_30 (And.intro @F_el_24 (And.intro @F_eq_30 (And.intro @F_st_30 (@F_sz_30)))))
set_option maxHeartbeats 2000000 in
theorem c_ex : PC Tryd.prog 12 [] (.im (.bool (true))) := by
  have q1 : PC Tryd.prog 13 [.im (.string ⟨([114, 49, 32, 61, 32, 114, 50, 32, 60, 115, 32, 48, 120, 49, 70, 59, 32, 47, 47, 32, 120]).toArray⟩)] (.tu [.sl (L1.map tkV) .ro, .im (.int .i64 0)]) := by
    have q := c_Scan X1 (by decide)
    rw [sc_X1] at q
    exact q
  have q2 : PC Tryd.prog 13 [.im (.string ⟨([120, 10, 32, 32, 48, 48, 55]).toArray⟩)] (.tu [.sl (L2.map tkV) .ro, .im (.int .i64 3)]) := by
    have q := c_Scan X2 (by decide)
    rw [sc_X2] at q
    exact q
  have q3 : PC Tryd.prog 14 [.sl (L1.map tkV) .ro] (.im (.string ⟨([114, 49, 32, 61, 32, 114, 50, 32, 60, 115, 32, 48, 120, 49, 102, 32, 59]).toArray⟩)) := by
    have q := c_Print L1 (by decide) (fun t ht => by
      simp only [L1, List.mem_cons, List.not_mem_nil, or_false] at ht
      rcases ht with rfl | rfl | rfl | rfl | rfl | rfl <;> exact ⟨⟨by decide, by decide⟩, by decide⟩) (by rw [pr_L1]; decide)
    rw [pr_L1] at q
    exact q
  have q4 : PC Tryd.prog 20 [.im (.string ⟨([119, 104, 105, 108, 101]).toArray⟩)] (.im (.bool (true))) := by
    have q := c_Keyword W1 (by decide)
    rw [kw_1] at q
    exact q
  have q5 : PC Tryd.prog 20 [.im (.string ⟨([114, 49]).toArray⟩)] (.im (.bool (false))) := by
    have q := c_Keyword W2 (by decide)
    rw [kw_2] at q
    exact q
  have g1 : (List.length L1 : Nat) = 6 := rfl
  have g2 : (List.length L2 : Nat) = 2 := rfl
  have g3 : Option.map tkV L1[3]? = some (.ag [(.im (.int .i64 (5))), .im (.string ⟨([60, 115]).toArray⟩), .im (.int .u32 0), (.im (.int .i64 (1))), (.im (.int .i64 (9)))]) := rfl
  have g4 : Option.map tkV L1[4]? = some (.ag [(.im (.int .i64 (3))), .im (.string ⟨([]).toArray⟩), .im (.int .u32 31), (.im (.int .i64 (1))), (.im (.int .i64 (12)))]) := rfl
  have g5 : Option.map tkV L2[0]? = some (.ag [(.im (.int .i64 (1))), .im (.string ⟨([120]).toArray⟩), .im (.int .u32 0), (.im (.int .i64 (1))), (.im (.int .i64 (1)))]) := rfl
  have g6 : Option.map tkV L2[1]? = some (.ag [(.im (.int .i64 (6))), .im (.string ⟨([]).toArray⟩), .im (.int .u32 0), (.im (.int .i64 (2))), (.im (.int .i64 (3)))]) := rfl
  have k1 : (([60, 115] : Bs) == [60, 115]) = true := rfl
  have k2 : (([] : Bs) == []) = true := rfl
  have k3 : (([120] : Bs) == [120]) = true := rfl
  have k4 := em_eq
  have k5 : (([] : Bs) == ByteArray.empty.1.toList) = true := rfl
  generalize L1 = l1 at q1 q3 g1 g3 g4
  generalize L2 = l2 at q2 g2 g5 g6
  refine PC.enter 69 Tryd.func12 rfl (by decide) rfl rfl (s := []) (by rfl) ?_
  refine wG Y12_T20 True.intro ?_
  refine AR.callP q1 True.intro (And.intro tkL_id (And.intro tkV_id (And.intro byL_id sL_id))) ?_
  refine goG Y12_T20 True.intro ?_
  refine wG Y12_T20 True.intro ?_
  refine AR.callP q2 True.intro (And.intro tkL_id (And.intro tkV_id (And.intro byL_id sL_id))) ?_
  refine goG Y12_T20 True.intro ?_
  refine wG Y12_T20 (And.intro BY (And.intro TKT (And.intro g1 (And.intro g2 (And.intro g3 (And.intro g4 (And.intro g5 (And.intro g6 (And.intro k1 (And.intro k2 (And.intro k3 (And.intro k4 k5)))))))))))) ?_
  refine AR.callP q3 True.intro (And.intro tkL_id (And.intro tkV_id (And.intro byL_id sL_id))) ?_
  refine goG Y12_T20 (And.intro BY (And.intro TKT (And.intro g1 (And.intro g2 (And.intro g3 (And.intro g4 (And.intro g5 (And.intro g6 (And.intro k1 (And.intro k2 (And.intro k3 (And.intro k4 k5)))))))))))) ?_
  refine AR.callP q4 True.intro (And.intro tkL_id (And.intro tkV_id (And.intro byL_id sL_id))) ?_
  refine goG Y12_T20 True.intro ?_
  refine AR.callP q5 True.intro (And.intro tkL_id (And.intro tkV_id (And.intro byL_id sL_id))) ?_
  refine goG Y12_T20 True.intro ?_
  refine wG Y12_T20 True.intro ?_
  exact Fin.oneP
end Go.Proofs.YtjilcaemoebloaaDoor

