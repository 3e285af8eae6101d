/- Walks: alike; the laws TokenRoundTrip, TokenNumbers, TokenStrings. -/
import Derived.Test.YtjilcaemoebloaaDoorHv
import Derived.Test.YtjilcaemoebloaaDoorT20
namespace Go.Proofs.YtjilcaemoebloaaDoor
set_option linter.unusedSimpArgs false
set_option linter.unusedVariables false
set_option linter.unnecessarySimpa false
open Go.RowKit
def erN (b : Bool) : Int := if b then 0 else 3
theorem c_scan (s : Bs) (h : s.length ≤ 65536) : PC Tryd.prog 13 [.im (.string ⟨(s).toArray⟩)] (.tu [.sl ((scan s).1.map tkV) .ro, (.im (.int .i64 (erN (scan s).2)))]) := by
  have q := c_Scan s (by omega)
  rw [scnR_eq h] at q
  exact q
theorem beq_inj (a b : Bs) : (a == b) = decide (a = b) := by
  cases h : (a == b) with
  | true => rw [beq_iff_eq] at h; rw [decide_eq_true h]
  | false => rw [beq_eq_false_iff_ne] at h; rw [decide_eq_false h]
theorem Y15_T21 : type_of% (And.intro @F_ag_28 (And.intro @F_ag_3 (And.intro @F_ag_9 (And.intro @F_el_24 (And.intro @F_fl_30_0 (And.intro @F_fl_30_1 (And.intro @F_fl_30_2 (And.intro @F_sz_28 (And.intro @F_sz_3 (And.intro @F_sz_30 (@F_sz_9))))))))))) := And.intro @F_ag_28 (And.intro @F_ag_3 (And.intro @F_ag_9 (And.intro @F_el_24 (And.intro @F_fl_30_0 (And.intro @F_fl_30_1 (And.intro @F_fl_30_2 (And.intro @F_sz_28 (And.intro @F_sz_3 (And.intro @F_sz_30 (@F_sz_9))))))))))
set_option maxHeartbeats 1000000 in
theorem c_alike (a b : List Tk) (ha : a.length ≤ 4194304) : PC Tryd.prog 15 [.sl (a.map tkV) .ro, .sl (b.map tkV) .ro] (.im (.bool (alk a b))) := by
  by_cases hl : a.length = b.length
  case neg =>
    have hl' : ¬ (a.length : Int) = (b.length : Int) := by omega
    have hR : alk a b = false := decide_eq_false fun h => hl (by simpa using congrArg List.length h)
    rw [hR]
    refine PC.enter 54 Tryd.func15 rfl (by decide) rfl rfl (s := [(0, .sl (a.map tkV) .ro), (1, .sl (b.map tkV) .ro)]) (by rfl) ?_
    refine wG Y15_T21 (And.intro TKT hl') ?_
    exact Fin.oneP
  have hl' : (a.length : Int) = (b.length : Int) := by omega
  refine PC.enter 54 Tryd.func15 rfl (by decide) rfl rfl (s := [(0, .sl (a.map tkV) .ro), (1, .sl (b.map tkV) .ro)]) (by rfl) ?_
  refine wG Y15_T21 (And.intro TKT hl') ?_
  refine AWp.loop ?_
  refine ALp.cutP 0 [(0, .sl (a.map tkV) .ro), (1, .sl (b.map tkV) .ro), (5, (.im (.int .i64 ((((0 : Nat)) : Int)))))] [] (And.intro tkL_id (And.intro tkV_id (And.intro byL_id sL_id))) ?_
  refine ALp.upto a.length (fun m => ∀ j (hj : j < m) (h1 : j < a.length) (h2 : j < b.length), core a[j] = core b[j]) (fun m => ⟨dn 54 [(0, .sl (a.map tkV) .ro), (1, .sl (b.map tkV) .ro), (5, (.im (.int .i64 ((((m : Nat)) : Int)))))], ofl []⟩) ?_ 0 (Nat.zero_le _) (fun j hj => absurd hj (Nat.not_lt_zero j))
  intro m hm hI hnext
  by_cases hlt : m < a.length
  case neg =>
    have hn : ¬ (m : Int) < (b.length : Int) := by omega
    have hR : alk a b = true := decide_eq_true (List.ext_getElem (by simpa using hl) fun j h1 h2 => by
      rw [List.getElem_map, List.getElem_map]
      exact hI j (by have : j < a.length := by simpa using h1
                     omega) (by simpa using h1) (by simpa using h2))
    rw [hR]
    clear hnext hI
    refine wG Y15_T21 (And.intro TKT (And.intro hn hl')) ?_
    exact Fin.oneP
  have hlt2 : m < b.length := by omega
  have hlt' : (m : Int) < (b.length : Int) := by omega
  have hm1 := wrap_succ hlt (by omega)
  have hg1 : a[m]? = some a[m] := List.getElem?_eq_getElem hlt
  have hg2 : b[m]? = some b[m] := List.getElem?_eq_getElem hlt2
  have hno : ¬ core a[m] = core b[m] → alk a b = false := fun h => decide_eq_false fun e => h (by
    have h3 : (a.map core)[m]? = (b.map core)[m]? := by rw [e]
    rw [List.getElem?_map, List.getElem?_map, hg1, hg2] at h3
    exact Option.some.inj h3)
  have hyes : core a[m] = core b[m] → _ := fun h => hnext (m + 1) (by omega) (by omega) (fun j hj h1 h2 => by
    rcases Nat.lt_or_ge j m with h3 | h3
    · exact hI j h3 h1 h2
    · obtain rfl : j = m := by omega
      exact h)
  clear hnext hI
  generalize a[m] = x at hg1 hno hyes
  generalize b[m] = y at hg2 hno hyes
  by_cases h1 : x.kind = y.kind
  case neg =>
    rw [hno fun e => h1 (congrArg Prod.fst e)]
    clear hyes
    refine wdG Y15_T21 (And.intro TKT (And.intro hlt' (And.intro hl' (And.intro hg1 (And.intro hg2 h1))))) ?_
    exact Fin.oneP
  by_cases h2 : x.text = y.text
  case neg =>
    rw [hno fun e => h2 (congrArg (fun p => p.2.1) e)]
    have h2' : (x.text == y.text) = false := beq_eq_false_iff_ne.2 h2
    clear hyes
    refine wdG Y15_T21 (And.intro BY (And.intro TKT (And.intro hlt' (And.intro hl' (And.intro hg1 (And.intro hg2 (And.intro h1 h2'))))))) ?_
    exact Fin.oneP
  have h2' : (y.text == y.text) = true := beq_self_eq_true _
  by_cases h3 : x.n = y.n
  case neg =>
    rw [hno fun e => h3 (congrArg (fun p => p.2.2) e)]
    clear hyes
    refine wdG Y15_T21 (And.intro BY (And.intro TKT (And.intro hlt' (And.intro hl' (And.intro hg1 (And.intro hg2 (And.intro h1 (And.intro h2 (And.intro h2' h3))))))))) ?_
    exact Fin.oneP
  have hn2 := hyes (by unfold core; rw [h1, h2, h3])
  clear hyes hno
  refine wdG Y15_T21 (And.intro BY (And.intro TKT (And.intro hlt' (And.intro hl' (And.intro hg1 (And.intro hg2 (And.intro h1 (And.intro h2 (And.intro h2' (And.intro h3 hm1)))))))))) ?_
  refine ALp.cutP 0 [(0, .sl (a.map tkV) .ro), (1, .sl (b.map tkV) .ro), (5, (.im (.int .i64 ((((m + 1 : Nat)) : Int)))))] [] (And.intro tkL_id (And.intro tkV_id (And.intro byL_id sL_id))) ?_
  exact hn2
end Go.Proofs.YtjilcaemoebloaaDoor

