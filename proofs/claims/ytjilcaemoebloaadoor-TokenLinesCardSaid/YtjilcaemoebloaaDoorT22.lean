/- Walks: the laws TokenRoundTrip, TokenNumbers, TokenStrings. -/
import Derived.Test.YtjilcaemoebloaaDoorHv
import Derived.Test.YtjilcaemoebloaaDoorT21
namespace Go.Proofs.YtjilcaemoebloaaDoor
set_option linter.unusedSimpArgs false
set_option linter.unusedVariables false
set_option linter.unnecessarySimpa false
open Go.RowKit
theorem Y3_T22 : type_of% (And.intro @F_ag_3 (And.intro @F_el_24 (And.intro @F_fl_30_0 (And.intro @F_sz_3 (@F_sz_30))))) := And.intro @F_ag_3 (And.intro @F_el_24 (And.intro @F_fl_30_0 (And.intro @F_sz_3 (@F_sz_30))))
set_option maxHeartbeats 1000000 in
theorem c_law1 (s : Bs) (hs : s.length ≤ 140737488355328) : PC Tryd.prog 3 [.im (.string ⟨(s).toArray⟩)] (.im (.bool (true))) := by
  have qe := c_ex
  have qf := c_few s
  by_cases hf : s.length ≤ 300
  case neg =>
    rw [decide_eq_false hf] at qf
    refine PC.enter 62 Tryd.func3 rfl (by decide) rfl rfl (s := [(0, .im (.string ⟨(s).toArray⟩))]) (by rfl) ?_
    refine wG Y3_T22 True.intro ?_
    refine AR.callP qf True.intro (And.intro tkL_id (And.intro tkV_id (And.intro byL_id sL_id))) ?_
    refine goG Y3_T22 True.intro ?_
    refine wG Y3_T22 True.intro ?_
    refine AR.callP qe True.intro (And.intro tkL_id (And.intro tkV_id (And.intro byL_id sL_id))) ?_
    refine goG Y3_T22 True.intro ?_
    refine wG Y3_T22 True.intro ?_
    exact Fin.oneP
  rw [decide_eq_true hf] at qf
  have q1 := c_scan s (by omega)
  have hlen := scan_len s
  cases hb : (scan s).2 with
  | false =>
    obtain ⟨t, ht1, ht2⟩ := scn_last _ _ _ hb
    have ht1 : (scan s).1.getLast? = some t := ht1
    rw [hb] at q1
    generalize (scan s).1 = l at q1 ht1 hlen
    have hne : l ≠ [] := fun e => by rw [e] at ht1; cases ht1
    have hp := List.length_pos_iff.2 hne
    have hg : l[l.length - 1]? = some t := by rw [← List.getLast?_eq_getElem?]; exact ht1
    have hgt : (l.length : Int) > 0 := by omega
    have hw : IntKind.i64.wrap ((l.length : Int) - 1) = ((l.length - 1 : Nat) : Int) := by rw [wrap_in (by omega)]; omega
    have er : erN false = 3 := rfl
    rw [er] at q1
    refine PC.enter 62 Tryd.func3 rfl (by decide) rfl rfl (s := [(0, .im (.string ⟨(s).toArray⟩))]) (by rfl) ?_
    refine wG Y3_T22 True.intro ?_
    refine AR.callP qf True.intro (And.intro tkL_id (And.intro tkV_id (And.intro byL_id sL_id))) ?_
    refine goG Y3_T22 True.intro ?_
    refine wG Y3_T22 True.intro ?_
    refine AR.callP q1 True.intro (And.intro tkL_id (And.intro tkV_id (And.intro byL_id sL_id))) ?_
    refine goG Y3_T22 True.intro ?_
    refine wG Y3_T22 (And.intro TKT (And.intro hgt (And.intro hw (And.intro hg ht2)))) ?_
    refine AR.callP qe True.intro (And.intro tkL_id (And.intro tkV_id (And.intro byL_id sL_id))) ?_
    refine goG Y3_T22 True.intro ?_
    refine wG Y3_T22 True.intro ?_
    exact Fin.oneP
  | true =>
    have hrt := round_trip hb
    have hpl := scan_prn_len s
    have hok := scan_ok (show s.length ≤ 4194304 by omega)
    have q2 := c_Print (scan s).1 (by omega) hok (by omega)
    have q3 := c_scan (prn (scan s).1) (by omega)
    have q4 := c_alike (scan s).1 (scan (prn (scan s).1)).1 (by omega)
    have hlen2 := scan_len (prn (scan s).1)
    have hok2 := scan_ok (show (prn (scan s).1).length ≤ 4194304 by omega)
    have q5 := c_Print (scan (prn (scan s).1)).1 (by omega) hok2 (by rw [hrt.2.2]; omega)
    rw [hrt.2.2] at q5
    rw [hrt.1] at q3
    rw [show alk (scan s).1 (scan (prn (scan s).1)).1 = true from decide_eq_true hrt.2.1.symm] at q4
    rw [hb] at q1
    have er : erN true = 0 := rfl
    rw [er] at q1 q3
    clear hrt hpl hok hok2 hlen hlen2
    generalize scan (prn (scan s).1) = v2 at q3 q4 q5
    generalize prn (scan s).1 = p at q2 q3 q5
    generalize (scan s).1 = l at q1 q2 q4
    have hpp : (p == p) = true := beq_self_eq_true _
    refine PC.enter 62 Tryd.func3 rfl (by decide) rfl rfl (s := [(0, .im (.string ⟨(s).toArray⟩))]) (by rfl) ?_
    refine wG Y3_T22 True.intro ?_
    refine AR.callP qf True.intro (And.intro tkL_id (And.intro tkV_id (And.intro byL_id sL_id))) ?_
    refine goG Y3_T22 True.intro ?_
    refine wG Y3_T22 True.intro ?_
    refine AR.callP q1 True.intro (And.intro tkL_id (And.intro tkV_id (And.intro byL_id sL_id))) ?_
    refine goG Y3_T22 True.intro ?_
    refine wG Y3_T22 True.intro ?_
    refine AR.callP q2 True.intro (And.intro tkL_id (And.intro tkV_id (And.intro byL_id sL_id))) ?_
    refine goG Y3_T22 True.intro ?_
    refine wG Y3_T22 True.intro ?_
    refine AR.callP q3 True.intro (And.intro tkL_id (And.intro tkV_id (And.intro byL_id sL_id))) ?_
    refine goG Y3_T22 True.intro ?_
    refine wG Y3_T22 True.intro ?_
    refine AR.callP q4 True.intro (And.intro tkL_id (And.intro tkV_id (And.intro byL_id sL_id))) ?_
    refine goG Y3_T22 True.intro ?_
    refine AR.callP q5 True.intro (And.intro tkL_id (And.intro tkV_id (And.intro byL_id sL_id))) ?_
    refine goG Y3_T22 (And.intro BY hpp) ?_
    refine AR.callP qe True.intro (And.intro tkL_id (And.intro tkV_id (And.intro byL_id sL_id))) ?_
    refine goG Y3_T22 True.intro ?_
    refine wG Y3_T22 True.intro ?_
    exact Fin.oneP
theorem Y7_T22 : type_of% (And.intro @F_ag_30 (And.intro @F_al_30 (And.intro @F_el_24 (And.intro @F_eq_30 (And.intro @F_st_30 (@F_sz_30)))))) := And.intro @F_ag_30 (And.intro @F_al_30 (And.intro @F_el_24 (And.intro @F_eq_30 (And.intro @F_st_30 (@F_sz_30)))))
set_option maxHeartbeats 1000000 in
theorem c_law5 (s : Bs) (hs : s.length ≤ 140737488355328) : PC Tryd.prog 7 [.im (.string ⟨(s).toArray⟩)] (.im (.bool (true))) := by
  have qe := c_ex
  have qf := c_few s
  by_cases hf : s.length ≤ 300
  case neg =>
    rw [decide_eq_false hf] at qf
    refine PC.enter 37 Tryd.func7 rfl (by decide) rfl rfl (s := [(0, .im (.string ⟨(s).toArray⟩))]) (by rfl) ?_
    refine wG Y7_T22 True.intro ?_
    refine AR.callP qf True.intro (And.intro tkL_id (And.intro tkV_id (And.intro byL_id sL_id))) ?_
    refine goG Y7_T22 True.intro ?_
    refine wG Y7_T22 True.intro ?_
    refine AR.callP qe True.intro (And.intro tkL_id (And.intro tkV_id (And.intro byL_id sL_id))) ?_
    refine goG Y7_T22 True.intro ?_
    refine wG Y7_T22 True.intro ?_
    exact Fin.oneP
  rw [decide_eq_true hf] at qf
  have hsc := scan_string s
  have hpl : (prn [⟨4, s, 0, 0, 0⟩]).length ≤ 4 * s.length + 3 := by
    refine Nat.le_trans (prn_len _) ?_
    have := quoS_len s
    simp [wdt, shw]
    omega
  have q2 := c_Print [⟨4, s, 0, 0, 0⟩] (by simp) (fun t ht => by
    obtain rfl := List.mem_singleton.1 ht
    exact ⟨zOk, by simp only; omega⟩) (by omega)
  have q3 := c_scan (prn [⟨4, s, 0, 0, 0⟩]) (by omega)
  rw [hsc] at q3
  have er : erN true = 0 := rfl
  simp only [er] at q3
  generalize prn [⟨4, s, 0, 0, 0⟩] = p at q2 q3
  simp only [List.map_cons, List.map_nil, tkV_eq] at q2 q3
  have hss : (s == s) = true := beq_self_eq_true _
  refine PC.enter 37 Tryd.func7 rfl (by decide) rfl rfl (s := [(0, .im (.string ⟨(s).toArray⟩))]) (by rfl) ?_
  refine wG Y7_T22 True.intro ?_
  refine AR.callP qf True.intro (And.intro tkL_id (And.intro tkV_id (And.intro byL_id sL_id))) ?_
  refine goG Y7_T22 True.intro ?_
  refine wG Y7_T22 True.intro ?_
  refine AR.callW q2 True.intro (And.intro tkL_id (And.intro tkV_id (And.intro byL_id sL_id))) ?_
  refine goG Y7_T22 True.intro ?_
  refine wG Y7_T22 True.intro ?_
  refine AR.callP q3 True.intro (And.intro tkL_id (And.intro tkV_id (And.intro byL_id sL_id))) ?_
  refine goG Y7_T22 (And.intro BY hss) ?_
  refine wG Y7_T22 (And.intro BY hss) ?_
  refine AR.callP qe True.intro (And.intro tkL_id (And.intro tkV_id (And.intro byL_id sL_id))) ?_
  refine goG Y7_T22 True.intro ?_
  refine wG Y7_T22 True.intro ?_
  exact Fin.oneP
theorem Y8_T22 : type_of% (And.intro @F_ag_30 (And.intro @F_al_30 (And.intro @F_el_24 (And.intro @F_eq_30 (And.intro @F_st_30 (@F_sz_30)))))) := And.intro @F_ag_30 (And.intro @F_al_30 (And.intro @F_el_24 (And.intro @F_eq_30 (And.intro @F_st_30 (@F_sz_30)))))
set_option maxHeartbeats 1000000 in
theorem c_law6 (n : Int) (hn : 0 ≤ n ∧ n < 4294967296) : PC Tryd.prog 8 [.im (.int .u32 n)] (.im (.bool (true))) := by
  have qe := c_ex
  obtain ⟨v, rfl⟩ : ∃ m : Nat, n = m := ⟨n.toNat, by omega⟩
  have hv : v < 4294967296 := by omega
  have hsc := scan_number v hv
  have hsg := scan_number_g v hv
  have hpl : (prn [⟨3, [], v, 0, 0⟩]).length ≤ 11 := by
    refine Nat.le_trans (prn_len _) ?_
    have := numS_len v hv
    simp [wdt, shw]
    omega
  have q2 := c_Print [⟨3, [], v, 0, 0⟩] (by simp) (fun t ht => by
    obtain rfl := List.mem_singleton.1 ht
    exact ⟨hn, by simp⟩) (by omega)
  have q3 := c_scan (prn [⟨3, [], v, 0, 0⟩]) (by omega)
  have q4 := c_scan (prn [⟨3, [], v, 0, 0⟩] ++ [103]) (by rw [List.length_append]; simp; omega)
  rw [hsc] at q3
  rw [hsg] at q4
  have er : erN true = 0 := rfl
  have er2 : erN false = 3 := rfl
  simp only [er] at q3
  simp only [er2] at q4
  generalize prn [⟨3, [], (v : Int), 0, 0⟩] = p at q2 q3 q4 hpl
  simp only [List.map_cons, List.map_nil, tkV_eq] at q2 q3 q4
  have hap : ByteArray.mk p.toArray ++ ByteArray.mk #[103] = ByteArray.mk (p ++ [103]).toArray := bS_append p [103]
  have hsz : (ByteArray.mk p.toArray).size + (ByteArray.mk #[103]).size ≤ 9223372036854775807 := by
    rw [bS_size, bS_size, show ([103] : Bs).length = 1 from rfl]
    omega
  have hss : (([] : Bs) == []) = true := rfl
  have k4 := em_eq
  have k5 : (([] : Bs) == ByteArray.empty.1.toList) = true := rfl
  refine PC.enter 57 Tryd.func8 rfl (by decide) rfl rfl (s := [(0, .im (.int .u32 (v : Int)))]) (by rfl) ?_
  refine wG Y8_T22 True.intro ?_
  refine AR.callW q2 True.intro (And.intro tkL_id (And.intro tkV_id (And.intro byL_id sL_id))) ?_
  refine goG Y8_T22 True.intro ?_
  refine wG Y8_T22 True.intro ?_
  refine AR.callP q3 True.intro (And.intro tkL_id (And.intro tkV_id (And.intro byL_id sL_id))) ?_
  refine goG Y8_T22 (And.intro hap hsz) ?_
  refine wG Y8_T22 (And.intro hap hsz) ?_
  refine AR.callP q4 True.intro (And.intro tkL_id (And.intro tkV_id (And.intro byL_id sL_id))) ?_
  refine goG Y8_T22 (And.intro BY (And.intro hss (And.intro k4 k5))) ?_
  refine wG Y8_T22 (And.intro BY (And.intro hss (And.intro k4 k5))) ?_
  refine AR.callP qe True.intro (And.intro tkL_id (And.intro tkV_id (And.intro byL_id sL_id))) ?_
  refine goG Y8_T22 True.intro ?_
  refine wG Y8_T22 True.intro ?_
  exact Fin.oneP
end Go.Proofs.YtjilcaemoebloaaDoor

