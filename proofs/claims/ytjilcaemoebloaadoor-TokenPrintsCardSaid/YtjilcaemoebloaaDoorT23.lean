/- Walks: keywords of the reference; the law TokenKeywords. -/
import Derived.Test.YtjilcaemoebloaaDoorHv
import Derived.Test.YtjilcaemoebloaaDoorT22
namespace Go.Proofs.YtjilcaemoebloaaDoor
set_option linter.unusedSimpArgs false
set_option linter.unusedVariables false
set_option linter.unnecessarySimpa false
open Go.RowKit
theorem kw_list : [V.im (.string ⟨#[98, 114, 101, 97, 107]⟩), V.im (.string ⟨#[99, 97, 108, 108]⟩), V.im (.string ⟨#[99, 97, 115, 101]⟩), V.im (.string ⟨#[99, 111, 110, 116, 105, 110, 117, 101]⟩), V.im (.string ⟨#[100, 97, 116, 97]⟩), V.im (.string ⟨#[101, 108, 115, 101]⟩), V.im (.string ⟨#[101, 120, 101, 99]⟩), V.im (.string ⟨#[102, 117, 110, 99]⟩), V.im (.string ⟨#[103, 111, 116, 111]⟩), V.im (.string ⟨#[104, 97, 108, 116]⟩), V.im (.string ⟨#[105, 102]⟩), V.im (.string ⟨#[105, 110]⟩), V.im (.string ⟨#[108, 111, 111, 112]⟩), V.im (.string ⟨#[111, 117, 116]⟩), V.im (.string ⟨#[114, 101, 116, 117, 114, 110]⟩), V.im (.string ⟨#[115, 119, 105, 116, 99, 104]⟩), V.im (.string ⟨#[118, 97, 114]⟩), V.im (.string ⟨#[119, 104, 105, 108, 101]⟩), V.im (.string ⟨#[119, 114, 105, 116, 101]⟩), V.im (.string ⟨#[108, 111, 97, 100, 49]⟩), V.im (.string ⟨#[108, 111, 97, 100, 50]⟩), V.im (.string ⟨#[108, 111, 97, 100, 52]⟩), V.im (.string ⟨#[115, 116, 111, 114, 101, 49]⟩), V.im (.string ⟨#[115, 116, 111, 114, 101, 50]⟩), V.im (.string ⟨#[115, 116, 111, 114, 101, 52]⟩), V.im (.string ⟨#[115, 101, 120, 116, 49]⟩), V.im (.string ⟨#[115, 101, 120, 116, 50]⟩)] = kwds.map sV := rfl
theorem STB : type_of% (And.intro @sV_firm (And.intro @sV_strip (And.intro @sV_live (And.intro @sV_size (And.intro @sV_isAg (And.intro @sV_cells (And.intro @List.getElem?_map.{0, 0} (And.intro @List.length_map.{0, 0} @Int.natCast_nonneg)))))))) :=
  And.intro @sV_firm (And.intro @sV_strip (And.intro @sV_live (And.intro @sV_size (And.intro @sV_isAg (And.intro @sV_cells (And.intro @List.getElem?_map.{0, 0} (And.intro @List.length_map.{0, 0} @Int.natCast_nonneg)))))))
theorem Y34_T23 : type_of% (And.intro @F_al_9 (And.intro @F_el_53 (@F_sz_9))) := And.intro @F_al_9 (And.intro @F_el_53 (@F_sz_9))
theorem c_kws : PC Tryd.prog 34 [] (.sl (kwds.map sV) .full) := by
  refine PC.enter 2 Tryd.func34 rfl (by decide) rfl rfl (s := []) (by rfl) ?_
  refine wG Y34_T23 kw_list ?_
  exact Fin.oneP
theorem Y21_T23 : type_of% (And.intro @F_ag_9 (And.intro @F_el_53 (@F_sz_9))) := And.intro @F_ag_9 (And.intro @F_el_53 (@F_sz_9))
theorem c_KeyR (s : Bs) : PC Tryd.prog 21 [.im (.string ⟨(s).toArray⟩)] (.im (.bool (isK s))) := by
  have qk := c_kws
  have hlen : kwds.length = 27 := rfl
  have hK : ∀ m : Nat, kwds[m]? = some s → isK s = true := fun m h => isK_mem.2 (List.mem_of_getElem? h)
  have hK2 : (∀ j, j < kwds.length → kwds[j]? ≠ some s) → isK s = false := fun h => by
    rw [← Bool.not_eq_true]
    intro hc
    obtain ⟨j, hj, e⟩ := List.mem_iff_getElem.1 (isK_mem.1 hc)
    exact h j hj (by rw [List.getElem?_eq_getElem hj, e])
  generalize kwds = L at qk hlen hK hK2
  refine PC.enter 18 Tryd.func21 rfl (by decide) rfl rfl (s := [(0, .im (.string ⟨(s).toArray⟩))]) (by rfl) ?_
  refine wG Y21_T23 True.intro ?_
  refine AR.callP qk True.intro (And.intro tkL_id (And.intro tkV_id (And.intro byL_id sL_id))) ?_
  refine goG Y21_T23 True.intro ?_
  refine wG Y21_T23 True.intro ?_
  refine AWp.loop ?_
  refine ALp.cutP 0 [(0, .im (.string ⟨(s).toArray⟩)), (3, .sl (L.map sV) .full), (4, (.im (.int .i64 ((((0 : Nat)) : Int)))))] [] (And.intro tkL_id (And.intro tkV_id (And.intro byL_id sL_id))) ?_
  refine ALp.upto L.length (fun m => ∀ j, j < m → L[j]? ≠ some s) (fun m => ⟨dn 18 [(0, .im (.string ⟨(s).toArray⟩)), (3, .sl (L.map sV) .full), (4, (.im (.int .i64 ((((m : Nat)) : Int)))))], ofl []⟩) ?_ 0 (Nat.zero_le _) (fun j hj => absurd hj (Nat.not_lt_zero j))
  intro m hm hI hnext
  by_cases hlt : m < L.length
  case neg =>
    have hn : ¬ (m : Int) < (L.length : Int) := by omega
    rw [hK2 fun j hj => hI j (by omega)]
    clear hnext hI hK hK2
    refine wG Y21_T23 (And.intro STB hn) ?_
    exact Fin.oneP
  have hlt' : (m : Int) < (L.length : Int) := by omega
  have hm1 := wrap_succ hlt (by omega)
  have hg : L[m]? = some L[m] := List.getElem?_eq_getElem hlt
  generalize L[m] = w at hg
  by_cases hw : w = s
  · subst hw
    have hb : (w == w) = true := beq_self_eq_true _
    rw [hK m hg]
    clear hnext hI hK hK2
    refine wG Y21_T23 (And.intro BY (And.intro STB (And.intro hlt' (And.intro hg hb)))) ?_
    exact Fin.oneP
  · have hb : (w == s) = false := beq_eq_false_iff_ne.2 hw
    have hn2 := hnext (m + 1) (by omega) (by omega) (fun j hj => by
      rcases Nat.lt_or_ge j m with h3 | h3
      · exact hI j h3
      · obtain rfl : j = m := by omega
        rw [hg]
        intro e
        exact hw (Option.some.inj e))
    clear hnext hI hK hK2
    refine wG Y21_T23 (And.intro BY (And.intro STB (And.intro hlt' (And.intro hg (And.intro hb hm1))))) ?_
    refine ALp.cutP 0 [(0, .im (.string ⟨(s).toArray⟩)), (3, .sl (L.map sV) .full), (4, (.im (.int .i64 ((((m + 1 : Nat)) : Int)))))] [] (And.intro tkL_id (And.intro tkV_id (And.intro byL_id sL_id))) ?_
    exact hn2
theorem Y6_T23 : type_of% (And.intro @F_ag_3 (And.intro @F_ag_9 (And.intro @F_el_24 (And.intro @F_fl_30_0 (And.intro @F_fl_30_1 (And.intro @F_sz_3 (And.intro @F_sz_30 (And.intro @F_sz_9 (@F_un_4))))))))) := And.intro @F_ag_3 (And.intro @F_ag_9 (And.intro @F_el_24 (And.intro @F_fl_30_0 (And.intro @F_fl_30_1 (And.intro @F_sz_3 (And.intro @F_sz_30 (And.intro @F_sz_9 (@F_un_4))))))))
set_option maxHeartbeats 1000000 in
theorem c_law4 (s : Bs) (hs : s.length ≤ 140737488355328) : PC Tryd.prog 6 [.im (.string ⟨(s).toArray⟩)] (.im (.bool (true))) := by
  have qe := c_ex
  have qf := c_few s
  by_cases hf : s.length ≤ 300
  case neg =>
    rw [decide_eq_false hf] at qf
    refine PC.enter 52 Tryd.func6 rfl (by decide) rfl rfl (s := [(0, .im (.string ⟨(s).toArray⟩))]) (by rfl) ?_
    refine wG Y6_T23 True.intro ?_
    refine AR.callP qf True.intro (And.intro tkL_id (And.intro tkV_id (And.intro byL_id sL_id))) ?_
    refine goG Y6_T23 True.intro ?_
    refine wG Y6_T23 True.intro ?_
    refine AR.callP qe True.intro (And.intro tkL_id (And.intro tkV_id (And.intro byL_id sL_id))) ?_
    refine goG Y6_T23 True.intro ?_
    refine wG Y6_T23 True.intro ?_
    exact Fin.oneP
  rw [decide_eq_true hf] at qf
  have q1 := c_scan s (by omega)
  have qk := c_Keyword s (by omega)
  have qr := c_KeyR s
  have hkey := scan_keyword s
  cases hb : (scan s).2 with
  | false =>
    have hK : isK s = false := by
      rw [← Bool.not_eq_true, hkey, hb]
      rintro ⟨h, _⟩
      cases h
    rw [hb, show erN false = 3 from rfl] at q1
    rw [hK] at qk qr
    generalize (scan s).1 = l at q1
    clear hkey hb hK
    refine PC.enter 52 Tryd.func6 rfl (by decide) rfl rfl (s := [(0, .im (.string ⟨(s).toArray⟩))]) (by rfl) ?_
    refine wG Y6_T23 True.intro ?_
    refine AR.callP qf True.intro (And.intro tkL_id (And.intro tkV_id (And.intro byL_id sL_id))) ?_
    refine goG Y6_T23 True.intro ?_
    refine wG Y6_T23 True.intro ?_
    refine AR.callP qk True.intro (And.intro tkL_id (And.intro tkV_id (And.intro byL_id sL_id))) ?_
    refine goG Y6_T23 True.intro ?_
    refine wG Y6_T23 True.intro ?_
    refine AR.callP q1 True.intro (And.intro tkL_id (And.intro tkV_id (And.intro byL_id sL_id))) ?_
    refine goG Y6_T23 True.intro ?_
    refine wG Y6_T23 True.intro ?_
    refine AR.callP qr True.intro (And.intro tkL_id (And.intro tkV_id (And.intro byL_id sL_id))) ?_
    refine goG Y6_T23 True.intro ?_
    refine AR.callP qe True.intro (And.intro tkL_id (And.intro tkV_id (And.intro byL_id sL_id))) ?_
    refine goG Y6_T23 True.intro ?_
    refine wG Y6_T23 True.intro ?_
    exact Fin.oneP
  | true =>
    rw [hb, show erN true = 0 from rfl] at q1
    rw [hb] at hkey
    have hk2 : isK s = true ↔ ∃ t, (scan s).1 = [t] ∧ t.kind = 2 ∧ t.text = s := by rw [hkey]; simp
    generalize (scan s).1 = l at q1 hk2
    clear hkey hb
    by_cases hl : l.length = 1
    case neg =>
      have hK : isK s = false := by
        rw [← Bool.not_eq_true, hk2]
        rintro ⟨t, h, _⟩
        rw [h] at hl
        exact hl rfl
      rw [hK] at qk qr
      have hl' : ¬ (l.length : Int) = 1 := by omega
      refine PC.enter 52 Tryd.func6 rfl (by decide) rfl rfl (s := [(0, .im (.string ⟨(s).toArray⟩))]) (by rfl) ?_
      refine wG Y6_T23 True.intro ?_
      refine AR.callP qf True.intro (And.intro tkL_id (And.intro tkV_id (And.intro byL_id sL_id))) ?_
      refine goG Y6_T23 True.intro ?_
      refine wG Y6_T23 True.intro ?_
      refine AR.callP qk True.intro (And.intro tkL_id (And.intro tkV_id (And.intro byL_id sL_id))) ?_
      refine goG Y6_T23 True.intro ?_
      refine wG Y6_T23 True.intro ?_
      refine AR.callP q1 True.intro (And.intro tkL_id (And.intro tkV_id (And.intro byL_id sL_id))) ?_
      refine goG Y6_T23 True.intro ?_
      refine wG Y6_T23 (And.intro TKT hl') ?_
      refine AR.callP qr True.intro (And.intro tkL_id (And.intro tkV_id (And.intro byL_id sL_id))) ?_
      refine goG Y6_T23 True.intro ?_
      refine AR.callP qe True.intro (And.intro tkL_id (And.intro tkV_id (And.intro byL_id sL_id))) ?_
      refine goG Y6_T23 True.intro ?_
      refine wG Y6_T23 True.intro ?_
      exact Fin.oneP
    obtain ⟨t, rfl⟩ := List.length_eq_one_iff.1 hl
    have hg : Option.map tkV ([t] : List Tk)[0]? = some (tkV t) := rfl
    have hK : isK s = (decide (t.kind = 2) && (t.text == s)) := by
      rw [Bool.eq_iff_iff, hk2]
      simp
    have hl1 : ([t] : List Tk).length = 1 := rfl
    rw [hK] at qk qr
    generalize hbb : (t.text == s) = b at qk qr
    generalize hL : ([t] : List Tk) = L at q1 hg hl1
    clear hK hk2 hL hl
    by_cases h2 : t.kind = 2
    · rw [decide_eq_true h2, Bool.true_and] at qk qr
      cases b with
      | true =>
        refine PC.enter 52 Tryd.func6 rfl (by decide) rfl rfl (s := [(0, .im (.string ⟨(s).toArray⟩))]) (by rfl) ?_
        refine wG Y6_T23 True.intro ?_
        refine AR.callP qf True.intro (And.intro tkL_id (And.intro tkV_id (And.intro byL_id sL_id))) ?_
        refine goG Y6_T23 True.intro ?_
        refine wG Y6_T23 True.intro ?_
        refine AR.callP qk True.intro (And.intro tkL_id (And.intro tkV_id (And.intro byL_id sL_id))) ?_
        refine goG Y6_T23 True.intro ?_
        refine wG Y6_T23 True.intro ?_
        refine AR.callP q1 True.intro (And.intro tkL_id (And.intro tkV_id (And.intro byL_id sL_id))) ?_
        refine goG Y6_T23 True.intro ?_
        refine wG Y6_T23 (And.intro BY (And.intro TKT (And.intro hl1 (And.intro hg (And.intro h2 hbb))))) ?_
        refine AR.callP qr True.intro (And.intro tkL_id (And.intro tkV_id (And.intro byL_id sL_id))) ?_
        refine goG Y6_T23 True.intro ?_
        refine AR.callP qe True.intro (And.intro tkL_id (And.intro tkV_id (And.intro byL_id sL_id))) ?_
        refine goG Y6_T23 True.intro ?_
        refine wG Y6_T23 True.intro ?_
        exact Fin.oneP
      | false =>
        refine PC.enter 52 Tryd.func6 rfl (by decide) rfl rfl (s := [(0, .im (.string ⟨(s).toArray⟩))]) (by rfl) ?_
        refine wG Y6_T23 True.intro ?_
        refine AR.callP qf True.intro (And.intro tkL_id (And.intro tkV_id (And.intro byL_id sL_id))) ?_
        refine goG Y6_T23 True.intro ?_
        refine wG Y6_T23 True.intro ?_
        refine AR.callP qk True.intro (And.intro tkL_id (And.intro tkV_id (And.intro byL_id sL_id))) ?_
        refine goG Y6_T23 True.intro ?_
        refine wG Y6_T23 True.intro ?_
        refine AR.callP q1 True.intro (And.intro tkL_id (And.intro tkV_id (And.intro byL_id sL_id))) ?_
        refine goG Y6_T23 True.intro ?_
        refine wG Y6_T23 (And.intro BY (And.intro TKT (And.intro hl1 (And.intro hg (And.intro h2 hbb))))) ?_
        refine AR.callP qr True.intro (And.intro tkL_id (And.intro tkV_id (And.intro byL_id sL_id))) ?_
        refine goG Y6_T23 True.intro ?_
        refine AR.callP qe True.intro (And.intro tkL_id (And.intro tkV_id (And.intro byL_id sL_id))) ?_
        refine goG Y6_T23 True.intro ?_
        refine wG Y6_T23 True.intro ?_
        exact Fin.oneP
    · rw [decide_eq_false h2, Bool.false_and] at qk qr
      refine PC.enter 52 Tryd.func6 rfl (by decide) rfl rfl (s := [(0, .im (.string ⟨(s).toArray⟩))]) (by rfl) ?_
      refine wG Y6_T23 True.intro ?_
      refine AR.callP qf True.intro (And.intro tkL_id (And.intro tkV_id (And.intro byL_id sL_id))) ?_
      refine goG Y6_T23 True.intro ?_
      refine wG Y6_T23 True.intro ?_
      refine AR.callP qk True.intro (And.intro tkL_id (And.intro tkV_id (And.intro byL_id sL_id))) ?_
      refine goG Y6_T23 True.intro ?_
      refine wG Y6_T23 True.intro ?_
      refine AR.callP q1 True.intro (And.intro tkL_id (And.intro tkV_id (And.intro byL_id sL_id))) ?_
      refine goG Y6_T23 True.intro ?_
      refine wG Y6_T23 (And.intro BY (And.intro TKT (And.intro hl1 (And.intro hg h2)))) ?_
      refine AR.callP qr True.intro (And.intro tkL_id (And.intro tkV_id (And.intro byL_id sL_id))) ?_
      refine goG Y6_T23 True.intro ?_
      refine AR.callP qe True.intro (And.intro tkL_id (And.intro tkV_id (And.intro byL_id sL_id))) ?_
      refine goG Y6_T23 True.intro ?_
      refine wG Y6_T23 True.intro ?_
      exact Fin.oneP
end Go.Proofs.YtjilcaemoebloaaDoor

