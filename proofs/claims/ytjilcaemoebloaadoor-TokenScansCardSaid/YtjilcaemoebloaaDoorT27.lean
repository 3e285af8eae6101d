/- Walks: letters, digits, words, white space of the reference. -/
import Derived.Test.YtjilcaemoebloaaDoorHv
import Derived.Test.YtjilcaemoebloaaDoorT26
namespace Go.Proofs.YtjilcaemoebloaaDoor
set_option linter.unusedSimpArgs false
set_option linter.unusedVariables false
set_option linter.unnecessarySimpa false
open Go.RowKit

theorem c_isDig (c : UInt8) : PC Tryd.prog 65 [.im (.int .u8 (c.toNat))] (.im (.bool (isD c))) := by
  rw [← dgt_isD]
  refine PC.enter 9 Tryd.func65 rfl (by decide) rfl rfl (s := [(0, .im (.int .u8 (c.toNat)))]) (by rfl) ?_
  refine wG True.intro True.intro ?_
  exact Fin.oneP

theorem c_isLet (c : UInt8) : PC Tryd.prog 64 [.im (.int .u8 (c.toNat))] (.im (.bool (isL c))) := by
  rw [← ltr_isL]
  refine PC.enter 25 Tryd.func64 rfl (by decide) rfl rfl (s := [(0, .im (.int .u8 (c.toNat)))]) (by rfl) ?_
  refine wG True.intro True.intro ?_
  exact Fin.oneP
theorem Y84_T27 : type_of% (And.intro @F_in_3 (And.intro @F_in_5 (And.intro @F_un_3 (@F_un_5)))) := And.intro @F_in_3 (And.intro @F_in_5 (And.intro @F_un_3 (@F_un_5)))
theorem c_hexDR (c : UInt8) : PC Tryd.prog 84 [.im (.int .u8 (c.toNat))] (.im (.int .i64 (hexI c))) := by
  have q := c_isDig c
  have hcl := c.toNat_lt
  have hw : IntKind.i64.wrap (c.toNat : Int) = (c.toNat : Int) := wrap_in (by omega)
  by_cases h1 : 48 ≤ c.toNat ∧ c.toNat ≤ 57
  · have hd : isD c = true := decide_eq_true h1
    have hw2 : IntKind.i64.wrap ((c.toNat : Int) - 48) = ((c.toNat - 48 : Nat) : Int) := by rw [wrap_in (by omega)]; omega
    have hx : hexI c = ((c.toNat - 48 : Nat) : Int) := hexI_some (if_pos h1)
    rw [hd] at q
    rw [hx]
    refine PC.enter 26 Tryd.func84 rfl (by decide) rfl rfl (s := [(0, .im (.int .u8 (c.toNat)))]) (by rfl) ?_
    refine wG Y84_T27 True.intro ?_
    refine AR.callP q True.intro byL_id ?_
    refine goG Y84_T27 True.intro ?_
    refine wG Y84_T27 (And.intro hw hw2) ?_
    exact Fin.oneP
  have hd : isD c = false := decide_eq_false h1
  rw [hd] at q
  by_cases h2 : 97 ≤ c.toNat ∧ c.toNat ≤ 102
  · have hw2 : IntKind.i64.wrap ((c.toNat : Int) - 87) = ((c.toNat - 87 : Nat) : Int) := by rw [wrap_in (by omega)]; omega
    have hx : hexI c = ((c.toNat - 87 : Nat) : Int) := hexI_some (by unfold hexv; rw [if_neg h1, if_pos h2])
    have e1 : (c.toNat : Int) ≥ 97 := by omega
    have e2 : (c.toNat : Int) ≤ 102 := by omega
    rw [hx]
    refine PC.enter 26 Tryd.func84 rfl (by decide) rfl rfl (s := [(0, .im (.int .u8 (c.toNat)))]) (by rfl) ?_
    refine wG Y84_T27 True.intro ?_
    refine AR.callP q True.intro byL_id ?_
    refine goG Y84_T27 True.intro ?_
    refine wG Y84_T27 (And.intro hw (And.intro hw2 (And.intro e1 e2))) ?_
    exact Fin.oneP
  have e0 : (decide ((c.toNat : Int) ≥ 97) && decide ((c.toNat : Int) ≤ 102)) = false := by
    rw [← Bool.not_eq_true]
    simp only [Bool.and_eq_true, decide_eq_true_eq]
    omega
  by_cases h3 : 65 ≤ c.toNat ∧ c.toNat ≤ 70
  · have hw2 : IntKind.i64.wrap ((c.toNat : Int) - 55) = ((c.toNat - 55 : Nat) : Int) := by rw [wrap_in (by omega)]; omega
    have hx : hexI c = ((c.toNat - 55 : Nat) : Int) := hexI_some (by unfold hexv; rw [if_neg h1, if_neg h2, if_pos h3])
    have e1 : ¬ (c.toNat : Int) ≥ 97 := by omega
    have e2 : (c.toNat : Int) ≥ 65 := by omega
    have e3 : (c.toNat : Int) ≤ 70 := by omega
    rw [hx]
    refine PC.enter 26 Tryd.func84 rfl (by decide) rfl rfl (s := [(0, .im (.int .u8 (c.toNat)))]) (by rfl) ?_
    refine wG Y84_T27 True.intro ?_
    refine AR.callP q True.intro byL_id ?_
    refine goG Y84_T27 True.intro ?_
    refine wG Y84_T27 (And.intro hw (And.intro hw2 (And.intro e1 (And.intro e2 e3)))) ?_
    exact Fin.oneP
  have hx : hexI c = -1 := hexI_none (by unfold hexv; rw [if_neg h1, if_neg h2, if_neg h3])
  rw [hx]
  refine PC.enter 26 Tryd.func84 rfl (by decide) rfl rfl (s := [(0, .im (.int .u8 (c.toNat)))]) (by rfl) ?_
  refine wG Y84_T27 True.intro ?_
  refine AR.callP q True.intro byL_id ?_
  refine goG Y84_T27 True.intro ?_
  refine wG Y84_T27 True.intro ?_
  refine AWp.condAB rfl rfl (fun hE => ?_) (fun hE => ?_)
  · simp only [Bool.and_eq_true, decide_eq_true_eq] at hE
    omega
  refine wG Y84_T27 True.intro ?_
  refine AWp.condAB rfl rfl (fun hE => ?_) (fun hE => ?_)
  · simp only [Bool.and_eq_true, decide_eq_true_eq] at hE
    omega
  refine wG Y84_T27 True.intro ?_
  exact Fin.oneP
theorem Y47_T27 : type_of% (@F_un_9) := @F_un_9
set_option maxHeartbeats 1000000 in
theorem c_wordEnd (s : Bs) (a : Nat) (ha : a ≤ s.length) (hs : s.length ≤ 4194304) : PC Tryd.prog 47 [.im (.string ⟨(s).toArray⟩), (.im (.int .i64 ((a : Int))))] (.im (.int .i64 (((a + ((s.drop a).takeWhile isW).length : Nat) : Int)))) := by
  have hdl : (s.drop a).length = s.length - a := List.length_drop
  have hget : ∀ m, s[a + m]? = (s.drop a)[m]? := fun m => by rw [List.getElem?_drop]
  generalize s.drop a = l at hdl hget
  refine PC.enter 24 Tryd.func47 rfl (by decide) rfl rfl (s := [(0, .im (.string ⟨(s).toArray⟩)), (1, (.im (.int .i64 ((a : Int)))))]) (by rfl) ?_
  refine wG Y47_T27 True.intro ?_
  refine AWp.loop ?_
  refine ALp.cutP 0 [(0, .im (.string ⟨(s).toArray⟩)), (1, (.im (.int .i64 (((a + 0 : Nat) : Int)))))] [] byL_id ?_
  refine ALp.upto l.length (AllTo isW l) (fun m => ⟨dn 24 [(0, .im (.string ⟨(s).toArray⟩)), (1, (.im (.int .i64 (((a + m : Nat) : Int)))))], ofl []⟩) ?_ 0 (Nat.zero_le _) (AllTo.zero _ _)
  intro m hm hI hnext
  by_cases hlt : m < l.length
  case neg =>
    obtain rfl : m = l.length := by omega
    have hn : ¬ ((a + l.length : Nat) : Int) < (s.length : Int) := by omega
    clear hnext
    rw [takeW_full fun j hj => hI j hj hj]
    refine wG Y47_T27 (And.intro BY hn) ?_
    exact Fin.oneP
  have hlt' : ((a + m : Nat) : Int) < (s.length : Int) := by omega
  have hw1 : IntKind.i64.wrap (((a + m : Nat) : Int) + 1) = ((a + (m + 1) : Nat) : Int) := by rw [wrap_in (by omega)]; omega
  have hg : s[a + m]? = some l[m] := by rw [hget, List.getElem?_eq_getElem hlt]
  have q1 := c_isLet l[m]
  have q2 := c_isDig l[m]
  have hw : isW l[m] = (isL l[m] || isD l[m]) := rfl
  cases b1 : isL l[m] with
  | true =>
    rw [b1] at q1 hw
    have hn2 := hnext (m + 1) (by omega) (by omega) (hI.succ hlt hw)
    generalize l[m] = c at hg q1 q2
    clear hnext hI hw
    refine wG Y47_T27 (And.intro BY (And.intro hlt' hg)) ?_
    refine AR.callP q1 True.intro byL_id ?_
    refine goG Y47_T27 True.intro ?_
    refine wG Y47_T27 hw1 ?_
    refine ALp.cutP 0 [(0, .im (.string ⟨(s).toArray⟩)), (1, (.im (.int .i64 (((a + m + 1 : Nat) : Int)))))] [] byL_id ?_
    exact hn2
  | false =>
  rw [b1, Bool.false_or] at hw
  rw [b1] at q1
  cases b2 : isD l[m] with
  | true =>
    rw [b2] at hw q2
    have hn2 := hnext (m + 1) (by omega) (by omega) (hI.succ hlt hw)
    generalize l[m] = c at hg q1 q2
    clear hnext hI hw
    refine wG Y47_T27 (And.intro BY (And.intro hlt' hg)) ?_
    refine AR.callP q1 True.intro byL_id ?_
    refine goG Y47_T27 (And.intro BY hg) ?_
    refine AR.callP q2 True.intro byL_id ?_
    refine goG Y47_T27 True.intro ?_
    refine wG Y47_T27 hw1 ?_
    refine ALp.cutP 0 [(0, .im (.string ⟨(s).toArray⟩)), (1, (.im (.int .i64 (((a + m + 1 : Nat) : Int)))))] [] byL_id ?_
    exact hn2
  | false =>
    rw [b2] at hw q2
    rw [takeW_stop hlt (fun j hj hjm => hI j hj hjm) hw]
    generalize l[m] = c at hg q1 q2
    clear hnext hI hw
    refine wG Y47_T27 (And.intro BY (And.intro hlt' hg)) ?_
    refine AR.callP q1 True.intro byL_id ?_
    refine goG Y47_T27 (And.intro BY hg) ?_
    refine AR.callP q2 True.intro byL_id ?_
    refine goG Y47_T27 True.intro ?_
    refine wG Y47_T27 True.intro ?_
    exact Fin.oneP
theorem skp_stop2 {s : Bs} {a p : Nat} (hp : p ≤ s.length) (h : skpG false (s.drop p) = skpG false (s.drop a)) (h2 : skpG false (s.drop p) = s.drop p) : s.length - (skpG false (s.drop a)).length = p := by
  rw [← h, h2, List.length_drop]
  omega
theorem skp_nl {c : UInt8} (r : Bs) (h : c.toNat = 10) : skpG true (c :: r) = skpG false (c :: r) := by
  have hS : isS c = true := by unfold isS; rw [decide_eq_true_eq]; omega
  rw [skpG, if_pos h]
  conv => rhs; rw [skpG, if_pos hS]
theorem Y29_T27 : type_of% (@F_un_9) := @F_un_9
set_option maxHeartbeats 2000000 in
theorem c_skipR (s : Bs) (a : Nat) (ha : a ≤ s.length) (hs : s.length ≤ 4194304) : PC Tryd.prog 29 [.im (.string ⟨(s).toArray⟩), (.im (.int .i64 ((a : Int))))] (.im (.int .i64 (((s.length - (skpG false (s.drop a)).length : Nat) : Int)))) := by
  obtain ⟨T, hT⟩ : ∃ T, T = skpG false (s.drop a) := ⟨_, rfl⟩
  rw [← hT]
  refine PC.enter 65 Tryd.func29 rfl (by decide) rfl rfl (s := [(0, .im (.string ⟨(s).toArray⟩)), (1, (.im (.int .i64 ((a : Int)))))]) (by rfl) ?_
  refine wG Y29_T27 True.intro ?_
  refine AWp.loop ?_
  refine ALp.cutP 0 [(0, .im (.string ⟨(s).toArray⟩)), (1, (.im (.int .i64 ((((a) : Nat) : Int)))))] [] byL_id ?_
  refine ALp.upto s.length (fun p => skpG false (s.drop p) = T) (fun p => ⟨dn 65 [(0, .im (.string ⟨(s).toArray⟩)), (1, (.im (.int .i64 ((((p) : Nat) : Int)))))], ofl []⟩) ?_ a ha hT.symm
  intro p hp hI hnext
  by_cases hlt : p < s.length
  case neg =>
    obtain rfl : p = s.length := by omega
    have hn : ¬ (s.length : Int) < (s.length : Int) := by omega
    have hR : s.length - T.length = s.length := by
      rw [← hI, List.drop_length]
      rfl
    rw [hR]
    clear hnext
    refine wG Y29_T27 (And.intro BY hn) ?_
    exact Fin.oneP
  have hlt' : (p : Int) < (s.length : Int) := by omega
  have hw1 := wrap_succ hlt (by omega)
  have hg : s[p]? = some s[p] := List.getElem?_eq_getElem hlt
  have hd : s.drop p = s[p] :: s.drop (p + 1) := List.drop_eq_getElem_cons hlt
  generalize s[p] = c at hg hd
  by_cases hS : isS c = true
  · have hI2 : skpG false (s.drop (p + 1)) = T := by rw [← hI, hd, skpG, if_pos hS]
    have hn2 := hnext (p + 1) (by omega) (by omega) hI2
    have hS2 : c.toNat = 32 ∨ c.toNat = 9 ∨ c.toNat = 13 ∨ c.toNat = 10 := of_decide_eq_true hS
    clear hnext
    by_cases k1 : c.toNat = 32
    · have e1 : (c.toNat : Int) = 32 := by omega
      refine wG Y29_T27 (And.intro BY (And.intro hlt' (And.intro hg (And.intro e1 hw1)))) ?_
      refine ALp.cutP 0 [(0, .im (.string ⟨(s).toArray⟩)), (1, (.im (.int .i64 ((((p + 1) : Nat) : Int)))))] [] byL_id ?_
      exact hn2
    have e1 : ¬ (c.toNat : Int) = 32 := by omega
    by_cases k2 : c.toNat = 9
    · have e2 : (c.toNat : Int) = 9 := by omega
      refine wG Y29_T27 (And.intro BY (And.intro hlt' (And.intro hg (And.intro e1 (And.intro e2 hw1))))) ?_
      refine ALp.cutP 0 [(0, .im (.string ⟨(s).toArray⟩)), (1, (.im (.int .i64 ((((p + 1) : Nat) : Int)))))] [] byL_id ?_
      exact hn2
    have e2 : ¬ (c.toNat : Int) = 9 := by omega
    by_cases k3 : c.toNat = 13
    · have e3 : (c.toNat : Int) = 13 := by omega
      refine wG Y29_T27 (And.intro BY (And.intro hlt' (And.intro hg (And.intro e1 (And.intro e2 (And.intro e3 hw1)))))) ?_
      refine ALp.cutP 0 [(0, .im (.string ⟨(s).toArray⟩)), (1, (.im (.int .i64 ((((p + 1) : Nat) : Int)))))] [] byL_id ?_
      exact hn2
    have e3 : ¬ (c.toNat : Int) = 13 := by omega
    have e4 : (c.toNat : Int) = 10 := by omega
    refine wG Y29_T27 (And.intro BY (And.intro hlt' (And.intro hg (And.intro e1 (And.intro e2 (And.intro e3 (And.intro e4 hw1))))))) ?_
    refine ALp.cutP 0 [(0, .im (.string ⟨(s).toArray⟩)), (1, (.im (.int .i64 ((((p + 1) : Nat) : Int)))))] [] byL_id ?_
    exact hn2
  have hS2 : ¬ (c.toNat = 32 ∨ c.toNat = 9 ∨ c.toNat = 13 ∨ c.toNat = 10) := fun h => hS (decide_eq_true h)
  have hS3 : isS c = false := by simpa using hS
  have e1 : ¬ (c.toNat : Int) = 32 := by omega
  have e2 : ¬ (c.toNat : Int) = 9 := by omega
  have e3 : ¬ (c.toNat : Int) = 13 := by omega
  have e4 : ¬ (c.toNat : Int) = 10 := by omega
  by_cases h47 : c.toNat = 47
  case neg =>
    have e5 : ¬ (c.toNat : Int) = 47 := by omega
    have hst : skpG false (s.drop p) = s.drop p := by rw [hd, skpG, if_neg hS, if_neg (fun h => h47 h.1)]
    have hR : s.length - T.length = p := by rw [hT]; exact skp_stop2 hp (hI.trans hT) hst
    rw [hR]
    clear hnext
    refine wG Y29_T27 (And.intro BY (And.intro hlt' (And.intro hg (And.intro e1 (And.intro e2 (And.intro e3 (And.intro e4 e5))))))) ?_
    exact Fin.oneP
  have e5 : (c.toNat : Int) = 47 := by omega
  by_cases hlt2 : p + 1 < s.length
  case neg =>
    have e6 : ((p + 1 : Nat) : Int) ≥ (s.length : Int) := by omega
    have hnil : s.drop (p + 1) = [] := List.drop_eq_nil_of_le (by omega)
    have hst : skpG false (s.drop p) = s.drop p := by rw [hd, skpG, if_neg hS, if_neg (by rw [hnil]; rintro ⟨_, h⟩; cases h)]
    have hR : s.length - T.length = p := by rw [hT]; exact skp_stop2 hp (hI.trans hT) hst
    rw [hR]
    clear hnext
    refine wG Y29_T27 (And.intro BY (And.intro hlt' (And.intro hg (And.intro e1 (And.intro e2 (And.intro e3 (And.intro e4 (And.intro e5 (And.intro e6 hw1))))))))) ?_
    exact Fin.oneP
  have e6 : ¬ ((p + 1 : Nat) : Int) ≥ (s.length : Int) := by omega
  have hg2 : s[p + 1]? = some s[p + 1] := List.getElem?_eq_getElem hlt2
  have hd2 : s.drop (p + 1) = s[p + 1] :: s.drop (p + 1 + 1) := List.drop_eq_getElem_cons hlt2
  generalize s[p + 1] = d at hg2 hd2
  by_cases h472 : d.toNat = 47
  case neg =>
    have e7 : ¬ (d.toNat : Int) = 47 := by omega
    have hst : skpG false (s.drop p) = s.drop p := by
      rw [hd, skpG, if_neg hS, if_neg]
      rw [hd2]
      rintro ⟨_, h⟩
      simp only [List.head?_cons, Option.some.injEq] at h
      rw [h] at h472
      exact h472 (by decide)
    have hR : s.length - T.length = p := by rw [hT]; exact skp_stop2 hp (hI.trans hT) hst
    rw [hR]
    clear hnext
    refine wG Y29_T27 (And.intro BY (And.intro hlt' (And.intro hg (And.intro hg2 (And.intro e1 (And.intro e2 (And.intro e3 (And.intro e4 (And.intro e5 (And.intro e6 (And.intro e7 hw1))))))))))) ?_
    exact Fin.oneP
  have e7 : (d.toNat : Int) = 47 := by omega
  have hIt : skpG true (s.drop p) = T := by
    rw [← hI, hd, skpG, if_neg (by omega)]
    conv => rhs; rw [skpG, if_neg hS, if_pos ⟨h47, by rw [hd2, toNat_inj (b := 47) h472]; rfl⟩]
  refine wG Y29_T27 (And.intro BY (And.intro hlt' (And.intro hg (And.intro hg2 (And.intro e1 (And.intro e2 (And.intro e3 (And.intro e4 (And.intro e5 (And.intro e6 (And.intro e7 hw1))))))))))) ?_
  refine AWp.loop ?_
  refine ALp.cutP 0 [(0, .im (.string ⟨(s).toArray⟩)), (1, (.im (.int .i64 ((((p) : Nat) : Int)))))] [] byL_id ?_
  refine ALp.upto s.length (fun q => p ≤ q ∧ skpG true (s.drop q) = T) (fun q => ⟨dn 65 [(0, .im (.string ⟨(s).toArray⟩)), (1, (.im (.int .i64 ((((q) : Nat) : Int)))))], ofl []⟩) ?_ p hp ⟨Nat.le_refl _, hIt⟩
  intro q hq hJ hnq
  obtain ⟨hpq, hJ⟩ := hJ
  by_cases hql : q < s.length
  case neg =>
    obtain rfl : q = s.length := by omega
    have hn : ¬ (s.length : Int) < (s.length : Int) := by omega
    have hn2 := hnext s.length (by omega) (Nat.le_refl _) (by rw [← hJ, List.drop_length]; rfl)
    clear hnext hnq
    refine wG Y29_T27 (And.intro BY hn) ?_
    refine ALp.cutP 0 [(0, .im (.string ⟨(s).toArray⟩)), (1, (.im (.int .i64 ((((s.length) : Nat) : Int)))))] [] byL_id ?_
    exact hn2
  have hql' : (q : Int) < (s.length : Int) := by omega
  have hwq := wrap_succ hql (by omega)
  have hgq : s[q]? = some s[q] := List.getElem?_eq_getElem hql
  have hdq : s.drop q = s[q] :: s.drop (q + 1) := List.drop_eq_getElem_cons hql
  by_cases h10 : s[q].toNat = 10
  · have hne : p ≠ q := fun e => by
      subst e
      rw [hg] at hgq
      have := Option.some.inj hgq
      rw [← this] at h10
      omega
    have hn2 := hnext q (by omega) hq (by rw [← hJ, hdq, skp_nl _ h10])
    generalize s[q] = x at hgq h10
    have e8 : (x.toNat : Int) = 10 := by omega
    clear hnext hnq
    refine wG Y29_T27 (And.intro BY (And.intro hql' (And.intro hgq e8))) ?_
    refine ALp.cutP 0 [(0, .im (.string ⟨(s).toArray⟩)), (1, (.im (.int .i64 ((((q) : Nat) : Int)))))] [] byL_id ?_
    exact hn2
  · have hn2 := hnq (q + 1) (by omega) (by omega) ⟨by omega, by rw [← hJ, hdq, skpG, if_neg h10]⟩
    generalize s[q] = x at hgq h10
    have e8 : ¬ (x.toNat : Int) = 10 := by omega
    clear hnext hnq
    refine wG Y29_T27 (And.intro BY (And.intro hql' (And.intro hgq (And.intro e8 hwq)))) ?_
    refine ALp.cutP 0 [(0, .im (.string ⟨(s).toArray⟩)), (1, (.im (.int .i64 ((((q + 1) : Nat) : Int)))))] [] byL_id ?_
    exact hn2
end Go.Proofs.YtjilcaemoebloaaDoor

