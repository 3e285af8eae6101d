/- Walks: the order of types, as the reference has it; accesses; what may be assigned. -/
import Derived.Test.YtfggemopnlffeaaHw
import Derived.Test.YtfggemopnlffeaaBA
import Derived.Test.YtfggemopnlffeaaB9
namespace Go.Proofs.Ytfggemopnlffeaa
set_option linter.unusedSimpArgs false
set_option linter.unusedVariables false
set_option linter.unnecessarySimpa false
open Go.RowKit
theorem c_find {l : List Ty} (o : Int) (hl : l.length ≤ 4194304) : PC Try.prog 100 [.sl (l.map fdV) .ro, (.im (.int .i64 (o)))] (.im (.int .i64 (findI l o))) := by
  refine PC.enter 20 Try.func100 rfl (by decide) rfl rfl (s := [(0, .sl (l.map fdV) .ro), (1, (.im (.int .i64 (o))))]) (by rfl) ?_
  refine w100 True.intro ?_
  refine AWp.loop ?_
  refine ALp.cut 0 [(0, .sl (l.map fdV) .ro), (1, (.im (.int .i64 (o)))), (5, (.im (.int .i64 ((((0 : Nat)) : Int)))))] [] ?_ rfl (by repeat (first | exact WkA.nil | refine WkA.cons (Wk.refl _) ?_)) (fun i hi => by first | exact absurd rfl hi) (by simp [idsA, V.ids, V.idsL, ltB, fdL_id]) (by simp)
  refine ALp.upto l.length (fun m => ∀ j (hj : j < l.length), j < m → l[j].off ≠ o) (fun m => ⟨dn 20 [(0, .sl (l.map fdV) .ro), (1, (.im (.int .i64 (o)))), (5, (.im (.int .i64 ((((m : Nat)) : Int)))))], ofl []⟩) ?_ 0 (Nat.zero_le _) (fun j _ h => absurd h (Nat.not_lt_zero _))
  intro m hm hI hnext
  by_cases hlt : m < l.length
  · have hlt' : (m : Int) < (l.length : Int) := by omega
    have hg := get_some hlt
    have hm1 := wrap_succ hlt (by omega)
    by_cases b : l[m].off = o
    · rw [findI_some hlt b hI]
      refine w100 (And.intro hlt' (And.intro hg b)) ?_
      exact Fin.oneP
    · refine w100 (And.intro hlt' (And.intro hg (And.intro b hm1))) ?_
      refine ALp.cutP 0 [(0, .sl (l.map fdV) .ro), (1, (.im (.int .i64 (o)))), (5, (.im (.int .i64 ((((m + 1 : Nat)) : Int)))))] [] True.intro ?_
      exact hnext (m + 1) (by omega) (by omega) (fun j hj h => by
        rcases Nat.lt_succ_iff_lt_or_eq.1 h with h1 | rfl
        · exact hI j hj h1
        · exact b)
  · have hlt' : ¬ (m : Int) < (l.length : Int) := by omega
    clear hnext
    rw [findI_none (fun j hj => hI j hj (by omega))]
    refine w100 hlt' ?_
    exact Fin.oneP
theorem findI_cases (l : List Ty) (o : Int) : (findI l o = -1 ∧ ∀ j (hj : j < l.length), l[j].off ≠ o) ∨ ∃ k, ∃ hk : k < l.length, findI l o = k ∧ l[k].off = o := by
  unfold findI
  cases h : l.findIdx? (fun f => f.off == o) with
  | none =>
    rw [List.findIdx?_eq_none_iff] at h
    exact .inl ⟨rfl, fun j hj => by simpa using h l[j] (List.getElem_mem hj)⟩
  | some k =>
    rw [List.findIdx?_eq_some_iff_getElem] at h
    obtain ⟨hk, hp, _⟩ := h
    exact .inr ⟨k, hk, rfl, by simpa using hp⟩
set_option maxHeartbeats 1000000 in
theorem c_isSub : ∀ (b : Ty), fit b → frm b = true → ∀ (a : Ty), fit a → frm a = true → PC Try.prog 67 [tyV a, tyV b] (.im (.bool (subT a b))) := by
  refine Ty.induct fun o k s c es fs hE hF => ?_
  intro hfit hfrm a hfita hfrma
  obtain ⟨hl1, hl2, hfE, hfF⟩ := fit_mk hfit
  obtain ⟨hb, hof, hfs, hes⟩ := frm_inv hfrm
  obtain ⟨oa, ka, sa, ca, ea, fa⟩ := a
  obtain ⟨ha1, ha2, haE, haF⟩ := fit_mk hfita
  obtain ⟨hba, haof, hafs, haes⟩ := frm_inv hfrma
  refine PC.enter 93 Try.func67 rfl (by decide) rfl rfl (s := [(0, tyV (.mk oa ka sa ca ea fa)), (1, tyV (.mk o k s c es fs))]) (by rfl) ?_
  simp only [tyV_mk]
  rw [subT_mk2]
  by_cases h0 : ka = 0
  · subst h0
    simp only [Int.reduceBEq, Bool.true_or, if_true]
    refine w67 True.intro ?_
    exact Fin.oneP
  by_cases h6 : k = 6
  · subst h6
    simp only [Int.reduceBEq, Bool.or_true, if_true]
    refine w67 h0 ?_
    exact Fin.oneP
  have e0 : (ka == 0 || k == 6) = false := by simp [h0, h6]
  rw [e0]
  simp only [Bool.false_eq_true, if_false]
  by_cases hk : ka = k
  case neg =>
    have e1 : (ka != k) = true := by simp [hk]
    rw [e1]
    simp only [if_true]
    refine w67 (And.intro h0 (And.intro h6 hk)) ?_
    exact Fin.oneP
  subst hk
  have e1 : (ka != ka) = false := by simp
  rw [e1]
  simp only [Bool.false_eq_true, if_false]
  rcases base_cases hb with h | h | h | h | h
  · omega
  · obtain ⟨h, _⟩ := h
    have e2 : (ka == 1 || ka == 2) = true := by rcases h with rfl | rfl <;> rfl
    rw [e2]
    simp only [if_true]
    by_cases hsz : sa = s
    · have e3 : (sa == s) = true := by simp [hsz]
      rw [e3]
      rcases h with rfl | rfl
      all_goals
        refine w67 hsz ?_
        exact Fin.oneP
    · have e3 : (sa == s) = false := by simp [hsz]
      rw [e3]
      rcases h with rfl | rfl
      all_goals
        refine w67 hsz ?_
        exact Fin.oneP
  · obtain ⟨rfl, _, _, h4, _⟩ := h
    have h4a : ea.length = 1 := by rcases base_cases hba with q | q | q | q | q <;> omega
    obtain ⟨x, rfl⟩ := List.length_eq_one_iff.1 h4
    obtain ⟨y, rfl⟩ := List.length_eq_one_iff.1 h4a
    simp only [Int.reduceBEq, Bool.or_false, Bool.false_eq_true, if_false, if_true, hd2]
    have hc := hE x (by simp) (hfE x (by simp)) (hes x (by simp)) y (haE y (by simp)) (haes y (by simp))
    refine wd67 True.intro ?_
    refine AR.callP hc @tyV_eq True.intro ?_
    refine go67 True.intro ?_
    refine wd67 True.intro ?_
    exact Fin.oneP
  · obtain ⟨rfl, _, _, _, h4, _⟩ := h
    have h4a : ea.length = 1 := by rcases base_cases hba with q | q | q | q | q <;> omega
    obtain ⟨x, rfl⟩ := List.length_eq_one_iff.1 h4
    obtain ⟨y, rfl⟩ := List.length_eq_one_iff.1 h4a
    simp only [Int.reduceBEq, Bool.or_false, Bool.false_eq_true, if_false, if_true, hd2]
    have hc := hE x (by simp) (hfE x (by simp)) (hes x (by simp)) y (haE y (by simp)) (haes y (by simp))
    cases hsub : subT y x with
    | true =>
      rw [hsub] at hc
      by_cases hcc : ca ≥ c
      · have e3 : decide (c ≤ ca) = true := by simp; omega
        rw [e3, Bool.true_and]
        refine wd67 True.intro ?_
        refine AR.callP hc @tyV_eq True.intro ?_
        refine go67 hcc ?_
        refine wd67 hcc ?_
        exact Fin.oneP
      · have e3 : decide (c ≤ ca) = false := by simp; omega
        rw [e3, Bool.false_and]
        refine wd67 True.intro ?_
        refine AR.callP hc @tyV_eq True.intro ?_
        refine go67 hcc ?_
        refine wd67 hcc ?_
        exact Fin.oneP
    | false =>
      rw [hsub] at hc
      rw [Bool.and_false]
      refine wd67 True.intro ?_
      refine AR.callP hc @tyV_eq True.intro ?_
      refine go67 True.intro ?_
      refine wd67 True.intro ?_
      exact Fin.oneP
  · obtain ⟨rfl, _⟩ := h
    simp only [Int.reduceBEq, Bool.or_false, Bool.false_eq_true, if_false]
    refine w67 True.intro ?_
    refine AWp.loop ?_
    refine ALp.cutP 2 [(2, .pt 0 0), (3, .pt 1 0), (5, (.im (.int .i64 ((((0 : Nat)) : Int)))))] [.box [.im (.int .i64 5), .im (.int .i64 sa), .im (.int .i64 ca), .sl (ea.map tyV) .ro, .sl (fa.map fdV) .ro], .box [.im (.int .i64 5), .im (.int .i64 s), .im (.int .i64 c), .sl (es.map tyV) .ro, .sl (fs.map fdV) .ro]] True.intro ?_
    refine ALp.upto fs.length (AllTo (fun f => fa.any fun x => x.off == f.off && subT x f) fs) (fun m => ⟨dn 93 [(2, .pt 0 0), (3, .pt 1 0), (5, (.im (.int .i64 ((((m : Nat)) : Int)))))], ofl [.box [.im (.int .i64 5), .im (.int .i64 sa), .im (.int .i64 ca), .sl (ea.map tyV) .ro, .sl (fa.map fdV) .ro], .box [.im (.int .i64 5), .im (.int .i64 s), .im (.int .i64 c), .sl (es.map tyV) .ro, .sl (fs.map fdV) .ro]]⟩) ?_ 0 (Nat.zero_le _) (AllTo.zero _ _)
    intro m hm hI hnext
    by_cases hlt : m < fs.length
    · have hlt' : (m : Int) < (fs.length : Int) := by omega
      have hg := get_some hlt
      have hm1 := wrap_succ hlt (by omega)
      have hfi := c_find (l := fa) fs[m].off ha2
      refine wd67 (And.intro hlt' hg) ?_
      refine AR.callP hfi @fdV_eq True.intro ?_
      rcases findI_cases fa fs[m].off with ⟨q1, q2⟩ | ⟨j, hj, q1, q2⟩
      · rw [q1]
        refine go67 True.intro ?_
        refine wd67 True.intro ?_
        rw [not_all_of (f := fun f => fa.any fun x => x.off == f.off && subT x f) hlt (any_none _ q2)]
        exact Fin.oneP
      · rw [q1]
        have hc := hF fs[m] (List.getElem_mem hlt) (hfF _ (List.getElem_mem hlt)) (hfs _ (List.getElem_mem hlt)) fa[j] (haF _ (List.getElem_mem hj)) (hafs _ (List.getElem_mem hj))
        have hgj := get_some hj
        have hneg : ¬ ((j : Nat) : Int) < 0 := by omega
        have hany := any_at haof (fun x => subT x fs[m]) hj q2
        cases hsub : subT fa[j] fs[m] with
        | true =>
          rw [hsub] at hc hany
          refine go67 True.intro ?_
          refine wd67 (And.intro hneg (And.intro hgj hg)) ?_
          refine AR.callP hc @tyV_eq True.intro ?_
          refine go67 hneg ?_
          refine wd67 hm1 ?_
          refine ALp.cutP 2 [(2, .pt 0 0), (3, .pt 1 0), (5, (.im (.int .i64 ((((m + 1 : Nat)) : Int)))))] [.box [.im (.int .i64 5), .im (.int .i64 sa), .im (.int .i64 ca), .sl (ea.map tyV) .ro, .sl (fa.map fdV) .ro], .box [.im (.int .i64 5), .im (.int .i64 s), .im (.int .i64 c), .sl (es.map tyV) .ro, .sl (fs.map fdV) .ro]] True.intro ?_
          exact hnext (m + 1) (by omega) (by omega) (hI.succ hlt hany)
        | false =>
          rw [hsub] at hc hany
          refine go67 True.intro ?_
          refine wd67 (And.intro hneg (And.intro hgj hg)) ?_
          refine AR.callP hc @tyV_eq True.intro ?_
          refine go67 hneg ?_
          refine wd67 hm1 ?_
          rw [not_all_of (f := fun f => fa.any fun x => x.off == f.off && subT x f) hlt hany]
          exact Fin.oneP
    · have hall := hI.done (by omega)
      have hlt' : ¬ (m : Int) < (fs.length : Int) := by omega
      clear hnext
      rw [hall]
      refine w67 hlt' ?_
      exact Fin.oneP
theorem c_Sub (a b : Ty) (ha : fit a) (hb : fit b) : PC Try.prog 20 [tyV a, tyV b] (.im (.bool (good a && good b && subT a b))) := by
  have h1 := c_good a ha
  have h2 := c_good b hb
  refine PC.enter 16 Try.func20 rfl (by decide) rfl rfl (s := [(0, tyV a), (1, tyV b)]) (by rfl) ?_
  rw [tyV_eq a, tyV_eq b]
  cases ga : good a with
  | false =>
    rw [ga] at h1
    simp only [Bool.false_and]
    refine w20 True.intro ?_
    refine AR.callP h1 @tyV_eq True.intro ?_
    refine go20 True.intro ?_
    refine w20 True.intro ?_
    exact Fin.oneP
  | true =>
    rw [ga] at h1
    cases gb : good b with
    | false =>
      rw [gb] at h2
      simp only [Bool.and_false, Bool.false_and]
      refine w20 True.intro ?_
      refine AR.callP h1 @tyV_eq True.intro ?_
      refine go20 True.intro ?_
      refine AR.callP h2 @tyV_eq True.intro ?_
      refine go20 True.intro ?_
      refine w20 True.intro ?_
      exact Fin.oneP
    | true =>
      rw [gb] at h2
      have h3 := c_sub b hb (good_frm gb) a ha (good_frm ga)
      simp only [Bool.true_and]
      refine w20 True.intro ?_
      refine AR.callP h1 @tyV_eq True.intro ?_
      refine go20 True.intro ?_
      refine AR.callP h2 @tyV_eq True.intro ?_
      refine go20 True.intro ?_
      refine AR.callP h3 @tyV_eq True.intro ?_
      refine go20 True.intro ?_
      refine w20 True.intro ?_
      exact Fin.oneP
theorem good_chk {t : Ty} (h : good t = true) : chk t = 0 := by unfold good at h; simpa using h
theorem bad_chk {t : Ty} (h : good t = false) : ¬ chk t = 0 := by unfold good at h; simpa using h
theorem c_SubR (a b : Ty) (ha : fit a) (hb : fit b) : PC Try.prog 36 [tyV a, tyV b] (.im (.bool (good a && good b && subT a b))) := by
  have h1 := c_checkR a ha
  have h2 := c_checkR b hb
  refine PC.enter 18 Try.func36 rfl (by decide) rfl rfl (s := [(0, tyV a), (1, tyV b)]) (by rfl) ?_
  rw [tyV_eq a, tyV_eq b]
  cases ga : good a with
  | false =>
    have ca := bad_chk ga
    simp only [Bool.false_and]
    refine w36 True.intro ?_
    refine AR.callP h1 @tyV_eq True.intro ?_
    refine go36 ca ?_
    refine w36 ca ?_
    exact Fin.oneP
  | true =>
    have ca := good_chk ga
    cases gb : good b with
    | false =>
      have cb := bad_chk gb
      simp only [Bool.and_false, Bool.false_and]
      refine w36 True.intro ?_
      refine AR.callP h1 @tyV_eq True.intro ?_
      refine go36 ca ?_
      refine AR.callP h2 @tyV_eq True.intro ?_
      refine go36 cb ?_
      refine w36 True.intro ?_
      exact Fin.oneP
    | true =>
      have cb := good_chk gb
      have h3 := c_isSub b hb (good_frm gb) a ha (good_frm ga)
      simp only [Bool.true_and]
      refine w36 True.intro ?_
      refine AR.callP h1 @tyV_eq True.intro ?_
      refine go36 ca ?_
      refine AR.callP h2 @tyV_eq True.intro ?_
      refine go36 cb ?_
      refine AR.callP h3 @tyV_eq True.intro ?_
      refine go36 True.intro ?_
      refine w36 True.intro ?_
      exact Fin.oneP
/-- It says nothing. -/
def freeT (t : Ty) : Bool := t.kind == 0 || t.kind == 6
def wordT (t : Ty) : Bool := t.kind == 2 && t.size == 4
theorem c_isFree (t : Ty) : PC Try.prog 30 [tyV t] (.im (.bool (freeT t))) := by
  refine PC.enter 11 Try.func30 rfl (by decide) rfl rfl (s := [(0, tyV t)]) (by rfl) ?_
  simp only [tyV_eq]
  unfold freeT
  by_cases h0 : t.kind = 0
  · have e : (t.kind == 0 || t.kind == 6) = true := by simp [h0]
    rw [e]
    refine w30 h0 ?_
    exact Fin.oneP
  by_cases h6 : t.kind = 6
  · have e : (t.kind == 0 || t.kind == 6) = true := by simp [h6]
    rw [e]
    refine w30 h6 ?_
    exact Fin.oneP
  · have e : (t.kind == 0 || t.kind == 6) = false := by simp [h0, h6]
    rw [e]
    refine w30 (And.intro h0 h6) ?_
    exact Fin.oneP
theorem c_open (t : Ty) : PC Try.prog 31 [tyV t] (.im (.bool (freeT t))) := by
  refine PC.enter 11 Try.func31 rfl (by decide) rfl rfl (s := [(0, tyV t)]) (by rfl) ?_
  simp only [tyV_eq]
  unfold freeT
  by_cases h0 : t.kind = 0
  · have e : (t.kind == 0 || t.kind == 6) = true := by simp [h0]
    rw [e]
    refine w31 h0 ?_
    exact Fin.oneP
  by_cases h6 : t.kind = 6
  · have e : (t.kind == 0 || t.kind == 6) = true := by simp [h6]
    rw [e]
    refine w31 h6 ?_
    exact Fin.oneP
  · have e : (t.kind == 0 || t.kind == 6) = false := by simp [h0, h6]
    rw [e]
    refine w31 (And.intro h0 h6) ?_
    exact Fin.oneP
theorem c_isWord (t : Ty) : PC Try.prog 34 [tyV t] (.im (.bool (wordT t))) := by
  refine PC.enter 10 Try.func34 rfl (by decide) rfl rfl (s := [(0, tyV t)]) (by rfl) ?_
  simp only [tyV_eq]
  unfold wordT
  by_cases h0 : t.kind = 2
  · by_cases h4 : t.size = 4
    · have e : (t.kind == 2 && t.size == 4) = true := by simp [h0, h4]
      rw [e]
      refine w34 (And.intro h0 h4) ?_
      exact Fin.oneP
    · have e : (t.kind == 2 && t.size == 4) = false := by simp [h4]
      rw [e]
      refine w34 (And.intro h0 h4) ?_
      exact Fin.oneP
  · have e : (t.kind == 2 && t.size == 4) = false := by simp [h0]
    rw [e]
    refine w34 h0 ?_
    exact Fin.oneP
theorem c_word (t : Ty) : PC Try.prog 35 [tyV t] (.im (.bool (wordT t))) := by
  refine PC.enter 11 Try.func35 rfl (by decide) rfl rfl (s := [(0, tyV t)]) (by rfl) ?_
  simp only [tyV_eq]
  unfold wordT
  by_cases h0 : t.kind = 2
  · by_cases h4 : t.size = 4
    · have e : (t.kind == 2 && t.size == 4) = true := by simp [h0, h4]
      rw [e]
      refine w35 (And.intro h0 h4) ?_
      exact Fin.oneP
    · have e : (t.kind == 2 && t.size == 4) = false := by simp [h4]
      rw [e]
      refine w35 (And.intro h0 h4) ?_
      exact Fin.oneP
  · have e : (t.kind == 2 && t.size == 4) = false := by simp [h0]
    rw [e]
    refine w35 h0 ?_
    exact Fin.oneP
end Go.Proofs.Ytfggemopnlffeaa

