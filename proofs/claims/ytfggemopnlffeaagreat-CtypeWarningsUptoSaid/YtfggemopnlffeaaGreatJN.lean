import Derived.Test.YtfggemopnlffeaaGreatHv
import Derived.Test.YtfggemopnlffeaaGreatCQ
namespace Go.Proofs.YtfggemopnlffeaaGreat
set_option linter.unusedSimpArgs false
set_option linter.unusedVariables false
set_option linter.unnecessarySimpa false
open Go.RowKit
def stmE (vs : List Va) (s : Nd) : Bool := s.e.all (acs vs) && (if s.kind == 1 then asgT (tyOf vs s.name) (typ vs (s.e.headD (.mk 0 0 .empty 0 [])))
  else if s.kind == 2 then prm vs (s.e.headD (.mk 0 0 .empty 0 [])) s.width && (!((fnd vs (s.e.headD (.mk 0 0 .empty 0 [])) 4).2 && s.width == 4) || asgT (fnd vs (s.e.headD (.mk 0 0 .empty 0 [])) 4).1 (typ vs (s.e.tail.headD (.mk 0 0 .empty 0 [])))) else true)
theorem stT_len {s : Nd} (h : stT s = true) : (s.e.length : Int) = nE s.kind := by
  unfold stT at h
  simp only [Bool.and_eq_true, decide_eq_true_eq] at h
  exact h.1.1.1.1.1.1.2
theorem Y44_CR : type_of% (AI @F_ag_3 (AI @F_ag_41 (AI @F_ag_46 (AI @F_ag_48 (AI @F_ag_9 (AI @F_al_41 (AI @F_al_48 (AI @F_el_46 (AI @F_fl_59_0 (AI @F_fl_59_1 (AI @F_fl_59_2 (AI @F_fl_59_3 (AI @F_sz_3 (AI @F_sz_41 (AI @F_sz_46 (AI @F_sz_48 (@F_sz_9))))))))))))))))) := AI @F_ag_3 (AI @F_ag_41 (AI @F_ag_46 (AI @F_ag_48 (AI @F_ag_9 (AI @F_al_41 (AI @F_al_48 (AI @F_el_46 (AI @F_fl_59_0 (AI @F_fl_59_1 (AI @F_fl_59_2 (AI @F_fl_59_3 (AI @F_sz_3 (AI @F_sz_41 (AI @F_sz_46 (AI @F_sz_48 (@F_sz_9))))))))))))))))
set_option maxHeartbeats 2000000 in
theorem c_stmE (vs : List Va) (hv : fitV vs) (s : Nd) (hf : fitN s) (hs : stT s = true) : PC Tryz.prog 44 [ndV s, (V.sl (vs.map vaV) .ro)] (.im (.bool (stmE vs s))) := by
  obtain ⟨hI, hsz, ⟨he1, he2⟩, h4, h5, h6, h7⟩ := fitN_inv hf
  have hfm := stT_efm hs
  have hln := stT_len hs
  refine PC.enter 70 Tryz.func44 rfl (by decide) rfl rfl (s := [(0, ndV s), (1, (V.sl (vs.map vaV) .ro))]) (by rfl) ?_
  rw [ndV_eq s]
  refine wG Y44_CR True.intro ?_
  refine AWp.loop ?_
  refine ALp.cutP 1 [(1, (V.sl (vs.map vaV) .ro)), (2, .pt 0 0), (10, .sl (s.e.map exV) .ro), (11, (.im (.int .i64 (s.e.length)))), (12, (.im (.int .i64 ((((0 : Nat)) : Int)))))] [.box [.im (.int .i64 (s).kind), .im (.int .i64 (s).width), .im (.string (s).name), .sl ((s).e.map exV) .ro, .sl ((s).l.map ndV) .ro, .sl ((s).el.map ndV) .ro, .sl ((s).cs.map nlV) .ro]] (AI (@exL_id) (AI (@vaL_id) (AI (@exV_id) (AI (@vaV_id) (AI ndLs_id (AI nlVs_id ndV_id)))))) ?_
  refine ALp.upto s.e.length (AllTo (acs vs) s.e) (fun m => ⟨dn 70 [(1, (V.sl (vs.map vaV) .ro)), (2, .pt 0 0), (10, .sl (s.e.map exV) .ro), (11, (.im (.int .i64 (s.e.length)))), (12, (.im (.int .i64 ((((m : Nat)) : Int)))))], ofl [.box [.im (.int .i64 (s).kind), .im (.int .i64 (s).width), .im (.string (s).name), .sl ((s).e.map exV) .ro, .sl ((s).l.map ndV) .ro, .sl ((s).el.map ndV) .ro, .sl ((s).cs.map nlV) .ro]]⟩) ?_ 0 (Nat.zero_le _) (AllTo.zero _ _)
  intro m hm hI hnext
  by_cases hlt : m < s.e.length
  · have hlt' : (m : Int) < (s.e.length : Int) := by omega
    have hm1 := wrap_succ hlt (by omega)
    have hg := get_some hlt
    have hc := c_accesses vs hv s.e[m] (he2 _ (List.getElem_mem hlt)) (hfm _ (List.getElem_mem hlt))
    cases b : acs vs s.e[m] with
    | false =>
      rw [b] at hc
      have hr : stmE vs s = false := by unfold stmE; rw [not_all_of hlt b, Bool.false_and]
      rw [hr]
      refine wG Y44_CR (AI hlt' (AI hg EX)) ?_
      refine AR.callP hc @exV_eq (AI (@exL_id) (AI (@vaL_id) (AI (@exV_id) (AI (@vaV_id) (AI ndLs_id (AI nlVs_id ndV_id)))))) ?_
      refine goG Y44_CR True.intro ?_
      refine wG Y44_CR True.intro ?_
      exact Fin.oneP
    | true =>
      rw [b] at hc
      refine wG Y44_CR (AI hlt' (AI hg EX)) ?_
      refine AR.callP hc @exV_eq (AI (@exL_id) (AI (@vaL_id) (AI (@exV_id) (AI (@vaV_id) (AI ndLs_id (AI nlVs_id ndV_id)))))) ?_
      refine goG Y44_CR True.intro ?_
      refine wG Y44_CR hm1 ?_
      refine ALp.cutP 1 [(1, (V.sl (vs.map vaV) .ro)), (2, .pt 0 0), (10, .sl (s.e.map exV) .ro), (11, (.im (.int .i64 (s.e.length)))), (12, (.im (.int .i64 ((((m + 1 : Nat)) : Int)))))] [.box [.im (.int .i64 (s).kind), .im (.int .i64 (s).width), .im (.string (s).name), .sl ((s).e.map exV) .ro, .sl ((s).l.map ndV) .ro, .sl ((s).el.map ndV) .ro, .sl ((s).cs.map nlV) .ro]] (AI (@exL_id) (AI (@vaL_id) (AI (@exV_id) (AI (@vaV_id) (AI ndLs_id (AI nlVs_id ndV_id)))))) ?_
      exact hnext (m + 1) (by omega) (by omega) (hI.succ hlt b)
  obtain rfl : m = s.e.length := by omega
  clear hnext
  have hall : s.e.all (acs vs) = true := List.all_eq_true.2 fun x hx => by
    obtain ⟨j, hj, rfl⟩ := List.getElem_of_mem hx
    exact hI j hj hj
  unfold stmE
  rw [hall, Bool.true_and]
  by_cases k1 : s.kind = 1
  · rw [if_pos (by simp [k1])]
    rw [k1] at hln
    obtain ⟨x, hx⟩ : ∃ x, s.e = [x] := List.length_eq_one_iff.1 (by have : nE 1 = 1 := rfl; omega)
    rw [hx] at hfm ⊢
    have q1 := c_typeOf vs hv.1 s.name
    have q2 := c_typed vs hv x (hfm x (by simp))
    have q3 := c_Assignable (tyOf vs s.name) (typ vs x) (fit_tyOf hv _) (fit_typ hv x)
    simp only [List.headD_cons, List.map_cons, List.map_nil]
    refine wdG Y44_CR (AI (@Int.lt_irrefl) (AI k1 EX)) ?_
    refine AR.callP q1 True.intro (AI (@exL_id) (AI (@vaL_id) (AI (@exV_id) (AI (@vaV_id) (AI ndLs_id (AI nlVs_id ndV_id)))))) ?_
    refine goG Y44_CR (AI TY EX) ?_
    refine AR.callP q2 @exV_eq (AI (@exL_id) (AI (@vaL_id) (AI (@exV_id) (AI (@vaV_id) (AI ndLs_id (AI nlVs_id ndV_id)))))) ?_
    refine goG Y44_CR (AI TY EX) ?_
    refine AR.callP q3 True.intro (AI (@exL_id) (AI (@vaL_id) (AI (@exV_id) (AI (@vaV_id) (AI ndLs_id (AI nlVs_id ndV_id)))))) ?_
    refine goG Y44_CR True.intro ?_
    refine wdG Y44_CR True.intro ?_
    exact Fin.oneP
  rw [if_neg (by simp [k1])]
  by_cases k2 : s.kind = 2
  case neg =>
    rw [if_neg (by simp [k2])]
    refine wG Y44_CR (AI (@Int.lt_irrefl) (AI k1 k2)) ?_
    exact Fin.oneP
  rw [if_pos (by simp [k2])]
  rw [k2] at hln
  obtain ⟨x, y, hx⟩ : ∃ x y, s.e = [x, y] := by
    have h2 : s.e.length = 2 := by have : nE 2 = 2 := rfl; omega
    match s.e, h2 with
    | [x, y], _ => exact ⟨x, y, rfl⟩
  rw [hx] at hfm ⊢
  have q1 := c_permitted vs hv x (hfm x (by simp)) s.width
  have q2 := c_found vs hv x (hfm x (by simp))
  have q3 := c_typed vs hv y (hfm y (by simp))
  have q4 := c_Assignable (fnd vs x 4).1 (typ vs y) (fit_fnd hv x 4) (fit_typ hv y)
  simp only [List.headD_cons, List.tail_cons, List.map_cons, List.map_nil]
  generalize (fnd vs x 4).2 = fb at q2 ⊢
  generalize asgT (fnd vs x 4).1 (typ vs y) = ab at q4 ⊢
  generalize (fnd vs x 4).1 = ft at q2 q4
  cases b1 : prm vs x s.width with
  | false =>
    rw [b1] at q1
    simp only [Bool.false_and]
    refine wdG Y44_CR (AI (@Int.lt_irrefl) (AI k1 (AI k2 EX))) ?_
    refine AR.callP q1 @exV_eq (AI (@exL_id) (AI (@vaL_id) (AI (@exV_id) (AI (@vaV_id) (AI ndLs_id (AI nlVs_id ndV_id)))))) ?_
    refine goG Y44_CR True.intro ?_
    refine wdG Y44_CR True.intro ?_
    exact Fin.oneP
  | true =>
  rw [b1] at q1
  simp only [Bool.true_and]
  refine wdG Y44_CR (AI (@Int.lt_irrefl) (AI k1 (AI k2 EX))) ?_
  refine AR.callP q1 @exV_eq (AI (@exL_id) (AI (@vaL_id) (AI (@exV_id) (AI (@vaV_id) (AI ndLs_id (AI nlVs_id ndV_id)))))) ?_
  refine goG Y44_CR True.intro ?_
  refine wdG Y44_CR EX ?_
  refine AR.callP q2 @exV_eq (AI (@exL_id) (AI (@vaL_id) (AI (@exV_id) (AI (@vaV_id) (AI ndLs_id (AI nlVs_id ndV_id)))))) ?_
  rw [tyV_eq ft]
  refine goG Y44_CR (AI TY EX) ?_
  cases fb with
  | false =>
    refine wdG Y44_CR (AI TY EX) ?_
    simp only [Bool.false_and, Bool.not_false, Bool.true_or]
    exact Fin.oneP
  | true =>
    by_cases w4 : s.width = 4
    · refine wdG Y44_CR (AI w4 (AI TY EX)) ?_
      refine AR.callP q3 @exV_eq (AI (@exL_id) (AI (@vaL_id) (AI (@exV_id) (AI (@vaV_id) (AI ndLs_id (AI nlVs_id ndV_id)))))) ?_
      refine goG Y44_CR (AI TY EX) ?_
      refine AR.callP q4 @tyV_eq (AI (@exL_id) (AI (@vaL_id) (AI (@exV_id) (AI (@vaV_id) (AI ndLs_id (AI nlVs_id ndV_id)))))) ?_
      refine goG Y44_CR True.intro ?_
      refine wdG Y44_CR True.intro ?_
      have e : (s.width == 4) = true := by simp [w4]
      simp only [e, Bool.and_self, Bool.not_true, Bool.false_or]
      exact Fin.oneP
    · refine wdG Y44_CR (AI w4 (AI TY EX)) ?_
      have e : (s.width == 4) = false := by simp [w4]
      simp only [e, Bool.and_false, Bool.not_false, Bool.true_or]
      exact Fin.oneP
end Go.Proofs.YtfggemopnlffeaaGreat
namespace Go.Proofs.YtfggemopnlffeaaGreat
set_option linter.unusedSimpArgs false
set_option linter.unusedVariables false
set_option linter.unnecessarySimpa false
open Go.RowKit
def lisT (vs : List Va) : Nd → Bool := Nd.para fun t a b c => stmE vs t && (a :: b :: c).all fun r => r.all id
def lisL (vs : List Va) (l : List Nd) : Bool := l.all (lisT vs)
theorem lisT_eq (vs : List Va) (t : Nd) : lisT vs t = (stmE vs t && (subs t).all (lisL vs)) := by
  obtain ⟨k, w, n, e, l, el, cs⟩ := t
  unfold lisT
  rw [Nd.para_mk]
  simp only [subs, Nd.l, Nd.el, Nd.cs, List.all_cons, List.all_map, Function.comp_def, id]
  rfl
def okS (l : List Nd) (lp : Bool) : Prop := ∀ p ∈ allL l lp, stT p.1 = true
theorem okS_at {l : List Nd} {lp : Bool} (h : okS l lp) {t : Nd} (ht : t ∈ l) : stT t = true := by
  refine h (t, lp) (List.mem_flatMap.2 ⟨t, ht, ?_⟩)
  rw [allT_eq]
  exact List.mem_cons_self
theorem okS_sub {l : List Nd} {lp : Bool} (h : okS l lp) {t : Nd} (ht : t ∈ l) {c : List Nd} (hc : c ∈ subs t) : okS c (inL t lp) := fun p hp => h p (List.mem_flatMap.2 ⟨t, ht, by
  rw [allT_eq]
  exact List.mem_cons_of_mem _ (List.mem_flatMap.2 ⟨c, hc, hp⟩)⟩)
theorem Y20_CS : type_of% (AI @F_ag_35 (AI @F_ag_57 (AI @F_ag_59 (AI @F_al_59 (AI @F_el_35 (AI @F_el_57 (AI @F_fl_59_4 (AI @F_fl_59_5 (AI @F_fl_59_6 (AI @F_sz_35 (AI @F_sz_57 (@F_sz_59)))))))))))) := AI @F_ag_35 (AI @F_ag_57 (AI @F_ag_59 (AI @F_al_59 (AI @F_el_35 (AI @F_el_57 (AI @F_fl_59_4 (AI @F_fl_59_5 (AI @F_fl_59_6 (AI @F_sz_35 (AI @F_sz_57 (@F_sz_59)))))))))))
set_option maxHeartbeats 2000000 in
theorem c_list (vs : List Va) (hv : fitV vs) : ∀ l : List Nd, fitNL l → ∀ lp, okS l lp → PC Tryz.prog 20 [.sl (l.map ndV) .ro, (V.sl (vs.map vaV) .ro)] (.im (.bool (lisL vs l))) := by
  refine subs_induct fun l hl hf lp ho => ?_
  have hl1 := hf.1
  unfold lisL
  refine PC.enter 46 Tryz.func20 rfl (by decide) rfl rfl (s := [(0, .sl (l.map ndV) .ro), (1, (V.sl (vs.map vaV) .ro))]) (by rfl) ?_
  refine wG Y20_CS @List.length_map.{0, 0} ?_
  refine AWp.loop ?_
  refine ALp.cutP 0 [(1, (V.sl (vs.map vaV) .ro)), (9, .sl (l.map ndV) .ro), (10, (.im (.int .i64 (l.length)))), (11, (.im (.int .i64 ((((0 : Nat)) : Int)))))] [] (AI (@exL_id) (AI (@vaL_id) (AI (@exV_id) (AI (@vaV_id) (AI ndLs_id (AI nlVs_id ndV_id)))))) ?_
  refine ALp.upto l.length (AllTo (lisT vs) l) (fun m => ⟨dn 46 [(1, (V.sl (vs.map vaV) .ro)), (9, .sl (l.map ndV) .ro), (10, (.im (.int .i64 (l.length)))), (11, (.im (.int .i64 ((((m : Nat)) : Int)))))], ofl []⟩) ?_ 0 (Nat.zero_le _) (AllTo.zero _ _)
  intro m hm hI hnext
  by_cases hlt : m < l.length
  case neg =>
    obtain rfl : m = l.length := by omega
    clear hnext
    have hall : l.all (lisT vs) = true := List.all_eq_true.2 fun x hx => by
      obtain ⟨j, hj, rfl⟩ := List.getElem_of_mem hx
      exact hI j hj hj
    rw [hall]
    refine wG Y20_CS @Int.lt_irrefl ?_
    exact Fin.oneP
  have hlt' : (m : Int) < (l.length : Int) := by omega
  have hm1 := wrap_succ hlt (by omega)
  have hg := get_some hlt
  have hmem := List.getElem_mem hlt
  have hft := hf.2 _ hmem
  have hst := okS_at ho hmem
  have h1 := c_stmE vs hv l[m] hft hst
  have hR := fun c hc' => hl l[m] hmem c hc' ((fit_subs hft).2 c hc') _ (okS_sub ho hmem hc')
  have h2 := hR l[m].l (by simp [subs])
  have h3 := hR l[m].el (by simp [subs])
  have hno : lisT vs l[m] = false → l.all (lisT vs) = false := fun h => not_all_of hlt h
  have he := lisT_eq vs l[m]
  simp only [subs, List.all_cons] at he
  cases b1 : stmE vs l[m] with
  | false =>
    rw [b1] at h1 he
    rw [hno (by rw [he]; rfl)]
    refine wG Y20_CS (AI hlt' (AI hg ND)) ?_
    refine AR.callP h1 ndV_eq (AI (@exL_id) (AI (@vaL_id) (AI (@exV_id) (AI (@vaV_id) (AI ndLs_id (AI nlVs_id ndV_id)))))) ?_
    refine goG Y20_CS True.intro ?_
    refine wG Y20_CS True.intro ?_
    exact Fin.oneP
  | true =>
  rw [b1] at h1 he
  cases b2 : lisL vs l[m].l with
  | false =>
    rw [b2] at h2 he
    rw [hno (by rw [he]; rfl)]
    refine wG Y20_CS (AI hlt' (AI hg ND)) ?_
    refine AR.callP h1 ndV_eq (AI (@exL_id) (AI (@vaL_id) (AI (@exV_id) (AI (@vaV_id) (AI ndLs_id (AI nlVs_id ndV_id)))))) ?_
    refine goG Y20_CS ND ?_
    refine AR.callP h2 True.intro (AI (@exL_id) (AI (@vaL_id) (AI (@exV_id) (AI (@vaV_id) (AI ndLs_id (AI nlVs_id ndV_id)))))) ?_
    refine goG Y20_CS True.intro ?_
    refine wG Y20_CS True.intro ?_
    exact Fin.oneP
  | true =>
  rw [b2] at h2 he
  cases b3 : lisL vs l[m].el with
  | false =>
    rw [b3] at h3 he
    rw [hno (by rw [he]; rfl)]
    refine wG Y20_CS (AI hlt' (AI hg ND)) ?_
    refine AR.callP h1 ndV_eq (AI (@exL_id) (AI (@vaL_id) (AI (@exV_id) (AI (@vaV_id) (AI ndLs_id (AI nlVs_id ndV_id)))))) ?_
    refine goG Y20_CS ND ?_
    refine AR.callP h2 True.intro (AI (@exL_id) (AI (@vaL_id) (AI (@exV_id) (AI (@vaV_id) (AI ndLs_id (AI nlVs_id ndV_id)))))) ?_
    refine goG Y20_CS ND ?_
    refine AR.callP h3 True.intro (AI (@exL_id) (AI (@vaL_id) (AI (@exV_id) (AI (@vaV_id) (AI ndLs_id (AI nlVs_id ndV_id)))))) ?_
    refine goG Y20_CS True.intro ?_
    refine wG Y20_CS True.intro ?_
    exact Fin.oneP
  | true =>
  rw [b3] at h3 he
  simp only [Bool.true_and] at he
  have hcs := (fitN_inv hft).2.2.2.2.2.1
  have hR2 := fun c (hc' : c ∈ l[m].cs) => hR c (by simp [subs, hc'])
  refine wG Y20_CS (AI hlt' (AI hg ND)) ?_
  refine AR.callP h1 ndV_eq (AI (@exL_id) (AI (@vaL_id) (AI (@exV_id) (AI (@vaV_id) (AI ndLs_id (AI nlVs_id ndV_id)))))) ?_
  refine goG Y20_CS ND ?_
  refine AR.callP h2 True.intro (AI (@exL_id) (AI (@vaL_id) (AI (@exV_id) (AI (@vaV_id) (AI ndLs_id (AI nlVs_id ndV_id)))))) ?_
  refine goG Y20_CS ND ?_
  refine AR.callP h3 True.intro (AI (@exL_id) (AI (@vaL_id) (AI (@exV_id) (AI (@vaV_id) (AI ndLs_id (AI nlVs_id ndV_id)))))) ?_
  refine goG Y20_CS True.intro ?_
  refine wG Y20_CS (AI (@List.length_map.{0, 0}) ND) ?_
  generalize l[m].cs = sb at he hcs hR2 ⊢
  refine AWp.loop ?_
  refine ALp.cutP 0 [(1, (V.sl (vs.map vaV) .ro)), (9, .sl (l.map ndV) .ro), (10, (.im (.int .i64 (l.length)))), (11, (.im (.int .i64 ((m : Int))))), (34, .sl (sb.map nlV) .ro), (35, (.im (.int .i64 (sb.length)))), (36, (.im (.int .i64 ((((0 : Nat)) : Int)))))] [] (AI (@exL_id) (AI (@vaL_id) (AI (@exV_id) (AI (@vaV_id) (AI ndLs_id (AI nlVs_id ndV_id)))))) ?_
  refine ALp.upto sb.length (AllTo (lisL vs) sb) (fun j => ⟨dn 46 [(1, (V.sl (vs.map vaV) .ro)), (9, .sl (l.map ndV) .ro), (10, (.im (.int .i64 (l.length)))), (11, (.im (.int .i64 ((m : Int))))), (34, .sl (sb.map nlV) .ro), (35, (.im (.int .i64 (sb.length)))), (36, (.im (.int .i64 ((((j : Nat)) : Int)))))], ofl []⟩) ?_ 0 (Nat.zero_le _) (AllTo.zero _ _)
  intro j hj hJ hnext2
  by_cases hlu : j < sb.length
  · have hlu' : (j : Int) < (sb.length : Int) := by omega
    have hj1 := wrap_succ hlu (by omega)
    have hg2 := get_some hlu
    have hc2 := hR2 sb[j] (List.getElem_mem hlu)
    cases b4 : lisL vs sb[j] with
    | false =>
      rw [b4] at hc2
      rw [hno (by rw [he]; exact not_all_of hlu b4)]
      refine wG Y20_CS (AI hlu' (AI hg2 ND)) ?_
      refine AR.callP hc2 nlV_eq (AI (@exL_id) (AI (@vaL_id) (AI (@exV_id) (AI (@vaV_id) (AI ndLs_id (AI nlVs_id ndV_id)))))) ?_
      refine goG Y20_CS True.intro ?_
      refine wG Y20_CS True.intro ?_
      exact Fin.oneP
    | true =>
      rw [b4] at hc2
      refine wG Y20_CS (AI hlu' (AI hg2 ND)) ?_
      refine AR.callP hc2 nlV_eq (AI (@exL_id) (AI (@vaL_id) (AI (@exV_id) (AI (@vaV_id) (AI ndLs_id (AI nlVs_id ndV_id)))))) ?_
      refine goG Y20_CS True.intro ?_
      refine wG Y20_CS hj1 ?_
      refine ALp.cutP 0 [(1, (V.sl (vs.map vaV) .ro)), (9, .sl (l.map ndV) .ro), (10, (.im (.int .i64 (l.length)))), (11, (.im (.int .i64 ((m : Int))))), (34, .sl (sb.map nlV) .ro), (35, (.im (.int .i64 (sb.length)))), (36, (.im (.int .i64 ((((j + 1 : Nat)) : Int)))))] [] (AI (@exL_id) (AI (@vaL_id) (AI (@exV_id) (AI (@vaV_id) (AI ndLs_id (AI nlVs_id ndV_id)))))) ?_
      exact hnext2 (j + 1) (by omega) (by omega) (hJ.succ hlu b4)
  obtain rfl : j = sb.length := by omega
  clear hnext2
  have hall2 : sb.all (lisL vs) = true := List.all_eq_true.2 fun x hx => by
    obtain ⟨i, hi, rfl⟩ := List.getElem_of_mem hx
    exact hJ i hi hi
  refine whG Y20_CS @Int.lt_irrefl ?_
  refine Blk'.here (Thn.n ?_)
  refine wG Y20_CS hm1 ?_
  refine ALp.cutP 0 [(1, (V.sl (vs.map vaV) .ro)), (9, .sl (l.map ndV) .ro), (10, (.im (.int .i64 (l.length)))), (11, (.im (.int .i64 ((((m + 1 : Nat)) : Int)))))] [] (AI (@exL_id) (AI (@vaL_id) (AI (@exV_id) (AI (@vaV_id) (AI ndLs_id (AI nlVs_id ndV_id)))))) ?_
  exact hnext (m + 1) (by omega) (by omega) (hI.succ hlt (he.trans hall2))
end Go.Proofs.YtfggemopnlffeaaGreat
namespace Go.Proofs.YtfggemopnlffeaaGreat
set_option linter.unusedSimpArgs false
set_option linter.unusedVariables false
set_option linter.unnecessarySimpa false
open Go.RowKit
def utE (u : Un) : Int := if unE u = 0 then (if u.funcs.all (fun f => lisL (u.globals ++ f.vars) f.body) then 0 else 16) else unE u
theorem chk1_stT {vs : List Va} {fs ls sn : List ByteArray} {p : Nd × Bool} (h : chk1 vs fs ls sn p = 0) : stT p.1 = true := by
  unfold chk1 at h
  cases b : stT p.1 with
  | true => rfl
  | false =>
    rw [b] at h
    split at h
    · cases h
    · simp at h
theorem runS_ok {vs : List Va} {fs ls : List ByteArray} : ∀ {l : List (Nd × Bool)} {sn : List ByteArray}, runS vs fs ls sn l = 0 → ∀ p ∈ l, stT p.1 = true
  | [], _, _, p, hp => by cases hp
  | q :: r, sn, h, p, hp => by
    rw [runS_cons] at h
    by_cases b : chk1 vs fs ls sn q = 0
    · rw [if_pos b] at h
      rcases List.mem_cons.1 hp with rfl | hp
      · exact chk1_stT b
      · exact runS_ok h p hp
    · rw [if_neg b] at h
      exact absurd h b
theorem bdE_ok {gs : List Va} {fs : List ByteArray} : ∀ {l : List Fun}, bdE gs fs l = 0 → ∀ f ∈ l, bodyE gs f fs = 0
  | [], _, f, hf => by cases hf
  | g :: r, h, f, hf => by
    have e : bdE gs fs (g :: r) = if bodyE gs g fs = 0 then bdE gs fs r else bodyE gs g fs := rfl
    rw [e] at h
    by_cases b : bodyE gs g fs = 0
    · rw [if_pos b] at h
      rcases List.mem_cons.1 hf with rfl | hf
      · exact b
      · exact bdE_ok h f hf
    · rw [if_neg b] at h
      exact absurd h b
theorem unE_ok {u : Un} (h : unE u = 0) : u.globals.length ≤ 256 ∧ vErr [] u.globals = 0 ∧ ∀ f ∈ u.funcs, bodyE u.globals f (u.funcs.map Fun.name) = 0 := by
  unfold unE at h
  split at h
  · cases h
  rename_i h1
  split at h
  · cases h
  split at h
  · rename_i h2; exact absurd h h2
  rename_i h2
  split at h
  · rename_i h3; exact absurd h h3
  split at h
  · rename_i h3; exact absurd h h3
  exact ⟨by omega, Classical.byContradiction h2, bdE_ok h⟩
theorem bodyE_ok {gs : List Va} {f : Fun} {fs : List ByteArray} (h : bodyE gs f fs = 0) : gs.length + f.vars.length ≤ 256 ∧ okS f.body false := by
  unfold bodyE at h
  split at h
  · cases h
  rename_i h1
  split at h
  · rename_i h2; exact absurd h h2
  split at h
  · cases h
  split at h
  · cases h
  exact ⟨by omega, runS_ok h⟩
theorem Y9_CU : type_of% (AI @F_ag_22 (AI @F_ag_24 (AI @F_ag_26 (AI @F_ag_35 (AI @F_ag_37 (AI @F_al_37 (AI @F_al_44 (AI @F_by_44 (AI @F_el_22 (AI @F_el_24 (AI @F_fl_26_0 (AI @F_fl_26_2 (AI @F_fl_37_1 (AI @F_fl_37_2 (AI @F_sz_22 (AI @F_sz_24 (AI @F_sz_26 (AI @F_sz_35 (AI @F_sz_37 (@F_sz_44)))))))))))))))))))) := AI @F_ag_22 (AI @F_ag_24 (AI @F_ag_26 (AI @F_ag_35 (AI @F_ag_37 (AI @F_al_37 (AI @F_al_44 (AI @F_by_44 (AI @F_el_22 (AI @F_el_24 (AI @F_fl_26_0 (AI @F_fl_26_2 (AI @F_fl_37_1 (AI @F_fl_37_2 (AI @F_sz_22 (AI @F_sz_24 (AI @F_sz_26 (AI @F_sz_35 (AI @F_sz_37 (@F_sz_44)))))))))))))))))))
set_option maxHeartbeats 2000000 in
theorem c_Unit (u : Un) (hu : fitU u) : PC Tryz.prog 9 [unV u] (.im (.int .i64 (utE u))) := by
  have h1 := c_CheckUnit u hu
  have hfl := hu.fl
  unfold utE
  refine PC.enter 32 Tryz.func9 rfl (by decide) rfl rfl (s := [(0, unV u)]) (by rfl) ?_
  rw [unV_eq]
  refine wG Y9_CU True.intro ?_
  refine AR.callP h1 unV_eq (AI (@exL_id) (AI (@vaL_id) (AI (@exV_id) (AI (@vaV_id) (AI tsL_id (AI ndLs_id (AI nlVs_id (AI ndV_id (AI plVs_id (AI plV_id (AI scL_id (AI fnL_id (AI unV_id fnV_id))))))))))))) ?_
  by_cases b : unE u = 0
  case neg =>
    rw [if_neg b]
    refine goG Y9_CU b ?_
    refine wG Y9_CU b ?_
    exact Fin.oneP
  rw [if_pos b]
  obtain ⟨hg, _, hbd⟩ := unE_ok b
  refine goG Y9_CU b ?_
  refine wG Y9_CU @List.length_map.{0, 0} ?_
  clear h1 b
  refine AWp.loop ?_
  refine ALp.cutP 1 [(1, .pt 0 0), (13, .sl (u.funcs.map fnV) .ro), (14, (.im (.int .i64 (u.funcs.length)))), (15, (.im (.int .i64 ((((0 : Nat)) : Int)))))] [.box [.sl (u.globals.map vaV) .ro, .sl (u.data.map scV) .ro, .sl (u.funcs.map fnV) .ro]] (AI (@exL_id) (AI (@vaL_id) (AI (@exV_id) (AI (@vaV_id) (AI tsL_id (AI ndLs_id (AI nlVs_id (AI ndV_id (AI plVs_id (AI plV_id (AI scL_id (AI fnL_id (AI unV_id fnV_id))))))))))))) ?_
  refine ALp.upto u.funcs.length (AllTo (fun f => lisL (u.globals ++ f.vars) f.body) u.funcs) (fun m => ⟨dn 32 [(1, .pt 0 0), (13, .sl (u.funcs.map fnV) .ro), (14, (.im (.int .i64 (u.funcs.length)))), (15, (.im (.int .i64 ((((m : Nat)) : Int)))))], ofl [.box [.sl (u.globals.map vaV) .ro, .sl (u.data.map scV) .ro, .sl (u.funcs.map fnV) .ro]]⟩) ?_ 0 (Nat.zero_le _) (AllTo.zero _ _)
  intro m hm hI hnext
  by_cases hlt : m < u.funcs.length
  case neg =>
    obtain rfl : m = u.funcs.length := by omega
    clear hnext
    rw [if_pos (List.all_eq_true.2 fun x hx => by
      obtain ⟨j, hj, rfl⟩ := List.getElem_of_mem hx
      exact hI j hj hj)]
    refine wG Y9_CU @Int.lt_irrefl ?_
    exact Fin.oneP
  have hlt' : (m : Int) < (u.funcs.length : Int) := by omega
  have hm1 := wrap_succ hlt (by omega)
  have hgt := get_some hlt
  have hmem := List.getElem_mem hlt
  have hf := hu.fn _ hmem
  obtain ⟨hvl, hok⟩ := bodyE_ok (hbd _ hmem)
  have hfv : fitV (u.globals ++ u.funcs[m].vars) := ⟨by rw [List.length_append]; omega, fun v hv => by
    rcases List.mem_append.1 hv with h | h
    · exact (hu.gn v h).1
    · exact (hf.vn v h).1⟩
  have h2 := c_list (u.globals ++ u.funcs[m].vars) hfv u.funcs[m].body hf.bd false hok
  have hA1 : u.globals.length * 88 ≤ 140737488355328 := by omega
  have hA2 : (u.globals.length + u.funcs[m].vars.length) * 88 ≤ 140737488355328 := by omega
  have hap : u.globals.map vaV ++ u.funcs[m].vars.map vaV = (u.globals ++ u.funcs[m].vars).map vaV := by rw [List.map_append]
  cases b : lisL (u.globals ++ u.funcs[m].vars) u.funcs[m].body with
  | false =>
    rw [b] at h2
    have hn : u.funcs.all (fun f => lisL (u.globals ++ f.vars) f.body) = false := not_all_of hlt b
    rw [hn]
    simp only [Bool.false_eq_true, if_false]
    generalize u.globals ++ u.funcs[m].vars = vs at h2 hap
    refine wdG Y9_CU (AI hlt' (AI hgt (AI hA1 (AI hA2 (AI hap (AI vaL_all (AI (@List.length_map.{0, 0}) (AI (@Nat.zero_add) FU)))))))) ?_
    refine AR.callW h2 True.intro (AI (@exL_id) (AI (@vaL_id) (AI (@exV_id) (AI (@vaV_id) (AI tsL_id (AI ndLs_id (AI nlVs_id (AI ndV_id (AI plVs_id (AI plV_id (AI scL_id (AI fnL_id (AI unV_id fnV_id))))))))))))) ?_
    refine goG Y9_CU True.intro ?_
    refine wdG Y9_CU True.intro ?_
    exact Fin.oneP
  | true =>
    rw [b] at h2
    have hn2 := hI.succ hlt b
    clear b hfv
    generalize u.globals ++ u.funcs[m].vars = vs at h2 hap
    refine wdG Y9_CU (AI hlt' (AI hgt (AI hA1 (AI hA2 (AI hap (AI vaL_all (AI (@List.length_map.{0, 0}) (AI (@Nat.zero_add) FU)))))))) ?_
    refine AR.callW h2 True.intro (AI (@exL_id) (AI (@vaL_id) (AI (@exV_id) (AI (@vaV_id) (AI tsL_id (AI ndLs_id (AI nlVs_id (AI ndV_id (AI plVs_id (AI plV_id (AI scL_id (AI fnL_id (AI unV_id fnV_id))))))))))))) ?_
    refine goG Y9_CU True.intro ?_
    refine wdG Y9_CU hm1 ?_
    refine ALp.cutP 1 [(1, .pt 0 0), (13, .sl (u.funcs.map fnV) .ro), (14, (.im (.int .i64 (u.funcs.length)))), (15, (.im (.int .i64 ((((m + 1 : Nat)) : Int)))))] [.box [.sl (u.globals.map vaV) .ro, .sl (u.data.map scV) .ro, .sl (u.funcs.map fnV) .ro]] (AI (@exL_id) (AI (@vaL_id) (AI (@exV_id) (AI (@vaV_id) (AI tsL_id (AI ndLs_id (AI nlVs_id (AI ndV_id (AI plVs_id (AI plV_id (AI scL_id (AI fnL_id (AI unV_id fnV_id))))))))))))) ?_
    exact hnext (m + 1) (by omega) (by omega) hn2
end Go.Proofs.YtfggemopnlffeaaGreat
