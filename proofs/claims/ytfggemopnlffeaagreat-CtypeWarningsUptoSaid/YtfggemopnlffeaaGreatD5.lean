import Derived.Test.YtfggemopnlffeaaGreatHv
import Derived.Test.YtfggemopnlffeaaGreatD1
import Derived.Test.YtfggemopnlffeaaGreatD4
namespace Go.Proofs.YtfggemopnlffeaaGreat
set_option linter.unusedSimpArgs false
set_option linter.unusedVariables false
set_option linter.unnecessarySimpa false
open Go.RowKit
def rst (vs : List Va) (fs ls sn : List ByteArray) (p : Nd × Bool) : Int :=
  if p.1.kind = 1 ∨ p.1.kind = 3 then (if has vs p.1.name then 0 else 17) else if p.1.kind = 5 then (if fs.any (fun x => eqS p.1.name x) then 0 else 17) else if p.1.kind = 12 then (if ls.any (fun x => eqS p.1.name x) then 0 else 17)
  else if p.1.kind = 10 ∨ p.1.kind = 11 then (if p.2 then 0 else 21) else if p.1.kind = 13 then (if sn.any (fun x => eqS p.1.name x) then 8 else 0) else 0
theorem chk1_eq (vs : List Va) (fs ls sn : List ByteArray) (p : Nd × Bool) : chk1 vs fs ls sn p = if !(p.1.e.all fun x => esh x 64) then 20 else if !stT p.1 then 2 else if !(p.1.e.all (knw vs)) then 17 else rst vs fs ls sn p := by
  unfold chk1 symT rst
  generalize (p.1.e.all fun x => esh x 64) = a
  generalize stT p.1 = b
  generalize p.1.e.all (knw vs) = c
  generalize has vs p.1.name = h1
  generalize (fs.any fun x => eqS p.1.name x) = h2
  generalize (ls.any fun x => eqS p.1.name x) = h3
  generalize (sn.any fun x => eqS p.1.name x) = h4
  generalize p.1.kind = k
  generalize p.2 = lp
  cases a
  · rfl
  cases b
  · rfl
  cases c
  · rfl
  simp only [Bool.not_true, Bool.false_eq_true, if_false, Bool.true_and]
  by_cases k1 : k = 1
  · subst k1; cases h1 <;> simp
  by_cases k3 : k = 3
  · subst k3; cases h1 <;> simp
  by_cases k5 : k = 5
  · subst k5; cases h2 <;> simp
  by_cases k12 : k = 12
  · subst k12; cases h3 <;> simp
  by_cases k10 : k = 10
  · subst k10; cases lp <;> simp
  by_cases k11 : k = 11
  · subst k11; cases lp <;> simp
  by_cases k13 : k = 13
  · subst k13; cases h4 <;> simp
  simp [k1, k3, k5, k12, k10, k11, k13]
theorem any_comm (l : List ByteArray) (s : ByteArray) : (l.any fun x => eqS x s) = l.any fun x => eqS s x := by
  congr 1
  funext x
  exact eqS_comm x s
theorem Y77_D5 : type_of% (AI @F_ag_24 (AI @F_ag_3 (AI @F_ag_4 (AI @F_ag_46 (AI @F_ag_48 (AI @F_ag_59 (AI @F_ag_9 (AI @F_al_59 (AI @F_el_108 (AI @F_el_24 (AI @F_el_46 (AI @F_fl_130_0 (AI @F_fl_130_1 (AI @F_fl_26_2 (AI @F_fl_59_0 (AI @F_fl_59_2 (AI @F_fl_59_3 (AI @F_sz_130 (AI @F_sz_24 (AI @F_sz_3 (AI @F_sz_37 (AI @F_sz_4 (AI @F_sz_46 (AI @F_sz_48 (AI @F_sz_59 (@F_sz_9)))))))))))))))))))))))))) := AI @F_ag_24 (AI @F_ag_3 (AI @F_ag_4 (AI @F_ag_46 (AI @F_ag_48 (AI @F_ag_59 (AI @F_ag_9 (AI @F_al_59 (AI @F_el_108 (AI @F_el_24 (AI @F_el_46 (AI @F_fl_130_0 (AI @F_fl_130_1 (AI @F_fl_26_2 (AI @F_fl_59_0 (AI @F_fl_59_2 (AI @F_fl_59_3 (AI @F_sz_130 (AI @F_sz_24 (AI @F_sz_3 (AI @F_sz_37 (AI @F_sz_4 (AI @F_sz_46 (AI @F_sz_48 (AI @F_sz_59 (@F_sz_9)))))))))))))))))))))))))
set_option maxHeartbeats 4000000 in
theorem c_statementR (u : Un) (hfl : u.funcs.length ≤ 4194304) (vs : List Va) (hv : vs.length ≤ 4194304) (l : List (Nd × Bool)) (hl : l.length ≤ 4194304) (hf : ∀ p ∈ l, fitN p.1) (k : Nat) (hk : k < l.length) :
    PC Tryz.prog 77 [unV u, (V.sl (vs.map vaV) .ro), .sl (l.map plV) .ro, (.im (.int .i64 ((k : Int))))] (.im (.int .i64 (chk1 vs (u.funcs.map Fun.name) (labs l) (labs (l.take k)) l[k]))) := by
  have hg := get_some hk
  have hft := hf _ (List.getElem_mem hk)
  generalize hp : l[k] = p at hg hft
  obtain ⟨s, lp⟩ := p
  obtain ⟨hI, hsz, ⟨he1, he2⟩, h4, h5, h6, h7⟩ := fitN_inv hft
  simp only at hft hI hsz he1 he2
  clear h4 h5 h6 h7 hI hp
  have h2 := c_stmtR s hft
  have h4 := c_hasR vs hv s.name
  have h5 := c_functionR u.funcs hfl u.funcs.length (Nat.le_refl _) s.name
  rw [List.take_length, show (u.funcs.any fun f => eqS f.name s.name) = (u.funcs.map Fun.name).any fun x => eqS s.name x by rw [← any_comm, List.any_map]; rfl] at h5
  have h6 := c_label l hl l.length (Nat.le_refl _) s.name
  rw [List.take_length, any_comm] at h6
  have h7 := c_label l hl k (by omega) s.name
  rw [any_comm] at h7
  rw [chk1_eq]
  simp only
  generalize u.funcs.map Fun.name = fs at h5 ⊢
  generalize labs l = ls at h6 ⊢
  generalize labs (l.take k) = sn at h7 ⊢
  refine PC.enter 115 Tryz.func77 rfl (by decide) rfl rfl (s := [(0, unV u), (1, (V.sl (vs.map vaV) .ro)), (2, .sl (l.map plV) .ro), (3, (.im (.int .i64 ((k : Int)))))]) (by rfl) ?_
  simp only [unV_eq]
  refine wG Y77_D5 (AI hg (AI (@Int.natCast_nonneg) PL)) ?_
  refine AWp.loop ?_
  refine ALp.cutP 2 [(1, (V.sl (vs.map vaV) .ro)), (2, .sl (l.map plV) .ro), (3, (.im (.int .i64 ((k : Int))))), (4, .pt 0 0), (9, .pt 1 0), (10, (.im (.int .i64 ((((0 : Nat)) : Int)))))] [.box [.sl (u.globals.map vaV) .ro, .sl (u.data.map scV) .ro, .sl (u.funcs.map fnV) .ro], .box [.im (.int .i64 (s).kind), .im (.int .i64 (s).width), .im (.string (s).name), .sl ((s).e.map exV) .ro, .sl ((s).l.map ndV) .ro, .sl ((s).el.map ndV) .ro, .sl ((s).cs.map nlV) .ro]] (AI ndV_id (AI ndLs_id (AI nlVs_id (AI nlV_id (AI plV_id (AI plVs_id (AI (@exL_id) (AI (@exV_id) (AI (@vaV_id) (AI (@vaL_id) (AI unV_id (AI scL_id fnL_id)))))))))))) ?_
  refine ALp.upto s.e.length (AllTo (fun x => esh x 64) s.e) (fun m => ⟨dn 115 [(1, (V.sl (vs.map vaV) .ro)), (2, .sl (l.map plV) .ro), (3, (.im (.int .i64 ((k : Int))))), (4, .pt 0 0), (9, .pt 1 0), (10, (.im (.int .i64 ((((m : Nat)) : Int)))))], ofl [.box [.sl (u.globals.map vaV) .ro, .sl (u.data.map scV) .ro, .sl (u.funcs.map fnV) .ro], .box [.im (.int .i64 (s).kind), .im (.int .i64 (s).width), .im (.string (s).name), .sl ((s).e.map exV) .ro, .sl ((s).l.map ndV) .ro, .sl ((s).el.map ndV) .ro, .sl ((s).cs.map nlV) .ro]]⟩) ?_ 0 (Nat.zero_le _) (AllTo.zero _ _)
  intro m hm hI hnext
  by_cases hlt : m < s.e.length
  · have hlt' : (m : Int) < (s.e.length : Int) := by omega
    have hm1 := wrap_succ hlt (by omega)
    have hg1 := get_some hlt
    have hc := c_edeep s.e[m] (he2 _ (List.getElem_mem hlt)) 64 (by decide)
    cases b : esh s.e[m] 64 with
    | false =>
      rw [b] at hc
      rw [not_all_of hlt b]
      simp only [Bool.not_false, if_true]
      refine wG Y77_D5 (AI hlt' (AI hg1 (AI (@List.length_map.{0, 0}) EX))) ?_
      refine AR.callP hc @exV_eq (AI ndV_id (AI ndLs_id (AI nlVs_id (AI nlV_id (AI plV_id (AI plVs_id (AI (@exL_id) (AI (@exV_id) (AI (@vaV_id) (AI (@vaL_id) (AI unV_id (AI scL_id fnL_id)))))))))))) ?_
      refine goG Y77_D5 True.intro ?_
      refine wG Y77_D5 True.intro ?_
      exact Fin.oneP
    | true =>
      rw [b] at hc
      refine wG Y77_D5 (AI hlt' (AI hg1 (AI (@List.length_map.{0, 0}) EX))) ?_
      refine AR.callP hc @exV_eq (AI ndV_id (AI ndLs_id (AI nlVs_id (AI nlV_id (AI plV_id (AI plVs_id (AI (@exL_id) (AI (@exV_id) (AI (@vaV_id) (AI (@vaL_id) (AI unV_id (AI scL_id fnL_id)))))))))))) ?_
      refine goG Y77_D5 True.intro ?_
      refine wG Y77_D5 hm1 ?_
      refine ALp.cutP 2 [(1, (V.sl (vs.map vaV) .ro)), (2, .sl (l.map plV) .ro), (3, (.im (.int .i64 ((k : Int))))), (4, .pt 0 0), (9, .pt 1 0), (10, (.im (.int .i64 ((((m + 1 : Nat)) : Int)))))] [.box [.sl (u.globals.map vaV) .ro, .sl (u.data.map scV) .ro, .sl (u.funcs.map fnV) .ro], .box [.im (.int .i64 (s).kind), .im (.int .i64 (s).width), .im (.string (s).name), .sl ((s).e.map exV) .ro, .sl ((s).l.map ndV) .ro, .sl ((s).el.map ndV) .ro, .sl ((s).cs.map nlV) .ro]] (AI ndV_id (AI ndLs_id (AI nlVs_id (AI nlV_id (AI plV_id (AI plVs_id (AI (@exL_id) (AI (@exV_id) (AI (@vaV_id) (AI (@vaL_id) (AI unV_id (AI scL_id fnL_id)))))))))))) ?_
      exact hnext (m + 1) (by omega) (by omega) (hI.succ hlt b)
  obtain rfl : m = s.e.length := by omega
  clear hnext
  rw [List.all_eq_true.2 fun x hx => by
    obtain ⟨j, hj, rfl⟩ := List.getElem_of_mem hx
    exact hI j hj hj]
  simp only [Bool.not_true, Bool.false_eq_true, if_false]
  clear hI
  refine whG Y77_D5 (AI (@Int.lt_irrefl) @List.length_map.{0, 0}) ?_
  refine Blk'.here (Thn.n ?_)
  refine wG Y77_D5 True.intro ?_
  refine AR.callP h2 ndV_eq (AI ndV_id (AI ndLs_id (AI nlVs_id (AI nlV_id (AI plV_id (AI plVs_id (AI (@exL_id) (AI (@exV_id) (AI (@vaV_id) (AI (@vaL_id) (AI unV_id (AI scL_id fnL_id)))))))))))) ?_
  cases b2 : stT s with
  | false =>
    simp only [Bool.not_false, if_true]
    refine goG Y77_D5 True.intro ?_
    refine wG Y77_D5 True.intro ?_
    exact Fin.oneP
  | true =>
  simp only [Bool.not_true, Bool.false_eq_true, if_false]
  refine goG Y77_D5 True.intro ?_
  refine wG Y77_D5 True.intro ?_
  refine AWp.loop ?_
  refine ALp.cutP 2 [(1, (V.sl (vs.map vaV) .ro)), (2, .sl (l.map plV) .ro), (3, (.im (.int .i64 ((k : Int))))), (4, .pt 0 0), (9, .pt 1 0), (11, (.im (.int .i64 ((((0 : Nat)) : Int)))))] [.box [.sl (u.globals.map vaV) .ro, .sl (u.data.map scV) .ro, .sl (u.funcs.map fnV) .ro], .box [.im (.int .i64 (s).kind), .im (.int .i64 (s).width), .im (.string (s).name), .sl ((s).e.map exV) .ro, .sl ((s).l.map ndV) .ro, .sl ((s).el.map ndV) .ro, .sl ((s).cs.map nlV) .ro]] (AI ndV_id (AI ndLs_id (AI nlVs_id (AI nlV_id (AI plV_id (AI plVs_id (AI (@exL_id) (AI (@exV_id) (AI (@vaV_id) (AI (@vaL_id) (AI unV_id (AI scL_id fnL_id)))))))))))) ?_
  refine ALp.upto s.e.length (AllTo (knw vs) s.e) (fun m => ⟨dn 115 [(1, (V.sl (vs.map vaV) .ro)), (2, .sl (l.map plV) .ro), (3, (.im (.int .i64 ((k : Int))))), (4, .pt 0 0), (9, .pt 1 0), (11, (.im (.int .i64 ((((m : Nat)) : Int)))))], ofl [.box [.sl (u.globals.map vaV) .ro, .sl (u.data.map scV) .ro, .sl (u.funcs.map fnV) .ro], .box [.im (.int .i64 (s).kind), .im (.int .i64 (s).width), .im (.string (s).name), .sl ((s).e.map exV) .ro, .sl ((s).l.map ndV) .ro, .sl ((s).el.map ndV) .ro, .sl ((s).cs.map nlV) .ro]]⟩) ?_ 0 (Nat.zero_le _) (AllTo.zero _ _)
  intro m hm hI hnext
  by_cases hlt : m < s.e.length
  · have hlt' : (m : Int) < (s.e.length : Int) := by omega
    have hm1 := wrap_succ hlt (by omega)
    have hg1 := get_some hlt
    have hc := c_knownR vs hv s.e[m] (he2 _ (List.getElem_mem hlt))
    cases b : knw vs s.e[m] with
    | false =>
      rw [b] at hc
      rw [not_all_of hlt b]
      simp only [Bool.not_false, if_true]
      refine wG Y77_D5 (AI hlt' (AI hg1 (AI (@List.length_map.{0, 0}) EX))) ?_
      refine AR.callP hc @exV_eq (AI ndV_id (AI ndLs_id (AI nlVs_id (AI nlV_id (AI plV_id (AI plVs_id (AI (@exL_id) (AI (@exV_id) (AI (@vaV_id) (AI (@vaL_id) (AI unV_id (AI scL_id fnL_id)))))))))))) ?_
      refine goG Y77_D5 True.intro ?_
      refine wG Y77_D5 True.intro ?_
      exact Fin.oneP
    | true =>
      rw [b] at hc
      refine wG Y77_D5 (AI hlt' (AI hg1 (AI (@List.length_map.{0, 0}) EX))) ?_
      refine AR.callP hc @exV_eq (AI ndV_id (AI ndLs_id (AI nlVs_id (AI nlV_id (AI plV_id (AI plVs_id (AI (@exL_id) (AI (@exV_id) (AI (@vaV_id) (AI (@vaL_id) (AI unV_id (AI scL_id fnL_id)))))))))))) ?_
      refine goG Y77_D5 True.intro ?_
      refine wG Y77_D5 hm1 ?_
      refine ALp.cutP 2 [(1, (V.sl (vs.map vaV) .ro)), (2, .sl (l.map plV) .ro), (3, (.im (.int .i64 ((k : Int))))), (4, .pt 0 0), (9, .pt 1 0), (11, (.im (.int .i64 ((((m + 1 : Nat)) : Int)))))] [.box [.sl (u.globals.map vaV) .ro, .sl (u.data.map scV) .ro, .sl (u.funcs.map fnV) .ro], .box [.im (.int .i64 (s).kind), .im (.int .i64 (s).width), .im (.string (s).name), .sl ((s).e.map exV) .ro, .sl ((s).l.map ndV) .ro, .sl ((s).el.map ndV) .ro, .sl ((s).cs.map nlV) .ro]] (AI ndV_id (AI ndLs_id (AI nlVs_id (AI nlV_id (AI plV_id (AI plVs_id (AI (@exL_id) (AI (@exV_id) (AI (@vaV_id) (AI (@vaL_id) (AI unV_id (AI scL_id fnL_id)))))))))))) ?_
      exact hnext (m + 1) (by omega) (by omega) (hI.succ hlt b)
  obtain rfl : m = s.e.length := by omega
  clear hnext
  rw [List.all_eq_true.2 fun x hx => by
    obtain ⟨j, hj, rfl⟩ := List.getElem_of_mem hx
    exact hI j hj hj]
  simp only [Bool.not_true, Bool.false_eq_true, if_false]
  clear hI
  refine whG Y77_D5 (AI (@Int.lt_irrefl) @List.length_map.{0, 0}) ?_
  refine Blk'.here (Thn.n ?_)
  unfold rst
  simp only
  by_cases k1 : s.kind = 1
  · rw [if_pos (.inl k1)]
    refine wG Y77_D5 k1 ?_
    refine AR.callP h4 True.intro (AI ndV_id (AI ndLs_id (AI nlVs_id (AI nlV_id (AI plV_id (AI plVs_id (AI (@exL_id) (AI (@exV_id) (AI (@vaV_id) (AI (@vaL_id) (AI unV_id (AI scL_id fnL_id)))))))))))) ?_
    cases has vs s.name
    all_goals
      refine goG Y77_D5 True.intro ?_
      refine wG Y77_D5 k1 ?_
      exact Fin.oneP
  by_cases k3 : s.kind = 3
  · rw [if_pos (.inr k3)]
    refine wG Y77_D5 k3 ?_
    refine AR.callP h4 True.intro (AI ndV_id (AI ndLs_id (AI nlVs_id (AI nlV_id (AI plV_id (AI plVs_id (AI (@exL_id) (AI (@exV_id) (AI (@vaV_id) (AI (@vaL_id) (AI unV_id (AI scL_id fnL_id)))))))))))) ?_
    cases has vs s.name
    all_goals
      refine goG Y77_D5 True.intro ?_
      refine wG Y77_D5 k3 ?_
      exact Fin.oneP
  rw [if_neg (by simp [k1, k3])]
  by_cases k5 : s.kind = 5
  · rw [if_pos k5]
    refine wG Y77_D5 (AI k5 @List.length_map.{0, 0}) ?_
    refine AR.callP h5 True.intro (AI ndV_id (AI ndLs_id (AI nlVs_id (AI nlV_id (AI plV_id (AI plVs_id (AI (@exL_id) (AI (@exV_id) (AI (@vaV_id) (AI (@vaL_id) (AI unV_id (AI scL_id fnL_id)))))))))))) ?_
    cases fs.any fun x => eqS s.name x
    all_goals
      refine goG Y77_D5 True.intro ?_
      refine wG Y77_D5 k5 ?_
      exact Fin.oneP
  rw [if_neg k5]
  by_cases k12 : s.kind = 12
  · rw [if_pos k12]
    refine wG Y77_D5 (AI k12 @List.length_map.{0, 0}) ?_
    refine AR.callP h6 True.intro (AI ndV_id (AI ndLs_id (AI nlVs_id (AI nlV_id (AI plV_id (AI plVs_id (AI (@exL_id) (AI (@exV_id) (AI (@vaV_id) (AI (@vaL_id) (AI unV_id (AI scL_id fnL_id)))))))))))) ?_
    cases ls.any fun x => eqS s.name x
    all_goals
      refine goG Y77_D5 True.intro ?_
      refine wG Y77_D5 k12 ?_
      exact Fin.oneP
  rw [if_neg k12]
  by_cases k10 : s.kind = 10
  · rw [if_pos (.inl k10)]
    cases lp
    all_goals
      refine wG Y77_D5 (AI k10 (AI hg (AI (@Int.natCast_nonneg) PL))) ?_
      exact Fin.oneP
  by_cases k11 : s.kind = 11
  · rw [if_pos (.inr k11)]
    cases lp
    all_goals
      refine wG Y77_D5 (AI k11 (AI hg (AI (@Int.natCast_nonneg) PL))) ?_
      exact Fin.oneP
  rw [if_neg (by simp [k10, k11])]
  by_cases k13 : s.kind = 13
  · rw [if_pos k13]
    refine wG Y77_D5 k13 ?_
    refine AR.callP h7 True.intro (AI ndV_id (AI ndLs_id (AI nlVs_id (AI nlV_id (AI plV_id (AI plVs_id (AI (@exL_id) (AI (@exV_id) (AI (@vaV_id) (AI (@vaL_id) (AI unV_id (AI scL_id fnL_id)))))))))))) ?_
    cases sn.any fun x => eqS s.name x
    all_goals
      refine goG Y77_D5 True.intro ?_
      refine wG Y77_D5 True.intro ?_
      exact Fin.oneP
  rw [if_neg k13]
  refine wG Y77_D5 (AI k1 (AI k3 (AI k5 (AI k12 (AI k10 (AI k11 k13)))))) ?_
  exact Fin.oneP
end Go.Proofs.YtfggemopnlffeaaGreat
