import Derived.Test.YtfggemopnlffeaaGreatHv
import Derived.Test.YtfggemopnlffeaaGreatD7
import Derived.Test.YtfggemopnlffeaaGreatJO
namespace Go.Proofs.YtfggemopnlffeaaGreat
set_option linter.unusedSimpArgs false
set_option linter.unusedVariables false
set_option linter.unnecessarySimpa false
open Go.RowKit
theorem lisL_pre (vs : List Va) : ∀ l : List Nd, lisL vs l = (preL l).all (stmE vs) := by
  refine subs_induct fun l hl => ?_
  rw [preL_eq]
  unfold lisL
  rw [List.all_flatMap]
  rw [Bool.eq_iff_iff, List.all_eq_true, List.all_eq_true]
  refine forall_congr' fun t => forall_congr' fun ht => ?_
  rw [← Bool.eq_iff_iff, lisT_eq]
  unfold preT subs
  generalize hec : t.el :: t.cs = ec
  have hsub : ∀ c ∈ ec, c ∈ subs t := fun c hc => by unfold subs; rw [hec]; exact List.mem_cons_of_mem _ hc
  simp only [List.all_cons]
  rw [List.all_append, List.all_flatMap, ← hl t ht t.l (by simp [subs])]
  congr 2
  rw [Bool.eq_iff_iff, List.all_eq_true, List.all_eq_true]
  refine forall_congr' fun c => forall_congr' fun hc => ?_
  rw [← Bool.eq_iff_iff]
  exact hl t ht c (hsub c hc)
theorem Y10_D8 : type_of% (AI @F_ag_22 (AI @F_ag_24 (AI @F_ag_26 (AI @F_ag_35 (AI @F_ag_59 (AI @F_al_44 (AI @F_by_44 (AI @F_el_22 (AI @F_el_24 (AI @F_el_35 (AI @F_fl_26_0 (AI @F_fl_26_2 (AI @F_fl_37_1 (AI @F_fl_37_2 (AI @F_sz_22 (AI @F_sz_24 (AI @F_sz_26 (AI @F_sz_35 (AI @F_sz_37 (AI @F_sz_44 (@F_sz_59))))))))))))))))))))) := AI @F_ag_22 (AI @F_ag_24 (AI @F_ag_26 (AI @F_ag_35 (AI @F_ag_59 (AI @F_al_44 (AI @F_by_44 (AI @F_el_22 (AI @F_el_24 (AI @F_el_35 (AI @F_fl_26_0 (AI @F_fl_26_2 (AI @F_fl_37_1 (AI @F_fl_37_2 (AI @F_sz_22 (AI @F_sz_24 (AI @F_sz_26 (AI @F_sz_35 (AI @F_sz_37 (AI @F_sz_44 (@F_sz_59))))))))))))))))))))
set_option maxHeartbeats 2000000 in
theorem c_UnitR (u : Un) (hu : fitU u) : PC Tryz.prog 10 [unV u] (.im (.int .i64 (utE u))) := by
  have h1 := c_CheckUnitR u hu
  have hfl := hu.fl
  unfold utE
  refine PC.enter 51 Tryz.func10 rfl (by decide) rfl rfl (s := [(0, unV u)]) (by rfl) ?_
  rw [unV_eq]
  refine wG Y10_D8 True.intro ?_
  refine AR.callP h1 unV_eq (AI (@exL_id) (AI (@vaL_id) (AI (@exV_id) (AI (@vaV_id) (AI tsL_id (AI ndLs_id (AI nlVs_id (AI ndV_id (AI plVs_id (AI plV_id (AI scL_id (AI fnL_id (AI unV_id fnV_id))))))))))))) ?_
  by_cases b : unE u = 0
  case neg =>
    rw [if_neg b]
    refine goG Y10_D8 b ?_
    refine wG Y10_D8 b ?_
    exact Fin.oneP
  rw [if_pos b]
  obtain ⟨hg, _, hbd⟩ := unE_ok b
  refine goG Y10_D8 b ?_
  refine wG Y10_D8 @List.length_map.{0, 0} ?_
  clear h1 b
  refine AWp.loop ?_
  refine ALp.cutP 1 [(1, .pt 0 0), (4, (.im (.int .i64 ((((0 : Nat)) : Int)))))] [.box [.sl (u.globals.map vaV) .ro, .sl (u.data.map scV) .ro, .sl (u.funcs.map fnV) .ro]] (AI (@exL_id) (AI (@vaL_id) (AI (@exV_id) (AI (@vaV_id) (AI tsL_id (AI ndLs_id (AI nlVs_id (AI ndV_id (AI plVs_id (AI plV_id (AI scL_id (AI fnL_id (AI unV_id fnV_id))))))))))))) ?_
  refine ALp.upto u.funcs.length (AllTo (fun f => lisL (u.globals ++ f.vars) f.body) u.funcs) (fun m => ⟨dn 51 [(1, .pt 0 0), (4, (.im (.int .i64 ((((m : Nat)) : Int)))))], ofl [.box [.sl (u.globals.map vaV) .ro, .sl (u.data.map scV) .ro, .sl (u.funcs.map fnV) .ro]]⟩) ?_ 0 (Nat.zero_le _) (AllTo.zero _ _)
  intro m hm hI hnext
  by_cases hlt : m < u.funcs.length
  case neg =>
    obtain rfl : m = u.funcs.length := by omega
    clear hnext
    rw [if_pos (List.all_eq_true.2 fun x hx => by
      obtain ⟨j, hj, rfl⟩ := List.getElem_of_mem hx
      exact hI j hj hj)]
    refine wG Y10_D8 (AI (@Int.lt_irrefl) @List.length_map.{0, 0}) ?_
    exact Fin.oneP
  have hlt' : (m : Int) < (u.funcs.length : Int) := by omega
  have hm1 := wrap_succ hlt (by omega)
  have hgt := get_some hlt
  have hmem := List.getElem_mem hlt
  have hf := hu.fn _ hmem
  obtain ⟨hvl, hok⟩ := bodyE_ok (hbd _ hmem)
  have hfv : fitV (u.globals ++ u.funcs[m].vars) := ⟨by rw [List.length_append]; omega, fun v hv => by
    rcases List.mem_append.1 hv with h | h
    · exact (hu.gn v h).1
    · exact (hf.vn v h).1⟩
  have h2 := c_statements u.funcs[m].body hf.bd hf.ct
  have hA1 : u.globals.length * 88 ≤ 140737488355328 := by omega
  have hA2 : (u.globals ++ u.funcs[m].vars).length * 88 ≤ 140737488355328 := by rw [List.length_append]; omega
  have hap : u.globals.map vaV ++ u.funcs[m].vars.map vaV = (u.globals ++ u.funcs[m].vars).map vaV := by rw [List.map_append]
  have hln : u.globals.length + u.funcs[m].vars.length = (u.globals ++ u.funcs[m].vars).length := by rw [List.length_append]
  have hlis : lisL (u.globals ++ u.funcs[m].vars) u.funcs[m].body = _ := lisL_pre _ _
  have hso : ∀ s ∈ preL u.funcs[m].body, stT s = true ∧ fitN s := fun s hs => by
    rw [preL_all _ false] at hs
    obtain ⟨p, hp, rfl⟩ := List.mem_map.1 hs
    exact ⟨hok p hp, all_fit _ hf.bd false p hp⟩
  have hpl := preL_len u.funcs[m].body
  have hct := hf.ct
  have hno : lisL (u.globals ++ u.funcs[m].vars) u.funcs[m].body = false → (u.funcs.all fun f => lisL (u.globals ++ f.vars) f.body) = false := fun h => not_all_of hlt h
  have hyes : lisL (u.globals ++ u.funcs[m].vars) u.funcs[m].body = true → _ := fun h => hnext (m + 1) (by omega) (by omega) (hI.succ hlt h)
  rw [hlis] at hno hyes
  clear hlis hnext hI
  generalize preL u.funcs[m].body = sl at h2 hso hpl hno hyes
  generalize u.globals ++ u.funcs[m].vars = vs at hap hln hA2 hfv hno hyes
  refine wG Y10_D8 (AI hlt' (AI hgt (AI hA1 (AI hA2 (AI hap (AI hln (AI vaL_all (AI (@List.length_map.{0, 0}) (AI (@Nat.zero_add) FU))))))))) ?_
  refine AR.callP h2 True.intro (AI (@exL_id) (AI (@vaL_id) (AI (@exV_id) (AI (@vaV_id) (AI tsL_id (AI ndLs_id (AI nlVs_id (AI ndV_id (AI plVs_id (AI plV_id (AI scL_id (AI fnL_id (AI unV_id fnV_id))))))))))))) ?_
  refine goG Y10_D8 True.intro ?_
  refine wG Y10_D8 True.intro ?_
  refine AWp.loop ?_
  refine ALp.cutP 2 [(1, .pt 0 0), (4, (.im (.int .i64 ((m : Int))))), (5, .sl (vs.map vaV) (.own 1)), (6, .sl (sl.map ndV) .ro), (7, (.im (.int .i64 ((((0 : Nat)) : Int)))))] [.box [.sl (u.globals.map vaV) .ro, .sl (u.data.map scV) .ro, .sl (u.funcs.map fnV) .ro], .tip 44 6 vs.length] (AI (@exL_id) (AI (@vaL_id) (AI (@exV_id) (AI (@vaV_id) (AI tsL_id (AI ndLs_id (AI nlVs_id (AI ndV_id (AI plVs_id (AI plV_id (AI scL_id (AI fnL_id (AI unV_id fnV_id))))))))))))) ?_
  refine ALp.upto sl.length (AllTo (stmE vs) sl) (fun j => ⟨dn 51 [(1, .pt 0 0), (4, (.im (.int .i64 ((m : Int))))), (5, .sl (vs.map vaV) (.own 1)), (6, .sl (sl.map ndV) .ro), (7, (.im (.int .i64 ((((j : Nat)) : Int)))))], ofl [.box [.sl (u.globals.map vaV) .ro, .sl (u.data.map scV) .ro, .sl (u.funcs.map fnV) .ro], .tip 44 6 vs.length]⟩) ?_ 0 (Nat.zero_le _) (AllTo.zero _ _)
  intro j hj hJ hnext2
  by_cases hlu : j < sl.length
  case neg =>
    obtain rfl : j = sl.length := by omega
    clear hnext2
    have hy := hyes (List.all_eq_true.2 fun x hx => by
      obtain ⟨i, hi, rfl⟩ := List.getElem_of_mem hx
      exact hJ i hi hi)
    clear hyes hno
    refine whG Y10_D8 (AI (@Int.lt_irrefl) @List.length_map.{0, 0}) ?_
    refine Blk'.here (Thn.n ?_)
    refine wG Y10_D8 hm1 ?_
    refine ALp.cutP 1 [(1, .pt 0 0), (4, (.im (.int .i64 ((((m + 1 : Nat)) : Int)))))] [.box [.sl (u.globals.map vaV) .ro, .sl (u.data.map scV) .ro, .sl (u.funcs.map fnV) .ro]] (AI (@exL_id) (AI (@vaL_id) (AI (@exV_id) (AI (@vaV_id) (AI tsL_id (AI ndLs_id (AI nlVs_id (AI ndV_id (AI plVs_id (AI plV_id (AI scL_id (AI fnL_id (AI unV_id fnV_id))))))))))))) ?_
    exact hy
  have hlu' : (j : Int) < (sl.length : Int) := by omega
  have hj1 := wrap_succ hlu (by omega)
  have hg2 := get_some hlu
  obtain ⟨hst, hfn⟩ := hso _ (List.getElem_mem hlu)
  have hw := c_wrong vs hfv sl[j] hfn hst
  cases b : stmE vs sl[j] with
  | false =>
    rw [b] at hw
    rw [hno (not_all_of hlu b)]
    simp only [Bool.false_eq_true, if_false]
    clear hyes hno hnext2
    refine wG Y10_D8 (AI hlu' (AI hg2 (AI (@List.length_map.{0, 0}) ND))) ?_
    refine AR.callW hw ndV_eq (AI (@exL_id) (AI (@vaL_id) (AI (@exV_id) (AI (@vaV_id) (AI tsL_id (AI ndLs_id (AI nlVs_id (AI ndV_id (AI plVs_id (AI plV_id (AI scL_id (AI fnL_id (AI unV_id fnV_id))))))))))))) ?_
    refine goG Y10_D8 True.intro ?_
    refine wG Y10_D8 True.intro ?_
    exact Fin.oneP
  | true =>
    rw [b] at hw
    have hn3 := hnext2 (j + 1) (by omega) (by omega) (hJ.succ hlu b)
    clear hyes hno hnext2
    refine wG Y10_D8 (AI hlu' (AI hg2 (AI (@List.length_map.{0, 0}) ND))) ?_
    refine AR.callW hw ndV_eq (AI (@exL_id) (AI (@vaL_id) (AI (@exV_id) (AI (@vaV_id) (AI tsL_id (AI ndLs_id (AI nlVs_id (AI ndV_id (AI plVs_id (AI plV_id (AI scL_id (AI fnL_id (AI unV_id fnV_id))))))))))))) ?_
    refine goG Y10_D8 True.intro ?_
    refine wG Y10_D8 hj1 ?_
    refine ALp.cutP 2 [(1, .pt 0 0), (4, (.im (.int .i64 ((m : Int))))), (5, .sl (vs.map vaV) (.own 1)), (6, .sl (sl.map ndV) .ro), (7, (.im (.int .i64 ((((j + 1 : Nat)) : Int)))))] [.box [.sl (u.globals.map vaV) .ro, .sl (u.data.map scV) .ro, .sl (u.funcs.map fnV) .ro], .tip 44 6 vs.length] (AI (@exL_id) (AI (@vaL_id) (AI (@exV_id) (AI (@vaV_id) (AI tsL_id (AI ndLs_id (AI nlVs_id (AI ndV_id (AI plVs_id (AI plV_id (AI scL_id (AI fnL_id (AI unV_id fnV_id))))))))))))) ?_
    exact hn3
theorem Y4_D8 : type_of% (AI @F_ag_26 (@F_sz_26)) := AI @F_ag_26 (@F_sz_26)
set_option maxHeartbeats 2000000 in
theorem c_law6 (u : Un) (hu : fitU u) : PC Tryz.prog 4 [unV u] (.im (.bool (true))) := by
  have h1 := c_large u hu
  have h2 := c_example
  have h3 := c_Unit u hu
  have h4 := c_UnitR u hu
  generalize lgE u = lg at h1
  generalize utE u = e at h3 h4
  refine PC.enter 23 Tryz.func4 rfl (by decide) rfl rfl (s := [(0, unV u)]) (by rfl) ?_
  rw [unV_eq]
  refine wdG Y4_D8 True.intro ?_
  refine AR.callP h1 unV_eq (AI (@exL_id) (AI (@vaL_id) (AI (@exV_id) (AI (@vaV_id) (AI tsL_id (AI ndLs_id (AI nlVs_id (AI ndV_id (AI plVs_id (AI plV_id (AI scL_id (AI fnL_id (AI unV_id fnV_id))))))))))))) ?_
  cases lg with
  | true =>
    refine goG Y4_D8 True.intro ?_
    refine AR.callP h2 True.intro (AI (@exL_id) (AI (@vaL_id) (AI (@exV_id) (AI (@vaV_id) (AI tsL_id (AI ndLs_id (AI nlVs_id (AI ndV_id (AI plVs_id (AI plV_id (AI scL_id (AI fnL_id (AI unV_id fnV_id))))))))))))) ?_
    refine goG Y4_D8 True.intro ?_
    refine wdG Y4_D8 True.intro ?_
    exact Fin.oneP
  | false =>
  refine goG Y4_D8 True.intro ?_
  refine AR.callP h1 unV_eq (AI (@exL_id) (AI (@vaL_id) (AI (@exV_id) (AI (@vaV_id) (AI tsL_id (AI ndLs_id (AI nlVs_id (AI ndV_id (AI plVs_id (AI plV_id (AI scL_id (AI fnL_id (AI unV_id fnV_id))))))))))))) ?_
  refine goG Y4_D8 True.intro ?_
  refine AR.callP h3 unV_eq (AI (@exL_id) (AI (@vaL_id) (AI (@exV_id) (AI (@vaV_id) (AI tsL_id (AI ndLs_id (AI nlVs_id (AI ndV_id (AI plVs_id (AI plV_id (AI scL_id (AI fnL_id (AI unV_id fnV_id))))))))))))) ?_
  refine goG Y4_D8 True.intro ?_
  refine AR.callP h4 unV_eq (AI (@exL_id) (AI (@vaL_id) (AI (@exV_id) (AI (@vaV_id) (AI tsL_id (AI ndLs_id (AI nlVs_id (AI ndV_id (AI plVs_id (AI plV_id (AI scL_id (AI fnL_id (AI unV_id fnV_id))))))))))))) ?_
  refine goG Y4_D8 True.intro ?_
  refine AR.callP h2 True.intro (AI (@exL_id) (AI (@vaL_id) (AI (@exV_id) (AI (@vaV_id) (AI tsL_id (AI ndLs_id (AI nlVs_id (AI ndV_id (AI plVs_id (AI plV_id (AI scL_id (AI fnL_id (AI unV_id fnV_id))))))))))))) ?_
  refine goG Y4_D8 True.intro ?_
  refine wdG Y4_D8 True.intro ?_
  exact Fin.oneP
end Go.Proofs.YtfggemopnlffeaaGreat
