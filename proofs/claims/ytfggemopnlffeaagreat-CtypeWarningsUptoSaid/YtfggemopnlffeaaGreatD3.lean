import Derived.Test.YtfggemopnlffeaaGreatHv
import Derived.Test.YtfggemopnlffeaaGreatCP
import Derived.Test.YtfggemopnlffeaaGreatCQ
namespace Go.Proofs.YtfggemopnlffeaaGreat
set_option linter.unusedSimpArgs false
set_option linter.unusedVariables false
set_option linter.unnecessarySimpa false
open Go.RowKit
theorem eqS_comm (a b : ByteArray) : eqS a b = eqS b a := by
  unfold eqS
  rw [Bool.eq_iff_iff, beq_iff_eq, beq_iff_eq]
  exact eq_comm
theorem has_append (a b : List Va) (s : ByteArray) : has (a ++ b) s = (has a s || has b s) := by unfold has; rw [List.any_append]
theorem vaL_allS (l : List Va) : allS 6 (l.map vaV) = true := by
  unfold allS
  rw [List.all_map]
  exact List.all_eq_true.2 fun x _ => rfl
theorem Y39_D3 : type_of% (AI @F_ag_41 (AI @F_ag_9 (AI @F_el_22 (AI @F_fl_44_0 (AI @F_fl_44_1 (AI @F_sz_41 (AI @F_sz_44 (AI @F_sz_9 (@F_un_22))))))))) := AI @F_ag_41 (AI @F_ag_9 (AI @F_el_22 (AI @F_fl_44_0 (AI @F_fl_44_1 (AI @F_sz_41 (AI @F_sz_44 (AI @F_sz_9 (@F_un_22))))))))
set_option maxHeartbeats 2000000 in
theorem c_variablesR (bs l : List Va) (hb : bs.length + l.length ≤ 4194304) (hl : fitVN l) : PC Tryz.prog 39 [.sl (bs.map vaV) .ro, .sl (l.map vaV) .ro] (.im (.int .i64 (vErr bs l))) := by
  refine PC.enter 47 Tryz.func39 rfl (by decide) rfl rfl (s := [(0, .sl (bs.map vaV) .ro), (1, .sl (l.map vaV) .ro)]) (by rfl) ?_
  refine wG Y39_D3 True.intro ?_
  refine AWp.loop ?_
  refine ALp.cutP 0 [(0, .sl (bs.map vaV) .ro), (1, .sl (l.map vaV) .ro), (5, (.im (.int .i64 ((((0 : Nat)) : Int)))))] [] (AI (@exL_id) (AI (@vaL_id) (AI (@exV_id) (AI (@vaV_id) (AI scL_id (AI scV_id (AI fnL_id (AI fnV_id by_id)))))))) ?_
  refine ALp.upto l.length (fun m => vErr (bs ++ l.take m) (l.drop m) = vErr bs l) (fun m => ⟨dn 47 [(0, .sl (bs.map vaV) .ro), (1, .sl (l.map vaV) .ro), (5, (.im (.int .i64 ((((m : Nat)) : Int)))))], ofl []⟩) ?_ 0 (Nat.zero_le _) (by rw [List.take_zero, List.append_nil, List.drop_zero])
  intro m hm hV hnext
  rw [← hV]
  by_cases hlt : m < l.length
  case neg =>
    obtain rfl : m = l.length := by omega
    clear hnext
    have e0 : vErr (bs ++ l.take l.length) (l.drop l.length) = 0 := by rw [List.drop_length]; cases bs ++ l.take l.length <;> rfl
    rw [e0]
    refine wG Y39_D3 (AI (@Int.lt_irrefl) @List.length_map.{0, 0}) ?_
    exact Fin.oneP
  have hlt' : (m : Int) < (l.length : Int) := by omega
  have hm1 := wrap_succ hlt (by omega)
  have hg := get_some hlt
  obtain ⟨hty, hnm⟩ := hl _ (List.getElem_mem hlt)
  have h1 := c_NameR l[m].name hnm
  have h2 := c_hasR bs (by omega) l[m].name
  have h3 := c_hasR (l.take m) (by rw [List.length_take]; omega) l[m].name
  have h4 := c_checkR l[m].ty hty
  have hn2 := hnext (m + 1) (by omega) (by omega)
  rw [vErr_step hlt]
  rw [vErr_step hlt] at hV
  rw [has_append]
  rw [has_append] at hV
  have hmi : (m : Int) ≤ (l.length : Int) := by omega
  have hne : ¬ m = l.length := by omega
  have htk : (l.map vaV).take m = (l.take m).map vaV := List.map_take.symm
  cases b1 : nameT l[m].name with
  | false =>
    rw [b1] at h1
    simp only [Bool.not_false, if_true]
    refine wG Y39_D3 (AI hlt' (AI hg (AI (@List.length_map.{0, 0}) VA))) ?_
    refine AR.callP h1 True.intro (AI (@exL_id) (AI (@vaL_id) (AI (@exV_id) (AI (@vaV_id) (AI scL_id (AI scV_id (AI fnL_id (AI fnV_id by_id)))))))) ?_
    refine goG Y39_D3 True.intro ?_
    refine wG Y39_D3 True.intro ?_
    exact Fin.oneP
  | true =>
  rw [b1] at h1 hV
  simp only [Bool.not_true, Bool.false_eq_true, if_false] at hV ⊢
  refine wG Y39_D3 (AI hlt' (AI hg (AI (@List.length_map.{0, 0}) VA))) ?_
  refine AR.callP h1 True.intro (AI (@exL_id) (AI (@vaL_id) (AI (@exV_id) (AI (@vaV_id) (AI scL_id (AI scV_id (AI fnL_id (AI fnV_id by_id)))))))) ?_
  refine goG Y39_D3 True.intro ?_
  refine wdG Y39_D3 (AI hlt' (AI hg VA)) ?_
  cases b2 : has bs l[m].name with
  | true =>
    rw [b2] at h2
    simp only [Bool.true_or, if_true]
    refine AR.callP h2 True.intro (AI (@exL_id) (AI (@vaL_id) (AI (@exV_id) (AI (@vaV_id) (AI scL_id (AI scV_id (AI fnL_id (AI fnV_id by_id)))))))) ?_
    refine goG Y39_D3 True.intro ?_
    refine wdG Y39_D3 True.intro ?_
    exact Fin.oneP
  | false =>
  rw [b2] at h2 hV
  simp only [Bool.false_or] at hV ⊢
  refine AR.callP h2 True.intro (AI (@exL_id) (AI (@vaL_id) (AI (@exV_id) (AI (@vaV_id) (AI scL_id (AI scV_id (AI fnL_id (AI fnV_id by_id)))))))) ?_
  refine goG Y39_D3 (AI hlt' (AI hg (AI hmi (AI hne (AI htk (AI vaL_allS (AI vaL_all (AI GDS VA)))))))) ?_
  cases b3 : has (l.take m) l[m].name with
  | true =>
    rw [b3] at h3
    simp only [if_true]
    refine AR.callP h3 True.intro (AI (@exL_id) (AI (@vaL_id) (AI (@exV_id) (AI (@vaV_id) (AI scL_id (AI scV_id (AI fnL_id (AI fnV_id by_id)))))))) ?_
    refine goG Y39_D3 True.intro ?_
    refine wdG Y39_D3 True.intro ?_
    exact Fin.oneP
  | false =>
  rw [b3] at h3 hV
  simp only [Bool.false_eq_true, if_false] at hV ⊢
  refine AR.callP h3 True.intro (AI (@exL_id) (AI (@vaL_id) (AI (@exV_id) (AI (@vaV_id) (AI scL_id (AI scV_id (AI fnL_id (AI fnV_id by_id)))))))) ?_
  refine goG Y39_D3 True.intro ?_
  refine wdG Y39_D3 (AI hlt' (AI hg VA)) ?_
  refine AR.callP h4 @tyV_eq (AI (@exL_id) (AI (@vaL_id) (AI (@exV_id) (AI (@vaV_id) (AI scL_id (AI scV_id (AI fnL_id (AI fnV_id by_id)))))))) ?_
  by_cases b4 : chk l[m].ty = 0
  case neg =>
    rw [if_pos b4]
    refine goG Y39_D3 b4 ?_
    refine wG Y39_D3 b4 ?_
    exact Fin.oneP
  rw [if_neg (by simp [b4])] at hV ⊢
  refine goG Y39_D3 b4 ?_
  refine wG Y39_D3 (AI b4 hm1) ?_
  refine ALp.cutP 0 [(0, .sl (bs.map vaV) .ro), (1, .sl (l.map vaV) .ro), (5, (.im (.int .i64 ((((m + 1 : Nat)) : Int)))))] [] (AI (@exL_id) (AI (@vaL_id) (AI (@exV_id) (AI (@vaV_id) (AI scL_id (AI scV_id (AI fnL_id (AI fnV_id by_id)))))))) ?_
  rw [hV]
  exact hn2 hV
theorem Y40_D3 : type_of% (AI @F_ag_89 (AI @F_ag_9 (AI @F_el_23 (AI @F_el_89 (AI @F_fl_91_0 (AI @F_fl_91_2 (AI @F_sz_5 (AI @F_sz_89 (AI @F_sz_9 (@F_sz_91)))))))))) := AI @F_ag_89 (AI @F_ag_9 (AI @F_el_23 (AI @F_el_89 (AI @F_fl_91_0 (AI @F_fl_91_2 (AI @F_sz_5 (AI @F_sz_89 (AI @F_sz_9 (@F_sz_91)))))))))
set_option maxHeartbeats 2000000 in
theorem c_dataR (l : List Sec) (hl : l.length ≤ 4194304) (hf : fitSec l) : PC Tryz.prog 40 [.sl (l.map scV) .ro] (.im (.int .i64 (dErr [] l))) := by
  refine PC.enter 41 Tryz.func40 rfl (by decide) rfl rfl (s := [(0, .sl (l.map scV) .ro)]) (by rfl) ?_
  refine wG Y40_D3 True.intro ?_
  refine AWp.loop ?_
  refine ALp.cutP 0 [(0, .sl (l.map scV) .ro), (3, (.im (.int .i64 ((((0 : Nat)) : Int)))))] [] (AI (@exL_id) (AI (@vaL_id) (AI (@exV_id) (AI (@vaV_id) (AI scL_id (AI scV_id (AI fnL_id (AI fnV_id by_id)))))))) ?_
  refine ALp.upto l.length (fun m => dErr (l.take m) (l.drop m) = dErr [] l) (fun m => ⟨dn 41 [(0, .sl (l.map scV) .ro), (3, (.im (.int .i64 ((((m : Nat)) : Int)))))], ofl []⟩) ?_ 0 (Nat.zero_le _) rfl
  intro m hm hV hnext
  rw [← hV]
  by_cases hlt : m < l.length
  case neg =>
    obtain rfl : m = l.length := by omega
    clear hnext
    have e0 : dErr (l.take l.length) (l.drop l.length) = 0 := by rw [List.drop_length]; cases l.take l.length <;> rfl
    rw [e0]
    refine wG Y40_D3 (AI (@Int.lt_irrefl) @List.length_map.{0, 0}) ?_
    exact Fin.oneP
  have hlt' : (m : Int) < (l.length : Int) := by omega
  have hm1 := wrap_succ hlt (by omega)
  have hg := get_some hlt
  have h1 := c_NameR l[m].name (hf _ (List.getElem_mem hlt))
  rw [dErr_step hlt]
  rw [dErr_step hlt] at hV
  have hn2 := hnext (m + 1) (by omega) (by omega)
  cases b1 : nameT l[m].name with
  | false =>
    rw [b1] at h1
    simp only [Bool.not_false, if_true]
    refine wG Y40_D3 (AI hlt' (AI hg (AI (@List.length_map.{0, 0}) SCT))) ?_
    refine AR.callP h1 True.intro (AI (@exL_id) (AI (@vaL_id) (AI (@exV_id) (AI (@vaV_id) (AI scL_id (AI scV_id (AI fnL_id (AI fnV_id by_id)))))))) ?_
    refine goG Y40_D3 True.intro ?_
    refine wG Y40_D3 True.intro ?_
    exact Fin.oneP
  | true =>
  rw [b1] at h1 hV
  simp only [Bool.not_true, Bool.false_eq_true, if_false] at hV ⊢
  refine wG Y40_D3 (AI hlt' (AI hg (AI (@List.length_map.{0, 0}) SCT))) ?_
  refine AR.callP h1 True.intro (AI (@exL_id) (AI (@vaL_id) (AI (@exV_id) (AI (@vaV_id) (AI scL_id (AI scV_id (AI fnL_id (AI fnV_id by_id)))))))) ?_
  refine goG Y40_D3 True.intro ?_
  refine wG Y40_D3 True.intro ?_
  refine AWp.loop ?_
  refine ALp.cutP 0 [(0, .sl (l.map scV) .ro), (3, (.im (.int .i64 ((m : Int))))), (4, (.im (.int .i64 ((((0 : Nat)) : Int)))))] [] (AI (@exL_id) (AI (@vaL_id) (AI (@exV_id) (AI (@vaV_id) (AI scL_id (AI scV_id (AI fnL_id (AI fnV_id by_id)))))))) ?_
  refine ALp.upto m (AllTo (fun x => !eqS x.name l[m].name) l) (fun j => ⟨dn 41 [(0, .sl (l.map scV) .ro), (3, (.im (.int .i64 ((m : Int))))), (4, (.im (.int .i64 ((((j : Nat)) : Int)))))], ofl []⟩) ?_ 0 (Nat.zero_le _) (AllTo.zero _ _)
  intro j hj hJ hnext2
  by_cases hlu : j < m
  case neg =>
    obtain rfl : j = m := by omega
    clear hnext2
    have hno : (l.take j).any (fun x => eqS x.name l[j].name) = false := by
      rw [List.any_eq_false]
      intro x hx
      obtain ⟨i, hi, rfl⟩ := List.getElem_of_mem hx
      rw [List.length_take] at hi
      have := hJ i (by omega) (by omega)
      rw [List.getElem_take]
      simpa using this
    rw [hno] at hV ⊢
    simp only [Bool.false_eq_true, if_false] at hV ⊢
    refine whG Y40_D3 @Int.lt_irrefl ?_
    refine Blk'.here (Thn.n ?_)
    by_cases b3 : 65536 < l[j].data.length
    · have b3' : (65536 : Int) < (l[j].data.length : Int) := by omega
      rw [if_pos b3]
      refine wG Y40_D3 (AI hlt' (AI hg (AI b3' (AI (@List.length_map.{0, 0}) SCT)))) ?_
      exact Fin.oneP
    · have b3' : ¬ (65536 : Int) < (l[j].data.length : Int) := by omega
      rw [if_neg b3] at hV ⊢
      refine wG Y40_D3 (AI hlt' (AI hg (AI b3' (AI (@List.length_map.{0, 0}) (AI hm1 SCT))))) ?_
      refine ALp.cutP 0 [(0, .sl (l.map scV) .ro), (3, (.im (.int .i64 ((((j + 1 : Nat)) : Int)))))] [] (AI (@exL_id) (AI (@vaL_id) (AI (@exV_id) (AI (@vaV_id) (AI scL_id (AI scV_id (AI fnL_id (AI fnV_id by_id)))))))) ?_
      rw [hV]
      exact hn2 hV
  have hlu' : (j : Int) < (m : Int) := by omega
  have hj1 := wrap_succ hlu (by omega)
  have hg2 : l[j]? = some l[j] := List.getElem?_eq_getElem (by omega)
  cases b2 : eqS l[j].name l[m].name with
  | true =>
    have b2' : (l[j].name.toList == l[m].name.toList) = true := b2
    have hy : (l.take m).any (fun x => eqS x.name l[m].name) = true := List.any_eq_true.2 ⟨l[j], by rw [List.mem_take_iff_getElem]; exact ⟨j, by omega, rfl⟩, b2⟩
    rw [hy, if_pos rfl]
    refine wdG Y40_D3 (AI hlu' (AI hg2 (AI hg (AI b2' SCT)))) ?_
    exact Fin.oneP
  | false =>
    have b2' : (l[j].name.toList == l[m].name.toList) = false := b2
    refine wdG Y40_D3 (AI hlu' (AI hg2 (AI hg (AI b2' (AI hj1 SCT))))) ?_
    refine ALp.cutP 0 [(0, .sl (l.map scV) .ro), (3, (.im (.int .i64 ((m : Int))))), (4, (.im (.int .i64 ((((j + 1 : Nat)) : Int)))))] [] (AI (@exL_id) (AI (@vaL_id) (AI (@exV_id) (AI (@vaV_id) (AI scL_id (AI scV_id (AI fnL_id (AI fnV_id by_id)))))))) ?_
    exact hnext2 (j + 1) (by omega) (by omega) (hJ.succ (by omega) (by rw [b2]; rfl))
theorem Y42_D3 : type_of% (AI @F_ag_9 (AI @F_el_24 (AI @F_fl_37_0 (AI @F_sz_37 (@F_sz_9))))) := AI @F_ag_9 (AI @F_el_24 (AI @F_fl_37_0 (AI @F_sz_37 (@F_sz_9))))
theorem c_functionR (l : List Fun) (hl : l.length ≤ 4194304) (n : Nat) (hn : n ≤ l.length) (s : ByteArray) : PC Tryz.prog 42 [.sl (l.map fnV) .ro, (.im (.int .i64 ((n : Int)))), .im (.string s)] (.im (.bool ((l.take n).any fun f => eqS f.name s))) := by
  refine PC.enter 20 Tryz.func42 rfl (by decide) rfl rfl (s := [(0, .sl (l.map fnV) .ro), (1, (.im (.int .i64 ((n : Int))))), (2, .im (.string s))]) (by rfl) ?_
  refine wG Y42_D3 True.intro ?_
  refine AWp.loop ?_
  refine ALp.cutP 0 [(0, .sl (l.map fnV) .ro), (1, (.im (.int .i64 ((n : Int))))), (2, .im (.string s)), (7, (.im (.int .i64 ((((0 : Nat)) : Int)))))] [] (AI (@exL_id) (AI (@vaL_id) (AI (@exV_id) (AI (@vaV_id) (AI scL_id (AI scV_id (AI fnL_id (AI fnV_id by_id)))))))) ?_
  refine ALp.upto n (AllTo (fun x => !eqS x.name s) l) (fun m => ⟨dn 20 [(0, .sl (l.map fnV) .ro), (1, (.im (.int .i64 ((n : Int))))), (2, .im (.string s)), (7, (.im (.int .i64 ((((m : Nat)) : Int)))))], ofl []⟩) ?_ 0 (Nat.zero_le _) (AllTo.zero _ _)
  intro m hm hI hnext
  by_cases hlt : m < n
  case neg =>
    obtain rfl : m = n := by omega
    clear hnext
    have hno : ((l.take m).any fun f => eqS f.name s) = false := by
      rw [List.any_eq_false]
      intro x hx
      obtain ⟨i, hi, rfl⟩ := List.getElem_of_mem hx
      rw [List.length_take] at hi
      have := hI i (by omega) (by omega)
      rw [List.getElem_take]
      simpa using this
    rw [hno]
    refine wG Y42_D3 @Int.lt_irrefl ?_
    exact Fin.oneP
  have hlt' : (m : Int) < (n : Int) := by omega
  have hm1 := wrap_succ hlt (by omega)
  have hlm : m < l.length := by omega
  have hg := get_some hlm
  cases b : eqS l[m].name s with
  | true =>
    have b' : (l[m].name.toList == s.toList) = true := b
    have hy : ((l.take n).any fun f => eqS f.name s) = true := List.any_eq_true.2 ⟨l[m], by rw [List.mem_take_iff_getElem]; exact ⟨m, by omega, rfl⟩, b⟩
    rw [hy]
    refine wG Y42_D3 (AI hlt' (AI hg (AI b' FU))) ?_
    exact Fin.oneP
  | false =>
    have b' : (l[m].name.toList == s.toList) = false := b
    refine wG Y42_D3 (AI hlt' (AI hg (AI b' (AI hm1 FU)))) ?_
    refine ALp.cutP 0 [(0, .sl (l.map fnV) .ro), (1, (.im (.int .i64 ((n : Int))))), (2, .im (.string s)), (7, (.im (.int .i64 ((((m + 1 : Nat)) : Int)))))] [] (AI (@exL_id) (AI (@vaL_id) (AI (@exV_id) (AI (@vaV_id) (AI scL_id (AI scV_id (AI fnL_id (AI fnV_id by_id)))))))) ?_
    exact hnext (m + 1) (by omega) (by omega) (hI.succ hlm (by rw [b]; rfl))
end Go.Proofs.YtfggemopnlffeaaGreat
