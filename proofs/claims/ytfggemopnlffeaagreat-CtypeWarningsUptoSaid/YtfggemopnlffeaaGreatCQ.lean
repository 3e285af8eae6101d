import Derived.Test.YtfggemopnlffeaaGreatHv
import Derived.Test.YtfggemopnlffeaaGreatCP
namespace Go.Proofs.YtfggemopnlffeaaGreat
set_option linter.unusedSimpArgs false
set_option linter.unusedVariables false
set_option linter.unnecessarySimpa false
open Go.RowKit
theorem fnV_live (v : Fun) : (fnV v).live = true := rfl
theorem fnV_size (v : Fun) : (fnV v).size = 3 := rfl
theorem fnV_isAg (v : Fun) : (fnV v).isAg = true := rfl
theorem fnV_firm (v : Fun) : (fnV v).firm = true := rfl
theorem fnV_strip (g : Bool) (v : Fun) : strip g (fnV v) = fnV v := rfl
theorem fnV_cells (f : Fun) : (fnV f).cells = [.im (.string f.name), .sl (f.vars.map vaV) .ro, .sl (f.body.map ndV) .ro] := rfl
theorem FU : type_of% (AI @fnV_firm (AI @fnV_strip (AI @fnV_live (AI @fnV_size (AI @fnV_isAg (AI @fnV_cells (AI @List.getElem?_map.{0, 0} @Int.natCast_nonneg))))))) :=
  AI @fnV_firm (AI @fnV_strip (AI @fnV_live (AI @fnV_size (AI @fnV_isAg (AI @fnV_cells (AI @List.getElem?_map.{0, 0} @Int.natCast_nonneg))))))
def fnE : List ByteArray → List Fun → Int
  | _, [] => 0
  | sn, f :: r => if !nameT f.name then 3 else if sn.any (fun x => eqS f.name x) then 8 else fnE (sn ++ [f.name]) r
theorem fnE_step {l : List Fun} {m : Nat} (h : m < l.length) : fnE ((l.take m).map Fun.name) (l.drop m) = if !nameT l[m].name then 3 else if ((l.take m).map Fun.name).any (fun x => eqS l[m].name x) then 8 else fnE ((l.take (m + 1)).map Fun.name) (l.drop (m + 1)) := by
  rw [List.drop_eq_getElem_cons h, fnE, List.take_succ_eq_append_getElem h, List.map_append]
  rfl
def bdE (gs : List Va) (fs : List ByteArray) : List Fun → Int
  | [] => 0
  | f :: r => if bodyE gs f fs = 0 then bdE gs fs r else bodyE gs f fs
def unE (u : Un) : Int :=
  if 256 < u.globals.length ∨ 16 < u.data.length ∨ 64 < u.funcs.length then 6 else if u.funcs.length = 0 then 17 else if vErr [] u.globals ≠ 0 then vErr [] u.globals else if dErr [] u.data ≠ 0 then dErr [] u.data
  else if fnE [] u.funcs ≠ 0 then fnE [] u.funcs else bdE u.globals (u.funcs.map Fun.name) u.funcs
structure fitFn (f : Fun) : Prop where
  vl : f.vars.length ≤ 2097152
  vn : fitVN f.vars
  bd : fitNL f.body
  ct : cnt f.body ≤ 4194304
  nm : f.name.size ≤ 9223372036854775807
structure fitU (u : Un) : Prop where
  gl : u.globals.length ≤ 2097152
  gn : fitVN u.globals
  dl : u.data.length ≤ 4194304
  dn : fitSec u.data
  fl : u.funcs.length ≤ 4194304
  fn : ∀ f ∈ u.funcs, fitFn f
theorem unV_id (p : Nat → Bool) (u : Un) : (unV u).ids p = true := by simp [unV, V.ids, V.idsL, vaL_id, scL_id, fnL_id]
theorem Y18_CQ : type_of% (AI @F_ag_22 (AI @F_ag_23 (AI @F_ag_24 (AI @F_ag_26 (AI @F_ag_37 (AI @F_ag_9 (AI @F_al_37 (AI @F_al_9 (AI @F_by_9 (AI @F_el_22 (AI @F_el_23 (AI @F_el_24 (AI @F_el_29 (AI @F_fl_26_0 (AI @F_fl_26_1 (AI @F_fl_26_2 (AI @F_fl_37_0 (AI @F_sz_22 (AI @F_sz_23 (AI @F_sz_24 (AI @F_sz_26 (AI @F_sz_37 (AI @F_sz_44 (AI @F_sz_9 (@F_sz_91))))))))))))))))))))))))) := AI @F_ag_22 (AI @F_ag_23 (AI @F_ag_24 (AI @F_ag_26 (AI @F_ag_37 (AI @F_ag_9 (AI @F_al_37 (AI @F_al_9 (AI @F_by_9 (AI @F_el_22 (AI @F_el_23 (AI @F_el_24 (AI @F_el_29 (AI @F_fl_26_0 (AI @F_fl_26_1 (AI @F_fl_26_2 (AI @F_fl_37_0 (AI @F_sz_22 (AI @F_sz_23 (AI @F_sz_24 (AI @F_sz_26 (AI @F_sz_37 (AI @F_sz_44 (AI @F_sz_9 (@F_sz_91))))))))))))))))))))))))
set_option maxHeartbeats 2000000 in
theorem c_CheckUnit (u : Un) (hu : fitU u) : PC Tryz.prog 18 [unV u] (.im (.int .i64 (unE u))) := by
  have h1 := c_variablesE [] u.globals (by have := hu.gl; simp; omega) hu.gn
  have h2 := c_data u.data hu.dl hu.dn
  have hgl := hu.gl
  have hfl := hu.fl
  unfold unE
  rw [List.map_nil] at h1
  refine PC.enter 79 Tryz.func18 rfl (by decide) rfl rfl (s := [(0, unV u)]) (by rfl) ?_
  simp only [unV_eq]
  refine wG Y18_CQ @List.length_map.{0, 0} ?_
  refine AWp.condAB rfl rfl (fun hE => ?_) (fun hE => ?_)
  · have q : 256 < u.globals.length ∨ 16 < u.data.length ∨ 64 < u.funcs.length := by
      simp only [Bool.or_eq_true, decide_eq_true_eq] at hE
      omega
    rw [if_pos q]
    refine wG Y18_CQ True.intro ?_
    exact Fin.oneP
  have q : ¬ (256 < u.globals.length ∨ 16 < u.data.length ∨ 64 < u.funcs.length) := by
    simp only [Bool.or_eq_false_iff, decide_eq_false_iff_not] at hE
    omega
  rw [if_neg q]
  by_cases b0 : u.funcs.length = 0
  · have b0' : (u.funcs.length : Int) = 0 := by omega
    rw [if_pos b0]
    refine wG Y18_CQ (AI b0' @List.length_map.{0, 0}) ?_
    exact Fin.oneP
  have b0' : ¬ (u.funcs.length : Int) = 0 := by omega
  rw [if_neg b0]
  refine wG Y18_CQ (AI b0' @List.length_map.{0, 0}) ?_
  refine AR.callW h1 True.intro (AI (@exL_id) (AI (@vaL_id) (AI (@exV_id) (AI (@vaV_id) (AI tsL_id (AI ndLs_id (AI nlVs_id (AI ndV_id (AI plVs_id (AI plV_id (AI scL_id (AI fnL_id (AI unV_id fnV_id))))))))))))) ?_
  by_cases b1 : vErr [] u.globals = 0
  case neg =>
    rw [if_pos b1]
    refine goG Y18_CQ b1 ?_
    refine wG Y18_CQ b1 ?_
    exact Fin.oneP
  rw [if_neg (by simp [b1]), b1]
  refine goG Y18_CQ True.intro ?_
  refine wG Y18_CQ True.intro ?_
  refine AR.callP h2 True.intro (AI (@exL_id) (AI (@vaL_id) (AI (@exV_id) (AI (@vaV_id) (AI tsL_id (AI ndLs_id (AI nlVs_id (AI ndV_id (AI plVs_id (AI plV_id (AI scL_id (AI fnL_id (AI unV_id fnV_id))))))))))))) ?_
  by_cases b2 : dErr [] u.data = 0
  case neg =>
    rw [if_pos b2]
    refine goG Y18_CQ b2 ?_
    refine wG Y18_CQ b2 ?_
    exact Fin.oneP
  rw [if_neg (by simp [b2]), b2]
  refine goG Y18_CQ True.intro ?_
  refine wG Y18_CQ @List.length_map.{0, 0} ?_
  refine AWp.loop ?_
  refine ALp.ghost 5 [] .nl 9 1 ?_
  refine ALp.cutP 2 [(1, .pt 0 0), (5, .sl (((u.funcs.take (0)).map Fun.name).map tsV) (.own 1)), (44, .sl (u.funcs.map fnV) .ro), (45, (.im (.int .i64 (u.funcs.length)))), (46, (.im (.int .i64 ((((0 : Nat)) : Int)))))] [.box [.sl (u.globals.map vaV) .ro, .sl (u.data.map scV) .ro, .sl (u.funcs.map fnV) .ro], .tip 9 1 ((u.funcs.take (0)).map Fun.name).length] (AI (@exL_id) (AI (@vaL_id) (AI (@exV_id) (AI (@vaV_id) (AI tsL_id (AI ndLs_id (AI nlVs_id (AI ndV_id (AI plVs_id (AI plV_id (AI scL_id (AI fnL_id (AI unV_id fnV_id))))))))))))) ?_
  refine ALp.upto u.funcs.length (fun m => fnE ((u.funcs.take (m)).map Fun.name) (u.funcs.drop m) = fnE [] u.funcs) (fun m => ⟨dn 79 [(1, .pt 0 0), (5, .sl (((u.funcs.take (m)).map Fun.name).map tsV) (.own 1)), (44, .sl (u.funcs.map fnV) .ro), (45, (.im (.int .i64 (u.funcs.length)))), (46, (.im (.int .i64 ((((m : Nat)) : Int)))))], ofl [.box [.sl (u.globals.map vaV) .ro, .sl (u.data.map scV) .ro, .sl (u.funcs.map fnV) .ro], .tip 9 1 ((u.funcs.take (m)).map Fun.name).length]⟩) ?_ 0 (Nat.zero_le _) rfl
  intro m hm hV hnext
  by_cases hlt : m < u.funcs.length
  · have hlt' : (m : Int) < (u.funcs.length : Int) := by omega
    have hm1 := wrap_succ hlt (by omega)
    have hg := get_some hlt
    have hf := hu.fn _ (List.getElem_mem hlt)
    have h3 := c_name u.funcs[m].name hf.nm
    have hnl : ((u.funcs.take (m)).map Fun.name).length = m := by rw [List.length_map, List.length_take]; omega
    have h4 := c_containsT ((u.funcs.take (m)).map Fun.name) (by omega) u.funcs[m].name
    have hn2 := hnext (m + 1) (by omega) (by omega)
    rw [fnE_step hlt] at hV
    have hap : ((u.funcs.take (m)).map Fun.name).map tsV ++ [.im (.string u.funcs[m].name)] = ((u.funcs.take (m + 1)).map Fun.name).map tsV := by
      rw [List.map_map, List.map_map]; exact take_snoc (tsV ∘ Fun.name) hlt
    have hnl1 : ((u.funcs.take (m + 1)).map Fun.name).length = m + 1 := by rw [List.length_map, List.length_take]; omega
    have hln : ((u.funcs.take (m)).map Fun.name).length + 1 = ((u.funcs.take (m + 1)).map Fun.name).length := by omega
    have hA : ((u.funcs.take (m + 1)).map Fun.name).length * 16 ≤ 140737488355328 := by omega
    generalize ((u.funcs.take (m)).map Fun.name) = n0 at h4 hV hap hln ⊢
    generalize ((u.funcs.take (m + 1)).map Fun.name) = n1 at hV hap hln hA hn2 ⊢
    cases b3 : nameT u.funcs[m].name with
    | false =>
      rw [b3] at h3 hV
      simp only [Bool.not_false, if_true] at hV
      rw [← hV, if_pos (by decide)]
      refine wG Y18_CQ (AI hlt' (AI hg FU)) ?_
      refine AR.callP h3 True.intro (AI (@exL_id) (AI (@vaL_id) (AI (@exV_id) (AI (@vaV_id) (AI tsL_id (AI ndLs_id (AI nlVs_id (AI ndV_id (AI plVs_id (AI plV_id (AI scL_id (AI fnL_id (AI unV_id fnV_id))))))))))))) ?_
      refine goG Y18_CQ True.intro ?_
      refine wG Y18_CQ True.intro ?_
      exact Fin.oneP
    | true =>
    rw [b3] at h3 hV
    simp only [Bool.not_true, Bool.false_eq_true, if_false] at hV
    cases b4 : n0.any fun x => eqS u.funcs[m].name x with
    | true =>
      rw [b4] at h4 hV
      simp only [if_true] at hV
      rw [← hV, if_pos (by decide)]
      refine wG Y18_CQ (AI hlt' (AI hg FU)) ?_
      refine AR.callP h3 True.intro (AI (@exL_id) (AI (@vaL_id) (AI (@exV_id) (AI (@vaV_id) (AI tsL_id (AI ndLs_id (AI nlVs_id (AI ndV_id (AI plVs_id (AI plV_id (AI scL_id (AI fnL_id (AI unV_id fnV_id))))))))))))) ?_
      refine goG Y18_CQ True.intro ?_
      refine wG Y18_CQ True.intro ?_
      refine AR.callW h4 True.intro (AI (@exL_id) (AI (@vaL_id) (AI (@exV_id) (AI (@vaV_id) (AI tsL_id (AI ndLs_id (AI nlVs_id (AI ndV_id (AI plVs_id (AI plV_id (AI scL_id (AI fnL_id (AI unV_id fnV_id))))))))))))) ?_
      refine goG Y18_CQ True.intro ?_
      refine wG Y18_CQ True.intro ?_
      exact Fin.oneP
    | false =>
      rw [b4] at h4 hV
      simp only [Bool.false_eq_true, if_false] at hV
      refine wG Y18_CQ (AI hlt' (AI hg FU)) ?_
      refine AR.callP h3 True.intro (AI (@exL_id) (AI (@vaL_id) (AI (@exV_id) (AI (@vaV_id) (AI tsL_id (AI ndLs_id (AI nlVs_id (AI ndV_id (AI plVs_id (AI plV_id (AI scL_id (AI fnL_id (AI unV_id fnV_id))))))))))))) ?_
      refine goG Y18_CQ True.intro ?_
      refine wG Y18_CQ True.intro ?_
      refine AR.callW h4 True.intro (AI (@exL_id) (AI (@vaL_id) (AI (@exV_id) (AI (@vaV_id) (AI tsL_id (AI ndLs_id (AI nlVs_id (AI ndV_id (AI plVs_id (AI plV_id (AI scL_id (AI fnL_id (AI unV_id fnV_id))))))))))))) ?_
      refine goG Y18_CQ True.intro ?_
      refine wG Y18_CQ (AI hap (AI hln (AI hA (AI hm1 @List.length_map.{0, 0})))) ?_
      refine ALp.cutP 2 [(1, .pt 0 0), (5, .sl (n1.map tsV) (.own 1)), (44, .sl (u.funcs.map fnV) .ro), (45, (.im (.int .i64 (u.funcs.length)))), (46, (.im (.int .i64 ((((m + 1 : Nat)) : Int)))))] [.box [.sl (u.globals.map vaV) .ro, .sl (u.data.map scV) .ro, .sl (u.funcs.map fnV) .ro], .tip 9 1 n1.length] (AI (@exL_id) (AI (@vaL_id) (AI (@exV_id) (AI (@vaV_id) (AI tsL_id (AI ndLs_id (AI nlVs_id (AI ndV_id (AI plVs_id (AI plV_id (AI scL_id (AI fnL_id (AI unV_id fnV_id))))))))))))) ?_
      exact hn2 hV
  obtain rfl : m = u.funcs.length := by omega
  clear hnext
  rw [List.take_length, List.drop_length] at hV
  have hV : fnE [] u.funcs = 0 := by rw [← hV]; cases u.funcs.map Fun.name <;> rfl
  rw [if_neg (by simp [hV]), List.take_length]
  have hfn : (u.funcs.map Fun.name).length ≤ 4194304 := by rw [List.length_map]; exact hfl
  generalize u.funcs.map Fun.name = fs at hfn ⊢
  refine whG Y18_CQ @Int.lt_irrefl ?_
  refine Blk'.here (Thn.n ?_)
  refine wG Y18_CQ @List.length_map.{0, 0} ?_
  refine AWp.loop ?_
  refine ALp.cutP 2 [(1, .pt 0 0), (5, .sl (fs.map tsV) (.own 1)), (65, .sl (u.funcs.map fnV) .ro), (66, (.im (.int .i64 (u.funcs.length)))), (67, (.im (.int .i64 ((((0 : Nat)) : Int)))))] [.box [.sl (u.globals.map vaV) .ro, .sl (u.data.map scV) .ro, .sl (u.funcs.map fnV) .ro], .tip 9 1 fs.length] (AI (@exL_id) (AI (@vaL_id) (AI (@exV_id) (AI (@vaV_id) (AI tsL_id (AI ndLs_id (AI nlVs_id (AI ndV_id (AI plVs_id (AI plV_id (AI scL_id (AI fnL_id (AI unV_id fnV_id))))))))))))) ?_
  refine ALp.upto u.funcs.length (fun m => bdE u.globals fs (u.funcs.drop m) = bdE u.globals fs u.funcs) (fun m => ⟨dn 79 [(1, .pt 0 0), (5, .sl (fs.map tsV) (.own 1)), (65, .sl (u.funcs.map fnV) .ro), (66, (.im (.int .i64 (u.funcs.length)))), (67, (.im (.int .i64 ((((m : Nat)) : Int)))))], ofl [.box [.sl (u.globals.map vaV) .ro, .sl (u.data.map scV) .ro, .sl (u.funcs.map fnV) .ro], .tip 9 1 fs.length]⟩) ?_ 0 (Nat.zero_le _) rfl
  intro m hm hV hnext
  rw [← hV]
  by_cases hlt : m < u.funcs.length
  · have hlt' : (m : Int) < (u.funcs.length : Int) := by omega
    have hm1 := wrap_succ hlt (by omega)
    have hg := get_some hlt
    have hf := hu.fn _ (List.getElem_mem hlt)
    have hb := c_body u u.funcs[m] fs hgl hf.vl hf.vn hf.bd hf.ct hfn
    have hd : u.funcs.drop m = u.funcs[m] :: u.funcs.drop (m + 1) := List.drop_eq_getElem_cons hlt
    rw [hd] at hV ⊢
    have hs : bdE u.globals fs (u.funcs[m] :: u.funcs.drop (m + 1)) = if bodyE u.globals u.funcs[m] fs = 0 then bdE u.globals fs (u.funcs.drop (m + 1)) else bodyE u.globals u.funcs[m] fs := rfl
    rw [hs] at hV ⊢
    by_cases b : bodyE u.globals u.funcs[m] fs = 0
    · rw [if_pos b] at hV ⊢
      rw [b] at hb
      refine wG Y18_CQ (AI hlt' (AI hg FU)) ?_
      refine AR.callW hb (AI unV_eq fnV_eq) (AI (@exL_id) (AI (@vaL_id) (AI (@exV_id) (AI (@vaV_id) (AI tsL_id (AI ndLs_id (AI nlVs_id (AI ndV_id (AI plVs_id (AI plV_id (AI scL_id (AI fnL_id (AI unV_id fnV_id))))))))))))) ?_
      refine goG Y18_CQ True.intro ?_
      refine wG Y18_CQ hm1 ?_
      refine ALp.cutP 2 [(1, .pt 0 0), (5, .sl (fs.map tsV) (.own 1)), (65, .sl (u.funcs.map fnV) .ro), (66, (.im (.int .i64 (u.funcs.length)))), (67, (.im (.int .i64 ((((m + 1 : Nat)) : Int)))))] [.box [.sl (u.globals.map vaV) .ro, .sl (u.data.map scV) .ro, .sl (u.funcs.map fnV) .ro], .tip 9 1 fs.length] (AI (@exL_id) (AI (@vaL_id) (AI (@exV_id) (AI (@vaV_id) (AI tsL_id (AI ndLs_id (AI nlVs_id (AI ndV_id (AI plVs_id (AI plV_id (AI scL_id (AI fnL_id (AI unV_id fnV_id))))))))))))) ?_
      rw [hV]
      exact hnext (m + 1) (by omega) (by omega) hV
    · rw [if_neg b]
      refine wG Y18_CQ (AI hlt' (AI hg FU)) ?_
      refine AR.callW hb (AI unV_eq fnV_eq) (AI (@exL_id) (AI (@vaL_id) (AI (@exV_id) (AI (@vaV_id) (AI tsL_id (AI ndLs_id (AI nlVs_id (AI ndV_id (AI plVs_id (AI plV_id (AI scL_id (AI fnL_id (AI unV_id fnV_id))))))))))))) ?_
      refine goG Y18_CQ b ?_
      refine wG Y18_CQ b ?_
      exact Fin.oneP
  obtain rfl : m = u.funcs.length := by omega
  clear hnext
  rw [List.drop_length]
  refine wG Y18_CQ @Int.lt_irrefl ?_
  exact Fin.oneP
end Go.Proofs.YtfggemopnlffeaaGreat
