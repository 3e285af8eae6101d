import Derived.Test.YtfggemopnlffeaaGreatHv
import Derived.Test.YtfggemopnlffeaaGreatCO
namespace Go.Proofs.YtfggemopnlffeaaGreat
set_option linter.unusedSimpArgs false
set_option linter.unusedVariables false
set_option linter.unnecessarySimpa false
open Go.RowKit
def labs (l : List (Nd × Bool)) : List ByteArray := l.flatMap fun p => if p.1.kind == 13 then [p.1.name] else []
theorem labs_step {l : List (Nd × Bool)} {m : Nat} (h : m < l.length) : labs (l.take (m + 1)) = if l[m].1.kind == 13 then labs (l.take m) ++ [l[m].1.name] else labs (l.take m) := by
  unfold labs
  rw [← flatMap_snoc _ h]
  split <;> simp
def runS (vs : List Va) (fs ls : List ByteArray) : List ByteArray → List (Nd × Bool) → Int
  | _, [] => 0
  | sn, p :: r => if chk1 vs fs ls sn p = 0 then runS vs fs ls (nxt sn p) r else chk1 vs fs ls sn p
theorem runS_cons (vs : List Va) (fs ls sn : List ByteArray) (p : Nd × Bool) (r : List (Nd × Bool)) : runS vs fs ls sn (p :: r) = if chk1 vs fs ls sn p = 0 then runS vs fs ls (nxt sn p) r else chk1 vs fs ls sn p := rfl
def seenS : List ByteArray → List (Nd × Bool) → List ByteArray
  | sn, [] => sn
  | sn, p :: r => seenS (nxt sn p) r
theorem seenS_append (sn : List ByteArray) (a b : List (Nd × Bool)) : seenS sn (a ++ b) = seenS (seenS sn a) b := by
  induction a generalizing sn with
  | nil => rfl
  | cons x a ih => exact ih _
theorem seenS_len (sn : List ByteArray) (l : List (Nd × Bool)) : (seenS sn l).length ≤ sn.length + l.length := by
  induction l generalizing sn with
  | nil => exact Nat.le_refl _
  | cons x l ih =>
    have := ih (nxt sn x)
    have h2 : (nxt sn x).length ≤ sn.length + 1 := by unfold nxt; split <;> simp
    simp only [seenS, List.length_cons]
    omega
theorem labs_len (l : List (Nd × Bool)) : (labs l).length ≤ l.length := by
  induction l with
  | nil => exact Nat.le_refl _
  | cons x l ih =>
    unfold labs at ih ⊢
    rw [List.flatMap_cons, List.length_append, List.length_cons]
    have : (if x.1.kind == 13 then [x.1.name] else []).length ≤ 1 := by split <;> simp
    omega
theorem all_fit : ∀ (l : List Nd), fitNL l → ∀ lp, ∀ p ∈ allL l lp, fitN p.1 := by
  refine subs_induct fun l hl hf lp p hp => ?_
  obtain ⟨t, ht, hp⟩ := List.mem_flatMap.1 hp
  rw [allT_eq] at hp
  rcases List.mem_cons.1 hp with rfl | hp
  · exact hf.2 t ht
  · obtain ⟨c, hc, hp⟩ := List.mem_flatMap.1 hp
    exact hl t ht c hc ((fit_subs (hf.2 t ht)).2 c hc) _ p hp
def bodyE (gs : List Va) (f : Fun) (fs : List ByteArray) : Int :=
  if 256 < gs.length + f.vars.length then 6 else if vErr gs f.vars ≠ 0 then vErr gs f.vars else if 64 < dep f.body then 20 else if 1024 < cnt f.body then 6 else runS (gs ++ f.vars) fs (labs (allL f.body false)) [] (allL f.body false)
theorem plV_ren (g : Nat → Nat) (x : Nd × Bool) : V.ren g (plV x) = plV x := V.ren_id g _ (plV_id _ x)
theorem PL : type_of% (AI @plV_firm (AI @plV_strip (AI @plV_live (AI @plV_size (AI @plV_isAg (AI @plV_cells (AI @List.getElem?_map.{0, 0} @Int.natCast_nonneg))))))) :=
  AI @plV_firm (AI @plV_strip (AI @plV_live (AI @plV_size (AI @plV_isAg (AI @plV_cells (AI @List.getElem?_map.{0, 0} @Int.natCast_nonneg))))))
theorem fnV_eq (f : Fun) : fnV f = .ag [.im (.string f.name), .sl (f.vars.map vaV) .ro, .sl (f.body.map ndV) .ro] := rfl
theorem fnV_id (p : Nat → Bool) (f : Fun) : (fnV f).ids p = true := by simp [fnV, V.ids, V.idsL, vaL_id, ndLs_id]
theorem fnL_id (p : Nat → Bool) (l : List Fun) : V.idsL p (l.map fnV) = true := idsL_map (fnV_id p) l
theorem unV_eq (u : Un) : unV u = .ag [.sl (u.globals.map vaV) .ro, .sl (u.data.map scV) .ro, .sl (u.funcs.map fnV) .ro] := rfl
theorem Y38_CP : type_of% (AI @F_ag_104 (AI @F_ag_22 (AI @F_ag_29 (AI @F_ag_3 (AI @F_ag_35 (AI @F_ag_59 (AI @F_ag_9 (AI @F_al_102 (AI @F_al_104 (AI @F_al_22 (AI @F_al_9 (AI @F_by_9 (AI @F_el_126 (AI @F_el_22 (AI @F_el_29 (AI @F_el_97 (AI @F_fl_102_2 (AI @F_fl_104_0 (AI @F_fl_26_0 (AI @F_fl_37_1 (AI @F_fl_37_2 (AI @F_fl_59_0 (AI @F_fl_59_2 (AI @F_st_102 (AI @F_sz_104 (AI @F_sz_22 (AI @F_sz_29 (AI @F_sz_3 (AI @F_sz_35 (AI @F_sz_44 (AI @F_sz_59 (@F_sz_9)))))))))))))))))))))))))))))))) := AI @F_ag_104 (AI @F_ag_22 (AI @F_ag_29 (AI @F_ag_3 (AI @F_ag_35 (AI @F_ag_59 (AI @F_ag_9 (AI @F_al_102 (AI @F_al_104 (AI @F_al_22 (AI @F_al_9 (AI @F_by_9 (AI @F_el_126 (AI @F_el_22 (AI @F_el_29 (AI @F_el_97 (AI @F_fl_102_2 (AI @F_fl_104_0 (AI @F_fl_26_0 (AI @F_fl_37_1 (AI @F_fl_37_2 (AI @F_fl_59_0 (AI @F_fl_59_2 (AI @F_st_102 (AI @F_sz_104 (AI @F_sz_22 (AI @F_sz_29 (AI @F_sz_3 (AI @F_sz_35 (AI @F_sz_44 (AI @F_sz_59 (@F_sz_9)))))))))))))))))))))))))))))))
set_option maxHeartbeats 2000000 in
theorem c_body (u : Un) (f : Fun) (fs : List ByteArray) (hg : u.globals.length ≤ 2097152) (hv : f.vars.length ≤ 2097152) (hvn : fitVN f.vars) (hb : fitNL f.body) (hc : cnt f.body ≤ 4194304) (hfs : fs.length ≤ 4194304) :
    PC Tryz.prog 38 [unV u, fnV f, .sl (fs.map tsV) .ro] (.im (.int .i64 (bodyE u.globals f fs))) := by
  have h1 := c_variablesE u.globals f.vars (by omega) hvn
  have h2 := c_depth f.body hb hc
  have h3 := c_all f.body hb hc false
  have hlen := allL_len f.body false
  have hw : IntKind.i64.wrap ((u.globals.length : Int) + (f.vars.length : Int)) = (u.globals.length : Int) + (f.vars.length : Int) := wrap_in (by omega)
  unfold bodyE
  refine PC.enter 87 Tryz.func38 rfl (by decide) rfl rfl (s := [(0, unV u), (1, fnV f), (2, .sl (fs.map tsV) .ro)]) (by rfl) ?_
  simp only [unV_eq, fnV_eq]
  by_cases b1 : 256 < u.globals.length + f.vars.length
  · have b1' : (256 : Int) < (u.globals.length : Int) + (f.vars.length : Int) := by omega
    rw [if_pos b1]
    refine wG Y38_CP (AI hw (AI b1' @List.length_map.{0, 0})) ?_
    exact Fin.oneP
  have b1' : ¬ (256 : Int) < (u.globals.length : Int) + (f.vars.length : Int) := by omega
  rw [if_neg b1]
  refine wG Y38_CP (AI hw (AI b1' @List.length_map.{0, 0})) ?_
  refine AR.callP h1 True.intro (AI (@exL_id) (AI (@vaL_id) (AI (@exV_id) (AI (@vaV_id) (AI tsL_id (AI ndLs_id (AI nlVs_id (AI ndV_id (AI plVs_id (AI plV_id (AI scL_id fnL_id))))))))))) ?_
  by_cases b2 : vErr u.globals f.vars = 0
  case neg =>
    rw [if_pos b2]
    refine goG Y38_CP b2 ?_
    refine wG Y38_CP b2 ?_
    exact Fin.oneP
  rw [if_neg (by simp [b2])]
  rw [b2]
  refine goG Y38_CP True.intro ?_
  refine wG Y38_CP True.intro ?_
  refine AR.callP h2 True.intro (AI (@exL_id) (AI (@vaL_id) (AI (@exV_id) (AI (@vaV_id) (AI tsL_id (AI ndLs_id (AI nlVs_id (AI ndV_id (AI plVs_id (AI plV_id (AI scL_id fnL_id))))))))))) ?_
  by_cases b3 : 64 < dep f.body
  · rw [if_pos b3]
    refine goG Y38_CP b3 ?_
    refine wG Y38_CP b3 ?_
    exact Fin.oneP
  rw [if_neg b3]
  refine goG Y38_CP b3 ?_
  refine wG Y38_CP b3 ?_
  refine AR.callP h3 True.intro (AI (@exL_id) (AI (@vaL_id) (AI (@exV_id) (AI (@vaV_id) (AI tsL_id (AI ndLs_id (AI nlVs_id (AI ndV_id (AI plVs_id (AI plV_id (AI scL_id fnL_id))))))))))) ?_
  by_cases b4 : 1024 < cnt f.body
  · have b4' : (1024 : Int) < (cnt f.body : Int) := by omega
    rw [if_pos b4]
    refine goG Y38_CP True.intro ?_
    refine wG Y38_CP (AI b4' (AI (@List.length_map.{0, 0}) hlen)) ?_
    exact Fin.oneP
  have b4' : ¬ (1024 : Int) < (cnt f.body : Int) := by omega
  rw [if_neg b4]
  refine goG Y38_CP True.intro ?_
  refine wG Y38_CP (AI b4' (AI (@List.length_map.{0, 0}) hlen)) ?_
  have h4 := c_concatV (xss := [u.globals.map vaV, f.vars.map vaV]) (by simp) (by
    intro xs hx
    simp only [List.mem_cons, List.not_mem_nil, or_false] at hx
    rcases hx with rfl | rfl
    · exact vaL_all _
    · exact vaL_all _) (by
    intro p xs hx
    simp only [List.mem_cons, List.not_mem_nil, or_false] at hx
    rcases hx with rfl | rfl
    · exact vaL_id _ _
    · exact vaL_id _ _) (by simp; omega)
  have e1 : [u.globals.map vaV, f.vars.map vaV].flatten = (u.globals ++ f.vars).map vaV := by simp
  rw [e1] at h4
  simp only [List.map_cons, List.map_nil] at h4
  have h5 := c_among (u.globals ++ f.vars)
  have hvs : (u.globals ++ f.vars).length ≤ 4194304 := by rw [List.length_append]; omega
  generalize u.globals ++ f.vars = vs at h4 h5 hvs ⊢
  have hfa := all_fit f.body hb false
  have hlb := labs_len (allL f.body false)
  generalize allL f.body false = its at h3 hlen hfa hlb ⊢
  refine AR.callW h4 True.intro (AI (@exL_id) (AI (@vaL_id) (AI (@exV_id) (AI (@vaV_id) (AI tsL_id (AI ndLs_id (AI nlVs_id (AI ndV_id (AI plVs_id (AI plV_id (AI scL_id fnL_id))))))))))) ?_
  refine goG Y38_CP True.intro ?_
  refine AR.callS [2] h5 rfl rfl (by first | (simp only [SR, exV_ren, exL_ren, vaV_ren, vaL_ren, tsL_ren, ndLs_ren, nlVs_ren, ndV_ren, plV_ren]; done) | (simp only [SR, exV_ren, exL_ren, vaV_ren, vaL_ren, tsL_ren, ndLs_ren, nlVs_ren, ndV_ren, plV_ren]; with_reducible exact rfl)) (by first | (simp only [SR, exV_ren, exL_ren, vaV_ren, vaL_ren, tsL_ren, ndLs_ren, nlVs_ren, ndV_ren, plV_ren]; done) | (simp only [SR, exV_ren, exL_ren, vaV_ren, vaL_ren, tsL_ren, ndLs_ren, nlVs_ren, ndV_ren, plV_ren]; with_reducible exact rfl)) (WkL.of_eq (by simp only [St.ev, V.ofVal, V.ofCell, V.size_im, getD_dn, look_cons, look_nil, Nat.reduceLT, Nat.reduceEqDiff, reduceIte, if_true, if_false, List.map_cons, List.map_nil, List.nil_append, List.cons_append, List.append_nil])) (by first | rfl | simp only [List.length_cons, List.length_nil, Nat.reduceAdd, V.ids, V.idsL, idsA, entOk, List.all_cons, List.all_nil, Bool.and_self, Bool.and_true, Bool.true_and, ltB, noId, Nat.reduceLT, decide_true, Bool.true_eq_false, tyV_id, fdV_id, tyL_id, fdL_id, exL_id, vaL_id, exV_id, vaV_id, tsL_id, ndLs_id, nlVs_id, ndV_id, plVs_id, plV_id, scL_id, fnL_id]) rfl rfl rfl (by first | rfl | simp only [List.length_cons, List.length_nil, Nat.reduceAdd, V.ids, V.idsL, idsA, entOk, List.all_cons, List.all_nil, Bool.and_self, Bool.and_true, Bool.true_and, ltB, noId, Nat.reduceLT, decide_true, Bool.true_eq_false, tyV_id, fdV_id, tyL_id, fdL_id, exL_id, vaL_id, exV_id, vaV_id, tsL_id, ndLs_id, nlVs_id, ndV_id, plVs_id, plV_id, scL_id, fnL_id]) (by intro p hp; simp only [renE, SR, Ent.ren, List.mem_cons, List.not_mem_nil, or_false, exV_ren, exL_ren, vaV_ren, vaL_ren, tsL_ren, ndLs_ren, nlVs_ren, ndV_ren, plV_ren] at hp; rcases hp with rfl <;> rfl) (by simp only [renE, Ent.ren, SR, exV_ren, exL_ren, vaV_ren, vaL_ren, tsL_ren, ndLs_ren, nlVs_ren, ndV_ren, plV_ren, wrl, putE, SC, SD, Nat.reduceBEq, Nat.reduceLT, Nat.reduceSub, Nat.reduceAdd, Nat.reduceMul, Nat.reduceLeDiff, Nat.reduceEqDiff, reduceCtorEq, Int.reduceLT, Int.reduceLE, Int.reduceEq, Int.reduceNe, Int.reduceBEq, Int.reduceBNe, Int.reduceAdd, Int.reduceSub, Int.reduceMul, Int.reduceToNat]; with_reducible exact rfl) ?_
  refine goG Y38_CP True.intro ?_
  refine wG Y38_CP @List.length_map.{0, 0} ?_
  rw [← hlen] at b4
  clear h1 h2 h3 h4 h5 hw b1 b1' b2 b3 b4' hlen hvn
  refine AWp.loop ?_
  refine ALp.ghostB 3 2 [(V.fn (.func 90) [] [.pt 2 0]), .sl (fs.map tsV) .ro, .sl [] .nl, .sl [] .nl] 9 1 ?_
  have hlbl : ∀ m, (labs (its.take m)).length ≤ its.length := fun m => by
    have := labs_len (its.take m)
    rw [List.length_take] at this
    omega
  refine ALp.cutP 5 [(8, .sl (its.map plV) .ro), (9, .pt 3 0), (51, .sl (its.map plV) .ro), (52, (.im (.int .i64 (its.length)))), (53, (.im (.int .i64 ((((0 : Nat)) : Int)))))] [.box [.sl (u.globals.map vaV) .ro, .sl (u.data.map scV) .ro, .sl (u.funcs.map fnV) .ro], .box [.im (.string f.name), .sl (f.vars.map vaV) .ro, .sl (f.body.map ndV) .ro], .box [.sl (vs.map vaV) .ro], .box [(V.fn (.func 90) [] [.pt 2 0]), .sl (fs.map tsV) .ro, .sl ((labs (its.take (0))).map tsV) (.own 4), .sl [] .nl], .tip 9 1 (labs (its.take (0))).length] (AI (@exL_id) (AI (@vaL_id) (AI (@exV_id) (AI (@vaV_id) (AI tsL_id (AI ndLs_id (AI nlVs_id (AI ndV_id (AI plVs_id (AI plV_id (AI scL_id fnL_id))))))))))) ?_
  refine ALp.upto its.length (fun _ => True) (fun m => ⟨dn 87 [(8, .sl (its.map plV) .ro), (9, .pt 3 0), (51, .sl (its.map plV) .ro), (52, (.im (.int .i64 (its.length)))), (53, (.im (.int .i64 ((((m : Nat)) : Int)))))], ofl [.box [.sl (u.globals.map vaV) .ro, .sl (u.data.map scV) .ro, .sl (u.funcs.map fnV) .ro], .box [.im (.string f.name), .sl (f.vars.map vaV) .ro, .sl (f.body.map ndV) .ro], .box [.sl (vs.map vaV) .ro], .box [(V.fn (.func 90) [] [.pt 2 0]), .sl (fs.map tsV) .ro, .sl ((labs (its.take (m))).map tsV) (.own 4), .sl [] .nl], .tip 9 1 (labs (its.take (m))).length]⟩) ?_ 0 (Nat.zero_le _) trivial
  intro m hm _ hnext
  by_cases hlt : m < its.length
  · have hlt' : (m : Int) < (its.length : Int) := by omega
    have hm1 := wrap_succ hlt (by omega)
    have hg := get_some hlt
    have hst := labs_step hlt
    by_cases k13 : its[m].1.kind = 13
    · rw [if_pos (by simp [k13])] at hst
      have hap : (labs (its.take m)).map tsV ++ [.im (.string its[m].1.name)] = (labs (its.take (m + 1))).map tsV := by rw [hst]; simp [tsV]
      have hln : (labs (its.take m)).length + 1 = (labs (its.take (m + 1))).length := by rw [hst]; simp
      have hA : (labs (its.take (m + 1))).length * 16 ≤ 140737488355328 := by have := hlbl (m + 1); omega
      clear hst
      refine wdG Y38_CP (AI hlt' (AI hg (AI k13 (AI hap (AI hln (AI hA (AI hm1 (AI (@List.length_map.{0, 0}) PL)))))))) ?_
      refine ALp.cutP 5 [(8, .sl (its.map plV) .ro), (9, .pt 3 0), (51, .sl (its.map plV) .ro), (52, (.im (.int .i64 (its.length)))), (53, (.im (.int .i64 ((((m + 1 : Nat)) : Int)))))] [.box [.sl (u.globals.map vaV) .ro, .sl (u.data.map scV) .ro, .sl (u.funcs.map fnV) .ro], .box [.im (.string f.name), .sl (f.vars.map vaV) .ro, .sl (f.body.map ndV) .ro], .box [.sl (vs.map vaV) .ro], .box [(V.fn (.func 90) [] [.pt 2 0]), .sl (fs.map tsV) .ro, .sl ((labs (its.take (m + 1))).map tsV) (.own 4), .sl [] .nl], .tip 9 1 (labs (its.take (m + 1))).length] (AI (@exL_id) (AI (@vaL_id) (AI (@exV_id) (AI (@vaV_id) (AI tsL_id (AI ndLs_id (AI nlVs_id (AI ndV_id (AI plVs_id (AI plV_id (AI scL_id fnL_id))))))))))) ?_
      exact hnext (m + 1) (by omega) (by omega) trivial
    · rw [if_neg (by simp [k13])] at hst
      refine wdG Y38_CP (AI hlt' (AI hg (AI k13 (AI hm1 PL)))) ?_
      rw [← hst]
      refine ALp.cutP 5 [(8, .sl (its.map plV) .ro), (9, .pt 3 0), (51, .sl (its.map plV) .ro), (52, (.im (.int .i64 (its.length)))), (53, (.im (.int .i64 ((((m + 1 : Nat)) : Int)))))] [.box [.sl (u.globals.map vaV) .ro, .sl (u.data.map scV) .ro, .sl (u.funcs.map fnV) .ro], .box [.im (.string f.name), .sl (f.vars.map vaV) .ro, .sl (f.body.map ndV) .ro], .box [.sl (vs.map vaV) .ro], .box [(V.fn (.func 90) [] [.pt 2 0]), .sl (fs.map tsV) .ro, .sl ((labs (its.take (m + 1))).map tsV) (.own 4), .sl [] .nl], .tip 9 1 (labs (its.take (m + 1))).length] (AI (@exL_id) (AI (@vaL_id) (AI (@exV_id) (AI (@vaV_id) (AI tsL_id (AI ndLs_id (AI nlVs_id (AI ndV_id (AI plVs_id (AI plV_id (AI scL_id fnL_id))))))))))) ?_
      exact hnext (m + 1) (by omega) (by omega) trivial
  obtain rfl : m = its.length := by omega
  clear hnext hlbl
  rw [List.take_length]
  refine whG Y38_CP @Int.lt_irrefl ?_
  refine Blk'.here (Thn.n ?_)
  generalize labs its = ls at hlb ⊢
  refine wG Y38_CP @List.length_map.{0, 0} ?_
  refine AWp.loop ?_
  refine ALp.ghostB 3 3 [(V.fn (.func 90) [] [.pt 2 0]), .sl (fs.map tsV) .ro, .sl (ls.map tsV) (.own 4), .sl [] .nl] 9 1 ?_
  refine ALp.cutP 6 [(9, .pt 3 0), (74, .sl (its.map plV) .ro), (75, (.im (.int .i64 (its.length)))), (76, (.im (.int .i64 ((((0 : Nat)) : Int)))))] [.box [.sl (u.globals.map vaV) .ro, .sl (u.data.map scV) .ro, .sl (u.funcs.map fnV) .ro], .box [.im (.string f.name), .sl (f.vars.map vaV) .ro, .sl (f.body.map ndV) .ro], .box [.sl (vs.map vaV) .ro], .box [(V.fn (.func 90) [] [.pt 2 0]), .sl (fs.map tsV) .ro, .sl (ls.map tsV) (.own 4), .sl ((seenS [] (its.take (0))).map tsV) (.own 5)], .tip 9 1 ls.length, .tip 9 1 (seenS [] (its.take (0))).length] (AI (@exL_id) (AI (@vaL_id) (AI (@exV_id) (AI (@vaV_id) (AI tsL_id (AI ndLs_id (AI nlVs_id (AI ndV_id (AI plVs_id (AI plV_id (AI scL_id fnL_id))))))))))) ?_
  refine ALp.upto its.length (fun m => runS vs fs ls (seenS [] (its.take m)) (its.drop m) = runS vs fs ls [] its) (fun m => ⟨dn 87 [(9, .pt 3 0), (74, .sl (its.map plV) .ro), (75, (.im (.int .i64 (its.length)))), (76, (.im (.int .i64 ((((m : Nat)) : Int)))))], ofl [.box [.sl (u.globals.map vaV) .ro, .sl (u.data.map scV) .ro, .sl (u.funcs.map fnV) .ro], .box [.im (.string f.name), .sl (f.vars.map vaV) .ro, .sl (f.body.map ndV) .ro], .box [.sl (vs.map vaV) .ro], .box [(V.fn (.func 90) [] [.pt 2 0]), .sl (fs.map tsV) .ro, .sl (ls.map tsV) (.own 4), .sl ((seenS [] (its.take (m))).map tsV) (.own 5)], .tip 9 1 ls.length, .tip 9 1 (seenS [] (its.take (m))).length]⟩) ?_ 0 (Nat.zero_le _) rfl
  intro m hm hV hnext
  rw [← hV]
  by_cases hlt : m < its.length
  · have hlt' : (m : Int) < (its.length : Int) := by omega
    have hm1 := wrap_succ hlt (by omega)
    have hg := get_some hlt
    have hsl := seenS_len [] (its.take m)
    rw [List.length_take] at hsl
    simp only [List.length_nil] at hsl
    have hsn : nxt (seenS [] (its.take m)) its[m] = seenS [] (its.take (m + 1)) := by
      rw [List.take_succ_eq_append_getElem hlt, seenS_append]; rfl
    have hc := c_checkS vs hvs fs ls (seenS [] (its.take m)) hfs (by omega) (by omega) its[m] (hfa _ (List.getElem_mem hlt))
    have hd : its.drop m = its[m] :: its.drop (m + 1) := List.drop_eq_getElem_cons hlt
    rw [hd] at hV ⊢
    rw [runS_cons] at hV ⊢
    by_cases b : chk1 vs fs ls (seenS [] (its.take m)) its[m] = 0
    · rw [if_pos b] at hV ⊢
      rw [b, if_pos rfl, hsn] at hc
      rw [hsn] at hV ⊢
      refine wG Y38_CP (AI hlt' (AI hg PL)) ?_
      refine AR.callS [3, 2, 4, 5] hc rfl rfl (by first | (simp only [SR, exV_ren, exL_ren, vaV_ren, vaL_ren, tsL_ren, ndLs_ren, nlVs_ren, ndV_ren, plV_ren]; done) | (simp only [SR, exV_ren, exL_ren, vaV_ren, vaL_ren, tsL_ren, ndLs_ren, nlVs_ren, ndV_ren, plV_ren]; with_reducible exact rfl)) (by first | (simp only [SR, exV_ren, exL_ren, vaV_ren, vaL_ren, tsL_ren, ndLs_ren, nlVs_ren, ndV_ren, plV_ren]; done) | (simp only [SR, exV_ren, exL_ren, vaV_ren, vaL_ren, tsL_ren, ndLs_ren, nlVs_ren, ndV_ren, plV_ren]; with_reducible exact rfl)) (WkL.of_eq (by simp only [St.ev, V.ofVal, V.ofCell, V.size_im, getD_dn, look_cons, look_nil, Nat.reduceLT, Nat.reduceEqDiff, reduceIte, if_true, if_false, List.map_cons, List.map_nil, List.nil_append, List.cons_append, List.append_nil, plV_eq])) (by first | rfl | simp only [List.length_cons, List.length_nil, Nat.reduceAdd, V.ids, V.idsL, idsA, entOk, List.all_cons, List.all_nil, Bool.and_self, Bool.and_true, Bool.true_and, ltB, noId, Nat.reduceLT, decide_true, Bool.true_eq_false, tyV_id, fdV_id, tyL_id, fdL_id, exL_id, vaL_id, exV_id, vaV_id, tsL_id, ndLs_id, nlVs_id, ndV_id, plVs_id, plV_id, scL_id, fnL_id]) rfl rfl rfl (by first | rfl | simp only [List.length_cons, List.length_nil, Nat.reduceAdd, V.ids, V.idsL, idsA, entOk, List.all_cons, List.all_nil, Bool.and_self, Bool.and_true, Bool.true_and, ltB, noId, Nat.reduceLT, decide_true, Bool.true_eq_false, tyV_id, fdV_id, tyL_id, fdL_id, exL_id, vaL_id, exV_id, vaV_id, tsL_id, ndLs_id, nlVs_id, ndV_id, plVs_id, plV_id, scL_id, fnL_id]) (by intro p hp; simp only [renE, SR, Ent.ren, List.mem_cons, List.not_mem_nil, or_false, exV_ren, exL_ren, vaV_ren, vaL_ren, tsL_ren, ndLs_ren, nlVs_ren, ndV_ren, plV_ren] at hp; rcases hp with rfl | rfl | rfl | rfl <;> rfl) (by simp only [renE, Ent.ren, SR, exV_ren, exL_ren, vaV_ren, vaL_ren, tsL_ren, ndLs_ren, nlVs_ren, ndV_ren, plV_ren, wrl, putE, SC, SD, Nat.reduceBEq, Nat.reduceLT, Nat.reduceSub, Nat.reduceAdd, Nat.reduceMul, Nat.reduceLeDiff, Nat.reduceEqDiff, reduceCtorEq, Int.reduceLT, Int.reduceLE, Int.reduceEq, Int.reduceNe, Int.reduceBEq, Int.reduceBNe, Int.reduceAdd, Int.reduceSub, Int.reduceMul, Int.reduceToNat]; with_reducible exact rfl) ?_
      refine goG Y38_CP True.intro ?_
      refine wG Y38_CP hm1 ?_
      refine ALp.cutP 6 [(9, .pt 3 0), (74, .sl (its.map plV) .ro), (75, (.im (.int .i64 (its.length)))), (76, (.im (.int .i64 ((((m + 1 : Nat)) : Int)))))] [.box [.sl (u.globals.map vaV) .ro, .sl (u.data.map scV) .ro, .sl (u.funcs.map fnV) .ro], .box [.im (.string f.name), .sl (f.vars.map vaV) .ro, .sl (f.body.map ndV) .ro], .box [.sl (vs.map vaV) .ro], .box [(V.fn (.func 90) [] [.pt 2 0]), .sl (fs.map tsV) .ro, .sl (ls.map tsV) (.own 4), .sl ((seenS [] (its.take (m + 1))).map tsV) (.own 5)], .tip 9 1 ls.length, .tip 9 1 (seenS [] (its.take (m + 1))).length] (AI (@exL_id) (AI (@vaL_id) (AI (@exV_id) (AI (@vaV_id) (AI tsL_id (AI ndLs_id (AI nlVs_id (AI ndV_id (AI plVs_id (AI plV_id (AI scL_id fnL_id))))))))))) ?_
      rw [hV]
      exact hnext (m + 1) (by omega) (by omega) hV
    · rw [if_neg b]
      rw [if_neg b] at hc
      refine wG Y38_CP (AI hlt' (AI hg PL)) ?_
      refine AR.callS [3, 2, 4, 5] hc rfl rfl (by first | (simp only [SR, exV_ren, exL_ren, vaV_ren, vaL_ren, tsL_ren, ndLs_ren, nlVs_ren, ndV_ren, plV_ren]; done) | (simp only [SR, exV_ren, exL_ren, vaV_ren, vaL_ren, tsL_ren, ndLs_ren, nlVs_ren, ndV_ren, plV_ren]; with_reducible exact rfl)) (by first | (simp only [SR, exV_ren, exL_ren, vaV_ren, vaL_ren, tsL_ren, ndLs_ren, nlVs_ren, ndV_ren, plV_ren]; done) | (simp only [SR, exV_ren, exL_ren, vaV_ren, vaL_ren, tsL_ren, ndLs_ren, nlVs_ren, ndV_ren, plV_ren]; with_reducible exact rfl)) (WkL.of_eq (by simp only [St.ev, V.ofVal, V.ofCell, V.size_im, getD_dn, look_cons, look_nil, Nat.reduceLT, Nat.reduceEqDiff, reduceIte, if_true, if_false, List.map_cons, List.map_nil, List.nil_append, List.cons_append, List.append_nil, plV_eq])) (by first | rfl | simp only [List.length_cons, List.length_nil, Nat.reduceAdd, V.ids, V.idsL, idsA, entOk, List.all_cons, List.all_nil, Bool.and_self, Bool.and_true, Bool.true_and, ltB, noId, Nat.reduceLT, decide_true, Bool.true_eq_false, tyV_id, fdV_id, tyL_id, fdL_id, exL_id, vaL_id, exV_id, vaV_id, tsL_id, ndLs_id, nlVs_id, ndV_id, plVs_id, plV_id, scL_id, fnL_id]) rfl rfl rfl (by first | rfl | simp only [List.length_cons, List.length_nil, Nat.reduceAdd, V.ids, V.idsL, idsA, entOk, List.all_cons, List.all_nil, Bool.and_self, Bool.and_true, Bool.true_and, ltB, noId, Nat.reduceLT, decide_true, Bool.true_eq_false, tyV_id, fdV_id, tyL_id, fdL_id, exL_id, vaL_id, exV_id, vaV_id, tsL_id, ndLs_id, nlVs_id, ndV_id, plVs_id, plV_id, scL_id, fnL_id]) (by intro p hp; simp only [renE, SR, Ent.ren, List.mem_cons, List.not_mem_nil, or_false, exV_ren, exL_ren, vaV_ren, vaL_ren, tsL_ren, ndLs_ren, nlVs_ren, ndV_ren, plV_ren] at hp; rcases hp with rfl | rfl | rfl | rfl <;> rfl) (by simp only [renE, Ent.ren, SR, exV_ren, exL_ren, vaV_ren, vaL_ren, tsL_ren, ndLs_ren, nlVs_ren, ndV_ren, plV_ren, wrl, putE, SC, SD, Nat.reduceBEq, Nat.reduceLT, Nat.reduceSub, Nat.reduceAdd, Nat.reduceMul, Nat.reduceLeDiff, Nat.reduceEqDiff, reduceCtorEq, Int.reduceLT, Int.reduceLE, Int.reduceEq, Int.reduceNe, Int.reduceBEq, Int.reduceBNe, Int.reduceAdd, Int.reduceSub, Int.reduceMul, Int.reduceToNat]; with_reducible exact rfl) ?_
      refine goG Y38_CP b ?_
      refine wG Y38_CP b ?_
      exact Fin.oneP
  obtain rfl : m = its.length := by omega
  clear hnext
  rw [List.drop_length]
  refine wG Y38_CP @Int.lt_irrefl ?_
  exact Fin.oneP
end Go.Proofs.YtfggemopnlffeaaGreat
