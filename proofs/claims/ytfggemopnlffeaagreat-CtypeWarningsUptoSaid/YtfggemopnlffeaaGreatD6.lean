import Derived.Test.YtfggemopnlffeaaGreatHv
import Derived.Test.YtfggemopnlffeaaGreatD2
import Derived.Test.YtfggemopnlffeaaGreatD5
import Derived.Test.YtfggemopnlffeaaGreatJN
namespace Go.Proofs.YtfggemopnlffeaaGreat
set_option linter.unusedSimpArgs false
set_option linter.unusedVariables false
set_option linter.unnecessarySimpa false
open Go.RowKit
theorem flatMap_cg {α β : Type} {f g : α → List β} {l : List α} (h : ∀ x ∈ l, f x = g x) : l.flatMap f = l.flatMap g := by
  induction l with
  | nil => rfl
  | cons x l ih => rw [List.flatMap_cons, List.flatMap_cons, h x (by simp), ih fun y hy => h y (by simp [hy])]
theorem flaL_fst : ∀ (l : List Nd) (lp lq : Bool), (flaL l lp).map Prod.fst = (allL l lq).map Prod.fst := by
  refine subs_induct fun l hl lp lq => ?_
  unfold flaL allL
  rw [List.map_flatMap, List.map_flatMap]
  refine flatMap_cg fun t ht => ?_
  rw [flaT_eq, allT_eq, List.map_cons, List.map_cons, List.map_append]
  unfold subs
  rw [List.flatMap_cons, List.map_append, hl t ht t.l (by simp [subs]) _ (inL t lq), List.map_flatMap, List.map_flatMap]
  congr 2
  exact flatMap_cg fun c hc => hl t ht c (by unfold subs; exact List.mem_cons_of_mem _ hc) _ _
theorem labs_fst (l : List (Nd × Bool)) : labs l = (l.map Prod.fst).flatMap fun s => if s.kind == 13 then [s.name] else [] := by
  unfold labs
  rw [List.flatMap_map]
theorem labs_fla (l : List Nd) : labs (flaL l false) = labs (allL l false) := by rw [labs_fst, labs_fst, flaL_fst l false false]
theorem nxt_fst (sn : List ByteArray) (t : Nd) (a b : Bool) : nxt sn (t, a) = nxt sn (t, b) := rfl
theorem stT_loop {t : Nd} (h : stT t = true) (lp : Bool) : inL t lp = lp ∨ (t.el = [] ∧ t.cs = []) := by
  unfold stT at h
  simp only [Bool.and_eq_true] at h
  obtain ⟨⟨⟨⟨⟨⟨⟨⟨_, _⟩, _⟩, _⟩, _⟩, h6⟩, _⟩, h8⟩, _⟩ := h
  by_cases k7 : t.kind = 7
  · refine .inr ⟨by simpa [k7] using h6, by simpa [k7] using h8⟩
  by_cases k8 : t.kind = 8
  · refine .inr ⟨by simpa [k8] using h6, by simpa [k8] using h8⟩
  have e7 : (t.kind == 7) = false := by simpa using k7
  have e8 : (t.kind == 8) = false := by simpa using k8
  exact .inl (by unfold inL; rw [e7, e8, Bool.or_false, Bool.or_false])
theorem runS_flat {vs : List Va} {fs ls : List ByteArray} {α : Type} (f g : α → List (Nd × Bool)) (r : List (Nd × Bool)) : ∀ (l : List α), (∀ c ∈ l, ∀ sn r1 r2, (∀ sn, runS vs fs ls sn r1 = runS vs fs ls sn r2) → runS vs fs ls sn (f c ++ r1) = runS vs fs ls sn (g c ++ r2)) →
    ∀ sn r1 r2, (∀ sn, runS vs fs ls sn r1 = runS vs fs ls sn r2) → runS vs fs ls sn (l.flatMap f ++ r1) = runS vs fs ls sn (l.flatMap g ++ r2)
  | [], _, sn, r1, r2, hr => by simpa using hr sn
  | c :: l, h, sn, r1, r2, hr => by
    rw [List.flatMap_cons, List.flatMap_cons, List.append_assoc, List.append_assoc]
    exact h c (by simp) sn _ _ fun sn => runS_flat f g r l (fun d hd => h d (List.mem_cons_of_mem _ hd)) sn r1 r2 hr
theorem runS_fla {vs : List Va} {fs ls : List ByteArray} : ∀ (l : List Nd) (lp : Bool) (sn : List ByteArray) (r1 r2 : List (Nd × Bool)), (∀ sn, runS vs fs ls sn r1 = runS vs fs ls sn r2) → runS vs fs ls sn (flaL l lp ++ r1) = runS vs fs ls sn (allL l lp ++ r2) := by
  refine subs_induct fun l hl lp => ?_
  unfold flaL allL
  refine runS_flat _ _ [] l fun t ht sn r1 r2 hr => ?_
  rw [flaT_eq, allT_eq, List.cons_append, List.cons_append, runS_cons, runS_cons]
  by_cases b : chk1 vs fs ls sn (t, lp) = 0
  case neg => rw [if_neg b, if_neg b]
  rw [if_pos b, if_pos b]
  have hsub : ∀ c ∈ t.el :: t.cs, c ∈ subs t := fun c hc => by unfold subs; exact List.mem_cons_of_mem _ hc
  have hec := stT_loop (chk1_stT b) lp
  have hnil : t.el = [] → t.cs = [] → t.el :: t.cs = [[]] := fun h1 h2 => by rw [h1, h2]
  rw [show subs t = t.l :: (t.el :: t.cs) from rfl]
  generalize t.el :: t.cs = ec at hsub hnil ⊢
  rw [List.flatMap_cons, List.append_assoc, List.append_assoc]
  refine hl t ht t.l (by simp [subs]) _ _ _ _ fun sn => ?_
  rcases hec with h | ⟨h1, h2⟩
  · rw [h]
    exact runS_flat _ _ [] _ (fun c hc => hl t ht c (hsub c hc) lp) sn r1 r2 hr
  · rw [hnil h1 h2]
    simpa [flaL, allL] using hr sn
theorem runS_fla' (vs : List Va) (fs ls sn : List ByteArray) (l : List Nd) (lp : Bool) : runS vs fs ls sn (flaL l lp) = runS vs fs ls sn (allL l lp) := by
  have := runS_fla (vs := vs) (fs := fs) (ls := ls) l lp sn [] [] fun _ => rfl
  rwa [List.append_nil, List.append_nil] at this
theorem seenS_labs (sn : List ByteArray) (l : List (Nd × Bool)) : seenS sn l = sn ++ labs l := by
  induction l generalizing sn with
  | nil => simp [seenS, labs]
  | cons p l ih =>
    have e : seenS sn (p :: l) = seenS (nxt sn p) l := rfl
    rw [e, ih]
    unfold nxt labs
    rw [List.flatMap_cons]
    split <;> simp
theorem fla_fit (l : List Nd) (h : fitNL l) (lp : Bool) : ∀ p ∈ flaL l lp, fitN p.1 := fun p hp => by
  have h1 : p.1 ∈ (flaL l lp).map Prod.fst := List.mem_map_of_mem hp
  rw [flaL_fst l lp lp] at h1
  obtain ⟨q, hq, e⟩ := List.mem_map.1 h1
  rw [← e]
  exact all_fit l h lp q hq
theorem Y43_D6 : type_of% (AI @F_ag_22 (AI @F_ag_26 (AI @F_ag_35 (AI @F_al_44 (AI @F_by_44 (AI @F_el_108 (AI @F_el_22 (AI @F_fl_26_0 (AI @F_fl_37_1 (AI @F_fl_37_2 (AI @F_sz_130 (AI @F_sz_22 (AI @F_sz_26 (AI @F_sz_35 (@F_sz_44))))))))))))))) := AI @F_ag_22 (AI @F_ag_26 (AI @F_ag_35 (AI @F_al_44 (AI @F_by_44 (AI @F_el_108 (AI @F_el_22 (AI @F_fl_26_0 (AI @F_fl_37_1 (AI @F_fl_37_2 (AI @F_sz_130 (AI @F_sz_22 (AI @F_sz_26 (AI @F_sz_35 (@F_sz_44))))))))))))))
set_option maxHeartbeats 2000000 in
theorem c_bodyR (u : Un) (hfl : u.funcs.length ≤ 4194304) (f : Fun) (hg : u.globals.length ≤ 2097152) (hv : f.vars.length ≤ 2097152) (hvn : fitVN f.vars) (hb : fitNL f.body) (hc : cnt f.body ≤ 4194304) :
    PC Tryz.prog 43 [unV u, fnV f] (.im (.int .i64 (bodyE u.globals f (u.funcs.map Fun.name)))) := by
  have h1 := c_variablesR u.globals f.vars (by omega) hvn
  have h2 : PC Tryz.prog 75 [.sl (f.body.map ndV) .ro, (.im (.int .i64 (65)))] (.im (.int .i64 (min (dep f.body) 66))) := c_depthR f.body hb 65 (by decide) (by decide)
  have h3 := c_flat f.body hb hc false
  have hlen := flaL_len f.body false
  have hw : IntKind.i64.wrap ((f.vars.length : Int) + (u.globals.length : Int)) = (f.vars.length : Int) + (u.globals.length : Int) := wrap_in (by omega)
  unfold bodyE
  refine PC.enter 57 Tryz.func43 rfl (by decide) rfl rfl (s := [(0, unV u), (1, fnV f)]) (by rfl) ?_
  simp only [unV_eq, fnV_eq]
  by_cases b1 : 256 < u.globals.length + f.vars.length
  · have b1' : (256 : Int) < (f.vars.length : Int) + (u.globals.length : Int) := by omega
    rw [if_pos b1]
    refine wG Y43_D6 (AI hw (AI b1' @List.length_map.{0, 0})) ?_
    exact Fin.oneP
  have b1' : ¬ (256 : Int) < (f.vars.length : Int) + (u.globals.length : Int) := by omega
  rw [if_neg b1]
  refine wG Y43_D6 (AI hw (AI b1' @List.length_map.{0, 0})) ?_
  refine AR.callP h1 True.intro (AI (@exL_id) (AI (@vaL_id) (AI (@exV_id) (AI (@vaV_id) (AI tsL_id (AI ndLs_id (AI nlVs_id (AI ndV_id (AI plVs_id (AI plV_id (AI scL_id (AI fnL_id (AI unV_id fnV_id))))))))))))) ?_
  by_cases b2 : vErr u.globals f.vars = 0
  case neg =>
    rw [if_pos b2]
    refine goG Y43_D6 b2 ?_
    refine wG Y43_D6 b2 ?_
    exact Fin.oneP
  rw [if_neg (by simp [b2])]
  rw [b2]
  refine goG Y43_D6 True.intro ?_
  refine wG Y43_D6 True.intro ?_
  refine AR.callP h2 True.intro (AI (@exL_id) (AI (@vaL_id) (AI (@exV_id) (AI (@vaV_id) (AI tsL_id (AI ndLs_id (AI nlVs_id (AI ndV_id (AI plVs_id (AI plV_id (AI scL_id (AI fnL_id (AI unV_id fnV_id))))))))))))) ?_
  by_cases b3 : 64 < dep f.body
  · have b3' : (64 : Int) < min (dep f.body) 66 := by omega
    rw [if_pos b3]
    refine goG Y43_D6 b3' ?_
    refine wG Y43_D6 b3' ?_
    exact Fin.oneP
  have b3' : ¬ (64 : Int) < min (dep f.body) 66 := by omega
  rw [if_neg b3]
  refine goG Y43_D6 b3' ?_
  refine wG Y43_D6 b3' ?_
  refine AR.callP h3 True.intro (AI (@exL_id) (AI (@vaL_id) (AI (@exV_id) (AI (@vaV_id) (AI tsL_id (AI ndLs_id (AI nlVs_id (AI ndV_id (AI plVs_id (AI plV_id (AI scL_id (AI fnL_id (AI unV_id fnV_id))))))))))))) ?_
  rw [← labs_fla, ← runS_fla']
  have hfa := fla_fit f.body hb false
  generalize flaL f.body false = its at h3 hlen hfa ⊢
  by_cases b4 : 1024 < cnt f.body
  · have b4' : (1024 : Int) < (its.length : Int) := by omega
    rw [if_pos b4]
    refine goG Y43_D6 True.intro ?_
    refine wG Y43_D6 (AI b4' @List.length_map.{0, 0}) ?_
    exact Fin.oneP
  have b4' : ¬ (1024 : Int) < (its.length : Int) := by omega
  rw [if_neg b4]
  have hvs : (u.globals ++ f.vars).length ≤ 4194304 := by rw [List.length_append]; omega
  have hA1 : u.globals.length * 88 ≤ 140737488355328 := by omega
  have hA2 : (u.globals ++ f.vars).length * 88 ≤ 140737488355328 := by rw [List.length_append]; omega
  have hap : u.globals.map vaV ++ f.vars.map vaV = (u.globals ++ f.vars).map vaV := by rw [List.map_append]
  have hln : u.globals.length + f.vars.length = (u.globals ++ f.vars).length := by rw [List.length_append]
  generalize u.globals ++ f.vars = vs at hap hvs hln hA2 ⊢
  refine goG Y43_D6 True.intro ?_
  refine wG Y43_D6 (AI b4' (AI hA1 (AI hA2 (AI hap (AI hln (AI vaL_all (AI (@List.length_map.{0, 0}) @Nat.zero_add))))))) ?_
  clear h1 h2 h3 hw b1 b1' b2 b3 b3' b4' hvn
  refine AWp.loop ?_
  refine ALp.cutP 3 [(2, .pt 0 0), (3, .pt 1 0), (6, .sl (its.map plV) .ro), (7, .sl (vs.map vaV) (.own 2)), (8, (.im (.int .i64 ((((0 : Nat)) : Int)))))] [.box [.sl (u.globals.map vaV) .ro, .sl (u.data.map scV) .ro, .sl (u.funcs.map fnV) .ro], .box [.im (.string f.name), .sl (f.vars.map vaV) .ro, .sl (f.body.map ndV) .ro], .tip 44 6 vs.length] (AI (@exL_id) (AI (@vaL_id) (AI (@exV_id) (AI (@vaV_id) (AI tsL_id (AI ndLs_id (AI nlVs_id (AI ndV_id (AI plVs_id (AI plV_id (AI scL_id (AI fnL_id (AI unV_id fnV_id))))))))))))) ?_
  refine ALp.upto its.length (fun m => runS vs (u.funcs.map Fun.name) (labs its) (seenS [] (its.take m)) (its.drop m) = runS vs (u.funcs.map Fun.name) (labs its) [] its) (fun m => ⟨dn 57 [(2, .pt 0 0), (3, .pt 1 0), (6, .sl (its.map plV) .ro), (7, .sl (vs.map vaV) (.own 2)), (8, (.im (.int .i64 ((((m : Nat)) : Int)))))], ofl [.box [.sl (u.globals.map vaV) .ro, .sl (u.data.map scV) .ro, .sl (u.funcs.map fnV) .ro], .box [.im (.string f.name), .sl (f.vars.map vaV) .ro, .sl (f.body.map ndV) .ro], .tip 44 6 vs.length]⟩) ?_ 0 (Nat.zero_le _) rfl
  intro m hm hV hnext
  rw [← hV]
  by_cases hlt : m < its.length
  case neg =>
    obtain rfl : m = its.length := by omega
    clear hnext
    rw [List.drop_length]
    refine wG Y43_D6 (AI (@Int.lt_irrefl) @List.length_map.{0, 0}) ?_
    exact Fin.oneP
  have hlt' : (m : Int) < (its.length : Int) := by omega
  have hm1 := wrap_succ hlt (by omega)
  have hsn : nxt (seenS [] (its.take m)) its[m] = seenS [] (its.take (m + 1)) := by
    rw [List.take_succ_eq_append_getElem hlt, seenS_append]; rfl
  have hcc := c_statementR u hfl vs hvs its (by omega) hfa m hlt
  rw [show labs (its.take m) = seenS [] (its.take m) by rw [seenS_labs]; rfl] at hcc
  have hd : its.drop m = its[m] :: its.drop (m + 1) := List.drop_eq_getElem_cons hlt
  rw [hd] at hV ⊢
  rw [runS_cons] at hV ⊢
  rw [hsn] at hV ⊢
  have hn2 := hnext (m + 1) (by omega) (by omega)
  generalize chk1 vs (u.funcs.map Fun.name) (labs its) (seenS [] (its.take m)) its[m] = e at hcc hV ⊢
  by_cases b : e = 0
  · rw [if_pos b] at hV ⊢
    rw [b] at hcc
    refine wG Y43_D6 (AI hlt' @List.length_map.{0, 0}) ?_
    refine AR.callW hcc unV_eq (AI (@exL_id) (AI (@vaL_id) (AI (@exV_id) (AI (@vaV_id) (AI tsL_id (AI ndLs_id (AI nlVs_id (AI ndV_id (AI plVs_id (AI plV_id (AI scL_id (AI fnL_id (AI unV_id fnV_id))))))))))))) ?_
    refine goG Y43_D6 True.intro ?_
    refine wG Y43_D6 hm1 ?_
    refine ALp.cutP 3 [(2, .pt 0 0), (3, .pt 1 0), (6, .sl (its.map plV) .ro), (7, .sl (vs.map vaV) (.own 2)), (8, (.im (.int .i64 ((((m + 1 : Nat)) : Int)))))] [.box [.sl (u.globals.map vaV) .ro, .sl (u.data.map scV) .ro, .sl (u.funcs.map fnV) .ro], .box [.im (.string f.name), .sl (f.vars.map vaV) .ro, .sl (f.body.map ndV) .ro], .tip 44 6 vs.length] (AI (@exL_id) (AI (@vaL_id) (AI (@exV_id) (AI (@vaV_id) (AI tsL_id (AI ndLs_id (AI nlVs_id (AI ndV_id (AI plVs_id (AI plV_id (AI scL_id (AI fnL_id (AI unV_id fnV_id))))))))))))) ?_
    rw [hV]
    exact hn2 hV
  · rw [if_neg b]
    refine wG Y43_D6 (AI hlt' @List.length_map.{0, 0}) ?_
    refine AR.callW hcc unV_eq (AI (@exL_id) (AI (@vaL_id) (AI (@exV_id) (AI (@vaV_id) (AI tsL_id (AI ndLs_id (AI nlVs_id (AI ndV_id (AI plVs_id (AI plV_id (AI scL_id (AI fnL_id (AI unV_id fnV_id))))))))))))) ?_
    refine goG Y43_D6 b ?_
    refine wG Y43_D6 b ?_
    exact Fin.oneP
theorem fnE_at {l : List Fun} {m : Nat} (h : m < l.length) : fnE ((l.take m).map Fun.name) (l.drop m) = if !nameT l[m].name then 3 else if (l.take m).any (fun f => eqS f.name l[m].name) then 8 else fnE ((l.take (m + 1)).map Fun.name) (l.drop (m + 1)) := by
  rw [fnE_step h, ← any_comm, List.any_map]
  rfl
theorem Y19_D6 : type_of% (AI @F_ag_22 (AI @F_ag_23 (AI @F_ag_24 (AI @F_ag_26 (AI @F_ag_37 (AI @F_ag_9 (AI @F_el_22 (AI @F_el_23 (AI @F_el_24 (AI @F_fl_26_0 (AI @F_fl_26_1 (AI @F_fl_26_2 (AI @F_fl_37_0 (AI @F_sz_22 (AI @F_sz_23 (AI @F_sz_24 (AI @F_sz_26 (AI @F_sz_37 (AI @F_sz_44 (AI @F_sz_9 (@F_sz_91))))))))))))))))))))) := AI @F_ag_22 (AI @F_ag_23 (AI @F_ag_24 (AI @F_ag_26 (AI @F_ag_37 (AI @F_ag_9 (AI @F_el_22 (AI @F_el_23 (AI @F_el_24 (AI @F_fl_26_0 (AI @F_fl_26_1 (AI @F_fl_26_2 (AI @F_fl_37_0 (AI @F_sz_22 (AI @F_sz_23 (AI @F_sz_24 (AI @F_sz_26 (AI @F_sz_37 (AI @F_sz_44 (AI @F_sz_9 (@F_sz_91))))))))))))))))))))
set_option maxHeartbeats 2000000 in
theorem c_CheckUnitR (u : Un) (hu : fitU u) : PC Tryz.prog 19 [unV u] (.im (.int .i64 (unE u))) := by
  have h1 := c_variablesR [] u.globals (by have := hu.gl; simp; omega) hu.gn
  have h2 := c_dataR u.data hu.dl hu.dn
  have hgl := hu.gl
  have hfl := hu.fl
  unfold unE
  rw [List.map_nil] at h1
  refine PC.enter 80 Tryz.func19 rfl (by decide) rfl rfl (s := [(0, unV u)]) (by rfl) ?_
  simp only [unV_eq]
  refine wG Y19_D6 @List.length_map.{0, 0} ?_
  refine AWp.condAB rfl rfl (fun hE => ?_) (fun hE => ?_)
  · have q : 256 < u.globals.length ∨ 16 < u.data.length ∨ 64 < u.funcs.length := by
      simp only [Bool.or_eq_true, decide_eq_true_eq] at hE
      omega
    rw [if_pos q]
    refine wG Y19_D6 True.intro ?_
    exact Fin.oneP
  have q : ¬ (256 < u.globals.length ∨ 16 < u.data.length ∨ 64 < u.funcs.length) := by
    simp only [Bool.or_eq_false_iff, decide_eq_false_iff_not] at hE
    omega
  rw [if_neg q]
  by_cases b0 : u.funcs.length = 0
  · have b0' : (u.funcs.length : Int) = 0 := by omega
    rw [if_pos b0]
    refine wG Y19_D6 (AI b0' @List.length_map.{0, 0}) ?_
    exact Fin.oneP
  have b0' : ¬ (u.funcs.length : Int) = 0 := by omega
  rw [if_neg b0]
  refine wG Y19_D6 (AI b0' @List.length_map.{0, 0}) ?_
  refine AR.callW h1 True.intro (AI (@exL_id) (AI (@vaL_id) (AI (@exV_id) (AI (@vaV_id) (AI tsL_id (AI ndLs_id (AI nlVs_id (AI ndV_id (AI plVs_id (AI plV_id (AI scL_id (AI fnL_id (AI unV_id fnV_id))))))))))))) ?_
  by_cases b1 : vErr [] u.globals = 0
  case neg =>
    rw [if_pos b1]
    refine goG Y19_D6 b1 ?_
    refine wG Y19_D6 b1 ?_
    exact Fin.oneP
  rw [if_neg (by simp [b1]), b1]
  refine goG Y19_D6 True.intro ?_
  refine wG Y19_D6 True.intro ?_
  refine AR.callP h2 True.intro (AI (@exL_id) (AI (@vaL_id) (AI (@exV_id) (AI (@vaV_id) (AI tsL_id (AI ndLs_id (AI nlVs_id (AI ndV_id (AI plVs_id (AI plV_id (AI scL_id (AI fnL_id (AI unV_id fnV_id))))))))))))) ?_
  by_cases b2 : dErr [] u.data = 0
  case neg =>
    rw [if_pos b2]
    refine goG Y19_D6 b2 ?_
    refine wG Y19_D6 b2 ?_
    exact Fin.oneP
  rw [if_neg (by simp [b2]), b2]
  refine goG Y19_D6 True.intro ?_
  refine wG Y19_D6 @List.length_map.{0, 0} ?_
  refine AWp.loop ?_
  refine ALp.cutP 1 [(1, .pt 0 0), (4, (.im (.int .i64 ((((0 : Nat)) : Int)))))] [.box [.sl (u.globals.map vaV) .ro, .sl (u.data.map scV) .ro, .sl (u.funcs.map fnV) .ro]] (AI (@exL_id) (AI (@vaL_id) (AI (@exV_id) (AI (@vaV_id) (AI tsL_id (AI ndLs_id (AI nlVs_id (AI ndV_id (AI plVs_id (AI plV_id (AI scL_id (AI fnL_id (AI unV_id fnV_id))))))))))))) ?_
  refine ALp.upto u.funcs.length (fun m => fnE ((u.funcs.take m).map Fun.name) (u.funcs.drop m) = fnE [] u.funcs) (fun m => ⟨dn 80 [(1, .pt 0 0), (4, (.im (.int .i64 ((((m : Nat)) : Int)))))], ofl [.box [.sl (u.globals.map vaV) .ro, .sl (u.data.map scV) .ro, .sl (u.funcs.map fnV) .ro]]⟩) ?_ 0 (Nat.zero_le _) rfl
  intro m hm hV hnext
  by_cases hlt : m < u.funcs.length
  · have hlt' : (m : Int) < (u.funcs.length : Int) := by omega
    have hm1 := wrap_succ hlt (by omega)
    have hg := get_some hlt
    have hf := hu.fn _ (List.getElem_mem hlt)
    have h3 := c_NameR u.funcs[m].name hf.nm
    have h4 := c_functionR u.funcs hfl m (by omega) u.funcs[m].name
    have hn2 := hnext (m + 1) (by omega) (by omega)
    rw [fnE_at hlt] at hV
    cases b3 : nameT u.funcs[m].name with
    | false =>
      rw [b3] at h3 hV
      simp only [Bool.not_false, if_true] at hV
      rw [← hV, if_pos (by decide)]
      refine wG Y19_D6 (AI hlt' (AI hg (AI (@List.length_map.{0, 0}) FU))) ?_
      refine AR.callP h3 True.intro (AI (@exL_id) (AI (@vaL_id) (AI (@exV_id) (AI (@vaV_id) (AI tsL_id (AI ndLs_id (AI nlVs_id (AI ndV_id (AI plVs_id (AI plV_id (AI scL_id (AI fnL_id (AI unV_id fnV_id))))))))))))) ?_
      refine goG Y19_D6 True.intro ?_
      refine wG Y19_D6 True.intro ?_
      exact Fin.oneP
    | true =>
    rw [b3] at h3 hV
    simp only [Bool.not_true, Bool.false_eq_true, if_false] at hV
    refine wG Y19_D6 (AI hlt' (AI hg (AI (@List.length_map.{0, 0}) FU))) ?_
    refine AR.callP h3 True.intro (AI (@exL_id) (AI (@vaL_id) (AI (@exV_id) (AI (@vaV_id) (AI tsL_id (AI ndLs_id (AI nlVs_id (AI ndV_id (AI plVs_id (AI plV_id (AI scL_id (AI fnL_id (AI unV_id fnV_id))))))))))))) ?_
    refine goG Y19_D6 True.intro ?_
    refine wdG Y19_D6 (AI hlt' (AI hg FU)) ?_
    refine AR.callP h4 True.intro (AI (@exL_id) (AI (@vaL_id) (AI (@exV_id) (AI (@vaV_id) (AI tsL_id (AI ndLs_id (AI nlVs_id (AI ndV_id (AI plVs_id (AI plV_id (AI scL_id (AI fnL_id (AI unV_id fnV_id))))))))))))) ?_
    cases b4 : (u.funcs.take m).any fun f => eqS f.name u.funcs[m].name with
    | true =>
      rw [b4] at hV
      simp only [if_true] at hV
      rw [← hV, if_pos (by decide)]
      refine goG Y19_D6 True.intro ?_
      refine wdG Y19_D6 True.intro ?_
      exact Fin.oneP
    | false =>
      rw [b4] at hV
      simp only [Bool.false_eq_true, if_false] at hV
      refine goG Y19_D6 True.intro ?_
      refine wdG Y19_D6 hm1 ?_
      refine ALp.cutP 1 [(1, .pt 0 0), (4, (.im (.int .i64 ((((m + 1 : Nat)) : Int)))))] [.box [.sl (u.globals.map vaV) .ro, .sl (u.data.map scV) .ro, .sl (u.funcs.map fnV) .ro]] (AI (@exL_id) (AI (@vaL_id) (AI (@exV_id) (AI (@vaV_id) (AI tsL_id (AI ndLs_id (AI nlVs_id (AI ndV_id (AI plVs_id (AI plV_id (AI scL_id (AI fnL_id (AI unV_id fnV_id))))))))))))) ?_
      exact hn2 hV
  obtain rfl : m = u.funcs.length := by omega
  clear hnext
  rw [List.take_length, List.drop_length] at hV
  have hV : fnE [] u.funcs = 0 := by rw [← hV]; cases u.funcs.map Fun.name <;> rfl
  rw [if_neg (by simp [hV])]
  refine whG Y19_D6 (AI (@Int.lt_irrefl) @List.length_map.{0, 0}) ?_
  refine Blk'.here (Thn.n ?_)
  refine wG Y19_D6 True.intro ?_
  refine AWp.loop ?_
  refine ALp.cutP 1 [(1, .pt 0 0), (5, (.im (.int .i64 ((((0 : Nat)) : Int)))))] [.box [.sl (u.globals.map vaV) .ro, .sl (u.data.map scV) .ro, .sl (u.funcs.map fnV) .ro]] (AI (@exL_id) (AI (@vaL_id) (AI (@exV_id) (AI (@vaV_id) (AI tsL_id (AI ndLs_id (AI nlVs_id (AI ndV_id (AI plVs_id (AI plV_id (AI scL_id (AI fnL_id (AI unV_id fnV_id))))))))))))) ?_
  obtain ⟨fs, hfs⟩ : ∃ fs, u.funcs.map Fun.name = fs := ⟨_, rfl⟩
  rw [hfs]
  refine ALp.upto u.funcs.length (fun m => bdE u.globals fs (u.funcs.drop m) = bdE u.globals fs u.funcs) (fun m => ⟨dn 80 [(1, .pt 0 0), (5, (.im (.int .i64 ((((m : Nat)) : Int)))))], ofl [.box [.sl (u.globals.map vaV) .ro, .sl (u.data.map scV) .ro, .sl (u.funcs.map fnV) .ro]]⟩) ?_ 0 (Nat.zero_le _) rfl
  intro m hm hV hnext
  rw [← hV]
  by_cases hlt : m < u.funcs.length
  · have hlt' : (m : Int) < (u.funcs.length : Int) := by omega
    have hm1 := wrap_succ hlt (by omega)
    have hg := get_some hlt
    have hf := hu.fn _ (List.getElem_mem hlt)
    have hb := c_bodyR u hfl u.funcs[m] hgl hf.vl hf.vn hf.bd hf.ct
    rw [hfs] at hb
    have hd : u.funcs.drop m = u.funcs[m] :: u.funcs.drop (m + 1) := List.drop_eq_getElem_cons hlt
    rw [hd] at hV ⊢
    have hs : bdE u.globals fs (u.funcs[m] :: u.funcs.drop (m + 1)) = if bodyE u.globals u.funcs[m] fs = 0 then bdE u.globals fs (u.funcs.drop (m + 1)) else bodyE u.globals u.funcs[m] fs := rfl
    rw [hs] at hV ⊢
    by_cases b : bodyE u.globals u.funcs[m] fs = 0
    · rw [if_pos b] at hV ⊢
      rw [b] at hb
      refine wdG Y19_D6 (AI hlt' (AI hg (AI (@List.length_map.{0, 0}) FU))) ?_
      refine AR.callW hb (AI unV_eq fnV_eq) (AI (@exL_id) (AI (@vaL_id) (AI (@exV_id) (AI (@vaV_id) (AI tsL_id (AI ndLs_id (AI nlVs_id (AI ndV_id (AI plVs_id (AI plV_id (AI scL_id (AI fnL_id (AI unV_id fnV_id))))))))))))) ?_
      refine goG Y19_D6 True.intro ?_
      refine wdG Y19_D6 hm1 ?_
      refine ALp.cutP 1 [(1, .pt 0 0), (5, (.im (.int .i64 ((((m + 1 : Nat)) : Int)))))] [.box [.sl (u.globals.map vaV) .ro, .sl (u.data.map scV) .ro, .sl (u.funcs.map fnV) .ro]] (AI (@exL_id) (AI (@vaL_id) (AI (@exV_id) (AI (@vaV_id) (AI tsL_id (AI ndLs_id (AI nlVs_id (AI ndV_id (AI plVs_id (AI plV_id (AI scL_id (AI fnL_id (AI unV_id fnV_id))))))))))))) ?_
      rw [hV]
      exact hnext (m + 1) (by omega) (by omega) hV
    · rw [if_neg b]
      refine wdG Y19_D6 (AI hlt' (AI hg (AI (@List.length_map.{0, 0}) FU))) ?_
      refine AR.callW hb (AI unV_eq fnV_eq) (AI (@exL_id) (AI (@vaL_id) (AI (@exV_id) (AI (@vaV_id) (AI tsL_id (AI ndLs_id (AI nlVs_id (AI ndV_id (AI plVs_id (AI plV_id (AI scL_id (AI fnL_id (AI unV_id fnV_id))))))))))))) ?_
      refine goG Y19_D6 b ?_
      refine wdG Y19_D6 b ?_
      exact Fin.oneP
  obtain rfl : m = u.funcs.length := by omega
  clear hnext
  rw [List.drop_length]
  refine wG Y19_D6 (AI (@Int.lt_irrefl) @List.length_map.{0, 0}) ?_
  exact Fin.oneP
end Go.Proofs.YtfggemopnlffeaaGreat
