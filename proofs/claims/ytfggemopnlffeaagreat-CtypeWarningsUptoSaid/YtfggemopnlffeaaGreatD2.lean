import Derived.Test.YtfggemopnlffeaaGreatHv
import Derived.Test.YtfggemopnlffeaaGreatJK
import Derived.Test.YtfggemopnlffeaaGreatCI
namespace Go.Proofs.YtfggemopnlffeaaGreat
set_option linter.unusedSimpArgs false
set_option linter.unusedVariables false
set_option linter.unnecessarySimpa false
open Go.RowKit
theorem foldl_max_max (l : List Int) : ∀ a b : Int, l.foldl max (max a b) = max a (l.foldl max b) := by
  induction l with
  | nil => intro a b; rfl
  | cons x l ih => intro a b; simp only [List.foldl_cons]; rw [← ih, show max (max a b) x = max a (max b x) by omega]
theorem mx_min (M : Int) (hM : 0 ≤ M) {α : Type} (f : α → Int) (l : List α) : mx (l.map fun x => min (f x) M) = min (mx (l.map f)) M := by
  have h : ∀ (l : List α) (a : Int), (l.map fun x => min (f x) M).foldl max (min a M) = min ((l.map f).foldl max a) M := by
    intro l
    induction l with
    | nil => intro a; rfl
    | cons x l ih => intro a; simp only [List.map_cons, List.foldl_cons]; rw [← ih, show max (min a M) (min (f x) M) = min (max a (f x)) M by omega]
  have := h l 0
  rwa [show min (0 : Int) M = 0 by omega] at this
theorem mx_sub1 {α : Type} (f : α → Int) {l : List α} (hl : l ≠ []) (hf : ∀ x ∈ l, 1 ≤ f x) : mx (l.map fun x => f x - 1) = mx (l.map f) - 1 := by
  have h : ∀ (l : List α) (a : Int), (l.map fun x => f x - 1).foldl max (a - 1) = (l.map f).foldl max a - 1 := by
    intro l
    induction l with
    | nil => intro a; rfl
    | cons x l ih => intro a; simp only [List.map_cons, List.foldl_cons]; rw [← ih, show max (a - 1) (f x - 1) = max a (f x) - 1 by omega]
  match l, hl with
  | x :: r, _ =>
    have h1 := hf x (by simp)
    have h2 := h r (f x)
    unfold mx
    simp only [List.map_cons, List.foldl_cons]
    rw [show max 0 (f x - 1) = f x - 1 by omega, show max 0 (f x) = f x by omega, h2]
theorem depT_ge (t : Nd) : 1 ≤ depT t := by rw [depT_eq]; have := mx_ge ((subs t).map dep); omega
def dpm (M : Int) (t : Nd) : Int := mx ((subs t).map fun c => min (dep c) M)
theorem dpm_eq {M : Int} (hM : 0 ≤ M) (t : Nd) : dpm M t = min (depT t - 1) M := by
  unfold dpm
  rw [mx_min M hM dep, depT_eq]
  congr 1
  omega
theorem dpm_all {M : Int} (hM : 0 ≤ M) {l : List Nd} (hl : l ≠ []) : mx (l.map (dpm M)) + 1 = min (dep l) (M + 1) := by
  have e : l.map (dpm M) = l.map fun t => min (depT t - 1) M := List.map_congr_left fun t _ => dpm_eq hM t
  rw [e, mx_min M hM (fun t => depT t - 1), mx_sub1 depT hl fun t _ => depT_ge t]
  unfold dep
  omega
theorem dpm_step {M : Int} (b : Int) (hb : 0 ≤ b) (t : Nd) : ((t.cs.map fun c => min (dep c) M).foldl max (max (max b (min (dep t.l) M)) (min (dep t.el) M))) = max b (dpm M t) := by
  unfold dpm mx subs
  simp only [List.map_cons, List.foldl_cons]
  rw [show max (max b (min (dep t.l) M)) (min (dep t.el) M) = max b (max (max 0 (min (dep t.l) M)) (min (dep t.el) M)) by omega, foldl_max_max]
theorem fold_step {α : Type} (f : α → Int) {l : List α} {m : Nat} (h : m < l.length) (a : Int) : max (((l.take m).map f).foldl max a) (f l[m]) = ((l.take (m + 1)).map f).foldl max a := by
  rw [List.take_succ_eq_append_getElem h, List.map_append, List.foldl_append]
  rfl
theorem max_gt {a b : Int} (h : b > a) : max a b = b := by omega
theorem max_ngt {a b : Int} (h : ¬ b > a) : max a b = a := by omega
theorem wrap_pred' {n : Int} (h0 : -9223372036854775807 ≤ n) (h1 : n ≤ 9223372036854775807) : IntKind.i64.wrap (n - 1) = n - 1 := wrap_in (by omega)
theorem Y75_D2 : type_of% (AI @F_ag_35 (AI @F_ag_57 (AI @F_el_35 (AI @F_el_57 (AI @F_fl_59_4 (AI @F_fl_59_5 (AI @F_fl_59_6 (AI @F_sz_35 (AI @F_sz_57 (@F_sz_59)))))))))) := AI @F_ag_35 (AI @F_ag_57 (AI @F_el_35 (AI @F_el_57 (AI @F_fl_59_4 (AI @F_fl_59_5 (AI @F_fl_59_6 (AI @F_sz_35 (AI @F_sz_57 (@F_sz_59)))))))))
set_option maxHeartbeats 2000000 in
theorem c_depthR : ∀ l : List Nd, fitNL l → ∀ M : Int, -1 ≤ M → M ≤ 4194304 → PC Tryz.prog 75 [.sl (l.map ndV) .ro, (.im (.int .i64 (M)))] (.im (.int .i64 (min (dep l) (M + 1)))) := by
  refine subs_induct fun l hl hf M h0 h1 => ?_
  have hl1 := hf.1
  have hd0 := dep_nonneg l
  refine PC.enter 73 Tryz.func75 rfl (by decide) rfl rfl (s := [(0, .sl (l.map ndV) .ro), (1, (.im (.int .i64 (M))))]) (by rfl) ?_
  by_cases hz : l.length = 0
  · have hz' : (l.length : Int) = 0 := by omega
    obtain rfl : l = [] := List.length_eq_zero_iff.1 hz
    rw [show min (dep []) (M + 1) = 0 by rw [show dep [] = 0 from rfl]; omega]
    refine wG Y75_D2 True.intro ?_
    exact Fin.oneP
  have hz' : ¬ (l.length : Int) = 0 := by omega
  by_cases hM : M < 0
  · rw [show min (dep l) (M + 1) = 0 by omega]
    refine wG Y75_D2 (AI hz' (AI hM @List.length_map.{0, 0})) ?_
    exact Fin.oneP
  have hne : l ≠ [] := fun h => hz (by rw [h]; rfl)
  rw [← dpm_all (by omega) hne]
  have hM0 : 0 ≤ M := by omega
  refine wG Y75_D2 (AI hz' (AI hM @List.length_map.{0, 0})) ?_
  refine AWp.loop ?_
  refine ALp.cutP 0 [(0, .sl (l.map ndV) .ro), (1, (.im (.int .i64 (M)))), (5, (.im (.int .i64 (mx ((l.take (0)).map (dpm M)))))), (6, (.im (.int .i64 ((((0 : Nat)) : Int)))))] [] (AI ndV_id (AI ndLs_id (AI nlVs_id nlV_id))) ?_
  refine ALp.upto l.length (fun _ => True) (fun m => ⟨dn 73 [(0, .sl (l.map ndV) .ro), (1, (.im (.int .i64 (M)))), (5, (.im (.int .i64 (mx ((l.take (m)).map (dpm M)))))), (6, (.im (.int .i64 ((((m : Nat)) : Int)))))], ofl []⟩) ?_ 0 (Nat.zero_le _) trivial
  intro m hm _ hnext
  by_cases hlt : m < l.length
  case neg =>
    obtain rfl : m = l.length := by omega
    clear hnext
    rw [List.take_length]
    have hb : mx (l.map (dpm M)) ≤ M := mx_le hM0 fun x hx => by
      obtain ⟨t, _, rfl⟩ := List.mem_map.1 hx
      rw [dpm_eq hM0]; omega
    have hb0 := mx_ge (l.map (dpm M))
    have hw : IntKind.i64.wrap (mx (l.map (dpm M)) + 1) = mx (l.map (dpm M)) + 1 := wrap_in (by omega)
    refine wG Y75_D2 (AI (@Int.lt_irrefl) (AI (@List.length_map.{0, 0}) hw)) ?_
    exact Fin.oneP
  have hlt' : (m : Int) < (l.length : Int) := by omega
  have hm1 := wrap_succ hlt (by omega)
  have hg := get_some hlt
  have ht := hf.2 _ (List.getElem_mem hlt)
  have hw := wrap_pred' (n := M) (by omega) (by omega)
  obtain ⟨_, hs2⟩ := fit_subs ht
  have hcs := (fitN_inv ht).2.2.2.2.2.1
  have hR : ∀ c ∈ subs l[m], PC Tryz.prog 75 [.sl (c.map ndV) .ro, (.im (.int .i64 (M - 1)))] (.im (.int .i64 (min (dep c) M))) := fun c hc => by
    have := hl l[m] (List.getElem_mem hlt) c hc (hs2 c hc) (M - 1) (by omega) (by omega)
    rwa [show M - 1 + 1 = M by omega] at this
  have q1 := hR l[m].l (by simp [subs])
  have q2 := hR l[m].el (by simp [subs])
  have q3 := fun c (hc : c ∈ l[m].cs) => hR c (by simp [subs, hc])
  have hst := dpm_step (M := M) (mx ((l.take m).map (dpm M))) (mx_ge _) l[m]
  rw [mx_take (dpm M) hlt] at hst
  have hn2 := hnext (m + 1) (by omega) (by omega) trivial
  rw [← hst] at hn2
  clear hnext hst hR hs2
  generalize mx ((l.take m).map (dpm M)) = b at hn2 ⊢
  generalize min (dep l[m].l) M = v1 at q1 hn2 ⊢
  generalize min (dep l[m].el) M = v2 at q2 hn2 ⊢
  refine wG Y75_D2 (AI hlt' (AI hg (AI hw ND))) ?_
  refine AR.callP q1 True.intro (AI ndV_id (AI ndLs_id (AI nlVs_id nlV_id))) ?_
  refine goG Y75_D2 True.intro ?_
  refine wG Y75_D2 True.intro ?_
  refine AWp.tail (ι := Unit) (fun _ => ⟨dn 73 [(0, .sl (l.map ndV) .ro), (1, (.im (.int .i64 (M)))), (5, (.im (.int .i64 (max b v1)))), (6, (.im (.int .i64 ((m : Int)))))], ofl []⟩) (fun _ => ?_) (fun rest ht => ?_)
  case refine_2 =>
    have ht := ht ()
    refine AWp.condAB rfl rfl (fun g => ?_) (fun g => ?_)
    · rw [max_gt (of_decide_eq_true g)] at ht
      refine wG Y75_D2 True.intro ?_
      refine AWp.cutP 0 [(0, .sl (l.map ndV) .ro), (1, (.im (.int .i64 (M)))), (5, (.im (.int .i64 (v1)))), (6, (.im (.int .i64 ((m : Int)))))] [] (AI ndLs_id nlVs_id) ?_
      exact ht
    · rw [max_ngt (of_decide_eq_false g)] at ht
      refine wG Y75_D2 True.intro ?_
      refine AWp.cutP 0 [(0, .sl (l.map ndV) .ro), (1, (.im (.int .i64 (M)))), (5, (.im (.int .i64 (b)))), (6, (.im (.int .i64 ((m : Int)))))] [] (AI ndLs_id nlVs_id) ?_
      exact ht
  generalize max b v1 = b1 at hn2 ⊢
  refine wG Y75_D2 (AI hlt' (AI hg (AI hw ND))) ?_
  refine AR.callP q2 True.intro (AI ndV_id (AI ndLs_id (AI nlVs_id nlV_id))) ?_
  refine goG Y75_D2 True.intro ?_
  refine wG Y75_D2 True.intro ?_
  refine AWp.tail (ι := Unit) (fun _ => ⟨dn 73 [(0, .sl (l.map ndV) .ro), (1, (.im (.int .i64 (M)))), (5, (.im (.int .i64 (max b1 v2)))), (6, (.im (.int .i64 ((m : Int)))))], ofl []⟩) (fun _ => ?_) (fun rest ht => ?_)
  case refine_2 =>
    have ht := ht ()
    refine AWp.condAB rfl rfl (fun g => ?_) (fun g => ?_)
    · rw [max_gt (of_decide_eq_true g)] at ht
      refine wG Y75_D2 True.intro ?_
      refine AWp.cutP 0 [(0, .sl (l.map ndV) .ro), (1, (.im (.int .i64 (M)))), (5, (.im (.int .i64 (v2)))), (6, (.im (.int .i64 ((m : Int)))))] [] (AI ndLs_id nlVs_id) ?_
      exact ht
    · rw [max_ngt (of_decide_eq_false g)] at ht
      refine wG Y75_D2 True.intro ?_
      refine AWp.cutP 0 [(0, .sl (l.map ndV) .ro), (1, (.im (.int .i64 (M)))), (5, (.im (.int .i64 (b1)))), (6, (.im (.int .i64 ((m : Int)))))] [] (AI ndLs_id nlVs_id) ?_
      exact ht
  generalize max b1 v2 = b2 at hn2 ⊢
  refine wG Y75_D2 True.intro ?_
  refine AWp.loop ?_
  refine ALp.cutP 0 [(0, .sl (l.map ndV) .ro), (1, (.im (.int .i64 (M)))), (5, (.im (.int .i64 (((l[m].cs.take (0)).map fun c => min (dep c) M).foldl max b2)))), (6, (.im (.int .i64 ((m : Int))))), (8, (.im (.int .i64 ((((0 : Nat)) : Int)))))] [] (AI ndV_id (AI ndLs_id (AI nlVs_id nlV_id))) ?_
  refine ALp.upto l[m].cs.length (fun _ => True) (fun j => ⟨dn 73 [(0, .sl (l.map ndV) .ro), (1, (.im (.int .i64 (M)))), (5, (.im (.int .i64 (((l[m].cs.take (j)).map fun c => min (dep c) M).foldl max b2)))), (6, (.im (.int .i64 ((m : Int))))), (8, (.im (.int .i64 ((((j : Nat)) : Int)))))], ofl []⟩) ?_ 0 (Nat.zero_le _) trivial
  intro j hj _ hnext2
  by_cases hlu : j < l[m].cs.length
  case neg =>
    obtain rfl : j = l[m].cs.length := by omega
    clear hnext2
    rw [List.take_length]
    generalize (l[m].cs.map fun c => min (dep c) M).foldl max b2 = e at hn2 ⊢
    refine whG Y75_D2 (AI hlt' (AI hg (AI ND (AI (@Int.lt_irrefl) @List.length_map.{0, 0})))) ?_
    refine Blk'.here (Thn.n ?_)
    refine wG Y75_D2 hm1 ?_
    refine ALp.cutP 0 [(0, .sl (l.map ndV) .ro), (1, (.im (.int .i64 (M)))), (5, (.im (.int .i64 (e)))), (6, (.im (.int .i64 ((((m + 1 : Nat)) : Int)))))] [] (AI ndV_id (AI ndLs_id (AI nlVs_id nlV_id))) ?_
    exact hn2
  have hlu' : (j : Int) < (l[m].cs.length : Int) := by omega
  have hj1 := wrap_succ hlu (by omega)
  have hg2 := get_some hlu
  have hc2 := q3 l[m].cs[j] (List.getElem_mem hlu)
  have hn3 := hnext2 (j + 1) (by omega) (by omega) trivial
  rw [← fold_step (fun c => min (dep c) M) hlu] at hn3
  generalize ((l[m].cs.take j).map fun c => min (dep c) M).foldl max b2 = b3 at hn3 ⊢
  generalize min (dep l[m].cs[j]) M = v3 at hc2 hn3 ⊢
  refine wG Y75_D2 (AI hlt' (AI hg (AI hlu' (AI hg2 (AI hw (AI (@List.length_map.{0, 0}) ND)))))) ?_
  refine AR.callP hc2 nlV_eq (AI ndV_id (AI ndLs_id (AI nlVs_id nlV_id))) ?_
  refine goG Y75_D2 True.intro ?_
  by_cases g : v3 > b3
  · rw [max_gt g] at hn3
    refine wG Y75_D2 (AI g hj1) ?_
    refine ALp.cutP 0 [(0, .sl (l.map ndV) .ro), (1, (.im (.int .i64 (M)))), (5, (.im (.int .i64 (v3)))), (6, (.im (.int .i64 ((m : Int))))), (8, (.im (.int .i64 ((((j + 1 : Nat)) : Int)))))] [] (AI ndV_id (AI ndLs_id (AI nlVs_id nlV_id))) ?_
    exact hn3
  · rw [max_ngt g] at hn3
    refine wG Y75_D2 (AI g hj1) ?_
    refine ALp.cutP 0 [(0, .sl (l.map ndV) .ro), (1, (.im (.int .i64 (M)))), (5, (.im (.int .i64 (b3)))), (6, (.im (.int .i64 ((m : Int))))), (8, (.im (.int .i64 ((((j + 1 : Nat)) : Int)))))] [] (AI ndV_id (AI ndLs_id (AI nlVs_id nlV_id))) ?_
    exact hn3
end Go.Proofs.YtfggemopnlffeaaGreat
