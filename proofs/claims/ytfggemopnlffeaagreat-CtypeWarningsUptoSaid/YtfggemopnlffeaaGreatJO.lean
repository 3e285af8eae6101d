import Derived.Test.YtfggemopnlffeaaGreatHv
import Derived.Test.YtfggemopnlffeaaGreatJN
import Derived.Test.YtfggemopnlffeaaGreatJI
namespace Go.Proofs.YtfggemopnlffeaaGreat
set_option linter.unusedSimpArgs false
set_option linter.unusedVariables false
set_option linter.unnecessarySimpa false
open Go.RowKit
def ndn : Nd → Int → Int := Nd.para fun t a b c n => gfold (fun r m => gfold (fun f => f) r (m - 1)) c (gfold (fun f => f) b (gfold (fun f => f) a (gfold exn t.e (n - 1))))
def lsn (l : List Nd) (n : Int) : Int := gfold ndn l n
theorem ndn_eq (t : Nd) (n : Int) : ndn t n = gfold (fun c m => lsn c (m - 1)) t.cs (lsn t.el (lsn t.l (gfold exn t.e (n - 1)))) := by
  obtain ⟨k, w, s, e, l, el, cs⟩ := t
  unfold ndn
  rw [Nd.para_mk]
  simp only [gfold_map, Nd.e, Nd.l, Nd.el, Nd.cs, lsn]
  rfl
theorem lsn_bound : ∀ l : List Nd, ∀ n : Int, 0 ≤ n → 0 ≤ lsn l n ∧ lsn l n ≤ n := by
  refine Nd.listInduct fun l hl => ?_
  refine gfold_bound fun t ht n hn => ?_
  obtain ⟨h1, h2, h3⟩ := hl t ht
  rw [ndn_eq]
  have k0 := gfold_bound (f := exn) (l := t.e) (fun x _ => exn_bound x) (n - 1) (by omega)
  have k1 := h1 _ k0.1
  have k2 := h2 _ k1.1
  have k3 := gfold_bound (f := fun c m => lsn c (m - 1)) (l := t.cs) (fun c hc m hm => by have := h3 c hc (m - 1) (by omega); omega) _ k2.1
  omega
theorem ndn_bound (t : Nd) (n : Int) (hn : 0 < n) : 0 ≤ ndn t n ∧ ndn t n < n := by
  rw [ndn_eq]
  have k0 := gfold_bound (f := exn) (l := t.e) (fun x _ => exn_bound x) (n - 1) (by omega)
  have k1 := lsn_bound t.l _ k0.1
  have k2 := lsn_bound t.el _ k1.1
  have k3 := gfold_bound (f := fun c m => lsn c (m - 1)) (l := t.cs) (fun c hc m hm => by have := lsn_bound c (m - 1) (by omega); omega) _ k2.1
  omega
theorem Y12_CV : type_of% (AI @F_ag_35 (AI @F_ag_46 (AI @F_ag_48 (AI @F_ag_57 (AI @F_el_35 (AI @F_el_46 (AI @F_el_57 (AI @F_fl_59_3 (AI @F_fl_59_4 (AI @F_fl_59_5 (AI @F_fl_59_6 (AI @F_sz_35 (AI @F_sz_46 (AI @F_sz_48 (AI @F_sz_57 (@F_sz_59)))))))))))))))) := AI @F_ag_35 (AI @F_ag_46 (AI @F_ag_48 (AI @F_ag_57 (AI @F_el_35 (AI @F_el_46 (AI @F_el_57 (AI @F_fl_59_3 (AI @F_fl_59_4 (AI @F_fl_59_5 (AI @F_fl_59_6 (AI @F_sz_35 (AI @F_sz_46 (AI @F_sz_48 (AI @F_sz_57 (@F_sz_59)))))))))))))))
set_option maxHeartbeats 2000000 in
theorem c_lsn : ∀ l : List Nd, fitNL l → ∀ n : Int, 0 ≤ n → n ≤ 4194304 → PC Tryz.prog 12 [.sl (l.map ndV) .ro, (.im (.int .i64 (n)))] (.im (.int .i64 (lsn l n))) := by
  refine Nd.listInduct fun l hl hf n hn hn2 => ?_
  have hl1 := hf.1
  unfold lsn
  refine PC.enter 84 Tryz.func12 rfl (by decide) rfl rfl (s := [(0, .sl (l.map ndV) .ro), (1, (.im (.int .i64 (n))))]) (by rfl) ?_
  refine wG Y12_CV True.intro ?_
  refine AWp.loop ?_
  refine ALp.cutP 0 [(0, .sl (l.map ndV) .ro), (1, (.im (.int .i64 (gfold ndn (l.take (0)) n)))), (5, (.im (.int .i64 ((((0 : Nat)) : Int)))))] [] (AI (@exL_id) (AI (@vaL_id) (AI (@exV_id) (AI (@vaV_id) (AI ndLs_id (AI nlVs_id (AI ndV_id nlV_id))))))) ?_
  refine ALp.upto l.length (fun _ => True) (fun m => ⟨dn 84 [(0, .sl (l.map ndV) .ro), (1, (.im (.int .i64 (gfold ndn (l.take (m)) n)))), (5, (.im (.int .i64 ((((m : Nat)) : Int)))))], ofl []⟩) ?_ 0 (Nat.zero_le _) trivial
  intro m hm _ hnext
  refine wG Y12_CV (AI (@Int.natCast_nonneg) @List.length_map.{0, 0}) ?_
  refine AWp.condAB rfl rfl (fun hE => ?_) (fun hE => ?_)
  case refine_2 =>
    rw [pair_stop (fun t _ => ndn_bound t) hm hn hE]
    clear hnext hE
    refine wG Y12_CV True.intro ?_
    exact Fin.oneP
  obtain ⟨hlt, hp⟩ := pair_cond hE
  have hlt' : (m : Int) < (l.length : Int) := by omega
  have hm1 := wrap_succ hlt (by omega)
  have hg := get_some hlt
  have hmem := List.getElem_mem hlt
  have hft := hf.2 _ hmem
  obtain ⟨_, _, ⟨he1, he2⟩, hL, hEl, hC1, hC2⟩ := fitN_inv hft
  have hb := gfold_bound (f := ndn) (l := l.take m) (fun t _ => ndn_bound t) n hn
  have htk := gfold_take hlt hp
  rw [ndn_eq] at htk
  obtain ⟨r1, r2, r3⟩ := hl l[m] hmem
  generalize gfold ndn (l.take m) n = v at hp hb htk hE ⊢
  have hw : IntKind.i64.wrap (v - 1) = v - 1 := wrap_in (by omega)
  have k0 := gfold_bound (f := exn) (l := l[m].e) (fun x _ => exn_bound x) (v - 1) (by omega)
  refine wG Y12_CV hw ?_
  refine AWp.loop ?_
  refine ALp.cutP 0 [(0, .sl (l.map ndV) .ro), (1, (.im (.int .i64 (gfold exn (l[m].e.take (0)) (v - 1))))), (5, (.im (.int .i64 ((m : Int))))), (6, (.im (.int .i64 ((((0 : Nat)) : Int)))))] [] (AI (@exL_id) (AI (@vaL_id) (AI (@exV_id) (AI (@vaV_id) (AI ndLs_id (AI nlVs_id (AI ndV_id nlV_id))))))) ?_
  refine ALp.upto l[m].e.length (fun _ => True) (fun j => ⟨dn 84 [(0, .sl (l.map ndV) .ro), (1, (.im (.int .i64 (gfold exn (l[m].e.take (j)) (v - 1))))), (5, (.im (.int .i64 ((m : Int))))), (6, (.im (.int .i64 ((((j : Nat)) : Int)))))], ofl []⟩) ?_ 0 (Nat.zero_le _) trivial
  intro j hj _ hnext1
  refine wG Y12_CV (AI hlt' (AI hg (AI (@Int.natCast_nonneg) (AI (@List.length_map.{0, 0}) ND)))) ?_
  refine AWp.condAB rfl rfl (fun hE1 => ?_) (fun hE1 => ?_)
  · obtain ⟨hlu, hpu⟩ := pair_cond hE1
    have hlu' : (j : Int) < (l[m].e.length : Int) := by omega
    have hj1 := wrap_succ hlu (by omega)
    have hg1 := get_some hlu
    have hb1 := gfold_bound (f := exn) (l := l[m].e.take j) (fun x _ => exn_bound x) (v - 1) (by omega)
    have hc := c_exprs l[m].e[j] (he2 _ (List.getElem_mem hlu)) _ hpu (by omega)
    rw [← gfold_take hlu hpu] at hc
    refine wG Y12_CV (AI hlt' (AI hg (AI hlu' (AI hg1 (AI (@Int.natCast_nonneg) (AI ND EX)))))) ?_
    refine AR.callP hc @exV_eq (AI (@exL_id) (AI (@vaL_id) (AI (@exV_id) (AI (@vaV_id) (AI ndLs_id (AI nlVs_id (AI ndV_id nlV_id))))))) ?_
    refine goG Y12_CV True.intro ?_
    refine wG Y12_CV hj1 ?_
    refine ALp.cutP 0 [(0, .sl (l.map ndV) .ro), (1, (.im (.int .i64 (gfold exn (l[m].e.take (j + 1)) (v - 1))))), (5, (.im (.int .i64 ((m : Int))))), (6, (.im (.int .i64 ((((j + 1 : Nat)) : Int)))))] [] (AI (@exL_id) (AI (@vaL_id) (AI (@exV_id) (AI (@vaV_id) (AI ndLs_id (AI nlVs_id (AI ndV_id nlV_id))))))) ?_
    exact hnext1 (j + 1) (by omega) (by omega) trivial
  rw [pair_stop (fun x _ => exn_bound x) hj (by omega) hE1]
  clear hnext1 hE1
  have q1 := r1 hL _ k0.1 (by omega)
  have k1 := lsn_bound l[m].l _ k0.1
  have q2 := r2 hEl _ k1.1 (by omega)
  have k2 := lsn_bound l[m].el _ k1.1
  refine whG Y12_CV True.intro ?_
  refine Blk'.here (Thn.n ?_)
  refine wG Y12_CV (AI hlt' (AI hg ND)) ?_
  refine AR.callP q1 True.intro (AI (@exL_id) (AI (@vaL_id) (AI (@exV_id) (AI (@vaV_id) (AI ndLs_id (AI nlVs_id (AI ndV_id nlV_id))))))) ?_
  refine goG Y12_CV True.intro ?_
  refine wG Y12_CV (AI hlt' (AI hg ND)) ?_
  refine AR.callP q2 True.intro (AI (@exL_id) (AI (@vaL_id) (AI (@exV_id) (AI (@vaV_id) (AI ndLs_id (AI nlVs_id (AI ndV_id nlV_id))))))) ?_
  refine goG Y12_CV True.intro ?_
  refine wG Y12_CV True.intro ?_
  generalize lsn l[m].el (lsn l[m].l (gfold exn l[m].e (v - 1))) = n3 at k2 htk ⊢
  refine AWp.loop ?_
  refine ALp.cutP 0 [(0, .sl (l.map ndV) .ro), (1, (.im (.int .i64 (gfold (fun c m => lsn c (m - 1)) (l[m].cs.take (0)) n3)))), (5, (.im (.int .i64 ((m : Int))))), (7, (.im (.int .i64 ((((0 : Nat)) : Int)))))] [] (AI (@exL_id) (AI (@vaL_id) (AI (@exV_id) (AI (@vaV_id) (AI ndLs_id (AI nlVs_id (AI ndV_id nlV_id))))))) ?_
  have hcb : ∀ c ∈ l[m].cs, ∀ n : Int, 0 < n → 0 ≤ lsn c (n - 1) ∧ lsn c (n - 1) < n := fun c _ n hn => by have := lsn_bound c (n - 1) (by omega); omega
  refine ALp.upto l[m].cs.length (fun _ => True) (fun j => ⟨dn 84 [(0, .sl (l.map ndV) .ro), (1, (.im (.int .i64 (gfold (fun c m => lsn c (m - 1)) (l[m].cs.take (j)) n3)))), (5, (.im (.int .i64 ((m : Int))))), (7, (.im (.int .i64 ((((j : Nat)) : Int)))))], ofl []⟩) ?_ 0 (Nat.zero_le _) trivial
  intro j hj _ hnext3
  refine wG Y12_CV (AI hlt' (AI hg (AI (@Int.natCast_nonneg) (AI (@List.length_map.{0, 0}) ND)))) ?_
  refine AWp.condAB rfl rfl (fun hE3 => ?_) (fun hE3 => ?_)
  · obtain ⟨hlu, hpu⟩ := pair_cond hE3
    have hlu' : (j : Int) < (l[m].cs.length : Int) := by omega
    have hj1 := wrap_succ hlu (by omega)
    have hg1 := get_some hlu
    have hb1 := gfold_bound (f := fun c m => lsn c (m - 1)) (l := l[m].cs.take j) (fun c hc => hcb c (List.mem_of_mem_take hc)) n3 (by omega)
    have htk3 := gfold_take (f := fun c m => lsn c (m - 1)) hlu hpu
    generalize gfold (fun c m => lsn c (m - 1)) (l[m].cs.take j) n3 = v3 at hpu hb1 htk3 hE3 ⊢
    have hw3 : IntKind.i64.wrap (v3 - 1) = v3 - 1 := wrap_in (by omega)
    have hc := r3 l[m].cs[j] (List.getElem_mem hlu) (hC2 _ (List.getElem_mem hlu)) (v3 - 1) (by omega) (by omega)
    rw [← htk3] at hc
    refine wG Y12_CV (AI hlt' (AI hg (AI hlu' (AI hg1 (AI hw3 (AI (@Int.natCast_nonneg) ND)))))) ?_
    refine AR.callP hc nlV_eq (AI (@exL_id) (AI (@vaL_id) (AI (@exV_id) (AI (@vaV_id) (AI ndLs_id (AI nlVs_id (AI ndV_id nlV_id))))))) ?_
    refine goG Y12_CV True.intro ?_
    refine wG Y12_CV hj1 ?_
    refine ALp.cutP 0 [(0, .sl (l.map ndV) .ro), (1, (.im (.int .i64 (gfold (fun c m => lsn c (m - 1)) (l[m].cs.take (j + 1)) n3)))), (5, (.im (.int .i64 ((m : Int))))), (7, (.im (.int .i64 ((((j + 1 : Nat)) : Int)))))] [] (AI (@exL_id) (AI (@vaL_id) (AI (@exV_id) (AI (@vaV_id) (AI ndLs_id (AI nlVs_id (AI ndV_id nlV_id))))))) ?_
    exact hnext3 (j + 1) (by omega) (by omega) trivial
  rw [pair_stop hcb hj (by omega) hE3, ← htk]
  clear hnext3 hE3
  refine whG Y12_CV True.intro ?_
  refine Blk'.here (Thn.n ?_)
  refine wG Y12_CV hm1 ?_
  refine ALp.cutP 0 [(0, .sl (l.map ndV) .ro), (1, (.im (.int .i64 (gfold ndn (l.take (m + 1)) n)))), (5, (.im (.int .i64 ((((m + 1 : Nat)) : Int)))))] [] (AI (@exL_id) (AI (@vaL_id) (AI (@exV_id) (AI (@vaV_id) (AI ndLs_id (AI nlVs_id (AI ndV_id nlV_id))))))) ?_
  exact hnext (m + 1) (by omega) (by omega) trivial
end Go.Proofs.YtfggemopnlffeaaGreat
namespace Go.Proofs.YtfggemopnlffeaaGreat
set_option linter.unusedSimpArgs false
set_option linter.unusedVariables false
set_option linter.unnecessarySimpa false
open Go.RowKit
theorem gfold_le {α : Type} {f : α → Int → Int} {l : List α} (h : ∀ t ∈ l, ∀ n, 0 < n → 0 ≤ f t n ∧ f t n ≤ n) : ∀ n, 0 ≤ n → 0 ≤ gfold f l n ∧ gfold f l n ≤ n := by
  induction l with
  | nil => intro n hn; exact ⟨hn, Int.le_refl _⟩
  | cons t l ih =>
    intro n hn
    have e : gfold f (t :: l) n = gfold f l (if 0 < n then f t n else n) := rfl
    rw [e]
    have h2 : 0 ≤ (if 0 < n then f t n else n) ∧ (if 0 < n then f t n else n) ≤ n := by
      split
      · rename_i hp; have := h t (by simp) n hp; omega
      · omega
    have h3 := ih (fun x hx => h x (by simp [hx])) _ h2.1
    omega
theorem gfold_neg {α : Type} {f : α → Int → Int} : ∀ (l : List α) (n : Int), ¬ 0 < n → gfold f l n = n
  | [], _, _ => rfl
  | x :: l, n, h => by
    have e : gfold f (x :: l) n = gfold f l (if 0 < n then f x n else n) := rfl
    rw [e, if_neg h]
    exact gfold_neg l n h
theorem pair_end {α : Type} {f : α → Int → Int} {l : List α} {m : Nat} (hm : m ≤ l.length) {n : Int} (h : (decide ((m : Int) < l.length) && decide (0 < gfold f (l.take m) n)) = false) : gfold f (l.take m) n = gfold f l n := by
  simp only [Bool.and_eq_false_iff, decide_eq_false_iff_not] at h
  rcases h with h | h
  · rw [List.take_of_length_le (by omega)]
  · have e : gfold f l n = gfold f (l.drop m) (gfold f (l.take m) n) := by
      unfold gfold
      rw [← List.foldl_append, List.take_append_drop]
    rw [e, gfold_neg _ _ h]
theorem Y11_CW : type_of% (AI @F_ag_41 (AI @F_el_22 (AI @F_fl_44_1 (AI @F_sz_41 (@F_sz_44))))) := AI @F_ag_41 (AI @F_el_22 (AI @F_fl_44_1 (AI @F_sz_41 (@F_sz_44))))
theorem c_variablesN (vs : List Va) (n : Int) (hn : ¬ 0 < n) : PC Tryz.prog 11 [(V.sl (vs.map vaV) .ro), (.im (.int .i64 (n)))] (.im (.int .i64 (n))) := by
  have hn' : ¬ n > 0 := hn
  refine PC.enter 24 Tryz.func11 rfl (by decide) rfl rfl (s := [(0, (V.sl (vs.map vaV) .ro)), (1, (.im (.int .i64 (n))))]) (by rfl) ?_
  refine wG Y11_CW True.intro ?_
  refine AWp.loop ?_
  refine ALp.round ?_
  refine wG Y11_CW (AI hn' (AI (@List.length_map.{0, 0}) @Bool.and_false)) ?_
  exact Fin.oneP
def lgN (u : Un) : Int := gfold (fun f m => lsn f.body (gfold (fun v : Va => lft v.ty) f.vars m)) u.funcs (gfold (fun v : Va => lft v.ty) u.globals (3000 - u.funcs.length))
def lgE (u : Un) : Bool := decide (lgN u ≤ 0) || decide (40 < u.data.length)
theorem Y5_CW : type_of% (AI @F_ag_22 (AI @F_ag_23 (AI @F_ag_24 (AI @F_ag_35 (AI @F_el_23 (AI @F_el_24 (AI @F_fl_26_0 (AI @F_fl_26_1 (AI @F_fl_26_2 (AI @F_fl_37_1 (AI @F_fl_37_2 (AI @F_sz_22 (AI @F_sz_23 (AI @F_sz_24 (AI @F_sz_35 (AI @F_sz_37 (@F_sz_91))))))))))))))))) := AI @F_ag_22 (AI @F_ag_23 (AI @F_ag_24 (AI @F_ag_35 (AI @F_el_23 (AI @F_el_24 (AI @F_fl_26_0 (AI @F_fl_26_1 (AI @F_fl_26_2 (AI @F_fl_37_1 (AI @F_fl_37_2 (AI @F_sz_22 (AI @F_sz_23 (AI @F_sz_24 (AI @F_sz_35 (AI @F_sz_37 (@F_sz_91))))))))))))))))
set_option maxHeartbeats 2000000 in
theorem c_large (u : Un) (hu : fitU u) : PC Tryz.prog 5 [unV u] (.im (.bool (lgE u))) := by
  have hfl := hu.fl
  have hgl := hu.gl
  have hfv : fitV u.globals := ⟨by omega, fun v hv => (hu.gn v hv).1⟩
  have hw : IntKind.i64.wrap (3000 - (u.funcs.length : Int)) = 3000 - (u.funcs.length : Int) := wrap_in (by omega)
  have h1 : PC Tryz.prog 11 [.sl (u.globals.map vaV) .ro, (.im (.int .i64 (3000 - (u.funcs.length : Int))))] (.im (.int .i64 (gfold (fun v : Va => lft v.ty) u.globals (3000 - u.funcs.length)))) := by
    by_cases h : 0 < 3000 - (u.funcs.length : Int)
    · exact c_variables u.globals hfv _ (by omega) (by omega)
    · rw [gfold_neg _ _ h]
      exact c_variablesN u.globals _ h
  have hb0 : gfold (fun v : Va => lft v.ty) u.globals (3000 - u.funcs.length) ≤ 4194304 := by
    by_cases h : 0 < 3000 - (u.funcs.length : Int)
    · have := gfold_bound (f := fun v : Va => lft v.ty) (l := u.globals) (fun t _ => lft_bound t.ty) (3000 - u.funcs.length) (by omega)
      omega
    · rw [gfold_neg _ _ h]; omega
  unfold lgE lgN
  generalize gfold (fun v : Va => lft v.ty) u.globals (3000 - u.funcs.length) = n0 at h1 hb0 ⊢
  refine PC.enter 46 Tryz.func5 rfl (by decide) rfl rfl (s := [(0, unV u)]) (by rfl) ?_
  rw [unV_eq]
  refine wG Y5_CW (AI hw @List.length_map.{0, 0}) ?_
  refine AR.callP h1 True.intro (AI (@exL_id) (AI (@vaL_id) (AI (@exV_id) (AI (@vaV_id) (AI tsL_id (AI ndLs_id (AI nlVs_id (AI ndV_id (AI plVs_id (AI plV_id (AI scL_id (AI fnL_id (AI unV_id fnV_id))))))))))))) ?_
  refine goG Y5_CW True.intro ?_
  refine wG Y5_CW True.intro ?_
  refine AWp.loop ?_
  refine ALp.cutP 1 [(1, .pt 0 0), (3, (.im (.int .i64 (gfold (fun (f : Fun) m => lsn f.body (gfold (fun v : Va => lft v.ty) f.vars m)) (u.funcs.take (0)) n0)))), (4, (.im (.int .i64 ((((0 : Nat)) : Int)))))] [.box [.sl (u.globals.map vaV) .ro, .sl (u.data.map scV) .ro, .sl (u.funcs.map fnV) .ro]] (AI (@exL_id) (AI (@vaL_id) (AI (@exV_id) (AI (@vaV_id) (AI tsL_id (AI ndLs_id (AI nlVs_id (AI ndV_id (AI plVs_id (AI plV_id (AI scL_id (AI fnL_id (AI unV_id fnV_id))))))))))))) ?_
  have hle : ∀ (f : Fun) (m : Int), 0 < m → 0 ≤ (fun (f : Fun) m => lsn f.body (gfold (fun v : Va => lft v.ty) f.vars m)) f m ∧ (fun (f : Fun) m => lsn f.body (gfold (fun v : Va => lft v.ty) f.vars m)) f m ≤ m := fun f m hm => by
    have k0 := gfold_bound (f := fun v : Va => lft v.ty) (l := f.vars) (fun t _ => lft_bound t.ty) m (by omega)
    have k1 := lsn_bound f.body _ k0.1
    simp only
    omega
  refine ALp.upto u.funcs.length (fun _ => True) (fun m => ⟨dn 46 [(1, .pt 0 0), (3, (.im (.int .i64 (gfold (fun (f : Fun) m => lsn f.body (gfold (fun v : Va => lft v.ty) f.vars m)) (u.funcs.take (m)) n0)))), (4, (.im (.int .i64 ((((m : Nat)) : Int)))))], ofl [.box [.sl (u.globals.map vaV) .ro, .sl (u.data.map scV) .ro, .sl (u.funcs.map fnV) .ro]]⟩) ?_ 0 (Nat.zero_le _) trivial
  intro m hm _ hnext
  refine wG Y5_CW (AI (@Int.natCast_nonneg) @List.length_map.{0, 0}) ?_
  refine AWp.condAB rfl rfl (fun hE => ?_) (fun hE => ?_)
  · obtain ⟨hlt, hp⟩ := pair_cond hE
    have hlt' : (m : Int) < (u.funcs.length : Int) := by omega
    have hm1 := wrap_succ hlt (by omega)
    have hg := get_some hlt
    have hf := hu.fn _ (List.getElem_mem hlt)
    have htk := gfold_take (f := (fun (f : Fun) m => lsn f.body (gfold (fun v : Va => lft v.ty) f.vars m))) hlt hp
    have hb : gfold (fun (f : Fun) m => lsn f.body (gfold (fun v : Va => lft v.ty) f.vars m)) (u.funcs.take m) n0 ≤ 4194304 := by
      by_cases h : 0 < n0
      · have := gfold_le (f := (fun (f : Fun) m => lsn f.body (gfold (fun v : Va => lft v.ty) f.vars m))) (l := u.funcs.take m) (fun t _ => hle t) n0 (by omega)
        omega
      · rw [gfold_neg _ _ h]; omega
    generalize gfold (fun (f : Fun) m => lsn f.body (gfold (fun v : Va => lft v.ty) f.vars m)) (u.funcs.take m) n0 = v at hp hb htk hE ⊢
    have hfv2 : fitV u.funcs[m].vars := ⟨by have := hf.vl; omega, fun v hv => (hf.vn v hv).1⟩
    have q1 := c_variables u.funcs[m].vars hfv2 v (by omega) (by omega)
    have k0 := gfold_bound (f := fun v : Va => lft v.ty) (l := u.funcs[m].vars) (fun t _ => lft_bound t.ty) v (by omega)
    have q2 := c_lsn u.funcs[m].body hf.bd _ k0.1 (by omega)
    rw [← htk] at q2
    generalize gfold (fun v : Va => lft v.ty) u.funcs[m].vars v = v2 at q1 q2
    refine wdG Y5_CW (AI hlt' (AI hg FU)) ?_
    refine AR.callP q1 True.intro (AI (@exL_id) (AI (@vaL_id) (AI (@exV_id) (AI (@vaV_id) (AI tsL_id (AI ndLs_id (AI nlVs_id (AI ndV_id (AI plVs_id (AI plV_id (AI scL_id (AI fnL_id (AI unV_id fnV_id))))))))))))) ?_
    refine goG Y5_CW True.intro ?_
    refine AR.callP q2 True.intro (AI (@exL_id) (AI (@vaL_id) (AI (@exV_id) (AI (@vaV_id) (AI tsL_id (AI ndLs_id (AI nlVs_id (AI ndV_id (AI plVs_id (AI plV_id (AI scL_id (AI fnL_id (AI unV_id fnV_id))))))))))))) ?_
    refine goG Y5_CW True.intro ?_
    refine wdG Y5_CW hm1 ?_
    refine ALp.cutP 1 [(1, .pt 0 0), (3, (.im (.int .i64 (gfold (fun (f : Fun) m => lsn f.body (gfold (fun v : Va => lft v.ty) f.vars m)) (u.funcs.take (m + 1)) n0)))), (4, (.im (.int .i64 ((((m + 1 : Nat)) : Int)))))] [.box [.sl (u.globals.map vaV) .ro, .sl (u.data.map scV) .ro, .sl (u.funcs.map fnV) .ro]] (AI (@exL_id) (AI (@vaL_id) (AI (@exV_id) (AI (@vaV_id) (AI tsL_id (AI ndLs_id (AI nlVs_id (AI ndV_id (AI plVs_id (AI plV_id (AI scL_id (AI fnL_id (AI unV_id fnV_id))))))))))))) ?_
    exact hnext (m + 1) (by omega) (by omega) trivial
  rw [pair_end hm hE]
  clear hnext hE
  generalize gfold (fun (f : Fun) m => lsn f.body (gfold (fun v : Va => lft v.ty) f.vars m)) u.funcs n0 = r
  have e40 : decide (40 < u.data.length) = decide ((40 : Int) < (u.data.length : Int)) := by simp; omega
  rw [e40]
  refine wG Y5_CW @List.length_map.{0, 0} ?_
  exact Fin.oneP
end Go.Proofs.YtfggemopnlffeaaGreat
namespace Go.Proofs.YtfggemopnlffeaaGreat
set_option linter.unusedSimpArgs false
set_option linter.unusedVariables false
set_option linter.unnecessarySimpa false
open Go.RowKit
def plnT (t : Ty) : Bool := t.kind == 0 || t.kind == 6 || (t.kind == 2 && t.size == 4)
def plnV (vs : List Va) : Bool := vs.all fun v => plnT v.ty
theorem pln_tyOf {vs : List Va} (h : plnV vs = true) (s : ByteArray) : plnT (tyOf vs s) = true := by
  unfold tyOf
  cases q : vs.find? fun v => eqS v.name s with
  | none => rfl
  | some v => exact List.all_eq_true.1 h v (List.mem_of_find?_eq_some q)
theorem pln_acc {t : Ty} (h : plnT t = true) (off w : Int) : accT t off w = true := by
  unfold plnT at h
  unfold accT
  rw [if_pos]
  simp at h ⊢
  omega
theorem pln_free {t : Ty} (h : plnT t = true) : freeT t = true ∨ wordT t = true := by
  unfold plnT at h
  unfold freeT wordT
  simp at h ⊢
  omega
theorem pln_kind {t : Ty} (h : plnT t = true) : t.kind ≠ 3 := by
  unfold plnT at h
  simp at h
  omega
theorem pln_prm {vs : List Va} (h : plnV vs = true) (e : Ex) (w : Int) : prm vs e w = true := by
  unfold prm
  rw [pln_acc (pln_tyOf h _)]
  simp
theorem pln_acs {vs : List Va} (h : plnV vs = true) : ∀ e : Ex, acs vs e = true := by
  refine Ex.induct fun o n s w l ih => ?_
  rw [acs_mk, Bool.and_eq_true, List.all_eq_true]
  refine ⟨?_, ih⟩
  split
  · split
    · exact pln_prm h _ _
    · rfl
  · rfl
theorem pln_stm {vs : List Va} (h : plnV vs = true) (s : Nd) : stmE vs s = true := by
  unfold stmE
  rw [List.all_eq_true.2 fun e _ => pln_acs h e, Bool.true_and]
  split
  · unfold asgT
    rcases pln_free (pln_tyOf h s.name) with q | q <;> rw [q] <;> simp
  · split
    · rw [pln_prm h, Bool.true_and]
      have : (fnd vs (s.e.headD (.mk 0 0 .empty 0 [])) 4).2 = false := by
        unfold fnd
        have q := pln_kind (pln_tyOf h (thr (s.e.headD (.mk 0 0 .empty 0 []))).1)
        rw [if_neg (fun h' => by simp only [Bool.and_eq_true, beq_iff_eq] at h'; exact q h'.2)]
      rw [this]
      simp
    · rfl
theorem pln_lis {vs : List Va} (h : plnV vs = true) : ∀ l : List Nd, lisL vs l = true := by
  refine subs_induct fun l hl => ?_
  unfold lisL
  rw [List.all_eq_true]
  intro t ht
  rw [lisT_eq, pln_stm h, Bool.true_and, List.all_eq_true]
  exact fun c hc => hl t ht c hc
theorem pln_unit {u : Un} (h0 : unE u = 0) (hg : plnV u.globals = true) (hf : u.funcs.all (fun f => plnV f.vars) = true) : utE u = 0 := by
  unfold utE
  rw [if_pos h0, if_pos]
  rw [List.all_eq_true]
  intro f hm
  refine pln_lis ?_ _
  unfold plnV at hg ⊢
  rw [List.all_append, hg, Bool.true_and]
  exact List.all_eq_true.1 hf f hm
end Go.Proofs.YtfggemopnlffeaaGreat
