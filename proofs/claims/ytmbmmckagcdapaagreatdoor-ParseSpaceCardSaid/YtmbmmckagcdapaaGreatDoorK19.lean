import Derived.Test.YtmbmmckagcdapaaGreatDoorK10
import Derived.Test.YtmbmmckagcdapaaGreatDoorK16
import Derived.Test.YtmbmmckagcdapaaGreatDoorK02
set_option linter.unusedSimpArgs false
set_option linter.unusedVariables false
set_option linter.unnecessarySimpa false
namespace Go.Proofs.YtmbmmckagcdapaaGreatDoor
open Go.RowKit
theorem base_one {k s c : Int} {ne nf : Nat} (h : base k s c ne nf = true) : ne = 0 ∨ ne = 1 := by
  rcases base_cases h with h | h | h | h | h <;> omega
theorem Y159_B5 : type_of% (AI @F_ag_218 (AI @F_ag_91 (AI @F_ag_92 (AI @F_ag_94 (AI @F_al_218 (AI @F_el_91 (AI @F_el_92 (AI @F_fl_218_1 (AI @F_fl_94_3 (AI @F_fl_94_4 (AI @F_sz_218 (AI @F_sz_91 (AI @F_sz_92 (@F_sz_94)))))))))))))) := AI @F_ag_218 (AI @F_ag_91 (AI @F_ag_92 (AI @F_ag_94 (AI @F_al_218 (AI @F_el_91 (AI @F_el_92 (AI @F_fl_218_1 (AI @F_fl_94_3 (AI @F_fl_94_4 (AI @F_sz_218 (AI @F_sz_91 (AI @F_sz_92 (@F_sz_94)))))))))))))
set_option maxHeartbeats 1000000 in
theorem c_within : ∀ (t : Ty), fit t → frm t = true → PC Tryz.prog 159 [tyV t] (.im (.bool (wit t))) := by
  refine Ty.induct fun o k s c es fs hE hF => ?_
  intro hfit hfrm
  obtain ⟨hl1, hl2, hfE, hfF⟩ := fit_mk hfit
  obtain ⟨hb, hof, hfs, hes⟩ := frm_inv hfrm
  have hs := c_size _ hfit hfrm
  refine PC.enter 37 Tryz.func159 rfl (by decide) rfl rfl (s := [(0, tyV (.mk o k s c es fs))]) (by rfl) ?_
  simp only [tyV_mk]
  by_cases h1 : (fs.length : Int) > 64
  · have e : wit (.mk o k s c es fs) = false := by rw [wit_mk]; simp; omega
    rw [e]; refine wG Y159_B5 h1 ?_; exact Fin.oneP
  refine wG Y159_B5 h1 ?_
  refine AR.callP hs @tyV_mk True.intro ?_
  by_cases h2 : siz (.mk o k s c es fs) > 65536
  · have e : wit (.mk o k s c es fs) = false := by rw [wit_mk]; simp; omega
    rw [e]; refine goG Y159_B5 (AI h1 h2) ?_; refine wG Y159_B5 True.intro ?_; exact Fin.oneP
  refine goG Y159_B5 (AI h1 h2) ?_
  have e0 : wit (.mk o k s c es fs) = (fs.all wit && es.all wit) := by
    rw [wit_mk]; have a1 : decide (fs.length ≤ 64) = true := by simp; omega
    have a2 : decide (siz (.mk o k s c es fs) ≤ 65536) = true := by simp; omega
    rw [a1, a2]; simp
  rw [e0]
  clear hs h2 e0
  refine wG Y159_B5 True.intro ?_
  refine AWp.loop ?_
  refine ALp.cutP 1 [(0, .ag [.im (.int .i64 k), .im (.int .i64 s), .im (.int .i64 c), .sl (es.map tyV) .ro, .sl (fs.map fdV) .ro]), (1, .pt 0 0), (15, .sl (fs.map fdV) .ro), (16, (.im (.int .i64 (fs.length)))), (17, (.im (.int .i64 ((((0 : Nat)) : Int)))))] [.box [.im (.int .i64 k), .im (.int .i64 s), .im (.int .i64 c), .sl (es.map tyV) .ro, .sl (fs.map fdV) .ro]] True.intro ?_
  refine ALp.upto fs.length (AllTo wit fs) (fun m => ⟨dn 37 [(0, .ag [.im (.int .i64 k), .im (.int .i64 s), .im (.int .i64 c), .sl (es.map tyV) .ro, .sl (fs.map fdV) .ro]), (1, .pt 0 0), (15, .sl (fs.map fdV) .ro), (16, (.im (.int .i64 (fs.length)))), (17, (.im (.int .i64 ((((m : Nat)) : Int)))))], ofl [.box [.im (.int .i64 k), .im (.int .i64 s), .im (.int .i64 c), .sl (es.map tyV) .ro, .sl (fs.map fdV) .ro]]⟩) ?_ 0 (Nat.zero_le _) (AllTo.zero _ _)
  intro m hm hI hnext
  by_cases hlt : m < fs.length
  · have hlt' : (m : Int) < (fs.length : Int) := by omega
    have hg := get_some hlt; have hm1 := wrap_succ hlt (by omega)
    have hc := hF fs[m] (List.getElem_mem hlt) (hfF _ (List.getElem_mem hlt)) (hfs _ (List.getElem_mem hlt)); refine wG Y159_B5 (AI (@tyV_firm) (AI (@fdV_firm) (AI (@tyV_strip) (AI (@fdV_strip) (AI (@tyV_live) (AI (@tyV_size) (AI (@tyV_isAg) (AI (@tyV_cells) (AI (@fdV_live) (AI (@fdV_size) (AI (@fdV_isAg) (AI (@fdV_cells) (AI (@List.getElem?_map.{0, 0}) (AI (@Int.natCast_nonneg) (AI hlt' (AI hg hm1)))))))))))))))) ?_
    by_cases b : wit fs[m] = true
    · rw [b] at hc
      refine AR.callP hc @tyV_eq True.intro ?_; refine goG Y159_B5 True.intro ?_; refine wG Y159_B5 hm1 ?_; refine ALp.cutP 1 [(0, .ag [.im (.int .i64 k), .im (.int .i64 s), .im (.int .i64 c), .sl (es.map tyV) .ro, .sl (fs.map fdV) .ro]), (1, .pt 0 0), (15, .sl (fs.map fdV) .ro), (16, (.im (.int .i64 (fs.length)))), (17, (.im (.int .i64 ((((m + 1 : Nat)) : Int)))))] [.box [.im (.int .i64 k), .im (.int .i64 s), .im (.int .i64 c), .sl (es.map tyV) .ro, .sl (fs.map fdV) .ro]] True.intro ?_; exact hnext (m + 1) (by omega) (by omega) (hI.succ hlt b)
    · have b : wit fs[m] = false := by simpa using b
      rw [b] at hc; refine AR.callP hc @tyV_eq True.intro ?_; refine goG Y159_B5 True.intro ?_; refine wG Y159_B5 hm1 ?_; rw [not_all_of hlt b, Bool.false_and]; exact Fin.oneP
  · have hall := hI.done (by omega)
    have hlt' : ¬ (m : Int) < (fs.length : Int) := by omega
    clear hnext hI hm hlt; rw [hall, Bool.true_and]; rcases base_one hb with he | he
    · obtain rfl := List.length_eq_zero_iff.1 he
      refine wG Y159_B5 hlt' ?_; exact Fin.oneP
    · obtain ⟨x, rfl⟩ := List.length_eq_one_iff.1 he
      have hc := hE x (by simp) (hfE x (by simp)) (hes x (by simp))
      refine wG Y159_B5 (AI (@tyV_firm) (AI (@fdV_firm) (AI (@tyV_strip) (AI (@fdV_strip) (AI (@tyV_live) (AI (@tyV_size) (AI (@tyV_isAg) (AI (@tyV_cells) (AI (@fdV_live) (AI (@fdV_size) (AI (@fdV_isAg) (AI (@fdV_cells) (AI (@List.getElem?_map.{0, 0}) (AI (@Int.natCast_nonneg) hlt')))))))))))))) ?_; refine AR.callP hc @tyV_eq True.intro ?_; refine goG Y159_B5 True.intro ?_; simp only [List.all_cons, List.all_nil, Bool.and_true]; refine wG Y159_B5 True.intro ?_; exact Fin.oneP
theorem Y89_B5 : type_of% (AI @F_ag_94 (@F_sz_94)) := AI @F_ag_94 (@F_sz_94)
theorem i64_64 : I64 64 := by unfold I64; omega
theorem c_check (t : Ty) (hfit : fit t) : PC Tryz.prog 89 [tyV t] (.im (.int .i64 (chk t))) := by
  have h1 := c_shallow t hfit 64 i64_64
  have h2 := c_formed t hfit
  have h3 : frm t = true → _ := c_within t hfit
  refine PC.enter 15 Tryz.func89 rfl (by decide) rfl rfl (s := [(0, tyV t)]) (by rfl) ?_
  simp only [tyV_eq]
  unfold chk
  refine wG Y89_B5 True.intro ?_
  by_cases b1 : shal t 64 = true
  case neg =>
    have b1 : shal t 64 = false := by simpa using b1
    rw [b1] at h1 ⊢; refine AR.callP h1 @tyV_eq True.intro ?_; refine goG Y89_B5 True.intro ?_; refine wG Y89_B5 True.intro ?_; exact Fin.oneP
  rw [b1] at h1 ⊢
  refine AR.callP h1 @tyV_eq True.intro ?_
  refine goG Y89_B5 True.intro ?_
  refine wG Y89_B5 True.intro ?_
  by_cases b2 : frm t = true
  case neg =>
    have b2 : frm t = false := by simpa using b2
    rw [b2] at h2 ⊢; refine AR.callP h2 @tyV_eq True.intro ?_; refine goG Y89_B5 True.intro ?_; refine wG Y89_B5 True.intro ?_; exact Fin.oneP
  have h3 := h3 b2
  rw [b2] at h2 ⊢
  refine AR.callP h2 @tyV_eq True.intro ?_
  refine goG Y89_B5 True.intro ?_
  refine wG Y89_B5 True.intro ?_
  by_cases b3 : wit t = true
  case neg =>
    have b3 : wit t = false := by simpa using b3
    rw [b3] at h3 ⊢; refine AR.callP h3 @tyV_eq True.intro ?_; refine goG Y89_B5 True.intro ?_; refine wG Y89_B5 True.intro ?_; exact Fin.oneP
  rw [b3] at h3 ⊢
  refine AR.callP h3 @tyV_eq True.intro ?_
  refine goG Y89_B5 True.intro ?_
  refine wG Y89_B5 True.intro ?_
  exact Fin.oneP
theorem nlV_eq (c : List Nd) : nlV c = .sl (c.map ndV) .ro := rfl
theorem nl_all (l : List (List Nd)) : allZ 1 (l.map nlV) = true := by
  unfold allZ
  rw [List.all_map]
  exact List.all_eq_true.2 fun x _ => rfl
theorem fit_subs {t : Nd} (h : fitN t) : (subs t).length ≤ 4194306 ∧ ∀ c ∈ subs t, fitNL c := by
  obtain ⟨_, _, _, h4, h5, h6, h7⟩ := fitN_inv h
  refine ⟨by simp [subs]; omega, fun c hc => ?_⟩
  unfold subs at hc
  rcases List.mem_cons.1 hc with rfl | hc
  · exact h4
  · rcases List.mem_cons.1 hc with rfl | hc
    · exact h5
    · exact h7 c hc
theorem Y161_CF : type_of% (AI @F_ag_163 (AI @F_ag_35 (AI @F_al_163 (AI @F_al_35 (AI @F_el_163 (AI @F_el_283 (AI @F_fl_165_4 (AI @F_fl_165_5 (AI @F_fl_165_6 (AI @F_sz_163 (@F_sz_35))))))))))) := AI @F_ag_163 (AI @F_ag_35 (AI @F_al_163 (AI @F_al_35 (AI @F_el_163 (AI @F_el_283 (AI @F_fl_165_4 (AI @F_fl_165_5 (AI @F_fl_165_6 (AI @F_sz_163 (@F_sz_35))))))))))
theorem c_lists (t : Nd) (ht : t.cs.length ≤ 4194304) : PC Tryz.prog 161 [ndV t] (.sl ((subs t).map nlV) .ro) := by
  obtain ⟨k, w, n, e, l, el, cs⟩ := t
  have ht : cs.length ≤ 4194304 := ht
  have h := c_concatN (xss := [[nlV l, nlV el], cs.map nlV]) (by simp) (by
    intro xs hx; simp only [List.mem_cons, List.not_mem_nil, or_false] at hx; rcases hx with rfl | rfl
    · rfl
    · exact nl_all cs) (by
    intro p xs hx; simp only [List.mem_cons, List.not_mem_nil, or_false] at hx; rcases hx with rfl | rfl
    · simp only [V.idsL, nlV_id, Bool.and_self]
    · exact nlVs_id p cs) (by simp; omega)
  have e1 : [[nlV l, nlV el], cs.map nlV].flatten = (subs (.mk k w n e l el cs)).map nlV := by simp [subs, Nd.l, Nd.el, Nd.cs]
  rw [e1] at h
  simp only [List.map_cons, List.map_nil] at h
  refine PC.enter 12 Tryz.func161 rfl (by decide) rfl rfl (s := [(0, ndV (.mk k w n e l el cs))]) (by rfl) ?_
  rw [ndV_mk]
  refine wG Y161_CF True.intro ?_
  refine AR.callW h True.intro (AI ndV_id (AI ndLs_id (AI nlVs_id nlV_id))) ?_
  refine goG Y161_CF True.intro ?_
  refine wG Y161_CF True.intro ?_
  refine Fin.gen0 (rs := [.tmp 2]) rfl (by first | exact .inl rfl | exact .inr rfl) (finG Y161_CF) ?_
  all_goals exact wkG (AI ndV_id (AI ndLs_id (AI nlVs_id nlV_id)))
theorem max_mx {α : Type} (f : α → Int) {l : List α} {m : Nat} (h : m < l.length) : (if f l[m] > mx ((l.take m).map f) then f l[m] else mx ((l.take m).map f)) = mx ((l.take (m + 1)).map f) := by
  rw [← mx_take f h]
  split <;> omega
theorem max_mx1 {α : Type} (f : α → Int) {l : List α} {m : Nat} (h : m < l.length) : (if 1 + f l[m] > 1 + mx ((l.take m).map f) then 1 + f l[m] else 1 + mx ((l.take m).map f)) = 1 + mx ((l.take (m + 1)).map f) := by
  rw [← mx_take f h]
  split <;> omega
theorem Y94_CF : type_of% (AI @F_ag_165 (AI @F_ag_35 (AI @F_al_165 (AI @F_el_163 (AI @F_el_35 (AI @F_sz_165 (@F_sz_35))))))) := AI @F_ag_165 (AI @F_ag_35 (AI @F_al_165 (AI @F_el_163 (AI @F_el_35 (AI @F_sz_165 (@F_sz_35))))))
theorem c_depth : ∀ l : List Nd, fitNL l → cnt l ≤ 4194304 → PC Tryz.prog 94 [.sl (l.map ndV) .ro] (.im (.int .i64 (dep l))) := by
  refine subs_induct fun l hl hf hc => ?_
  have hl1 := hf.1
  show PC _ _ _ (.im (.int .i64 (mx (l.map depT))))
  refine PC.enter 33 Tryz.func94 rfl (by decide) rfl rfl (s := [(0, .sl (l.map ndV) .ro)]) (by rfl) ?_
  refine wG Y94_CF True.intro ?_
  refine AWp.loop ?_
  refine ALp.cutP 0 [(3, (.im (.int .i64 (mx ((l.take (0)).map depT))))), (9, .sl (l.map ndV) .ro), (10, (.im (.int .i64 (l.length)))), (11, (.im (.int .i64 ((((0 : Nat)) : Int)))))] [] (AI ndV_id (AI ndLs_id (AI nlVs_id nlV_id))) ?_
  refine ALp.upto l.length (fun _ => True) (fun m => ⟨dn 33 [(3, (.im (.int .i64 (mx ((l.take (m)).map depT))))), (9, .sl (l.map ndV) .ro), (10, (.im (.int .i64 (l.length)))), (11, (.im (.int .i64 ((((m : Nat)) : Int)))))], ofl []⟩) ?_ 0 (Nat.zero_le _) trivial
  intro m hm _ hnext
  by_cases hlt : m < l.length
  · have hlt' : (m : Int) < (l.length : Int) := by omega
    have hm1 := wrap_succ hlt (by omega)
    have hg := get_some hlt; have ht := hf.2 _ (List.getElem_mem hlt); have hx := c_lists l[m] (fitN_inv ht).2.2.2.2.2.1; obtain ⟨hs1, hs2⟩ := fit_subs ht; have hcs : ∀ c ∈ subs l[m], 1 + cnt c ≤ cnt l := fun c hc => cnt_sub (List.getElem_mem hlt) hc
    have hR := fun c hc' => hl l[m] (List.getElem_mem hlt) c hc' (hs2 c hc') (by have := hcs c hc'; omega)
    have hmx := max_mx depT hlt; rw [depT_eq] at hmx; generalize subs l[m] = sb at hx hs1 hs2 hcs hR hmx; refine wG Y94_CF (AI hlt' (AI hg ND)) ?_; refine AR.callP hx ndV_eq (AI ndV_id (AI ndLs_id (AI nlVs_id nlV_id))) ?_; refine goG Y94_CF @List.length_map.{0, 0} ?_; refine wG Y94_CF @List.length_map.{0, 0} ?_; refine AWp.loop ?_; refine ALp.cutP 0 [(3, (.im (.int .i64 (mx ((l.take m).map depT))))), (6, (.im (.int .i64 (1 + mx ((sb.take (0)).map dep))))), (9, .sl (l.map ndV) .ro), (10, (.im (.int .i64 (l.length)))), (11, (.im (.int .i64 ((m : Int))))), (16, .sl (sb.map nlV) .ro), (17, (.im (.int .i64 (sb.length)))), (18, (.im (.int .i64 ((((0 : Nat)) : Int)))))] [] (AI ndV_id (AI ndLs_id (AI nlVs_id nlV_id))) ?_; refine ALp.upto sb.length (fun _ => True) (fun j => ⟨dn 33 [(3, (.im (.int .i64 (mx ((l.take m).map depT))))), (6, (.im (.int .i64 (1 + mx ((sb.take (j)).map dep))))), (9, .sl (l.map ndV) .ro), (10, (.im (.int .i64 (l.length)))), (11, (.im (.int .i64 ((m : Int))))), (16, .sl (sb.map nlV) .ro), (17, (.im (.int .i64 (sb.length)))), (18, (.im (.int .i64 ((((j : Nat)) : Int)))))], ofl []⟩) ?_ 0 (Nat.zero_le _) trivial
    intro j hj _ hnext2
    by_cases hlu : j < sb.length
    · have hlu' : (j : Int) < (sb.length : Int) := by omega
      have hj1 := wrap_succ hlu (by omega)
      have hg2 := get_some hlu; have hc2 := hR sb[j] (List.getElem_mem hlu); have hd0 := dep_nonneg sb[j]; have hd1 := dep_le_cnt sb[j]; have hd2 := hcs sb[j] (List.getElem_mem hlu); have hw : IntKind.i64.wrap (1 + dep sb[j]) = 1 + dep sb[j] := wrap_in (by omega)
      have hmx2 := max_mx1 dep hlu; refine wG Y94_CF (AI hlu' (AI hg2 ND)) ?_; refine AR.callP hc2 nlV_eq (AI ndV_id (AI ndLs_id (AI nlVs_id nlV_id))) ?_; refine goG Y94_CF (AI hw hmx2) ?_; refine wG Y94_CF hj1 ?_; refine ALp.cutP 0 [(3, (.im (.int .i64 (mx ((l.take m).map depT))))), (6, (.im (.int .i64 (1 + mx ((sb.take (j + 1)).map dep))))), (9, .sl (l.map ndV) .ro), (10, (.im (.int .i64 (l.length)))), (11, (.im (.int .i64 ((m : Int))))), (16, .sl (sb.map nlV) .ro), (17, (.im (.int .i64 (sb.length)))), (18, (.im (.int .i64 ((((j + 1 : Nat)) : Int)))))] [] (AI ndV_id (AI ndLs_id (AI nlVs_id nlV_id))) ?_; exact hnext2 (j + 1) (by omega) (by omega) trivial
    obtain rfl : j = sb.length := by omega
    clear hnext2; rw [List.take_length]; refine whG Y94_CF @Int.lt_irrefl ?_; refine Blk'.here (Thn.n ?_); refine wG Y94_CF (AI hmx hm1) ?_; refine ALp.cutP 0 [(3, (.im (.int .i64 (mx ((l.take (m + 1)).map depT))))), (9, .sl (l.map ndV) .ro), (10, (.im (.int .i64 (l.length)))), (11, (.im (.int .i64 ((((m + 1 : Nat)) : Int)))))] [] (AI ndV_id (AI ndLs_id (AI nlVs_id nlV_id))) ?_; exact hnext (m + 1) (by omega) (by omega) trivial
  obtain rfl : m = l.length := by omega
  clear hnext
  rw [List.take_length]
  refine wG Y94_CF @Int.lt_irrefl ?_
  exact Fin.oneP
theorem BN09 : type_of% (AI ndV_firm (AI ndV_strip (AI ndV_live (AI ndV_size (AI ndV_isAg (AI ndV_cells (AI nlV_firm (AI nlV_strip (AI nlV_live (AI nlV_size (AI nlV_isAg (AI nlV_cells (AI nlV_eq (AI (@List.getElem?_map.{0, 0}) @Int.natCast_nonneg)))))))))))))) := (AI ndV_firm (AI ndV_strip (AI ndV_live (AI ndV_size (AI ndV_isAg (AI ndV_cells (AI nlV_firm (AI nlV_strip (AI nlV_live (AI nlV_size (AI nlV_isAg (AI nlV_cells (AI nlV_eq (AI (@List.getElem?_map.{0, 0}) @Int.natCast_nonneg))))))))))))))
def plV (p : Nd × Bool) : V := .ag [.im (.int .i64 p.1.kind), .im (.int .i64 p.1.width), .im (.string p.1.name), .sl (p.1.e.map exV) .ro, .sl (p.1.l.map ndV) .ro, .sl (p.1.el.map ndV) .ro, .sl (p.1.cs.map nlV) .ro, .im (.bool p.2)]
theorem plV_eq (p : Nd × Bool) : plV p = .ag [.im (.int .i64 p.1.kind), .im (.int .i64 p.1.width), .im (.string p.1.name), .sl (p.1.e.map exV) .ro, .sl (p.1.l.map ndV) .ro, .sl (p.1.el.map ndV) .ro, .sl (p.1.cs.map nlV) .ro, .im (.bool p.2)] := rfl
theorem plV_live (p : Nd × Bool) : (plV p).live = true := rfl
theorem plV_size (p : Nd × Bool) : (plV p).size = 8 := rfl
theorem plV_isAg (p : Nd × Bool) : (plV p).isAg = true := rfl
theorem plV_firm (p : Nd × Bool) : (plV p).firm = true := rfl
theorem plV_strip (g : Bool) (p : Nd × Bool) : strip g (plV p) = plV p := rfl
theorem plV_cells (p : Nd × Bool) : (plV p).cells = [.im (.int .i64 p.1.kind), .im (.int .i64 p.1.width), .im (.string p.1.name), .sl (p.1.e.map exV) .ro, .sl (p.1.l.map ndV) .ro, .sl (p.1.el.map ndV) .ro, .sl (p.1.cs.map nlV) .ro, .im (.bool p.2)] := rfl
theorem plV_id (p : Nat → Bool) (x : Nd × Bool) : (plV x).ids p = true := by simp [plV, V.ids, V.idsL, exL_id, ndLs_id, nlVs_id]
theorem plVs_id (p : Nat → Bool) (l : List (Nd × Bool)) : V.idsL p (l.map plV) = true := idsL_map (plV_id p) l
theorem plVs_all (l : List (Nd × Bool)) : allZ 8 (l.map plV) = true := by
  unfold allZ
  rw [List.all_map]
  exact List.all_eq_true.2 fun x _ => rfl
theorem flatMap_snoc {α β : Type} (f : α → List β) {l : List α} {m : Nat} (h : m < l.length) : (l.take m).flatMap f ++ f l[m] = (l.take (m + 1)).flatMap f := by
  rw [List.take_succ_eq_append_getElem h, List.flatMap_append]
  simp
theorem flatMap_le {α β : Type} (f : α → List β) (l : List α) (m : Nat) : ((l.take m).flatMap f).length ≤ (l.flatMap f).length := by
  have h : l.flatMap f = (l.take m).flatMap f ++ (l.drop m).flatMap f := by rw [← List.flatMap_append, List.take_append_drop]
  rw [h, List.length_append]
  omega
theorem Y95_CG : type_of% (AI @F_ag_165 (AI @F_ag_3 (AI @F_ag_35 (AI @F_al_165 (AI @F_al_167 (AI @F_by_167 (AI @F_el_157 (AI @F_el_163 (AI @F_el_35 (AI @F_fl_165_0 (AI @F_st_167 (AI @F_sz_165 (AI @F_sz_167 (AI @F_sz_3 (@F_sz_35))))))))))))))) := AI @F_ag_165 (AI @F_ag_3 (AI @F_ag_35 (AI @F_al_165 (AI @F_al_167 (AI @F_by_167 (AI @F_el_157 (AI @F_el_163 (AI @F_el_35 (AI @F_fl_165_0 (AI @F_st_167 (AI @F_sz_165 (AI @F_sz_167 (AI @F_sz_3 (@F_sz_35))))))))))))))
theorem c_all : ∀ l : List Nd, fitNL l → cnt l ≤ 4194304 → ∀ lp : Bool, PC Tryz.prog 95 [.sl (l.map ndV) .ro, (.im (.bool (lp)))] (.sl ((allL l lp).map plV) .ro) := by
  refine subs_induct fun l hl hf hc lp => ?_
  have hl1 := hf.1
  have hlen := allL_len l lp
  unfold allL at hlen ⊢
  refine PC.enter 47 Tryz.func95 rfl (by decide) rfl rfl (s := [(0, .sl (l.map ndV) .ro), (1, (.im (.bool (lp))))]) (by rfl) ?_
  refine wG Y95_CG True.intro ?_
  refine AWp.loop ?_
  refine ALp.ghost 5 [] .nl 167 8 ?_
  refine ALp.cutP 1 [(1, (.im (.bool (lp)))), (5, .sl (((l.take (0)).flatMap fun t => allT t lp).map plV) (.own 0)), (10, .sl (l.map ndV) .ro), (11, (.im (.int .i64 (l.length)))), (12, (.im (.int .i64 ((((0 : Nat)) : Int)))))] [.tip 167 8 ((l.take (0)).flatMap fun t => allT t lp).length] (AI ndV_id (AI ndLs_id (AI nlVs_id (AI nlV_id (AI plV_id (AI plVs_id @exL_id)))))) ?_
  refine ALp.upto l.length (fun _ => True) (fun m => ⟨dn 47 [(1, (.im (.bool (lp)))), (5, .sl (((l.take (m)).flatMap fun t => allT t lp).map plV) (.own 0)), (10, .sl (l.map ndV) .ro), (11, (.im (.int .i64 (l.length)))), (12, (.im (.int .i64 ((((m : Nat)) : Int)))))], ofl [.tip 167 8 ((l.take (m)).flatMap fun t => allT t lp).length]⟩) ?_ 0 (Nat.zero_le _) trivial
  intro m hm _ hnext
  by_cases hlt : m < l.length
  · have hlt' : (m : Int) < (l.length : Int) := by omega
    have hm1 := wrap_succ hlt (by omega)
    have hg := get_some hlt; have ht := hf.2 _ (List.getElem_mem hlt); have hx := c_lists l[m] (fitN_inv ht).2.2.2.2.2.1; obtain ⟨hs1, hs2⟩ := fit_subs ht; have hcs : ∀ c ∈ subs l[m], 1 + cnt c ≤ cnt l := fun c hc => cnt_sub (List.getElem_mem hlt) hc
    have hR := fun c hc' => hl l[m] (List.getElem_mem hlt) c hc' (hs2 c hc') (by have := hcs c hc'; omega) (inL l[m] lp)
    have hsn := flatMap_snoc (fun t => allT t lp) hlt
    have hle := flatMap_le (fun t => allT t lp) l (m + 1)
    have hle0 := flatMap_le (fun t => allT t lp) l m
    simp only [allT_eq l[m]] at hsn; generalize hA : (l.take m).flatMap (fun t => allT t lp) = A at hsn hle0 ⊢
    generalize hsb : subs l[m] = sb at hx hs1 hs2 hcs hR hsn; obtain ⟨Bf, hBf⟩ : ∃ Bf : Nat → List (Nd × Bool), ∀ j, Bf j = A ++ (l[m], lp) :: (sb.take j).flatMap fun c => allL c (inL l[m] lp) := ⟨_, fun _ => rfl⟩
    have hap : A.map plV ++ [.ag [.im (.int .i64 l[m].kind), .im (.int .i64 l[m].width), .im (.string l[m].name), .sl (l[m].e.map exV) .ro, .sl (l[m].l.map ndV) .ro, .sl (l[m].el.map ndV) .ro, .sl (l[m].cs.map nlV) .ro, .im (.bool lp)]] = (Bf 0).map plV := by
      rw [hBf]; simp [plV]
    have hone : A.length + 1 = (Bf 0).length := by rw [hBf]; simp
    have hend : Bf sb.length = (l.take (m + 1)).flatMap fun t => allT t lp := by
      rw [hBf, List.take_length, ← hsn]
    have hstep : ∀ j (hj : j < sb.length), Bf j ++ allL sb[j] (inL l[m] lp) = Bf (j + 1) := fun j hj => by
      rw [hBf, hBf, ← flatMap_snoc _ hj, List.append_assoc, List.cons_append]
    have hlen2 : ∀ j, (Bf j).length ≤ (Bf sb.length).length := fun j => by
      rw [hBf, hBf, List.length_append, List.length_append, List.length_cons, List.length_cons, List.take_length]; have := flatMap_le (fun c => allL c (inL l[m] lp)) sb j
      omega
    rw [hend] at hlen2; have hb : (A.length + 1) * 136 ≤ 140737488355328 := by omega
    have hb0 : (Bf 0).length * 136 ≤ 140737488355328 := by have := hlen2 0; omega
    refine wG Y95_CG (AI hlt' (AI hg (AI hb (AI hb0 (AI hap (AI hone ND)))))) ?_; refine AR.callP hx ndV_eq (AI ndV_id (AI ndLs_id (AI nlVs_id (AI nlV_id (AI plV_id (AI plVs_id @exL_id)))))) ?_; refine goG Y95_CG (AI (@List.length_map.{0, 0}) ND) ?_; refine wG Y95_CG (AI (@List.length_map.{0, 0}) ND) ?_; refine AWp.loop ?_; refine ALp.cutP 2 [(1, (.im (.bool (lp)))), (5, .sl ((Bf (0)).map plV) (.own 0)), (7, .pt 1 0), (10, .sl (l.map ndV) .ro), (11, (.im (.int .i64 (l.length)))), (12, (.im (.int .i64 ((m : Int))))), (23, .sl (sb.map nlV) .ro), (24, (.im (.int .i64 (sb.length)))), (25, (.im (.int .i64 ((((0 : Nat)) : Int)))))] [.tip 167 8 (Bf (0)).length, .box [.im (.int .i64 l[m].kind), .im (.int .i64 l[m].width), .im (.string l[m].name), .sl (l[m].e.map exV) .ro, .sl (l[m].l.map ndV) .ro, .sl (l[m].el.map ndV) .ro, .sl (l[m].cs.map nlV) .ro]] (AI ndV_id (AI ndLs_id (AI nlVs_id (AI nlV_id (AI plV_id (AI plVs_id @exL_id)))))) ?_; refine ALp.upto sb.length (fun _ => True) (fun j => ⟨dn 47 [(1, (.im (.bool (lp)))), (5, .sl ((Bf (j)).map plV) (.own 0)), (7, .pt 1 0), (10, .sl (l.map ndV) .ro), (11, (.im (.int .i64 (l.length)))), (12, (.im (.int .i64 ((m : Int))))), (23, .sl (sb.map nlV) .ro), (24, (.im (.int .i64 (sb.length)))), (25, (.im (.int .i64 ((((j : Nat)) : Int)))))], ofl [.tip 167 8 (Bf (j)).length, .box [.im (.int .i64 l[m].kind), .im (.int .i64 l[m].width), .im (.string l[m].name), .sl (l[m].e.map exV) .ro, .sl (l[m].l.map ndV) .ro, .sl (l[m].el.map ndV) .ro, .sl (l[m].cs.map nlV) .ro]]⟩) ?_ 0 (Nat.zero_le _) trivial
    intro j hj _ hnext2
    by_cases hlu : j < sb.length
    · have hlu' : (j : Int) < (sb.length : Int) := by omega
      have hj1 := wrap_succ hlu (by omega)
      have hg2 := get_some hlu; have hc2 := hR sb[j] (List.getElem_mem hlu); have hs3 := congrArg (List.map plV) (hstep j hlu); rw [List.map_append] at hs3; have hs4 := congrArg List.length (hstep j hlu); rw [List.length_append] at hs4; have hb1 : (Bf (j + 1)).length * 136 ≤ 140737488355328 := by have := hlen2 (j + 1); omega
      refine wG Y95_CG (AI hlu' (AI hg2 ND)) ?_; have hin : inL l[m] lp = (lp || decide (l[m].kind = 7) || decide (l[m].kind = 8)) := rfl; refine AR.callP hc2 (AI nlV_eq hin) (AI ndV_id (AI ndLs_id (AI nlVs_id (AI nlV_id (AI plV_id (AI plVs_id @exL_id)))))) ?_; refine goG Y95_CG (AI hs3 (AI hs4 (AI hb1 (AI plVs_all @List.length_map.{0, 0})))) ?_; refine wG Y95_CG hj1 ?_; refine ALp.cutP 2 [(1, (.im (.bool (lp)))), (5, .sl ((Bf (j + 1)).map plV) (.own 0)), (7, .pt 1 0), (10, .sl (l.map ndV) .ro), (11, (.im (.int .i64 (l.length)))), (12, (.im (.int .i64 ((m : Int))))), (23, .sl (sb.map nlV) .ro), (24, (.im (.int .i64 (sb.length)))), (25, (.im (.int .i64 ((((j + 1 : Nat)) : Int)))))] [.tip 167 8 (Bf (j + 1)).length, .box [.im (.int .i64 l[m].kind), .im (.int .i64 l[m].width), .im (.string l[m].name), .sl (l[m].e.map exV) .ro, .sl (l[m].l.map ndV) .ro, .sl (l[m].el.map ndV) .ro, .sl (l[m].cs.map nlV) .ro]] (AI ndV_id (AI ndLs_id (AI nlVs_id (AI nlV_id (AI plV_id (AI plVs_id @exL_id)))))) ?_; exact hnext2 (j + 1) (by omega) (by omega) trivial
    obtain rfl : j = sb.length := by omega
    clear hnext2; rw [hend]; refine whG Y95_CG @Int.lt_irrefl ?_; refine Blk'.here (Thn.n ?_); refine wG Y95_CG hm1 ?_; refine ALp.cutP 1 [(1, (.im (.bool (lp)))), (5, .sl (((l.take (m + 1)).flatMap fun t => allT t lp).map plV) (.own 0)), (10, .sl (l.map ndV) .ro), (11, (.im (.int .i64 (l.length)))), (12, (.im (.int .i64 ((((m + 1 : Nat)) : Int)))))] [.tip 167 8 ((l.take (m + 1)).flatMap fun t => allT t lp).length] (AI ndV_id (AI ndLs_id (AI nlVs_id (AI nlV_id (AI plV_id (AI plVs_id @exL_id)))))) ?_
    exact hnext (m + 1) (by omega) (by omega) trivial
  obtain rfl : m = l.length := by omega
  clear hnext
  rw [List.take_length]
  refine wG Y95_CG @Int.lt_irrefl ?_
  refine Fin.gen0 (rs := [.tmp 4]) rfl (by first | exact .inl rfl | exact .inr rfl) (finG Y95_CG) ?_
  all_goals exact wkG (AI ndV_id (AI ndLs_id (AI nlVs_id (AI nlV_id (AI plV_id (AI plVs_id @exL_id))))))
theorem BN07 : type_of% (AI ndV_id (AI ndLs_id (AI nlVs_id (AI nlV_id (AI plV_id (AI plVs_id @exL_id)))))) := (AI ndV_id (AI ndLs_id (AI nlVs_id (AI nlV_id (AI plV_id (AI plVs_id @exL_id))))))
end Go.Proofs.YtmbmmckagcdapaaGreatDoor
