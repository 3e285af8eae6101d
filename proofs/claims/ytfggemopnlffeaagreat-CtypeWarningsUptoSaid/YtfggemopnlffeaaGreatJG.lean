import Derived.Test.YtfggemopnlffeaaGreatHv
import Derived.Test.YtfggemopnlffeaaGreatBL
namespace Go.Proofs.YtfggemopnlffeaaGreat
set_option linter.unusedSimpArgs false
set_option linter.unusedVariables false
set_option linter.unnecessarySimpa false
open Go.RowKit
def prm (vs : List Va) (e : Ex) (w : Int) : Bool := !(thr e).2.2 || accT (tyOf vs (thr e).1) (thr e).2.1 w
theorem thr_I64 (e : Ex) : I64 (thr e).2.1 := by
  obtain ⟨o, n, s, w, l⟩ := e
  rw [thr_mk]
  have h0 : I64 0 := by decide
  split
  · exact h0
  · split
    · split
      · split
        · exact offT_I64 _ _
        · exact h0
      · exact h0
    · exact h0
def acs (vs : List Va) : Ex → Bool := Ex.para fun e r => (if e.op == 18 then (match e.l with | x :: _ => prm vs x e.width | [] => true) else true) && r.all id
theorem acs_mk (vs : List Va) (o n : Int) (s : ByteArray) (w : Int) (l : List Ex) : acs vs (.mk o n s w l) = ((if o == 18 then (match l with | x :: _ => prm vs x w | [] => true) else true) && l.all (acs vs)) := by
  unfold acs
  rw [Ex.para_mk]
  simp only [List.all_map]
  rfl
theorem efm_one {n : Int} {s : ByteArray} {w : Int} {l : List Ex} (h : efm (.mk 18 n s w l) = true) : ∃ a, l = [a] := by
  rw [efm_mk, Bool.and_eq_true] at h
  have h1 := h.1
  have h2 : l.length = 1 := by
    simp [ebase] at h1
    exact h1.2
  match l, h2 with
  | [a], _ => exact ⟨a, rfl⟩
theorem Y57_BM : type_of% (AI @F_ag_48 (@F_sz_48)) := AI @F_ag_48 (@F_sz_48)
theorem c_permitted (vs : List Va) (hv : fitV vs) (e : Ex) (hf : efm e = true) (w : Int) : PC Tryz.prog 57 [exV e, (.im (.int .i64 (w))), (V.sl (vs.map vaV) .ro)] (.im (.bool (prm vs e w))) := by
  have h1 := c_through e hf
  have hi := thr_I64 e
  unfold prm
  obtain ⟨⟨nm, off, ok⟩, ht⟩ : ∃ x, thr e = x := ⟨_, rfl⟩
  rw [ht] at h1 hi
  rw [ht]
  simp only at h1 hi
  have h2 := c_typeOf vs hv.1 nm
  have h3 := c_Access (tyOf vs nm) (fit_tyOf hv nm) off w hi
  refine PC.enter 26 Tryz.func57 rfl (by decide) rfl rfl (s := [(0, exV e), (1, (.im (.int .i64 (w)))), (2, (V.sl (vs.map vaV) .ro))]) (by rfl) ?_
  simp only [exV_eq]
  cases ok with
  | false =>
    refine wG Y57_BM True.intro ?_
    refine AR.callP h1 @exV_eq (AI (@exL_id) (AI (@vaL_id) (AI (@exV_id) @vaV_id))) ?_
    refine goG Y57_BM True.intro ?_
    refine wG Y57_BM True.intro ?_
    exact Fin.oneP
  | true =>
    refine wG Y57_BM True.intro ?_
    refine AR.callP h1 @exV_eq (AI (@exL_id) (AI (@vaL_id) (AI (@exV_id) @vaV_id))) ?_
    refine goG Y57_BM True.intro ?_
    refine wG Y57_BM True.intro ?_
    refine AR.callP h2 True.intro (AI (@exL_id) (AI (@vaL_id) (AI (@exV_id) @vaV_id))) ?_
    refine goG Y57_BM True.intro ?_
    refine AR.callP h3 True.intro (AI (@exL_id) (AI (@vaL_id) (AI (@exV_id) @vaV_id))) ?_
    refine goG Y57_BM True.intro ?_
    simp only [Bool.not_true, Bool.false_or]
    refine wG Y57_BM True.intro ?_
    exact Fin.oneP
theorem Y49_BM : type_of% (AI @F_ag_48 (@F_sz_48)) := AI @F_ag_48 (@F_sz_48)
theorem c_permittedR (vs : List Va) (hv : fitV vs) (e : Ex) (hf : efm e = true) (w : Int) : PC Tryz.prog 49 [exV e, (.im (.int .i64 (w))), (V.sl (vs.map vaV) .ro)] (.im (.bool (prm vs e w))) := by
  have h1 := c_throughR e hf
  have hi := thr_I64 e
  unfold prm
  obtain ⟨⟨nm, off, ok⟩, ht⟩ : ∃ x, thr e = x := ⟨_, rfl⟩
  rw [ht] at h1 hi
  rw [ht]
  simp only at h1 hi
  have h2 := c_typeOfR vs hv.1 nm
  have h3 := c_AccessR (tyOf vs nm) (fit_tyOf hv nm) off w hi
  refine PC.enter 26 Tryz.func49 rfl (by decide) rfl rfl (s := [(0, exV e), (1, (.im (.int .i64 (w)))), (2, (V.sl (vs.map vaV) .ro))]) (by rfl) ?_
  simp only [exV_eq]
  cases ok with
  | false =>
    refine wG Y49_BM True.intro ?_
    refine AR.callP h1 @exV_eq (AI (@exL_id) (AI (@vaL_id) (AI (@exV_id) @vaV_id))) ?_
    refine goG Y49_BM True.intro ?_
    refine wG Y49_BM True.intro ?_
    exact Fin.oneP
  | true =>
    refine wG Y49_BM True.intro ?_
    refine AR.callP h1 @exV_eq (AI (@exL_id) (AI (@vaL_id) (AI (@exV_id) @vaV_id))) ?_
    refine goG Y49_BM True.intro ?_
    refine wG Y49_BM True.intro ?_
    refine AR.callP h2 True.intro (AI (@exL_id) (AI (@vaL_id) (AI (@exV_id) @vaV_id))) ?_
    refine goG Y49_BM True.intro ?_
    refine AR.callP h3 True.intro (AI (@exL_id) (AI (@vaL_id) (AI (@exV_id) @vaV_id))) ?_
    refine goG Y49_BM True.intro ?_
    simp only [Bool.not_true, Bool.false_or]
    refine wG Y49_BM True.intro ?_
    exact Fin.oneP
theorem Y45_BM : type_of% (AI @F_ag_3 (AI @F_ag_46 (AI @F_ag_48 (AI @F_el_46 (AI @F_fl_48_0 (AI @F_fl_48_3 (AI @F_fl_48_4 (AI @F_sz_3 (AI @F_sz_46 (@F_sz_48)))))))))) := AI @F_ag_3 (AI @F_ag_46 (AI @F_ag_48 (AI @F_el_46 (AI @F_fl_48_0 (AI @F_fl_48_3 (AI @F_fl_48_4 (AI @F_sz_3 (AI @F_sz_46 (@F_sz_48)))))))))
theorem G45_BM : type_of% (AI (@exV_firm) (AI (@exV_strip) (AI (@exV_live) (AI (@exV_size) (AI (@exV_isAg) (AI (@exV_cells) (AI (@List.getElem?_map.{0, 0}) (AI (@Option.map_some.{0, 0}) (AI (@vaV_firm) (AI (@vaV_strip) (AI (@vaV_live) (AI (@vaV_size) (AI (@vaV_isAg) (AI (@vaV_cells) @Int.natCast_nonneg)))))))))))))) := (AI (@exV_firm) (AI (@exV_strip) (AI (@exV_live) (AI (@exV_size) (AI (@exV_isAg) (AI (@exV_cells) (AI (@List.getElem?_map.{0, 0}) (AI (@Option.map_some.{0, 0}) (AI (@vaV_firm) (AI (@vaV_strip) (AI (@vaV_live) (AI (@vaV_size) (AI (@vaV_isAg) (AI (@vaV_cells) @Int.natCast_nonneg))))))))))))))
theorem c_accessesR (vs : List Va) (hv : fitV vs) : ∀ (t : Ex), fitE t → efm t = true → PC Tryz.prog 45 [exV t, (V.sl (vs.map vaV) .ro)] (.im (.bool (acs vs t))) := by
  refine Ex.induct fun o n s w l hE => ?_
  intro hfit hf
  obtain ⟨hl1, hfE⟩ := fitE_mk hfit
  have hfl := hf
  rw [efm_mk, Bool.and_eq_true, List.all_eq_true] at hfl
  refine PC.enter 35 Tryz.func45 rfl (by decide) rfl rfl (s := [(0, exV (.mk o n s w l)), (1, (V.sl (vs.map vaV) .ro))]) (by rfl) ?_
  simp only [exV_mk]
  rw [acs_mk]
  by_cases ho : o = 18
  · subst ho
    obtain ⟨x, rfl⟩ := efm_one hf
    have hx := hE x (by simp) (hfE x (by simp)) (hfl.2 x (by simp))
    have hp := c_permittedR vs hv x (hfl.2 x (by simp)) w
    have hg0 : [x][0]? = some x := rfl
    have hq : (if ((18 : Int) == 18) = true then (match [x] with | x :: _ => prm vs x w | [] => true) else true) = prm vs x w := rfl
    rw [hq]
    obtain ⟨L, hL⟩ : ∃ L, [x] = L := ⟨_, rfl⟩
    rw [hL] at hg0 hE hfE hfl hl1 ⊢
    cases b : prm vs x w with
    | false =>
      rw [b] at hp
      refine wdG Y45_BM (AI (@G45_BM) hg0) ?_
      refine AR.callP hp @exV_eq (AI (@exL_id) (AI (@vaL_id) (AI (@exV_id) @vaV_id))) ?_
      refine goG Y45_BM @G45_BM ?_
      refine wdG Y45_BM @G45_BM ?_
      rw [Bool.false_and]
      exact Fin.oneP
    | true =>
      rw [b] at hp
      refine wdG Y45_BM (AI (@G45_BM) hg0) ?_
      refine AR.callP hp @exV_eq (AI (@exL_id) (AI (@vaL_id) (AI (@exV_id) @vaV_id))) ?_
      refine goG Y45_BM @G45_BM ?_
      refine wdG Y45_BM @G45_BM ?_
      rw [Bool.true_and]
      clear hg0 hL hf hp
      refine AWp.loop ?_
      refine ALp.cutP 1 [(1, (V.sl (vs.map vaV) .ro)), (2, .pt 0 0), (4, .im (.bool false)), (5, (.im (.int .i64 ((((0 : Nat)) : Int)))))] [.box [.im (.int .i64 18), .im (.int .u32 n), .im (.string s), .im (.int .i64 w), .sl (L.map exV) .ro]] (AI (@exL_id) (AI (@vaL_id) (AI (@exV_id) @vaV_id))) ?_
      refine ALp.upto L.length (AllTo (acs vs) L) (fun m => ⟨dn 35 [(1, (V.sl (vs.map vaV) .ro)), (2, .pt 0 0), (4, .im (.bool false)), (5, (.im (.int .i64 ((((m : Nat)) : Int)))))], ofl [.box [.im (.int .i64 18), .im (.int .u32 n), .im (.string s), .im (.int .i64 w), .sl (L.map exV) .ro]]⟩) ?_ 0 (Nat.zero_le _) (AllTo.zero _ _)
      intro m hm hI hnext
      by_cases hlt : m < L.length
      · have hlt' : (m : Int) < (L.length : Int) := by omega
        have hg := get_some hlt
        have hm1 := wrap_succ hlt (by omega)
        have hc := hE L[m] (List.getElem_mem hlt) (hfE _ (List.getElem_mem hlt)) (hfl.2 _ (List.getElem_mem hlt))
        refine wG Y45_BM (AI (@G45_BM) (AI hlt' (AI hg hm1))) ?_
        cases b : acs vs L[m] with
        | true =>
          rw [b] at hc
          refine AR.callP hc @exV_eq (AI (@exL_id) (AI (@vaL_id) (AI (@exV_id) @vaV_id))) ?_
          refine goG Y45_BM @G45_BM ?_
          refine wG Y45_BM (AI (@G45_BM) hm1) ?_
          refine ALp.cutP 1 [(1, (V.sl (vs.map vaV) .ro)), (2, .pt 0 0), (4, .im (.bool false)), (5, (.im (.int .i64 ((((m + 1 : Nat)) : Int)))))] [.box [.im (.int .i64 18), .im (.int .u32 n), .im (.string s), .im (.int .i64 w), .sl (L.map exV) .ro]] (AI (@exL_id) (AI (@vaL_id) (AI (@exV_id) @vaV_id))) ?_
          exact hnext (m + 1) (by omega) (by omega) (hI.succ hlt b)
        | false =>
          rw [b] at hc
          refine AR.callP hc @exV_eq (AI (@exL_id) (AI (@vaL_id) (AI (@exV_id) @vaV_id))) ?_
          refine goG Y45_BM @G45_BM ?_
          refine wG Y45_BM (AI (@G45_BM) hm1) ?_
          rw [not_all_of hlt b]
          exact Fin.oneP
      · have hall := hI.done (by omega)
        have hlt' : ¬ (m : Int) < (L.length : Int) := by omega
        clear hnext
        rw [hall]
        refine wG Y45_BM (AI (@G45_BM) hlt') ?_
        exact Fin.oneP
  · have e : (o == 18) = false := by simp [ho]
    rw [e]
    simp only [Bool.false_eq_true, if_false, Bool.true_and]
    refine wdG Y45_BM (AI (@G45_BM) ho) ?_
    refine AWp.loop ?_
    refine ALp.cutP 1 [(1, (V.sl (vs.map vaV) .ro)), (2, .pt 0 0), (4, .im (.bool false)), (5, (.im (.int .i64 ((((0 : Nat)) : Int)))))] [.box [.im (.int .i64 o), .im (.int .u32 n), .im (.string s), .im (.int .i64 w), .sl (l.map exV) .ro]] (AI (@exL_id) (AI (@vaL_id) (AI (@exV_id) @vaV_id))) ?_
    refine ALp.upto l.length (AllTo (acs vs) l) (fun m => ⟨dn 35 [(1, (V.sl (vs.map vaV) .ro)), (2, .pt 0 0), (4, .im (.bool false)), (5, (.im (.int .i64 ((((m : Nat)) : Int)))))], ofl [.box [.im (.int .i64 o), .im (.int .u32 n), .im (.string s), .im (.int .i64 w), .sl (l.map exV) .ro]]⟩) ?_ 0 (Nat.zero_le _) (AllTo.zero _ _)
    intro m hm hI hnext
    by_cases hlt : m < l.length
    · have hlt' : (m : Int) < (l.length : Int) := by omega
      have hg := get_some hlt
      have hm1 := wrap_succ hlt (by omega)
      have hc := hE l[m] (List.getElem_mem hlt) (hfE _ (List.getElem_mem hlt)) (hfl.2 _ (List.getElem_mem hlt))
      refine wG Y45_BM (AI (@G45_BM) (AI hlt' (AI hg hm1))) ?_
      cases b : acs vs l[m] with
      | true =>
        rw [b] at hc
        refine AR.callP hc @exV_eq (AI (@exL_id) (AI (@vaL_id) (AI (@exV_id) @vaV_id))) ?_
        refine goG Y45_BM @G45_BM ?_
        refine wG Y45_BM (AI (@G45_BM) hm1) ?_
        refine ALp.cutP 1 [(1, (V.sl (vs.map vaV) .ro)), (2, .pt 0 0), (4, .im (.bool false)), (5, (.im (.int .i64 ((((m + 1 : Nat)) : Int)))))] [.box [.im (.int .i64 o), .im (.int .u32 n), .im (.string s), .im (.int .i64 w), .sl (l.map exV) .ro]] (AI (@exL_id) (AI (@vaL_id) (AI (@exV_id) @vaV_id))) ?_
        exact hnext (m + 1) (by omega) (by omega) (hI.succ hlt b)
      | false =>
        rw [b] at hc
        refine AR.callP hc @exV_eq (AI (@exL_id) (AI (@vaL_id) (AI (@exV_id) @vaV_id))) ?_
        refine goG Y45_BM @G45_BM ?_
        refine wG Y45_BM (AI (@G45_BM) hm1) ?_
        rw [not_all_of hlt b]
        exact Fin.oneP
    · have hall := hI.done (by omega)
      have hlt' : ¬ (m : Int) < (l.length : Int) := by omega
      clear hnext
      rw [hall]
      refine wG Y45_BM (AI (@G45_BM) hlt') ?_
      exact Fin.oneP
end Go.Proofs.YtfggemopnlffeaaGreat
namespace Go.Proofs.YtfggemopnlffeaaGreat
set_option linter.unusedSimpArgs false
set_option linter.unusedVariables false
set_option linter.unnecessarySimpa false
open Go.RowKit
theorem Y56_BN : type_of% (AI @F_ag_22 (AI @F_ag_3 (AI @F_ag_46 (AI @F_ag_48 (AI @F_ag_81 (AI @F_al_48 (AI @F_el_46 (AI @F_fl_48_0 (AI @F_fl_48_3 (AI @F_fl_48_4 (AI @F_sz_22 (AI @F_sz_3 (AI @F_sz_46 (AI @F_sz_48 (@F_sz_81))))))))))))))) := AI @F_ag_22 (AI @F_ag_3 (AI @F_ag_46 (AI @F_ag_48 (AI @F_ag_81 (AI @F_al_48 (AI @F_el_46 (AI @F_fl_48_0 (AI @F_fl_48_3 (AI @F_fl_48_4 (AI @F_sz_22 (AI @F_sz_3 (AI @F_sz_46 (AI @F_sz_48 (@F_sz_81))))))))))))))
theorem G56_BN : type_of% (AI (@exV_firm) (AI (@exV_strip) (AI (@exV_live) (AI (@exV_size) (AI (@exV_isAg) (AI (@exV_cells) (AI (@List.getElem?_map.{0, 0}) (AI (@Option.map_some.{0, 0}) (AI (@vaV_firm) (AI (@vaV_strip) (AI (@vaV_live) (AI (@vaV_size) (AI (@vaV_isAg) (AI (@vaV_cells) @Int.natCast_nonneg)))))))))))))) := (AI (@exV_firm) (AI (@exV_strip) (AI (@exV_live) (AI (@exV_size) (AI (@exV_isAg) (AI (@exV_cells) (AI (@List.getElem?_map.{0, 0}) (AI (@Option.map_some.{0, 0}) (AI (@vaV_firm) (AI (@vaV_strip) (AI (@vaV_live) (AI (@vaV_size) (AI (@vaV_isAg) (AI (@vaV_cells) @Int.natCast_nonneg))))))))))))))
theorem c_accesses1 (vs : List Va) (hv : fitV vs) : ∀ (t : Ex), fitE t → efm t = true → DC Tryz.prog 56 [exV t, .pt 0 0, .pt 1 0] [.box [(V.sl (vs.map vaV) .ro)], .box [(V.fn (.func 56) [] [.pt 0 0, .pt 1 0])]] (.im (.bool (acs vs t))) [.box [(V.sl (vs.map vaV) .ro)], .box [(V.fn (.func 56) [] [.pt 0 0, .pt 1 0])]] := by
  refine Ex.induct fun o n s w l hE => ?_
  intro hfit hf
  obtain ⟨hl1, hfE⟩ := fitE_mk hfit
  have hfl := hf
  rw [efm_mk, Bool.and_eq_true, List.all_eq_true] at hfl
  refine DC.enter 33 Tryz.func56 rfl (by decide) rfl rfl (s := [(0, exV (.mk o n s w l)), (1, .pt 0 0), (2, .pt 1 0)]) (by rfl) ?_
  simp only [exV_mk]
  rw [acs_mk]
  by_cases ho : o = 18
  · subst ho
    obtain ⟨x, rfl⟩ := efm_one hf
    have hp := c_permitted vs hv x (hfl.2 x (by simp)) w
    have hg0 : [x][0]? = some x := rfl
    have hq : (if ((18 : Int) == 18) = true then (match [x] with | x :: _ => prm vs x w | [] => true) else true) = prm vs x w := rfl
    rw [hq]
    obtain ⟨L, hL⟩ : ∃ L, [x] = L := ⟨_, rfl⟩
    rw [hL] at hg0 hE hfE hfl hl1 ⊢
    cases b : prm vs x w with
    | false =>
      rw [b] at hp
      refine wdG Y56_BN (AI (@G56_BN) hg0) ?_
      refine AR.callP hp @exV_eq (AI (@exL_id) (AI (@vaL_id) (AI (@exV_id) @vaV_id))) ?_
      refine goG Y56_BN @G56_BN ?_
      refine wdG Y56_BN @G56_BN ?_
      rw [Bool.false_and]
      exact Fin.oneSP (AI (@exL_id) (AI (@vaL_id) (AI (@exV_id) @vaV_id)))
    | true =>
      rw [b] at hp
      refine wdG Y56_BN (AI (@G56_BN) hg0) ?_
      refine AR.callP hp @exV_eq (AI (@exL_id) (AI (@vaL_id) (AI (@exV_id) @vaV_id))) ?_
      refine goG Y56_BN @G56_BN ?_
      refine wdG Y56_BN @G56_BN ?_
      rw [Bool.true_and]
      clear hg0 hL hf hp
      refine AWp.loop ?_
      refine ALp.cutP 3 [(1, .pt 0 0), (2, .pt 1 0), (3, .pt 2 0), (22, .sl (L.map exV) .ro), (23, (.im (.int .i64 (L.length)))), (24, (.im (.int .i64 ((((0 : Nat)) : Int)))))] [.box [(V.sl (vs.map vaV) .ro)], .box [(V.fn (.func 56) [] [.pt 0 0, .pt 1 0])], .box [.im (.int .i64 18), .im (.int .u32 n), .im (.string s), .im (.int .i64 w), .sl (L.map exV) .ro]] (AI (@exL_id) (AI (@vaL_id) (AI (@exV_id) @vaV_id))) ?_
      refine ALp.upto L.length (AllTo (acs vs) L) (fun m => ⟨dn 33 [(1, .pt 0 0), (2, .pt 1 0), (3, .pt 2 0), (22, .sl (L.map exV) .ro), (23, (.im (.int .i64 (L.length)))), (24, (.im (.int .i64 ((((m : Nat)) : Int)))))], ofl [.box [(V.sl (vs.map vaV) .ro)], .box [(V.fn (.func 56) [] [.pt 0 0, .pt 1 0])], .box [.im (.int .i64 18), .im (.int .u32 n), .im (.string s), .im (.int .i64 w), .sl (L.map exV) .ro]]⟩) ?_ 0 (Nat.zero_le _) (AllTo.zero _ _)
      intro m hm hI hnext
      by_cases hlt : m < L.length
      · have hlt' : (m : Int) < (L.length : Int) := by omega
        have hg := get_some hlt
        have hm1 := wrap_succ hlt (by omega)
        have hc := hE L[m] (List.getElem_mem hlt) (hfE _ (List.getElem_mem hlt)) (hfl.2 _ (List.getElem_mem hlt))
        cases b : acs vs L[m] with
        | true =>
          rw [b] at hc
          refine wG Y56_BN (AI (@G56_BN) (AI hlt' (AI hg hm1))) ?_
          refine AR.callQP [0, 1] hc @exV_eq (AI (@exL_id) (AI (@vaL_id) (AI (@exV_id) @vaV_id))) (AI (@exV_ren) (AI (@exL_ren) (AI (@vaV_ren) @vaL_ren))) ?_
          refine goG Y56_BN @G56_BN ?_
          refine wG Y56_BN (AI (@G56_BN) hm1) ?_
          refine ALp.cutP 3 [(1, .pt 0 0), (2, .pt 1 0), (3, .pt 2 0), (22, .sl (L.map exV) .ro), (23, (.im (.int .i64 (L.length)))), (24, (.im (.int .i64 ((((m + 1 : Nat)) : Int)))))] [.box [(V.sl (vs.map vaV) .ro)], .box [(V.fn (.func 56) [] [.pt 0 0, .pt 1 0])], .box [.im (.int .i64 18), .im (.int .u32 n), .im (.string s), .im (.int .i64 w), .sl (L.map exV) .ro]] (AI (@exL_id) (AI (@vaL_id) (AI (@exV_id) @vaV_id))) ?_
          exact hnext (m + 1) (by omega) (by omega) (hI.succ hlt b)
        | false =>
          rw [b] at hc
          refine wG Y56_BN (AI (@G56_BN) (AI hlt' (AI hg hm1))) ?_
          refine AR.callQP [0, 1] hc @exV_eq (AI (@exL_id) (AI (@vaL_id) (AI (@exV_id) @vaV_id))) (AI (@exV_ren) (AI (@exL_ren) (AI (@vaV_ren) @vaL_ren))) ?_
          refine goG Y56_BN @G56_BN ?_
          refine wG Y56_BN (AI (@G56_BN) hm1) ?_
          rw [not_all_of hlt b]
          exact Fin.oneSP (AI (@exL_id) (AI (@vaL_id) (AI (@exV_id) @vaV_id)))
      · have hall := hI.done (by omega)
        have hlt' : ¬ (m : Int) < (L.length : Int) := by omega
        clear hnext
        rw [hall]
        refine wG Y56_BN (AI (@G56_BN) hlt') ?_
        exact Fin.oneSP (AI (@exL_id) (AI (@vaL_id) (AI (@exV_id) @vaV_id)))
  · have e : (o == 18) = false := by simp [ho]
    rw [e]
    simp only [Bool.false_eq_true, if_false, Bool.true_and]
    refine wdG Y56_BN (AI (@G56_BN) ho) ?_
    refine AWp.loop ?_
    refine ALp.cutP 3 [(1, .pt 0 0), (2, .pt 1 0), (3, .pt 2 0), (22, .sl (l.map exV) .ro), (23, (.im (.int .i64 (l.length)))), (24, (.im (.int .i64 ((((0 : Nat)) : Int)))))] [.box [(V.sl (vs.map vaV) .ro)], .box [(V.fn (.func 56) [] [.pt 0 0, .pt 1 0])], .box [.im (.int .i64 o), .im (.int .u32 n), .im (.string s), .im (.int .i64 w), .sl (l.map exV) .ro]] (AI (@exL_id) (AI (@vaL_id) (AI (@exV_id) @vaV_id))) ?_
    refine ALp.upto l.length (AllTo (acs vs) l) (fun m => ⟨dn 33 [(1, .pt 0 0), (2, .pt 1 0), (3, .pt 2 0), (22, .sl (l.map exV) .ro), (23, (.im (.int .i64 (l.length)))), (24, (.im (.int .i64 ((((m : Nat)) : Int)))))], ofl [.box [(V.sl (vs.map vaV) .ro)], .box [(V.fn (.func 56) [] [.pt 0 0, .pt 1 0])], .box [.im (.int .i64 o), .im (.int .u32 n), .im (.string s), .im (.int .i64 w), .sl (l.map exV) .ro]]⟩) ?_ 0 (Nat.zero_le _) (AllTo.zero _ _)
    intro m hm hI hnext
    by_cases hlt : m < l.length
    · have hlt' : (m : Int) < (l.length : Int) := by omega
      have hg := get_some hlt
      have hm1 := wrap_succ hlt (by omega)
      have hc := hE l[m] (List.getElem_mem hlt) (hfE _ (List.getElem_mem hlt)) (hfl.2 _ (List.getElem_mem hlt))
      cases b : acs vs l[m] with
      | true =>
        rw [b] at hc
        refine wG Y56_BN (AI (@G56_BN) (AI hlt' (AI hg hm1))) ?_
        refine AR.callQP [0, 1] hc @exV_eq (AI (@exL_id) (AI (@vaL_id) (AI (@exV_id) @vaV_id))) (AI (@exV_ren) (AI (@exL_ren) (AI (@vaV_ren) @vaL_ren))) ?_
        refine goG Y56_BN @G56_BN ?_
        refine wG Y56_BN (AI (@G56_BN) hm1) ?_
        refine ALp.cutP 3 [(1, .pt 0 0), (2, .pt 1 0), (3, .pt 2 0), (22, .sl (l.map exV) .ro), (23, (.im (.int .i64 (l.length)))), (24, (.im (.int .i64 ((((m + 1 : Nat)) : Int)))))] [.box [(V.sl (vs.map vaV) .ro)], .box [(V.fn (.func 56) [] [.pt 0 0, .pt 1 0])], .box [.im (.int .i64 o), .im (.int .u32 n), .im (.string s), .im (.int .i64 w), .sl (l.map exV) .ro]] (AI (@exL_id) (AI (@vaL_id) (AI (@exV_id) @vaV_id))) ?_
        exact hnext (m + 1) (by omega) (by omega) (hI.succ hlt b)
      | false =>
        rw [b] at hc
        refine wG Y56_BN (AI (@G56_BN) (AI hlt' (AI hg hm1))) ?_
        refine AR.callQP [0, 1] hc @exV_eq (AI (@exL_id) (AI (@vaL_id) (AI (@exV_id) @vaV_id))) (AI (@exV_ren) (AI (@exL_ren) (AI (@vaV_ren) @vaL_ren))) ?_
        refine goG Y56_BN @G56_BN ?_
        refine wG Y56_BN (AI (@G56_BN) hm1) ?_
        rw [not_all_of hlt b]
        exact Fin.oneSP (AI (@exL_id) (AI (@vaL_id) (AI (@exV_id) @vaV_id)))
    · have hall := hI.done (by omega)
      have hlt' : ¬ (m : Int) < (l.length : Int) := by omega
      clear hnext
      rw [hall]
      refine wG Y56_BN (AI (@G56_BN) hlt') ?_
      exact Fin.oneSP (AI (@exL_id) (AI (@vaL_id) (AI (@exV_id) @vaV_id)))
theorem Y28_BN : type_of% (AI @F_ag_48 (AI @F_ag_81 (AI @F_al_81 (AI @F_sz_48 (@F_sz_81))))) := AI @F_ag_48 (AI @F_ag_81 (AI @F_al_81 (AI @F_sz_48 (@F_sz_81))))
theorem c_accesses (vs : List Va) (hv : fitV vs) (e : Ex) (he : fitE e) (hf : efm e = true) : PC Tryz.prog 28 [exV e, (V.sl (vs.map vaV) .ro)] (.im (.bool (acs vs e))) := by
  have h := c_accesses1 vs hv e he hf
  refine PC.enter 10 Tryz.func28 rfl (by decide) rfl rfl (s := [(0, exV e), (1, (V.sl (vs.map vaV) .ro))]) (by rfl) ?_
  simp only [exV_eq]
  refine wG Y28_BN True.intro ?_
  refine AR.callQP [1, 2] h @exV_eq (AI (@exL_id) (AI (@vaL_id) (AI (@exV_id) @vaV_id))) (AI (@exV_ren) (AI (@exL_ren) (AI (@vaV_ren) @vaL_ren))) ?_
  refine goG Y28_BN True.intro ?_
  refine wG Y28_BN True.intro ?_
  exact Fin.oneP
end Go.Proofs.YtfggemopnlffeaaGreat
