/- Walks of the laws: light, run, same. Walks of the laws: the example. -/
import Derived.Test.YtianekkfehoedaaDoorHv
import Derived.Test.YtianekkfehoedaaDoorKB
import Derived.Test.YtianekkfehoedaaDoorZh
import Derived.Test.YtianekkfehoedaaDoorZf
namespace Go.Proofs.YtianekkfehoedaaDoor
set_option linter.unusedSimpArgs false
set_option linter.unusedVariables false
set_option linter.unnecessarySimpa false
open Go.RowKit
def lgE (e : En) : Bool := decide (e.text.length ≤ 400)
def lgS (s : Sp) : Bool := decide (s.l.length ≤ 10) && (decide (s.e.text.length ≤ 400) && s.l.all lgE)
def lgB (l : List Sp) : Bool := l.all lgS && decide (l.length ≤ 30)
theorem Y9_Zi : type_of% (And.intro @F_ag_28 (And.intro @F_ag_36 (And.intro @F_ag_9 (And.intro @F_el_22 (And.intro @F_el_28 (And.intro @F_fl_36_3 (And.intro @F_fl_52_1 (And.intro @F_fl_52_2 (And.intro @F_sz_28 (And.intro @F_sz_36 (And.intro @F_sz_52 (And.intro @F_sz_9 (@F_un_9))))))))))))) := And.intro @F_ag_28 (And.intro @F_ag_36 (And.intro @F_ag_9 (And.intro @F_el_22 (And.intro @F_el_28 (And.intro @F_fl_36_3 (And.intro @F_fl_52_1 (And.intro @F_fl_52_2 (And.intro @F_sz_28 (And.intro @F_sz_36 (And.intro @F_sz_52 (And.intro @F_sz_9 (@F_un_9))))))))))))
theorem c_light (l : List Sp) (hl : l.length ≤ 4194304) : PC Tryd.prog 9 [.sl (l.map spV) .ro] (.im (.bool (lgB l))) := by
  refine PC.enter 52 Tryd.func9 rfl (by decide) rfl rfl (s := [(0, .sl (l.map spV) .ro)]) (by rfl) ?_
  refine wG Y9_Zi True.intro ?_
  refine AWp.loop ?_
  refine ALp.cutP 0 [(0, .sl (l.map spV) .ro), (3, (.im (.int .i64 ((((0 : Nat)) : Int)))))] [] (And.intro enV_id (And.intro enL_id (And.intro byL_id (And.intro lsV_id (And.intro lsL_id (And.intro (@tyV_id) (And.intro flE_id (And.intro spV_id spL_id)))))))) ?_
  refine ALp.upto l.length (fun m => lgB l = ((l.drop m).all lgS && decide (l.length ≤ 30))) (fun m => ⟨dn 52 [(0, .sl (l.map spV) .ro), (3, (.im (.int .i64 ((((m : Nat)) : Int)))))], ofl []⟩) ?_ 0 (Nat.zero_le _) rfl
  intro m hm hI hnext
  by_cases hlt : m < l.length
  · have hlt' : (m : Int) < (l.length : Int) := by omega
    have hg := get_some hlt
    have hm1 := wrap_succ hlt (by omega)
    have hn := hnext (m + 1) (by omega) (by omega)
    clear hnext
    rw [List.drop_eq_getElem_cons hlt, List.all_cons] at hI
    generalize l[m] = s at hg hI
    generalize hR : ((l.drop (m + 1)).all lgS && decide (l.length ≤ 30)) = rest at hn
    rw [Bool.and_assoc, hR] at hI
    unfold lgS at hI
    by_cases h1 : s.l.length ≤ 10
    case neg =>
      have h1' : (s.l.length : Int) > 10 := by omega
      rw [decide_eq_false h1] at hI
      rw [hI]
      clear hI hn
      refine wG Y9_Zi (And.intro hlt' (And.intro SPT (And.intro hg h1'))) ?_
      exact Fin.oneP
    have h1' : ¬ (s.l.length : Int) > 10 := by omega
    rw [decide_eq_true h1, Bool.true_and] at hI
    by_cases h2 : s.e.text.length ≤ 400
    case neg =>
      have h2' : (s.e.text.length : Int) > 400 := by omega
      rw [decide_eq_false h2] at hI
      rw [hI]
      clear hI hn
      refine wG Y9_Zi (And.intro hlt' (And.intro SPT (And.intro hg (And.intro h1' (And.intro BAT h2'))))) ?_
      exact Fin.oneP
    have h2' : ¬ (s.e.text.length : Int) > 400 := by omega
    rw [decide_eq_true h2, Bool.true_and] at hI
    refine wG Y9_Zi (And.intro hlt' (And.intro SPT (And.intro hg (And.intro h1' (And.intro BAT h2'))))) ?_
    refine AWp.loop ?_
    refine ALp.cutP 0 [(0, .sl (l.map spV) .ro), (3, (.im (.int .i64 (((m : Nat) : Int))))), (4, (.im (.int .i64 ((((0 : Nat)) : Int)))))] [] (And.intro enV_id (And.intro enL_id (And.intro byL_id (And.intro lsV_id (And.intro lsL_id (And.intro (@tyV_id) (And.intro flE_id (And.intro spV_id spL_id)))))))) ?_
    refine ALp.upto s.l.length (fun k => lgB l = ((s.l.drop k).all lgE && rest)) (fun k => ⟨dn 52 [(0, .sl (l.map spV) .ro), (3, (.im (.int .i64 (((m : Nat) : Int))))), (4, (.im (.int .i64 ((((k : Nat)) : Int)))))], ofl []⟩) ?_ 0 (Nat.zero_le _) hI
    intro k hk hJ hnx
    by_cases hkl : k < s.l.length
    · have hkl' : (k : Int) < (s.l.length : Int) := by omega
      have hgk := get_some hkl
      have hk1 := wrap_succ hkl (by omega)
      have hn2 := hnx (k + 1) (by omega) (by omega)
      clear hnx
      rw [List.drop_eq_getElem_cons hkl, List.all_cons] at hJ
      generalize s.l[k] = e at hgk hJ
      by_cases h3 : e.text.length ≤ 400
      · have h3' : ¬ (e.text.length : Int) > 400 := by omega
        have he : lgE e = true := decide_eq_true h3
        rw [he, Bool.true_and] at hJ
        refine wG Y9_Zi (And.intro hlt' (And.intro SPT (And.intro hg (And.intro hkl' (And.intro ENT (And.intro hgk (And.intro BAT (And.intro h3' hk1)))))))) ?_
        refine ALp.cutP 0 [(0, .sl (l.map spV) .ro), (3, (.im (.int .i64 (((m : Nat) : Int))))), (4, (.im (.int .i64 ((((k + 1 : Nat)) : Int)))))] [] (And.intro enV_id (And.intro enL_id (And.intro byL_id (And.intro lsV_id (And.intro lsL_id (And.intro (@tyV_id) (And.intro flE_id (And.intro spV_id spL_id)))))))) ?_
        exact hn2 hJ
      · have h3' : (e.text.length : Int) > 400 := by omega
        have he : lgE e = false := decide_eq_false h3
        rw [he] at hJ
        rw [hJ]
        refine wG Y9_Zi (And.intro hlt' (And.intro SPT (And.intro hg (And.intro hkl' (And.intro ENT (And.intro hgk (And.intro BAT h3'))))))) ?_
        exact Fin.oneP
    · obtain rfl : k = s.l.length := by omega
      have hkl' : ¬ (s.l.length : Int) < (s.l.length : Int) := by omega
      rw [List.drop_length] at hJ
      clear hnx hkl
      refine wG Y9_Zi (And.intro hlt' (And.intro SPT (And.intro hg (And.intro hkl' (And.intro ENT hm1))))) ?_
      refine ALp.cutP 0 [(0, .sl (l.map spV) .ro), (3, (.im (.int .i64 ((((m + 1 : Nat)) : Int)))))] [] (And.intro enV_id (And.intro enL_id (And.intro byL_id (And.intro lsV_id (And.intro lsL_id (And.intro (@tyV_id) (And.intro flE_id (And.intro spV_id spL_id)))))))) ?_
      exact hn hJ
  · obtain rfl : m = l.length := by omega
    have hlt' : ¬ (l.length : Int) < (l.length : Int) := by omega
    rw [List.drop_length] at hI
    rw [hI]
    clear hnext hlt hI
    by_cases h : l.length ≤ 30
    · have h' : (l.length : Int) ≤ 30 := by omega
      rw [decide_eq_true h]
      refine wG Y9_Zi (And.intro hlt' (And.intro h' @List.length_map.{0, 0})) ?_
      exact Fin.oneP
    · have h' : ¬ (l.length : Int) ≤ 30 := by omega
      rw [decide_eq_false h]
      refine wG Y9_Zi (And.intro hlt' (And.intro h' @List.length_map.{0, 0})) ?_
      exact Fin.oneP
theorem Y14_Zi : type_of% (And.intro @F_ag_36 (And.intro @F_el_28 (And.intro @F_eq_36 (@F_sz_36)))) := And.intro @F_ag_36 (And.intro @F_el_28 (And.intro @F_eq_36 (@F_sz_36)))
theorem c_sameT (a : List En) (ha : a.length ≤ 4194304) : PC Tryd.prog 14 [.sl (a.map enV) .ro, .sl (a.map enV) .ro] (.im (.bool (true))) := by
  refine PC.enter 26 Tryd.func14 rfl (by decide) rfl rfl (s := [(0, .sl (a.map enV) .ro), (1, .sl (a.map enV) .ro)]) (by rfl) ?_
  refine wG Y14_Zi @List.length_map.{0, 0} ?_
  refine AWp.loop ?_
  refine ALp.cutP 0 [(0, .sl (a.map enV) .ro), (1, .sl (a.map enV) .ro), (5, (.im (.int .i64 ((((0 : Nat)) : Int)))))] [] (And.intro enV_id (And.intro enL_id (And.intro byL_id (And.intro lsV_id (And.intro lsL_id (And.intro (@tyV_id) (And.intro flE_id (And.intro spV_id spL_id)))))))) ?_
  refine ALp.upto a.length (fun _ => True) (fun m => ⟨dn 26 [(0, .sl (a.map enV) .ro), (1, .sl (a.map enV) .ro), (5, (.im (.int .i64 ((((m : Nat)) : Int)))))], ofl []⟩) ?_ 0 (Nat.zero_le _) trivial
  intro m hm _ hnext
  by_cases hlt : m < a.length
  · have hlt' : (m : Int) < (a.length : Int) := by omega
    have hg := get_some hlt
    have hm1 := wrap_succ hlt (by omega)
    have hn := hnext (m + 1) (by omega) (by omega) trivial
    clear hnext
    generalize a[m] = e at hg
    refine wdG Y14_Zi (And.intro hlt' (And.intro ENT (And.intro enV_eq (And.intro hg hm1)))) ?_
    refine ALp.cutP 0 [(0, .sl (a.map enV) .ro), (1, .sl (a.map enV) .ro), (5, (.im (.int .i64 ((((m + 1 : Nat)) : Int)))))] [] (And.intro enV_id (And.intro enL_id (And.intro byL_id (And.intro lsV_id (And.intro lsL_id (And.intro (@tyV_id) (And.intro flE_id (And.intro spV_id spL_id)))))))) ?_
    exact hn
  · obtain rfl : m = a.length := by omega
    have hlt' : ¬ (a.length : Int) < (a.length : Int) := by omega
    clear hnext hlt
    refine wG Y14_Zi (And.intro hlt' @List.length_map.{0, 0}) ?_
    exact Fin.oneP
theorem Y11_Zi : type_of% (And.intro @F_ag_3 (And.intro @F_ag_36 (And.intro @F_el_22 (And.intro @F_fl_52_0 (And.intro @F_fl_52_1 (And.intro @F_sz_3 (And.intro @F_sz_36 (@F_sz_52)))))))) := And.intro @F_ag_3 (And.intro @F_ag_36 (And.intro @F_el_22 (And.intro @F_fl_52_0 (And.intro @F_fl_52_1 (And.intro @F_sz_3 (And.intro @F_sz_36 (@F_sz_52)))))))
theorem runP_cons (p : Pr) (s : Sp) (l : List Sp) : runP p (s :: l) = runP (stP p s) l := rfl
theorem runN_cons (p : Pr) (s : Sp) (l : List Sp) : runN p (s :: l) = stN p s + runN (stP p s) l := rfl
structure RunI (p : Pr) (l : List Sp) (U : Nat) (x : Nat × Nat × Pr) : Prop where
  m : x.1 ≤ l.length
  n : x.2.1 ≤ x.1
  asc : AscE x.2.2.l
  len : x.2.2.l.length ≤ 1024
  un : x.2.2.un.length ≤ U + x.1
  re : x.2.2.re = []
  pp : runP p l = runP x.2.2 (l.drop x.1)
  rr : runN p l = x.2.1 + runN x.2.2 (l.drop x.1)
theorem clip_le (u : List (List En)) : (clipE u).length ≤ u.length := by unfold clipE; simp
theorem RunI.next {p : Pr} {l : List Sp} {U m n : Nat} {q : Pr} {s : Sp} (h : RunI p l U (m, n, q)) (hs : l[m]? = some s) : RunI p l U (m + 1, n + stN q s, stP q s) := by
  have hm : m < l.length := (List.getElem?_eq_some_iff.1 hs).1
  have hd : l.drop m = s :: l.drop (m + 1) := by
    obtain ⟨_, h7⟩ := List.getElem?_eq_some_iff.1 hs
    rw [← h7]
    exact List.drop_eq_getElem_cons _
  clear hs
  have hn1 : stN q s ≤ 1 := by
    unfold stN
    repeat' split
    all_goals omega
  have hcl := clip_le (q.un ++ [q.l])
  rw [List.length_append, List.length_cons, List.length_nil] at hcl
  have ha := h.asc
  have hl := h.len
  have hu := h.un
  dsimp only at ha hl hu
  have hst : AscE (stP q s).l ∧ (stP q s).l.length ≤ 1024 ∧ (stP q s).un.length ≤ q.un.length + 1 ∧ (stP q s).re = [] := by
    have same : AscE q.l ∧ q.l.length ≤ 1024 ∧ q.un.length ≤ q.un.length + 1 ∧ q.re = [] := ⟨ha, hl, by omega, h.re⟩
    unfold stP Pr.put Pr.rem Pr.chg
    by_cases k0 : s.kind = 0
    · rw [if_pos k0]
      by_cases hE : eErr q.l s.e = 0
      · rw [if_pos hE]
        dsimp only
        exact ⟨asc_eWith ha _, len_eWith hl hE, hcl, rfl⟩
      · rw [if_neg hE]; exact same
    · rw [if_neg k0]
      by_cases k1 : s.kind = 1
      · rw [if_pos k1]
        by_cases hE : rmErr q.l s.e = 0
        · rw [if_pos hE]
          dsimp only
          exact ⟨asc_delE _ ha, Nat.le_trans (List.Sublist.length_le (List.eraseIdx_sublist _ _)) hl, hcl, rfl⟩
        · rw [if_neg hE]; exact same
      · rw [if_neg k1]; exact same
  have hp := h.pp
  have hr := h.rr
  have hn := h.n
  dsimp only at hp hr hn
  rw [hd] at hp hr
  refine ⟨hm, ?_, hst.1, hst.2.1, ?_, hst.2.2.2, hp, ?_⟩
  · dsimp only; omega
  · dsimp only; omega
  · rw [runN_cons] at hr; dsimp only; omega
theorem c_run (p : Pr) (l : List Sp) (h : AscE p.l) (hl : p.l.length ≤ 1024) (hr : p.re = []) (hu : p.un.length ≤ 1000) (hn : l.length ≤ 30) (ht : ∀ s ∈ l, s.e.text.length ≤ 400) : DC Tryd.prog 11 [.pt 0 0, .sl (l.map spV) .ro] [.box [(.im (.bool (true))), .sl ((p).l.map enV) .ro, .sl ((p).un.map lsV) .full, .sl [] .nl]] (.im (.int .i64 (((runN p l : Nat) : Int)))) [.box [(.im (.bool (true))), .sl ((runP p l).l.map enV) .ro, .sl ((runP p l).un.map lsV) .full, .sl [] .nl]] := by
  refine DC.enter 43 Tryd.func11 rfl (by decide) rfl rfl (s := [(0, .pt 0 0), (1, .sl (l.map spV) .ro)]) (by rfl) ?_
  refine wG Y11_Zi True.intro ?_
  refine AWp.loop ?_
  refine ALp.cutP 1 [(0, .pt 0 0), (1, .sl (l.map spV) .ro), (5, (.im (.int .i64 ((((((0, 0, p) : Nat × Nat × Pr)).2.1 : Nat) : Int))))), (6, (.im (.int .i64 ((((((0, 0, p) : Nat × Nat × Pr)).1 : Nat) : Int)))))] [.box [(.im (.bool (true))), .sl ((p).l.map enV) .ro, .sl ((p).un.map lsV) .full, .sl [] .nl]] (And.intro enV_id (And.intro enL_id (And.intro byL_id (And.intro lsV_id (And.intro lsL_id (And.intro (@tyV_id) (And.intro flE_id (And.intro spV_id spL_id)))))))) ?_
  refine ALp.meas (α := Nat × Nat × Pr) (fun x => ⟨dn 43 [(0, .pt 0 0), (1, .sl (l.map spV) .ro), (5, (.im (.int .i64 ((((x).2.1 : Nat) : Int))))), (6, (.im (.int .i64 ((((x).1 : Nat) : Int)))))], ofl [.box [(.im (.bool (true))), .sl ((x.2.2).l.map enV) .ro, .sl ((x.2.2).un.map lsV) .full, .sl [] .nl]]⟩) (RunI p l p.un.length) (fun x => l.length - x.1) ?_ (0, 0, p) ⟨Nat.zero_le _, Nat.le_refl _, h, hl, Nat.le_refl _, hr, rfl, by dsimp only; rw [List.drop_zero]; omega⟩
  rintro ⟨m, n, q⟩ hI hnext
  have h1 := hI.m
  have hnm := hI.n
  dsimp only at h1 hnm hnext ⊢
  by_cases hlt : m < l.length
  · have hlt' : (m : Int) < (l.length : Int) := by omega
    have hg := get_some hlt
    have hm1 := wrap_succ hlt (by omega)
    have hn1 : IntKind.i64.wrap ((n : Int) + 1) = ((n + 1 : Nat) : Int) := by rw [wrap_in (by omega)]; omega
    have hI2 := hI.next hg
    have hte := ht l[m] (List.getElem_mem hlt)
    have hn := hnext _ (by simp; omega) hI2
    clear hnext
    have ha := hI.asc
    have hln := hI.len
    have hun := hI.un
    dsimp only at ha hln hun
    generalize l[m] = s at hg hI2 hn hte
    unfold stP stN at hn
    clear hI hI2
    by_cases k0 : s.kind = 0
    · rw [if_pos k0, if_pos k0] at hn
      unfold Pr.put Pr.chg at hn
      by_cases hE : eErr q.l s.e = 0
      · rw [if_pos hE, if_pos hE] at hn
        have qq := c_Put0N q.l q.un s.e ha hln (by omega) (by omega) hE
        dsimp only at hn
        generalize eWith q.l s.e = L2 at qq hn
        generalize clipE (q.un ++ [q.l]) = u2 at qq hn
        refine wG Y11_Zi (And.intro hlt' (And.intro SPT (And.intro hg k0))) ?_
        refine AR.callSP [0] qq enV_eq (And.intro enV_id (And.intro enL_id (And.intro byL_id (And.intro lsV_id (And.intro lsL_id (And.intro (@tyV_id) (And.intro flE_id (And.intro spV_id spL_id)))))))) (And.intro enV_ren (And.intro enL_ren (And.intro byL_ren (And.intro lsV_ren (And.intro lsL_ren (And.intro flE_ren (And.intro spV_ren spL_ren))))))) ?_
        refine goG Y11_Zi True.intro ?_
        refine wG Y11_Zi (And.intro hn1 hm1) ?_
        refine ALp.cutP 1 [(0, .pt 0 0), (1, .sl (l.map spV) .ro), (5, (.im (.int .i64 ((((((m + 1, n + 1, ⟨L2, u2, []⟩) : Nat × Nat × Pr)).2.1 : Nat) : Int))))), (6, (.im (.int .i64 ((((((m + 1, n + 1, ⟨L2, u2, []⟩) : Nat × Nat × Pr)).1 : Nat) : Int)))))] [.box [(.im (.bool (true))), .sl (((⟨L2, u2, []⟩ : Pr)).l.map enV) .ro, .sl (((⟨L2, u2, []⟩ : Pr)).un.map lsV) .full, .sl [] .nl]] (And.intro enV_id (And.intro enL_id (And.intro byL_id (And.intro lsV_id (And.intro lsL_id (And.intro (@tyV_id) (And.intro flE_id (And.intro spV_id spL_id)))))))) ?_
        exact hn
      · rw [if_neg hE, if_neg hE] at hn
        have qq := c_Put1N q.l q.un s.e ha hln (by omega) hE
        generalize eErr q.l s.e = ee at qq hE
        refine wG Y11_Zi (And.intro hlt' (And.intro SPT (And.intro hg k0))) ?_
        refine AR.callSP [0] qq enV_eq (And.intro enV_id (And.intro enL_id (And.intro byL_id (And.intro lsV_id (And.intro lsL_id (And.intro (@tyV_id) (And.intro flE_id (And.intro spV_id spL_id)))))))) (And.intro enV_ren (And.intro enL_ren (And.intro byL_ren (And.intro lsV_ren (And.intro lsL_ren (And.intro flE_ren (And.intro spV_ren spL_ren))))))) ?_
        refine goG Y11_Zi hE ?_
        refine wG Y11_Zi hm1 ?_
        refine ALp.cutP 1 [(0, .pt 0 0), (1, .sl (l.map spV) .ro), (5, (.im (.int .i64 ((((((m + 1, n + 0, q) : Nat × Nat × Pr)).2.1 : Nat) : Int))))), (6, (.im (.int .i64 ((((((m + 1, n + 0, q) : Nat × Nat × Pr)).1 : Nat) : Int)))))] [.box [(.im (.bool (true))), .sl ((q).l.map enV) .ro, .sl ((q).un.map lsV) .full, .sl [] .nl]] (And.intro enV_id (And.intro enL_id (And.intro byL_id (And.intro lsV_id (And.intro lsL_id (And.intro (@tyV_id) (And.intro flE_id (And.intro spV_id spL_id)))))))) ?_
        exact hn
    · rw [if_neg k0, if_neg k0] at hn
      by_cases k1 : s.kind = 1
      · rw [if_pos k1, if_pos k1] at hn
        unfold Pr.rem Pr.chg at hn
        by_cases hE : rmErr q.l s.e = 0
        · rw [if_pos hE, if_pos hE] at hn
          have qq := c_Rem0N q.l q.un s.e ha hln (by omega) hE
          dsimp only at hn
          generalize delE q.l s.e = L2 at qq hn
          generalize clipE (q.un ++ [q.l]) = u2 at qq hn
          refine wG Y11_Zi (And.intro hlt' (And.intro SPT (And.intro hg k1))) ?_
          refine AR.callSP [0] qq enV_eq (And.intro enV_id (And.intro enL_id (And.intro byL_id (And.intro lsV_id (And.intro lsL_id (And.intro (@tyV_id) (And.intro flE_id (And.intro spV_id spL_id)))))))) (And.intro enV_ren (And.intro enL_ren (And.intro byL_ren (And.intro lsV_ren (And.intro lsL_ren (And.intro flE_ren (And.intro spV_ren spL_ren))))))) ?_
          refine goG Y11_Zi True.intro ?_
          refine wG Y11_Zi (And.intro hn1 hm1) ?_
          refine ALp.cutP 1 [(0, .pt 0 0), (1, .sl (l.map spV) .ro), (5, (.im (.int .i64 ((((((m + 1, n + 1, ⟨L2, u2, []⟩) : Nat × Nat × Pr)).2.1 : Nat) : Int))))), (6, (.im (.int .i64 ((((((m + 1, n + 1, ⟨L2, u2, []⟩) : Nat × Nat × Pr)).1 : Nat) : Int)))))] [.box [(.im (.bool (true))), .sl (((⟨L2, u2, []⟩ : Pr)).l.map enV) .ro, .sl (((⟨L2, u2, []⟩ : Pr)).un.map lsV) .full, .sl [] .nl]] (And.intro enV_id (And.intro enL_id (And.intro byL_id (And.intro lsV_id (And.intro lsL_id (And.intro (@tyV_id) (And.intro flE_id (And.intro spV_id spL_id)))))))) ?_
          exact hn
        · rw [if_neg hE, if_neg hE] at hn
          have qq := c_Rem1N q.l q.un s.e ha hln hE
          generalize rmErr q.l s.e = ee at qq hE
          refine wG Y11_Zi (And.intro hlt' (And.intro SPT (And.intro hg k1))) ?_
          refine AR.callSP [0] qq enV_eq (And.intro enV_id (And.intro enL_id (And.intro byL_id (And.intro lsV_id (And.intro lsL_id (And.intro (@tyV_id) (And.intro flE_id (And.intro spV_id spL_id)))))))) (And.intro enV_ren (And.intro enL_ren (And.intro byL_ren (And.intro lsV_ren (And.intro lsL_ren (And.intro flE_ren (And.intro spV_ren spL_ren))))))) ?_
          refine goG Y11_Zi hE ?_
          refine wG Y11_Zi hm1 ?_
          refine ALp.cutP 1 [(0, .pt 0 0), (1, .sl (l.map spV) .ro), (5, (.im (.int .i64 ((((((m + 1, n + 0, q) : Nat × Nat × Pr)).2.1 : Nat) : Int))))), (6, (.im (.int .i64 ((((((m + 1, n + 0, q) : Nat × Nat × Pr)).1 : Nat) : Int)))))] [.box [(.im (.bool (true))), .sl ((q).l.map enV) .ro, .sl ((q).un.map lsV) .full, .sl [] .nl]] (And.intro enV_id (And.intro enL_id (And.intro byL_id (And.intro lsV_id (And.intro lsL_id (And.intro (@tyV_id) (And.intro flE_id (And.intro spV_id spL_id)))))))) ?_
          exact hn
      · rw [if_neg k1, if_neg k1] at hn
        refine wG Y11_Zi (And.intro hlt' (And.intro SPT (And.intro hg (And.intro k0 (And.intro k1 hm1))))) ?_
        refine ALp.cutP 1 [(0, .pt 0 0), (1, .sl (l.map spV) .ro), (5, (.im (.int .i64 ((((((m + 1, n + 0, q) : Nat × Nat × Pr)).2.1 : Nat) : Int))))), (6, (.im (.int .i64 ((((((m + 1, n + 0, q) : Nat × Nat × Pr)).1 : Nat) : Int)))))] [.box [(.im (.bool (true))), .sl ((q).l.map enV) .ro, .sl ((q).un.map lsV) .full, .sl [] .nl]] (And.intro enV_id (And.intro enL_id (And.intro byL_id (And.intro lsV_id (And.intro lsL_id (And.intro (@tyV_id) (And.intro flE_id (And.intro spV_id spL_id)))))))) ?_
        exact hn
  · obtain rfl : m = l.length := by omega
    have hlt' : ¬ (l.length : Int) < (l.length : Int) := by omega
    have hp := hI.pp
    have hr := hI.rr
    dsimp only at hp hr
    rw [List.drop_length] at hp hr
    have hp : runP p l = q := hp
    have hr : runN p l = n := by rw [hr]; rfl
    rw [hp, hr]
    clear hnext hlt hI hp hr
    refine wG Y11_Zi (And.intro hlt' @List.length_map.{0, 0}) ?_
    refine Fin.gen (rs := [.tmp 4]) rfl (by first | exact .inl rfl | exact .inr rfl) (finG Y11_Zi) ?_ rfl (idG (And.intro enV_id (And.intro enL_id (And.intro byL_id (And.intro lsV_id (And.intro lsL_id (And.intro (@tyV_id) (And.intro flE_id (And.intro spV_id spL_id)))))))))
    skip
    all_goals exact wkG (And.intro enV_id (And.intro enL_id (And.intro byL_id (And.intro lsV_id (And.intro lsL_id (And.intro (@tyV_id) (And.intro flE_id (And.intro spV_id spL_id))))))))
end Go.Proofs.YtianekkfehoedaaDoor
namespace Go.Proofs.YtianekkfehoedaaDoor
set_option linter.unusedSimpArgs false
set_option linter.unusedVariables false
set_option linter.unnecessarySimpa false
open Go.RowKit
def mnB : Bs := [109, 97, 105, 110]
def xE : En := ⟨1, 0, 16, mnB⟩
def xF : En := ⟨1, 0, 17, mnB⟩
theorem bA_mn : bA mnB = ⟨#[109, 97, 105, 110]⟩ := rfl
theorem xE_key : vkeyB xE = true := by decide +kernel
theorem nm_mn : nameB mnB = true := by decide +kernel
theorem xE_e0 : eErr [] xE = 0 := by decide +kernel
theorem xE_w : eWith [] xE = [xE] := by decide +kernel
theorem xF_e : eErr [xE] xF = 8 := by decide +kernel
theorem xE_h : hasE [xE] (keyOf 1 16 0) = true := by decide +kernel
theorem xE_g : getE [xE] 1 16 0 = mnB := by decide +kernel
theorem xE_n : hasE [] (keyOf 1 16 0) = false := rfl
theorem xE_m : getE [] 1 16 0 = [] := rfl
theorem xE_asc : AscE [xE] := List.pairwise_singleton _ _
theorem xE_gd : Gd [xE] := by
  have h := Gd.nil.with_ xE_e0 ⟨by decide, by decide⟩
  rwa [xE_w] at h
theorem xE_fits : ∀ e ∈ [xE], Fits47 e := fun e he => xE_gd.fits he
theorem xE_ld : (ldN (saveB [xE])).1 = 0 := by rw [ld_save xE_gd]
theorem xE_ld2 : (ldN (saveB [xE])).2 = [xE] := by rw [ld_save xE_gd]
theorem clip1 (a : List En) : clipE ([] ++ [a]) = [a] := clipE_id (by simp)
theorem Y8_Zj : type_of% (And.intro @F_ag_36 (And.intro @F_al_36 (And.intro @F_el_28 (And.intro @F_eq_36 (And.intro @F_st_36 (@F_sz_36)))))) := And.intro @F_ag_36 (And.intro @F_al_36 (And.intro @F_el_28 (And.intro @F_eq_36 (And.intro @F_st_36 (@F_sz_36)))))
theorem xSave : ∃ (sb : Bs) (n : Nat) (k : Int), (DC Tryd.prog 17 [.pt 0 0] [.box [(.im (.bool (true))), .sl [.ag [(.im (.int .i64 (1))), (.im (.int .i64 (0))), (.im (.int .u32 (16))), .im (.string ⟨#[109, 97, 105, 110]⟩)]] .ro, .sl [.sl [] .ro] .ro, .sl [] .ro], .free] (.sl (sb.map byB) (.mine 1)) [.box [(.im (.bool (true))), .sl [.ag [(.im (.int .i64 (1))), (.im (.int .i64 (0))), (.im (.int .u32 (16))), .im (.string ⟨#[109, 97, 105, 110]⟩)]] .ro, .sl [.sl [] .ro] .ro, .sl [] .ro], .tip 5 1 n]) ∧
    DC Tryd.prog 18 [.sl (sb.map byB) .ro] [.free, .free] (.tu [.pt 1 0, (.im (.int .i64 (0)))]) [.box [.sl (sb.map byB) .ro, (.im (.int .i64 (k))), (.im (.bool (false)))], .box [(.im (.bool (true))), .sl [.ag [(.im (.int .i64 (1))), (.im (.int .i64 (0))), (.im (.int .u32 (16))), .im (.string ⟨#[109, 97, 105, 110]⟩)]] .ro, .sl [] .nl, .sl [] .nl]] := by
  refine ⟨saveB [xE], (saveB [xE]).length, ((saveB [xE]).length : Int), c_SaveR [xE] [[]] [] xE_fits (by decide), ?_⟩
  have h := c_LoadK (saveB [xE]) (by rw [save_len]; have := svM_le xE_fits (by decide) [xE].length; rw [svM_all] at this; omega) xE_ld
  rw [xE_ld2] at h
  exact h
theorem c_example47 : PC Tryd.prog 8 [] (.im (.bool (true))) := by
  have q1 := c_New
  have p1 : DC Tryd.prog 20 [.pt 0 0, .ag [(.im (.int .i64 (1))), (.im (.int .i64 (0))), (.im (.int .u32 (16))), .im (.string ⟨#[109, 97, 105, 110]⟩)]] [.box [(.im (.bool (true))), .sl [] .ro, .sl [] .full, .sl [] .nl]] (.im (.int .i64 (0))) [.box [(.im (.bool (true))), .sl [.ag [(.im (.int .i64 (1))), (.im (.int .i64 (0))), (.im (.int .u32 (16))), .im (.string ⟨#[109, 97, 105, 110]⟩)]] .ro, .sl [.sl [] .ro] .full, .sl [] .nl]] := by
    have h := c_Put0N [] [] xE List.Pairwise.nil (by decide) (by decide) (by decide) xE_e0
    rw [xE_w, clip1] at h
    exact h
  have p2 : DC Tryd.prog 20 [.pt 0 0, .ag [(.im (.int .i64 (1))), (.im (.int .i64 (0))), (.im (.int .u32 (17))), .im (.string ⟨#[109, 97, 105, 110]⟩)]] [.box [(.im (.bool (true))), .sl [.ag [(.im (.int .i64 (1))), (.im (.int .i64 (0))), (.im (.int .u32 (16))), .im (.string ⟨#[109, 97, 105, 110]⟩)]] .ro, .sl [.sl [] .ro] .full, .sl [] .nl]] (.im (.int .i64 (8))) [.box [(.im (.bool (true))), .sl [.ag [(.im (.int .i64 (1))), (.im (.int .i64 (0))), (.im (.int .u32 (16))), .im (.string ⟨#[109, 97, 105, 110]⟩)]] .ro, .sl [.sl [] .ro] .full, .sl [] .nl]] := by
    have h := c_Put1N [xE] [[]] xF xE_asc (by decide) (by decide) (by rw [xF_e]; decide)
    rw [xF_e] at h
    exact h
  have p3 : DC Tryd.prog 16 [.pt 0 0, (.im (.int .i64 (1))), (.im (.int .u32 (16))), (.im (.int .i64 (0)))] [.box [(.im (.bool (true))), .sl [.ag [(.im (.int .i64 (1))), (.im (.int .i64 (0))), (.im (.int .u32 (16))), .im (.string ⟨#[109, 97, 105, 110]⟩)]] .ro, .sl [.sl [] .ro] .full, .sl [] .nl]] (.tu [.im (.string ⟨#[109, 97, 105, 110]⟩), (.im (.bool (true)))]) [.box [(.im (.bool (true))), .sl [.ag [(.im (.int .i64 (1))), (.im (.int .i64 (0))), (.im (.int .u32 (16))), .im (.string ⟨#[109, 97, 105, 110]⟩)]] .ro, .sl [.sl [] .ro] .full, .sl [] .nl]] := by
    have h := c_GetN [xE] [[]] 1 16 0 xE_asc (by decide)
    rw [xE_g, xE_h] at h
    exact h
  have p4 : DC Tryd.prog 12 [.pt 0 0] [.box [(.im (.bool (true))), .sl [.ag [(.im (.int .i64 (1))), (.im (.int .i64 (0))), (.im (.int .u32 (16))), .im (.string ⟨#[109, 97, 105, 110]⟩)]] .ro, .sl [.sl [] .ro] .full, .sl [] .nl]] (.sl [.ag [(.im (.int .i64 (1))), (.im (.int .i64 (0))), (.im (.int .u32 (16))), .im (.string ⟨#[109, 97, 105, 110]⟩)]] .ro) [.box [(.im (.bool (true))), .sl [.ag [(.im (.int .i64 (1))), (.im (.int .i64 (0))), (.im (.int .u32 (16))), .im (.string ⟨#[109, 97, 105, 110]⟩)]] .ro, .sl [.sl [] .ro] .full, .sl [] .nl]] := c_AllN [xE] [[]] (by decide)
  have p5 : DC Tryd.prog 13 [.pt 0 0] [.box [(.im (.bool (true))), .sl [.ag [(.im (.int .i64 (1))), (.im (.int .i64 (0))), (.im (.int .u32 (16))), .im (.string ⟨#[109, 97, 105, 110]⟩)]] .ro, .sl [.sl [] .ro] .full, .sl [] .nl], .free] (.im (.bool (true))) [.box [(.im (.bool (true))), .sl [] .ro, .sl [] .full, .sl [.sl [.ag [(.im (.int .i64 (1))), (.im (.int .i64 (0))), (.im (.int .u32 (16))), .im (.string ⟨#[109, 97, 105, 110]⟩)]] .ro] (.own 1)], .tip 28 1 1] := c_Undo0N [xE] [] [] (by decide)
  have p6 : DC Tryd.prog 16 [.pt 0 0, (.im (.int .i64 (1))), (.im (.int .u32 (16))), (.im (.int .i64 (0)))] [.box [(.im (.bool (true))), .sl [] .ro, .sl [] .full, .sl [.sl [.ag [(.im (.int .i64 (1))), (.im (.int .i64 (0))), (.im (.int .u32 (16))), .im (.string ⟨#[109, 97, 105, 110]⟩)]] .ro] .ro]] (.tu [.im (.string ByteArray.empty), (.im (.bool (false)))]) [.box [(.im (.bool (true))), .sl [] .ro, .sl [] .full, .sl [.sl [.ag [(.im (.int .i64 (1))), (.im (.int .i64 (0))), (.im (.int .u32 (16))), .im (.string ⟨#[109, 97, 105, 110]⟩)]] .ro] .ro]] := by
    have h := c_GetM [] [] [[xE]] 1 16 0 List.Pairwise.nil (by decide)
    rw [xE_m, xE_n] at h
    exact h
  have p7 : DC Tryd.prog 15 [.pt 0 0] [.box [(.im (.bool (true))), .sl [] .ro, .sl [] .full, .sl [.sl [.ag [(.im (.int .i64 (1))), (.im (.int .i64 (0))), (.im (.int .u32 (16))), .im (.string ⟨#[109, 97, 105, 110]⟩)]] .ro] .ro], .free] (.im (.bool (true))) [.box [(.im (.bool (true))), .sl [.ag [(.im (.int .i64 (1))), (.im (.int .i64 (0))), (.im (.int .u32 (16))), .im (.string ⟨#[109, 97, 105, 110]⟩)]] .ro, .sl [.sl [] .ro] (.own 1), .sl [] .full], .tip 28 1 1] := c_Redo0M [] [xE] [] [] (by decide) (by decide)
  have p8 : DC Tryd.prog 15 [.pt 0 0] [.box [(.im (.bool (true))), .sl [.ag [(.im (.int .i64 (1))), (.im (.int .i64 (0))), (.im (.int .u32 (16))), .im (.string ⟨#[109, 97, 105, 110]⟩)]] .ro, .sl [.sl [] .ro] (.own 1), .sl [] .full], .tip 28 1 1] (.im (.bool (false))) [.box [(.im (.bool (true))), .sl [.ag [(.im (.int .i64 (1))), (.im (.int .i64 (0))), (.im (.int .u32 (16))), .im (.string ⟨#[109, 97, 105, 110]⟩)]] .ro, .sl [.sl [] .ro] (.own 1), .sl [] .full], .tip 28 1 1] := c_Redo1Q [xE] [[]]
  have p9 : DC Tryd.prog 16 [.pt 0 0, (.im (.int .i64 (1))), (.im (.int .u32 (16))), (.im (.int .i64 (0)))] [.box [(.im (.bool (true))), .sl [.ag [(.im (.int .i64 (1))), (.im (.int .i64 (0))), (.im (.int .u32 (16))), .im (.string ⟨#[109, 97, 105, 110]⟩)]] .ro, .sl [.sl [] .ro] .ro, .sl [] .ro]] (.tu [.im (.string ⟨#[109, 97, 105, 110]⟩), (.im (.bool (true)))]) [.box [(.im (.bool (true))), .sl [.ag [(.im (.int .i64 (1))), (.im (.int .i64 (0))), (.im (.int .u32 (16))), .im (.string ⟨#[109, 97, 105, 110]⟩)]] .ro, .sl [.sl [] .ro] .ro, .sl [] .ro]] := by
    have h := c_GetR [xE] [[]] [] 1 16 0 xE_asc (by decide)
    rw [xE_g, xE_h] at h
    exact h
  obtain ⟨sb, n, k, pa, pb⟩ := xSave
  have pc : DC Tryd.prog 12 [.pt 0 0] [.box [(.im (.bool (true))), .sl [.ag [(.im (.int .i64 (1))), (.im (.int .i64 (0))), (.im (.int .u32 (16))), .im (.string ⟨#[109, 97, 105, 110]⟩)]] .ro, .sl [] .ro, .sl [] .ro]] (.sl [.ag [(.im (.int .i64 (1))), (.im (.int .i64 (0))), (.im (.int .u32 (16))), .im (.string ⟨#[109, 97, 105, 110]⟩)]] .ro) [.box [(.im (.bool (true))), .sl [.ag [(.im (.int .i64 (1))), (.im (.int .i64 (0))), (.im (.int .u32 (16))), .im (.string ⟨#[109, 97, 105, 110]⟩)]] .ro, .sl [] .ro, .sl [] .ro]] := c_AllR [xE] [] [] (by decide)
  have pd : DC Tryd.prog 13 [.pt 0 0] [.box [(.im (.bool (true))), .sl [.ag [(.im (.int .i64 (1))), (.im (.int .i64 (0))), (.im (.int .u32 (16))), .im (.string ⟨#[109, 97, 105, 110]⟩)]] .ro, .sl [] .ro, .sl [] .ro]] (.im (.bool (false))) [.box [(.im (.bool (true))), .sl [.ag [(.im (.int .i64 (1))), (.im (.int .i64 (0))), (.im (.int .u32 (16))), .im (.string ⟨#[109, 97, 105, 110]⟩)]] .ro, .sl [] .ro, .sl [] .ro]] := c_Undo1R [xE] []
  refine PC.enter 103 Tryd.func8 rfl (by decide) rfl rfl (s := []) (by rfl) ?_
  refine wG Y8_Zj True.intro ?_
  refine AR.callSP [0] q1 True.intro (And.intro enV_id (And.intro enL_id (And.intro byL_id (And.intro lsV_id (And.intro lsL_id (And.intro (@tyV_id) (And.intro flE_id (And.intro spV_id spL_id)))))))) (And.intro enV_ren (And.intro enL_ren (And.intro byL_ren (And.intro lsV_ren (And.intro lsL_ren (And.intro flE_ren (And.intro spV_ren spL_ren))))))) ?_
  refine goG Y8_Zj True.intro ?_
  refine AR.end ?_
  refine Thn.n ?_
  refine AWp.frz 1 [(1, .pt 0 0)] [.box [(.im (.bool (true))), .sl [] .ro, .sl [] .full, .sl [] .nl]] ?_ (by simp) (by repeat (first | exact WkFA.nil | refine WkFA.cons (by first | exact .of (Wk.refl _) (by first | rfl | simp only [List.length_cons, List.length_nil, Nat.reduceAdd, V.ids, V.idsL, idsA, entOk, List.all_cons, List.all_nil, Bool.and_self, Bool.and_true, Bool.true_and, ltB, noId, Nat.reduceLT, decide_true, Bool.true_eq_false, tyV_id, fdV_id, tyL_id, fdL_id, enV_id, enL_id, byL_id, lsV_id, lsL_id, tyV_id, flE_id, spV_id, spL_id]) | exact .of (Wk.ro _ _) rfl | exact .of (Wk.nlF _) rfl) ?_)) (by repeat (first | exact WkFE.nil | refine WkFE.box (by repeat (first | exact WkFL.nil | refine WkFL.cons (by first | exact .of (Wk.refl _) (by first | rfl | simp only [List.length_cons, List.length_nil, Nat.reduceAdd, V.ids, V.idsL, idsA, entOk, List.all_cons, List.all_nil, Bool.and_self, Bool.and_true, Bool.true_and, ltB, noId, Nat.reduceLT, decide_true, Bool.true_eq_false, tyV_id, fdV_id, tyL_id, fdL_id, enV_id, enL_id, byL_id, lsV_id, lsL_id, tyV_id, flE_id, spV_id, spL_id]) | exact .of (Wk.ro _ _) rfl | exact .of (Wk.nlF _) rfl) ?_)) ?_ | refine WkFE.same (fun _ e => by cases e) ?_)) (fun i hi => by first | exact absurd rfl hi | exact Nat.lt_of_lt_of_le (ofl_lt hi) (by simp))
  refine wG Y8_Zj True.intro ?_
  refine AR.eqP false ?_
  refine goG Y8_Zj True.intro ?_
  refine AR.callSP [0] p1 True.intro (And.intro enV_id (And.intro enL_id (And.intro byL_id (And.intro lsV_id (And.intro lsL_id (And.intro (@tyV_id) (And.intro flE_id (And.intro spV_id spL_id)))))))) (And.intro enV_ren (And.intro enL_ren (And.intro byL_ren (And.intro lsV_ren (And.intro lsL_ren (And.intro flE_ren (And.intro spV_ren spL_ren))))))) ?_
  refine goG Y8_Zj True.intro ?_
  refine AR.callSP [0] p2 True.intro (And.intro enV_id (And.intro enL_id (And.intro byL_id (And.intro lsV_id (And.intro lsL_id (And.intro (@tyV_id) (And.intro flE_id (And.intro spV_id spL_id)))))))) (And.intro enV_ren (And.intro enL_ren (And.intro byL_ren (And.intro lsV_ren (And.intro lsL_ren (And.intro flE_ren (And.intro spV_ren spL_ren))))))) ?_
  refine goG Y8_Zj True.intro ?_
  refine wG Y8_Zj True.intro ?_
  refine AR.callQP [0] p3 True.intro (And.intro enV_id (And.intro enL_id (And.intro byL_id (And.intro lsV_id (And.intro lsL_id (And.intro (@tyV_id) (And.intro flE_id (And.intro spV_id spL_id)))))))) (And.intro enV_ren (And.intro enL_ren (And.intro byL_ren (And.intro lsV_ren (And.intro lsL_ren (And.intro flE_ren (And.intro spV_ren spL_ren))))))) ?_
  refine goG Y8_Zj True.intro ?_
  refine wG Y8_Zj True.intro ?_
  refine AR.callQP [0] p4 True.intro (And.intro enV_id (And.intro enL_id (And.intro byL_id (And.intro lsV_id (And.intro lsL_id (And.intro (@tyV_id) (And.intro flE_id (And.intro spV_id spL_id)))))))) (And.intro enV_ren (And.intro enL_ren (And.intro byL_ren (And.intro lsV_ren (And.intro lsL_ren (And.intro flE_ren (And.intro spV_ren spL_ren))))))) ?_
  refine goG Y8_Zj True.intro ?_
  refine AR.callSP [0, 2] p5 True.intro (And.intro enV_id (And.intro enL_id (And.intro byL_id (And.intro lsV_id (And.intro lsL_id (And.intro (@tyV_id) (And.intro flE_id (And.intro spV_id spL_id)))))))) (And.intro enV_ren (And.intro enL_ren (And.intro byL_ren (And.intro lsV_ren (And.intro lsL_ren (And.intro flE_ren (And.intro spV_ren spL_ren))))))) ?_
  refine goG Y8_Zj True.intro ?_
  refine AR.end ?_
  refine Thn.n ?_
  refine AWp.frz 2 [(1, .pt 0 0), (2, .pt 1 0), (44, (.im (.bool (false))))] [.box [(.im (.bool (true))), .sl [] .ro, .sl [] .full, .sl [.sl [.ag [(.im (.int .i64 (1))), (.im (.int .i64 (0))), (.im (.int .u32 (16))), .im (.string ⟨#[109, 97, 105, 110]⟩)]] .ro] .ro], .box [(.im (.int .i64 (1))), (.im (.int .i64 (0))), (.im (.int .u32 (16))), .im (.string ⟨#[109, 97, 105, 110]⟩)]] ?_ (by simp) (by repeat (first | exact WkFA.nil | refine WkFA.cons (by first | exact .of (Wk.refl _) (by first | rfl | simp only [List.length_cons, List.length_nil, Nat.reduceAdd, V.ids, V.idsL, idsA, entOk, List.all_cons, List.all_nil, Bool.and_self, Bool.and_true, Bool.true_and, ltB, noId, Nat.reduceLT, decide_true, Bool.true_eq_false, tyV_id, fdV_id, tyL_id, fdL_id, enV_id, enL_id, byL_id, lsV_id, lsL_id, tyV_id, flE_id, spV_id, spL_id]) | exact .of (Wk.ro _ _) rfl) ?_)) (by repeat (first | exact WkFE.nil | refine WkFE.box (by repeat (first | exact WkFL.nil | refine WkFL.cons (by first | exact .of (Wk.refl _) (by first | rfl | simp only [List.length_cons, List.length_nil, Nat.reduceAdd, V.ids, V.idsL, idsA, entOk, List.all_cons, List.all_nil, Bool.and_self, Bool.and_true, Bool.true_and, ltB, noId, Nat.reduceLT, decide_true, Bool.true_eq_false, tyV_id, fdV_id, tyL_id, fdL_id, enV_id, enL_id, byL_id, lsV_id, lsL_id, tyV_id, flE_id, spV_id, spL_id]) | exact .of (Wk.ro _ _) rfl) ?_)) ?_ | refine WkFE.same (fun _ e => by cases e) ?_)) (fun i hi => by first | exact absurd rfl hi | exact Nat.lt_of_lt_of_le (ofl_lt hi) (by simp))
  refine wG Y8_Zj True.intro ?_
  refine AR.callQP [0] p6 True.intro (And.intro enV_id (And.intro enL_id (And.intro byL_id (And.intro lsV_id (And.intro lsL_id (And.intro (@tyV_id) (And.intro flE_id (And.intro spV_id spL_id)))))))) (And.intro enV_ren (And.intro enL_ren (And.intro byL_ren (And.intro lsV_ren (And.intro lsL_ren (And.intro flE_ren (And.intro spV_ren spL_ren))))))) ?_
  refine goG Y8_Zj True.intro ?_
  refine wG Y8_Zj True.intro ?_
  refine AR.callSP [0, 2] p7 True.intro (And.intro enV_id (And.intro enL_id (And.intro byL_id (And.intro lsV_id (And.intro lsL_id (And.intro (@tyV_id) (And.intro flE_id (And.intro spV_id spL_id)))))))) (And.intro enV_ren (And.intro enL_ren (And.intro byL_ren (And.intro lsV_ren (And.intro lsL_ren (And.intro flE_ren (And.intro spV_ren spL_ren))))))) ?_
  refine goG Y8_Zj True.intro ?_
  refine AR.callSP [0, 2] p8 True.intro (And.intro enV_id (And.intro enL_id (And.intro byL_id (And.intro lsV_id (And.intro lsL_id (And.intro (@tyV_id) (And.intro flE_id (And.intro spV_id spL_id)))))))) (And.intro enV_ren (And.intro enL_ren (And.intro byL_ren (And.intro lsV_ren (And.intro lsL_ren (And.intro flE_ren (And.intro spV_ren spL_ren))))))) ?_
  refine goG Y8_Zj True.intro ?_
  refine AR.end ?_
  refine Thn.n ?_
  refine AWp.frz 2 [(1, .pt 0 0), (2, .pt 1 0), (59, (.im (.bool (false))))] [.box [(.im (.bool (true))), .sl [.ag [(.im (.int .i64 (1))), (.im (.int .i64 (0))), (.im (.int .u32 (16))), .im (.string ⟨#[109, 97, 105, 110]⟩)]] .ro, .sl [.sl [] .ro] .ro, .sl [] .ro], .box [(.im (.int .i64 (1))), (.im (.int .i64 (0))), (.im (.int .u32 (16))), .im (.string ⟨#[109, 97, 105, 110]⟩)]] ?_ (by simp) (by repeat (first | exact WkFA.nil | refine WkFA.cons (by first | exact .of (Wk.refl _) (by first | rfl | simp only [List.length_cons, List.length_nil, Nat.reduceAdd, V.ids, V.idsL, idsA, entOk, List.all_cons, List.all_nil, Bool.and_self, Bool.and_true, Bool.true_and, ltB, noId, Nat.reduceLT, decide_true, Bool.true_eq_false, tyV_id, fdV_id, tyL_id, fdL_id, enV_id, enL_id, byL_id, lsV_id, lsL_id, tyV_id, flE_id, spV_id, spL_id]) | exact .of (Wk.ro _ _) rfl) ?_)) (by repeat (first | exact WkFE.nil | refine WkFE.box (by repeat (first | exact WkFL.nil | refine WkFL.cons (by first | exact .of (Wk.refl _) (by first | rfl | simp only [List.length_cons, List.length_nil, Nat.reduceAdd, V.ids, V.idsL, idsA, entOk, List.all_cons, List.all_nil, Bool.and_self, Bool.and_true, Bool.true_and, ltB, noId, Nat.reduceLT, decide_true, Bool.true_eq_false, tyV_id, fdV_id, tyL_id, fdL_id, enV_id, enL_id, byL_id, lsV_id, lsL_id, tyV_id, flE_id, spV_id, spL_id]) | exact .of (Wk.ro _ _) rfl) ?_)) ?_ | refine WkFE.same (fun _ e => by cases e) ?_)) (fun i hi => by first | exact absurd rfl hi | exact Nat.lt_of_lt_of_le (ofl_lt hi) (by simp))
  refine wG Y8_Zj True.intro ?_
  refine AR.callQP [0] p9 True.intro (And.intro enV_id (And.intro enL_id (And.intro byL_id (And.intro lsV_id (And.intro lsL_id (And.intro (@tyV_id) (And.intro flE_id (And.intro spV_id spL_id)))))))) (And.intro enV_ren (And.intro enL_ren (And.intro byL_ren (And.intro lsV_ren (And.intro lsL_ren (And.intro flE_ren (And.intro spV_ren spL_ren))))))) ?_
  refine goG Y8_Zj True.intro ?_
  refine wG Y8_Zj True.intro ?_
  refine AR.callSP [0, 2] pa True.intro (And.intro enV_id (And.intro enL_id (And.intro byL_id (And.intro lsV_id (And.intro lsL_id (And.intro (@tyV_id) (And.intro flE_id (And.intro spV_id spL_id)))))))) (And.intro enV_ren (And.intro enL_ren (And.intro byL_ren (And.intro lsV_ren (And.intro lsL_ren (And.intro flE_ren (And.intro spV_ren spL_ren))))))) ?_
  refine goG Y8_Zj True.intro ?_
  refine AR.callS [3, 4] pb rfl rfl (by first | (simp only [SR, enV_ren, enL_ren, byL_ren, lsV_ren, lsL_ren, flE_ren, spV_ren, spL_ren]; done) | (simp only [SR, enV_ren, enL_ren, byL_ren, lsV_ren, lsL_ren, flE_ren, spV_ren, spL_ren]; with_reducible exact rfl)) (by first | (simp only [SR, enV_ren, enL_ren, byL_ren, lsV_ren, lsL_ren, flE_ren, spV_ren, spL_ren]; done) | (simp only [SR, enV_ren, enL_ren, byL_ren, lsV_ren, lsL_ren, flE_ren, spV_ren, spL_ren]; with_reducible exact rfl)) (WkL.cons (Wk.ro _ _) .nil) (by first | rfl | simp only [List.length_cons, List.length_nil, Nat.reduceAdd, V.ids, V.idsL, idsA, entOk, List.all_cons, List.all_nil, Bool.and_self, Bool.and_true, Bool.true_and, ltB, noId, Nat.reduceLT, decide_true, Bool.true_eq_false, tyV_id, fdV_id, tyL_id, fdL_id, enV_id, enL_id, byL_id, lsV_id, lsL_id, tyV_id, flE_id, spV_id, spL_id]) rfl rfl rfl (by first | rfl | simp only [List.length_cons, List.length_nil, Nat.reduceAdd, V.ids, V.idsL, idsA, entOk, List.all_cons, List.all_nil, Bool.and_self, Bool.and_true, Bool.true_and, ltB, noId, Nat.reduceLT, decide_true, Bool.true_eq_false, tyV_id, fdV_id, tyL_id, fdL_id, enV_id, enL_id, byL_id, lsV_id, lsL_id, tyV_id, flE_id, spV_id, spL_id]) (by intro p hp; simp only [renE, SR, Ent.ren, List.mem_cons, List.not_mem_nil, or_false, enV_ren, enL_ren, byL_ren, lsV_ren, lsL_ren, flE_ren, spV_ren, spL_ren] at hp; rcases hp with rfl | rfl <;> rfl) (by simp only [renE, Ent.ren, SR, enV_ren, enL_ren, byL_ren, lsV_ren, lsL_ren, flE_ren, spV_ren, spL_ren, wrl, putE, SC, SD, Nat.reduceBEq, Nat.reduceLT, Nat.reduceSub, Nat.reduceAdd, Nat.reduceMul, Nat.reduceLeDiff, Nat.reduceEqDiff, reduceCtorEq, Int.reduceLT, Int.reduceLE, Int.reduceEq, Int.reduceNe, Int.reduceBEq, Int.reduceBNe, Int.reduceAdd, Int.reduceSub, Int.reduceMul, Int.reduceToNat]; with_reducible exact rfl) ?_
  refine goG Y8_Zj True.intro ?_
  refine AR.end ?_
  refine Thn.n ?_
  refine AWp.frz 5 [(1, .pt 0 0), (2, .pt 1 0), (3, .im (.string ⟨#[109, 97, 105, 110]⟩)), (4, (.im (.bool (true)))), (5, .pt 4 0), (6, (.im (.int .i64 (0))))] [.box [(.im (.bool (true))), .sl [.ag [(.im (.int .i64 (1))), (.im (.int .i64 (0))), (.im (.int .u32 (16))), .im (.string ⟨#[109, 97, 105, 110]⟩)]] .ro, .sl [.sl [] .ro] .ro, .sl [] .ro], .box [(.im (.int .i64 (1))), (.im (.int .i64 (0))), (.im (.int .u32 (16))), .im (.string ⟨#[109, 97, 105, 110]⟩)], .tip 5 1 n, .box [.sl (sb.map byB) .ro, (.im (.int .i64 (k))), (.im (.bool (false)))], .box [(.im (.bool (true))), .sl [.ag [(.im (.int .i64 (1))), (.im (.int .i64 (0))), (.im (.int .u32 (16))), .im (.string ⟨#[109, 97, 105, 110]⟩)]] .ro, .sl [] .ro, .sl [] .ro]] ?_ (by simp) (by repeat (first | exact WkFA.nil | refine WkFA.cons (by first | exact .of (Wk.refl _) (by first | rfl | simp only [List.length_cons, List.length_nil, Nat.reduceAdd, V.ids, V.idsL, idsA, entOk, List.all_cons, List.all_nil, Bool.and_self, Bool.and_true, Bool.true_and, ltB, noId, Nat.reduceLT, decide_true, Bool.true_eq_false, tyV_id, fdV_id, tyL_id, fdL_id, enV_id, enL_id, byL_id, lsV_id, lsL_id, tyV_id, flE_id, spV_id, spL_id]) | exact .of (Wk.ro _ _) rfl) ?_)) (by repeat (first | exact WkFE.nil | refine WkFE.box (by repeat (first | exact WkFL.nil | refine WkFL.cons (by first | exact .of (Wk.refl _) (by first | rfl | simp only [List.length_cons, List.length_nil, Nat.reduceAdd, V.ids, V.idsL, idsA, entOk, List.all_cons, List.all_nil, Bool.and_self, Bool.and_true, Bool.true_and, ltB, noId, Nat.reduceLT, decide_true, Bool.true_eq_false, tyV_id, fdV_id, tyL_id, fdL_id, enV_id, enL_id, byL_id, lsV_id, lsL_id, tyV_id, flE_id, spV_id, spL_id]) | exact .of (Wk.ro _ _) rfl) ?_)) ?_ | refine WkFE.same (fun _ e => by cases e) ?_)) (fun i hi => by first | exact absurd rfl hi | exact Nat.lt_of_lt_of_le (ofl_lt hi) (by simp))
  refine wdG Y8_Zj True.intro ?_
  refine AR.eqP false ?_
  refine goG Y8_Zj True.intro ?_
  refine AR.callQP [4] pc True.intro (And.intro enV_id (And.intro enL_id (And.intro byL_id (And.intro lsV_id (And.intro lsL_id (And.intro (@tyV_id) (And.intro flE_id (And.intro spV_id spL_id)))))))) (And.intro enV_ren (And.intro enL_ren (And.intro byL_ren (And.intro lsV_ren (And.intro lsL_ren (And.intro flE_ren (And.intro spV_ren spL_ren))))))) ?_
  refine goG Y8_Zj True.intro ?_
  refine AR.callQP [4] pc True.intro (And.intro enV_id (And.intro enL_id (And.intro byL_id (And.intro lsV_id (And.intro lsL_id (And.intro (@tyV_id) (And.intro flE_id (And.intro spV_id spL_id)))))))) (And.intro enV_ren (And.intro enL_ren (And.intro byL_ren (And.intro lsV_ren (And.intro lsL_ren (And.intro flE_ren (And.intro spV_ren spL_ren))))))) ?_
  refine goG Y8_Zj True.intro ?_
  refine AR.callQP [4] pd True.intro (And.intro enV_id (And.intro enL_id (And.intro byL_id (And.intro lsV_id (And.intro lsL_id (And.intro (@tyV_id) (And.intro flE_id (And.intro spV_id spL_id)))))))) (And.intro enV_ren (And.intro enL_ren (And.intro byL_ren (And.intro lsV_ren (And.intro lsL_ren (And.intro flE_ren (And.intro spV_ren spL_ren))))))) ?_
  refine goG Y8_Zj True.intro ?_
  refine wdG Y8_Zj True.intro ?_
  exact Fin.oneP
end Go.Proofs.YtianekkfehoedaaDoor
