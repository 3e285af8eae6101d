/- Walks of the laws: ProjectOrder. -/
import Derived.Test.YtianekkfehoedaaDoorHv
import Derived.Test.YtianekkfehoedaaDoorZk
namespace Go.Proofs.YtianekkfehoedaaDoor
set_option linter.unusedSimpArgs false
set_option linter.unusedVariables false
set_option linter.unnecessarySimpa false
open Go.RowKit
theorem get_of_mem {l : List En} (h : AscE l) {x : En} (hx : x ∈ l) : getE l x.kind x.addr x.var = x.text ∧ hasE l (keyOf x.kind x.addr x.var) = true := by
  obtain ⟨h1, h2⟩ := pos_of_mem h hx (e := keyOf x.kind x.addr x.var) (by rw [keyE_iff]; exact ⟨rfl, rfl, rfl⟩)
  refine ⟨?_, h1⟩
  unfold getE
  rw [if_pos h1, List.getD_eq_getElem?_getD, h2]
  rfl
theorem Y4_Zl : type_of% (And.intro @F_ag_3 (And.intro @F_ag_34 (And.intro @F_ag_36 (And.intro @F_ag_9 (And.intro @F_al_36 (And.intro @F_el_28 (And.intro @F_fl_36_0 (And.intro @F_fl_36_1 (And.intro @F_fl_36_2 (And.intro @F_fl_36_3 (And.intro @F_sz_3 (And.intro @F_sz_34 (And.intro @F_sz_36 (@F_sz_9)))))))))))))) := And.intro @F_ag_3 (And.intro @F_ag_34 (And.intro @F_ag_36 (And.intro @F_ag_9 (And.intro @F_al_36 (And.intro @F_el_28 (And.intro @F_fl_36_0 (And.intro @F_fl_36_1 (And.intro @F_fl_36_2 (And.intro @F_fl_36_3 (And.intro @F_sz_3 (And.intro @F_sz_34 (And.intro @F_sz_36 (@F_sz_9)))))))))))))
set_option maxHeartbeats 2000000 in
theorem c_order47 (l : List Sp) (hl : l.length ≤ 4194304) : PC Tryd.prog 4 [.sl (l.map spV) .ro] (.im (.bool (true))) := by
  have qx := c_example47
  have ql := c_light l hl
  have qn := c_New
  refine PC.enter 112 Tryd.func4 rfl (by decide) rfl rfl (s := [(0, .sl (l.map spV) .ro)]) (by rfl) ?_
  refine wG Y4_Zl True.intro ?_
  refine AR.callP qx True.intro (And.intro enV_id (And.intro enL_id (And.intro byL_id (And.intro lsV_id (And.intro lsL_id (And.intro (@tyV_id) (And.intro flE_id (And.intro spV_id spL_id)))))))) ?_
  refine goG Y4_Zl True.intro ?_
  refine wG Y4_Zl True.intro ?_
  refine AR.callP ql True.intro (And.intro enV_id (And.intro enL_id (And.intro byL_id (And.intro lsV_id (And.intro lsL_id (And.intro (@tyV_id) (And.intro flE_id (And.intro spV_id spL_id)))))))) ?_
  cases hlg : lgB l with
  | false =>
    refine goG Y4_Zl True.intro ?_
    refine wG Y4_Zl True.intro ?_
    exact Fin.oneP
  | true =>
  obtain ⟨l30, lt⟩ := lg_spec hlg
  have r1 := c_run p0 l List.Pairwise.nil (by decide) rfl (by decide) l30 lt
  obtain ⟨a1, a2, a3⟩ := runP_fine (l := l) (p := p0) List.Pairwise.nil (by decide)
  generalize runP p0 l = P1 at r1 a1 a2 a3
  have r2 := c_AllN P1.l P1.un a2
  generalize P1.l = L at r1 r2 a1 a2
  generalize P1.un = un at r1 r2 a3
  refine goG Y4_Zl True.intro ?_
  refine wG Y4_Zl True.intro ?_
  refine AR.callSP [0] qn True.intro (And.intro enV_id (And.intro enL_id (And.intro byL_id (And.intro lsV_id (And.intro lsL_id (And.intro (@tyV_id) (And.intro flE_id (And.intro spV_id spL_id)))))))) (And.intro enV_ren (And.intro enL_ren (And.intro byL_ren (And.intro lsV_ren (And.intro lsL_ren (And.intro flE_ren (And.intro spV_ren spL_ren))))))) ?_
  refine goG Y4_Zl True.intro ?_
  refine AR.end ?_
  refine Thn.n ?_
  refine AWp.frz 1 [(0, .sl (l.map spV) .ro), (3, .pt 0 0)] [.box [(.im (.bool (true))), .sl [] .ro, .sl [] .full, .sl [] .nl]] ?_ (by simp) (by repeat (first | exact WkFA.nil | refine WkFA.cons (by first | exact .of (Wk.refl _) (by first | rfl | simp only [List.length_cons, List.length_nil, Nat.reduceAdd, V.ids, V.idsL, idsA, entOk, List.all_cons, List.all_nil, Bool.and_self, Bool.and_true, Bool.true_and, ltB, noId, Nat.reduceLT, decide_true, Bool.true_eq_false, tyV_id, fdV_id, tyL_id, fdL_id, enV_id, enL_id, byL_id, lsV_id, lsL_id, tyV_id, flE_id, spV_id, spL_id]) | exact .of (Wk.ro _ _) rfl | exact .of (Wk.nlF _) rfl) ?_)) (by repeat (first | exact WkFE.nil | refine WkFE.box (by repeat (first | exact WkFL.nil | refine WkFL.cons (by first | exact .of (Wk.refl _) (by first | rfl | simp only [List.length_cons, List.length_nil, Nat.reduceAdd, V.ids, V.idsL, idsA, entOk, List.all_cons, List.all_nil, Bool.and_self, Bool.and_true, Bool.true_and, ltB, noId, Nat.reduceLT, decide_true, Bool.true_eq_false, tyV_id, fdV_id, tyL_id, fdL_id, enV_id, enL_id, byL_id, lsV_id, lsL_id, tyV_id, flE_id, spV_id, spL_id]) | exact .of (Wk.ro _ _) rfl | exact .of (Wk.nlF _) rfl) ?_)) ?_ | refine WkFE.same (fun _ e => by cases e) ?_)) (fun i hi => by first | exact absurd rfl hi | exact Nat.lt_of_lt_of_le (ofl_lt hi) (by simp))
  refine wG Y4_Zl True.intro ?_
  refine AR.callSP [0] r1 True.intro (And.intro enV_id (And.intro enL_id (And.intro byL_id (And.intro lsV_id (And.intro lsL_id (And.intro (@tyV_id) (And.intro flE_id (And.intro spV_id spL_id)))))))) (And.intro enV_ren (And.intro enL_ren (And.intro byL_ren (And.intro lsV_ren (And.intro lsL_ren (And.intro flE_ren (And.intro spV_ren spL_ren))))))) ?_
  refine goG Y4_Zl True.intro ?_
  refine wG Y4_Zl True.intro ?_
  refine AR.callQP [0] r2 True.intro (And.intro enV_id (And.intro enL_id (And.intro byL_id (And.intro lsV_id (And.intro lsL_id (And.intro (@tyV_id) (And.intro flE_id (And.intro spV_id spL_id)))))))) (And.intro enV_ren (And.intro enL_ren (And.intro byL_ren (And.intro lsV_ren (And.intro lsL_ren (And.intro flE_ren (And.intro spV_ren spL_ren))))))) ?_
  refine goG Y4_Zl True.intro ?_
  refine wG Y4_Zl True.intro ?_
  refine AWp.loop ?_
  refine ALp.cutP 1 [(3, .pt 0 0), (4, .sl (L.map enV) .ro), (5, (.im (.int .i64 ((((0 : Nat)) : Int)))))] [.box [(.im (.bool (true))), .sl (L.map enV) .ro, .sl (un.map lsV) .full, .sl [] .nl]] (And.intro enV_id (And.intro enL_id (And.intro byL_id (And.intro lsV_id (And.intro lsL_id (And.intro (@tyV_id) (And.intro flE_id (And.intro spV_id spL_id)))))))) ?_
  refine ALp.upto L.length (fun _ => True) (fun i => ⟨dn 112 [(3, .pt 0 0), (4, .sl (L.map enV) .ro), (5, (.im (.int .i64 ((((i : Nat)) : Int)))))], ofl [.box [(.im (.bool (true))), .sl (L.map enV) .ro, .sl (un.map lsV) .full, .sl [] .nl]]⟩) ?_ 0 (Nat.zero_le _) trivial
  intro m hm _ hnext
  by_cases hlt : m < L.length
  · have hlt' : (m : Int) < (L.length : Int) := by omega
    have hg := get_some hlt
    have hm1 := wrap_succ hlt (by omega)
    have hn := hnext (m + 1) (by omega) (by omega) trivial
    clear hnext
    obtain ⟨g1, g2⟩ := get_of_mem a1 (List.getElem_mem hlt)
    have hpair : ∀ (h0 : m ≠ 0), ltE L[m - 1] L[m] = true := fun h0 => List.pairwise_iff_getElem.1 a1 (m - 1) m (by omega) hlt (by omega)
    have q := c_GetN L un L[m].kind L[m].addr L[m].var a1 a2
    rw [g1, g2] at q
    clear g1 g2
    by_cases hm0 : m = 0
    · subst hm0
      clear hpair
      generalize L[0] = x at hg q
      have hlt0 : (0 : Int) < (L.length : Int) := by omega
      have w0 : IntKind.i64.wrap 1 = 1 := by decide
      refine wdG Y4_Zl (And.intro hlt0 (And.intro ENT hg)) ?_
      refine AR.callQP [0] q True.intro (And.intro enV_id (And.intro enL_id (And.intro byL_id (And.intro lsV_id (And.intro lsL_id (And.intro (@tyV_id) (And.intro flE_id (And.intro spV_id spL_id)))))))) (And.intro enV_ren (And.intro enL_ren (And.intro byL_ren (And.intro lsV_ren (And.intro lsL_ren (And.intro flE_ren (And.intro spV_ren spL_ren))))))) ?_
      refine goG Y4_Zl True.intro ?_
      refine wdG Y4_Zl (And.intro ENT (And.intro hg (And.intro w0 BAT))) ?_
      refine ALp.cutP 1 [(3, .pt 0 0), (4, .sl (L.map enV) .ro), (5, (.im (.int .i64 ((((0 + 1 : Nat)) : Int)))))] [.box [(.im (.bool (true))), .sl (L.map enV) .ro, .sl (un.map lsV) .full, .sl [] .nl]] (And.intro enV_id (And.intro enL_id (And.intro byL_id (And.intro lsV_id (And.intro lsL_id (And.intro (@tyV_id) (And.intro flE_id (And.intro spV_id spL_id)))))))) ?_
      exact hn
    · have hp := hpair hm0
      have hg2 := get_some (l := L) (m := m - 1) (by omega)
      have w1 : IntKind.i64.wrap ((m : Int) - 1) = ((m - 1 : Nat) : Int) := by rw [wrap_in (by omega)]; omega
      have hmz : ((m : Int) = 0) = False := eq_false (by omega)
      clear hpair
      generalize L[m - 1] = b at hg2 hp
      generalize L[m] = x at hg hp q
      rw [ltE_iff] at hp
      refine wdG Y4_Zl (And.intro hlt' (And.intro ENT hg)) ?_
      refine AR.callQP [0] q True.intro (And.intro enV_id (And.intro enL_id (And.intro byL_id (And.intro lsV_id (And.intro lsL_id (And.intro (@tyV_id) (And.intro flE_id (And.intro spV_id spL_id)))))))) (And.intro enV_ren (And.intro enL_ren (And.intro byL_ren (And.intro lsV_ren (And.intro lsL_ren (And.intro flE_ren (And.intro spV_ren spL_ren))))))) ?_
      refine goG Y4_Zl True.intro ?_
      rcases hp with k | ⟨k, k2 | ⟨k2, k3⟩⟩
      · have f1 : ¬ b.addr > x.addr := by omega
        have f2 : (b.addr = x.addr) = False := eq_false (by omega)
        refine wdG Y4_Zl (And.intro ENT (And.intro hg (And.intro hmz (And.intro w1 (And.intro hg2 (And.intro f1 (And.intro f2 hm1))))))) ?_
        refine ALp.cutP 1 [(3, .pt 0 0), (4, .sl (L.map enV) .ro), (5, (.im (.int .i64 ((((m + 1 : Nat)) : Int)))))] [.box [(.im (.bool (true))), .sl (L.map enV) .ro, .sl (un.map lsV) .full, .sl [] .nl]] (And.intro enV_id (And.intro enL_id (And.intro byL_id (And.intro lsV_id (And.intro lsL_id (And.intro (@tyV_id) (And.intro flE_id (And.intro spV_id spL_id)))))))) ?_
        exact hn
      · have f1 : ¬ b.addr > x.addr := by omega
        have f2 : (b.addr = x.addr) = True := eq_true k
        have f3 : ¬ b.kind > x.kind := by omega
        have f4 : (b.kind = x.kind) = False := eq_false (by omega)
        refine wdG Y4_Zl (And.intro ENT (And.intro hg (And.intro hmz (And.intro w1 (And.intro hg2 (And.intro f1 (And.intro f2 (And.intro f3 (And.intro f4 hm1))))))))) ?_
        refine ALp.cutP 1 [(3, .pt 0 0), (4, .sl (L.map enV) .ro), (5, (.im (.int .i64 ((((m + 1 : Nat)) : Int)))))] [.box [(.im (.bool (true))), .sl (L.map enV) .ro, .sl (un.map lsV) .full, .sl [] .nl]] (And.intro enV_id (And.intro enL_id (And.intro byL_id (And.intro lsV_id (And.intro lsL_id (And.intro (@tyV_id) (And.intro flE_id (And.intro spV_id spL_id)))))))) ?_
        exact hn
      · have f1 : ¬ b.addr > x.addr := by omega
        have f2 : (b.addr = x.addr) = True := eq_true k
        have f3 : ¬ b.kind > x.kind := by omega
        have f4 : (b.kind = x.kind) = True := eq_true k2
        have f5 : ¬ b.var ≥ x.var := by omega
        refine wdG Y4_Zl (And.intro ENT (And.intro hg (And.intro hmz (And.intro w1 (And.intro hg2 (And.intro f1 (And.intro f2 (And.intro f3 (And.intro f4 (And.intro f5 hm1)))))))))) ?_
        refine ALp.cutP 1 [(3, .pt 0 0), (4, .sl (L.map enV) .ro), (5, (.im (.int .i64 ((((m + 1 : Nat)) : Int)))))] [.box [(.im (.bool (true))), .sl (L.map enV) .ro, .sl (un.map lsV) .full, .sl [] .nl]] (And.intro enV_id (And.intro enL_id (And.intro byL_id (And.intro lsV_id (And.intro lsL_id (And.intro (@tyV_id) (And.intro flE_id (And.intro spV_id spL_id)))))))) ?_
        exact hn
  · obtain rfl : m = L.length := by omega
    have hlt' : ¬ (L.length : Int) < (L.length : Int) := by omega
    clear hnext hlt
    refine wG Y4_Zl (And.intro hlt' @List.length_map.{0, 0}) ?_
    exact Fin.oneP
end Go.Proofs.YtianekkfehoedaaDoor

