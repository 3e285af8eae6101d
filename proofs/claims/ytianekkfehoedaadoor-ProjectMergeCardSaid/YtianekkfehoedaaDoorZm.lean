/- Walks of the laws: ProjectMerge. -/
import Derived.Test.YtianekkfehoedaaDoorHv
import Derived.Test.YtianekkfehoedaaDoorZl
namespace Go.Proofs.YtianekkfehoedaaDoor
set_option linter.unusedSimpArgs false
set_option linter.unusedVariables false
set_option linter.unnecessarySimpa false
open Go.RowKit
theorem mgE_fine {L : List En} : ∀ {O next : List En}, AscE next → next.length ≤ 1024 → AscE (mgE L next O).1 ∧ (mgE L next O).1.length ≤ 1024
  | [], next, h1, h2 => ⟨h1, h2⟩
  | e :: O, next, h1, h2 => by
    rw [mgE_cons]
    by_cases hh : hasE L e = true
    · rw [if_pos hh]
      by_cases hp : L[posE L e]? = some e
      · rw [if_pos hp]; exact mgE_fine h1 h2
      · rw [if_neg hp]; exact mgE_fine h1 h2
    · rw [if_neg hh]
      by_cases hE : eErr next e = 0
      · rw [if_pos hE]; exact mgE_fine (asc_eWith h1 e) (len_eWith h2 hE)
      · rw [if_neg hE]; exact mgE_fine h1 h2
theorem mgE_rlen {L : List En} : ∀ {O next : List En}, (mgE L next O).2.length ≤ O.length
  | [], next => Nat.le_refl _
  | e :: O, next => by
    rw [mgE_cons]
    by_cases hh : hasE L e = true
    · rw [if_pos hh]
      by_cases hp : L[posE L e]? = some e
      · rw [if_pos hp]; exact Nat.le_succ_of_le mgE_rlen
      · rw [if_neg hp]; exact Nat.succ_le_succ mgE_rlen
    · rw [if_neg hh]
      by_cases hE : eErr next e = 0
      · rw [if_pos hE]; exact Nat.le_succ_of_le mgE_rlen
      · rw [if_neg hE]; exact Nat.succ_le_succ mgE_rlen
theorem runP_txt : ∀ {l : List Sp} {p : Pr}, AscE p.l → p.l.length ≤ 1024 → (∀ e ∈ p.l, e.text.length ≤ 400) → (∀ s ∈ l, s.e.text.length ≤ 400) → ∀ e ∈ (runP p l).l, e.text.length ≤ 400
  | [], p, _, _, h, _ => h
  | s :: l, p, h1, h2, h, ht => by
    have hs := ht s (by simp)
    obtain ⟨a1, a2, _⟩ := runP_fine (l := [s]) h1 h2
    refine runP_txt (l := l) (p := stP p s) a1 a2 (fun e he => ?_) fun x hx => ht x (by simp [hx])
    unfold stP Pr.put Pr.rem Pr.chg at he
    by_cases k0 : s.kind = 0
    · rw [if_pos k0] at he
      by_cases hE : eErr p.l s.e = 0
      · rw [if_pos hE] at he
        rcases mem_eWith h1 he with rfl | ⟨he, _⟩
        · exact hs
        · exact h e he
      · rw [if_neg hE] at he; exact h e he
    · rw [if_neg k0] at he
      by_cases k1 : s.kind = 1
      · rw [if_pos k1] at he
        by_cases hE : rmErr p.l s.e = 0
        · rw [if_pos hE] at he; exact h e (mem_delE he)
        · rw [if_neg hE] at he; exact h e he
      · rw [if_neg k1] at he; exact h e he
theorem Y7_Zm : type_of% (And.intro @F_ag_3 (And.intro @F_ag_34 (And.intro @F_ag_36 (And.intro @F_ag_9 (And.intro @F_el_28 (And.intro @F_eq_36 (And.intro @F_fl_36_0 (And.intro @F_fl_36_1 (And.intro @F_fl_36_2 (And.intro @F_fl_36_3 (And.intro @F_sz_3 (And.intro @F_sz_34 (And.intro @F_sz_36 (@F_sz_9)))))))))))))) := And.intro @F_ag_3 (And.intro @F_ag_34 (And.intro @F_ag_36 (And.intro @F_ag_9 (And.intro @F_el_28 (And.intro @F_eq_36 (And.intro @F_fl_36_0 (And.intro @F_fl_36_1 (And.intro @F_fl_36_2 (And.intro @F_fl_36_3 (And.intro @F_sz_3 (And.intro @F_sz_34 (And.intro @F_sz_36 (@F_sz_9)))))))))))))
theorem anyT_take {α : Type} {l : List α} {k : Nat} {y : α} (p : α → Bool) (h : l[k]? = some y) : (l.take (k + 1)).any p = ((l.take k).any p || p y) := by
  obtain ⟨hk, rfl⟩ := List.getElem?_eq_some_iff.1 h
  rw [List.take_succ_eq_append_getElem hk, List.any_append]
  simp
set_option maxHeartbeats 4000000 in
theorem c_merge47 (l more : List Sp) (hl : l.length ≤ 4194304) (hm : more.length ≤ 4194304) : PC Tryd.prog 7 [.sl (l.map spV) .ro, .sl (more.map spV) .ro] (.im (.bool (true))) := by
  have qx := c_example47
  have ql := c_light l hl
  have qm := c_light more hm
  have qn := c_New
  refine PC.enter 153 Tryd.func7 rfl (by decide) rfl rfl (s := [(0, .sl (l.map spV) .ro), (1, .sl (more.map spV) .ro)]) (by rfl) ?_
  refine wG Y7_Zm True.intro ?_
  refine AR.callP qx True.intro (And.intro enV_id (And.intro enL_id (And.intro byL_id (And.intro lsV_id (And.intro lsL_id (And.intro (@tyV_id) (And.intro flE_id (And.intro spV_id spL_id)))))))) ?_
  refine goG Y7_Zm True.intro ?_
  refine wG Y7_Zm True.intro ?_
  refine AR.callP ql True.intro (And.intro enV_id (And.intro enL_id (And.intro byL_id (And.intro lsV_id (And.intro lsL_id (And.intro (@tyV_id) (And.intro flE_id (And.intro spV_id spL_id)))))))) ?_
  cases hlg : lgB l with
  | false =>
    refine goG Y7_Zm True.intro ?_
    refine wG Y7_Zm True.intro ?_
    exact Fin.oneP
  | true =>
  refine goG Y7_Zm True.intro ?_
  refine AR.callP qm True.intro (And.intro enV_id (And.intro enL_id (And.intro byL_id (And.intro lsV_id (And.intro lsL_id (And.intro (@tyV_id) (And.intro flE_id (And.intro spV_id spL_id)))))))) ?_
  cases hmg : lgB more with
  | false =>
    refine goG Y7_Zm True.intro ?_
    refine wG Y7_Zm True.intro ?_
    exact Fin.oneP
  | true =>
  obtain ⟨l30, lt⟩ := lg_spec hlg
  obtain ⟨m30, mt⟩ := lg_spec hmg
  have r1 := c_run p0 l List.Pairwise.nil (by decide) rfl (by decide) l30 lt
  obtain ⟨a1, a2, a3⟩ := runP_fine (l := l) (p := p0) List.Pairwise.nil (by decide)
  have a3 : (runP p0 l).un.length ≤ 30 := by have : p0.un.length = 0 := rfl; omega
  generalize runP p0 l = P1 at r1 a1 a2 a3
  have r2 := c_run p0 more List.Pairwise.nil (by decide) rfl (by decide) m30 mt
  obtain ⟨b1, b2, b3⟩ := runP_fine (l := more) (p := p0) List.Pairwise.nil (by decide)
  have b4 := runP_txt (l := more) (p := p0) List.Pairwise.nil (by decide) (fun e he => by cases he) mt
  generalize runP p0 more = P2 at r2 b1 b2 b3 b4
  have r3 := c_AllN P1.l P1.un a2
  generalize P1.l = L at r1 r3 a1 a2
  generalize P1.un = un at r1 r3 a3
  generalize P2.l = O at r2 b1 b2 b4
  generalize P2.un = un2 at r2 b3
  have r4 := c_MergeN L O un [] un2 [] a1 a2 b2 (fun e he => by have := b4 e he; omega) (by omega)
  obtain ⟨k1, k2⟩ := mgE_spec a1 b1
  obtain ⟨k3, k4⟩ := mgE_fine (L := L) (O := O) a1 a2
  have k5 := mgE_rlen (L := L) (O := O) (next := L)
  have hc : clipE (un ++ [L]) = un ++ [L] := clipE_id (by simp; omega)
  rw [hc] at r4
  generalize (mgE L L O).1 = M at r4 k1 k2 k3 k4
  generalize (mgE L L O).2 = bad at r4 k2 k5
  have r5 := c_AllR O un2 [] b2
  have r6 := c_Undo0N M L un (by omega)
  generalize hum : un ++ [L] = um at r4 r6
  have r7 := c_AllO L un [M] a2
  have r8 := c_sameT L (by omega)
  refine goG Y7_Zm True.intro ?_
  refine wG Y7_Zm True.intro ?_
  refine AR.callSP [0] qn True.intro (And.intro enV_id (And.intro enL_id (And.intro byL_id (And.intro lsV_id (And.intro lsL_id (And.intro (@tyV_id) (And.intro flE_id (And.intro spV_id spL_id)))))))) (And.intro enV_ren (And.intro enL_ren (And.intro byL_ren (And.intro lsV_ren (And.intro lsL_ren (And.intro flE_ren (And.intro spV_ren spL_ren))))))) ?_
  refine goG Y7_Zm True.intro ?_
  refine wG Y7_Zm True.intro ?_
  refine AR.callSP [1] qn True.intro (And.intro enV_id (And.intro enL_id (And.intro byL_id (And.intro lsV_id (And.intro lsL_id (And.intro (@tyV_id) (And.intro flE_id (And.intro spV_id spL_id)))))))) (And.intro enV_ren (And.intro enL_ren (And.intro byL_ren (And.intro lsV_ren (And.intro lsL_ren (And.intro flE_ren (And.intro spV_ren spL_ren))))))) ?_
  refine goG Y7_Zm True.intro ?_
  refine AR.end ?_
  refine Thn.n ?_
  refine AWp.frz 2 [(0, .sl (l.map spV) .ro), (1, .sl (more.map spV) .ro), (5, .pt 0 0), (6, .pt 1 0)] [.box [(.im (.bool (true))), .sl [] .ro, .sl [] .full, .sl [] .nl], .box [(.im (.bool (true))), .sl [] .ro, .sl [] .full, .sl [] .nl]] ?_ (by simp) (by repeat (first | exact WkFA.nil | refine WkFA.cons (by first | exact .of (Wk.refl _) (by first | rfl | simp only [List.length_cons, List.length_nil, Nat.reduceAdd, V.ids, V.idsL, idsA, entOk, List.all_cons, List.all_nil, Bool.and_self, Bool.and_true, Bool.true_and, ltB, noId, Nat.reduceLT, decide_true, Bool.true_eq_false, tyV_id, fdV_id, tyL_id, fdL_id, enV_id, enL_id, byL_id, lsV_id, lsL_id, tyV_id, flE_id, spV_id, spL_id]) | exact .of (Wk.ro _ _) rfl | exact .of (Wk.nlF _) rfl) ?_)) (by repeat (first | exact WkFE.nil | refine WkFE.box (by repeat (first | exact WkFL.nil | refine WkFL.cons (by first | exact .of (Wk.refl _) (by first | rfl | simp only [List.length_cons, List.length_nil, Nat.reduceAdd, V.ids, V.idsL, idsA, entOk, List.all_cons, List.all_nil, Bool.and_self, Bool.and_true, Bool.true_and, ltB, noId, Nat.reduceLT, decide_true, Bool.true_eq_false, tyV_id, fdV_id, tyL_id, fdL_id, enV_id, enL_id, byL_id, lsV_id, lsL_id, tyV_id, flE_id, spV_id, spL_id]) | exact .of (Wk.ro _ _) rfl | exact .of (Wk.nlF _) rfl) ?_)) ?_ | refine WkFE.same (fun _ e => by cases e) ?_)) (fun i hi => by first | exact absurd rfl hi | exact Nat.lt_of_lt_of_le (ofl_lt hi) (by simp))
  refine wG Y7_Zm True.intro ?_
  refine AR.callSP [0] r1 True.intro (And.intro enV_id (And.intro enL_id (And.intro byL_id (And.intro lsV_id (And.intro lsL_id (And.intro (@tyV_id) (And.intro flE_id (And.intro spV_id spL_id)))))))) (And.intro enV_ren (And.intro enL_ren (And.intro byL_ren (And.intro lsV_ren (And.intro lsL_ren (And.intro flE_ren (And.intro spV_ren spL_ren))))))) ?_
  refine goG Y7_Zm True.intro ?_
  refine wG Y7_Zm True.intro ?_
  refine AR.callSP [1] r2 True.intro (And.intro enV_id (And.intro enL_id (And.intro byL_id (And.intro lsV_id (And.intro lsL_id (And.intro (@tyV_id) (And.intro flE_id (And.intro spV_id spL_id)))))))) (And.intro enV_ren (And.intro enL_ren (And.intro byL_ren (And.intro lsV_ren (And.intro lsL_ren (And.intro flE_ren (And.intro spV_ren spL_ren))))))) ?_
  refine goG Y7_Zm True.intro ?_
  refine wG Y7_Zm True.intro ?_
  refine AR.callQP [0] r3 True.intro (And.intro enV_id (And.intro enL_id (And.intro byL_id (And.intro lsV_id (And.intro lsL_id (And.intro (@tyV_id) (And.intro flE_id (And.intro spV_id spL_id)))))))) (And.intro enV_ren (And.intro enL_ren (And.intro byL_ren (And.intro lsV_ren (And.intro lsL_ren (And.intro flE_ren (And.intro spV_ren spL_ren))))))) ?_
  refine goG Y7_Zm True.intro ?_
  refine AR.end ?_
  refine Thn.n ?_
  refine AWp.frz 2 [(5, .pt 0 0), (6, .pt 1 0), (7, .sl (L.map enV) .ro)] [.box [(.im (.bool (true))), .sl (L.map enV) .ro, .sl (un.map lsV) .full, .sl [] .nl], .box [(.im (.bool (true))), .sl (O.map enV) .ro, .sl (un2.map lsV) .ro, .sl [] .ro]] ?_ (by simp) (by repeat (first | exact WkFA.nil | refine WkFA.cons (by first | exact .of (Wk.refl _) (by first | rfl | simp only [List.length_cons, List.length_nil, Nat.reduceAdd, V.ids, V.idsL, idsA, entOk, List.all_cons, List.all_nil, Bool.and_self, Bool.and_true, Bool.true_and, ltB, noId, Nat.reduceLT, decide_true, Bool.true_eq_false, tyV_id, fdV_id, tyL_id, fdL_id, enV_id, enL_id, byL_id, lsV_id, lsL_id, tyV_id, flE_id, spV_id, spL_id]) | exact .of (Wk.ro _ _) (by simp [V.ids, V.idsL, lsL_id])) ?_)) (by repeat (first | exact WkFE.nil | refine WkFE.box (by repeat (first | exact WkFL.nil | refine WkFL.cons (by first | exact .of (Wk.refl _) (by first | rfl | simp only [List.length_cons, List.length_nil, Nat.reduceAdd, V.ids, V.idsL, idsA, entOk, List.all_cons, List.all_nil, Bool.and_self, Bool.and_true, Bool.true_and, ltB, noId, Nat.reduceLT, decide_true, Bool.true_eq_false, tyV_id, fdV_id, tyL_id, fdL_id, enV_id, enL_id, byL_id, lsV_id, lsL_id, tyV_id, flE_id, spV_id, spL_id]) | exact .of (Wk.ro _ _) (by simp [V.ids, V.idsL, lsL_id])) ?_)) ?_ | refine WkFE.same (fun _ e => by cases e) ?_)) (fun i hi => by first | exact absurd rfl hi | exact Nat.lt_of_lt_of_le (ofl_lt hi) (by simp))
  refine wG Y7_Zm True.intro ?_
  refine AR.callSP [0, 1] r4 True.intro (And.intro enV_id (And.intro enL_id (And.intro byL_id (And.intro lsV_id (And.intro lsL_id (And.intro (@tyV_id) (And.intro flE_id (And.intro spV_id spL_id)))))))) (And.intro enV_ren (And.intro enL_ren (And.intro byL_ren (And.intro lsV_ren (And.intro lsL_ren (And.intro flE_ren (And.intro spV_ren spL_ren))))))) ?_
  refine goG Y7_Zm True.intro ?_
  refine wG Y7_Zm True.intro ?_
  refine AR.callQP [1] r5 True.intro (And.intro enV_id (And.intro enL_id (And.intro byL_id (And.intro lsV_id (And.intro lsL_id (And.intro (@tyV_id) (And.intro flE_id (And.intro spV_id spL_id)))))))) (And.intro enV_ren (And.intro enL_ren (And.intro byL_ren (And.intro lsV_ren (And.intro lsL_ren (And.intro flE_ren (And.intro spV_ren spL_ren))))))) ?_
  refine goG Y7_Zm True.intro ?_
  refine wG Y7_Zm True.intro ?_
  refine AWp.loop ?_
  refine ALp.cutP 1 [(5, .pt 0 0), (7, .sl (L.map enV) .ro), (8, .sl (bad.map enV) .ro), (10, .sl (O.map enV) .ro), (11, (.im (.int .i64 ((((0 : Nat)) : Int)))))] [.box [(.im (.bool (true))), .sl (M.map enV) .ro, .sl (um.map lsV) .full, .sl [] .nl]] (And.intro enV_id (And.intro enL_id (And.intro byL_id (And.intro lsV_id (And.intro lsL_id (And.intro (@tyV_id) (And.intro flE_id (And.intro spV_id spL_id)))))))) ?_
  refine ALp.upto O.length (fun _ => True) (fun i => ⟨dn 153 [(5, .pt 0 0), (7, .sl (L.map enV) .ro), (8, .sl (bad.map enV) .ro), (10, .sl (O.map enV) .ro), (11, (.im (.int .i64 ((((i : Nat)) : Int)))))], ofl [.box [(.im (.bool (true))), .sl (M.map enV) .ro, .sl (um.map lsV) .full, .sl [] .nl]]⟩) ?_ 0 (Nat.zero_le _) trivial
  intro m hm _ hnext
  by_cases hlt : m < O.length
  · have hlt' : (m : Int) < (O.length : Int) := by omega
    have hg := get_some hlt
    have hm1 := wrap_succ hlt (by omega)
    have hn := hnext (m + 1) (by omega) (by omega) trivial
    clear hnext
    have hx := k2 O[m] (List.getElem_mem hlt)
    generalize O[m] = x at hg hx
    refine wG Y7_Zm (And.intro hlt' @List.length_map.{0, 0}) ?_
    refine AWp.loop ?_
    refine ALp.cutP 1 [(5, .pt 0 0), (7, .sl (L.map enV) .ro), (8, .sl (bad.map enV) .ro), (10, .sl (O.map enV) .ro), (11, (.im (.int .i64 (((m : Nat) : Int))))), (12, (.im (.bool ((bad.take (0)).any (fun y => decide (y = x)))))), (13, (.im (.int .i64 ((((0 : Nat)) : Int)))))] [.box [(.im (.bool (true))), .sl (M.map enV) .ro, .sl (um.map lsV) .full, .sl [] .nl]] (And.intro enV_id (And.intro enL_id (And.intro byL_id (And.intro lsV_id (And.intro lsL_id (And.intro (@tyV_id) (And.intro flE_id (And.intro spV_id spL_id)))))))) ?_
    refine ALp.upto bad.length (fun _ => True) (fun i => ⟨dn 153 [(5, .pt 0 0), (7, .sl (L.map enV) .ro), (8, .sl (bad.map enV) .ro), (10, .sl (O.map enV) .ro), (11, (.im (.int .i64 (((m : Nat) : Int))))), (12, (.im (.bool ((bad.take (i)).any (fun y => decide (y = x)))))), (13, (.im (.int .i64 ((((i : Nat)) : Int)))))], ofl [.box [(.im (.bool (true))), .sl (M.map enV) .ro, .sl (um.map lsV) .full, .sl [] .nl]]⟩) ?_ 0 (Nat.zero_le _) trivial
    intro k hk _ hnx
    by_cases hkl : k < bad.length
    · have hkl' : (k : Int) < (bad.length : Int) := by omega
      have hgk := get_some hkl
      have hk1 := wrap_succ hkl (by omega)
      have hn2 := hnx (k + 1) (by omega) (by omega) trivial
      clear hnx
      rw [anyT_take _ (List.getElem?_eq_getElem hkl)] at hn2
      generalize bad[k] = y at hgk hn2
      generalize (bad.take k).any (fun y => decide (y = x)) = rj at hn2 ⊢
      cases rj with
      | true =>
        rw [Bool.true_or] at hn2
        refine wdG Y7_Zm (And.intro hkl' (And.intro (@List.length_map.{0, 0}) hk1)) ?_
        refine ALp.cutP 1 [(5, .pt 0 0), (7, .sl (L.map enV) .ro), (8, .sl (bad.map enV) .ro), (10, .sl (O.map enV) .ro), (11, (.im (.int .i64 (((m : Nat) : Int))))), (12, (.im (.bool (true)))), (13, (.im (.int .i64 (((k + 1 : Nat) : Int)))))] [.box [(.im (.bool (true))), .sl (M.map enV) .ro, .sl (um.map lsV) .full, .sl [] .nl]] (And.intro enV_id (And.intro enL_id (And.intro byL_id (And.intro lsV_id (And.intro lsL_id (And.intro (@tyV_id) (And.intro flE_id (And.intro spV_id spL_id)))))))) ?_
        exact hn2
      | false =>
        rw [Bool.false_or] at hn2
        obtain ⟨yk, yv, ya, yt⟩ := y
        obtain ⟨xk, xv, xa, xt⟩ := x
        by_cases f1 : yk = xk
        case neg =>
          rw [decide_eq_false (fun h => f1 (congrArg En.kind h))] at hn2
          refine wdG Y7_Zm (And.intro hkl' (And.intro ENT (And.intro enV_eq (And.intro hgk (And.intro hg (And.intro f1 hk1)))))) ?_
          refine ALp.cutP 1 [(5, .pt 0 0), (7, .sl (L.map enV) .ro), (8, .sl (bad.map enV) .ro), (10, .sl (O.map enV) .ro), (11, (.im (.int .i64 (((m : Nat) : Int))))), (12, (.im (.bool (false)))), (13, (.im (.int .i64 (((k + 1 : Nat) : Int)))))] [.box [(.im (.bool (true))), .sl (M.map enV) .ro, .sl (um.map lsV) .full, .sl [] .nl]] (And.intro enV_id (And.intro enL_id (And.intro byL_id (And.intro lsV_id (And.intro lsL_id (And.intro (@tyV_id) (And.intro flE_id (And.intro spV_id spL_id)))))))) ?_
          exact hn2
        subst f1
        by_cases f2 : yv = xv
        case neg =>
          rw [decide_eq_false (fun h => f2 (congrArg En.var h))] at hn2
          refine wdG Y7_Zm (And.intro hkl' (And.intro ENT (And.intro enV_eq (And.intro hgk (And.intro hg (And.intro f2 hk1)))))) ?_
          refine ALp.cutP 1 [(5, .pt 0 0), (7, .sl (L.map enV) .ro), (8, .sl (bad.map enV) .ro), (10, .sl (O.map enV) .ro), (11, (.im (.int .i64 (((m : Nat) : Int))))), (12, (.im (.bool (false)))), (13, (.im (.int .i64 (((k + 1 : Nat) : Int)))))] [.box [(.im (.bool (true))), .sl (M.map enV) .ro, .sl (um.map lsV) .full, .sl [] .nl]] (And.intro enV_id (And.intro enL_id (And.intro byL_id (And.intro lsV_id (And.intro lsL_id (And.intro (@tyV_id) (And.intro flE_id (And.intro spV_id spL_id)))))))) ?_
          exact hn2
        subst f2
        by_cases f3 : ya = xa
        case neg =>
          rw [decide_eq_false (fun h => f3 (congrArg En.addr h))] at hn2
          refine wdG Y7_Zm (And.intro hkl' (And.intro ENT (And.intro enV_eq (And.intro hgk (And.intro hg (And.intro f3 hk1)))))) ?_
          refine ALp.cutP 1 [(5, .pt 0 0), (7, .sl (L.map enV) .ro), (8, .sl (bad.map enV) .ro), (10, .sl (O.map enV) .ro), (11, (.im (.int .i64 (((m : Nat) : Int))))), (12, (.im (.bool (false)))), (13, (.im (.int .i64 (((k + 1 : Nat) : Int)))))] [.box [(.im (.bool (true))), .sl (M.map enV) .ro, .sl (um.map lsV) .full, .sl [] .nl]] (And.intro enV_id (And.intro enL_id (And.intro byL_id (And.intro lsV_id (And.intro lsL_id (And.intro (@tyV_id) (And.intro flE_id (And.intro spV_id spL_id)))))))) ?_
          exact hn2
        subst f3
        have he := bA_eq yt xt
        by_cases f4 : yt = xt
        case neg =>
          rw [decide_eq_false (fun h => f4 (congrArg En.text h))] at hn2
          rw [show (yt == xt) = false by simpa using f4] at he
          refine wdG Y7_Zm (And.intro hkl' (And.intro ENT (And.intro enV_eq (And.intro hgk (And.intro hg (And.intro he hk1)))))) ?_
          refine ALp.cutP 1 [(5, .pt 0 0), (7, .sl (L.map enV) .ro), (8, .sl (bad.map enV) .ro), (10, .sl (O.map enV) .ro), (11, (.im (.int .i64 (((m : Nat) : Int))))), (12, (.im (.bool (false)))), (13, (.im (.int .i64 (((k + 1 : Nat) : Int)))))] [.box [(.im (.bool (true))), .sl (M.map enV) .ro, .sl (um.map lsV) .full, .sl [] .nl]] (And.intro enV_id (And.intro enL_id (And.intro byL_id (And.intro lsV_id (And.intro lsL_id (And.intro (@tyV_id) (And.intro flE_id (And.intro spV_id spL_id)))))))) ?_
          exact hn2
        subst f4
        rw [decide_eq_true rfl] at hn2
        refine wdG Y7_Zm (And.intro hkl' (And.intro ENT (And.intro enV_eq (And.intro hgk (And.intro hg hk1))))) ?_
        refine ALp.cutP 1 [(5, .pt 0 0), (7, .sl (L.map enV) .ro), (8, .sl (bad.map enV) .ro), (10, .sl (O.map enV) .ro), (11, (.im (.int .i64 (((m : Nat) : Int))))), (12, (.im (.bool (true)))), (13, (.im (.int .i64 (((k + 1 : Nat) : Int)))))] [.box [(.im (.bool (true))), .sl (M.map enV) .ro, .sl (um.map lsV) .full, .sl [] .nl]] (And.intro enV_id (And.intro enL_id (And.intro byL_id (And.intro lsV_id (And.intro lsL_id (And.intro (@tyV_id) (And.intro flE_id (And.intro spV_id spL_id)))))))) ?_
        exact hn2
    · obtain rfl : k = bad.length := by omega
      have hkl' : ¬ (bad.length : Int) < (bad.length : Int) := by omega
      rw [List.take_length]
      clear hnx hkl
      have q := c_GetN M um x.kind x.addr x.var k3 k4
      cases hrj : bad.any (fun y => decide (y = x)) with
      | true =>
        generalize getE M x.kind x.addr x.var = gt at q
        generalize hasE M (keyOf x.kind x.addr x.var) = gb at q
        refine wdG Y7_Zm (And.intro hkl' (And.intro ENT hg)) ?_
        refine AR.callQP [0] q True.intro (And.intro enV_id (And.intro enL_id (And.intro byL_id (And.intro lsV_id (And.intro lsL_id (And.intro (@tyV_id) (And.intro flE_id (And.intro spV_id spL_id)))))))) (And.intro enV_ren (And.intro enL_ren (And.intro byL_ren (And.intro lsV_ren (And.intro lsL_ren (And.intro flE_ren (And.intro spV_ren spL_ren))))))) ?_
        refine goG Y7_Zm True.intro ?_
        refine wdG Y7_Zm (And.intro ENT (And.intro hg hm1)) ?_
        refine ALp.cutP 1 [(5, .pt 0 0), (7, .sl (L.map enV) .ro), (8, .sl (bad.map enV) .ro), (10, .sl (O.map enV) .ro), (11, (.im (.int .i64 ((((m + 1 : Nat)) : Int)))))] [.box [(.im (.bool (true))), .sl (M.map enV) .ro, .sl (um.map lsV) .full, .sl [] .nl]] (And.intro enV_id (And.intro enL_id (And.intro byL_id (And.intro lsV_id (And.intro lsL_id (And.intro (@tyV_id) (And.intro flE_id (And.intro spV_id spL_id)))))))) ?_
        exact hn
      | false =>
        have hxM : x ∈ M := hx.resolve_left fun hb => by
          rw [List.any_eq_true.2 ⟨x, hb, decide_eq_true rfl⟩] at hrj
          cases hrj
        obtain ⟨g1, g2⟩ := get_of_mem k3 hxM
        rw [g1, g2] at q
        refine wdG Y7_Zm (And.intro hkl' (And.intro ENT hg)) ?_
        refine AR.callQP [0] q True.intro (And.intro enV_id (And.intro enL_id (And.intro byL_id (And.intro lsV_id (And.intro lsL_id (And.intro (@tyV_id) (And.intro flE_id (And.intro spV_id spL_id)))))))) (And.intro enV_ren (And.intro enL_ren (And.intro byL_ren (And.intro lsV_ren (And.intro lsL_ren (And.intro flE_ren (And.intro spV_ren spL_ren))))))) ?_
        refine goG Y7_Zm True.intro ?_
        refine wdG Y7_Zm (And.intro ENT (And.intro hg hm1)) ?_
        refine ALp.cutP 1 [(5, .pt 0 0), (7, .sl (L.map enV) .ro), (8, .sl (bad.map enV) .ro), (10, .sl (O.map enV) .ro), (11, (.im (.int .i64 ((((m + 1 : Nat)) : Int)))))] [.box [(.im (.bool (true))), .sl (M.map enV) .ro, .sl (um.map lsV) .full, .sl [] .nl]] (And.intro enV_id (And.intro enL_id (And.intro byL_id (And.intro lsV_id (And.intro lsL_id (And.intro (@tyV_id) (And.intro flE_id (And.intro spV_id spL_id)))))))) ?_
        exact hn
  obtain rfl : m = O.length := by omega
  have hlt' : ¬ (O.length : Int) < (O.length : Int) := by omega
  clear hnext hlt
  refine wG Y7_Zm (And.intro hlt' @List.length_map.{0, 0}) ?_
  refine AWp.loop ?_
  refine ALp.cutP 1 [(5, .pt 0 0), (7, .sl (L.map enV) .ro), (16, (.im (.int .i64 ((((0 : Nat)) : Int)))))] [.box [(.im (.bool (true))), .sl (M.map enV) .ro, .sl (um.map lsV) .full, .sl [] .nl]] (And.intro enV_id (And.intro enL_id (And.intro byL_id (And.intro lsV_id (And.intro lsL_id (And.intro (@tyV_id) (And.intro flE_id (And.intro spV_id spL_id)))))))) ?_
  refine ALp.upto L.length (fun _ => True) (fun i => ⟨dn 153 [(5, .pt 0 0), (7, .sl (L.map enV) .ro), (16, (.im (.int .i64 ((((i : Nat)) : Int)))))], ofl [.box [(.im (.bool (true))), .sl (M.map enV) .ro, .sl (um.map lsV) .full, .sl [] .nl]]⟩) ?_ 0 (Nat.zero_le _) trivial
  intro m hm _ hnext
  by_cases hlt : m < L.length
  · have hlt' : (m : Int) < (L.length : Int) := by omega
    have hg := get_some hlt
    have hm1 := wrap_succ hlt (by omega)
    have hn := hnext (m + 1) (by omega) (by omega) trivial
    clear hnext
    obtain ⟨g1, g2⟩ := get_of_mem k3 (k1 L[m] (List.getElem_mem hlt))
    have q := c_GetN M um L[m].kind L[m].addr L[m].var k3 k4
    rw [g1, g2] at q
    clear g1 g2
    generalize L[m] = x at hg q
    refine wdG Y7_Zm (And.intro hlt' (And.intro ENT hg)) ?_
    refine AR.callQP [0] q True.intro (And.intro enV_id (And.intro enL_id (And.intro byL_id (And.intro lsV_id (And.intro lsL_id (And.intro (@tyV_id) (And.intro flE_id (And.intro spV_id spL_id)))))))) (And.intro enV_ren (And.intro enL_ren (And.intro byL_ren (And.intro lsV_ren (And.intro lsL_ren (And.intro flE_ren (And.intro spV_ren spL_ren))))))) ?_
    refine goG Y7_Zm True.intro ?_
    refine wdG Y7_Zm (And.intro ENT (And.intro hg hm1)) ?_
    refine ALp.cutP 1 [(5, .pt 0 0), (7, .sl (L.map enV) .ro), (16, (.im (.int .i64 ((((m + 1 : Nat)) : Int)))))] [.box [(.im (.bool (true))), .sl (M.map enV) .ro, .sl (um.map lsV) .full, .sl [] .nl]] (And.intro enV_id (And.intro enL_id (And.intro byL_id (And.intro lsV_id (And.intro lsL_id (And.intro (@tyV_id) (And.intro flE_id (And.intro spV_id spL_id)))))))) ?_
    exact hn
  obtain rfl : m = L.length := by omega
  have hlt' : ¬ (L.length : Int) < (L.length : Int) := by omega
  clear hnext hlt
  refine wG Y7_Zm (And.intro hlt' @List.length_map.{0, 0}) ?_
  refine AR.callSP [0, 1] r6 True.intro (And.intro enV_id (And.intro enL_id (And.intro byL_id (And.intro lsV_id (And.intro lsL_id (And.intro (@tyV_id) (And.intro flE_id (And.intro spV_id spL_id)))))))) (And.intro enV_ren (And.intro enL_ren (And.intro byL_ren (And.intro lsV_ren (And.intro lsL_ren (And.intro flE_ren (And.intro spV_ren spL_ren))))))) ?_
  refine goG Y7_Zm True.intro ?_
  refine AR.callQP [0, 1] r7 True.intro (And.intro enV_id (And.intro enL_id (And.intro byL_id (And.intro lsV_id (And.intro lsL_id (And.intro (@tyV_id) (And.intro flE_id (And.intro spV_id spL_id)))))))) (And.intro enV_ren (And.intro enL_ren (And.intro byL_ren (And.intro lsV_ren (And.intro lsL_ren (And.intro flE_ren (And.intro spV_ren spL_ren))))))) ?_
  refine goG Y7_Zm True.intro ?_
  refine AR.callP r8 True.intro (And.intro enV_id (And.intro enL_id (And.intro byL_id (And.intro lsV_id (And.intro lsL_id (And.intro (@tyV_id) (And.intro flE_id (And.intro spV_id spL_id)))))))) ?_
  refine goG Y7_Zm True.intro ?_
  refine wG Y7_Zm True.intro ?_
  exact Fin.oneP
end Go.Proofs.YtianekkfehoedaaDoor

