/- Walks of the laws: other, step. -/
import Derived.Test.YtianekkfehoedaaGreatDoorHv
import Derived.Test.YtianekkfehoedaaGreatDoorRm
import Derived.Test.YtianekkfehoedaaGreatDoorK9
namespace Go.Proofs.YtianekkfehoedaaGreatDoor
set_option linter.unusedSimpArgs false
set_option linter.unusedVariables false
set_option linter.unnecessarySimpa false
open Go.RowKit
def pz : Pr := ⟨[], [], []⟩
def otP : Pr → List En → Pr
  | p, [] => p
  | p, e :: l => otP (p.put e) l
theorem clip_le2 (u : List (List En)) : (clipE u).length ≤ u.length := by unfold clipE; simp
theorem put_fine {p : Pr} (e : En) (h1 : AscE p.l) (h2 : p.l.length ≤ 1024) : AscE (p.put e).l ∧ (p.put e).l.length ≤ 1024 ∧ (p.put e).un.length ≤ p.un.length + 1 ∧ (p.re = [] → (p.put e).re = []) := by
  have hcl := clip_le2 (p.un ++ [p.l])
  rw [List.length_append, List.length_cons, List.length_nil] at hcl
  unfold Pr.put Pr.chg
  by_cases hE : eErr p.l e = 0
  · rw [if_pos hE]
    dsimp only
    exact ⟨asc_eWith h1 _, len_eWith h2 hE, hcl, fun _ => rfl⟩
  · rw [if_neg hE]; exact ⟨h1, h2, by omega, id⟩
theorem Y41_Rs : type_of% (And.intro @F_ag_31 (And.intro @F_ag_46 (And.intro @F_al_31 (And.intro @F_el_28 (And.intro @F_sz_31 (@F_sz_46)))))) := And.intro @F_ag_31 (And.intro @F_ag_46 (And.intro @F_al_31 (And.intro @F_el_28 (And.intro @F_sz_31 (@F_sz_46)))))
structure OI (l : List En) (x : Nat × Pr) : Prop where
  m : x.1 ≤ l.length
  asc : AscE x.2.l
  len : x.2.l.length ≤ 1024
  un : x.2.un.length ≤ x.1
  re : x.2.re = []
  e : otP pz l = otP x.2 (l.drop x.1)
theorem c_other (l : List En) (hl : l.length ≤ 10) (ht : ∀ e ∈ l, e.text.length ≤ 400) : DC Tryz.prog 41 [.sl (l.map enV) .ro] [.free, .free] (.tu [.pt 1 0, (.ag [(.im (.bool (true))), .sl ((otP pz l).l.map enV) .ro, .sl ((otP pz l).un.reverse.map lsV) .ro, .sl ((otP pz l).re.reverse.map lsV) .ro])]) [.box [(.im (.bool (true))), .sl ((otP pz l).l.map enV) .ro, .sl ((otP pz l).un.reverse.map lsV) .ro, .sl ((otP pz l).re.reverse.map lsV) .ro], .box [(.im (.bool (true))), .sl ((otP pz l).l.map enV) .ro, .sl ((otP pz l).un.map lsV) .full, .sl [] .nl]] := by
  have q1 := c_New
  have q2 := c_NewR
  refine DC.enterN 2 35 Tryz.func41 rfl (by decide) rfl rfl (s := [(0, .sl (l.map enV) .ro)]) (by rfl) ?_
  refine wG Y41_Rs True.intro ?_
  refine AR.callSP [1] q1 True.intro (And.intro enV_id (And.intro enL_id (And.intro byL_id (And.intro lsV_id (And.intro lsL_id (And.intro (@tyV_id) (And.intro spV_id spL_id))))))) (And.intro enV_ren (And.intro enL_ren (And.intro byL_ren (And.intro lsV_ren (And.intro lsL_ren (And.intro spV_ren spL_ren)))))) ?_
  refine goG Y41_Rs True.intro ?_
  refine wG Y41_Rs True.intro ?_
  refine AR.callP q2 True.intro (And.intro enV_id (And.intro enL_id (And.intro byL_id (And.intro lsV_id (And.intro lsL_id (And.intro (@tyV_id) (And.intro spV_id spL_id))))))) ?_
  refine goG Y41_Rs True.intro ?_
  refine wG Y41_Rs True.intro ?_
  refine AWp.frz 3 [(0, .sl (l.map enV) .ro), (3, .pt 0 0), (4, .pt 1 0), (5, .pt 2 0), (6, (.im (.int .i64 (0))))] [.box [(.im (.bool (false))), .sl [] .nl, .sl [] .nl, .sl [] .nl], .box [(.im (.bool (true))), .sl [] .ro, .sl [] .full, .sl [] .nl], .box [(.im (.bool (true))), .sl [] .ro, .sl [] .ro, .sl [] .ro]] ?_ (by simp) (by repeat (first | exact WkFA.nil | refine WkFA.cons (by first | exact .of (Wk.refl _) (by first | rfl | simp only [List.length_cons, List.length_nil, Nat.reduceAdd, V.ids, V.idsL, idsA, entOk, List.all_cons, List.all_nil, Bool.and_self, Bool.and_true, Bool.true_and, ltB, noId, Nat.reduceLT, decide_true, Bool.true_eq_false, tyV_id, fdV_id, tyL_id, fdL_id, enV_id, enL_id, byL_id, lsV_id, lsL_id, tyV_id, spV_id, spL_id]) | exact .of (Wk.ro _ _) rfl | exact .of (Wk.nlF _) rfl) ?_)) (by repeat (first | exact WkFE.nil | refine WkFE.box (by repeat (first | exact WkFL.nil | refine WkFL.cons (by first | exact .of (Wk.refl _) (by first | rfl | simp only [List.length_cons, List.length_nil, Nat.reduceAdd, V.ids, V.idsL, idsA, entOk, List.all_cons, List.all_nil, Bool.and_self, Bool.and_true, Bool.true_and, ltB, noId, Nat.reduceLT, decide_true, Bool.true_eq_false, tyV_id, fdV_id, tyL_id, fdL_id, enV_id, enL_id, byL_id, lsV_id, lsL_id, tyV_id, spV_id, spL_id]) | exact .of (Wk.ro _ _) rfl | exact .of (Wk.nlF _) rfl) ?_)) ?_ | refine WkFE.same (fun _ e => by cases e) ?_)) (fun i hi => by first | exact absurd rfl hi | exact Nat.lt_of_lt_of_le (ofl_lt hi) (by simp))
  refine AWp.loop ?_
  suffices H : ∀ x : Nat × Pr, OI l x → ALp _ _ _ _ _ ⟨dn 35 [(0, .sl (l.map enV) .ro), (3, .pt 0 0), (4, .pt 1 0), (5, .pt 2 0), (6, (.im (.int .i64 ((((x.1 : Nat)) : Int)))))], ofl [.box [(.im (.bool (false))), .sl [] .nl, .sl [] .nl, .sl [] .nl], .box [(.im (.bool (true))), .sl (((x.2)).l.map enV) .ro, .sl (((x.2)).un.map lsV) .full, .sl [] .nl], .box [(.im (.bool (true))), .sl (((x.2)).l.map enV) .ro, .sl (((x.2)).un.reverse.map lsV) .ro, .sl (((x.2)).re.reverse.map lsV) .ro]]⟩ by
    exact H (0, pz) ⟨Nat.zero_le _, List.Pairwise.nil, by decide, Nat.le_refl _, rfl, rfl⟩
  refine ALp.meas (α := Nat × Pr) (fun x => ⟨dn 35 [(0, .sl (l.map enV) .ro), (3, .pt 0 0), (4, .pt 1 0), (5, .pt 2 0), (6, (.im (.int .i64 ((((x.1 : Nat)) : Int)))))], ofl [.box [(.im (.bool (false))), .sl [] .nl, .sl [] .nl, .sl [] .nl], .box [(.im (.bool (true))), .sl (((x.2)).l.map enV) .ro, .sl (((x.2)).un.map lsV) .full, .sl [] .nl], .box [(.im (.bool (true))), .sl (((x.2)).l.map enV) .ro, .sl (((x.2)).un.reverse.map lsV) .ro, .sl (((x.2)).re.reverse.map lsV) .ro]]⟩) (OI l) (fun x => l.length - x.1) ?_
  rintro ⟨m, p⟩ ⟨h1, h2, h3, h4, h5, h6⟩ hnext
  dsimp only at h1 h2 h3 h4 h5 h6 hnext ⊢
  by_cases hlt : m < l.length
  · have hlt' : (m : Int) < (l.length : Int) := by omega
    have hg := get_some hlt
    have hm1 := wrap_succ hlt (by omega)
    rw [List.drop_eq_getElem_cons hlt] at h6
    have hte := ht l[m] (List.getElem_mem hlt)
    generalize l[m] = e at hg h6 hte
    obtain ⟨f1, f2, f3, f4⟩ := put_fine e h2 h3
    have hn := hnext (m + 1, p.put e) (by simp; omega) ⟨by simp; omega, f1, f2, by simp; omega, f4 h5, h6⟩
    clear hnext h6
    have q4 := c_PutR p e h2 h3 (by omega) (by omega)
    have e1 : p.put e = if eErr p.l e = 0 then p.chg (eWith p.l e) else p := rfl
    by_cases hE : eErr p.l e = 0
    · have q3 := c_Put0N p.l p.un e h2 h3 (by omega) (by omega) hE
      rw [hE] at q4
      have e2 : (p.put e).l = eWith p.l e := by rw [e1, if_pos hE]; unfold Pr.chg; dsimp only
      have e3 : (p.put e).un = clipE (p.un ++ [p.l]) := by rw [e1, if_pos hE]; unfold Pr.chg; dsimp only
      rw [← e2, ← e3] at q3
      generalize p.put e = p2 at q3 q4 hn
      refine wG Y41_Rs (And.intro hlt' (And.intro ENT hg)) ?_
      refine AR.callSP [1] q3 enV_eq (And.intro enV_id (And.intro enL_id (And.intro byL_id (And.intro lsV_id (And.intro lsL_id (And.intro (@tyV_id) (And.intro spV_id spL_id))))))) (And.intro enV_ren (And.intro enL_ren (And.intro byL_ren (And.intro lsV_ren (And.intro lsL_ren (And.intro spV_ren spL_ren)))))) ?_
      refine goG Y41_Rs True.intro ?_
      refine wdG Y41_Rs (And.intro ENT hg) ?_
      refine AR.callP q4 enV_eq (And.intro enV_id (And.intro enL_id (And.intro byL_id (And.intro lsV_id (And.intro lsL_id (And.intro (@tyV_id) (And.intro spV_id spL_id))))))) ?_
      refine goG Y41_Rs True.intro ?_
      refine wdG Y41_Rs hm1 ?_
      refine ALp.cutP 3 [(0, .sl (l.map enV) .ro), (3, .pt 0 0), (4, .pt 1 0), (5, .pt 2 0), (6, (.im (.int .i64 ((((m + 1 : Nat)) : Int)))))] [.box [(.im (.bool (false))), .sl [] .nl, .sl [] .nl, .sl [] .nl], .box [(.im (.bool (true))), .sl (((p2)).l.map enV) .ro, .sl (((p2)).un.map lsV) .full, .sl [] .nl], .box [(.im (.bool (true))), .sl (((p2)).l.map enV) .ro, .sl (((p2)).un.reverse.map lsV) .ro, .sl (((p2)).re.reverse.map lsV) .ro]] (And.intro enV_id (And.intro enL_id (And.intro byL_id (And.intro lsV_id (And.intro lsL_id (And.intro (@tyV_id) (And.intro spV_id spL_id))))))) ?_
      exact hn
    · have q3 := c_Put1N p.l p.un e h2 h3 (by omega) hE
      rw [e1, if_neg hE] at q4 hn
      generalize eErr p.l e = ee at q3 q4 hE
      refine wG Y41_Rs (And.intro hlt' (And.intro ENT hg)) ?_
      refine AR.callSP [1] q3 enV_eq (And.intro enV_id (And.intro enL_id (And.intro byL_id (And.intro lsV_id (And.intro lsL_id (And.intro (@tyV_id) (And.intro spV_id spL_id))))))) (And.intro enV_ren (And.intro enL_ren (And.intro byL_ren (And.intro lsV_ren (And.intro lsL_ren (And.intro spV_ren spL_ren)))))) ?_
      refine goG Y41_Rs True.intro ?_
      refine wdG Y41_Rs (And.intro ENT hg) ?_
      refine AR.callP q4 enV_eq (And.intro enV_id (And.intro enL_id (And.intro byL_id (And.intro lsV_id (And.intro lsL_id (And.intro (@tyV_id) (And.intro spV_id spL_id))))))) ?_
      refine goG Y41_Rs True.intro ?_
      refine wdG Y41_Rs hm1 ?_
      refine ALp.cutP 3 [(0, .sl (l.map enV) .ro), (3, .pt 0 0), (4, .pt 1 0), (5, .pt 2 0), (6, (.im (.int .i64 ((((m + 1 : Nat)) : Int)))))] [.box [(.im (.bool (false))), .sl [] .nl, .sl [] .nl, .sl [] .nl], .box [(.im (.bool (true))), .sl (((p)).l.map enV) .ro, .sl (((p)).un.map lsV) .full, .sl [] .nl], .box [(.im (.bool (true))), .sl (((p)).l.map enV) .ro, .sl (((p)).un.reverse.map lsV) .ro, .sl (((p)).re.reverse.map lsV) .ro]] (And.intro enV_id (And.intro enL_id (And.intro byL_id (And.intro lsV_id (And.intro lsL_id (And.intro (@tyV_id) (And.intro spV_id spL_id))))))) ?_
      exact hn
  · obtain rfl : m = l.length := by omega
    have hlt' : ¬ (l.length : Int) < (l.length : Int) := by omega
    rw [List.drop_length] at h6
    have h6 : otP pz l = p := h6
    rw [h6]
    clear hnext hlt h6
    refine wdG Y41_Rs hlt' ?_
    refine Fin.genK 2 (rs := [.tmp 2, .cell 3 31]) rfl (by first | exact .inl rfl | exact .inr rfl) (by simp only [resX, resA, ↓accU_f, ↓reduceIte, SA, SB, SC, SD, Y41_Rs, valG, fpsG, evO, evB, evA, evA1, nilK, eqF, eqC, apOk, intOf, slB, slK,  gd, St.ev, putA, ofl, wrl, putE, V.ofVal, V.ofCell, bin2, un1, seg, fillV, partsOk, Value.oneCell', Nat.reduceBEq, Nat.reduceLT, Nat.reduceSub, Nat.reduceAdd, Nat.reduceMul, Nat.reduceLeDiff, Nat.reduceEqDiff, reduceCtorEq, Int.reduceLT, Int.reduceLE, Int.reduceEq, Int.reduceNe, Int.reduceBEq, Int.reduceBNe, Int.reduceAdd, Int.reduceSub, Int.reduceMul, Int.reduceToNat]; with_reducible exact rfl) ?_ rfl (by first | rfl | simp only [List.length_cons, List.length_nil, Nat.reduceAdd, V.ids, V.idsL, idsA, entOk, List.all_cons, List.all_nil, Bool.and_self, Bool.and_true, Bool.true_and, ltB, noId, Nat.reduceLT, decide_true, Bool.true_eq_false, tyV_id, fdV_id, tyL_id, fdL_id, enV_id, enL_id, byL_id, lsV_id, lsL_id, tyV_id, spV_id, spL_id])
    repeat (first | exact WkF.of (Wk.refl _) (by first | rfl | simp only [List.length_cons, List.length_nil, Nat.reduceAdd, V.ids, V.idsL, idsA, entOk, List.all_cons, List.all_nil, Bool.and_self, Bool.and_true, Bool.true_and, ltB, noId, Nat.reduceLT, decide_true, Bool.true_eq_false, tyV_id, fdV_id, tyL_id, fdL_id, enV_id, enL_id, byL_id, lsV_id, lsL_id, tyV_id, spV_id, spL_id]) | exact WkF.of (Wk.ro _ _) (by first | rfl | simp only [List.length_cons, List.length_nil, Nat.reduceAdd, V.ids, V.idsL, idsA, entOk, List.all_cons, List.all_nil, Bool.and_self, Bool.and_true, Bool.true_and, ltB, noId, Nat.reduceLT, decide_true, Bool.true_eq_false, tyV_id, fdV_id, tyL_id, fdL_id, enV_id, enL_id, byL_id, lsV_id, lsL_id, tyV_id, spV_id, spL_id]) | refine WkF.tu ?_ | refine WkF.ag ?_ | refine WkFL.cons ?_ ?_ | exact WkFL.nil)
theorem Y16_Rs : type_of% (And.intro @F_ag_28 (And.intro @F_ag_3 (And.intro @F_ag_31 (And.intro @F_ag_46 (And.intro @F_al_31 (And.intro @F_fl_31_1 (And.intro @F_fl_48_0 (And.intro @F_fl_48_1 (And.intro @F_fl_48_2 (And.intro @F_sz_28 (And.intro @F_sz_3 (And.intro @F_sz_31 (And.intro @F_sz_46 (@F_un_4)))))))))))))) := And.intro @F_ag_28 (And.intro @F_ag_3 (And.intro @F_ag_31 (And.intro @F_ag_46 (And.intro @F_al_31 (And.intro @F_fl_31_1 (And.intro @F_fl_48_0 (And.intro @F_fl_48_1 (And.intro @F_fl_48_2 (And.intro @F_sz_28 (And.intro @F_sz_3 (And.intro @F_sz_31 (And.intro @F_sz_46 (@F_un_4)))))))))))))
theorem c_stepPut0 (p : Pr) (s : Sp) (h : AscE p.l) (hl : p.l.length ≤ 1024) (ht : s.e.text.length ≤ 400) (hu : p.un.length ≤ 1000) (k0 : s.kind = 0) (hE : eErr p.l s.e = 0) : DC Tryz.prog 16 [.pt 0 0, (.ag [(.im (.bool (true))), .sl ((p).l.map enV) .ro, .sl ((p).un.reverse.map lsV) .ro, .sl ((p).re.reverse.map lsV) .ro]), spV s] [.box [(.im (.bool (true))), .sl ((p).l.map enV) .ro, .sl ((p).un.map lsV) (.own 1), .sl ((p).re.map lsV) (.own 2)], .tip 28 1 (p).un.length, .tip 28 1 (p).re.length] (.tu [(.ag [(.im (.bool (true))), .sl ((p.put s.e).l.map enV) .ro, .sl ((p.put s.e).un.reverse.map lsV) .ro, .sl ((p.put s.e).re.reverse.map lsV) .ro]), (.im (.bool (true)))]) [.box [(.im (.bool (true))), .sl ((eWith p.l s.e).map enV) .ro, .sl ((clipE (p.un ++ [p.l])).map lsV) .full, .sl [] .nl], .tip 28 1 (p.un.length + 1), .tip 28 1 p.re.length] := by
  have q1 := c_Put0 p.l p.un p.re s.e h hl (by omega) (by omega) hE
  have q2 := c_PutR p s.e h hl (by omega) (by omega)
  rw [hE] at q2
  generalize p.put s.e = p2 at q2 ⊢
  generalize eWith p.l s.e = w at q1 ⊢
  refine DC.enter 124 Tryz.func16 rfl (by decide) rfl rfl (s := [(0, .pt 0 0), (1, (.ag [(.im (.bool (true))), .sl ((p).l.map enV) .ro, .sl ((p).un.reverse.map lsV) .ro, .sl ((p).re.reverse.map lsV) .ro])), (2, spV s)]) (by rfl) ?_
  simp only [spV_eq s]
  refine wG Y16_Rs k0 ?_
  refine AR.callSP [0, 1, 2] q1 enV_eq (And.intro enV_id (And.intro enL_id (And.intro byL_id (And.intro lsV_id (And.intro lsL_id (And.intro (@tyV_id) (And.intro spV_id spL_id))))))) (And.intro enV_ren (And.intro enL_ren (And.intro byL_ren (And.intro lsV_ren (And.intro lsL_ren (And.intro spV_ren spL_ren)))))) ?_
  refine goG Y16_Rs True.intro ?_
  refine wG Y16_Rs True.intro ?_
  refine AR.callP q2 enV_eq (And.intro enV_id (And.intro enL_id (And.intro byL_id (And.intro lsV_id (And.intro lsL_id (And.intro (@tyV_id) (And.intro spV_id spL_id))))))) ?_
  refine goG Y16_Rs True.intro ?_
  refine wG Y16_Rs True.intro ?_
  refine Fin.gen (rs := [.cell 6 31, .tmp 7]) rfl (by first | exact .inl rfl | exact .inr rfl) (finG Y16_Rs) ?_ rfl (idG (And.intro enV_id (And.intro enL_id (And.intro byL_id (And.intro lsV_id (And.intro lsL_id (And.intro (@tyV_id) (And.intro spV_id spL_id))))))))
  skip
  all_goals exact wkG (And.intro enV_id (And.intro enL_id (And.intro byL_id (And.intro lsV_id (And.intro lsL_id (And.intro (@tyV_id) (And.intro spV_id spL_id)))))))
theorem c_stepPut1 (p : Pr) (s : Sp) (h : AscE p.l) (hl : p.l.length ≤ 1024) (ht : s.e.text.length ≤ 400) (hu : p.un.length ≤ 1000) (k0 : s.kind = 0) (hE : eErr p.l s.e ≠ 0) : DC Tryz.prog 16 [.pt 0 0, (.ag [(.im (.bool (true))), .sl ((p).l.map enV) .ro, .sl ((p).un.reverse.map lsV) .ro, .sl ((p).re.reverse.map lsV) .ro]), spV s] [.box [(.im (.bool (true))), .sl ((p).l.map enV) .ro, .sl ((p).un.map lsV) (.own 1), .sl ((p).re.map lsV) (.own 2)], .tip 28 1 (p).un.length, .tip 28 1 (p).re.length] (.tu [(.ag [(.im (.bool (true))), .sl ((p).l.map enV) .ro, .sl ((p).un.reverse.map lsV) .ro, .sl ((p).re.reverse.map lsV) .ro]), (.im (.bool (true)))]) [.box [(.im (.bool (true))), .sl ((p).l.map enV) .ro, .sl ((p).un.map lsV) (.own 1), .sl ((p).re.map lsV) (.own 2)], .tip 28 1 (p).un.length, .tip 28 1 (p).re.length] := by
  have q1 := c_Put1 p.l p.un p.re s.e h hl (by omega) hE
  have q2 := c_PutR p s.e h hl (by omega) (by omega)
  rw [show p.put s.e = p from if_neg hE] at q2
  generalize eErr p.l s.e = ee at q1 q2 hE
  refine DC.enter 124 Tryz.func16 rfl (by decide) rfl rfl (s := [(0, .pt 0 0), (1, (.ag [(.im (.bool (true))), .sl ((p).l.map enV) .ro, .sl ((p).un.reverse.map lsV) .ro, .sl ((p).re.reverse.map lsV) .ro])), (2, spV s)]) (by rfl) ?_
  simp only [spV_eq s]
  refine wG Y16_Rs k0 ?_
  refine AR.callSP [0, 1, 2] q1 enV_eq (And.intro enV_id (And.intro enL_id (And.intro byL_id (And.intro lsV_id (And.intro lsL_id (And.intro (@tyV_id) (And.intro spV_id spL_id))))))) (And.intro enV_ren (And.intro enL_ren (And.intro byL_ren (And.intro lsV_ren (And.intro lsL_ren (And.intro spV_ren spL_ren)))))) ?_
  refine goG Y16_Rs True.intro ?_
  refine wG Y16_Rs True.intro ?_
  refine AR.callP q2 enV_eq (And.intro enV_id (And.intro enL_id (And.intro byL_id (And.intro lsV_id (And.intro lsL_id (And.intro (@tyV_id) (And.intro spV_id spL_id))))))) ?_
  refine goG Y16_Rs True.intro ?_
  refine wG Y16_Rs True.intro ?_
  refine Fin.gen (rs := [.cell 6 31, .tmp 7]) rfl (by first | exact .inl rfl | exact .inr rfl) (finG Y16_Rs) ?_ rfl (idG (And.intro enV_id (And.intro enL_id (And.intro byL_id (And.intro lsV_id (And.intro lsL_id (And.intro (@tyV_id) (And.intro spV_id spL_id))))))))
  skip
  all_goals exact wkG (And.intro enV_id (And.intro enL_id (And.intro byL_id (And.intro lsV_id (And.intro lsL_id (And.intro (@tyV_id) (And.intro spV_id spL_id)))))))
theorem c_stepRem0 (p : Pr) (s : Sp) (h : AscE p.l) (hl : p.l.length ≤ 1024) (ht : s.e.text.length ≤ 400) (hu : p.un.length ≤ 1000) (k0 : s.kind = 1) (hE : rmErr p.l s.e = 0) : DC Tryz.prog 16 [.pt 0 0, (.ag [(.im (.bool (true))), .sl ((p).l.map enV) .ro, .sl ((p).un.reverse.map lsV) .ro, .sl ((p).re.reverse.map lsV) .ro]), spV s] [.box [(.im (.bool (true))), .sl ((p).l.map enV) .ro, .sl ((p).un.map lsV) (.own 1), .sl ((p).re.map lsV) (.own 2)], .tip 28 1 (p).un.length, .tip 28 1 (p).re.length] (.tu [(.ag [(.im (.bool (true))), .sl ((p.rem s.e).l.map enV) .ro, .sl ((p.rem s.e).un.reverse.map lsV) .ro, .sl ((p.rem s.e).re.reverse.map lsV) .ro]), (.im (.bool (true)))]) [.box [(.im (.bool (true))), .sl ((delE p.l s.e).map enV) .ro, .sl ((clipE (p.un ++ [p.l])).map lsV) .full, .sl [] .nl], .tip 28 1 (p.un.length + 1), .tip 28 1 p.re.length] := by
  have q1 := c_Rem0 p.l p.un p.re s.e h hl (by omega) hE
  have q2 := c_RemR p s.e h hl (by omega)
  rw [hE] at q2
  generalize p.rem s.e = p2 at q2 ⊢
  generalize delE p.l s.e = w at q1 ⊢
  refine DC.enter 124 Tryz.func16 rfl (by decide) rfl rfl (s := [(0, .pt 0 0), (1, (.ag [(.im (.bool (true))), .sl ((p).l.map enV) .ro, .sl ((p).un.reverse.map lsV) .ro, .sl ((p).re.reverse.map lsV) .ro])), (2, spV s)]) (by rfl) ?_
  simp only [spV_eq s]
  refine wG Y16_Rs k0 ?_
  refine AR.callSP [0, 1, 2] q1 enV_eq (And.intro enV_id (And.intro enL_id (And.intro byL_id (And.intro lsV_id (And.intro lsL_id (And.intro (@tyV_id) (And.intro spV_id spL_id))))))) (And.intro enV_ren (And.intro enL_ren (And.intro byL_ren (And.intro lsV_ren (And.intro lsL_ren (And.intro spV_ren spL_ren)))))) ?_
  refine goG Y16_Rs True.intro ?_
  refine wG Y16_Rs True.intro ?_
  refine AR.callP q2 enV_eq (And.intro enV_id (And.intro enL_id (And.intro byL_id (And.intro lsV_id (And.intro lsL_id (And.intro (@tyV_id) (And.intro spV_id spL_id))))))) ?_
  refine goG Y16_Rs True.intro ?_
  refine wG Y16_Rs True.intro ?_
  refine Fin.gen (rs := [.cell 6 31, .tmp 7]) rfl (by first | exact .inl rfl | exact .inr rfl) (finG Y16_Rs) ?_ rfl (idG (And.intro enV_id (And.intro enL_id (And.intro byL_id (And.intro lsV_id (And.intro lsL_id (And.intro (@tyV_id) (And.intro spV_id spL_id))))))))
  skip
  all_goals exact wkG (And.intro enV_id (And.intro enL_id (And.intro byL_id (And.intro lsV_id (And.intro lsL_id (And.intro (@tyV_id) (And.intro spV_id spL_id)))))))
theorem c_stepRem1 (p : Pr) (s : Sp) (h : AscE p.l) (hl : p.l.length ≤ 1024) (ht : s.e.text.length ≤ 400) (hu : p.un.length ≤ 1000) (k0 : s.kind = 1) (hE : rmErr p.l s.e ≠ 0) : DC Tryz.prog 16 [.pt 0 0, (.ag [(.im (.bool (true))), .sl ((p).l.map enV) .ro, .sl ((p).un.reverse.map lsV) .ro, .sl ((p).re.reverse.map lsV) .ro]), spV s] [.box [(.im (.bool (true))), .sl ((p).l.map enV) .ro, .sl ((p).un.map lsV) (.own 1), .sl ((p).re.map lsV) (.own 2)], .tip 28 1 (p).un.length, .tip 28 1 (p).re.length] (.tu [(.ag [(.im (.bool (true))), .sl ((p).l.map enV) .ro, .sl ((p).un.reverse.map lsV) .ro, .sl ((p).re.reverse.map lsV) .ro]), (.im (.bool (true)))]) [.box [(.im (.bool (true))), .sl ((p).l.map enV) .ro, .sl ((p).un.map lsV) (.own 1), .sl ((p).re.map lsV) (.own 2)], .tip 28 1 (p).un.length, .tip 28 1 (p).re.length] := by
  have q1 := c_Rem1 p.l p.un p.re s.e h hl hE
  have q2 := c_RemR p s.e h hl (by omega)
  rw [show p.rem s.e = p from if_neg hE] at q2
  generalize rmErr p.l s.e = ee at q1 q2 hE
  refine DC.enter 124 Tryz.func16 rfl (by decide) rfl rfl (s := [(0, .pt 0 0), (1, (.ag [(.im (.bool (true))), .sl ((p).l.map enV) .ro, .sl ((p).un.reverse.map lsV) .ro, .sl ((p).re.reverse.map lsV) .ro])), (2, spV s)]) (by rfl) ?_
  simp only [spV_eq s]
  refine wG Y16_Rs k0 ?_
  refine AR.callSP [0, 1, 2] q1 enV_eq (And.intro enV_id (And.intro enL_id (And.intro byL_id (And.intro lsV_id (And.intro lsL_id (And.intro (@tyV_id) (And.intro spV_id spL_id))))))) (And.intro enV_ren (And.intro enL_ren (And.intro byL_ren (And.intro lsV_ren (And.intro lsL_ren (And.intro spV_ren spL_ren)))))) ?_
  refine goG Y16_Rs True.intro ?_
  refine wG Y16_Rs True.intro ?_
  refine AR.callP q2 enV_eq (And.intro enV_id (And.intro enL_id (And.intro byL_id (And.intro lsV_id (And.intro lsL_id (And.intro (@tyV_id) (And.intro spV_id spL_id))))))) ?_
  refine goG Y16_Rs True.intro ?_
  refine wG Y16_Rs True.intro ?_
  refine Fin.gen (rs := [.cell 6 31, .tmp 7]) rfl (by first | exact .inl rfl | exact .inr rfl) (finG Y16_Rs) ?_ rfl (idG (And.intro enV_id (And.intro enL_id (And.intro byL_id (And.intro lsV_id (And.intro lsL_id (And.intro (@tyV_id) (And.intro spV_id spL_id))))))))
  skip
  all_goals exact wkG (And.intro enV_id (And.intro enL_id (And.intro byL_id (And.intro lsV_id (And.intro lsL_id (And.intro (@tyV_id) (And.intro spV_id spL_id)))))))
theorem c_stepUndo0 (L x : List En) (un re : List (List En)) (s : Sp) (hu : un.length ≤ 1000) (hr : re.length ≤ 1000) (k0 : s.kind = 2) : DC Tryz.prog 16 [.pt 0 0, (.ag [(.im (.bool (true))), .sl (((⟨L, un ++ [x], re⟩ : Pr)).l.map enV) .ro, .sl (((⟨L, un ++ [x], re⟩ : Pr)).un.reverse.map lsV) .ro, .sl (((⟨L, un ++ [x], re⟩ : Pr)).re.reverse.map lsV) .ro]), spV s] [.box [(.im (.bool (true))), .sl (((⟨L, un ++ [x], re⟩ : Pr)).l.map enV) .ro, .sl (((⟨L, un ++ [x], re⟩ : Pr)).un.map lsV) (.own 1), .sl (((⟨L, un ++ [x], re⟩ : Pr)).re.map lsV) (.own 2)], .tip 28 1 ((⟨L, un ++ [x], re⟩ : Pr)).un.length, .tip 28 1 ((⟨L, un ++ [x], re⟩ : Pr)).re.length] (.tu [(.ag [(.im (.bool (true))), .sl (((⟨x, un, re ++ [L]⟩ : Pr)).l.map enV) .ro, .sl (((⟨x, un, re ++ [L]⟩ : Pr)).un.reverse.map lsV) .ro, .sl (((⟨x, un, re ++ [L]⟩ : Pr)).re.reverse.map lsV) .ro]), (.im (.bool (true)))]) [.box [(.im (.bool (true))), .sl (x.map enV) .ro, .sl (un.map lsV) .full, .sl ((re ++ [L]).map lsV) (.own 2)], .tip 28 1 (un ++ [x]).length, .tip 28 1 (re ++ [L]).length] := by
  have q1 := c_Undo0 L x un re (by omega) (by omega)
  have q2 := c_UndoR0 L x un re (by omega) (by omega)
  dsimp only at q1 q2 ⊢
  generalize un ++ [x] = T at q1 q2 ⊢
  generalize re ++ [L] = D at q1 q2 ⊢
  refine DC.enter 124 Tryz.func16 rfl (by decide) rfl rfl (s := [(0, .pt 0 0), (1, .ag [(.im (.bool (true))), .sl (L.map enV) .ro, .sl (T.reverse.map lsV) .ro, .sl (re.reverse.map lsV) .ro]), (2, spV s)]) (by rfl) ?_
  simp only [spV_eq s]
  refine wG Y16_Rs k0 ?_
  refine AR.callSP [0, 1, 2] q1 enV_eq (And.intro enV_id (And.intro enL_id (And.intro byL_id (And.intro lsV_id (And.intro lsL_id (And.intro (@tyV_id) (And.intro spV_id spL_id))))))) (And.intro enV_ren (And.intro enL_ren (And.intro byL_ren (And.intro lsV_ren (And.intro lsL_ren (And.intro spV_ren spL_ren)))))) ?_
  refine goG Y16_Rs True.intro ?_
  refine wG Y16_Rs True.intro ?_
  refine AR.callP q2 enV_eq (And.intro enV_id (And.intro enL_id (And.intro byL_id (And.intro lsV_id (And.intro lsL_id (And.intro (@tyV_id) (And.intro spV_id spL_id))))))) ?_
  refine goG Y16_Rs True.intro ?_
  refine wG Y16_Rs True.intro ?_
  refine Fin.gen (rs := [.cell 6 31, .tmp 7]) rfl (by first | exact .inl rfl | exact .inr rfl) (finG Y16_Rs) ?_ rfl (idG (And.intro enV_id (And.intro enL_id (And.intro byL_id (And.intro lsV_id (And.intro lsL_id (And.intro (@tyV_id) (And.intro spV_id spL_id))))))))
  skip
  all_goals exact wkG (And.intro enV_id (And.intro enL_id (And.intro byL_id (And.intro lsV_id (And.intro lsL_id (And.intro (@tyV_id) (And.intro spV_id spL_id)))))))
theorem c_stepUndo1 (L : List En) (re : List (List En)) (s : Sp) (k0 : s.kind = 2) : DC Tryz.prog 16 [.pt 0 0, (.ag [(.im (.bool (true))), .sl (((⟨L, [], re⟩ : Pr)).l.map enV) .ro, .sl (((⟨L, [], re⟩ : Pr)).un.reverse.map lsV) .ro, .sl (((⟨L, [], re⟩ : Pr)).re.reverse.map lsV) .ro]), spV s] [.box [(.im (.bool (true))), .sl (((⟨L, [], re⟩ : Pr)).l.map enV) .ro, .sl (((⟨L, [], re⟩ : Pr)).un.map lsV) (.own 1), .sl (((⟨L, [], re⟩ : Pr)).re.map lsV) (.own 2)], .tip 28 1 ((⟨L, [], re⟩ : Pr)).un.length, .tip 28 1 ((⟨L, [], re⟩ : Pr)).re.length] (.tu [(.ag [(.im (.bool (true))), .sl (((⟨L, [], re⟩ : Pr)).l.map enV) .ro, .sl (((⟨L, [], re⟩ : Pr)).un.reverse.map lsV) .ro, .sl (((⟨L, [], re⟩ : Pr)).re.reverse.map lsV) .ro]), (.im (.bool (true)))]) [.box [(.im (.bool (true))), .sl (((⟨L, [], re⟩ : Pr)).l.map enV) .ro, .sl (((⟨L, [], re⟩ : Pr)).un.map lsV) (.own 1), .sl (((⟨L, [], re⟩ : Pr)).re.map lsV) (.own 2)], .tip 28 1 ((⟨L, [], re⟩ : Pr)).un.length, .tip 28 1 ((⟨L, [], re⟩ : Pr)).re.length] := by
  have q1 := c_Undo1 L re
  have q2 := c_UndoR1 L re
  dsimp only at q2 ⊢
  rw [List.map_nil]
  rw [List.reverse_nil, List.map_nil] at q2 ⊢
  refine DC.enter 124 Tryz.func16 rfl (by decide) rfl rfl (s := [(0, .pt 0 0), (1, .ag [(.im (.bool (true))), .sl (L.map enV) .ro, .sl [] .ro, .sl (re.reverse.map lsV) .ro]), (2, spV s)]) (by rfl) ?_
  simp only [spV_eq s]
  refine wG Y16_Rs k0 ?_
  refine AR.callSP [0, 1, 2] q1 enV_eq (And.intro enV_id (And.intro enL_id (And.intro byL_id (And.intro lsV_id (And.intro lsL_id (And.intro (@tyV_id) (And.intro spV_id spL_id))))))) (And.intro enV_ren (And.intro enL_ren (And.intro byL_ren (And.intro lsV_ren (And.intro lsL_ren (And.intro spV_ren spL_ren)))))) ?_
  refine goG Y16_Rs True.intro ?_
  refine wG Y16_Rs True.intro ?_
  refine AR.callP q2 enV_eq (And.intro enV_id (And.intro enL_id (And.intro byL_id (And.intro lsV_id (And.intro lsL_id (And.intro (@tyV_id) (And.intro spV_id spL_id))))))) ?_
  refine goG Y16_Rs True.intro ?_
  refine wG Y16_Rs True.intro ?_
  refine Fin.gen (rs := [.cell 6 31, .tmp 7]) rfl (by first | exact .inl rfl | exact .inr rfl) (finG Y16_Rs) ?_ rfl (idG (And.intro enV_id (And.intro enL_id (And.intro byL_id (And.intro lsV_id (And.intro lsL_id (And.intro (@tyV_id) (And.intro spV_id spL_id))))))))
  skip
  all_goals exact wkG (And.intro enV_id (And.intro enL_id (And.intro byL_id (And.intro lsV_id (And.intro lsL_id (And.intro (@tyV_id) (And.intro spV_id spL_id)))))))
theorem c_stepRedo0 (L x : List En) (un re : List (List En)) (s : Sp) (hu : un.length ≤ 1000) (hr : re.length ≤ 1000) (k0 : s.kind = 3) : DC Tryz.prog 16 [.pt 0 0, (.ag [(.im (.bool (true))), .sl (((⟨L, un, re ++ [x]⟩ : Pr)).l.map enV) .ro, .sl (((⟨L, un, re ++ [x]⟩ : Pr)).un.reverse.map lsV) .ro, .sl (((⟨L, un, re ++ [x]⟩ : Pr)).re.reverse.map lsV) .ro]), spV s] [.box [(.im (.bool (true))), .sl (((⟨L, un, re ++ [x]⟩ : Pr)).l.map enV) .ro, .sl (((⟨L, un, re ++ [x]⟩ : Pr)).un.map lsV) (.own 1), .sl (((⟨L, un, re ++ [x]⟩ : Pr)).re.map lsV) (.own 2)], .tip 28 1 ((⟨L, un, re ++ [x]⟩ : Pr)).un.length, .tip 28 1 ((⟨L, un, re ++ [x]⟩ : Pr)).re.length] (.tu [(.ag [(.im (.bool (true))), .sl (((⟨x, un ++ [L], re⟩ : Pr)).l.map enV) .ro, .sl (((⟨x, un ++ [L], re⟩ : Pr)).un.reverse.map lsV) .ro, .sl (((⟨x, un ++ [L], re⟩ : Pr)).re.reverse.map lsV) .ro]), (.im (.bool (true)))]) [.box [(.im (.bool (true))), .sl (x.map enV) .ro, .sl ((un ++ [L]).map lsV) (.own 1), .sl (re.map lsV) .full], .tip 28 1 (un ++ [L]).length, .tip 28 1 (re ++ [x]).length] := by
  have q1 := c_Redo0 L x un re (by omega) (by omega)
  have q2 := c_RedoR0 L x un re (by omega) (by omega)
  dsimp only at q1 q2 ⊢
  generalize re ++ [x] = T at q1 q2 ⊢
  generalize un ++ [L] = D at q1 q2 ⊢
  refine DC.enter 124 Tryz.func16 rfl (by decide) rfl rfl (s := [(0, .pt 0 0), (1, .ag [(.im (.bool (true))), .sl (L.map enV) .ro, .sl (un.reverse.map lsV) .ro, .sl (T.reverse.map lsV) .ro]), (2, spV s)]) (by rfl) ?_
  simp only [spV_eq s]
  refine wG Y16_Rs k0 ?_
  refine AR.callSP [0, 1, 2] q1 enV_eq (And.intro enV_id (And.intro enL_id (And.intro byL_id (And.intro lsV_id (And.intro lsL_id (And.intro (@tyV_id) (And.intro spV_id spL_id))))))) (And.intro enV_ren (And.intro enL_ren (And.intro byL_ren (And.intro lsV_ren (And.intro lsL_ren (And.intro spV_ren spL_ren)))))) ?_
  refine goG Y16_Rs True.intro ?_
  refine wG Y16_Rs True.intro ?_
  refine AR.callP q2 enV_eq (And.intro enV_id (And.intro enL_id (And.intro byL_id (And.intro lsV_id (And.intro lsL_id (And.intro (@tyV_id) (And.intro spV_id spL_id))))))) ?_
  refine goG Y16_Rs True.intro ?_
  refine wG Y16_Rs True.intro ?_
  refine Fin.gen (rs := [.cell 6 31, .tmp 7]) rfl (by first | exact .inl rfl | exact .inr rfl) (finG Y16_Rs) ?_ rfl (idG (And.intro enV_id (And.intro enL_id (And.intro byL_id (And.intro lsV_id (And.intro lsL_id (And.intro (@tyV_id) (And.intro spV_id spL_id))))))))
  skip
  all_goals exact wkG (And.intro enV_id (And.intro enL_id (And.intro byL_id (And.intro lsV_id (And.intro lsL_id (And.intro (@tyV_id) (And.intro spV_id spL_id)))))))
theorem c_stepRedo1 (L : List En) (un : List (List En)) (s : Sp) (k0 : s.kind = 3) : DC Tryz.prog 16 [.pt 0 0, (.ag [(.im (.bool (true))), .sl (((⟨L, un, []⟩ : Pr)).l.map enV) .ro, .sl (((⟨L, un, []⟩ : Pr)).un.reverse.map lsV) .ro, .sl (((⟨L, un, []⟩ : Pr)).re.reverse.map lsV) .ro]), spV s] [.box [(.im (.bool (true))), .sl (((⟨L, un, []⟩ : Pr)).l.map enV) .ro, .sl (((⟨L, un, []⟩ : Pr)).un.map lsV) (.own 1), .sl (((⟨L, un, []⟩ : Pr)).re.map lsV) (.own 2)], .tip 28 1 ((⟨L, un, []⟩ : Pr)).un.length, .tip 28 1 ((⟨L, un, []⟩ : Pr)).re.length] (.tu [(.ag [(.im (.bool (true))), .sl (((⟨L, un, []⟩ : Pr)).l.map enV) .ro, .sl (((⟨L, un, []⟩ : Pr)).un.reverse.map lsV) .ro, .sl (((⟨L, un, []⟩ : Pr)).re.reverse.map lsV) .ro]), (.im (.bool (true)))]) [.box [(.im (.bool (true))), .sl (((⟨L, un, []⟩ : Pr)).l.map enV) .ro, .sl (((⟨L, un, []⟩ : Pr)).un.map lsV) (.own 1), .sl (((⟨L, un, []⟩ : Pr)).re.map lsV) (.own 2)], .tip 28 1 ((⟨L, un, []⟩ : Pr)).un.length, .tip 28 1 ((⟨L, un, []⟩ : Pr)).re.length] := by
  have q1 := c_Redo1 L un
  have q2 := c_RedoR1 L un
  dsimp only at q2 ⊢
  rw [List.map_nil]
  rw [List.reverse_nil, List.map_nil] at q2 ⊢
  refine DC.enter 124 Tryz.func16 rfl (by decide) rfl rfl (s := [(0, .pt 0 0), (1, .ag [(.im (.bool (true))), .sl (L.map enV) .ro, .sl (un.reverse.map lsV) .ro, .sl [] .ro]), (2, spV s)]) (by rfl) ?_
  simp only [spV_eq s]
  refine wG Y16_Rs k0 ?_
  refine AR.callSP [0, 1, 2] q1 enV_eq (And.intro enV_id (And.intro enL_id (And.intro byL_id (And.intro lsV_id (And.intro lsL_id (And.intro (@tyV_id) (And.intro spV_id spL_id))))))) (And.intro enV_ren (And.intro enL_ren (And.intro byL_ren (And.intro lsV_ren (And.intro lsL_ren (And.intro spV_ren spL_ren)))))) ?_
  refine goG Y16_Rs True.intro ?_
  refine wG Y16_Rs True.intro ?_
  refine AR.callP q2 enV_eq (And.intro enV_id (And.intro enL_id (And.intro byL_id (And.intro lsV_id (And.intro lsL_id (And.intro (@tyV_id) (And.intro spV_id spL_id))))))) ?_
  refine goG Y16_Rs True.intro ?_
  refine wG Y16_Rs True.intro ?_
  refine Fin.gen (rs := [.cell 6 31, .tmp 7]) rfl (by first | exact .inl rfl | exact .inr rfl) (finG Y16_Rs) ?_ rfl (idG (And.intro enV_id (And.intro enL_id (And.intro byL_id (And.intro lsV_id (And.intro lsL_id (And.intro (@tyV_id) (And.intro spV_id spL_id))))))))
  skip
  all_goals exact wkG (And.intro enV_id (And.intro enL_id (And.intro byL_id (And.intro lsV_id (And.intro lsL_id (And.intro (@tyV_id) (And.intro spV_id spL_id)))))))
end Go.Proofs.YtianekkfehoedaaGreatDoor
