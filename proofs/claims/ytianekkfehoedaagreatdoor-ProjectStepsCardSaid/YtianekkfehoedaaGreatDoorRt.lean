/- Walks of the laws: a step that merges; the law ProjectSteps. -/
import Derived.Test.YtianekkfehoedaaGreatDoorHv
import Derived.Test.YtianekkfehoedaaGreatDoorRs
import Derived.Test.YtianekkfehoedaaGreatDoorK9
namespace Go.Proofs.YtianekkfehoedaaGreatDoor
set_option linter.unusedSimpArgs false
set_option linter.unusedVariables false
set_option linter.unnecessarySimpa false
open Go.RowKit
theorem otP_fine : ∀ {l : List En} {p : Pr}, Gd p.l → p.re = [] → (∀ e ∈ l, adrB e) → Gd (otP p l).l ∧ (otP p l).re = []
  | [], p, h, hr, _ => ⟨h, hr⟩
  | e :: l, p, h, hr, ha => by
    obtain ⟨_, _, _, f4⟩ := put_fine e h.asc h.len
    refine otP_fine (l := l) (p := p.put e) ?_ (f4 hr) fun x hx => ha x (by simp [hx])
    unfold Pr.put Pr.chg
    by_cases hE : eErr p.l e = 0
    · rw [if_pos hE]; exact h.with_ hE (ha e (by simp))
    · rw [if_neg hE]; exact h
theorem mgR_len {L : List En} : ∀ {O next : List En}, (mgE L next O).2.length ≤ O.length
  | [], next => Nat.le_refl _
  | e :: O, next => by
    rw [mgE_cons]
    by_cases hh : hasE L e = true
    · rw [if_pos hh]
      by_cases hp : L[posE L e]? = some e
      · rw [if_pos hp]; exact Nat.le_succ_of_le mgR_len
      · rw [if_neg hp]; exact Nat.succ_le_succ mgR_len
    · rw [if_neg hh]
      by_cases hE : eErr next e = 0
      · rw [if_pos hE]; exact Nat.le_succ_of_le mgR_len
      · rw [if_neg hE]; exact Nat.succ_le_succ mgR_len
theorem Y16_Rt : type_of% (And.intro @F_ag_28 (And.intro @F_ag_3 (And.intro @F_ag_31 (And.intro @F_ag_46 (And.intro @F_al_31 (And.intro @F_fl_31_1 (And.intro @F_fl_48_0 (And.intro @F_fl_48_1 (And.intro @F_fl_48_2 (And.intro @F_sz_28 (And.intro @F_sz_3 (And.intro @F_sz_31 (And.intro @F_sz_46 (@F_un_4)))))))))))))) := And.intro @F_ag_28 (And.intro @F_ag_3 (And.intro @F_ag_31 (And.intro @F_ag_46 (And.intro @F_al_31 (And.intro @F_fl_31_1 (And.intro @F_fl_48_0 (And.intro @F_fl_48_1 (And.intro @F_fl_48_2 (And.intro @F_sz_28 (And.intro @F_sz_3 (And.intro @F_sz_31 (And.intro @F_sz_46 (@F_un_4)))))))))))))
set_option maxHeartbeats 2000000 in
theorem c_stepM (p : Pr) (s : Sp) (h : AscE p.l) (hl : p.l.length ≤ 1024) (hu : p.un.length ≤ 1000) (ho : s.l.length ≤ 10) (hot : ∀ e ∈ s.l, e.text.length ≤ 400) (hoa : ∀ e ∈ s.l, adrB e) (k0 : ¬ s.kind = 0) (k1 : ¬ s.kind = 1) (k2 : ¬ s.kind = 2) (k3 : ¬ s.kind = 3) :
    DC Tryz.prog 16 [.pt 0 0, (.ag [(.im (.bool (true))), .sl ((p).l.map enV) .ro, .sl ((p).un.reverse.map lsV) .ro, .sl ((p).re.reverse.map lsV) .ro]), spV s] [.box [(.im (.bool (true))), .sl ((p).l.map enV) .ro, .sl ((p).un.map lsV) (.own 1), .sl ((p).re.map lsV) (.own 2)], .tip 28 1 (p).un.length, .tip 28 1 (p).re.length] (.tu [(.ag [(.im (.bool (true))), .sl ((p.chg (mgE p.l p.l (otP pz s.l).l).1).l.map enV) .ro, .sl ((p.chg (mgE p.l p.l (otP pz s.l).l).1).un.reverse.map lsV) .ro, .sl ((p.chg (mgE p.l p.l (otP pz s.l).l).1).re.reverse.map lsV) .ro]), (.im (.bool (true)))]) [.box [(.im (.bool (true))), .sl (((mgE p.l p.l (otP pz s.l).l).1).map enV) .ro, .sl ((clipE (p.un ++ [p.l])).map lsV) .full, .sl [] .nl], .tip 28 1 (p.un.length + 1), .tip 28 1 p.re.length] := by
  have q1 := c_other s.l ho hot
  obtain ⟨g1, g2⟩ := otP_fine (l := s.l) (p := pz) Gd.nil rfl hoa
  generalize otP pz s.l = o at q1 g1 g2 ⊢
  have hto : ∀ e ∈ o.l, e.text.length ≤ 65535 := fun e he => by have := vtextB_bd (g1.txt e he); omega
  have q2 := c_MergeA p.l o.l p.un p.re o.un [] h hl g1.len hto (by omega)
  have q3 := c_MergeR p o h hl g1.len hto (by omega)
  have q5 := c_AllR o.l o.un [] g1.len
  have q6 := c_SameR o.l (by have := g1.len; omega)
  have hrl := mgR_len (L := p.l) (O := o.l) (next := p.l)
  have q4 := c_SameR (mgE p.l p.l o.l).2 (by have := g1.len; omega)
  rw [List.map_nil] at q2 q5
  generalize p.chg (mgE p.l p.l o.l).1 = p2 at q3 ⊢
  generalize (mgE p.l p.l o.l).1 = M at q2 ⊢
  generalize (mgE p.l p.l o.l).2 = bad at q2 q3 q4
  refine DC.enter 124 Tryz.func16 rfl (by decide) rfl rfl (s := [(0, .pt 0 0), (1, (.ag [(.im (.bool (true))), .sl ((p).l.map enV) .ro, .sl ((p).un.reverse.map lsV) .ro, .sl ((p).re.reverse.map lsV) .ro])), (2, spV s)]) (by rfl) ?_
  simp only [spV_eq s]
  refine wG Y16_Rt (And.intro k0 (And.intro k1 (And.intro k2 k3))) ?_
  refine AR.callSP [6, 7] q1 True.intro (And.intro enV_id (And.intro enL_id (And.intro byL_id (And.intro lsV_id (And.intro lsL_id (And.intro (@tyV_id) (And.intro spV_id spL_id))))))) (And.intro enV_ren (And.intro enL_ren (And.intro byL_ren (And.intro lsV_ren (And.intro lsL_ren (And.intro spV_ren spL_ren)))))) ?_
  refine goG Y16_Rt True.intro ?_
  refine AR.end ?_
  refine Thn.n ?_
  refine AWp.frz 9 [(0, .pt 0 0), (4, .pt 3 0), (5, .pt 4 0), (6, .pt 5 0), (20, .pt 7 0), (21, .pt 8 0)] [.box [(.im (.bool (true))), .sl ((p).l.map enV) .ro, .sl ((p).un.map lsV) (.own 1), .sl ((p).re.map lsV) (.own 2)], .tip 28 1 (p).un.length, .tip 28 1 (p).re.length, .box [(.im (.bool (true))), .sl ((p).l.map enV) .ro, .sl ((p).un.reverse.map lsV) .ro, .sl ((p).re.reverse.map lsV) .ro], .box [(.im (.int .i64 (s.kind))), (.im (.int .i64 (s.e.kind))), (.im (.int .i64 (s.e.var))), (.im (.int .u32 (s.e.addr))), (.im (.string (bA (s.e.text)))), .sl (s.l.map enV) .ro], .box [(.im (.bool (false))), .sl [] .nl, .sl [] .nl, .sl [] .nl], .box [(.im (.bool (true))), .sl ((o).l.map enV) .ro, .sl ((o).un.reverse.map lsV) .ro, .sl ((o).re.reverse.map lsV) .ro], .box [(.im (.bool (true))), .sl (o.l.map enV) .ro, .sl (o.un.map lsV) .ro, .sl [] .ro], .box [(.im (.bool (true))), .sl ((o).l.map enV) .ro, .sl ((o).un.reverse.map lsV) .ro, .sl ((o).re.reverse.map lsV) .ro]] ?_ (by simp) (by repeat (first | exact WkFA.nil | refine WkFA.cons (by first | exact .of (Wk.refl _) (by first | rfl | simp only [List.length_cons, List.length_nil, Nat.reduceAdd, V.ids, V.idsL, idsA, entOk, List.all_cons, List.all_nil, Bool.and_self, Bool.and_true, Bool.true_and, ltB, noId, Nat.reduceLT, decide_true, Bool.true_eq_false, tyV_id, fdV_id, tyL_id, fdL_id, enV_id, enL_id, byL_id, lsV_id, lsL_id, tyV_id, spV_id, spL_id]) | exact .of (Wk.ro _ _) (by simp [V.ids, V.idsL, lsL_id])) ?_)) (by repeat (first | exact WkFE.nil | refine WkFE.box (by repeat (first | exact WkFL.nil | refine WkFL.cons (by first | exact .of (Wk.refl _) (by first | rfl | simp only [List.length_cons, List.length_nil, Nat.reduceAdd, V.ids, V.idsL, idsA, entOk, List.all_cons, List.all_nil, Bool.and_self, Bool.and_true, Bool.true_and, ltB, noId, Nat.reduceLT, decide_true, Bool.true_eq_false, tyV_id, fdV_id, tyL_id, fdL_id, enV_id, enL_id, byL_id, lsV_id, lsL_id, tyV_id, spV_id, spL_id]) | exact .of (Wk.ro _ _) (by simp [V.ids, V.idsL, lsL_id])) ?_)) ?_ | refine WkFE.same (fun _ e => by cases e) ?_)) (fun i hi => by first | exact absurd rfl hi | exact Nat.lt_of_lt_of_le (ofl_lt hi) (by simp))
  refine wG Y16_Rt True.intro ?_
  refine AR.callS [0, 1, 2, 7] q2 rfl rfl (by first | (simp only [SR, enV_ren, enL_ren, byL_ren, lsV_ren, lsL_ren, spV_ren, spL_ren]; done) | (simp only [SR, enV_ren, enL_ren, byL_ren, lsV_ren, lsL_ren, spV_ren, spL_ren]; with_reducible exact rfl)) (by first | (simp only [SR, enV_ren, enL_ren, byL_ren, lsV_ren, lsL_ren, spV_ren, spL_ren]; done) | (simp only [SR, enV_ren, enL_ren, byL_ren, lsV_ren, lsL_ren, spV_ren, spL_ren]; with_reducible exact rfl)) (WkL.of_eq (by simp only [St.ev, V.ofVal, V.ofCell, V.size_im, getD_dn, look_cons, look_nil, Nat.reduceLT, Nat.reduceEqDiff, reduceIte, if_true, if_false, List.map_cons, List.map_nil, List.nil_append, List.cons_append, List.append_nil])) (by first | rfl | simp only [List.length_cons, List.length_nil, Nat.reduceAdd, V.ids, V.idsL, idsA, entOk, List.all_cons, List.all_nil, Bool.and_self, Bool.and_true, Bool.true_and, ltB, noId, Nat.reduceLT, decide_true, Bool.true_eq_false, tyV_id, fdV_id, tyL_id, fdL_id, enV_id, enL_id, byL_id, lsV_id, lsL_id, tyV_id, spV_id, spL_id]) rfl rfl rfl (by first | rfl | simp only [List.length_cons, List.length_nil, Nat.reduceAdd, V.ids, V.idsL, idsA, entOk, List.all_cons, List.all_nil, Bool.and_self, Bool.and_true, Bool.true_and, ltB, noId, Nat.reduceLT, decide_true, Bool.true_eq_false, tyV_id, fdV_id, tyL_id, fdL_id, enV_id, enL_id, byL_id, lsV_id, lsL_id, tyV_id, spV_id, spL_id]) (by intro p hp; simp only [renE, SR, Ent.ren, List.mem_cons, List.not_mem_nil, or_false, enV_ren, enL_ren, byL_ren, lsV_ren, lsL_ren, spV_ren, spL_ren] at hp; rcases hp with rfl | rfl | rfl | rfl <;> rfl) (by simp only [renE, Ent.ren, SR, enV_ren, enL_ren, byL_ren, lsV_ren, lsL_ren, spV_ren, spL_ren, wrl, putE, SC, SD, Nat.reduceBEq, Nat.reduceLT, Nat.reduceSub, Nat.reduceAdd, Nat.reduceMul, Nat.reduceLeDiff, Nat.reduceEqDiff, reduceCtorEq, Int.reduceLT, Int.reduceLE, Int.reduceEq, Int.reduceNe, Int.reduceBEq, Int.reduceBNe, Int.reduceAdd, Int.reduceSub, Int.reduceMul, Int.reduceToNat]; with_reducible exact rfl) ?_
  refine goG Y16_Rt True.intro ?_
  refine wG Y16_Rt True.intro ?_
  refine AR.callP q3 True.intro (And.intro enV_id (And.intro enL_id (And.intro byL_id (And.intro lsV_id (And.intro lsL_id (And.intro (@tyV_id) (And.intro spV_id spL_id))))))) ?_
  refine goG Y16_Rt True.intro ?_
  refine wdG Y16_Rt True.intro ?_
  refine AR.callP q4 True.intro (And.intro enV_id (And.intro enL_id (And.intro byL_id (And.intro lsV_id (And.intro lsL_id (And.intro (@tyV_id) (And.intro spV_id spL_id))))))) ?_
  refine goG Y16_Rt True.intro ?_
  refine AR.callQP [7] q5 True.intro (And.intro enV_id (And.intro enL_id (And.intro byL_id (And.intro lsV_id (And.intro lsL_id (And.intro (@tyV_id) (And.intro spV_id spL_id))))))) (And.intro enV_ren (And.intro enL_ren (And.intro byL_ren (And.intro lsV_ren (And.intro lsL_ren (And.intro spV_ren spL_ren)))))) ?_
  refine goG Y16_Rt True.intro ?_
  refine AR.callP q6 True.intro (And.intro enV_id (And.intro enL_id (And.intro byL_id (And.intro lsV_id (And.intro lsL_id (And.intro (@tyV_id) (And.intro spV_id spL_id))))))) ?_
  refine goG Y16_Rt True.intro ?_
  refine wdG Y16_Rt True.intro ?_
  refine Fin.gen (rs := [.cell 6 31, .tmp 7]) rfl (by first | exact .inl rfl | exact .inr rfl) (finG Y16_Rt) ?_ rfl (idG (And.intro enV_id (And.intro enL_id (And.intro byL_id (And.intro lsV_id (And.intro lsL_id (And.intro (@tyV_id) (And.intro spV_id spL_id))))))))
  skip
  all_goals exact wkG (And.intro enV_id (And.intro enL_id (And.intro byL_id (And.intro lsV_id (And.intro lsL_id (And.intro (@tyV_id) (And.intro spV_id spL_id)))))))
theorem Y4_Rt : type_of% (And.intro @F_ag_28 (And.intro @F_ag_3 (And.intro @F_ag_31 (And.intro @F_ag_44 (And.intro @F_ag_46 (And.intro @F_ag_48 (And.intro @F_al_31 (And.intro @F_al_46 (And.intro @F_el_22 (And.intro @F_el_38 (And.intro @F_fl_31_1 (And.intro @F_fl_46_0 (And.intro @F_fl_46_1 (And.intro @F_fl_46_2 (And.intro @F_fl_48_1 (And.intro @F_in_22 (And.intro @F_in_9 (And.intro @F_sz_28 (And.intro @F_sz_3 (And.intro @F_sz_31 (And.intro @F_sz_44 (And.intro @F_sz_46 (And.intro @F_sz_48 (And.intro @F_un_22 (And.intro @F_un_4 (And.intro @F_un_5 (@F_un_9))))))))))))))))))))))))))) := And.intro @F_ag_28 (And.intro @F_ag_3 (And.intro @F_ag_31 (And.intro @F_ag_44 (And.intro @F_ag_46 (And.intro @F_ag_48 (And.intro @F_al_31 (And.intro @F_al_46 (And.intro @F_el_22 (And.intro @F_el_38 (And.intro @F_fl_31_1 (And.intro @F_fl_46_0 (And.intro @F_fl_46_1 (And.intro @F_fl_46_2 (And.intro @F_fl_48_1 (And.intro @F_in_22 (And.intro @F_in_9 (And.intro @F_sz_28 (And.intro @F_sz_3 (And.intro @F_sz_31 (And.intro @F_sz_44 (And.intro @F_sz_46 (And.intro @F_sz_48 (And.intro @F_un_22 (And.intro @F_un_4 (And.intro @F_un_5 (@F_un_9))))))))))))))))))))))))))
structure SI (q : Pr) (n : Nat) : Prop where
  gd : Gd q.l
  gu : ∀ x ∈ q.un, Gd x
  gr : ∀ x ∈ q.re, Gd x
  ul : q.un.length ≤ n
  rl : q.re.length ≤ n
theorem SI.up {q : Pr} {n : Nat} (h : SI q n) : SI q (n + 1) := ⟨h.gd, h.gu, h.gr, Nat.le_succ_of_le h.ul, Nat.le_succ_of_le h.rl⟩
theorem SI.chg {q : Pr} {n : Nat} (h : SI q n) {w : List En} (hw : Gd w) : SI (q.chg w) (n + 1) := by
  have hcl := clip_le2 (q.un ++ [q.l])
  rw [List.length_append, List.length_cons, List.length_nil] at hcl
  have hul := h.ul
  have h1 : (q.chg w).l = w := by unfold Pr.chg; dsimp only
  have h2 := chg_un q w
  have h3 : (q.chg w).re = [] := by unfold Pr.chg; dsimp only
  refine ⟨h1 ▸ hw, fun x hx => ?_, fun x hx => ?_, ?_, ?_⟩
  · rw [h2] at hx
    have hx := List.mem_of_mem_drop hx
    rcases List.mem_append.1 hx with hx | hx
    · exact h.gu x hx
    · obtain rfl := List.mem_singleton.1 hx; exact h.gd
  · rw [h3] at hx; cases hx
  · rw [h2]; omega
  · rw [h3]; simp
theorem SI.undo {L x : List En} {un re : List (List En)} {n : Nat} (h : SI ⟨L, un ++ [x], re⟩ n) : SI ⟨x, un, re ++ [L]⟩ (n + 1) := by
  obtain ⟨h1, h2, h3, h4, h5⟩ := h
  dsimp only at h1 h2 h3 h4 h5
  rw [List.length_append, List.length_cons, List.length_nil] at h4
  refine ⟨h2 x (by simp), fun y hy => h2 y (by simp at hy ⊢; exact .inl hy), fun y hy => ?_, by dsimp only; omega, by dsimp only; rw [List.length_append, List.length_cons, List.length_nil]; omega⟩
  rcases List.mem_append.1 hy with hy | hy
  · exact h3 y hy
  · obtain rfl := List.mem_singleton.1 hy; exact h1
theorem SI.redo {L x : List En} {un re : List (List En)} {n : Nat} (h : SI ⟨L, un, re ++ [x]⟩ n) : SI ⟨x, un ++ [L], re⟩ (n + 1) := by
  obtain ⟨h1, h2, h3, h4, h5⟩ := h
  dsimp only at h1 h2 h3 h4 h5
  rw [List.length_append, List.length_cons, List.length_nil] at h5
  refine ⟨h3 x (by simp), fun y hy => ?_, fun y hy => h3 y (by simp at hy ⊢; exact .inl hy), by dsimp only; rw [List.length_append, List.length_cons, List.length_nil]; omega, by dsimp only; omega⟩
  rcases List.mem_append.1 hy with hy | hy
  · exact h2 y hy
  · obtain rfl := List.mem_singleton.1 hy; exact h1
theorem snoc_cases {α : Type} (l : List α) : l = [] ∨ ∃ l' x, l = l' ++ [x] := by
  rcases List.eq_nil_or_concat l with h | ⟨a, b, h⟩
  · exact .inl h
  · exact .inr ⟨a, b, by rw [h, List.concat_eq_append]⟩
/-- What the law asks of its steps. -/
structure LS (l : List Sp) : Prop where
  len : l.length ≤ 30
  s : ∀ s ∈ l, s.e.text.length ≤ 400 ∧ s.l.length ≤ 10 ∧ (∀ e ∈ s.l, e.text.length ≤ 400) ∧ adrB s.e ∧ ∀ e ∈ s.l, adrB e
theorem lg_LS {l : List Sp} (h : lgB l = true) (ha : ∀ s ∈ l, adrB s.e ∧ ∀ e ∈ s.l, adrB e) : LS l := by
  unfold lgB at h
  rw [Bool.and_eq_true, decide_eq_true_eq, List.all_eq_true] at h
  refine ⟨h.2, fun s hs => ?_⟩
  have h1 := h.1 s hs
  unfold lgS lgE at h1
  simp only [Bool.and_eq_true, decide_eq_true_eq, List.all_eq_true] at h1
  exact ⟨h1.2.1, h1.1, h1.2.2, ha s hs⟩
set_option maxHeartbeats 8000000 in
theorem c_steps47 (l : List Sp) (hl : l.length ≤ 4194304) (ha : ∀ s ∈ l, adrB s.e ∧ ∀ e ∈ s.l, adrB e) : PC Tryz.prog 4 [.sl (l.map spV) .ro] (.im (.bool (true))) := by
  have qx := c_example47
  have ql := c_light l hl
  have qn := c_New
  have qr := c_NewR
  refine PC.enter 91 Tryz.func4 rfl (by decide) rfl rfl (s := [(0, .sl (l.map spV) .ro)]) (by rfl) ?_
  refine wG Y4_Rt True.intro ?_
  refine AR.callP qx True.intro (And.intro enV_id (And.intro enL_id (And.intro byL_id (And.intro lsV_id (And.intro lsL_id (And.intro (@tyV_id) (And.intro spV_id spL_id))))))) ?_
  refine goG Y4_Rt True.intro ?_
  refine wG Y4_Rt True.intro ?_
  refine AR.callP ql True.intro (And.intro enV_id (And.intro enL_id (And.intro byL_id (And.intro lsV_id (And.intro lsL_id (And.intro (@tyV_id) (And.intro spV_id spL_id))))))) ?_
  cases hlg : lgB l with
  | false =>
    refine goG Y4_Rt True.intro ?_
    refine wG Y4_Rt True.intro ?_
    exact Fin.oneP
  | true =>
  have hLS := lg_LS hlg ha
  have l30 := hLS.len
  refine goG Y4_Rt True.intro ?_
  refine wG Y4_Rt True.intro ?_
  refine AR.callSP [0] qn True.intro (And.intro enV_id (And.intro enL_id (And.intro byL_id (And.intro lsV_id (And.intro lsL_id (And.intro (@tyV_id) (And.intro spV_id spL_id))))))) (And.intro enV_ren (And.intro enL_ren (And.intro byL_ren (And.intro lsV_ren (And.intro lsL_ren (And.intro spV_ren spL_ren)))))) ?_
  refine goG Y4_Rt True.intro ?_
  refine AR.end ?_
  refine Thn.n ?_
  refine AWp.frz 1 [(0, .sl (l.map spV) .ro), (3, .pt 0 0)] [.box [(.im (.bool (true))), .sl [] .ro, .sl [] .full, .sl [] .nl]] ?_ (by simp) (by repeat (first | exact WkFA.nil | refine WkFA.cons (by first | exact .of (Wk.refl _) (by first | rfl | simp only [List.length_cons, List.length_nil, Nat.reduceAdd, V.ids, V.idsL, idsA, entOk, List.all_cons, List.all_nil, Bool.and_self, Bool.and_true, Bool.true_and, ltB, noId, Nat.reduceLT, decide_true, Bool.true_eq_false, tyV_id, fdV_id, tyL_id, fdL_id, enV_id, enL_id, byL_id, lsV_id, lsL_id, tyV_id, spV_id, spL_id]) | exact .of (Wk.ro _ _) rfl | exact .of (Wk.nlF _) rfl) ?_)) (by repeat (first | exact WkFE.nil | refine WkFE.box (by repeat (first | exact WkFL.nil | refine WkFL.cons (by first | exact .of (Wk.refl _) (by first | rfl | simp only [List.length_cons, List.length_nil, Nat.reduceAdd, V.ids, V.idsL, idsA, entOk, List.all_cons, List.all_nil, Bool.and_self, Bool.and_true, Bool.true_and, ltB, noId, Nat.reduceLT, decide_true, Bool.true_eq_false, tyV_id, fdV_id, tyL_id, fdL_id, enV_id, enL_id, byL_id, lsV_id, lsL_id, tyV_id, spV_id, spL_id]) | exact .of (Wk.ro _ _) rfl | exact .of (Wk.nlF _) rfl) ?_)) ?_ | refine WkFE.same (fun _ e => by cases e) ?_)) (fun i hi => by first | exact absurd rfl hi | exact Nat.lt_of_lt_of_le (ofl_lt hi) (by simp))
  refine AWp.tok 0 2 1 [(.im (.bool (true))), .sl [] .ro, .sl [] .full, .sl [] .nl] [] .full 28 1 (l' := [.box [(.im (.bool (true))), .sl [] .ro, .sl [] (.own 1), .sl [] .nl], .tip 28 1 0]) ?_ rfl rfl rfl (.inl rfl) rfl rfl
  refine AWp.tok 0 3 2 [(.im (.bool (true))), .sl [] .ro, .sl [] (.own 1), .sl [] .nl] [] .nl 28 1 (l' := [.box [(.im (.bool (true))), .sl [] .ro, .sl [] (.own 1), .sl [] (.own 2)], .tip 28 1 0, .tip 28 1 0]) ?_ rfl rfl rfl (.inr rfl) rfl rfl
  refine wG Y4_Rt True.intro ?_
  refine AR.callP qr True.intro (And.intro enV_id (And.intro enL_id (And.intro byL_id (And.intro lsV_id (And.intro lsL_id (And.intro (@tyV_id) (And.intro spV_id spL_id))))))) ?_
  refine goG Y4_Rt True.intro ?_
  refine wG Y4_Rt True.intro ?_
  refine AWp.loop ?_
  refine ALp.cutP 4 [(0, .sl (l.map spV) .ro), (3, .pt 0 0), (4, .pt 3 0), (5, (.im (.int .i64 ((((0 : Nat)) : Int)))))] [.box [(.im (.bool (true))), .sl ((pz).l.map enV) .ro, .sl ((pz).un.map lsV) (.own 1), .sl ((pz).re.map lsV) (.own 2)], .tip 28 1 (pz).un.length, .tip 28 1 (pz).re.length, .box [(.im (.bool (true))), .sl ((pz).l.map enV) .ro, .sl ((pz).un.reverse.map lsV) .ro, .sl ((pz).re.reverse.map lsV) .ro]] (And.intro enV_id (And.intro enL_id (And.intro byL_id (And.intro lsV_id (And.intro lsL_id (And.intro (@tyV_id) (And.intro spV_id spL_id))))))) ?_
  suffices H : ∀ x : Nat × Pr, x.1 ≤ l.length ∧ SI x.2 x.1 → ALp _ _ _ _ _ ⟨dn 91 [(0, .sl (l.map spV) .ro), (3, .pt 0 0), (4, .pt 3 0), (5, (.im (.int .i64 ((((x.1 : Nat)) : Int)))))], ofl [.box [(.im (.bool (true))), .sl ((x.2).l.map enV) .ro, .sl ((x.2).un.map lsV) (.own 1), .sl ((x.2).re.map lsV) (.own 2)], .tip 28 1 (x.2).un.length, .tip 28 1 (x.2).re.length, .box [(.im (.bool (true))), .sl ((x.2).l.map enV) .ro, .sl ((x.2).un.reverse.map lsV) .ro, .sl ((x.2).re.reverse.map lsV) .ro]]⟩ by
    exact H (0, pz) ⟨Nat.zero_le _, ⟨Gd.nil, fun _ h => (nomatch h), fun _ h => (nomatch h), Nat.le_refl _, Nat.le_refl _⟩⟩
  refine ALp.meas (α := Nat × Pr) (fun x => ⟨dn 91 [(0, .sl (l.map spV) .ro), (3, .pt 0 0), (4, .pt 3 0), (5, (.im (.int .i64 ((((x.1 : Nat)) : Int)))))], ofl [.box [(.im (.bool (true))), .sl ((x.2).l.map enV) .ro, .sl ((x.2).un.map lsV) (.own 1), .sl ((x.2).re.map lsV) (.own 2)], .tip 28 1 (x.2).un.length, .tip 28 1 (x.2).re.length, .box [(.im (.bool (true))), .sl ((x.2).l.map enV) .ro, .sl ((x.2).un.reverse.map lsV) .ro, .sl ((x.2).re.reverse.map lsV) .ro]]⟩) (fun x => x.1 ≤ l.length ∧ SI x.2 x.1) (fun x => l.length - x.1) ?_
  rintro ⟨m, p⟩ ⟨h1, hI⟩ hnext
  dsimp only at h1 hI hnext ⊢
  refine AWp.seq ?_
  refine AWp.seq ?_
  refine AWp.region ?_
  by_cases hlt : m < l.length
  case neg =>
    obtain rfl : m = l.length := by omega
    have hlt' : ¬ (l.length : Int) < (l.length : Int) := by omega
    clear hnext hlt
    have w1 := c_SaveR p.l p.un p.re (fun e he => hI.gd.fits he) hI.gd.len
    have w2 := c_SaveRf p (fun e he => hI.gd.fits he) hI.gd.len
    generalize saveB p.l = sb at w1 w2
    refine goG Y4_Rt (And.intro hlt' @List.length_map.{0, 0}) ?_
    refine AR.end ?_
    refine Thn.n ?_
    refine AWp.condAF rfl rfl ?_
    refine AWp.exit ?_
    repeat (refine Thn.x ?_)
    refine Rnd.x ?_
    refine Blk'.here ?_
    refine Thn.n ?_
    refine AWp.frz 4 [(3, .pt 0 0), (4, .pt 3 0)] [.box [(.im (.bool (true))), .sl (p.l.map enV) .ro, .sl (p.un.map lsV) .ro, .sl (p.re.map lsV) .ro], .tip 28 1 p.un.length, .tip 28 1 p.re.length, .box [(.im (.bool (true))), .sl ((p).l.map enV) .ro, .sl ((p).un.reverse.map lsV) .ro, .sl ((p).re.reverse.map lsV) .ro]] ?_ (by simp) (by repeat (first | exact WkFA.nil | refine WkFA.cons (by first | exact .of (Wk.refl _) (by first | rfl | simp only [List.length_cons, List.length_nil, Nat.reduceAdd, V.ids, V.idsL, idsA, entOk, List.all_cons, List.all_nil, Bool.and_self, Bool.and_true, Bool.true_and, ltB, noId, Nat.reduceLT, decide_true, Bool.true_eq_false, tyV_id, fdV_id, tyL_id, fdL_id, enV_id, enL_id, byL_id, lsV_id, lsL_id, tyV_id, spV_id, spL_id]) | exact .of (Wk.ro _ _) (by simp [V.ids, V.idsL, lsL_id])) ?_)) (by repeat (first | exact WkFE.nil | refine WkFE.box (by repeat (first | exact WkFL.nil | refine WkFL.cons (by first | exact .of (Wk.refl _) (by first | rfl | simp only [List.length_cons, List.length_nil, Nat.reduceAdd, V.ids, V.idsL, idsA, entOk, List.all_cons, List.all_nil, Bool.and_self, Bool.and_true, Bool.true_and, ltB, noId, Nat.reduceLT, decide_true, Bool.true_eq_false, tyV_id, fdV_id, tyL_id, fdL_id, enV_id, enL_id, byL_id, lsV_id, lsL_id, tyV_id, spV_id, spL_id]) | exact .of (Wk.ro _ _) (by simp [V.ids, V.idsL, lsL_id])) ?_)) ?_ | refine WkFE.same (fun _ e => by cases e) ?_)) (fun i hi => by first | exact absurd rfl hi | exact Nat.lt_of_lt_of_le (ofl_lt hi) (by simp))
    refine wdG Y4_Rt True.intro ?_
    refine AR.callSP [0, 4] w1 True.intro (And.intro enV_id (And.intro enL_id (And.intro byL_id (And.intro lsV_id (And.intro lsL_id (And.intro (@tyV_id) (And.intro spV_id spL_id))))))) (And.intro enV_ren (And.intro enL_ren (And.intro byL_ren (And.intro lsV_ren (And.intro lsL_ren (And.intro spV_ren spL_ren)))))) ?_
    refine goG Y4_Rt (And.intro BAT bA_mk) ?_
    refine AR.callP w2 True.intro (And.intro enV_id (And.intro enL_id (And.intro byL_id (And.intro lsV_id (And.intro lsL_id (And.intro (@tyV_id) (And.intro spV_id spL_id))))))) ?_
    refine goG Y4_Rt (And.intro BAT bA_mk) ?_
    refine wdG Y4_Rt True.intro ?_
    exact Fin.oneP
  have hlt' : (m : Int) < (l.length : Int) := by omega
  have hg := get_some hlt
  have hm1 := wrap_succ hlt (by omega)
  have hS := hLS.s l[m] (List.getElem_mem hlt)
  generalize l[m] = s at hg hS
  obtain ⟨s1, s2, s3, s4, s5⟩ := hS
  refine goG Y4_Rt (And.intro hlt' @List.length_map.{0, 0}) ?_
  refine AR.end ?_
  refine Thn.n ?_
  refine AWp.condAT rfl rfl ?_
  refine AWp.skip ?_
  refine Thn.n ?_
  refine AWp.seq ?_
  refine AWp.block ?_
  refine AWp.seq ?_
  refine AWp.tail (ι := {q : Pr // SI q (m + 1)}) (fun q => ⟨dn 91 [(0, .sl (l.map spV) .ro), (3, .pt 0 0), (4, .pt 3 0), (5, (.im (.int .i64 (((m : Nat) : Int))))), (6, .pt 4 0), (7, (.im (.bool (true))))], ofl [.box [(.im (.bool (true))), .sl ((q.1).l.map enV) .ro, .sl ((q.1).un.map lsV) (.own 1), .sl ((q.1).re.map lsV) (.own 2)], .tip 28 1 (q.1).un.length, .tip 28 1 (q.1).re.length, .box [(.im (.bool (true))), .sl ((p).l.map enV) .ro, .sl ((p).un.reverse.map lsV) .ro, .sl ((p).re.reverse.map lsV) .ro], .box [(.im (.bool (true))), .sl ((q.1).l.map enV) .ro, .sl ((q.1).un.reverse.map lsV) .ro, .sl ((q.1).re.reverse.map lsV) .ro]]⟩) ?_ ?_
  · rintro ⟨q, hq⟩
    dsimp only
    have hn := hnext (m + 1, q) (by simp; omega) ⟨by simp; omega, hq⟩
    clear hnext
    have g1 := c_Get q.l q.un q.re s.e.kind s.e.addr s.e.var hq.gd.asc hq.gd.len
    have g2 := c_GetRf q s.e.kind s.e.addr s.e.var hq.gd.asc hq.gd.len
    have g3 := c_All q.l q.un q.re hq.gd.len
    have g4 := c_SameR q.l (by have := hq.gd.len; omega)
    generalize getE q.l s.e.kind s.e.addr s.e.var = gt at g1 g2
    generalize hasE q.l (keyOf s.e.kind s.e.addr s.e.var) = gb at g1 g2
    have hbb : (decide (gb = gb)) = true := decide_eq_true rfl
    refine wG Y4_Rt (And.intro SPT hg) ?_
    refine AR.callQP [0, 1, 2] g1 True.intro (And.intro enV_id (And.intro enL_id (And.intro byL_id (And.intro lsV_id (And.intro lsL_id (And.intro (@tyV_id) (And.intro spV_id spL_id))))))) (And.intro enV_ren (And.intro enL_ren (And.intro byL_ren (And.intro lsV_ren (And.intro lsL_ren (And.intro spV_ren spL_ren)))))) ?_
    refine goG Y4_Rt True.intro ?_
    refine wG Y4_Rt True.intro ?_
    refine AR.callP g2 True.intro (And.intro enV_id (And.intro enL_id (And.intro byL_id (And.intro lsV_id (And.intro lsL_id (And.intro (@tyV_id) (And.intro spV_id spL_id))))))) ?_
    refine goG Y4_Rt True.intro ?_
    refine wdG Y4_Rt True.intro ?_
    refine AR.callQP [0, 1, 2] g3 True.intro (And.intro enV_id (And.intro enL_id (And.intro byL_id (And.intro lsV_id (And.intro lsL_id (And.intro (@tyV_id) (And.intro spV_id spL_id))))))) (And.intro enV_ren (And.intro enL_ren (And.intro byL_ren (And.intro lsV_ren (And.intro lsL_ren (And.intro spV_ren spL_ren)))))) ?_
    refine goG Y4_Rt True.intro ?_
    refine AR.callP g4 True.intro (And.intro enV_id (And.intro enL_id (And.intro byL_id (And.intro lsV_id (And.intro lsL_id (And.intro (@tyV_id) (And.intro spV_id spL_id))))))) ?_
    refine goG Y4_Rt True.intro ?_
    refine wdG Y4_Rt hm1 ?_
    refine ALp.cutP 4 [(0, .sl (l.map spV) .ro), (3, .pt 0 0), (4, .pt 3 0), (5, (.im (.int .i64 ((((m + 1 : Nat)) : Int)))))] [.box [(.im (.bool (true))), .sl ((q).l.map enV) .ro, .sl ((q).un.map lsV) (.own 1), .sl ((q).re.map lsV) (.own 2)], .tip 28 1 (q).un.length, .tip 28 1 (q).re.length, .box [(.im (.bool (true))), .sl ((q).l.map enV) .ro, .sl ((q).un.reverse.map lsV) .ro, .sl ((q).re.reverse.map lsV) .ro]] (And.intro enV_id (And.intro enL_id (And.intro byL_id (And.intro lsV_id (And.intro lsL_id (And.intro (@tyV_id) (And.intro spV_id spL_id))))))) ?_
    exact hn
  intro rest hr
  have hul : p.un.length ≤ 1000 := by have := hI.ul; omega
  have hrl : p.re.length ≤ 1000 := by have := hI.rl; omega
  clear hnext
  by_cases k0 : s.kind = 0
  · by_cases hE : eErr p.l s.e = 0
    · have qs := c_stepPut0 p s hI.gd.asc hI.gd.len s1 hul k0 hE
      have hSI : SI (p.chg (eWith p.l s.e)) (m + 1) := hI.chg (hI.gd.with_ hE s4)
      have hchl : (p.chg (eWith p.l s.e)).l = eWith p.l s.e := by unfold Pr.chg; dsimp only
      have hchu := chg_un p (eWith p.l s.e)
      have hchr : (p.chg (eWith p.l s.e)).re = [] := by unfold Pr.chg; dsimp only
      rw [show p.put s.e = p.chg (eWith p.l s.e) from if_pos hE] at qs
      rw [← hchu] at qs
      generalize p.chg (eWith p.l s.e) = q at qs hSI hchl hchu hchr
      rw [← hchl] at qs
      clear hchl hchu
      refine wdG Y4_Rt (And.intro SPT hg) ?_
      refine AR.callSP [0, 1, 2] qs True.intro (And.intro enV_id (And.intro enL_id (And.intro byL_id (And.intro lsV_id (And.intro lsL_id (And.intro (@tyV_id) (And.intro spV_id spL_id))))))) (And.intro enV_ren (And.intro enL_ren (And.intro byL_ren (And.intro lsV_ren (And.intro lsL_ren (And.intro spV_ren spL_ren)))))) ?_
      refine goG Y4_Rt True.intro ?_
      refine AR.endD (by kernel_rfl) ?_
      refine Thn.n ?_
      refine AWp.cutP 5 [(0, .sl (l.map spV) .ro), (3, .pt 0 0), (4, .pt 3 0), (5, (.im (.int .i64 (((m : Nat) : Int))))), (6, .pt 4 0), (7, (.im (.bool (true))))] [.box [(.im (.bool (true))), .sl (q.l.map enV) .ro, .sl (q.un.map lsV) .full, .sl [] .nl], .tip 28 1 (p.un.length + 1), .tip 28 1 p.re.length, .box [(.im (.bool (true))), .sl ((p).l.map enV) .ro, .sl ((p).un.reverse.map lsV) .ro, .sl ((p).re.reverse.map lsV) .ro], .box [(.im (.bool (true))), .sl ((q).l.map enV) .ro, .sl ((q).un.reverse.map lsV) .ro, .sl ((q).re.reverse.map lsV) .ro]] (And.intro enV_id (And.intro enL_id (And.intro byL_id (And.intro lsV_id (And.intro lsL_id (And.intro (@tyV_id) (And.intro spV_id spL_id))))))) ?_
      refine AWp.drop1 1 [.box [(.im (.bool (true))), .sl (q.l.map enV) .ro, .sl (q.un.map lsV) .full, .sl [] .nl], .free, .tip 28 1 p.re.length, .box [(.im (.bool (true))), .sl ((p).l.map enV) .ro, .sl ((p).un.reverse.map lsV) .ro, .sl ((p).re.reverse.map lsV) .ro], .box [(.im (.bool (true))), .sl ((q).l.map enV) .ro, .sl ((q).un.reverse.map lsV) .ro, .sl ((q).re.reverse.map lsV) .ro]] ?_ rfl rfl (by simp [idsA, V.ids, V.idsL, spL_id, neB]) (by simp [-List.map_reverse, entOk, V.ids, V.idsL, enL_id, lsL_id, neB])
      refine AWp.drop1 2 [.box [(.im (.bool (true))), .sl (q.l.map enV) .ro, .sl (q.un.map lsV) .full, .sl [] .nl], .free, .free, .box [(.im (.bool (true))), .sl ((p).l.map enV) .ro, .sl ((p).un.reverse.map lsV) .ro, .sl ((p).re.reverse.map lsV) .ro], .box [(.im (.bool (true))), .sl ((q).l.map enV) .ro, .sl ((q).un.reverse.map lsV) .ro, .sl ((q).re.reverse.map lsV) .ro]] ?_ rfl rfl (by simp [idsA, V.ids, V.idsL, spL_id, neB]) (by simp [-List.map_reverse, entOk, V.ids, V.idsL, enL_id, lsL_id, neB])
      refine AWp.tok 0 2 1 [(.im (.bool (true))), .sl (q.l.map enV) .ro, .sl (q.un.map lsV) .full, .sl [] .nl] (q.un.map lsV) .full 28 1 (l' := [.box [(.im (.bool (true))), .sl (q.l.map enV) .ro, .sl (q.un.map lsV) (.own 1), .sl [] .nl], .tip 28 1 q.un.length, .free, .box [(.im (.bool (true))), .sl ((p).l.map enV) .ro, .sl ((p).un.reverse.map lsV) .ro, .sl ((p).re.reverse.map lsV) .ro], .box [(.im (.bool (true))), .sl ((q).l.map enV) .ro, .sl ((q).un.reverse.map lsV) .ro, .sl ((q).re.reverse.map lsV) .ro]]) ?_ (by rw [List.length_map]; rfl) rfl rfl (.inl rfl) (lsL_allS _) rfl
      refine AWp.tok 0 3 2 [(.im (.bool (true))), .sl (q.l.map enV) .ro, .sl (q.un.map lsV) (.own 1), .sl [] .nl] [] .nl 28 1 (l' := [.box [(.im (.bool (true))), .sl (q.l.map enV) .ro, .sl (q.un.map lsV) (.own 1), .sl [] (.own 2)], .tip 28 1 q.un.length, .tip 28 1 0, .box [(.im (.bool (true))), .sl ((p).l.map enV) .ro, .sl ((p).un.reverse.map lsV) .ro, .sl ((p).re.reverse.map lsV) .ro], .box [(.im (.bool (true))), .sl ((q).l.map enV) .ro, .sl ((q).un.reverse.map lsV) .ro, .sl ((q).re.reverse.map lsV) .ro]]) ?_ rfl rfl rfl (.inr rfl) rfl rfl
      have hq := hr ⟨q, hSI⟩
      dsimp only at hq
      rw [hchr] at hq ⊢
      exact hq
    · have qs := c_stepPut1 p s hI.gd.asc hI.gd.len s1 hul k0 hE
      refine wdG Y4_Rt (And.intro SPT hg) ?_
      refine AR.callSP [0, 1, 2] qs True.intro (And.intro enV_id (And.intro enL_id (And.intro byL_id (And.intro lsV_id (And.intro lsL_id (And.intro (@tyV_id) (And.intro spV_id spL_id))))))) (And.intro enV_ren (And.intro enL_ren (And.intro byL_ren (And.intro lsV_ren (And.intro lsL_ren (And.intro spV_ren spL_ren)))))) ?_
      refine goG Y4_Rt True.intro ?_
      refine AR.endD (by kernel_rfl) ?_
      refine Thn.n ?_
      refine AWp.cutP 5 [(0, .sl (l.map spV) .ro), (3, .pt 0 0), (4, .pt 3 0), (5, (.im (.int .i64 (((m : Nat) : Int))))), (6, .pt 4 0), (7, (.im (.bool (true))))] [.box [(.im (.bool (true))), .sl ((p).l.map enV) .ro, .sl ((p).un.map lsV) (.own 1), .sl ((p).re.map lsV) (.own 2)], .tip 28 1 (p).un.length, .tip 28 1 (p).re.length, .box [(.im (.bool (true))), .sl ((p).l.map enV) .ro, .sl ((p).un.reverse.map lsV) .ro, .sl ((p).re.reverse.map lsV) .ro], .box [(.im (.bool (true))), .sl ((p).l.map enV) .ro, .sl ((p).un.reverse.map lsV) .ro, .sl ((p).re.reverse.map lsV) .ro]] (And.intro enV_id (And.intro enL_id (And.intro byL_id (And.intro lsV_id (And.intro lsL_id (And.intro (@tyV_id) (And.intro spV_id spL_id))))))) ?_
      exact hr ⟨p, hI.up⟩
  by_cases k1 : s.kind = 1
  · by_cases hE : rmErr p.l s.e = 0
    · have qs := c_stepRem0 p s hI.gd.asc hI.gd.len s1 hul k1 hE
      have hSI : SI (p.chg (delE p.l s.e)) (m + 1) := hI.chg (hI.gd.del _)
      have hchl : (p.chg (delE p.l s.e)).l = delE p.l s.e := by unfold Pr.chg; dsimp only
      have hchu := chg_un p (delE p.l s.e)
      have hchr : (p.chg (delE p.l s.e)).re = [] := by unfold Pr.chg; dsimp only
      rw [show p.rem s.e = p.chg (delE p.l s.e) from if_pos hE] at qs
      rw [← hchu] at qs
      generalize p.chg (delE p.l s.e) = q at qs hSI hchl hchu hchr
      rw [← hchl] at qs
      clear hchl hchu
      refine wdG Y4_Rt (And.intro SPT hg) ?_
      refine AR.callSP [0, 1, 2] qs True.intro (And.intro enV_id (And.intro enL_id (And.intro byL_id (And.intro lsV_id (And.intro lsL_id (And.intro (@tyV_id) (And.intro spV_id spL_id))))))) (And.intro enV_ren (And.intro enL_ren (And.intro byL_ren (And.intro lsV_ren (And.intro lsL_ren (And.intro spV_ren spL_ren)))))) ?_
      refine goG Y4_Rt True.intro ?_
      refine AR.endD (by kernel_rfl) ?_
      refine Thn.n ?_
      refine AWp.cutP 5 [(0, .sl (l.map spV) .ro), (3, .pt 0 0), (4, .pt 3 0), (5, (.im (.int .i64 (((m : Nat) : Int))))), (6, .pt 4 0), (7, (.im (.bool (true))))] [.box [(.im (.bool (true))), .sl (q.l.map enV) .ro, .sl (q.un.map lsV) .full, .sl [] .nl], .tip 28 1 (p.un.length + 1), .tip 28 1 p.re.length, .box [(.im (.bool (true))), .sl ((p).l.map enV) .ro, .sl ((p).un.reverse.map lsV) .ro, .sl ((p).re.reverse.map lsV) .ro], .box [(.im (.bool (true))), .sl ((q).l.map enV) .ro, .sl ((q).un.reverse.map lsV) .ro, .sl ((q).re.reverse.map lsV) .ro]] (And.intro enV_id (And.intro enL_id (And.intro byL_id (And.intro lsV_id (And.intro lsL_id (And.intro (@tyV_id) (And.intro spV_id spL_id))))))) ?_
      refine AWp.drop1 1 [.box [(.im (.bool (true))), .sl (q.l.map enV) .ro, .sl (q.un.map lsV) .full, .sl [] .nl], .free, .tip 28 1 p.re.length, .box [(.im (.bool (true))), .sl ((p).l.map enV) .ro, .sl ((p).un.reverse.map lsV) .ro, .sl ((p).re.reverse.map lsV) .ro], .box [(.im (.bool (true))), .sl ((q).l.map enV) .ro, .sl ((q).un.reverse.map lsV) .ro, .sl ((q).re.reverse.map lsV) .ro]] ?_ rfl rfl (by simp [idsA, V.ids, V.idsL, spL_id, neB]) (by simp [-List.map_reverse, entOk, V.ids, V.idsL, enL_id, lsL_id, neB])
      refine AWp.drop1 2 [.box [(.im (.bool (true))), .sl (q.l.map enV) .ro, .sl (q.un.map lsV) .full, .sl [] .nl], .free, .free, .box [(.im (.bool (true))), .sl ((p).l.map enV) .ro, .sl ((p).un.reverse.map lsV) .ro, .sl ((p).re.reverse.map lsV) .ro], .box [(.im (.bool (true))), .sl ((q).l.map enV) .ro, .sl ((q).un.reverse.map lsV) .ro, .sl ((q).re.reverse.map lsV) .ro]] ?_ rfl rfl (by simp [idsA, V.ids, V.idsL, spL_id, neB]) (by simp [-List.map_reverse, entOk, V.ids, V.idsL, enL_id, lsL_id, neB])
      refine AWp.tok 0 2 1 [(.im (.bool (true))), .sl (q.l.map enV) .ro, .sl (q.un.map lsV) .full, .sl [] .nl] (q.un.map lsV) .full 28 1 (l' := [.box [(.im (.bool (true))), .sl (q.l.map enV) .ro, .sl (q.un.map lsV) (.own 1), .sl [] .nl], .tip 28 1 q.un.length, .free, .box [(.im (.bool (true))), .sl ((p).l.map enV) .ro, .sl ((p).un.reverse.map lsV) .ro, .sl ((p).re.reverse.map lsV) .ro], .box [(.im (.bool (true))), .sl ((q).l.map enV) .ro, .sl ((q).un.reverse.map lsV) .ro, .sl ((q).re.reverse.map lsV) .ro]]) ?_ (by rw [List.length_map]; rfl) rfl rfl (.inl rfl) (lsL_allS _) rfl
      refine AWp.tok 0 3 2 [(.im (.bool (true))), .sl (q.l.map enV) .ro, .sl (q.un.map lsV) (.own 1), .sl [] .nl] [] .nl 28 1 (l' := [.box [(.im (.bool (true))), .sl (q.l.map enV) .ro, .sl (q.un.map lsV) (.own 1), .sl [] (.own 2)], .tip 28 1 q.un.length, .tip 28 1 0, .box [(.im (.bool (true))), .sl ((p).l.map enV) .ro, .sl ((p).un.reverse.map lsV) .ro, .sl ((p).re.reverse.map lsV) .ro], .box [(.im (.bool (true))), .sl ((q).l.map enV) .ro, .sl ((q).un.reverse.map lsV) .ro, .sl ((q).re.reverse.map lsV) .ro]]) ?_ rfl rfl rfl (.inr rfl) rfl rfl
      have hq := hr ⟨q, hSI⟩
      dsimp only at hq
      rw [hchr] at hq ⊢
      exact hq
    · have qs := c_stepRem1 p s hI.gd.asc hI.gd.len s1 hul k1 hE
      refine wdG Y4_Rt (And.intro SPT hg) ?_
      refine AR.callSP [0, 1, 2] qs True.intro (And.intro enV_id (And.intro enL_id (And.intro byL_id (And.intro lsV_id (And.intro lsL_id (And.intro (@tyV_id) (And.intro spV_id spL_id))))))) (And.intro enV_ren (And.intro enL_ren (And.intro byL_ren (And.intro lsV_ren (And.intro lsL_ren (And.intro spV_ren spL_ren)))))) ?_
      refine goG Y4_Rt True.intro ?_
      refine AR.endD (by kernel_rfl) ?_
      refine Thn.n ?_
      refine AWp.cutP 5 [(0, .sl (l.map spV) .ro), (3, .pt 0 0), (4, .pt 3 0), (5, (.im (.int .i64 (((m : Nat) : Int))))), (6, .pt 4 0), (7, (.im (.bool (true))))] [.box [(.im (.bool (true))), .sl ((p).l.map enV) .ro, .sl ((p).un.map lsV) (.own 1), .sl ((p).re.map lsV) (.own 2)], .tip 28 1 (p).un.length, .tip 28 1 (p).re.length, .box [(.im (.bool (true))), .sl ((p).l.map enV) .ro, .sl ((p).un.reverse.map lsV) .ro, .sl ((p).re.reverse.map lsV) .ro], .box [(.im (.bool (true))), .sl ((p).l.map enV) .ro, .sl ((p).un.reverse.map lsV) .ro, .sl ((p).re.reverse.map lsV) .ro]] (And.intro enV_id (And.intro enL_id (And.intro byL_id (And.intro lsV_id (And.intro lsL_id (And.intro (@tyV_id) (And.intro spV_id spL_id))))))) ?_
      exact hr ⟨p, hI.up⟩
  by_cases k2 : s.kind = 2
  · obtain ⟨L, un, re⟩ := p
    dsimp only at hul hrl
    rcases snoc_cases un with hz | ⟨l2, x, hz⟩
    · subst hz
      have qs := c_stepUndo1 L re s k2
      have hq := hr ⟨_, hI.up⟩
      dsimp only at qs hq ⊢
      simp only [List.map_nil, List.reverse_nil] at qs hq ⊢
      refine wdG Y4_Rt (And.intro SPT hg) ?_
      refine AR.callSP [0, 1, 2] qs True.intro (And.intro enV_id (And.intro enL_id (And.intro byL_id (And.intro lsV_id (And.intro lsL_id (And.intro (@tyV_id) (And.intro spV_id spL_id))))))) (And.intro enV_ren (And.intro enL_ren (And.intro byL_ren (And.intro lsV_ren (And.intro lsL_ren (And.intro spV_ren spL_ren)))))) ?_
      refine goG Y4_Rt True.intro ?_
      refine AR.endD (by kernel_rfl) ?_
      refine Thn.n ?_
      refine AWp.cutP 5 [(0, .sl (l.map spV) .ro), (3, .pt 0 0), (4, .pt 3 0), (5, (.im (.int .i64 (((m : Nat) : Int))))), (6, .pt 4 0), (7, (.im (.bool (true))))] [.box [(.im (.bool (true))), .sl (L.map enV) .ro, .sl [] (.own 1), .sl (re.map lsV) (.own 2)], .tip 28 1 ([] : List (List En)).length, .tip 28 1 re.length, .box [(.im (.bool (true))), .sl (L.map enV) .ro, .sl [] .ro, .sl (re.reverse.map lsV) .ro], .box [(.im (.bool (true))), .sl (L.map enV) .ro, .sl [] .ro, .sl (re.reverse.map lsV) .ro]] (And.intro enV_id (And.intro enL_id (And.intro byL_id (And.intro lsV_id (And.intro lsL_id (And.intro (@tyV_id) (And.intro spV_id spL_id))))))) ?_
      exact hq
    · subst hz
      have qs := c_stepUndo0 L x l2 re s (by simp at hul; omega) hrl k2
      have hSI := SI.undo hI
      have hq := hr ⟨_, hSI⟩
      dsimp only at qs hq ⊢
      clear hSI hI
      generalize l2 ++ [x] = T at qs hq ⊢
      generalize re ++ [L] = D at qs hq ⊢
      refine wdG Y4_Rt (And.intro SPT hg) ?_
      refine AR.callSP [0, 1, 2] qs True.intro (And.intro enV_id (And.intro enL_id (And.intro byL_id (And.intro lsV_id (And.intro lsL_id (And.intro (@tyV_id) (And.intro spV_id spL_id))))))) (And.intro enV_ren (And.intro enL_ren (And.intro byL_ren (And.intro lsV_ren (And.intro lsL_ren (And.intro spV_ren spL_ren)))))) ?_
      refine goG Y4_Rt True.intro ?_
      refine AR.endD (by kernel_rfl) ?_
      refine Thn.n ?_
      refine AWp.cutP 5 [(0, .sl (l.map spV) .ro), (3, .pt 0 0), (4, .pt 3 0), (5, (.im (.int .i64 (((m : Nat) : Int))))), (6, .pt 4 0), (7, (.im (.bool (true))))] [.box [(.im (.bool (true))), .sl (x.map enV) .ro, .sl (l2.map lsV) .full, .sl (D.map lsV) (.own 2)], .tip 28 1 T.length, .tip 28 1 D.length, .box [(.im (.bool (true))), .sl (L.map enV) .ro, .sl (T.reverse.map lsV) .ro, .sl (re.reverse.map lsV) .ro], .box [(.im (.bool (true))), .sl (x.map enV) .ro, .sl (l2.reverse.map lsV) .ro, .sl (D.reverse.map lsV) .ro]] (And.intro enV_id (And.intro enL_id (And.intro byL_id (And.intro lsV_id (And.intro lsL_id (And.intro (@tyV_id) (And.intro spV_id spL_id))))))) ?_
      refine AWp.drop1 1 [.box [(.im (.bool (true))), .sl (x.map enV) .ro, .sl (l2.map lsV) .full, .sl (D.map lsV) (.own 2)], .free, .tip 28 1 D.length, .box [(.im (.bool (true))), .sl (L.map enV) .ro, .sl (T.reverse.map lsV) .ro, .sl (re.reverse.map lsV) .ro], .box [(.im (.bool (true))), .sl (x.map enV) .ro, .sl (l2.reverse.map lsV) .ro, .sl (D.reverse.map lsV) .ro]] ?_ rfl rfl (by simp [idsA, V.ids, V.idsL, spL_id, neB]) (by simp [-List.map_reverse, entOk, V.ids, V.idsL, enL_id, lsL_id, neB])
      refine AWp.tok 0 2 1 [(.im (.bool (true))), .sl (x.map enV) .ro, .sl (l2.map lsV) .full, .sl (D.map lsV) (.own 2)] (l2.map lsV) .full 28 1 (l' := [.box [(.im (.bool (true))), .sl (x.map enV) .ro, .sl (l2.map lsV) (.own 1), .sl (D.map lsV) (.own 2)], .tip 28 1 l2.length, .tip 28 1 D.length, .box [(.im (.bool (true))), .sl (L.map enV) .ro, .sl (T.reverse.map lsV) .ro, .sl (re.reverse.map lsV) .ro], .box [(.im (.bool (true))), .sl (x.map enV) .ro, .sl (l2.reverse.map lsV) .ro, .sl (D.reverse.map lsV) .ro]]) ?_ (by rw [List.length_map]; rfl) rfl rfl (.inl rfl) (lsL_allS _) rfl
      exact hq
  by_cases k3 : s.kind = 3
  · obtain ⟨L, un, re⟩ := p
    dsimp only at hul hrl
    rcases snoc_cases re with hz | ⟨l2, x, hz⟩
    · subst hz
      have qs := c_stepRedo1 L un s k3
      have hq := hr ⟨_, hI.up⟩
      dsimp only at qs hq ⊢
      simp only [List.map_nil, List.reverse_nil] at qs hq ⊢
      refine wdG Y4_Rt (And.intro SPT hg) ?_
      refine AR.callSP [0, 1, 2] qs True.intro (And.intro enV_id (And.intro enL_id (And.intro byL_id (And.intro lsV_id (And.intro lsL_id (And.intro (@tyV_id) (And.intro spV_id spL_id))))))) (And.intro enV_ren (And.intro enL_ren (And.intro byL_ren (And.intro lsV_ren (And.intro lsL_ren (And.intro spV_ren spL_ren)))))) ?_
      refine goG Y4_Rt True.intro ?_
      refine AR.endD (by kernel_rfl) ?_
      refine Thn.n ?_
      refine AWp.cutP 5 [(0, .sl (l.map spV) .ro), (3, .pt 0 0), (4, .pt 3 0), (5, (.im (.int .i64 (((m : Nat) : Int))))), (6, .pt 4 0), (7, (.im (.bool (true))))] [.box [(.im (.bool (true))), .sl (L.map enV) .ro, .sl (un.map lsV) (.own 1), .sl [] (.own 2)], .tip 28 1 un.length, .tip 28 1 ([] : List (List En)).length, .box [(.im (.bool (true))), .sl (L.map enV) .ro, .sl (un.reverse.map lsV) .ro, .sl [] .ro], .box [(.im (.bool (true))), .sl (L.map enV) .ro, .sl (un.reverse.map lsV) .ro, .sl [] .ro]] (And.intro enV_id (And.intro enL_id (And.intro byL_id (And.intro lsV_id (And.intro lsL_id (And.intro (@tyV_id) (And.intro spV_id spL_id))))))) ?_
      exact hq
    · subst hz
      have qs := c_stepRedo0 L x un l2 s hul (by simp at hrl; omega) k3
      have hSI := SI.redo hI
      have hq := hr ⟨_, hSI⟩
      dsimp only at qs hq ⊢
      clear hSI hI
      generalize l2 ++ [x] = T at qs hq ⊢
      generalize un ++ [L] = D at qs hq ⊢
      refine wdG Y4_Rt (And.intro SPT hg) ?_
      refine AR.callSP [0, 1, 2] qs True.intro (And.intro enV_id (And.intro enL_id (And.intro byL_id (And.intro lsV_id (And.intro lsL_id (And.intro (@tyV_id) (And.intro spV_id spL_id))))))) (And.intro enV_ren (And.intro enL_ren (And.intro byL_ren (And.intro lsV_ren (And.intro lsL_ren (And.intro spV_ren spL_ren)))))) ?_
      refine goG Y4_Rt True.intro ?_
      refine AR.endD (by kernel_rfl) ?_
      refine Thn.n ?_
      refine AWp.cutP 5 [(0, .sl (l.map spV) .ro), (3, .pt 0 0), (4, .pt 3 0), (5, (.im (.int .i64 (((m : Nat) : Int))))), (6, .pt 4 0), (7, (.im (.bool (true))))] [.box [(.im (.bool (true))), .sl (x.map enV) .ro, .sl (D.map lsV) (.own 1), .sl (l2.map lsV) .full], .tip 28 1 D.length, .tip 28 1 T.length, .box [(.im (.bool (true))), .sl (L.map enV) .ro, .sl (un.reverse.map lsV) .ro, .sl (T.reverse.map lsV) .ro], .box [(.im (.bool (true))), .sl (x.map enV) .ro, .sl (D.reverse.map lsV) .ro, .sl (l2.reverse.map lsV) .ro]] (And.intro enV_id (And.intro enL_id (And.intro byL_id (And.intro lsV_id (And.intro lsL_id (And.intro (@tyV_id) (And.intro spV_id spL_id))))))) ?_
      refine AWp.drop1 2 [.box [(.im (.bool (true))), .sl (x.map enV) .ro, .sl (D.map lsV) (.own 1), .sl (l2.map lsV) .full], .tip 28 1 D.length, .free, .box [(.im (.bool (true))), .sl (L.map enV) .ro, .sl (un.reverse.map lsV) .ro, .sl (T.reverse.map lsV) .ro], .box [(.im (.bool (true))), .sl (x.map enV) .ro, .sl (D.reverse.map lsV) .ro, .sl (l2.reverse.map lsV) .ro]] ?_ rfl rfl (by simp [idsA, V.ids, V.idsL, spL_id, neB]) (by simp [-List.map_reverse, entOk, V.ids, V.idsL, enL_id, lsL_id, neB])
      refine AWp.tok 0 3 2 [(.im (.bool (true))), .sl (x.map enV) .ro, .sl (D.map lsV) (.own 1), .sl (l2.map lsV) .full] (l2.map lsV) .full 28 1 (l' := [.box [(.im (.bool (true))), .sl (x.map enV) .ro, .sl (D.map lsV) (.own 1), .sl (l2.map lsV) (.own 2)], .tip 28 1 D.length, .tip 28 1 l2.length, .box [(.im (.bool (true))), .sl (L.map enV) .ro, .sl (un.reverse.map lsV) .ro, .sl (T.reverse.map lsV) .ro], .box [(.im (.bool (true))), .sl (x.map enV) .ro, .sl (D.reverse.map lsV) .ro, .sl (l2.reverse.map lsV) .ro]]) ?_ (by rw [List.length_map]; rfl) rfl rfl (.inl rfl) (lsL_allS _) rfl
      exact hq
  have hgo := (otP_fine (l := s.l) (p := pz) Gd.nil rfl s5).1
  have hgm := mgE_gd (L := p.l) (O := (otP pz s.l).l) hI.gd hgo.adr
  have qs := c_stepM p s hI.gd.asc hI.gd.len hul s2 s3 s5 k0 k1 k2 k3
  have hSI : SI (p.chg ((mgE p.l p.l (otP pz s.l).l).1)) (m + 1) := hI.chg hgm
  have hchl : (p.chg ((mgE p.l p.l (otP pz s.l).l).1)).l = (mgE p.l p.l (otP pz s.l).l).1 := by unfold Pr.chg; dsimp only
  have hchu := chg_un p ((mgE p.l p.l (otP pz s.l).l).1)
  have hchr : (p.chg ((mgE p.l p.l (otP pz s.l).l).1)).re = [] := by unfold Pr.chg; dsimp only
  rw [← hchu] at qs
  generalize p.chg ((mgE p.l p.l (otP pz s.l).l).1) = q at qs hSI hchl hchu hchr
  rw [← hchl] at qs
  clear hchl hchu
  refine wdG Y4_Rt (And.intro SPT hg) ?_
  refine AR.callSP [0, 1, 2] qs True.intro (And.intro enV_id (And.intro enL_id (And.intro byL_id (And.intro lsV_id (And.intro lsL_id (And.intro (@tyV_id) (And.intro spV_id spL_id))))))) (And.intro enV_ren (And.intro enL_ren (And.intro byL_ren (And.intro lsV_ren (And.intro lsL_ren (And.intro spV_ren spL_ren)))))) ?_
  refine goG Y4_Rt True.intro ?_
  refine AR.endD (by kernel_rfl) ?_
  refine Thn.n ?_
  refine AWp.cutP 5 [(0, .sl (l.map spV) .ro), (3, .pt 0 0), (4, .pt 3 0), (5, (.im (.int .i64 (((m : Nat) : Int))))), (6, .pt 4 0), (7, (.im (.bool (true))))] [.box [(.im (.bool (true))), .sl (q.l.map enV) .ro, .sl (q.un.map lsV) .full, .sl [] .nl], .tip 28 1 (p.un.length + 1), .tip 28 1 p.re.length, .box [(.im (.bool (true))), .sl ((p).l.map enV) .ro, .sl ((p).un.reverse.map lsV) .ro, .sl ((p).re.reverse.map lsV) .ro], .box [(.im (.bool (true))), .sl ((q).l.map enV) .ro, .sl ((q).un.reverse.map lsV) .ro, .sl ((q).re.reverse.map lsV) .ro]] (And.intro enV_id (And.intro enL_id (And.intro byL_id (And.intro lsV_id (And.intro lsL_id (And.intro (@tyV_id) (And.intro spV_id spL_id))))))) ?_
  refine AWp.drop1 1 [.box [(.im (.bool (true))), .sl (q.l.map enV) .ro, .sl (q.un.map lsV) .full, .sl [] .nl], .free, .tip 28 1 p.re.length, .box [(.im (.bool (true))), .sl ((p).l.map enV) .ro, .sl ((p).un.reverse.map lsV) .ro, .sl ((p).re.reverse.map lsV) .ro], .box [(.im (.bool (true))), .sl ((q).l.map enV) .ro, .sl ((q).un.reverse.map lsV) .ro, .sl ((q).re.reverse.map lsV) .ro]] ?_ rfl rfl (by simp [idsA, V.ids, V.idsL, spL_id, neB]) (by simp [-List.map_reverse, entOk, V.ids, V.idsL, enL_id, lsL_id, neB])
  refine AWp.drop1 2 [.box [(.im (.bool (true))), .sl (q.l.map enV) .ro, .sl (q.un.map lsV) .full, .sl [] .nl], .free, .free, .box [(.im (.bool (true))), .sl ((p).l.map enV) .ro, .sl ((p).un.reverse.map lsV) .ro, .sl ((p).re.reverse.map lsV) .ro], .box [(.im (.bool (true))), .sl ((q).l.map enV) .ro, .sl ((q).un.reverse.map lsV) .ro, .sl ((q).re.reverse.map lsV) .ro]] ?_ rfl rfl (by simp [idsA, V.ids, V.idsL, spL_id, neB]) (by simp [-List.map_reverse, entOk, V.ids, V.idsL, enL_id, lsL_id, neB])
  refine AWp.tok 0 2 1 [(.im (.bool (true))), .sl (q.l.map enV) .ro, .sl (q.un.map lsV) .full, .sl [] .nl] (q.un.map lsV) .full 28 1 (l' := [.box [(.im (.bool (true))), .sl (q.l.map enV) .ro, .sl (q.un.map lsV) (.own 1), .sl [] .nl], .tip 28 1 q.un.length, .free, .box [(.im (.bool (true))), .sl ((p).l.map enV) .ro, .sl ((p).un.reverse.map lsV) .ro, .sl ((p).re.reverse.map lsV) .ro], .box [(.im (.bool (true))), .sl ((q).l.map enV) .ro, .sl ((q).un.reverse.map lsV) .ro, .sl ((q).re.reverse.map lsV) .ro]]) ?_ (by rw [List.length_map]; rfl) rfl rfl (.inl rfl) (lsL_allS _) rfl
  refine AWp.tok 0 3 2 [(.im (.bool (true))), .sl (q.l.map enV) .ro, .sl (q.un.map lsV) (.own 1), .sl [] .nl] [] .nl 28 1 (l' := [.box [(.im (.bool (true))), .sl (q.l.map enV) .ro, .sl (q.un.map lsV) (.own 1), .sl [] (.own 2)], .tip 28 1 q.un.length, .tip 28 1 0, .box [(.im (.bool (true))), .sl ((p).l.map enV) .ro, .sl ((p).un.reverse.map lsV) .ro, .sl ((p).re.reverse.map lsV) .ro], .box [(.im (.bool (true))), .sl ((q).l.map enV) .ro, .sl ((q).un.reverse.map lsV) .ro, .sl ((q).re.reverse.map lsV) .ro]]) ?_ rfl rfl rfl (.inr rfl) rfl rfl
  have hq := hr ⟨q, hSI⟩
  dsimp only at hq
  rw [hchr] at hq ⊢
  exact hq
end Go.Proofs.YtianekkfehoedaaGreatDoor
