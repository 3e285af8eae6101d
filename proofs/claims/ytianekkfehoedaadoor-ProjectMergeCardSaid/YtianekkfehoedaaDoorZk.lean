/- Walks of the laws: ProjectUndo, ProjectOrder. -/
import Derived.Test.YtianekkfehoedaaDoorHv
import Derived.Test.YtianekkfehoedaaDoorK9
namespace Go.Proofs.YtianekkfehoedaaDoor
set_option linter.unusedSimpArgs false
set_option linter.unusedVariables false
set_option linter.unnecessarySimpa false
open Go.RowKit
def p0 : Pr := ⟨[], [], []⟩
theorem lg_spec {l : List Sp} (h : lgB l = true) : l.length ≤ 30 ∧ ∀ s ∈ l, s.e.text.length ≤ 400 := by
  unfold lgB at h
  rw [Bool.and_eq_true, decide_eq_true_eq, List.all_eq_true] at h
  refine ⟨h.2, fun s hs => ?_⟩
  have := h.1 s hs
  unfold lgS at this
  simp only [Bool.and_eq_true, decide_eq_true_eq] at this
  exact this.2.1
theorem runP_fine : ∀ {l : List Sp} {p : Pr}, AscE p.l → p.l.length ≤ 1024 → AscE (runP p l).l ∧ (runP p l).l.length ≤ 1024 ∧ (runP p l).un.length ≤ p.un.length + l.length
  | [], p, h1, h2 => ⟨h1, h2, by simp [runP]⟩
  | s :: l, p, h1, h2 => by
    have hcl := clip_le (p.un ++ [p.l])
    rw [List.length_append, List.length_cons, List.length_nil] at hcl
    have hst : AscE (stP p s).l ∧ (stP p s).l.length ≤ 1024 ∧ (stP p s).un.length ≤ p.un.length + 1 := by
      have same : AscE p.l ∧ p.l.length ≤ 1024 ∧ p.un.length ≤ p.un.length + 1 := ⟨h1, h2, by omega⟩
      unfold stP Pr.put Pr.rem Pr.chg
      by_cases k0 : s.kind = 0
      · rw [if_pos k0]
        by_cases hE : eErr p.l s.e = 0
        · rw [if_pos hE]
          dsimp only
          exact ⟨asc_eWith h1 _, len_eWith h2 hE, hcl⟩
        · rw [if_neg hE]; exact same
      · rw [if_neg k0]
        by_cases k1 : s.kind = 1
        · rw [if_pos k1]
          by_cases hE : rmErr p.l s.e = 0
          · rw [if_pos hE]
            dsimp only
            exact ⟨asc_delE _ h1, Nat.le_trans (List.Sublist.length_le (List.eraseIdx_sublist _ _)) h2, hcl⟩
          · rw [if_neg hE]; exact same
        · rw [if_neg k1]; exact same
    obtain ⟨a1, a2, a3⟩ := runP_fine (l := l) hst.1 hst.2.1
    rw [runP_cons]
    refine ⟨a1, a2, ?_⟩
    rw [List.length_cons]
    omega

theorem c_undo47 (l more : List Sp) (hl : l.length ≤ 4194304) (hm : more.length ≤ 4194304) : PC Tryd.prog 3 [.sl (l.map spV) .ro, .sl (more.map spV) .ro] (.im (.bool (true))) := by
  have qx := c_example47
  have ql := c_light l hl
  have qm := c_light more hm
  have qn := c_New
  refine PC.enter 62 Tryd.func3 rfl (by decide) rfl rfl (s := [(0, .sl (l.map spV) .ro), (1, .sl (more.map spV) .ro)]) (by rfl) ?_
  refine wG True.intro True.intro ?_
  refine AR.callP qx True.intro (And.intro enV_id (And.intro enL_id (And.intro byL_id (And.intro lsV_id (And.intro lsL_id (And.intro (@tyV_id) (And.intro flE_id (And.intro spV_id spL_id)))))))) ?_
  refine goG True.intro True.intro ?_
  refine wG True.intro True.intro ?_
  refine AR.callP ql True.intro (And.intro enV_id (And.intro enL_id (And.intro byL_id (And.intro lsV_id (And.intro lsL_id (And.intro (@tyV_id) (And.intro flE_id (And.intro spV_id spL_id)))))))) ?_
  cases hlg : lgB l with
  | false =>
    refine goG True.intro True.intro ?_
    refine wG True.intro True.intro ?_
    exact Fin.oneP
  | true =>
  refine goG True.intro True.intro ?_
  refine AR.callP qm True.intro (And.intro enV_id (And.intro enL_id (And.intro byL_id (And.intro lsV_id (And.intro lsL_id (And.intro (@tyV_id) (And.intro flE_id (And.intro spV_id spL_id)))))))) ?_
  cases hmg : lgB more with
  | false =>
    refine goG True.intro True.intro ?_
    refine wG True.intro True.intro ?_
    exact Fin.oneP
  | true =>
  obtain ⟨l30, lt⟩ := lg_spec hlg
  obtain ⟨m30, mt⟩ := lg_spec hmg
  have r1 := c_run p0 l List.Pairwise.nil (by decide) rfl (by decide) l30 lt
  obtain ⟨a1, a2, a3⟩ := runP_fine (l := l) (p := p0) List.Pairwise.nil (by decide)
  have s1 := (runP_spec (l := l) (p := p0) (by show 0 + l.length ≤ 256; omega) rfl).1
  have a3 : (runP p0 l).un.length ≤ 30 := by have : p0.un.length = 0 := rfl; omega
  generalize runP p0 l = P1 at r1 a1 a2 a3 s1
  have r2 := c_AllN P1.l P1.un a2
  have r3 := c_run P1 more a1 a2 s1 (by omega) m30 mt
  obtain ⟨b1, b2, b3⟩ := runP_fine (l := more) a1 a2
  obtain ⟨s2, h, hn, hu, h0⟩ := runP_spec (l := more) (p := P1) (by omega) s1
  have hnm := runP_len (l := more) (p := P1)
  generalize runN P1 more = n at r3 hn hnm
  generalize runP P1 more = P2 at r3 b1 b2 b3 s2 hu h0
  have r4 := c_AllN P2.l P2.un b2
  obtain ⟨X, hX⟩ : ∃ X, X = h ++ [P2.l] := ⟨_, rfl⟩
  have hXl : X.length = n + 1 := by rw [hX]; simp [hn]
  have e0 : hisP P1.un X 0 = ⟨P1.l, P1.un, (X.drop 1).reverse⟩ := by
    unfold hisP
    rw [hX, List.getD_eq_getElem?_getD, h0]
    simp
  have en : hisP P1.un X n = ⟨P2.l, P2.un, []⟩ := by
    unfold hisP
    rw [hX, hu, ← hn]
    simp [List.getD]
  obtain ⟨X0, hX0⟩ : ∃ X0, X0 = P1.l := ⟨_, rfl⟩
  obtain ⟨Xn, hXn⟩ : ∃ Xn, Xn = P2.l := ⟨_, rfl⟩
  have q5 := c_sameT X0 (by rw [hX0]; omega)
  have q6 := c_sameT Xn (by rw [hXn]; omega)
  refine goG True.intro True.intro ?_
  refine wG True.intro True.intro ?_
  refine AR.callSP [0] qn True.intro (And.intro enV_id (And.intro enL_id (And.intro byL_id (And.intro lsV_id (And.intro lsL_id (And.intro (@tyV_id) (And.intro flE_id (And.intro spV_id spL_id)))))))) (And.intro enV_ren (And.intro enL_ren (And.intro byL_ren (And.intro lsV_ren (And.intro lsL_ren (And.intro flE_ren (And.intro spV_ren spL_ren))))))) ?_
  refine goG True.intro True.intro ?_
  refine AR.end ?_
  refine Thn.n ?_
  refine AWp.frz 1 [(0, .sl (l.map spV) .ro), (1, .sl (more.map spV) .ro), (5, .pt 0 0)] [.box [(.im (.bool (true))), .sl [] .ro, .sl [] .full, .sl [] .nl]] ?_ (by simp) (by repeat (first | exact WkFA.nil | refine WkFA.cons (by first | exact .of (Wk.refl _) (by first | rfl | simp only [List.length_cons, List.length_nil, Nat.reduceAdd, V.ids, V.idsL, idsA, entOk, List.all_cons, List.all_nil, Bool.and_self, Bool.and_true, Bool.true_and, ltB, noId, Nat.reduceLT, decide_true, Bool.true_eq_false, tyV_id, fdV_id, tyL_id, fdL_id, enV_id, enL_id, byL_id, lsV_id, lsL_id, tyV_id, flE_id, spV_id, spL_id]) | exact .of (Wk.ro _ _) rfl | exact .of (Wk.nlF _) rfl) ?_)) (by repeat (first | exact WkFE.nil | refine WkFE.box (by repeat (first | exact WkFL.nil | refine WkFL.cons (by first | exact .of (Wk.refl _) (by first | rfl | simp only [List.length_cons, List.length_nil, Nat.reduceAdd, V.ids, V.idsL, idsA, entOk, List.all_cons, List.all_nil, Bool.and_self, Bool.and_true, Bool.true_and, ltB, noId, Nat.reduceLT, decide_true, Bool.true_eq_false, tyV_id, fdV_id, tyL_id, fdL_id, enV_id, enL_id, byL_id, lsV_id, lsL_id, tyV_id, flE_id, spV_id, spL_id]) | exact .of (Wk.ro _ _) rfl | exact .of (Wk.nlF _) rfl) ?_)) ?_ | refine WkFE.same (fun _ e => by cases e) ?_)) (fun i hi => by first | exact absurd rfl hi | exact Nat.lt_of_lt_of_le (ofl_lt hi) (by simp))
  refine wG True.intro True.intro ?_
  refine AR.callSP [0] r1 True.intro (And.intro enV_id (And.intro enL_id (And.intro byL_id (And.intro lsV_id (And.intro lsL_id (And.intro (@tyV_id) (And.intro flE_id (And.intro spV_id spL_id)))))))) (And.intro enV_ren (And.intro enL_ren (And.intro byL_ren (And.intro lsV_ren (And.intro lsL_ren (And.intro flE_ren (And.intro spV_ren spL_ren))))))) ?_
  refine goG True.intro True.intro ?_
  refine wG True.intro True.intro ?_
  refine AR.callQP [0] r2 True.intro (And.intro enV_id (And.intro enL_id (And.intro byL_id (And.intro lsV_id (And.intro lsL_id (And.intro (@tyV_id) (And.intro flE_id (And.intro spV_id spL_id)))))))) (And.intro enV_ren (And.intro enL_ren (And.intro byL_ren (And.intro lsV_ren (And.intro lsL_ren (And.intro flE_ren (And.intro spV_ren spL_ren))))))) ?_
  refine goG True.intro True.intro ?_
  refine wG True.intro True.intro ?_
  refine AR.callSP [0] r3 True.intro (And.intro enV_id (And.intro enL_id (And.intro byL_id (And.intro lsV_id (And.intro lsL_id (And.intro (@tyV_id) (And.intro flE_id (And.intro spV_id spL_id)))))))) (And.intro enV_ren (And.intro enL_ren (And.intro byL_ren (And.intro lsV_ren (And.intro lsL_ren (And.intro flE_ren (And.intro spV_ren spL_ren))))))) ?_
  refine goG True.intro True.intro ?_
  refine wG True.intro True.intro ?_
  refine AR.callQP [0] r4 True.intro (And.intro enV_id (And.intro enL_id (And.intro byL_id (And.intro lsV_id (And.intro lsL_id (And.intro (@tyV_id) (And.intro flE_id (And.intro spV_id spL_id)))))))) (And.intro enV_ren (And.intro enL_ren (And.intro byL_ren (And.intro lsV_ren (And.intro lsL_ren (And.intro flE_ren (And.intro spV_ren spL_ren))))))) ?_
  refine goG True.intro True.intro ?_
  refine wG True.intro True.intro ?_
  rw [← hX0, ← hXn]
  refine AWp.tok 0 3 1 [(.im (.bool (true))), .sl (Xn.map enV) .ro, .sl (P2.un.map lsV) .full, .sl [] .nl] [] .nl 28 1 (l' := [.box [(.im (.bool (true))), .sl (Xn.map enV) .ro, .sl (P2.un.map lsV) .full, .sl [] (.own 1)], .tip 28 1 0]) ?_ rfl rfl rfl (.inr rfl) rfl rfl
  refine AWp.loop ?_
  refine ALp.cutP 2 [(5, .pt 0 0), (6, .sl (X0.map enV) .ro), (7, (.im (.int .i64 (((n : Nat) : Int))))), (8, .sl (Xn.map enV) .ro), (9, (.im (.int .i64 ((((0 : Nat)) : Int)))))] [.box [(.im (.bool (true))), .sl (((⟨Xn, P2.un, []⟩ : Pr)).l.map enV) .ro, .sl (((⟨Xn, P2.un, []⟩ : Pr)).un.map lsV) .full, .sl (((⟨Xn, P2.un, []⟩ : Pr)).re.map lsV) (.own 1)], .tip 28 1 ((⟨Xn, P2.un, []⟩ : Pr)).re.length] (And.intro enV_id (And.intro enL_id (And.intro byL_id (And.intro lsV_id (And.intro lsL_id (And.intro (@tyV_id) (And.intro flE_id (And.intro spV_id spL_id)))))))) ?_
  have en' : (⟨Xn, P2.un, []⟩ : Pr) = hisP P1.un X (n - 0) := by rw [Nat.sub_zero, en, hXn]
  rw [en']
  refine ALp.upto n (fun _ => True) (fun i => ⟨dn 62 [(5, .pt 0 0), (6, .sl (X0.map enV) .ro), (7, (.im (.int .i64 (((n : Nat) : Int))))), (8, .sl (Xn.map enV) .ro), (9, (.im (.int .i64 ((((i : Nat)) : Int)))))], ofl [.box [(.im (.bool (true))), .sl ((hisP P1.un X (n - i)).l.map enV) .ro, .sl ((hisP P1.un X (n - i)).un.map lsV) .full, .sl ((hisP P1.un X (n - i)).re.map lsV) (.own 1)], .tip 28 1 (hisP P1.un X (n - i)).re.length]⟩) ?_ 0 (Nat.zero_le _) trivial
  intro i hi _ hnext
  by_cases hlt : i < n
  · have hlt' : (i : Int) < (n : Int) := by omega
    have hm1 := wrap_succ hlt (by omega)
    obtain ⟨k, hk⟩ : ∃ k, n - i = k + 1 := ⟨n - i - 1, by omega⟩
    have hk2 : n - (i + 1) = k := by omega
    have hn := hnext (i + 1) (by omega) (by omega) trivial
    clear hnext
    obtain ⟨e1, e2⟩ := hisP_undo (U := P1.un) (X := X) (i := k) (by omega)
    rw [hk, e1]
    rw [hk2, e2] at hn
    have qu := c_Undo0O (X.getD (k + 1) []) (X.getD k []) (P1.un ++ X.take k) (X.drop (k + 2)).reverse (by simp; omega) (by simp; omega)
    clear en' en e0 e1 e2
    generalize X.getD (k + 1) [] = La at qu hn ⊢
    generalize X.getD k [] = Lb at qu hn ⊢
    generalize P1.un ++ X.take k = Lu at qu hn ⊢
    generalize (X.drop (k + 2)).reverse = Lr at qu hn ⊢
    dsimp only at hn ⊢
    generalize Lr ++ [La] = Lq at qu hn
    refine wG True.intro hlt' ?_
    refine AR.callSP [0, 1] qu True.intro (And.intro enV_id (And.intro enL_id (And.intro byL_id (And.intro lsV_id (And.intro lsL_id (And.intro (@tyV_id) (And.intro flE_id (And.intro spV_id spL_id)))))))) (And.intro enV_ren (And.intro enL_ren (And.intro byL_ren (And.intro lsV_ren (And.intro lsL_ren (And.intro flE_ren (And.intro spV_ren spL_ren))))))) ?_
    refine goG True.intro True.intro ?_
    refine wG True.intro hm1 ?_
    refine ALp.cutP 2 [(5, .pt 0 0), (6, .sl (X0.map enV) .ro), (7, (.im (.int .i64 (((n : Nat) : Int))))), (8, .sl (Xn.map enV) .ro), (9, (.im (.int .i64 ((((i + 1 : Nat)) : Int)))))] [.box [(.im (.bool (true))), .sl (((⟨Lb, Lu, Lq⟩ : Pr)).l.map enV) .ro, .sl (((⟨Lb, Lu, Lq⟩ : Pr)).un.map lsV) .full, .sl (((⟨Lb, Lu, Lq⟩ : Pr)).re.map lsV) (.own 1)], .tip 28 1 ((⟨Lb, Lu, Lq⟩ : Pr)).re.length] (And.intro enV_id (And.intro enL_id (And.intro byL_id (And.intro lsV_id (And.intro lsL_id (And.intro (@tyV_id) (And.intro flE_id (And.intro spV_id spL_id)))))))) ?_
    exact hn
  obtain rfl : i = n := by omega
  have hlt' : ¬ (i : Int) < (i : Int) := by omega
  rw [Nat.sub_self, e0, ← hX0]
  clear hnext hlt en'
  have hRl : (X.drop 1).reverse.length ≤ 4194304 := by simp; omega
  have qa := c_AllO X0 P1.un (X.drop 1).reverse (by rw [hX0]; exact a2)
  generalize hR : (X.drop 1).reverse = R at qa e0 hRl ⊢
  dsimp only
  refine wG True.intro hlt' ?_
  refine AR.callQP [0, 1] qa True.intro (And.intro enV_id (And.intro enL_id (And.intro byL_id (And.intro lsV_id (And.intro lsL_id (And.intro (@tyV_id) (And.intro flE_id (And.intro spV_id spL_id)))))))) (And.intro enV_ren (And.intro enL_ren (And.intro byL_ren (And.intro lsV_ren (And.intro lsL_ren (And.intro flE_ren (And.intro spV_ren spL_ren))))))) ?_
  refine goG True.intro True.intro ?_
  refine AR.callP q5 True.intro (And.intro enV_id (And.intro enL_id (And.intro byL_id (And.intro lsV_id (And.intro lsL_id (And.intro (@tyV_id) (And.intro flE_id (And.intro spV_id spL_id)))))))) ?_
  refine goG True.intro True.intro ?_
  refine wG True.intro True.intro ?_
  refine AWp.frz 2 [(5, .pt 0 0), (7, (.im (.int .i64 (((i : Nat) : Int))))), (8, .sl (Xn.map enV) .ro), (10, (.im (.int .i64 ((((0 : Nat)) : Int)))))] [.box [(.im (.bool (true))), .sl (X0.map enV) .ro, .sl (P1.un.map lsV) .full, .sl (R.map lsV) .ro], .tip 28 1 R.length] ?_ (by simp) (by repeat (first | exact WkFA.nil | refine WkFA.cons (by first | exact .of (Wk.refl _) (by first | rfl | simp only [List.length_cons, List.length_nil, Nat.reduceAdd, V.ids, V.idsL, idsA, entOk, List.all_cons, List.all_nil, Bool.and_self, Bool.and_true, Bool.true_and, ltB, noId, Nat.reduceLT, decide_true, Bool.true_eq_false, tyV_id, fdV_id, tyL_id, fdL_id, enV_id, enL_id, byL_id, lsV_id, lsL_id, tyV_id, flE_id, spV_id, spL_id]) | exact .of (Wk.ro _ _) (by simp [V.ids, lsL_id])) ?_)) (by repeat (first | exact WkFE.nil | refine WkFE.box (by repeat (first | exact WkFL.nil | refine WkFL.cons (by first | exact .of (Wk.refl _) (by first | rfl | simp only [List.length_cons, List.length_nil, Nat.reduceAdd, V.ids, V.idsL, idsA, entOk, List.all_cons, List.all_nil, Bool.and_self, Bool.and_true, Bool.true_and, ltB, noId, Nat.reduceLT, decide_true, Bool.true_eq_false, tyV_id, fdV_id, tyL_id, fdL_id, enV_id, enL_id, byL_id, lsV_id, lsL_id, tyV_id, flE_id, spV_id, spL_id]) | exact .of (Wk.ro _ _) (by simp [V.ids, lsL_id])) ?_)) ?_ | refine WkFE.same (fun _ e => by cases e) ?_)) (fun i hi => by first | exact absurd rfl hi | exact Nat.lt_of_lt_of_le (ofl_lt hi) (by simp))
  refine AWp.drop1 1 [.box [(.im (.bool (true))), .sl (X0.map enV) .ro, .sl (P1.un.map lsV) .full, .sl (R.map lsV) .ro], .free] ?_ rfl rfl (by simp [idsA, V.ids, V.idsL, enL_id, neB]) (by simp [entOk, V.ids, V.idsL, enL_id, lsL_id])
  refine AWp.tok 0 2 1 [(.im (.bool (true))), .sl (X0.map enV) .ro, .sl (P1.un.map lsV) .full, .sl (R.map lsV) .ro] (P1.un.map lsV) .full 28 1 (l' := [.box [(.im (.bool (true))), .sl (X0.map enV) .ro, .sl (P1.un.map lsV) (.own 1), .sl (R.map lsV) .ro], .tip 28 1 P1.un.length]) ?_ (by rw [List.length_map]; rfl) rfl rfl (.inl rfl) (lsL_allS _) rfl
  refine AWp.loop ?_
  refine ALp.cutP 2 [(5, .pt 0 0), (7, (.im (.int .i64 (((i : Nat) : Int))))), (8, .sl (Xn.map enV) .ro), (10, (.im (.int .i64 ((((0 : Nat)) : Int)))))] [.box [(.im (.bool (true))), .sl (((⟨X0, P1.un, R⟩ : Pr)).l.map enV) .ro, .sl (((⟨X0, P1.un, R⟩ : Pr)).un.map lsV) (.own 1), .sl (((⟨X0, P1.un, R⟩ : Pr)).re.map lsV) .ro], .tip 28 1 ((⟨X0, P1.un, R⟩ : Pr)).un.length] (And.intro enV_id (And.intro enL_id (And.intro byL_id (And.intro lsV_id (And.intro lsL_id (And.intro (@tyV_id) (And.intro flE_id (And.intro spV_id spL_id)))))))) ?_
  rw [← hX0] at e0
  rw [← e0]
  refine ALp.upto i (fun _ => True) (fun j => ⟨dn 62 [(5, .pt 0 0), (7, (.im (.int .i64 (((i : Nat) : Int))))), (8, .sl (Xn.map enV) .ro), (10, (.im (.int .i64 ((((j : Nat)) : Int)))))], ofl [.box [(.im (.bool (true))), .sl ((hisP P1.un X j).l.map enV) .ro, .sl ((hisP P1.un X j).un.map lsV) (.own 1), .sl ((hisP P1.un X j).re.map lsV) .ro], .tip 28 1 (hisP P1.un X j).un.length]⟩) ?_ 0 (Nat.zero_le _) trivial
  intro j hj _ hnext
  by_cases hlt : j < i
  · have hlt' : (j : Int) < (i : Int) := by omega
    have hm1 := wrap_succ hlt (by omega)
    have hn := hnext (j + 1) (by omega) (by omega) trivial
    clear hnext
    obtain ⟨e1, e2⟩ := hisP_undo (U := P1.un) (X := X) (i := j) (by omega)
    rw [e2]
    rw [e1] at hn
    have qu := c_Redo0P (X.getD j []) (X.getD (j + 1) []) (P1.un ++ X.take j) (X.drop (j + 2)).reverse (by simp; omega) (by simp; omega)
    clear en e0 e1 e2
    generalize X.getD (j + 1) [] = Lb at qu hn ⊢
    generalize X.getD j [] = La at qu hn ⊢
    generalize P1.un ++ X.take j = Lu at qu hn ⊢
    generalize (X.drop (j + 2)).reverse = Lr at qu hn ⊢
    dsimp only at hn ⊢
    generalize Lu ++ [La] = Lq at qu hn
    refine wG True.intro hlt' ?_
    refine AR.callSP [0, 1] qu True.intro (And.intro enV_id (And.intro enL_id (And.intro byL_id (And.intro lsV_id (And.intro lsL_id (And.intro (@tyV_id) (And.intro flE_id (And.intro spV_id spL_id)))))))) (And.intro enV_ren (And.intro enL_ren (And.intro byL_ren (And.intro lsV_ren (And.intro lsL_ren (And.intro flE_ren (And.intro spV_ren spL_ren))))))) ?_
    refine goG True.intro True.intro ?_
    refine AR.end ?_
    refine Thn.n ?_
    refine AWp.frz 2 [(5, .pt 0 0), (7, (.im (.int .i64 (((i : Nat) : Int))))), (8, .sl (Xn.map enV) .ro), (10, (.im (.int .i64 (((j : Nat) : Int))))), (52, (.im (.bool (false))))] [.box [(.im (.bool (true))), .sl (Lb.map enV) .ro, .sl (Lq.map lsV) (.own 1), .sl (Lr.map lsV) .ro], .tip 28 1 Lq.length] ?_ (by simp) (by repeat (first | exact WkFA.nil | refine WkFA.cons (by first | exact .of (Wk.refl _) (by first | rfl | simp only [List.length_cons, List.length_nil, Nat.reduceAdd, V.ids, V.idsL, idsA, entOk, List.all_cons, List.all_nil, Bool.and_self, Bool.and_true, Bool.true_and, ltB, noId, Nat.reduceLT, decide_true, Bool.true_eq_false, tyV_id, fdV_id, tyL_id, fdL_id, enV_id, enL_id, byL_id, lsV_id, lsL_id, tyV_id, flE_id, spV_id, spL_id]) | exact .of (Wk.ro _ _) (by simp [V.ids, lsL_id])) ?_)) (by repeat (first | exact WkFE.nil | refine WkFE.box (by repeat (first | exact WkFL.nil | refine WkFL.cons (by first | exact .of (Wk.refl _) (by first | rfl | simp only [List.length_cons, List.length_nil, Nat.reduceAdd, V.ids, V.idsL, idsA, entOk, List.all_cons, List.all_nil, Bool.and_self, Bool.and_true, Bool.true_and, ltB, noId, Nat.reduceLT, decide_true, Bool.true_eq_false, tyV_id, fdV_id, tyL_id, fdL_id, enV_id, enL_id, byL_id, lsV_id, lsL_id, tyV_id, flE_id, spV_id, spL_id]) | exact .of (Wk.ro _ _) (by simp [V.ids, lsL_id])) ?_)) ?_ | refine WkFE.same (fun _ e => by cases e) ?_)) (fun i hi => by first | exact absurd rfl hi | exact Nat.lt_of_lt_of_le (ofl_lt hi) (by simp))
    refine wG True.intro hm1 ?_
    refine ALp.cutP 2 [(5, .pt 0 0), (7, (.im (.int .i64 (((i : Nat) : Int))))), (8, .sl (Xn.map enV) .ro), (10, (.im (.int .i64 ((((j + 1 : Nat)) : Int)))))] [.box [(.im (.bool (true))), .sl (((⟨Lb, Lq, Lr⟩ : Pr)).l.map enV) .ro, .sl (((⟨Lb, Lq, Lr⟩ : Pr)).un.map lsV) (.own 1), .sl (((⟨Lb, Lq, Lr⟩ : Pr)).re.map lsV) .ro], .tip 28 1 ((⟨Lb, Lq, Lr⟩ : Pr)).un.length] (And.intro enV_id (And.intro enL_id (And.intro byL_id (And.intro lsV_id (And.intro lsL_id (And.intro (@tyV_id) (And.intro flE_id (And.intro spV_id spL_id)))))))) ?_
    exact hn
  obtain rfl : j = i := by omega
  have hlt' : ¬ (j : Int) < (j : Int) := by omega
  rw [en, ← hXn]
  clear hnext hlt e0 en
  have qz := c_AllP Xn P2.un [] (by rw [hXn]; exact b2)
  have qr := c_Redo1P Xn P2.un
  rw [List.map_nil] at qz
  dsimp only
  rw [List.map_nil]
  refine wG True.intro hlt' ?_
  refine AR.callQP [0, 1] qz True.intro (And.intro enV_id (And.intro enL_id (And.intro byL_id (And.intro lsV_id (And.intro lsL_id (And.intro (@tyV_id) (And.intro flE_id (And.intro spV_id spL_id)))))))) (And.intro enV_ren (And.intro enL_ren (And.intro byL_ren (And.intro lsV_ren (And.intro lsL_ren (And.intro flE_ren (And.intro spV_ren spL_ren))))))) ?_
  refine goG True.intro True.intro ?_
  refine AR.callP q6 True.intro (And.intro enV_id (And.intro enL_id (And.intro byL_id (And.intro lsV_id (And.intro lsL_id (And.intro (@tyV_id) (And.intro flE_id (And.intro spV_id spL_id)))))))) ?_
  refine goG True.intro True.intro ?_
  refine AR.callQP [0, 1] qr True.intro (And.intro enV_id (And.intro enL_id (And.intro byL_id (And.intro lsV_id (And.intro lsL_id (And.intro (@tyV_id) (And.intro flE_id (And.intro spV_id spL_id)))))))) (And.intro enV_ren (And.intro enL_ren (And.intro byL_ren (And.intro lsV_ren (And.intro lsL_ren (And.intro flE_ren (And.intro spV_ren spL_ren))))))) ?_
  refine goG True.intro True.intro ?_
  refine wG True.intro True.intro ?_
  exact Fin.oneP
end Go.Proofs.YtianekkfehoedaaDoor

