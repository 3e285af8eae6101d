/- Walks: the type of an access. -/
import Derived.Test.YtfggemopnlffeaaHw
import Derived.Test.YtfggemopnlffeaaB8
namespace Go.Proofs.Ytfggemopnlffeaa
set_option linter.unusedSimpArgs false
set_option linter.unusedVariables false
set_option linter.unnecessarySimpa false
open Go.RowKit
theorem fit_at {t : Ty} (h : fit t) : fit (t.at_ 0) := by
  cases t with
  | mk o k s c es fs =>
    obtain ⟨h1, h2, h3, h4⟩ := fit_mk h
    obtain ⟨_, g2, g3, g4⟩ := fit_num h
    have e : fitB (.mk 0 k s c es fs) = _ := Ty.para_mk _ 0 k s c es fs
    show fitB (.mk 0 k s c es fs) = true
    rw [e]
    simp only [Bool.and_eq_true, decide_eq_true_eq, Ty.off, Ty.kind, Ty.size, Ty.count, Ty.elem, Ty.fields, List.all_map, List.all_eq_true]
    exact ⟨⟨⟨⟨decide_eq_true ⟨by unfold I64; omega, g2, g3, g4⟩, decide_eq_true h1⟩, decide_eq_true h2⟩, h3⟩, h4⟩
theorem fat_fit {t : Ty} {off w : Int} {x : Ty} (h : fit t) (hx : fat t off w = some x) : fit x :=
  fat_part (P := fit) (fun _ => fit_at) (fun _ _ _ _ _ _ h => ⟨(fit_mk h).2.2.1, (fit_mk h).2.2.2⟩) t off w x h hx
theorem c_FieldAt (t : Ty) (hfit : fit t) (off w : Int) (hoff : I64 off) : PC Try.prog 21 [tyV t, (.im (.int .i64 (off))), (.im (.int .i64 (w)))] (.tu [tyV ((fieldA t off w).getD tz), (.im (.bool ((fieldA t off w).isSome)))]) := by
  have hg := c_good t hfit
  refine PC.enter 38 Try.func21 rfl (by decide) rfl rfl (s := [(0, tyV t), (1, (.im (.int .i64 (off)))), (2, (.im (.int .i64 (w))))]) (by rfl) ?_
  rw [tyV_eq t]
  unfold fieldA
  cases b : good t with
  | false =>
    rw [b] at hg
    simp only [Bool.false_and, Bool.false_eq_true, if_false, tyV_mk, Option.getD_some, Option.getD_none, Option.isSome_some, Option.isSome_none]
    refine w21 True.intro ?_
    refine AR.callP hg @tyV_eq True.intro ?_
    refine go21 True.intro ?_
    refine w21 True.intro ?_
    refine Fin.gen0 (rs := [.cell 6 25, .tmp 7]) rfl (by first | exact .inl rfl | exact .inr rfl) (by simp only [resX, resA, ↓accU_f, ↓reduceIte, SA, SB, SC, SD, T21, valG, fpsG, evO, evB, evA, evA1, nilK, eqF, eqC, apOk, intOf, slB, slK,  gd, St.ev, putA, ofl, wrl, putE, V.ofVal, V.ofCell, bin2, un1, seg, fillV, partsOk, Value.oneCell', Nat.reduceBEq, Nat.reduceLT, Nat.reduceSub, Nat.reduceAdd, Nat.reduceMul, Nat.reduceLeDiff, Nat.reduceEqDiff, reduceCtorEq, Int.reduceLT, Int.reduceLE, Int.reduceEq, Int.reduceNe, Int.reduceBEq, Int.reduceBNe, Int.reduceAdd, Int.reduceSub, Int.reduceMul, Int.reduceToNat]; with_reducible exact rfl) ?_
    simp only [tz, tyV_mk, List.map_nil]
    repeat (first | exact WkF.of (Wk.refl _) (by first | rfl | simp only [List.length_cons, List.length_nil, Nat.reduceAdd, V.ids, V.idsL, idsA, entOk, List.all_cons, List.all_nil, Bool.and_self, Bool.and_true, Bool.true_and, ltB, noId, Nat.reduceLT, decide_true, Bool.true_eq_false, tyV_id, fdV_id, tyL_id, fdL_id]) | exact WkF.of (Wk.ro _ _) (by first | rfl | simp only [List.length_cons, List.length_nil, Nat.reduceAdd, V.ids, V.idsL, idsA, entOk, List.all_cons, List.all_nil, Bool.and_self, Bool.and_true, Bool.true_and, ltB, noId, Nat.reduceLT, decide_true, Bool.true_eq_false, tyV_id, fdV_id, tyL_id, fdL_id]) | refine WkF.tu ?_ | refine WkF.ag ?_ | refine WkFL.cons ?_ ?_ | exact WkFL.nil)
  | true =>
    rw [b] at hg
    have hf := c_fatP t hfit (good_frm b) off w hoff
    by_cases hw : w = 1 ∨ w = 2 ∨ w = 4
    · have e : (w == 1 || w == 2 || w == 4) = true := by rcases hw with rfl | rfl | rfl <;> rfl
      rw [e]
      simp only [Bool.and_self, if_true]
      rcases hw with rfl | rfl | rfl
      all_goals
        refine w21 True.intro ?_
        refine AR.callP hg @tyV_eq True.intro ?_
        refine go21 True.intro ?_
        refine w21 True.intro ?_
        refine AR.callP hf @tyV_eq True.intro ?_
        refine go21 True.intro ?_
        cases hfat : fat t off _ with
        | none =>
          simp only [tyV_mk, Option.getD_some, Option.getD_none, Option.isSome_some, Option.isSome_none]
          refine w21 True.intro ?_
          refine Fin.gen0 (rs := [.cell 6 25, .tmp 7]) rfl (by first | exact .inl rfl | exact .inr rfl) (by simp only [resX, resA, ↓accU_f, ↓reduceIte, SA, SB, SC, SD, T21, valG, fpsG, evO, evB, evA, evA1, nilK, eqF, eqC, apOk, intOf, slB, slK,  gd, St.ev, putA, ofl, wrl, putE, V.ofVal, V.ofCell, bin2, un1, seg, fillV, partsOk, Value.oneCell', Nat.reduceBEq, Nat.reduceLT, Nat.reduceSub, Nat.reduceAdd, Nat.reduceMul, Nat.reduceLeDiff, Nat.reduceEqDiff, reduceCtorEq, Int.reduceLT, Int.reduceLE, Int.reduceEq, Int.reduceNe, Int.reduceBEq, Int.reduceBNe, Int.reduceAdd, Int.reduceSub, Int.reduceMul, Int.reduceToNat]; with_reducible exact rfl) ?_
          simp only [tz, tyV_mk, List.map_nil]
          repeat (first | exact WkF.of (Wk.refl _) (by first | rfl | simp only [List.length_cons, List.length_nil, Nat.reduceAdd, V.ids, V.idsL, idsA, entOk, List.all_cons, List.all_nil, Bool.and_self, Bool.and_true, Bool.true_and, ltB, noId, Nat.reduceLT, decide_true, Bool.true_eq_false, tyV_id, fdV_id, tyL_id, fdL_id]) | exact WkF.of (Wk.ro _ _) (by first | rfl | simp only [List.length_cons, List.length_nil, Nat.reduceAdd, V.ids, V.idsL, idsA, entOk, List.all_cons, List.all_nil, Bool.and_self, Bool.and_true, Bool.true_and, ltB, noId, Nat.reduceLT, decide_true, Bool.true_eq_false, tyV_id, fdV_id, tyL_id, fdL_id]) | refine WkF.tu ?_ | refine WkF.ag ?_ | refine WkFL.cons ?_ ?_ | exact WkFL.nil)
        | some x =>
          simp only [tyV_mk, Option.getD_some, Option.getD_none, Option.isSome_some, Option.isSome_none]
          refine w21 True.intro ?_
          have ho := c_own x (fat_fit hfit hfat)
          refine AR.callP ho @tyV_eq True.intro ?_
          refine go21 True.intro ?_
          refine w21 True.intro ?_
          refine Fin.gen0 (rs := [.cell 6 25, .tmp 7]) rfl (by first | exact .inl rfl | exact .inr rfl) (by simp only [resX, resA, ↓accU_f, ↓reduceIte, SA, SB, SC, SD, T21, valG, fpsG, evO, evB, evA, evA1, nilK, eqF, eqC, apOk, intOf, slB, slK,  gd, St.ev, putA, ofl, wrl, putE, V.ofVal, V.ofCell, bin2, un1, seg, fillV, partsOk, Value.oneCell', Nat.reduceBEq, Nat.reduceLT, Nat.reduceSub, Nat.reduceAdd, Nat.reduceMul, Nat.reduceLeDiff, Nat.reduceEqDiff, reduceCtorEq, Int.reduceLT, Int.reduceLE, Int.reduceEq, Int.reduceNe, Int.reduceBEq, Int.reduceBNe, Int.reduceAdd, Int.reduceSub, Int.reduceMul, Int.reduceToNat]; with_reducible exact rfl) ?_
          simp only [tyV_eq]
          repeat (first | exact WkF.of (Wk.refl _) (by first | rfl | simp only [List.length_cons, List.length_nil, Nat.reduceAdd, V.ids, V.idsL, idsA, entOk, List.all_cons, List.all_nil, Bool.and_self, Bool.and_true, Bool.true_and, ltB, noId, Nat.reduceLT, decide_true, Bool.true_eq_false, tyV_id, fdV_id, tyL_id, fdL_id]) | exact WkF.of (Wk.ro _ _) (by first | rfl | simp only [List.length_cons, List.length_nil, Nat.reduceAdd, V.ids, V.idsL, idsA, entOk, List.all_cons, List.all_nil, Bool.and_self, Bool.and_true, Bool.true_and, ltB, noId, Nat.reduceLT, decide_true, Bool.true_eq_false, tyV_id, fdV_id, tyL_id, fdL_id]) | refine WkF.tu ?_ | refine WkF.ag ?_ | refine WkFL.cons ?_ ?_ | exact WkFL.nil)
    · have e : (w == 1 || w == 2 || w == 4) = false := by simp; omega
      rw [e]
      simp only [Bool.and_false, Bool.false_eq_true, if_false, tyV_mk, Option.getD_some, Option.getD_none, Option.isSome_some, Option.isSome_none]
      have h1 : ¬ w = 1 := by omega
      have h2 : ¬ w = 2 := by omega
      have h4 : ¬ w = 4 := by omega
      refine w21 True.intro ?_
      refine AR.callP hg @tyV_eq True.intro ?_
      refine go21 (And.intro h1 (And.intro h2 h4)) ?_
      refine w21 (And.intro h1 (And.intro h2 h4)) ?_
      refine Fin.gen0 (rs := [.cell 6 25, .tmp 7]) rfl (by first | exact .inl rfl | exact .inr rfl) (by simp only [resX, resA, ↓accU_f, ↓reduceIte, SA, SB, SC, SD, T21, valG, fpsG, evO, evB, evA, evA1, nilK, eqF, eqC, apOk, intOf, slB, slK,  gd, St.ev, putA, ofl, wrl, putE, V.ofVal, V.ofCell, bin2, un1, seg, fillV, partsOk, Value.oneCell', Nat.reduceBEq, Nat.reduceLT, Nat.reduceSub, Nat.reduceAdd, Nat.reduceMul, Nat.reduceLeDiff, Nat.reduceEqDiff, reduceCtorEq, Int.reduceLT, Int.reduceLE, Int.reduceEq, Int.reduceNe, Int.reduceBEq, Int.reduceBNe, Int.reduceAdd, Int.reduceSub, Int.reduceMul, Int.reduceToNat]; with_reducible exact rfl) ?_
      simp only [tz, tyV_mk, List.map_nil]
      repeat (first | exact WkF.of (Wk.refl _) (by first | rfl | simp only [List.length_cons, List.length_nil, Nat.reduceAdd, V.ids, V.idsL, idsA, entOk, List.all_cons, List.all_nil, Bool.and_self, Bool.and_true, Bool.true_and, ltB, noId, Nat.reduceLT, decide_true, Bool.true_eq_false, tyV_id, fdV_id, tyL_id, fdL_id]) | exact WkF.of (Wk.ro _ _) (by first | rfl | simp only [List.length_cons, List.length_nil, Nat.reduceAdd, V.ids, V.idsL, idsA, entOk, List.all_cons, List.all_nil, Bool.and_self, Bool.and_true, Bool.true_and, ltB, noId, Nat.reduceLT, decide_true, Bool.true_eq_false, tyV_id, fdV_id, tyL_id, fdL_id]) | refine WkF.tu ?_ | refine WkF.ag ?_ | refine WkFL.cons ?_ ?_ | exact WkFL.nil)
theorem c_fatR : ∀ (t : Ty), fit t → frm t = true → ∀ off w : Int, I64 off → PC Try.prog 66 [tyV t, (.im (.int .i64 (off))), (.im (.int .i64 (w)))] (.tu [tyV ((fat t off w).getD tz), (.im (.bool ((fat t off w).isSome)))]) := by
  refine Ty.induct fun o k s c es fs hE hF => ?_
  intro hfit hfrm off w hoff
  have hs := c_sizeR _ hfit hfrm
  obtain ⟨hl1, hl2, hfE, hfF⟩ := fit_mk hfit
  obtain ⟨hb, hof, hfs, hes⟩ := frm_inv hfrm
  refine PC.enter 94 Try.func66 rfl (by decide) rfl rfl (s := [(0, tyV (.mk o k s c es fs)), (1, (.im (.int .i64 (off)))), (2, (.im (.int .i64 (w))))]) (by rfl) ?_
  simp only [tyV_mk]
  by_cases h0 : off < 0
  · rw [fat_neg _ _ _ h0]
    simp only [tyV_mk, Option.getD_some, Option.getD_none, Option.isSome_some, Option.isSome_none]
    refine w66 h0 ?_
    refine Fin.gen0 (rs := [.cell 6 25, .tmp 7]) rfl (by first | exact .inl rfl | exact .inr rfl) (by simp only [resX, resA, ↓accU_f, ↓reduceIte, SA, SB, SC, SD, T66, valG, fpsG, evO, evB, evA, evA1, nilK, eqF, eqC, apOk, intOf, slB, slK,  gd, St.ev, putA, ofl, wrl, putE, V.ofVal, V.ofCell, bin2, un1, seg, fillV, partsOk, Value.oneCell', Nat.reduceBEq, Nat.reduceLT, Nat.reduceSub, Nat.reduceAdd, Nat.reduceMul, Nat.reduceLeDiff, Nat.reduceEqDiff, reduceCtorEq, Int.reduceLT, Int.reduceLE, Int.reduceEq, Int.reduceNe, Int.reduceBEq, Int.reduceBNe, Int.reduceAdd, Int.reduceSub, Int.reduceMul, Int.reduceToNat]; with_reducible exact rfl) ?_
    simp only [tz, tyV_mk, List.map_nil]
    repeat (first | exact WkF.of (Wk.refl _) (by first | rfl | simp only [List.length_cons, List.length_nil, Nat.reduceAdd, V.ids, V.idsL, idsA, entOk, List.all_cons, List.all_nil, Bool.and_self, Bool.and_true, Bool.true_and, ltB, noId, Nat.reduceLT, decide_true, Bool.true_eq_false, tyV_id, fdV_id, tyL_id, fdL_id]) | exact WkF.of (Wk.ro _ _) (by first | rfl | simp only [List.length_cons, List.length_nil, Nat.reduceAdd, V.ids, V.idsL, idsA, entOk, List.all_cons, List.all_nil, Bool.and_self, Bool.and_true, Bool.true_and, ltB, noId, Nat.reduceLT, decide_true, Bool.true_eq_false, tyV_id, fdV_id, tyL_id, fdL_id]) | refine WkF.tu ?_ | refine WkF.ag ?_ | refine WkFL.cons ?_ ?_ | exact WkFL.nil)
  have h0' : 0 ≤ off := by omega
  rw [fat_mk]
  rcases base_cases hb with h | h | h | h | h
  · obtain ⟨h, rfl, rfl, h4, h5⟩ := h
    have hk0 : (k == 0 || k == 6) = true := by rcases h with rfl | rfl <;> rfl
    rw [hk0]
    simp only [if_true, h0', tyV_mk, Option.getD_some, Option.getD_none, Option.isSome_some, Option.isSome_none]
    rcases h with rfl | rfl
    all_goals
      refine w66 h0 ?_
      refine Fin.gen0 (rs := [.cell 6 25, .tmp 7]) rfl (by first | exact .inl rfl | exact .inr rfl) (by simp only [resX, resA, ↓accU_f, ↓reduceIte, SA, SB, SC, SD, T66, valG, fpsG, evO, evB, evA, evA1, nilK, eqF, eqC, apOk, intOf, slB, slK,  gd, St.ev, putA, ofl, wrl, putE, V.ofVal, V.ofCell, bin2, un1, seg, fillV, partsOk, Value.oneCell', Nat.reduceBEq, Nat.reduceLT, Nat.reduceSub, Nat.reduceAdd, Nat.reduceMul, Nat.reduceLeDiff, Nat.reduceEqDiff, reduceCtorEq, Int.reduceLT, Int.reduceLE, Int.reduceEq, Int.reduceNe, Int.reduceBEq, Int.reduceBNe, Int.reduceAdd, Int.reduceSub, Int.reduceMul, Int.reduceToNat]; with_reducible exact rfl) ?_
      repeat (first | exact WkF.of (Wk.refl _) (by first | rfl | simp only [List.length_cons, List.length_nil, Nat.reduceAdd, V.ids, V.idsL, idsA, entOk, List.all_cons, List.all_nil, Bool.and_self, Bool.and_true, Bool.true_and, ltB, noId, Nat.reduceLT, decide_true, Bool.true_eq_false, tyV_id, fdV_id, tyL_id, fdL_id]) | exact WkF.of (Wk.ro _ _) (by first | rfl | simp only [List.length_cons, List.length_nil, Nat.reduceAdd, V.ids, V.idsL, idsA, entOk, List.all_cons, List.all_nil, Bool.and_self, Bool.and_true, Bool.true_and, ltB, noId, Nat.reduceLT, decide_true, Bool.true_eq_false, tyV_id, fdV_id, tyL_id, fdL_id]) | refine WkF.tu ?_ | refine WkF.ag ?_ | refine WkFL.cons ?_ ?_ | exact WkFL.nil)
  · obtain ⟨h, h3, rfl, h4, h5⟩ := h
    have hk0 : (k == 0 || k == 6) = false := by rcases h with rfl | rfl <;> rfl
    have hk1 : (k == 1 || k == 2 || k == 3) = true := by rcases h with rfl | rfl <;> rfl
    rw [hk0, hk1]
    simp only [if_true, Bool.false_eq_true, if_false]
    by_cases h1 : off = 0
    · by_cases h2 : w = siz (.mk o k s 0 es fs)
      · have e : (off == 0 && w == siz (.mk o k s 0 es fs)) = true := by simp [h1, h2]
        rw [e]
        simp only [tyV_mk, Option.getD_some, Option.getD_none, Option.isSome_some, Option.isSome_none, if_true]
        rcases h with rfl | rfl
        all_goals
          refine w66 (And.intro h0 h1) ?_
          refine AR.callP hs @tyV_mk True.intro ?_
          refine go66 (And.intro h0 (And.intro h1 h2)) ?_
          refine w66 (And.intro h0 h1) ?_
          refine Fin.gen0 (rs := [.cell 6 25, .tmp 7]) rfl (by first | exact .inl rfl | exact .inr rfl) (by simp only [resX, resA, ↓accU_f, ↓reduceIte, SA, SB, SC, SD, T66, valG, fpsG, evO, evB, evA, evA1, nilK, eqF, eqC, apOk, intOf, slB, slK,  gd, St.ev, putA, ofl, wrl, putE, V.ofVal, V.ofCell, bin2, un1, seg, fillV, partsOk, Value.oneCell', Nat.reduceBEq, Nat.reduceLT, Nat.reduceSub, Nat.reduceAdd, Nat.reduceMul, Nat.reduceLeDiff, Nat.reduceEqDiff, reduceCtorEq, Int.reduceLT, Int.reduceLE, Int.reduceEq, Int.reduceNe, Int.reduceBEq, Int.reduceBNe, Int.reduceAdd, Int.reduceSub, Int.reduceMul, Int.reduceToNat]; with_reducible exact rfl) ?_
          repeat (first | exact WkF.of (Wk.refl _) (by first | rfl | simp only [List.length_cons, List.length_nil, Nat.reduceAdd, V.ids, V.idsL, idsA, entOk, List.all_cons, List.all_nil, Bool.and_self, Bool.and_true, Bool.true_and, ltB, noId, Nat.reduceLT, decide_true, Bool.true_eq_false, tyV_id, fdV_id, tyL_id, fdL_id]) | exact WkF.of (Wk.ro _ _) (by first | rfl | simp only [List.length_cons, List.length_nil, Nat.reduceAdd, V.ids, V.idsL, idsA, entOk, List.all_cons, List.all_nil, Bool.and_self, Bool.and_true, Bool.true_and, ltB, noId, Nat.reduceLT, decide_true, Bool.true_eq_false, tyV_id, fdV_id, tyL_id, fdL_id]) | refine WkF.tu ?_ | refine WkF.ag ?_ | refine WkFL.cons ?_ ?_ | exact WkFL.nil)
      · have e : (off == 0 && w == siz (.mk o k s 0 es fs)) = false := by simp [h2]
        rw [e]
        simp only [tyV_mk, Option.getD_some, Option.getD_none, Option.isSome_some, Option.isSome_none, if_false, Bool.false_eq_true]
        rcases h with rfl | rfl
        all_goals
          refine w66 (And.intro h0 h1) ?_
          refine AR.callP hs @tyV_mk True.intro ?_
          refine go66 (And.intro h0 (And.intro h1 h2)) ?_
          refine w66 (And.intro h0 h1) ?_
          refine Fin.gen0 (rs := [.cell 6 25, .tmp 7]) rfl (by first | exact .inl rfl | exact .inr rfl) (by simp only [resX, resA, ↓accU_f, ↓reduceIte, SA, SB, SC, SD, T66, valG, fpsG, evO, evB, evA, evA1, nilK, eqF, eqC, apOk, intOf, slB, slK,  gd, St.ev, putA, ofl, wrl, putE, V.ofVal, V.ofCell, bin2, un1, seg, fillV, partsOk, Value.oneCell', Nat.reduceBEq, Nat.reduceLT, Nat.reduceSub, Nat.reduceAdd, Nat.reduceMul, Nat.reduceLeDiff, Nat.reduceEqDiff, reduceCtorEq, Int.reduceLT, Int.reduceLE, Int.reduceEq, Int.reduceNe, Int.reduceBEq, Int.reduceBNe, Int.reduceAdd, Int.reduceSub, Int.reduceMul, Int.reduceToNat]; with_reducible exact rfl) ?_
          simp only [tz, tyV_mk, List.map_nil]
          repeat (first | exact WkF.of (Wk.refl _) (by first | rfl | simp only [List.length_cons, List.length_nil, Nat.reduceAdd, V.ids, V.idsL, idsA, entOk, List.all_cons, List.all_nil, Bool.and_self, Bool.and_true, Bool.true_and, ltB, noId, Nat.reduceLT, decide_true, Bool.true_eq_false, tyV_id, fdV_id, tyL_id, fdL_id]) | exact WkF.of (Wk.ro _ _) (by first | rfl | simp only [List.length_cons, List.length_nil, Nat.reduceAdd, V.ids, V.idsL, idsA, entOk, List.all_cons, List.all_nil, Bool.and_self, Bool.and_true, Bool.true_and, ltB, noId, Nat.reduceLT, decide_true, Bool.true_eq_false, tyV_id, fdV_id, tyL_id, fdL_id]) | refine WkF.tu ?_ | refine WkF.ag ?_ | refine WkFL.cons ?_ ?_ | exact WkFL.nil)
    · have e : (off == 0 && w == siz (.mk o k s 0 es fs)) = false := by simp [h1]
      rw [e]
      simp only [tyV_mk, Option.getD_some, Option.getD_none, Option.isSome_some, Option.isSome_none, if_false, Bool.false_eq_true]
      rcases h with rfl | rfl
      all_goals
        refine w66 (And.intro h0 h1) ?_
        refine Fin.gen0 (rs := [.cell 6 25, .tmp 7]) rfl (by first | exact .inl rfl | exact .inr rfl) (by simp only [resX, resA, ↓accU_f, ↓reduceIte, SA, SB, SC, SD, T66, valG, fpsG, evO, evB, evA, evA1, nilK, eqF, eqC, apOk, intOf, slB, slK,  gd, St.ev, putA, ofl, wrl, putE, V.ofVal, V.ofCell, bin2, un1, seg, fillV, partsOk, Value.oneCell', Nat.reduceBEq, Nat.reduceLT, Nat.reduceSub, Nat.reduceAdd, Nat.reduceMul, Nat.reduceLeDiff, Nat.reduceEqDiff, reduceCtorEq, Int.reduceLT, Int.reduceLE, Int.reduceEq, Int.reduceNe, Int.reduceBEq, Int.reduceBNe, Int.reduceAdd, Int.reduceSub, Int.reduceMul, Int.reduceToNat]; with_reducible exact rfl) ?_
        simp only [tz, tyV_mk, List.map_nil]
        repeat (first | exact WkF.of (Wk.refl _) (by first | rfl | simp only [List.length_cons, List.length_nil, Nat.reduceAdd, V.ids, V.idsL, idsA, entOk, List.all_cons, List.all_nil, Bool.and_self, Bool.and_true, Bool.true_and, ltB, noId, Nat.reduceLT, decide_true, Bool.true_eq_false, tyV_id, fdV_id, tyL_id, fdL_id]) | exact WkF.of (Wk.ro _ _) (by first | rfl | simp only [List.length_cons, List.length_nil, Nat.reduceAdd, V.ids, V.idsL, idsA, entOk, List.all_cons, List.all_nil, Bool.and_self, Bool.and_true, Bool.true_and, ltB, noId, Nat.reduceLT, decide_true, Bool.true_eq_false, tyV_id, fdV_id, tyL_id, fdL_id]) | refine WkF.tu ?_ | refine WkF.ag ?_ | refine WkFL.cons ?_ ?_ | exact WkFL.nil)
  · obtain ⟨rfl, rfl, rfl, h4, h5⟩ := h
    simp only [Int.reduceBEq, Bool.or_true, Bool.or_false, if_true, Bool.false_eq_true, if_false]
    by_cases h1 : off = 0
    · by_cases h2 : w = siz (.mk o 3 0 0 es fs)
      · have e : (off == 0 && w == siz (.mk o 3 0 0 es fs)) = true := by simp [h1, h2]
        rw [e]
        simp only [tyV_mk, Option.getD_some, Option.getD_none, Option.isSome_some, Option.isSome_none, if_true]
        refine w66 (And.intro h0 h1) ?_
        refine AR.callP hs @tyV_mk True.intro ?_
        refine go66 (And.intro h0 (And.intro h1 h2)) ?_
        refine w66 (And.intro h0 h1) ?_
        refine Fin.gen0 (rs := [.cell 6 25, .tmp 7]) rfl (by first | exact .inl rfl | exact .inr rfl) (by simp only [resX, resA, ↓accU_f, ↓reduceIte, SA, SB, SC, SD, T66, valG, fpsG, evO, evB, evA, evA1, nilK, eqF, eqC, apOk, intOf, slB, slK,  gd, St.ev, putA, ofl, wrl, putE, V.ofVal, V.ofCell, bin2, un1, seg, fillV, partsOk, Value.oneCell', Nat.reduceBEq, Nat.reduceLT, Nat.reduceSub, Nat.reduceAdd, Nat.reduceMul, Nat.reduceLeDiff, Nat.reduceEqDiff, reduceCtorEq, Int.reduceLT, Int.reduceLE, Int.reduceEq, Int.reduceNe, Int.reduceBEq, Int.reduceBNe, Int.reduceAdd, Int.reduceSub, Int.reduceMul, Int.reduceToNat]; with_reducible exact rfl) ?_
        repeat (first | exact WkF.of (Wk.refl _) (by first | rfl | simp only [List.length_cons, List.length_nil, Nat.reduceAdd, V.ids, V.idsL, idsA, entOk, List.all_cons, List.all_nil, Bool.and_self, Bool.and_true, Bool.true_and, ltB, noId, Nat.reduceLT, decide_true, Bool.true_eq_false, tyV_id, fdV_id, tyL_id, fdL_id]) | exact WkF.of (Wk.ro _ _) (by first | rfl | simp only [List.length_cons, List.length_nil, Nat.reduceAdd, V.ids, V.idsL, idsA, entOk, List.all_cons, List.all_nil, Bool.and_self, Bool.and_true, Bool.true_and, ltB, noId, Nat.reduceLT, decide_true, Bool.true_eq_false, tyV_id, fdV_id, tyL_id, fdL_id]) | refine WkF.tu ?_ | refine WkF.ag ?_ | refine WkFL.cons ?_ ?_ | exact WkFL.nil)
      · have e : (off == 0 && w == siz (.mk o 3 0 0 es fs)) = false := by simp [h2]
        rw [e]
        simp only [tyV_mk, Option.getD_some, Option.getD_none, Option.isSome_some, Option.isSome_none, if_false, Bool.false_eq_true]
        refine w66 (And.intro h0 h1) ?_
        refine AR.callP hs @tyV_mk True.intro ?_
        refine go66 (And.intro h0 (And.intro h1 h2)) ?_
        refine w66 (And.intro h0 h1) ?_
        refine Fin.gen0 (rs := [.cell 6 25, .tmp 7]) rfl (by first | exact .inl rfl | exact .inr rfl) (by simp only [resX, resA, ↓accU_f, ↓reduceIte, SA, SB, SC, SD, T66, valG, fpsG, evO, evB, evA, evA1, nilK, eqF, eqC, apOk, intOf, slB, slK,  gd, St.ev, putA, ofl, wrl, putE, V.ofVal, V.ofCell, bin2, un1, seg, fillV, partsOk, Value.oneCell', Nat.reduceBEq, Nat.reduceLT, Nat.reduceSub, Nat.reduceAdd, Nat.reduceMul, Nat.reduceLeDiff, Nat.reduceEqDiff, reduceCtorEq, Int.reduceLT, Int.reduceLE, Int.reduceEq, Int.reduceNe, Int.reduceBEq, Int.reduceBNe, Int.reduceAdd, Int.reduceSub, Int.reduceMul, Int.reduceToNat]; with_reducible exact rfl) ?_
        simp only [tz, tyV_mk, List.map_nil]
        repeat (first | exact WkF.of (Wk.refl _) (by first | rfl | simp only [List.length_cons, List.length_nil, Nat.reduceAdd, V.ids, V.idsL, idsA, entOk, List.all_cons, List.all_nil, Bool.and_self, Bool.and_true, Bool.true_and, ltB, noId, Nat.reduceLT, decide_true, Bool.true_eq_false, tyV_id, fdV_id, tyL_id, fdL_id]) | exact WkF.of (Wk.ro _ _) (by first | rfl | simp only [List.length_cons, List.length_nil, Nat.reduceAdd, V.ids, V.idsL, idsA, entOk, List.all_cons, List.all_nil, Bool.and_self, Bool.and_true, Bool.true_and, ltB, noId, Nat.reduceLT, decide_true, Bool.true_eq_false, tyV_id, fdV_id, tyL_id, fdL_id]) | refine WkF.tu ?_ | refine WkF.ag ?_ | refine WkFL.cons ?_ ?_ | exact WkFL.nil)
    · have e : (off == 0 && w == siz (.mk o 3 0 0 es fs)) = false := by simp [h1]
      rw [e]
      simp only [tyV_mk, Option.getD_some, Option.getD_none, Option.isSome_some, Option.isSome_none, if_false, Bool.false_eq_true]
      refine w66 (And.intro h0 h1) ?_
      refine Fin.gen0 (rs := [.cell 6 25, .tmp 7]) rfl (by first | exact .inl rfl | exact .inr rfl) (by simp only [resX, resA, ↓accU_f, ↓reduceIte, SA, SB, SC, SD, T66, valG, fpsG, evO, evB, evA, evA1, nilK, eqF, eqC, apOk, intOf, slB, slK,  gd, St.ev, putA, ofl, wrl, putE, V.ofVal, V.ofCell, bin2, un1, seg, fillV, partsOk, Value.oneCell', Nat.reduceBEq, Nat.reduceLT, Nat.reduceSub, Nat.reduceAdd, Nat.reduceMul, Nat.reduceLeDiff, Nat.reduceEqDiff, reduceCtorEq, Int.reduceLT, Int.reduceLE, Int.reduceEq, Int.reduceNe, Int.reduceBEq, Int.reduceBNe, Int.reduceAdd, Int.reduceSub, Int.reduceMul, Int.reduceToNat]; with_reducible exact rfl) ?_
      simp only [tz, tyV_mk, List.map_nil]
      repeat (first | exact WkF.of (Wk.refl _) (by first | rfl | simp only [List.length_cons, List.length_nil, Nat.reduceAdd, V.ids, V.idsL, idsA, entOk, List.all_cons, List.all_nil, Bool.and_self, Bool.and_true, Bool.true_and, ltB, noId, Nat.reduceLT, decide_true, Bool.true_eq_false, tyV_id, fdV_id, tyL_id, fdL_id]) | exact WkF.of (Wk.ro _ _) (by first | rfl | simp only [List.length_cons, List.length_nil, Nat.reduceAdd, V.ids, V.idsL, idsA, entOk, List.all_cons, List.all_nil, Bool.and_self, Bool.and_true, Bool.true_and, ltB, noId, Nat.reduceLT, decide_true, Bool.true_eq_false, tyV_id, fdV_id, tyL_id, fdL_id]) | refine WkF.tu ?_ | refine WkF.ag ?_ | refine WkFL.cons ?_ ?_ | exact WkFL.nil)
  · obtain ⟨rfl, rfl, hc1, hc2, h4, h5⟩ := h
    simp only [Int.reduceBEq, Bool.or_false, if_true, Bool.false_eq_true, if_false]
    obtain ⟨x, rfl⟩ := List.length_eq_one_iff.1 h4
    by_cases h1 : off < siz (.mk o 4 0 c [x] fs)
    · have hn : ¬ (off < 0 ∨ siz (.mk o 4 0 c [x] fs) ≤ off) := by omega
      rw [if_neg hn]
      have hx := c_sizeR x (hfE x (by simp)) (hes x (by simp))
      have hx0 : ¬ siz x = 0 := fun hx => by
        have : siz (.mk o 4 0 c [x] fs) = 0 := by rw [siz_mk]; simp [hx]; omega
        omega
      have hxn := siz_nonneg x (hes x (by simp))
      have hxl := siz_le x
      have hrem : off.tmod (siz x) = off % siz x := Int.tmod_eq_emod_of_nonneg (by omega)
      have hm1 := Int.emod_nonneg off (show siz x ≠ 0 from hx0)
      have hm2 := Int.emod_lt_of_pos off (show 0 < siz x by omega)
      have hr := hE x (by simp) (hfE x (by simp)) (hes x (by simp)) (off % siz x) w (by unfold I64; omega)
      refine w66 h0 ?_
      refine AR.callP hs @tyV_mk True.intro ?_
      refine go66 (And.intro h0 h1) ?_
      refine wd66 h0 ?_
      refine AR.callP hx @tyV_eq True.intro ?_
      refine go66 (And.intro hx0 hrem) ?_
      refine AR.callP hr @tyV_eq True.intro ?_
      refine go66 True.intro ?_
      refine wd66 True.intro ?_
      refine Fin.gen0 (rs := [.cell 6 25, .tmp 7]) rfl (by first | exact .inl rfl | exact .inr rfl) (by simp only [resX, resA, ↓accU_f, ↓reduceIte, SA, SB, SC, SD, T66, valG, fpsG, evO, evB, evA, evA1, nilK, eqF, eqC, apOk, intOf, slB, slK,  gd, St.ev, putA, ofl, wrl, putE, V.ofVal, V.ofCell, bin2, un1, seg, fillV, partsOk, Value.oneCell', Nat.reduceBEq, Nat.reduceLT, Nat.reduceSub, Nat.reduceAdd, Nat.reduceMul, Nat.reduceLeDiff, Nat.reduceEqDiff, reduceCtorEq, Int.reduceLT, Int.reduceLE, Int.reduceEq, Int.reduceNe, Int.reduceBEq, Int.reduceBNe, Int.reduceAdd, Int.reduceSub, Int.reduceMul, Int.reduceToNat]; with_reducible exact rfl) ?_
      simp only [tyV_eq]
      repeat (first | exact WkF.of (Wk.refl _) (by first | rfl | simp only [List.length_cons, List.length_nil, Nat.reduceAdd, V.ids, V.idsL, idsA, entOk, List.all_cons, List.all_nil, Bool.and_self, Bool.and_true, Bool.true_and, ltB, noId, Nat.reduceLT, decide_true, Bool.true_eq_false, tyV_id, fdV_id, tyL_id, fdL_id]) | exact WkF.of (Wk.ro _ _) (by first | rfl | simp only [List.length_cons, List.length_nil, Nat.reduceAdd, V.ids, V.idsL, idsA, entOk, List.all_cons, List.all_nil, Bool.and_self, Bool.and_true, Bool.true_and, ltB, noId, Nat.reduceLT, decide_true, Bool.true_eq_false, tyV_id, fdV_id, tyL_id, fdL_id]) | refine WkF.tu ?_ | refine WkF.ag ?_ | refine WkFL.cons ?_ ?_ | exact WkFL.nil)
    · rw [if_pos (.inr (by omega))]
      simp only [tyV_mk, Option.getD_some, Option.getD_none, Option.isSome_some, Option.isSome_none]
      refine w66 h0 ?_
      refine AR.callP hs @tyV_mk True.intro ?_
      refine go66 (And.intro h0 h1) ?_
      refine w66 h0 ?_
      refine Fin.gen0 (rs := [.cell 6 25, .tmp 7]) rfl (by first | exact .inl rfl | exact .inr rfl) (by simp only [resX, resA, ↓accU_f, ↓reduceIte, SA, SB, SC, SD, T66, valG, fpsG, evO, evB, evA, evA1, nilK, eqF, eqC, apOk, intOf, slB, slK,  gd, St.ev, putA, ofl, wrl, putE, V.ofVal, V.ofCell, bin2, un1, seg, fillV, partsOk, Value.oneCell', Nat.reduceBEq, Nat.reduceLT, Nat.reduceSub, Nat.reduceAdd, Nat.reduceMul, Nat.reduceLeDiff, Nat.reduceEqDiff, reduceCtorEq, Int.reduceLT, Int.reduceLE, Int.reduceEq, Int.reduceNe, Int.reduceBEq, Int.reduceBNe, Int.reduceAdd, Int.reduceSub, Int.reduceMul, Int.reduceToNat]; with_reducible exact rfl) ?_
      simp only [tz, tyV_mk, List.map_nil]
      repeat (first | exact WkF.of (Wk.refl _) (by first | rfl | simp only [List.length_cons, List.length_nil, Nat.reduceAdd, V.ids, V.idsL, idsA, entOk, List.all_cons, List.all_nil, Bool.and_self, Bool.and_true, Bool.true_and, ltB, noId, Nat.reduceLT, decide_true, Bool.true_eq_false, tyV_id, fdV_id, tyL_id, fdL_id]) | exact WkF.of (Wk.ro _ _) (by first | rfl | simp only [List.length_cons, List.length_nil, Nat.reduceAdd, V.ids, V.idsL, idsA, entOk, List.all_cons, List.all_nil, Bool.and_self, Bool.and_true, Bool.true_and, ltB, noId, Nat.reduceLT, decide_true, Bool.true_eq_false, tyV_id, fdV_id, tyL_id, fdL_id]) | refine WkF.tu ?_ | refine WkF.ag ?_ | refine WkFL.cons ?_ ?_ | exact WkFL.nil)
  · obtain ⟨rfl, rfl, rfl, h4⟩ := h
    simp only [Int.reduceBEq, Bool.or_false, if_true, Bool.false_eq_true, if_false]
    rw [if_neg h0]
    have hw0 : IntKind.i64.wrap ((fs.length : Int) - 1) = (fs.length : Int) - 1 := wrap_in (by omega)
    refine w66 (And.intro h0 hw0) ?_
    refine AWp.loop ?_
    have e0 : (fs.length : Int) - 1 = (fs.length : Int) - 1 - ((0 : Nat) : Int) := by omega
    rw [e0]
    refine ALp.cutP 2 [(1, (.im (.int .i64 (off)))), (2, (.im (.int .i64 (w)))), (3, .pt 0 0), (6, .pt 1 0), (8, (.im (.int .i64 ((fs.length : Int) - 1 - (((0 : Nat)) : Int)))))] [.box [.im (.int .i64 5), .im (.int .i64 0), .im (.int .i64 0), .sl (es.map tyV) .ro, .sl (fs.map fdV) .ro], .box [.im (.int .i64 0), .im (.int .i64 0), .im (.int .i64 0), .sl [] .nl, .sl [] .nl]] True.intro ?_
    refine ALp.upto fs.length (fun m => ∀ j (h : j < fs.length), fs.length - m ≤ j → fat fs[j] (off - fs[j].off) w = none) (fun m => ⟨dn 94 [(1, (.im (.int .i64 (off)))), (2, (.im (.int .i64 (w)))), (3, .pt 0 0), (6, .pt 1 0), (8, (.im (.int .i64 ((fs.length : Int) - 1 - (((m : Nat)) : Int)))))], ofl [.box [.im (.int .i64 5), .im (.int .i64 0), .im (.int .i64 0), .sl (es.map tyV) .ro, .sl (fs.map fdV) .ro], .box [.im (.int .i64 0), .im (.int .i64 0), .im (.int .i64 0), .sl [] .nl, .sl [] .nl]]⟩) ?_ 0 (Nat.zero_le _) (fun j h h' => by omega)
    intro m hm hI hnext
    by_cases hlt : m < fs.length
    · have hge : (fs.length : Int) - 1 - (m : Int) ≥ 0 := by omega
      have hge' : 0 ≤ (fs.length : Int) - 1 - (m : Int) := by omega
      have htn : ((fs.length : Int) - 1 - (m : Int)).toNat = fs.length - 1 - m := by omega
      have hi' : fs.length - 1 - m < fs.length := by omega
      have hg := get_some hi'
      have hm1 : IntKind.i64.wrap ((fs.length : Int) - 1 - (m : Int) - 1) = (fs.length : Int) - 1 - ((m + 1 : Nat) : Int) := by rw [wrap_in (by omega)]; omega
      have hc := hF fs[fs.length - 1 - m] (List.getElem_mem hi') (hfF _ (List.getElem_mem hi')) (hfs _ (List.getElem_mem hi'))
      have ho1 := fok_off hi' (hof _ hi')
      generalize hfd : fs[fs.length - 1 - m] = f at hg hc ho1
      have hofI : I64 (off - f.off) := by unfold I64 at hoff ⊢; omega
      have hw := wrap_in hofI
      have hc := hc (off - f.off) w hofI
      have hstep : fat f (off - f.off) w = none → ∀ j (h : j < fs.length), fs.length - (m + 1) ≤ j → fat fs[j] (off - fs[j].off) w = none := fun hn j h h' => by
        by_cases he : fs.length - m ≤ j
        · exact hI j h he
        · have : j = fs.length - 1 - m := by omega
          subst this
          rw [hfd]
          exact hn
      by_cases hcont : off < f.off
      · refine w66 (And.intro hge (And.intro hge' (And.intro htn (And.intro hg (And.intro hcont hm1))))) ?_
        refine ALp.cutP 2 [(1, (.im (.int .i64 (off)))), (2, (.im (.int .i64 (w)))), (3, .pt 0 0), (6, .pt 1 0), (8, (.im (.int .i64 ((fs.length : Int) - 1 - (((m + 1 : Nat)) : Int)))))] [.box [.im (.int .i64 5), .im (.int .i64 0), .im (.int .i64 0), .sl (es.map tyV) .ro, .sl (fs.map fdV) .ro], .box [.im (.int .i64 0), .im (.int .i64 0), .im (.int .i64 0), .sl [] .nl, .sl [] .nl]] True.intro ?_
        exact hnext (m + 1) (by omega) (by omega) (hstep (fat_neg _ _ _ (by omega)))
      · cases hfat : fat f (off - f.off) w with
        | none =>
          rw [hfat] at hc
          simp only [tyV_mk, Option.getD_some, Option.getD_none, Option.isSome_some, Option.isSome_none] at hc
          refine wd66 (And.intro hge (And.intro hge' (And.intro htn (And.intro hg (And.intro hcont hw))))) ?_
          refine AR.callP hc @tyV_eq True.intro ?_
          refine go66 True.intro ?_
          refine wd66 hm1 ?_
          refine ALp.cutP 2 [(1, (.im (.int .i64 (off)))), (2, (.im (.int .i64 (w)))), (3, .pt 0 0), (6, .pt 1 0), (8, (.im (.int .i64 ((fs.length : Int) - 1 - (((m + 1 : Nat)) : Int)))))] [.box [.im (.int .i64 5), .im (.int .i64 0), .im (.int .i64 0), .sl (es.map tyV) .ro, .sl (fs.map fdV) .ro], .box [.im (.int .i64 0), .im (.int .i64 0), .im (.int .i64 0), .sl [] .nl, .sl [] .nl]] True.intro ?_
          exact hnext (m + 1) (by omega) (by omega) (hstep hfat)
        | some x =>
          rw [hfat] at hc
          simp only [tyV_mk, Option.getD_some, Option.getD_none, Option.isSome_some, Option.isSome_none] at hc
          have hn : lastSome (fs.map fun f => fat f (off - f.off) w) = some x := lastSome_some (k := fs.length - 1 - m) (by simpa using hi') (by simpa [hfd] using hfat) fun j h1 h2 => by
            have hj' : j < fs.length := by simpa using h1
            simpa using hI j hj' (by omega)
          rw [hn]
          simp only [tyV_mk, Option.getD_some, Option.getD_none, Option.isSome_some, Option.isSome_none]
          refine wd66 (And.intro hge (And.intro hge' (And.intro htn (And.intro hg (And.intro hcont hw))))) ?_
          refine AR.callP hc @tyV_eq True.intro ?_
          refine go66 True.intro ?_
          refine wd66 True.intro ?_
          refine Fin.gen0 (rs := [.cell 6 25, .tmp 7]) rfl (by first | exact .inl rfl | exact .inr rfl) (by simp only [resX, resA, ↓accU_f, ↓reduceIte, SA, SB, SC, SD, T66, valG, fpsG, evO, evB, evA, evA1, nilK, eqF, eqC, apOk, intOf, slB, slK,  gd, St.ev, putA, ofl, wrl, putE, V.ofVal, V.ofCell, bin2, un1, seg, fillV, partsOk, Value.oneCell', Nat.reduceBEq, Nat.reduceLT, Nat.reduceSub, Nat.reduceAdd, Nat.reduceMul, Nat.reduceLeDiff, Nat.reduceEqDiff, reduceCtorEq, Int.reduceLT, Int.reduceLE, Int.reduceEq, Int.reduceNe, Int.reduceBEq, Int.reduceBNe, Int.reduceAdd, Int.reduceSub, Int.reduceMul, Int.reduceToNat]; with_reducible exact rfl) ?_
          simp only [tyV_eq]
          repeat (first | exact WkF.of (Wk.refl _) (by first | rfl | simp only [List.length_cons, List.length_nil, Nat.reduceAdd, V.ids, V.idsL, idsA, entOk, List.all_cons, List.all_nil, Bool.and_self, Bool.and_true, Bool.true_and, ltB, noId, Nat.reduceLT, decide_true, Bool.true_eq_false, tyV_id, fdV_id, tyL_id, fdL_id]) | exact WkF.of (Wk.ro _ _) (by first | rfl | simp only [List.length_cons, List.length_nil, Nat.reduceAdd, V.ids, V.idsL, idsA, entOk, List.all_cons, List.all_nil, Bool.and_self, Bool.and_true, Bool.true_and, ltB, noId, Nat.reduceLT, decide_true, Bool.true_eq_false, tyV_id, fdV_id, tyL_id, fdL_id]) | refine WkF.tu ?_ | refine WkF.ag ?_ | refine WkFL.cons ?_ ?_ | exact WkFL.nil)
    · have hlt' : ¬ (fs.length : Int) - 1 - (m : Int) ≥ 0 := by omega
      have hn : lastSome (fs.map fun f => fat f (off - f.off) w) = none := lastSome_none fun i hi => by
        have hi' : i < fs.length := by simpa using hi
        simpa using hI i hi' (by omega)
      rw [hn]
      simp only [tyV_mk, Option.getD_some, Option.getD_none, Option.isSome_some, Option.isSome_none]
      clear hnext
      refine w66 hlt' ?_
      refine Fin.gen0 (rs := [.cell 6 25, .tmp 7]) rfl (by first | exact .inl rfl | exact .inr rfl) (by simp only [resX, resA, ↓accU_f, ↓reduceIte, SA, SB, SC, SD, T66, valG, fpsG, evO, evB, evA, evA1, nilK, eqF, eqC, apOk, intOf, slB, slK,  gd, St.ev, putA, ofl, wrl, putE, V.ofVal, V.ofCell, bin2, un1, seg, fillV, partsOk, Value.oneCell', Nat.reduceBEq, Nat.reduceLT, Nat.reduceSub, Nat.reduceAdd, Nat.reduceMul, Nat.reduceLeDiff, Nat.reduceEqDiff, reduceCtorEq, Int.reduceLT, Int.reduceLE, Int.reduceEq, Int.reduceNe, Int.reduceBEq, Int.reduceBNe, Int.reduceAdd, Int.reduceSub, Int.reduceMul, Int.reduceToNat]; with_reducible exact rfl) ?_
      simp only [tz, tyV_mk, List.map_nil]
      repeat (first | exact WkF.of (Wk.refl _) (by first | rfl | simp only [List.length_cons, List.length_nil, Nat.reduceAdd, V.ids, V.idsL, idsA, entOk, List.all_cons, List.all_nil, Bool.and_self, Bool.and_true, Bool.true_and, ltB, noId, Nat.reduceLT, decide_true, Bool.true_eq_false, tyV_id, fdV_id, tyL_id, fdL_id]) | exact WkF.of (Wk.ro _ _) (by first | rfl | simp only [List.length_cons, List.length_nil, Nat.reduceAdd, V.ids, V.idsL, idsA, entOk, List.all_cons, List.all_nil, Bool.and_self, Bool.and_true, Bool.true_and, ltB, noId, Nat.reduceLT, decide_true, Bool.true_eq_false, tyV_id, fdV_id, tyL_id, fdL_id]) | refine WkF.tu ?_ | refine WkF.ag ?_ | refine WkFL.cons ?_ ?_ | exact WkFL.nil)
theorem c_FieldAtR (t : Ty) (hfit : fit t) (off w : Int) (hoff : I64 off) : PC Try.prog 33 [tyV t, (.im (.int .i64 (off))), (.im (.int .i64 (w)))] (.tu [tyV ((fieldA t off w).getD tz), (.im (.bool ((fieldA t off w).isSome)))]) := by
  have hg := c_checkR t hfit
  refine PC.enter 30 Try.func33 rfl (by decide) rfl rfl (s := [(0, tyV t), (1, (.im (.int .i64 (off)))), (2, (.im (.int .i64 (w))))]) (by rfl) ?_
  rw [tyV_eq t]
  unfold fieldA
  cases b : good t with
  | false =>
    have hb : ¬ chk t = 0 := by unfold good at b; simpa using b
    simp only [Bool.false_and, Bool.false_eq_true, if_false, tyV_mk, Option.getD_some, Option.getD_none, Option.isSome_some, Option.isSome_none]
    refine w33 True.intro ?_
    refine AR.callP hg @tyV_eq True.intro ?_
    refine go33 hb ?_
    refine w33 True.intro ?_
    refine Fin.gen0 (rs := [.cell 6 25, .tmp 7]) rfl (by first | exact .inl rfl | exact .inr rfl) (by simp only [resX, resA, ↓accU_f, ↓reduceIte, SA, SB, SC, SD, T33, valG, fpsG, evO, evB, evA, evA1, nilK, eqF, eqC, apOk, intOf, slB, slK,  gd, St.ev, putA, ofl, wrl, putE, V.ofVal, V.ofCell, bin2, un1, seg, fillV, partsOk, Value.oneCell', Nat.reduceBEq, Nat.reduceLT, Nat.reduceSub, Nat.reduceAdd, Nat.reduceMul, Nat.reduceLeDiff, Nat.reduceEqDiff, reduceCtorEq, Int.reduceLT, Int.reduceLE, Int.reduceEq, Int.reduceNe, Int.reduceBEq, Int.reduceBNe, Int.reduceAdd, Int.reduceSub, Int.reduceMul, Int.reduceToNat]; with_reducible exact rfl) ?_
    simp only [tz, tyV_mk, List.map_nil]
    repeat (first | exact WkF.of (Wk.refl _) (by first | rfl | simp only [List.length_cons, List.length_nil, Nat.reduceAdd, V.ids, V.idsL, idsA, entOk, List.all_cons, List.all_nil, Bool.and_self, Bool.and_true, Bool.true_and, ltB, noId, Nat.reduceLT, decide_true, Bool.true_eq_false, tyV_id, fdV_id, tyL_id, fdL_id]) | exact WkF.of (Wk.ro _ _) (by first | rfl | simp only [List.length_cons, List.length_nil, Nat.reduceAdd, V.ids, V.idsL, idsA, entOk, List.all_cons, List.all_nil, Bool.and_self, Bool.and_true, Bool.true_and, ltB, noId, Nat.reduceLT, decide_true, Bool.true_eq_false, tyV_id, fdV_id, tyL_id, fdL_id]) | refine WkF.tu ?_ | refine WkF.ag ?_ | refine WkFL.cons ?_ ?_ | exact WkFL.nil)
  | true =>
    have hb : chk t = 0 := by unfold good at b; simpa using b
    have hf := c_fatR t hfit (good_frm b) off w hoff
    by_cases hw : w = 1 ∨ w = 2 ∨ w = 4
    · have e : (w == 1 || w == 2 || w == 4) = true := by rcases hw with rfl | rfl | rfl <;> rfl
      rw [e]
      simp only [Bool.and_self, if_true]
      rcases hw with rfl | rfl | rfl
      all_goals
        refine w33 True.intro ?_
        refine AR.callP hg @tyV_eq True.intro ?_
        refine go33 hb ?_
        refine w33 True.intro ?_
        refine AR.callP hf @tyV_eq True.intro ?_
        refine go33 True.intro ?_
        refine w33 True.intro ?_
        refine Fin.gen0 (rs := [.cell 6 25, .tmp 7]) rfl (by first | exact .inl rfl | exact .inr rfl) (by simp only [resX, resA, ↓accU_f, ↓reduceIte, SA, SB, SC, SD, T33, valG, fpsG, evO, evB, evA, evA1, nilK, eqF, eqC, apOk, intOf, slB, slK,  gd, St.ev, putA, ofl, wrl, putE, V.ofVal, V.ofCell, bin2, un1, seg, fillV, partsOk, Value.oneCell', Nat.reduceBEq, Nat.reduceLT, Nat.reduceSub, Nat.reduceAdd, Nat.reduceMul, Nat.reduceLeDiff, Nat.reduceEqDiff, reduceCtorEq, Int.reduceLT, Int.reduceLE, Int.reduceEq, Int.reduceNe, Int.reduceBEq, Int.reduceBNe, Int.reduceAdd, Int.reduceSub, Int.reduceMul, Int.reduceToNat]; with_reducible exact rfl) ?_
        simp only [tyV_eq]
        repeat (first | exact WkF.of (Wk.refl _) (by first | rfl | simp only [List.length_cons, List.length_nil, Nat.reduceAdd, V.ids, V.idsL, idsA, entOk, List.all_cons, List.all_nil, Bool.and_self, Bool.and_true, Bool.true_and, ltB, noId, Nat.reduceLT, decide_true, Bool.true_eq_false, tyV_id, fdV_id, tyL_id, fdL_id]) | exact WkF.of (Wk.ro _ _) (by first | rfl | simp only [List.length_cons, List.length_nil, Nat.reduceAdd, V.ids, V.idsL, idsA, entOk, List.all_cons, List.all_nil, Bool.and_self, Bool.and_true, Bool.true_and, ltB, noId, Nat.reduceLT, decide_true, Bool.true_eq_false, tyV_id, fdV_id, tyL_id, fdL_id]) | refine WkF.tu ?_ | refine WkF.ag ?_ | refine WkFL.cons ?_ ?_ | exact WkFL.nil)
    · have e : (w == 1 || w == 2 || w == 4) = false := by simp; omega
      rw [e]
      simp only [Bool.and_false, Bool.false_eq_true, if_false, tyV_mk, Option.getD_some, Option.getD_none, Option.isSome_some, Option.isSome_none]
      have h1 : ¬ w = 1 := by omega
      have h2 : ¬ w = 2 := by omega
      have h4 : ¬ w = 4 := by omega
      refine w33 True.intro ?_
      refine AR.callP hg @tyV_eq True.intro ?_
      refine go33 (And.intro hb (And.intro h1 (And.intro h2 h4))) ?_
      refine w33 (And.intro h1 (And.intro h2 h4)) ?_
      refine Fin.gen0 (rs := [.cell 6 25, .tmp 7]) rfl (by first | exact .inl rfl | exact .inr rfl) (by simp only [resX, resA, ↓accU_f, ↓reduceIte, SA, SB, SC, SD, T33, valG, fpsG, evO, evB, evA, evA1, nilK, eqF, eqC, apOk, intOf, slB, slK,  gd, St.ev, putA, ofl, wrl, putE, V.ofVal, V.ofCell, bin2, un1, seg, fillV, partsOk, Value.oneCell', Nat.reduceBEq, Nat.reduceLT, Nat.reduceSub, Nat.reduceAdd, Nat.reduceMul, Nat.reduceLeDiff, Nat.reduceEqDiff, reduceCtorEq, Int.reduceLT, Int.reduceLE, Int.reduceEq, Int.reduceNe, Int.reduceBEq, Int.reduceBNe, Int.reduceAdd, Int.reduceSub, Int.reduceMul, Int.reduceToNat]; with_reducible exact rfl) ?_
      simp only [tz, tyV_mk, List.map_nil]
      repeat (first | exact WkF.of (Wk.refl _) (by first | rfl | simp only [List.length_cons, List.length_nil, Nat.reduceAdd, V.ids, V.idsL, idsA, entOk, List.all_cons, List.all_nil, Bool.and_self, Bool.and_true, Bool.true_and, ltB, noId, Nat.reduceLT, decide_true, Bool.true_eq_false, tyV_id, fdV_id, tyL_id, fdL_id]) | exact WkF.of (Wk.ro _ _) (by first | rfl | simp only [List.length_cons, List.length_nil, Nat.reduceAdd, V.ids, V.idsL, idsA, entOk, List.all_cons, List.all_nil, Bool.and_self, Bool.and_true, Bool.true_and, ltB, noId, Nat.reduceLT, decide_true, Bool.true_eq_false, tyV_id, fdV_id, tyL_id, fdL_id]) | refine WkF.tu ?_ | refine WkF.ag ?_ | refine WkFL.cons ?_ ?_ | exact WkFL.nil)
end Go.Proofs.Ytfggemopnlffeaa

