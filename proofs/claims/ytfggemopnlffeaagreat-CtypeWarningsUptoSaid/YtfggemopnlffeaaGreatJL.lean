import Derived.Test.YtfggemopnlffeaaGreatHv
import Derived.Test.YtfggemopnlffeaaGreatCI
import Derived.Test.YtfggemopnlffeaaGreatJI
namespace Go.Proofs.YtfggemopnlffeaaGreat
set_option linter.unusedSimpArgs false
set_option linter.unusedVariables false
set_option linter.unnecessarySimpa false
open Go.RowKit
theorem PC.ghost {P : Program} {f : FuncId} {xs : List V} {e : TypeId} {z : Nat} (h : PC P f xs (.sl [] .nl)) : DC P f xs [.free] (.sl [] (.own 0)) [.tip e z 0] := by
  refine ⟨h.1, fun C vs hst hC hl hR => ?_⟩
  have hst' : C.st = stF := by
    rw [hst]; funext i; unfold ofl stF; cases i with
    | zero => rfl
    | succ i => simp [List.getD]
  refine (h.2 C vs hst' hC hl hR).mono ?_
  rintro e' w' ⟨v, x, st', rfl, ⟨rfl, rfl⟩, D, hw, hs, hD, hE, hR'⟩
  have hf : D.st 0 = .free := by rw [hs]; rfl
  refine ⟨v, _, _, rfl, ⟨rfl, rfl⟩, D.ghost 0 e z 0, hw, ?_, hD.ghost hf, hE.trans (Ev.ghost hf), R.ghost (.inr rfl) hf hR' (fun x hx => by cases hx)⟩
  show upd D.st 0 (.tip e z 0) = _
  rw [hs]
  funext i
  cases i with
  | zero => rfl
  | succ i => simp [upd, stF, ofl, List.getD]
theorem ACalls.nz_ne {P : Program} {f : FuncId} {es : List V} {xs : List V} {st : Nat → Ent} {Q : V → (Nat → Ent) → Prop} (hf : goFn P f = true) (h : 0 < es.length) : ACalls P f (.sl es .nz :: xs) st Q := by
  refine ⟨hf, fun C vs _ _ _ hR => ?_⟩
  have h0 : R C (.sl es .nz) (vs.getD 0 undef) := hR 0 (by simp)
  exfalso
  generalize vs.getD 0 undef = v at h0
  cases h0 with
  | sl _ _ _ _ hr hk =>
    obtain ⟨ad, h1, _⟩ := hr 0 h
    rw [h1] at hk
    cases hk
theorem vaL_all (l : List Va) : allZ 6 (l.map vaV) = true := by
  unfold allZ
  rw [List.all_map]
  exact List.all_eq_true.2 fun x _ => rfl
theorem Y62_CJ : type_of% (AI @F_al_44 (AI @F_by_44 (AI @F_el_22 (@F_sz_44)))) := AI @F_al_44 (AI @F_by_44 (AI @F_el_22 (@F_sz_44)))
theorem c_clV {vs : List Va} (hv : vs.length ≤ 4194304) : DC Tryz.prog 62 [.sl (vs.map vaV) .ro] [.free] (.sl (vs.map vaV) (.own 0)) [.tip 44 6 vs.length] := by
  have hA : vs.length * 88 ≤ 140737488355328 := by omega
  refine ACalls.nil1 ?_ ?_
  · rcases Nat.eq_zero_or_pos vs.length with h0 | h0
    · obtain rfl := List.length_eq_zero_iff.1 h0
      refine PC.ghost ?_
      refine PC.enter 8 Tryz.func62 rfl (by decide) rfl rfl (s := [(0, .sl [] .nz)]) (by rfl) ?_
      refine wG Y62_CJ True.intro ?_
      refine Fin.gen0 (rs := [.tmp 2]) rfl (by first | exact .inl rfl | exact .inr rfl) (by simp only [resX, resA, ↓accU_f, ↓reduceIte, SA, SB, SC, SD, Y62_CJ, valG, fpsG, evO, evB, evA, evA1, nilK, eqF, eqC, apOk, intOf, slB, slK,  gd, St.ev, putA, ofl, wrl, putE, V.ofVal, V.ofCell, bin2, un1, seg, fillV, partsOk, Value.oneCell', Nat.reduceBEq, Nat.reduceLT, Nat.reduceSub, Nat.reduceAdd, Nat.reduceMul, Nat.reduceLeDiff, Nat.reduceEqDiff, reduceCtorEq, Int.reduceLT, Int.reduceLE, Int.reduceEq, Int.reduceNe, Int.reduceBEq, Int.reduceBNe, Int.reduceAdd, Int.reduceSub, Int.reduceMul, Int.reduceToNat]; with_reducible exact rfl) ?_
      repeat (first | exact WkF.of (Wk.refl _) (by first | rfl | simp only [List.length_cons, List.length_nil, Nat.reduceAdd, V.ids, V.idsL, idsA, entOk, List.all_cons, List.all_nil, Bool.and_self, Bool.and_true, Bool.true_and, ltB, noId, Nat.reduceLT, decide_true, Bool.true_eq_false, tyV_id, fdV_id, tyL_id, fdL_id, exL_id, vaL_id, exV_id, vaV_id]) | exact WkF.of (Wk.ro _ _) (by first | rfl | simp only [List.length_cons, List.length_nil, Nat.reduceAdd, V.ids, V.idsL, idsA, entOk, List.all_cons, List.all_nil, Bool.and_self, Bool.and_true, Bool.true_and, ltB, noId, Nat.reduceLT, decide_true, Bool.true_eq_false, tyV_id, fdV_id, tyL_id, fdL_id, exL_id, vaL_id, exV_id, vaV_id]) | refine WkF.tu ?_ | refine WkF.ag ?_ | refine WkFL.cons ?_ ?_ | exact WkFL.nil)
    · exact ACalls.nz_ne (by kernel_rfl) (by simpa using h0)
  · refine DC.enterN 1 8 Tryz.func62 rfl (by decide) rfl rfl (s := [(0, .sl (vs.map vaV) .nn)]) (by rfl) ?_
    refine wG Y62_CJ (AI hA (AI vaL_all (AI (@List.length_map.{0, 0}) @Nat.zero_add))) ?_
    refine Fin.genK 1 (rs := [.tmp 2]) rfl (by first | exact .inl rfl | exact .inr rfl) (by simp only [resX, resA, ↓accU_f, ↓reduceIte, SA, SB, SC, SD, Y62_CJ, valG, fpsG, evO, evB, evA, evA1, nilK, eqF, eqC, apOk, intOf, slB, slK,  gd, St.ev, putA, ofl, wrl, putE, V.ofVal, V.ofCell, bin2, un1, seg, fillV, partsOk, Value.oneCell', Nat.reduceBEq, Nat.reduceLT, Nat.reduceSub, Nat.reduceAdd, Nat.reduceMul, Nat.reduceLeDiff, Nat.reduceEqDiff, reduceCtorEq, Int.reduceLT, Int.reduceLE, Int.reduceEq, Int.reduceNe, Int.reduceBEq, Int.reduceBNe, Int.reduceAdd, Int.reduceSub, Int.reduceMul, Int.reduceToNat]; with_reducible exact rfl) ?_ rfl (by first | rfl | simp only [List.length_cons, List.length_nil, Nat.reduceAdd, V.ids, V.idsL, idsA, entOk, List.all_cons, List.all_nil, Bool.and_self, Bool.and_true, Bool.true_and, ltB, noId, Nat.reduceLT, decide_true, Bool.true_eq_false, tyV_id, fdV_id, tyL_id, fdL_id, exL_id, vaL_id, exV_id, vaV_id])
    repeat (first | exact WkF.of (Wk.refl _) (by first | rfl | simp only [List.length_cons, List.length_nil, Nat.reduceAdd, V.ids, V.idsL, idsA, entOk, List.all_cons, List.all_nil, Bool.and_self, Bool.and_true, Bool.true_and, ltB, noId, Nat.reduceLT, decide_true, Bool.true_eq_false, tyV_id, fdV_id, tyL_id, fdL_id, exL_id, vaL_id, exV_id, vaV_id]) | exact WkF.of (Wk.ro _ _) (by first | rfl | simp only [List.length_cons, List.length_nil, Nat.reduceAdd, V.ids, V.idsL, idsA, entOk, List.all_cons, List.all_nil, Bool.and_self, Bool.and_true, Bool.true_and, ltB, noId, Nat.reduceLT, decide_true, Bool.true_eq_false, tyV_id, fdV_id, tyL_id, fdL_id, exL_id, vaL_id, exV_id, vaV_id]) | refine WkF.tu ?_ | refine WkF.ag ?_ | refine WkFL.cons ?_ ?_ | exact WkFL.nil)
def vErr : List Va → List Va → Int
  | _, [] => 0
  | seen, v :: r => if !nameT v.name then 3 else if has seen v.name then 8 else if chk v.ty ≠ 0 then chk v.ty else vErr (seen ++ [v]) r
theorem vErr_step {bs l : List Va} {m : Nat} (h : m < l.length) : vErr (bs ++ l.take m) (l.drop m) = if !nameT l[m].name then 3 else if has (bs ++ l.take m) l[m].name then 8 else if chk l[m].ty ≠ 0 then chk l[m].ty else vErr (bs ++ l.take (m + 1)) (l.drop (m + 1)) := by
  rw [List.drop_eq_getElem_cons h]
  rw [vErr, List.take_succ_eq_append_getElem h, List.append_assoc]
def fitVN (l : List Va) : Prop := ∀ v ∈ l, fit v.ty ∧ v.name.size ≤ 9223372036854775807
theorem Y34_CJ : type_of% (AI @F_ag_41 (AI @F_ag_44 (AI @F_ag_9 (AI @F_al_44 (AI @F_by_44 (AI @F_el_22 (AI @F_fl_44_0 (AI @F_fl_44_1 (AI @F_sz_41 (AI @F_sz_44 (@F_sz_9))))))))))) := AI @F_ag_41 (AI @F_ag_44 (AI @F_ag_9 (AI @F_al_44 (AI @F_by_44 (AI @F_el_22 (AI @F_fl_44_0 (AI @F_fl_44_1 (AI @F_sz_41 (AI @F_sz_44 (@F_sz_9))))))))))
theorem c_variablesE (bs l : List Va) (hb : bs.length + l.length ≤ 4194304) (hl : fitVN l) : PC Tryz.prog 34 [.sl (bs.map vaV) .ro, .sl (l.map vaV) .ro] (.im (.int .i64 (vErr bs l))) := by
  obtain ⟨sn, hsn⟩ : ∃ sn : Nat → List Va, ∀ m, sn m = bs ++ l.take m := ⟨_, fun _ => rfl⟩
  have hs0 : sn 0 = bs := by rw [hsn]; simp
  have hsl : ∀ m, (sn m).length ≤ bs.length + l.length := fun m => by rw [hsn, List.length_append, List.length_take]; omega
  have hstep : ∀ m (h : m < l.length), vErr (sn m) (l.drop m) = if !nameT l[m].name then 3 else if has (sn m) l[m].name then 8 else if chk l[m].ty ≠ 0 then chk l[m].ty else vErr (sn (m + 1)) (l.drop (m + 1)) := fun m h => by
    rw [hsn, hsn]; exact vErr_step h
  have happ : ∀ m (h : m < l.length), (sn m).map vaV ++ [vaV l[m]] = (sn (m + 1)).map vaV := fun m h => by
    rw [hsn, hsn, List.map_append, List.map_append, List.append_assoc, take_snoc vaV h]
  have hlen : ∀ m (h : m < l.length), (sn m).length + 1 = (sn (m + 1)).length := fun m h => by
    rw [hsn, hsn, List.length_append, List.length_append, List.length_take, List.length_take]; omega
  have hcl := c_clV (vs := sn 0) (by have := hsl 0; omega)
  refine PC.enter 39 Tryz.func34 rfl (by decide) rfl rfl (s := [(0, .sl (bs.map vaV) .ro), (1, .sl (l.map vaV) .ro)]) (by rfl) ?_
  refine wG Y34_CJ True.intro ?_
  refine AR.callS [0] hcl rfl rfl (by first | (simp only [SR, exV_ren, exL_ren, vaV_ren, vaL_ren]; done) | (simp only [SR, exV_ren, exL_ren, vaV_ren, vaL_ren]; with_reducible exact rfl)) (by first | (simp only [SR, exV_ren, exL_ren, vaV_ren, vaL_ren]; done) | (simp only [SR, exV_ren, exL_ren, vaV_ren, vaL_ren]; with_reducible exact rfl)) (WkL.of_eq (by simp only [St.ev, V.ofVal, V.ofCell, V.size_im, getD_dn, look_cons, look_nil, Nat.reduceLT, Nat.reduceEqDiff, reduceIte, if_true, if_false, List.map_cons, List.map_nil, List.nil_append, List.cons_append, List.append_nil, hs0])) (by first | rfl | simp only [List.length_cons, List.length_nil, Nat.reduceAdd, V.ids, V.idsL, idsA, entOk, List.all_cons, List.all_nil, Bool.and_self, Bool.and_true, Bool.true_and, ltB, noId, Nat.reduceLT, decide_true, Bool.true_eq_false, tyV_id, fdV_id, tyL_id, fdL_id, exL_id, vaL_id, exV_id, vaV_id]) rfl rfl rfl (by first | rfl | simp only [List.length_cons, List.length_nil, Nat.reduceAdd, V.ids, V.idsL, idsA, entOk, List.all_cons, List.all_nil, Bool.and_self, Bool.and_true, Bool.true_and, ltB, noId, Nat.reduceLT, decide_true, Bool.true_eq_false, tyV_id, fdV_id, tyL_id, fdL_id, exL_id, vaL_id, exV_id, vaV_id]) (by intro p hp; simp only [renE, SR, Ent.ren, List.mem_cons, List.not_mem_nil, or_false, exV_ren, exL_ren, vaV_ren, vaL_ren] at hp; rcases hp with rfl <;> rfl) (by simp only [renE, Ent.ren, SR, exV_ren, exL_ren, vaV_ren, vaL_ren, wrl, putE, SC, SD, Nat.reduceBEq, Nat.reduceLT, Nat.reduceSub, Nat.reduceAdd, Nat.reduceMul, Nat.reduceLeDiff, Nat.reduceEqDiff, reduceCtorEq, Int.reduceLT, Int.reduceLE, Int.reduceEq, Int.reduceNe, Int.reduceBEq, Int.reduceBNe, Int.reduceAdd, Int.reduceSub, Int.reduceMul, Int.reduceToNat]; with_reducible exact rfl) ?_
  refine goG Y34_CJ True.intro ?_
  refine wG Y34_CJ @List.length_map.{0, 0} ?_
  refine AWp.loop ?_
  refine ALp.cutP 1 [(5, .sl ((sn (0)).map vaV) (.own 0)), (11, .sl (l.map vaV) .ro), (12, (.im (.int .i64 (l.length)))), (13, (.im (.int .i64 ((((0 : Nat)) : Int)))))] [.tip 44 6 (sn (0)).length] (AI (@exL_id) (AI (@vaL_id) (AI (@exV_id) @vaV_id))) ?_
  refine ALp.upto l.length (fun m => vErr (sn m) (l.drop m) = vErr bs l) (fun m => ⟨dn 39 [(5, .sl ((sn (m)).map vaV) (.own 0)), (11, .sl (l.map vaV) .ro), (12, (.im (.int .i64 (l.length)))), (13, (.im (.int .i64 ((((m : Nat)) : Int)))))], ofl [.tip 44 6 (sn (m)).length]⟩) ?_ 0 (Nat.zero_le _) (by rw [hs0, List.drop_zero])
  intro m hm hV hnext
  rw [← hV]
  by_cases hlt : m < l.length
  · have hlt' : (m : Int) < (l.length : Int) := by omega
    have hm1 := wrap_succ hlt (by omega)
    have hg := get_some hlt
    obtain ⟨hty, hnm⟩ := hl _ (List.getElem_mem hlt)
    have h1 := c_name l[m].name hnm
    have h2 := c_among (sn m)
    have h3 := c_among1 (sn m) (by have := hsl m; omega) l[m].name
    have h4 := c_check l[m].ty hty
    have ha := happ m hlt
    rw [vaV_eq] at ha
    have hln := hlen m hlt
    have hA : (sn (m + 1)).length * 88 ≤ 140737488355328 := by have := hsl (m + 1); omega
    rw [hstep m hlt]
    rw [hstep m hlt] at hV
    have hn2 := hnext (m + 1) (by omega) (by omega)
    cases b1 : nameT l[m].name with
    | false =>
      rw [b1] at h1
      simp only [Bool.not_false, if_true]
      refine wG Y34_CJ (AI hlt' (AI hg VA)) ?_
      refine AR.callP h1 True.intro (AI (@exL_id) (AI (@vaL_id) (AI (@exV_id) @vaV_id))) ?_
      refine goG Y34_CJ True.intro ?_
      refine wG Y34_CJ True.intro ?_
      exact Fin.oneP
    | true =>
      rw [b1] at h1 hV
      simp only [Bool.not_true, Bool.false_eq_true, if_false] at hV ⊢
      cases b2 : has (sn m) l[m].name with
      | true =>
        rw [b2] at h3
        simp only [if_true]
        refine wG Y34_CJ (AI hlt' (AI hg VA)) ?_
        refine AR.callP h1 True.intro (AI (@exL_id) (AI (@vaL_id) (AI (@exV_id) @vaV_id))) ?_
        refine goG Y34_CJ True.intro ?_
        refine wdG Y34_CJ True.intro ?_
        refine AR.callS [2] h2 rfl rfl (by first | (simp only [SR, exV_ren, exL_ren, vaV_ren, vaL_ren]; done) | (simp only [SR, exV_ren, exL_ren, vaV_ren, vaL_ren]; with_reducible exact rfl)) (by first | (simp only [SR, exV_ren, exL_ren, vaV_ren, vaL_ren]; done) | (simp only [SR, exV_ren, exL_ren, vaV_ren, vaL_ren]; with_reducible exact rfl)) (WkL.cons (Wk.ro _ _) .nil) (by first | rfl | simp only [List.length_cons, List.length_nil, Nat.reduceAdd, V.ids, V.idsL, idsA, entOk, List.all_cons, List.all_nil, Bool.and_self, Bool.and_true, Bool.true_and, ltB, noId, Nat.reduceLT, decide_true, Bool.true_eq_false, tyV_id, fdV_id, tyL_id, fdL_id, exL_id, vaL_id, exV_id, vaV_id]) rfl rfl rfl (by first | rfl | simp only [List.length_cons, List.length_nil, Nat.reduceAdd, V.ids, V.idsL, idsA, entOk, List.all_cons, List.all_nil, Bool.and_self, Bool.and_true, Bool.true_and, ltB, noId, Nat.reduceLT, decide_true, Bool.true_eq_false, tyV_id, fdV_id, tyL_id, fdL_id, exL_id, vaL_id, exV_id, vaV_id]) (by intro p hp; simp only [renE, SR, Ent.ren, List.mem_cons, List.not_mem_nil, or_false, exV_ren, exL_ren, vaV_ren, vaL_ren] at hp; rcases hp with rfl <;> rfl) (by simp only [renE, Ent.ren, SR, exV_ren, exL_ren, vaV_ren, vaL_ren, wrl, putE, SC, SD, Nat.reduceBEq, Nat.reduceLT, Nat.reduceSub, Nat.reduceAdd, Nat.reduceMul, Nat.reduceLeDiff, Nat.reduceEqDiff, reduceCtorEq, Int.reduceLT, Int.reduceLE, Int.reduceEq, Int.reduceNe, Int.reduceBEq, Int.reduceBNe, Int.reduceAdd, Int.reduceSub, Int.reduceMul, Int.reduceToNat]; with_reducible exact rfl) ?_
        refine goG Y34_CJ True.intro ?_
        refine AR.callQP [2] h3 True.intro (AI (@exL_id) (AI (@vaL_id) (AI (@exV_id) @vaV_id))) (AI (@exV_ren) (AI (@exL_ren) (AI (@vaV_ren) @vaL_ren))) ?_
        refine goG Y34_CJ True.intro ?_
        refine wdG Y34_CJ True.intro ?_
        exact Fin.oneP
      | false =>
        rw [b2] at h3 hV
        simp only [Bool.false_eq_true, if_false] at hV ⊢
        by_cases b3 : chk l[m].ty = 0
        case neg =>
          have q : (chk l[m].ty ≠ 0) = True := by simp [b3]
          rw [if_pos b3]
          refine wG Y34_CJ (AI hlt' (AI hg VA)) ?_
          refine AR.callP h1 True.intro (AI (@exL_id) (AI (@vaL_id) (AI (@exV_id) @vaV_id))) ?_
          refine goG Y34_CJ True.intro ?_
          refine wdG Y34_CJ True.intro ?_
          refine AR.callS [2] h2 rfl rfl (by first | (simp only [SR, exV_ren, exL_ren, vaV_ren, vaL_ren]; done) | (simp only [SR, exV_ren, exL_ren, vaV_ren, vaL_ren]; with_reducible exact rfl)) (by first | (simp only [SR, exV_ren, exL_ren, vaV_ren, vaL_ren]; done) | (simp only [SR, exV_ren, exL_ren, vaV_ren, vaL_ren]; with_reducible exact rfl)) (WkL.cons (Wk.ro _ _) .nil) (by first | rfl | simp only [List.length_cons, List.length_nil, Nat.reduceAdd, V.ids, V.idsL, idsA, entOk, List.all_cons, List.all_nil, Bool.and_self, Bool.and_true, Bool.true_and, ltB, noId, Nat.reduceLT, decide_true, Bool.true_eq_false, tyV_id, fdV_id, tyL_id, fdL_id, exL_id, vaL_id, exV_id, vaV_id]) rfl rfl rfl (by first | rfl | simp only [List.length_cons, List.length_nil, Nat.reduceAdd, V.ids, V.idsL, idsA, entOk, List.all_cons, List.all_nil, Bool.and_self, Bool.and_true, Bool.true_and, ltB, noId, Nat.reduceLT, decide_true, Bool.true_eq_false, tyV_id, fdV_id, tyL_id, fdL_id, exL_id, vaL_id, exV_id, vaV_id]) (by intro p hp; simp only [renE, SR, Ent.ren, List.mem_cons, List.not_mem_nil, or_false, exV_ren, exL_ren, vaV_ren, vaL_ren] at hp; rcases hp with rfl <;> rfl) (by simp only [renE, Ent.ren, SR, exV_ren, exL_ren, vaV_ren, vaL_ren, wrl, putE, SC, SD, Nat.reduceBEq, Nat.reduceLT, Nat.reduceSub, Nat.reduceAdd, Nat.reduceMul, Nat.reduceLeDiff, Nat.reduceEqDiff, reduceCtorEq, Int.reduceLT, Int.reduceLE, Int.reduceEq, Int.reduceNe, Int.reduceBEq, Int.reduceBNe, Int.reduceAdd, Int.reduceSub, Int.reduceMul, Int.reduceToNat]; with_reducible exact rfl) ?_
          refine goG Y34_CJ True.intro ?_
          refine AR.callQP [2] h3 True.intro (AI (@exL_id) (AI (@vaL_id) (AI (@exV_id) @vaV_id))) (AI (@exV_ren) (AI (@exL_ren) (AI (@vaV_ren) @vaL_ren))) ?_
          refine goG Y34_CJ True.intro ?_
          refine wdG Y34_CJ TY ?_
          refine AR.callP h4 @tyV_eq (AI (@exL_id) (AI (@vaL_id) (AI (@exV_id) @vaV_id))) ?_
          refine goG Y34_CJ b3 ?_
          refine wG Y34_CJ b3 ?_
          exact Fin.oneP
        case pos =>
          rw [if_neg (by simp [b3])] at hV ⊢
          rw [b3] at h4
          refine wG Y34_CJ (AI hlt' (AI hg VA)) ?_
          refine AR.callP h1 True.intro (AI (@exL_id) (AI (@vaL_id) (AI (@exV_id) @vaV_id))) ?_
          refine goG Y34_CJ True.intro ?_
          refine wdG Y34_CJ True.intro ?_
          refine AR.callS [2] h2 rfl rfl (by first | (simp only [SR, exV_ren, exL_ren, vaV_ren, vaL_ren]; done) | (simp only [SR, exV_ren, exL_ren, vaV_ren, vaL_ren]; with_reducible exact rfl)) (by first | (simp only [SR, exV_ren, exL_ren, vaV_ren, vaL_ren]; done) | (simp only [SR, exV_ren, exL_ren, vaV_ren, vaL_ren]; with_reducible exact rfl)) (WkL.cons (Wk.ro _ _) .nil) (by first | rfl | simp only [List.length_cons, List.length_nil, Nat.reduceAdd, V.ids, V.idsL, idsA, entOk, List.all_cons, List.all_nil, Bool.and_self, Bool.and_true, Bool.true_and, ltB, noId, Nat.reduceLT, decide_true, Bool.true_eq_false, tyV_id, fdV_id, tyL_id, fdL_id, exL_id, vaL_id, exV_id, vaV_id]) rfl rfl rfl (by first | rfl | simp only [List.length_cons, List.length_nil, Nat.reduceAdd, V.ids, V.idsL, idsA, entOk, List.all_cons, List.all_nil, Bool.and_self, Bool.and_true, Bool.true_and, ltB, noId, Nat.reduceLT, decide_true, Bool.true_eq_false, tyV_id, fdV_id, tyL_id, fdL_id, exL_id, vaL_id, exV_id, vaV_id]) (by intro p hp; simp only [renE, SR, Ent.ren, List.mem_cons, List.not_mem_nil, or_false, exV_ren, exL_ren, vaV_ren, vaL_ren] at hp; rcases hp with rfl <;> rfl) (by simp only [renE, Ent.ren, SR, exV_ren, exL_ren, vaV_ren, vaL_ren, wrl, putE, SC, SD, Nat.reduceBEq, Nat.reduceLT, Nat.reduceSub, Nat.reduceAdd, Nat.reduceMul, Nat.reduceLeDiff, Nat.reduceEqDiff, reduceCtorEq, Int.reduceLT, Int.reduceLE, Int.reduceEq, Int.reduceNe, Int.reduceBEq, Int.reduceBNe, Int.reduceAdd, Int.reduceSub, Int.reduceMul, Int.reduceToNat]; with_reducible exact rfl) ?_
          refine goG Y34_CJ True.intro ?_
          refine AR.callQP [2] h3 True.intro (AI (@exL_id) (AI (@vaL_id) (AI (@exV_id) @vaV_id))) (AI (@exV_ren) (AI (@exL_ren) (AI (@vaV_ren) @vaL_ren))) ?_
          refine goG Y34_CJ True.intro ?_
          refine wdG Y34_CJ TY ?_
          refine AR.callP h4 @tyV_eq (AI (@exL_id) (AI (@vaL_id) (AI (@exV_id) @vaV_id))) ?_
          refine goG Y34_CJ True.intro ?_
          refine wG Y34_CJ (AI ha (AI hln (AI hA (AI hm1 @List.length_map.{0, 0})))) ?_
          refine ALp.cutP 1 [(5, .sl ((sn (m + 1)).map vaV) (.own 0)), (11, .sl (l.map vaV) .ro), (12, (.im (.int .i64 (l.length)))), (13, (.im (.int .i64 ((((m + 1 : Nat)) : Int)))))] [.tip 44 6 (sn (m + 1)).length] (AI (@exL_id) (AI (@vaL_id) (AI (@exV_id) @vaV_id))) ?_
          rw [hV]
          exact hn2 hV
  obtain rfl : m = l.length := by omega
  clear hnext
  have e0 : vErr (sn l.length) (l.drop l.length) = 0 := by rw [List.drop_length]; cases sn l.length <;> rfl
  rw [e0]
  refine wG Y34_CJ @Int.lt_irrefl ?_
  exact Fin.oneP
end Go.Proofs.YtfggemopnlffeaaGreat
namespace Go.Proofs.YtfggemopnlffeaaGreat
set_option linter.unusedSimpArgs false
set_option linter.unusedVariables false
set_option linter.unnecessarySimpa false
open Go.RowKit
theorem scV_eq (s : Sec) : scV s = .ag [.im (.string s.name), .im (.int .u32 s.addr), .sl (s.data.map fun b => .im (.int .u8 b.toNat)) .ro, .im (.bool s.wr), .im (.bool s.exe)] := rfl
theorem scV_live (v : Sec) : (scV v).live = true := rfl
theorem scV_size (v : Sec) : (scV v).size = 5 := rfl
theorem scV_isAg (v : Sec) : (scV v).isAg = true := rfl
theorem scV_firm (v : Sec) : (scV v).firm = true := rfl
theorem scV_strip (g : Bool) (v : Sec) : strip g (scV v) = scV v := rfl
theorem scV_cells (s : Sec) : (scV s).cells = [.im (.string s.name), .im (.int .u32 s.addr), .sl (s.data.map fun b => .im (.int .u8 b.toNat)) .ro, .im (.bool s.wr), .im (.bool s.exe)] := rfl
theorem by_id (p : Nat → Bool) (l : List UInt8) : V.idsL p (l.map fun b => V.im (.int .u8 b.toNat)) = true := idsL_map (fun _ => rfl) l
theorem by_ren (g : Nat → Nat) (l : List UInt8) : V.renL g (l.map fun b => V.im (.int .u8 b.toNat)) = l.map fun b => V.im (.int .u8 b.toNat) := V.renL_id g _ (by_id _ l)
theorem scV_id (p : Nat → Bool) (v : Sec) : (scV v).ids p = true := by simp [scV, V.ids, V.idsL, by_id]
theorem scL_id (p : Nat → Bool) (l : List Sec) : V.idsL p (l.map scV) = true := idsL_map (scV_id p) l
theorem scV_ren (g : Nat → Nat) (t : Sec) : V.ren g (scV t) = scV t := V.ren_id g _ (scV_id _ t)
theorem scL_ren (g : Nat → Nat) (l : List Sec) : V.renL g (l.map scV) = l.map scV := V.renL_id g _ (scL_id _ l)
theorem scL_all (l : List Sec) : allZ 5 (l.map scV) = true := by
  unfold allZ
  rw [List.all_map]
  exact List.all_eq_true.2 fun x _ => rfl
theorem scL_allS (l : List Sec) : allS 5 (l.map scV) = true := by
  unfold allS
  rw [List.all_map]
  exact List.all_eq_true.2 fun x _ => rfl
theorem GDS : type_of% (AI (@Option.getD_none.{0}) (AI (@Option.getD_some.{0}) (AI Int.toNat_natCast (AI Int.toNat_zero (AI Nat.sub_zero (AI (@List.drop_zero.{0}) (AI (@List.length_map.{0, 0}) (AI Int.natCast_nonneg Int.le_refl)))))))) := AI (@Option.getD_none.{0}) (AI (@Option.getD_some.{0}) (AI Int.toNat_natCast (AI Int.toNat_zero (AI Nat.sub_zero (AI (@List.drop_zero.{0}) (AI (@List.length_map.{0, 0}) (AI Int.natCast_nonneg Int.le_refl)))))))
theorem SCT : type_of% (AI @scV_firm (AI @scV_strip (AI @scV_live (AI @scV_size (AI @scV_isAg (AI @scV_cells (AI @List.getElem?_map.{0, 0} @Int.natCast_nonneg))))))) :=
  AI @scV_firm (AI @scV_strip (AI @scV_live (AI @scV_size (AI @scV_isAg (AI @scV_cells (AI @List.getElem?_map.{0, 0} @Int.natCast_nonneg))))))
theorem Y101_CK : type_of% (AI @F_ag_91 (AI @F_el_23 (@F_sz_91))) := AI @F_ag_91 (AI @F_el_23 (@F_sz_91))
theorem c_indexS1 {gs : List Sec} {F : FuncId} {cs : List V} (p : Sec → Bool) (hcs : V.idsL (ltB 1) cs = true) (hr : V.renL (gOf [0]) cs = cs) (hl : gs.length ≤ 4194304) (hF : ∀ t ∈ gs, DC Tryz.prog F [scV t, .pt 0 0] [.box cs] (.im (.bool (p t))) [.box cs]) :
    DC Tryz.prog 101 [.sl (gs.map scV) .ro, .fn (.func F) [] [.pt 0 0]] [.box cs] (.im (.int .i64 (idx gs p))) [.box cs] := by
  refine DC.enter 19 Tryz.func101 rfl (by decide) rfl rfl (s := [(0, .sl (gs.map scV) .ro), (1, .fn (.func F) [] [.pt 0 0])]) (by rfl) ?_
  refine wG Y101_CK True.intro ?_
  refine AWp.loop ?_
  refine ALp.cutP 1 [(0, .sl (gs.map scV) .ro), (1, .fn (.func F) [] [.pt 0 0]), (7, (.im (.int .i64 (gs.length)))), (8, (.im (.int .i64 ((((0 : Nat)) : Int)))))] [.box cs] (AI scL_id (AI scV_id hcs)) ?_
  refine ALp.upto gs.length (AllTo (fun x => !p x) gs) (fun m => ⟨dn 19 [(0, .sl (gs.map scV) .ro), (1, .fn (.func F) [] [.pt 0 0]), (7, (.im (.int .i64 (gs.length)))), (8, (.im (.int .i64 ((((m : Nat)) : Int)))))], ofl [.box cs]⟩) ?_ 0 (Nat.zero_le _) (AllTo.zero _ _)
  intro m hm hI hnext
  by_cases hlt : m < gs.length
  · have hlt' : (m : Int) < (gs.length : Int) := by omega
    have hg := get_some hlt
    have hm1 := wrap_succ hlt (by omega)
    have hc := hF gs[m] (List.getElem_mem hlt)
    refine wG Y101_CK (AI SCT (AI hlt' (AI hg hm1))) ?_
    by_cases b : p gs[m] = true
    · rw [b] at hc
      refine AR.callQP [0] hc scV_eq (AI scL_id (AI scV_id hcs)) (AI scV_ren (AI scL_ren hr)) ?_
      refine goG Y101_CK True.intro ?_
      refine wG Y101_CK True.intro ?_
      rw [idx_some hlt hI b]
      exact Fin.oneSP (AI scL_id (AI scV_id hcs))
    · have b : p gs[m] = false := by simpa using b
      rw [b] at hc
      refine AR.callQP [0] hc scV_eq (AI scL_id (AI scV_id hcs)) (AI scV_ren (AI scL_ren hr)) ?_
      refine goG Y101_CK True.intro ?_
      refine wG Y101_CK hm1 ?_
      refine ALp.cutP 1 [(0, .sl (gs.map scV) .ro), (1, .fn (.func F) [] [.pt 0 0]), (7, (.im (.int .i64 (gs.length)))), (8, (.im (.int .i64 ((((m + 1 : Nat)) : Int)))))] [.box cs] (AI scL_id (AI scV_id hcs)) ?_
      exact hnext (m + 1) (by omega) (by omega) (hI.succ hlt (by simp [b]))
  · obtain rfl : m = gs.length := by omega
    have hlt' : ¬ (gs.length : Int) < (gs.length : Int) := by omega
    clear hnext hlt
    rw [idx_none hI]
    refine wG Y101_CK hlt' ?_
    exact Fin.oneSP (AI scL_id (AI scV_id hcs))
theorem c_containsS1 {gs : List Sec} {F : FuncId} {cs : List V} (p : Sec → Bool) (hcs : V.idsL (ltB 1) cs = true) (hr : V.renL (gOf [0]) cs = cs) (hl : gs.length ≤ 4194304) (hF : ∀ t ∈ gs, DC Tryz.prog F [scV t, .pt 0 0] [.box cs] (.im (.bool (p t))) [.box cs]) :
    DC Tryz.prog 64 [.sl (gs.map scV) .ro, .fn (.func F) [] [.pt 0 0]] [.box cs] (.im (.bool (gs.any p))) [.box cs] := by
  have h := c_indexS1 p hcs hr hl hF
  refine DC.enter 9 Tryz.func64 rfl (by decide) rfl rfl (s := [(0, .sl (gs.map scV) .ro), (1, .fn (.func F) [] [.pt 0 0])]) (by rfl) ?_
  refine wG True.intro True.intro ?_
  refine AR.callQP [0] h True.intro (AI scL_id (AI scV_id hcs)) (AI scV_ren (AI scL_ren hr)) ?_
  refine goG True.intro True.intro ?_
  rw [idx_any]
  refine wG True.intro True.intro ?_
  exact Fin.oneSP (AI scL_id (AI scV_id hcs))
def dErr : List Sec → List Sec → Int
  | _, [] => 0
  | seen, d :: r => if !nameT d.name then 3 else if seen.any (fun x => eqS x.name d.name) then 8 else if 65536 < d.data.length then 6 else dErr (seen ++ [d]) r
theorem dErr_step {l : List Sec} {m : Nat} (h : m < l.length) : dErr (l.take m) (l.drop m) = if !nameT l[m].name then 3 else if (l.take m).any (fun x => eqS x.name l[m].name) then 8 else if 65536 < l[m].data.length then 6 else dErr (l.take (m + 1)) (l.drop (m + 1)) := by
  rw [List.drop_eq_getElem_cons h]
  rw [dErr, List.take_succ_eq_append_getElem h]
def fitSec (l : List Sec) : Prop := ∀ s ∈ l, s.name.size ≤ 9223372036854775807
theorem Y65_CK : type_of% (AI @F_ag_9 (AI @F_fl_91_0 (@F_sz_9))) := AI @F_ag_9 (AI @F_fl_91_0 (@F_sz_9))
theorem c_data1 (x d : Sec) : DC Tryz.prog 65 [scV x, .pt 0 0] [.box [.im (.string (d).name), .im (.int .u32 (d).addr), .sl ((d).data.map fun b => .im (.int .u8 b.toNat)) .ro, .im (.bool (d).wr), .im (.bool (d).exe)]] (.im (.bool (eqS x.name d.name))) [.box [.im (.string (d).name), .im (.int .u32 (d).addr), .sl ((d).data.map fun b => .im (.int .u8 b.toNat)) .ro, .im (.bool (d).wr), .im (.bool (d).exe)]] := by
  refine DC.enter 9 Tryz.func65 rfl (by decide) rfl rfl (s := [(0, scV x), (1, .pt 0 0)]) (by rfl) ?_
  simp only [scV_eq]
  refine wG Y65_CK True.intro ?_
  exact Fin.oneSP (AI scL_id (AI scV_id by_id))
theorem Y35_CK : type_of% (AI @F_ag_89 (AI @F_ag_9 (AI @F_ag_91 (AI @F_al_91 (AI @F_el_23 (AI @F_el_89 (AI @F_fl_91_0 (AI @F_fl_91_2 (AI @F_sz_5 (AI @F_sz_89 (AI @F_sz_9 (AI @F_sz_91 (@F_un_23))))))))))))) := AI @F_ag_89 (AI @F_ag_9 (AI @F_ag_91 (AI @F_al_91 (AI @F_el_23 (AI @F_el_89 (AI @F_fl_91_0 (AI @F_fl_91_2 (AI @F_sz_5 (AI @F_sz_89 (AI @F_sz_9 (AI @F_sz_91 (@F_un_23))))))))))))
theorem c_data (l : List Sec) (hl : l.length ≤ 4194304) (hf : fitSec l) : PC Tryz.prog 35 [.sl (l.map scV) .ro] (.im (.int .i64 (dErr [] l))) := by
  refine PC.enter 29 Tryz.func35 rfl (by decide) rfl rfl (s := [(0, .sl (l.map scV) .ro)]) (by rfl) ?_
  refine wG Y35_CK True.intro ?_
  refine AWp.loop ?_
  refine ALp.cutP 0 [(0, .sl (l.map scV) .ro), (5, .sl (l.map scV) .ro), (6, (.im (.int .i64 (l.length)))), (7, (.im (.int .i64 ((((0 : Nat)) : Int)))))] [] (AI scL_id (AI scV_id by_id)) ?_
  refine ALp.upto l.length (fun m => dErr (l.take m) (l.drop m) = dErr [] l) (fun m => ⟨dn 29 [(0, .sl (l.map scV) .ro), (5, .sl (l.map scV) .ro), (6, (.im (.int .i64 (l.length)))), (7, (.im (.int .i64 ((((m : Nat)) : Int)))))], ofl []⟩) ?_ 0 (Nat.zero_le _) rfl
  intro m hm hV hnext
  rw [← hV]
  by_cases hlt : m < l.length
  · have hlt' : (m : Int) < (l.length : Int) := by omega
    have hm1 := wrap_succ hlt (by omega)
    have hg := get_some hlt
    have h1 := c_name l[m].name (hf _ (List.getElem_mem hlt))
    have h2 := c_containsS1 (gs := l.take m) (F := 65) (fun x => eqS x.name l[m].name) (cs := [.im (.string l[m].name), .im (.int .u32 l[m].addr), .sl (l[m].data.map fun b => .im (.int .u8 b.toNat)) .ro, .im (.bool l[m].wr), .im (.bool l[m].exe)]) (by simp [V.idsL, V.ids, by_id]) (by simp only [SR, by_ren]) (by rw [List.length_take]; omega) (fun x _ => c_data1 x l[m])
    rw [dErr_step hlt]
    rw [dErr_step hlt] at hV
    have hn2 := hnext (m + 1) (by omega) (by omega)
    cases b1 : nameT l[m].name with
    | false =>
      rw [b1] at h1
      simp only [Bool.not_false, if_true]
      refine wG Y35_CK (AI hlt' (AI hg SCT)) ?_
      refine AR.callP h1 True.intro (AI scL_id (AI scV_id by_id)) ?_
      refine goG Y35_CK True.intro ?_
      refine wG Y35_CK True.intro ?_
      exact Fin.oneP
    | true =>
      rw [b1] at h1 hV
      simp only [Bool.not_true, Bool.false_eq_true, if_false] at hV ⊢
      refine wG Y35_CK (AI hlt' (AI hg SCT)) ?_
      refine AR.callP h1 True.intro (AI scL_id (AI scV_id by_id)) ?_
      refine goG Y35_CK True.intro ?_
      have hmi : (m : Int) ≤ (l.length : Int) := by omega
      have hne : ¬ m = l.length := by omega
      have htk : (l.map scV).take m = (l.take m).map scV := List.map_take.symm
      refine wG Y35_CK (AI hmi (AI hne (AI htk (AI scL_allS (AI scL_all GDS))))) ?_
      cases b2 : (l.take m).any fun x => eqS x.name l[m].name with
      | true =>
        rw [b2] at h2
        simp only [if_true]
        refine AR.callQP [0] h2 True.intro (AI scL_id (AI scV_id by_id)) (AI scV_ren (AI scL_ren by_ren)) ?_
        refine goG Y35_CK True.intro ?_
        refine wG Y35_CK True.intro ?_
        exact Fin.oneP
      | false =>
        rw [b2] at h2 hV
        simp only [Bool.false_eq_true, if_false] at hV ⊢
        refine AR.callQP [0] h2 True.intro (AI scL_id (AI scV_id by_id)) (AI scV_ren (AI scL_ren by_ren)) ?_
        refine goG Y35_CK True.intro ?_
        by_cases b3 : 65536 < l[m].data.length
        · have b3' : (65536 : Int) < (l[m].data.length : Int) := by omega
          rw [if_pos b3]
          refine wG Y35_CK (AI b3' @List.length_map.{0, 0}) ?_
          exact Fin.oneP
        · have b3' : ¬ (65536 : Int) < (l[m].data.length : Int) := by omega
          rw [if_neg b3] at hV ⊢
          refine wG Y35_CK (AI b3' (AI (@List.length_map.{0, 0}) hm1)) ?_
          refine ALp.cutP 0 [(0, .sl (l.map scV) .ro), (5, .sl (l.map scV) .ro), (6, (.im (.int .i64 (l.length)))), (7, (.im (.int .i64 ((((m + 1 : Nat)) : Int)))))] [] (AI scL_id (AI scV_id by_id)) ?_
          rw [hV]
          exact hn2 hV
  obtain rfl : m = l.length := by omega
  clear hnext
  have e0 : dErr (l.take l.length) (l.drop l.length) = 0 := by rw [List.drop_length]; cases l.take l.length <;> rfl
  rw [e0]
  refine wG Y35_CK @Int.lt_irrefl ?_
  exact Fin.oneP
end Go.Proofs.YtfggemopnlffeaaGreat
