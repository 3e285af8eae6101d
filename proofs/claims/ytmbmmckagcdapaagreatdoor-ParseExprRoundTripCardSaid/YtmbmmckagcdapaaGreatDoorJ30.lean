import Derived.Test.YtmbmmckagcdapaaGreatDoorJ11
import Derived.Test.YtmbmmckagcdapaaGreatDoorJ15
import Derived.Test.YtmbmmckagcdapaaGreatDoorJ29
set_option linter.unusedSimpArgs false
set_option linter.unusedVariables false
set_option linter.unnecessarySimpa false
namespace Go.Proofs.YtmbmmckagcdapaaGreatDoor
open Go.RowKit
theorem PC.ghost {P : Program} {f : FuncId} {xs : List V} {e : TypeId} {z : Nat} (h : PC P f xs (.sl [] .nl)) : DC P f xs [.free] (.sl [] (.own 0)) [.tip e z 0] := by
  refine ⟨h.1, fun C vs hst hC hl hR => ?_⟩
  have hst' : C.st = stF := by
    rw [hst]; funext i; unfold ofl stF; cases i with
    | zero => rfl
    | succ i => simp [List.getD]
  refine (h.2 C vs hst' hC hl hR).mono ?_
  rintro e' w' ⟨v, x, st', rfl, ⟨rfl, rfl⟩, D, hw, hs, hD, hE, hR'⟩
  have hf : D.st 0 = .free := by rw [hs]; rfl
  refine ⟨v, _, _, rfl, ⟨rfl, rfl⟩, D.ghost 0 e z 0, hw, ?_, hD.ghost hf, hE.trans (Ev.ghost hf), R.ghost (.inr rfl) hf hR' (fun x hx => by cases hx)⟩
  show upd D.st 0 (.tip e z 0) = _
  rw [hs]
  funext i
  cases i with
  | zero => rfl
  | succ i => simp [upd, stF, ofl, List.getD]
theorem ACalls.nz_ne {P : Program} {f : FuncId} {es : List V} {xs : List V} {st : Nat → Ent} {Q : V → (Nat → Ent) → Prop} (hf : goFn P f = true) (h : 0 < es.length) : ACalls P f (.sl es .nz :: xs) st Q := by
  refine ⟨hf, fun C vs _ _ _ hR => ?_⟩
  have h0 : R C (.sl es .nz) (vs.getD 0 undef) := hR 0 (by simp)
  exfalso
  generalize vs.getD 0 undef = v at h0
  cases h0 with
  | sl _ _ _ _ hr hk =>
    obtain ⟨ad, h1, _⟩ := hr 0 h; rw [h1] at hk; cases hk
theorem vaL_all (l : List Va) : allZ 6 (l.map vaV) = true := by
  unfold allZ
  rw [List.all_map]
  exact List.all_eq_true.2 fun x _ => rfl
theorem Y87_CJ : type_of% (AI @F_al_96 (AI @F_by_96 (AI @F_el_23 (@F_sz_96)))) := AI @F_al_96 (AI @F_by_96 (AI @F_el_23 (@F_sz_96)))
theorem c_clV {vs : List Va} (hv : vs.length ≤ 4194304) : DC Tryz.prog 87 [.sl (vs.map vaV) .ro] [.free] (.sl (vs.map vaV) (.own 0)) [.tip 96 6 vs.length] := by
  have hA : vs.length * 88 ≤ 140737488355328 := by omega
  refine ACalls.nil1 ?_ ?_
  · rcases Nat.eq_zero_or_pos vs.length with h0 | h0
    · obtain rfl := List.length_eq_zero_iff.1 h0
      refine PC.ghost ?_; refine PC.enter 8 Tryz.func87 rfl (by decide) rfl rfl (s := [(0, .sl [] .nz)]) (by rfl) ?_
      refine wG Y87_CJ True.intro ?_; refine Fin.gen0 (rs := [.tmp 2]) rfl (by first | exact .inl rfl | exact .inr rfl) (finG Y87_CJ) ?_
      all_goals exact wkG (AI (@exL_id) (AI (@vaL_id) (AI (@exV_id) @vaV_id)))
    · exact ACalls.nz_ne (by kernel_rfl) (by simpa using h0)
  · refine DC.enterN 1 8 Tryz.func87 rfl (by decide) rfl rfl (s := [(0, .sl (vs.map vaV) .nn)]) (by rfl) ?_
    refine wG Y87_CJ (AI hA (AI vaL_all (AI (@List.length_map.{0, 0}) @Nat.zero_add))) ?_; refine Fin.genK 1 (rs := [.tmp 2]) rfl (by first | exact .inl rfl | exact .inr rfl) (by simp only [resX, resA, ↓accU_f, ↓reduceIte, SA, SB, SC, SD, Y87_CJ, valG, fpsG, evO, evB, evA, evA1, nilK, eqF, eqC, apOk, intOf, slB, slK,  gd, St.ev, putA, ofl, wrl, putE, V.ofVal, V.ofCell, bin2, un1, seg, fillV, partsOk, Value.oneCell', Nat.reduceBEq, Nat.reduceLT, Nat.reduceSub, Nat.reduceAdd, Nat.reduceMul, Nat.reduceLeDiff, Nat.reduceEqDiff, reduceCtorEq, Int.reduceLT, Int.reduceLE, Int.reduceEq, Int.reduceNe, Int.reduceBEq, Int.reduceBNe, Int.reduceAdd, Int.reduceSub, Int.reduceMul, Int.reduceToNat]; with_reducible exact rfl) ?_ rfl (by first | rfl | simp only [List.length_cons, List.length_nil, Nat.reduceAdd, V.ids, V.idsL, idsA, entOk, List.all_cons, List.all_nil, Bool.and_self, Bool.and_true, Bool.true_and, ltB, noId, Nat.reduceLT, decide_true, Bool.true_eq_false, tyV_id, fdV_id, tyL_id, fdL_id, exL_id, vaL_id, exV_id, vaV_id])
    repeat (first | exact WkF.of (Wk.refl _) (by first | rfl | simp only [List.length_cons, List.length_nil, Nat.reduceAdd, V.ids, V.idsL, idsA, entOk, List.all_cons, List.all_nil, Bool.and_self, Bool.and_true, Bool.true_and, ltB, noId, Nat.reduceLT, decide_true, Bool.true_eq_false, tyV_id, fdV_id, tyL_id, fdL_id, exL_id, vaL_id, exV_id, vaV_id]) | exact WkF.of (Wk.ro _ _) (by first | rfl | simp only [List.length_cons, List.length_nil, Nat.reduceAdd, V.ids, V.idsL, idsA, entOk, List.all_cons, List.all_nil, Bool.and_self, Bool.and_true, Bool.true_and, ltB, noId, Nat.reduceLT, decide_true, Bool.true_eq_false, tyV_id, fdV_id, tyL_id, fdL_id, exL_id, vaL_id, exV_id, vaV_id]) | refine WkF.tu ?_ | refine WkF.ag ?_ | refine WkFL.cons ?_ ?_ | exact WkFL.nil)
def vErr : List Va → List Va → Int
  | _, [] => 0
  | seen, v :: r => if !nameT v.name then 3 else if has seen v.name then 8 else if chk v.ty ≠ 0 then chk v.ty else vErr (seen ++ [v]) r
theorem vErr_step {bs l : List Va} {m : Nat} (h : m < l.length) : vErr (bs ++ l.take m) (l.drop m) = if !nameT l[m].name then 3 else if has (bs ++ l.take m) l[m].name then 8 else if chk l[m].ty ≠ 0 then chk l[m].ty else vErr (bs ++ l.take (m + 1)) (l.drop (m + 1)) := by
  rw [List.drop_eq_getElem_cons h]
  rw [vErr, List.take_succ_eq_append_getElem h, List.append_assoc]
def fitVN (l : List Va) : Prop := ∀ v ∈ l, fit v.ty ∧ v.name.size ≤ 9223372036854775807
theorem Y41_CJ : type_of% (AI @F_ag_9 (AI @F_ag_94 (AI @F_ag_96 (AI @F_al_96 (AI @F_by_96 (AI @F_el_23 (AI @F_fl_96_0 (AI @F_fl_96_1 (AI @F_sz_9 (AI @F_sz_94 (@F_sz_96))))))))))) := AI @F_ag_9 (AI @F_ag_94 (AI @F_ag_96 (AI @F_al_96 (AI @F_by_96 (AI @F_el_23 (AI @F_fl_96_0 (AI @F_fl_96_1 (AI @F_sz_9 (AI @F_sz_94 (@F_sz_96))))))))))
theorem c_variablesE (bs l : List Va) (hb : bs.length + l.length ≤ 4194304) (hl : fitVN l) : PC Tryz.prog 41 [.sl (bs.map vaV) .ro, .sl (l.map vaV) .ro] (.im (.int .i64 (vErr bs l))) := by
  obtain ⟨sn, hsn⟩ : ∃ sn : Nat → List Va, ∀ m, sn m = bs ++ l.take m := ⟨_, fun _ => rfl⟩
  have hs0 : sn 0 = bs := by rw [hsn]; simp
  have hsl : ∀ m, (sn m).length ≤ bs.length + l.length := fun m => by rw [hsn, List.length_append, List.length_take]; omega
  have hstep : ∀ m (h : m < l.length), vErr (sn m) (l.drop m) = if !nameT l[m].name then 3 else if has (sn m) l[m].name then 8 else if chk l[m].ty ≠ 0 then chk l[m].ty else vErr (sn (m + 1)) (l.drop (m + 1)) := fun m h => by
    rw [hsn, hsn]; exact vErr_step h
  have happ : ∀ m (h : m < l.length), (sn m).map vaV ++ [vaV l[m]] = (sn (m + 1)).map vaV := fun m h => by
    rw [hsn, hsn, List.map_append, List.map_append, List.append_assoc, take_snoc vaV h]
  have hlen : ∀ m (h : m < l.length), (sn m).length + 1 = (sn (m + 1)).length := fun m h => by
    rw [hsn, hsn, List.length_append, List.length_append, List.length_take, List.length_take]; omega
  have hcl := c_clV (vs := sn 0) (by have := hsl 0; omega)
  refine PC.enter 39 Tryz.func41 rfl (by decide) rfl rfl (s := [(0, .sl (bs.map vaV) .ro), (1, .sl (l.map vaV) .ro)]) (by rfl) ?_
  refine wG Y41_CJ True.intro ?_
  refine AR.callSP [0] hcl hs0 (AI (@exL_id) (AI (@vaL_id) (AI (@exV_id) @vaV_id))) (AI (@exV_ren) (AI (@exL_ren) (AI (@vaV_ren) @vaL_ren))) ?_
  refine goG Y41_CJ True.intro ?_
  refine wG Y41_CJ @List.length_map.{0, 0} ?_
  refine AWp.loop ?_
  refine ALp.cutP 1 [(5, .sl ((sn (0)).map vaV) (.own 0)), (11, .sl (l.map vaV) .ro), (12, (.im (.int .i64 (l.length)))), (13, (.im (.int .i64 ((((0 : Nat)) : Int)))))] [.tip 96 6 (sn (0)).length] (AI (@exL_id) (AI (@vaL_id) (AI (@exV_id) @vaV_id))) ?_
  refine ALp.upto l.length (fun m => vErr (sn m) (l.drop m) = vErr bs l) (fun m => ⟨dn 39 [(5, .sl ((sn (m)).map vaV) (.own 0)), (11, .sl (l.map vaV) .ro), (12, (.im (.int .i64 (l.length)))), (13, (.im (.int .i64 ((((m : Nat)) : Int)))))], ofl [.tip 96 6 (sn (m)).length]⟩) ?_ 0 (Nat.zero_le _) (by rw [hs0, List.drop_zero])
  intro m hm hV hnext
  rw [← hV]
  by_cases hlt : m < l.length
  · have hlt' : (m : Int) < (l.length : Int) := by omega
    have hm1 := wrap_succ hlt (by omega)
    have hg := get_some hlt; obtain ⟨hty, hnm⟩ := hl _ (List.getElem_mem hlt); have h1 := c_name l[m].name hnm; have h2 := c_among (sn m); have h3 := c_among1 (sn m) (by have := hsl m; omega) l[m].name
    have h4 := c_check l[m].ty hty; have ha := happ m hlt; rw [vaV_eq] at ha; have hln := hlen m hlt; have hA : (sn (m + 1)).length * 88 ≤ 140737488355328 := by have := hsl (m + 1); omega
    rw [hstep m hlt]; rw [hstep m hlt] at hV; have hn2 := hnext (m + 1) (by omega) (by omega)
    cases b1 : nameT l[m].name with
    | false =>
      rw [b1] at h1; simp only [Bool.not_false, if_true]; refine wG Y41_CJ (AI hlt' (AI hg VA)) ?_; refine AR.callP h1 True.intro (AI (@exL_id) (AI (@vaL_id) (AI (@exV_id) @vaV_id))) ?_; refine goG Y41_CJ True.intro ?_; refine wG Y41_CJ True.intro ?_; exact Fin.oneP
    | true =>
      rw [b1] at h1 hV; simp only [Bool.not_true, Bool.false_eq_true, if_false] at hV ⊢; cases b2 : has (sn m) l[m].name with
      | true =>
        rw [b2] at h3; simp only [if_true]; refine wG Y41_CJ (AI hlt' (AI hg VA)) ?_; refine AR.callP h1 True.intro (AI (@exL_id) (AI (@vaL_id) (AI (@exV_id) @vaV_id))) ?_; refine goG Y41_CJ True.intro ?_; refine wdG Y41_CJ True.intro ?_; refine AR.callS [2] h2 rfl rfl (by first | (simp only [SR, exV_ren, exL_ren, vaV_ren, vaL_ren]; done) | (simp only [SR, exV_ren, exL_ren, vaV_ren, vaL_ren]; with_reducible exact rfl)) (by first | (simp only [SR, exV_ren, exL_ren, vaV_ren, vaL_ren]; done) | (simp only [SR, exV_ren, exL_ren, vaV_ren, vaL_ren]; with_reducible exact rfl)) (WkL.cons (Wk.ro _ _) .nil) (by first | rfl | simp only [List.length_cons, List.length_nil, Nat.reduceAdd, V.ids, V.idsL, idsA, entOk, List.all_cons, List.all_nil, Bool.and_self, Bool.and_true, Bool.true_and, ltB, noId, Nat.reduceLT, decide_true, Bool.true_eq_false, tyV_id, fdV_id, tyL_id, fdL_id, exL_id, vaL_id, exV_id, vaV_id]) rfl rfl rfl (by first | rfl | simp only [List.length_cons, List.length_nil, Nat.reduceAdd, V.ids, V.idsL, idsA, entOk, List.all_cons, List.all_nil, Bool.and_self, Bool.and_true, Bool.true_and, ltB, noId, Nat.reduceLT, decide_true, Bool.true_eq_false, tyV_id, fdV_id, tyL_id, fdL_id, exL_id, vaL_id, exV_id, vaV_id]) (by intro p hp; simp only [renE, SR, Ent.ren, List.mem_cons, List.not_mem_nil, or_false, exV_ren, exL_ren, vaV_ren, vaL_ren] at hp; rcases hp with rfl <;> rfl) (by simp only [renE, Ent.ren, SR, exV_ren, exL_ren, vaV_ren, vaL_ren, wrl, putE, SC, SD, Nat.reduceBEq, Nat.reduceLT, Nat.reduceSub, Nat.reduceAdd, Nat.reduceMul, Nat.reduceLeDiff, Nat.reduceEqDiff, reduceCtorEq, Int.reduceLT, Int.reduceLE, Int.reduceEq, Int.reduceNe, Int.reduceBEq, Int.reduceBNe, Int.reduceAdd, Int.reduceSub, Int.reduceMul, Int.reduceToNat]; with_reducible exact rfl) ?_
        refine goG Y41_CJ True.intro ?_; refine AR.callQP [2] h3 True.intro (AI (@exL_id) (AI (@vaL_id) (AI (@exV_id) @vaV_id))) (AI (@exV_ren) (AI (@exL_ren) (AI (@vaV_ren) @vaL_ren))) ?_; refine goG Y41_CJ True.intro ?_; refine wdG Y41_CJ True.intro ?_; exact Fin.oneP
      | false =>
        rw [b2] at h3 hV; simp only [Bool.false_eq_true, if_false] at hV ⊢
        by_cases b3 : chk l[m].ty = 0
        case neg =>
          have q : (chk l[m].ty ≠ 0) = True := by simp [b3]
          rw [if_pos b3]; refine wG Y41_CJ (AI hlt' (AI hg VA)) ?_; refine AR.callP h1 True.intro (AI (@exL_id) (AI (@vaL_id) (AI (@exV_id) @vaV_id))) ?_; refine goG Y41_CJ True.intro ?_; refine wdG Y41_CJ True.intro ?_; refine AR.callS [2] h2 rfl rfl (by first | (simp only [SR, exV_ren, exL_ren, vaV_ren, vaL_ren]; done) | (simp only [SR, exV_ren, exL_ren, vaV_ren, vaL_ren]; with_reducible exact rfl)) (by first | (simp only [SR, exV_ren, exL_ren, vaV_ren, vaL_ren]; done) | (simp only [SR, exV_ren, exL_ren, vaV_ren, vaL_ren]; with_reducible exact rfl)) (WkL.cons (Wk.ro _ _) .nil) (by first | rfl | simp only [List.length_cons, List.length_nil, Nat.reduceAdd, V.ids, V.idsL, idsA, entOk, List.all_cons, List.all_nil, Bool.and_self, Bool.and_true, Bool.true_and, ltB, noId, Nat.reduceLT, decide_true, Bool.true_eq_false, tyV_id, fdV_id, tyL_id, fdL_id, exL_id, vaL_id, exV_id, vaV_id]) rfl rfl rfl (by first | rfl | simp only [List.length_cons, List.length_nil, Nat.reduceAdd, V.ids, V.idsL, idsA, entOk, List.all_cons, List.all_nil, Bool.and_self, Bool.and_true, Bool.true_and, ltB, noId, Nat.reduceLT, decide_true, Bool.true_eq_false, tyV_id, fdV_id, tyL_id, fdL_id, exL_id, vaL_id, exV_id, vaV_id]) (by intro p hp; simp only [renE, SR, Ent.ren, List.mem_cons, List.not_mem_nil, or_false, exV_ren, exL_ren, vaV_ren, vaL_ren] at hp; rcases hp with rfl <;> rfl) (by simp only [renE, Ent.ren, SR, exV_ren, exL_ren, vaV_ren, vaL_ren, wrl, putE, SC, SD, Nat.reduceBEq, Nat.reduceLT, Nat.reduceSub, Nat.reduceAdd, Nat.reduceMul, Nat.reduceLeDiff, Nat.reduceEqDiff, reduceCtorEq, Int.reduceLT, Int.reduceLE, Int.reduceEq, Int.reduceNe, Int.reduceBEq, Int.reduceBNe, Int.reduceAdd, Int.reduceSub, Int.reduceMul, Int.reduceToNat]; with_reducible exact rfl) ?_
          refine goG Y41_CJ True.intro ?_; refine AR.callQP [2] h3 True.intro (AI (@exL_id) (AI (@vaL_id) (AI (@exV_id) @vaV_id))) (AI (@exV_ren) (AI (@exL_ren) (AI (@vaV_ren) @vaL_ren))) ?_; refine goG Y41_CJ True.intro ?_; refine wdG Y41_CJ TY ?_; refine AR.callP h4 @tyV_eq (AI (@exL_id) (AI (@vaL_id) (AI (@exV_id) @vaV_id))) ?_; refine goG Y41_CJ b3 ?_; refine wG Y41_CJ b3 ?_; exact Fin.oneP
        case pos =>
          rw [if_neg (by simp [b3])] at hV ⊢
          rw [b3] at h4; refine wG Y41_CJ (AI hlt' (AI hg VA)) ?_; refine AR.callP h1 True.intro (AI (@exL_id) (AI (@vaL_id) (AI (@exV_id) @vaV_id))) ?_; refine goG Y41_CJ True.intro ?_; refine wdG Y41_CJ True.intro ?_; refine AR.callS [2] h2 rfl rfl (by first | (simp only [SR, exV_ren, exL_ren, vaV_ren, vaL_ren]; done) | (simp only [SR, exV_ren, exL_ren, vaV_ren, vaL_ren]; with_reducible exact rfl)) (by first | (simp only [SR, exV_ren, exL_ren, vaV_ren, vaL_ren]; done) | (simp only [SR, exV_ren, exL_ren, vaV_ren, vaL_ren]; with_reducible exact rfl)) (WkL.cons (Wk.ro _ _) .nil) (by first | rfl | simp only [List.length_cons, List.length_nil, Nat.reduceAdd, V.ids, V.idsL, idsA, entOk, List.all_cons, List.all_nil, Bool.and_self, Bool.and_true, Bool.true_and, ltB, noId, Nat.reduceLT, decide_true, Bool.true_eq_false, tyV_id, fdV_id, tyL_id, fdL_id, exL_id, vaL_id, exV_id, vaV_id]) rfl rfl rfl (by first | rfl | simp only [List.length_cons, List.length_nil, Nat.reduceAdd, V.ids, V.idsL, idsA, entOk, List.all_cons, List.all_nil, Bool.and_self, Bool.and_true, Bool.true_and, ltB, noId, Nat.reduceLT, decide_true, Bool.true_eq_false, tyV_id, fdV_id, tyL_id, fdL_id, exL_id, vaL_id, exV_id, vaV_id]) (by intro p hp; simp only [renE, SR, Ent.ren, List.mem_cons, List.not_mem_nil, or_false, exV_ren, exL_ren, vaV_ren, vaL_ren] at hp; rcases hp with rfl <;> rfl) (by simp only [renE, Ent.ren, SR, exV_ren, exL_ren, vaV_ren, vaL_ren, wrl, putE, SC, SD, Nat.reduceBEq, Nat.reduceLT, Nat.reduceSub, Nat.reduceAdd, Nat.reduceMul, Nat.reduceLeDiff, Nat.reduceEqDiff, reduceCtorEq, Int.reduceLT, Int.reduceLE, Int.reduceEq, Int.reduceNe, Int.reduceBEq, Int.reduceBNe, Int.reduceAdd, Int.reduceSub, Int.reduceMul, Int.reduceToNat]; with_reducible exact rfl) ?_
          refine goG Y41_CJ True.intro ?_; refine AR.callQP [2] h3 True.intro (AI (@exL_id) (AI (@vaL_id) (AI (@exV_id) @vaV_id))) (AI (@exV_ren) (AI (@exL_ren) (AI (@vaV_ren) @vaL_ren))) ?_; refine goG Y41_CJ True.intro ?_; refine wdG Y41_CJ TY ?_; refine AR.callP h4 @tyV_eq (AI (@exL_id) (AI (@vaL_id) (AI (@exV_id) @vaV_id))) ?_; refine goG Y41_CJ True.intro ?_; refine wG Y41_CJ (AI ha (AI hln (AI hA (AI hm1 @List.length_map.{0, 0})))) ?_; refine ALp.cutP 1 [(5, .sl ((sn (m + 1)).map vaV) (.own 0)), (11, .sl (l.map vaV) .ro), (12, (.im (.int .i64 (l.length)))), (13, (.im (.int .i64 ((((m + 1 : Nat)) : Int)))))] [.tip 96 6 (sn (m + 1)).length] (AI (@exL_id) (AI (@vaL_id) (AI (@exV_id) @vaV_id))) ?_; rw [hV]; exact hn2 hV
  obtain rfl : m = l.length := by omega
  clear hnext
  have e0 : vErr (sn l.length) (l.drop l.length) = 0 := by rw [List.drop_length]; cases sn l.length <;> rfl
  rw [e0]
  refine wG Y41_CJ @Int.lt_irrefl ?_
  exact Fin.oneP
end Go.Proofs.YtmbmmckagcdapaaGreatDoor
