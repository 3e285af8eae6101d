/- Walks: Save, All, usable for a project that is only read. -/
import Derived.Test.YtianekkfehoedaaGreatDoorHv
import Derived.Test.YtianekkfehoedaaGreatDoorK8
import Derived.Test.YtianekkfehoedaaGreatDoorZc
import Derived.Test.YtianekkfehoedaaGreatDoorK5
namespace Go.Proofs.YtianekkfehoedaaGreatDoor
set_option linter.unusedSimpArgs false
set_option linter.unusedVariables false
set_option linter.unnecessarySimpa false
open Go.RowKit
theorem Y35_Zg : type_of% (And.intro @F_al_5 (And.intro @F_by_5 (And.intro @F_el_22 (And.intro @F_in_44 (And.intro @F_in_5 (And.intro @F_sz_5 (And.intro @F_un_44 (@F_un_5)))))))) := And.intro @F_al_5 (And.intro @F_by_5 (And.intro @F_el_22 (And.intro @F_in_44 (And.intro @F_in_5 (And.intro @F_sz_5 (And.intro @F_un_44 (@F_un_5)))))))
theorem I1_Zg : type_of% (And.intro enV_id (And.intro enL_id (And.intro byL_id (And.intro lsV_id (And.intro lsL_id (And.intro (@tyV_id) flE_id)))))) := (And.intro enV_id (And.intro enL_id (And.intro byL_id (And.intro lsV_id (And.intro lsL_id (And.intro (@tyV_id) flE_id))))))
theorem N1_Zg : type_of% (And.intro enV_ren (And.intro enL_ren (And.intro byL_ren (And.intro lsV_ren (And.intro lsL_ren flE_ren))))) := (And.intro enV_ren (And.intro enL_ren (And.intro byL_ren (And.intro lsV_ren (And.intro lsL_ren flE_ren)))))
theorem c_putF (b : Bs) (n w : Nat) (hw : 0 < w) (hb : b.length + w ≤ 140737488355328) : DC Tryz.prog 35 [.sl (b.map byB) .full, (.im (.int .u32 ((n : Int)))), (.im (.int .i64 ((w : Int))))] [.free] (.sl ((b ++ leB n w).map byB) (.mine 0)) [.tip 5 1 (b ++ leB n w).length] := by
  refine DC.enterN 1 19 Tryz.func35 rfl (by decide) rfl rfl (s := [(0, .sl (b.map byB) .full), (1, (.im (.int .u32 ((n : Int))))), (2, (.im (.int .i64 ((w : Int)))))]) (by rfl) ?_
  refine wG Y35_Zg True.intro ?_
  refine AWp.loop ?_
  refine ALp.round ?_
  have hw0 : (0 : Int) < (w : Int) := by omega
  refine AWp.seq ?_
  refine AWp.region ?_
  refine goG Y35_Zg hw0 ?_
  refine AR.end ?_
  refine Thn.n ?_
  refine AWp.seq ?_
  refine AWp.condAT rfl rfl ?_
  refine AWp.skip ?_
  refine Thn.n ?_
  refine AWp.seq ?_
  refine AWp.block ?_
  refine AWp.seq ?_
  refine AWp.region ?_
  refine AR.one rfl (by simp only [↓accU_f, ↓reduceIte, SA, SB, SC, SD, Y35_Zg, valG, fpsG, evO, evB, evA, evA1, nilK, eqF, eqC, apOk, intOf, slB, slK,  gd, St.ev, putA, ofl, wrl, putE, V.ofVal, V.ofCell, bin2, un1, seg, fillV, partsOk, Value.oneCell', Nat.reduceBEq, Nat.reduceLT, Nat.reduceSub, Nat.reduceAdd, Nat.reduceMul, Nat.reduceLeDiff, Nat.reduceEqDiff, reduceCtorEq, Int.reduceLT, Int.reduceLE, Int.reduceEq, Int.reduceNe, Int.reduceBEq, Int.reduceBNe, Int.reduceAdd, Int.reduceSub, Int.reduceMul, Int.reduceToNat]; with_reducible exact rfl) (by simp only [↓accU_f, ↓reduceIte, SA, SB, SC, SD, Y35_Zg, valG, fpsG, evO, evB, evA, evA1, nilK, eqF, eqC, apOk, intOf, slB, slK,  gd, St.ev, putA, ofl, wrl, putE, V.ofVal, V.ofCell, bin2, un1, seg, fillV, partsOk, Value.oneCell', Nat.reduceBEq, Nat.reduceLT, Nat.reduceSub, Nat.reduceAdd, Nat.reduceMul, Nat.reduceLeDiff, Nat.reduceEqDiff, reduceCtorEq, Int.reduceLT, Int.reduceLE, Int.reduceEq, Int.reduceNe, Int.reduceBEq, Int.reduceBNe, Int.reduceAdd, Int.reduceSub, Int.reduceMul, Int.reduceToNat]; with_reducible exact rfl) (by simp only [↓accU_f, ↓reduceIte, SA, SB, SC, SD, Y35_Zg, valG, fpsG, evO, evB, evA, evA1, nilK, eqF, eqC, apOk, intOf, slB, slK,  gd, St.ev, putA, ofl, wrl, putE, V.ofVal, V.ofCell, bin2, un1, seg, fillV, partsOk, Value.oneCell', Nat.reduceBEq, Nat.reduceLT, Nat.reduceSub, Nat.reduceAdd, Nat.reduceMul, Nat.reduceLeDiff, Nat.reduceEqDiff, reduceCtorEq, Int.reduceLT, Int.reduceLE, Int.reduceEq, Int.reduceNe, Int.reduceBEq, Int.reduceBNe, Int.reduceAdd, Int.reduceSub, Int.reduceMul, Int.reduceToNat]; with_reducible exact rfl) ?_
  refine AR.one rfl (by simp only [↓accU_f, ↓reduceIte, SA, SB, SC, SD, Y35_Zg, valG, fpsG, evO, evB, evA, evA1, nilK, eqF, eqC, apOk, intOf, slB, slK,  gd, St.ev, putA, ofl, wrl, putE, V.ofVal, V.ofCell, bin2, un1, seg, fillV, partsOk, Value.oneCell', Nat.reduceBEq, Nat.reduceLT, Nat.reduceSub, Nat.reduceAdd, Nat.reduceMul, Nat.reduceLeDiff, Nat.reduceEqDiff, reduceCtorEq, Int.reduceLT, Int.reduceLE, Int.reduceEq, Int.reduceNe, Int.reduceBEq, Int.reduceBNe, Int.reduceAdd, Int.reduceSub, Int.reduceMul, Int.reduceToNat]; with_reducible exact rfl) (by simp only [↓accU_f, ↓reduceIte, SA, SB, SC, SD, Y35_Zg, valG, fpsG, evO, evB, evA, evA1, nilK, eqF, eqC, apOk, intOf, slB, slK,  gd, St.ev, putA, ofl, wrl, putE, V.ofVal, V.ofCell, bin2, un1, seg, fillV, partsOk, Value.oneCell', Nat.reduceBEq, Nat.reduceLT, Nat.reduceSub, Nat.reduceAdd, Nat.reduceMul, Nat.reduceLeDiff, Nat.reduceEqDiff, reduceCtorEq, Int.reduceLT, Int.reduceLE, Int.reduceEq, Int.reduceNe, Int.reduceBEq, Int.reduceBNe, Int.reduceAdd, Int.reduceSub, Int.reduceMul, Int.reduceToNat]; with_reducible exact rfl) (by simp only [↓accU_f, ↓reduceIte, SA, SB, SC, SD, Y35_Zg, valG, fpsG, evO, evB, evA, evA1, nilK, eqF, eqC, apOk, intOf, slB, slK,  gd, St.ev, putA, ofl, wrl, putE, V.ofVal, V.ofCell, bin2, un1, seg, fillV, partsOk, Value.oneCell', Nat.reduceBEq, Nat.reduceLT, Nat.reduceSub, Nat.reduceAdd, Nat.reduceMul, Nat.reduceLeDiff, Nat.reduceEqDiff, reduceCtorEq, Int.reduceLT, Int.reduceLE, Int.reduceEq, Int.reduceNe, Int.reduceBEq, Int.reduceBNe, Int.reduceAdd, Int.reduceSub, Int.reduceMul, Int.reduceToNat]; with_reducible exact rfl) ?_
  have h8 := wrap_u8 n
  have hs0 : leB n 1 = [UInt8.ofNat (n % 256)] := rfl
  generalize UInt8.ofNat (n % 256) = c at h8 hs0
  refine AR.one rfl (by simp only [↓accU_f, ↓reduceIte, SA, SB, SC, SD, Y35_Zg, valG, fpsG, evO, evB, evA, evA1, nilK, eqF, eqC, apOk, intOf, slB, slK,  gd, St.ev, putA, ofl, wrl, putE, V.ofVal, V.ofCell, bin2, un1, seg, fillV, partsOk, Value.oneCell', Nat.reduceBEq, Nat.reduceLT, Nat.reduceSub, Nat.reduceAdd, Nat.reduceMul, Nat.reduceLeDiff, Nat.reduceEqDiff, reduceCtorEq, Int.reduceLT, Int.reduceLE, Int.reduceEq, Int.reduceNe, Int.reduceBEq, Int.reduceBNe, Int.reduceAdd, Int.reduceSub, Int.reduceMul, Int.reduceToNat, h8]; with_reducible exact rfl) (by simp only [↓accU_f, ↓reduceIte, SA, SB, SC, SD, Y35_Zg, valG, fpsG, evO, evB, evA, evA1, nilK, eqF, eqC, apOk, intOf, slB, slK,  gd, St.ev, putA, ofl, wrl, putE, V.ofVal, V.ofCell, bin2, un1, seg, fillV, partsOk, Value.oneCell', Nat.reduceBEq, Nat.reduceLT, Nat.reduceSub, Nat.reduceAdd, Nat.reduceMul, Nat.reduceLeDiff, Nat.reduceEqDiff, reduceCtorEq, Int.reduceLT, Int.reduceLE, Int.reduceEq, Int.reduceNe, Int.reduceBEq, Int.reduceBNe, Int.reduceAdd, Int.reduceSub, Int.reduceMul, Int.reduceToNat, h8]; with_reducible exact rfl) (by simp only [↓accU_f, ↓reduceIte, SA, SB, SC, SD, Y35_Zg, valG, fpsG, evO, evB, evA, evA1, nilK, eqF, eqC, apOk, intOf, slB, slK,  gd, St.ev, putA, ofl, wrl, putE, V.ofVal, V.ofCell, bin2, un1, seg, fillV, partsOk, Value.oneCell', Nat.reduceBEq, Nat.reduceLT, Nat.reduceSub, Nat.reduceAdd, Nat.reduceMul, Nat.reduceLeDiff, Nat.reduceEqDiff, reduceCtorEq, Int.reduceLT, Int.reduceLE, Int.reduceEq, Int.reduceNe, Int.reduceBEq, Int.reduceBNe, Int.reduceAdd, Int.reduceSub, Int.reduceMul, Int.reduceToNat, h8]; with_reducible exact rfl) ?_
  refine AR.one rfl (by simp only [↓accU_f, ↓reduceIte, SA, SB, SC, SD, Y35_Zg, valG, fpsG, evO, evB, evA, evA1, nilK, eqF, eqC, apOk, intOf, slB, slK,  gd, St.ev, putA, ofl, wrl, putE, V.ofVal, V.ofCell, bin2, un1, seg, fillV, partsOk, Value.oneCell', Nat.reduceBEq, Nat.reduceLT, Nat.reduceSub, Nat.reduceAdd, Nat.reduceMul, Nat.reduceLeDiff, Nat.reduceEqDiff, reduceCtorEq, Int.reduceLT, Int.reduceLE, Int.reduceEq, Int.reduceNe, Int.reduceBEq, Int.reduceBNe, Int.reduceAdd, Int.reduceSub, Int.reduceMul, Int.reduceToNat]; with_reducible exact rfl) (by simp only [↓accU_f, ↓reduceIte, SA, SB, SC, SD, Y35_Zg, valG, fpsG, evO, evB, evA, evA1, nilK, eqF, eqC, apOk, intOf, slB, slK,  gd, St.ev, putA, ofl, wrl, putE, V.ofVal, V.ofCell, bin2, un1, seg, fillV, partsOk, Value.oneCell', Nat.reduceBEq, Nat.reduceLT, Nat.reduceSub, Nat.reduceAdd, Nat.reduceMul, Nat.reduceLeDiff, Nat.reduceEqDiff, reduceCtorEq, Int.reduceLT, Int.reduceLE, Int.reduceEq, Int.reduceNe, Int.reduceBEq, Int.reduceBNe, Int.reduceAdd, Int.reduceSub, Int.reduceMul, Int.reduceToNat]; with_reducible exact rfl) (by simp only [↓accU_f, ↓reduceIte, SA, SB, SC, SD, Y35_Zg, valG, fpsG, evO, evB, evA, evA1, nilK, eqF, eqC, apOk, intOf, slB, slK,  gd, St.ev, putA, ofl, wrl, putE, V.ofVal, V.ofCell, bin2, un1, seg, fillV, partsOk, Value.oneCell', Nat.reduceBEq, Nat.reduceLT, Nat.reduceSub, Nat.reduceAdd, Nat.reduceMul, Nat.reduceLeDiff, Nat.reduceEqDiff, reduceCtorEq, Int.reduceLT, Int.reduceLE, Int.reduceEq, Int.reduceNe, Int.reduceBEq, Int.reduceBNe, Int.reduceAdd, Int.reduceSub, Int.reduceMul, Int.reduceToNat]; with_reducible exact rfl) ?_
  have hB := by_snoc b c
  refine AR.appF (z := 1) (e := 5) (es := b.map byB) (ys := [.im (.int .u8 c.toNat)]) (kk := .full) rfl rfl F_el_22 rfl F_el_22 rfl (byL_allS b) (by simp) (by simp only [apOk, F_sz_5, F_by_5, F_al_5, List.length_map, List.length_cons, List.length_nil]; exact if_pos (by simp; omega)) ?_
  have hsh := shr8 n
  have w1 : IntKind.i64.wrap 1 = 1 := by decide
  refine goG Y35_Zg (And.intro hB @List.length_map.{0, 0}) ?_
  refine wG Y35_Zg (And.intro hsh w1) ?_
  rw [show b.length + 1 = (b ++ leB n 1).length by simp [leB_len], ← hs0]
  refine ALp.cutP 1 [(0, .sl ((b ++ leB n (1)).map byB) (.mine 0)), (1, (.im (.int .u32 (((n / 256 ^ (1) : Nat) : Int))))), (7, (.im (.int .i64 ((w : Int))))), (8, (.im (.int .i64 ((((1 : Nat)) : Int)))))] [.tip 5 1 (b ++ leB n (1)).length] I1_Zg ?_
  refine ALp.upto w (fun m => 1 ≤ m) (fun m => ⟨dn 19 [(0, .sl ((b ++ leB n (m)).map byB) (.mine 0)), (1, (.im (.int .u32 (((n / 256 ^ (m) : Nat) : Int))))), (7, (.im (.int .i64 ((w : Int))))), (8, (.im (.int .i64 ((((m : Nat)) : Int)))))], ofl [.tip 5 1 (b ++ leB n (m)).length]⟩) ?_ 1 hw (Nat.le_refl _)
  intro m hm _ hnext
  by_cases hlt : m < w
  · have hlt' : (m : Int) < (w : Int) := by omega
    have hm1 := wrap_succ (m := m) (N := 140737488355328) (by omega) (by decide)
    have h8 := wrap_u8 (n / 256 ^ m)
    have hs := leB_succ m n
    have hsh := shr8 (n / 256 ^ m)
    rw [Nat.div_div_eq_div_mul, ← Nat.pow_succ] at hsh
    have hn := hnext (m + 1) (by omega) (by omega) (by omega)
    clear hnext
    rw [hs] at hn
    rw [← List.append_assoc] at hn
    have hl0 : (b ++ leB n m).length = b.length + m := by simp [leB_len]
    generalize hx : b ++ leB n m = x at hn hl0
    generalize UInt8.ofNat (n / 256 ^ m % 256) = c at h8 hn
    have hB := by_snoc x c
    have hcap : (x.length + 1) * 1 ≤ 140737488355328 := by omega
    have hln : x.length + 1 = (x ++ [c]).length := by simp
    refine wG Y35_Zg (And.intro hlt' (And.intro h8 (And.intro hB (And.intro hcap (And.intro (@List.length_map.{0, 0}) (And.intro byL_all (And.intro hsh hm1))))))) ?_
    rw [hln]
    refine ALp.cutP 1 [(0, .sl ((x ++ [c]).map byB) (.mine 0)), (1, (.im (.int .u32 (((n / 256 ^ (m + 1) : Nat) : Int))))), (7, (.im (.int .i64 ((w : Int))))), (8, (.im (.int .i64 (((m + 1 : Nat) : Int)))))] [.tip 5 1 (x ++ [c]).length] I1_Zg ?_
    exact hn
  · obtain rfl : m = w := by omega
    have hlt' : ¬ (m : Int) < (m : Int) := by omega
    clear hnext hlt
    generalize b ++ leB n m = x
    refine wG Y35_Zg hlt' ?_
    refine Fin.genK 1 (rs := [.tmp 6]) rfl (by first | exact .inl rfl | exact .inr rfl) (by simp only [resX, resA, ↓accU_f, ↓reduceIte, SA, SB, SC, SD, Y35_Zg, valG, fpsG, evO, evB, evA, evA1, nilK, eqF, eqC, apOk, intOf, slB, slK,  gd, St.ev, putA, ofl, wrl, putE, V.ofVal, V.ofCell, bin2, un1, seg, fillV, partsOk, Value.oneCell', Nat.reduceBEq, Nat.reduceLT, Nat.reduceSub, Nat.reduceAdd, Nat.reduceMul, Nat.reduceLeDiff, Nat.reduceEqDiff, reduceCtorEq, Int.reduceLT, Int.reduceLE, Int.reduceEq, Int.reduceNe, Int.reduceBEq, Int.reduceBNe, Int.reduceAdd, Int.reduceSub, Int.reduceMul, Int.reduceToNat]; with_reducible exact rfl) ?_ rfl (by first | rfl | simp only [List.length_cons, List.length_nil, Nat.reduceAdd, V.ids, V.idsL, idsA, entOk, List.all_cons, List.all_nil, Bool.and_self, Bool.and_true, Bool.true_and, ltB, noId, Nat.reduceLT, decide_true, Bool.true_eq_false, tyV_id, fdV_id, tyL_id, fdL_id, enV_id, enL_id, byL_id, lsV_id, lsL_id, tyV_id, flE_id])
    repeat (first | exact WkF.of (Wk.refl _) (by first | rfl | simp only [List.length_cons, List.length_nil, Nat.reduceAdd, V.ids, V.idsL, idsA, entOk, List.all_cons, List.all_nil, Bool.and_self, Bool.and_true, Bool.true_and, ltB, noId, Nat.reduceLT, decide_true, Bool.true_eq_false, tyV_id, fdV_id, tyL_id, fdL_id, enV_id, enL_id, byL_id, lsV_id, lsL_id, tyV_id, flE_id]) | exact WkF.of (Wk.ro _ _) (by first | rfl | simp only [List.length_cons, List.length_nil, Nat.reduceAdd, V.ids, V.idsL, idsA, entOk, List.all_cons, List.all_nil, Bool.and_self, Bool.and_true, Bool.true_and, ltB, noId, Nat.reduceLT, decide_true, Bool.true_eq_false, tyV_id, fdV_id, tyL_id, fdL_id, enV_id, enL_id, byL_id, lsV_id, lsL_id, tyV_id, flE_id]) | refine WkF.tu ?_ | refine WkF.ag ?_ | refine WkFL.cons ?_ ?_ | exact WkFL.nil)
theorem Y10_Zg : type_of% (And.intro @F_ag_28 (And.intro @F_ag_3 (And.intro @F_ag_44 (And.intro @F_ag_46 (And.intro @F_ag_9 (And.intro @F_al_46 (And.intro @F_al_5 (And.intro @F_by_5 (And.intro @F_el_22 (And.intro @F_el_28 (And.intro @F_fl_46_0 (And.intro @F_fl_46_1 (And.intro @F_fl_46_2 (And.intro @F_fl_46_3 (And.intro @F_fl_64_1 (And.intro @F_in_22 (And.intro @F_in_3 (And.intro @F_in_44 (And.intro @F_in_5 (And.intro @F_sz_28 (And.intro @F_sz_3 (And.intro @F_sz_44 (And.intro @F_sz_46 (And.intro @F_sz_5 (And.intro @F_sz_9 (And.intro @F_un_22 (And.intro @F_un_3 (And.intro @F_un_44 (And.intro @F_un_5 (@F_un_9)))))))))))))))))))))))))))))) := And.intro @F_ag_28 (And.intro @F_ag_3 (And.intro @F_ag_44 (And.intro @F_ag_46 (And.intro @F_ag_9 (And.intro @F_al_46 (And.intro @F_al_5 (And.intro @F_by_5 (And.intro @F_el_22 (And.intro @F_el_28 (And.intro @F_fl_46_0 (And.intro @F_fl_46_1 (And.intro @F_fl_46_2 (And.intro @F_fl_46_3 (And.intro @F_fl_64_1 (And.intro @F_in_22 (And.intro @F_in_3 (And.intro @F_in_44 (And.intro @F_in_5 (And.intro @F_sz_28 (And.intro @F_sz_3 (And.intro @F_sz_44 (And.intro @F_sz_46 (And.intro @F_sz_5 (And.intro @F_sz_9 (And.intro @F_un_22 (And.intro @F_un_3 (And.intro @F_un_44 (And.intro @F_un_5 (@F_un_9)))))))))))))))))))))))))))))
/-- The bytes of the first entries. -/
def svM (L : List En) (m : Nat) : Bs := magicB ++ leB L.length 2 ++ encL (L.take m)
theorem svM_succ {L : List En} {m : Nat} {e : En} (h : L[m]? = some e) : svM L (m + 1) = svM L m ++ leB e.kind.toNat 1 ++ leB e.addr.toNat 4 ++ leB e.var.toNat 2 ++ leB e.text.length 2 ++ e.text := by
  obtain ⟨hm, rfl⟩ := List.getElem?_eq_some_iff.1 h
  have hx : ∀ l : List En, ∀ e, encL (l ++ [e]) = encL l ++ encE e := by
    intro l e
    induction l with
    | nil => simp [encL]
    | cons a l ih => simp [encL, ih]
  unfold svM
  rw [List.take_succ_eq_append_getElem hm, hx]
  unfold encE
  simp
theorem encL_le : ∀ {L : List En}, (∀ e ∈ L, Fits47 e) → (encL L).length ≤ L.length * 70000
  | [], _ => Nat.le_refl _
  | e :: L, h => by
    have h1 := encL_le (L := L) fun x hx => h x (by simp [hx])
    have h2 := (h e (by simp)).text
    unfold encL encE
    simp only [List.length_append, leB_len, List.length_cons]
    omega
theorem svM_le {L : List En} (h : ∀ e ∈ L, Fits47 e) (hl : L.length ≤ 1024) (m : Nat) : (svM L m).length ≤ 140000000 := by
  have h1 := encL_le (L := L.take m) fun x hx => h x (List.mem_of_mem_take hx)
  have h2 : (L.take m).length ≤ 1024 := by simp; omega
  unfold svM
  simp only [List.length_append, leB_len, magicB, List.length_cons, List.length_nil]
  omega
theorem svM_0 (L : List En) : magicB ++ leB L.length 2 = svM L 0 := by simp [svM, encL]
theorem svM_all (L : List En) : svM L L.length = bodyB L := by simp [svM, bodyB]
theorem leB_1 (n : Nat) : leB n 1 = [UInt8.ofNat (n % 256)] := rfl
theorem c_SaveR (L : List En) (un re : List (List En)) (h : ∀ e ∈ L, Fits47 e) (hl : L.length ≤ 1024) : DC Tryz.prog 10 [.pt 0 0] [.box [(.im (.bool ((true)))), .sl (L.map enV) .ro, .sl (un.map lsV) .ro, .sl (re.map lsV) .ro], .free] (.sl ((saveB L).map byB) (.mine 1)) [.box [(.im (.bool ((true)))), .sl (L.map enV) .ro, .sl (un.map lsV) .ro, .sl (re.map lsV) .ro], .tip 5 1 (saveB L).length] := by
  have q1 := c_usableR true L un re
  have q2 : DC Tryz.prog 35 [.sl [.im (.int .u8 68), .im (.int .u8 67), .im (.int .u8 80), .im (.int .u8 49)] .full, (.im (.int .u32 (((L.length : Nat) : Int)))), (.im (.int .i64 (2)))] [.free] (.sl ((magicB ++ leB L.length 2).map byB) (.mine 0)) [.tip 5 1 (magicB ++ leB L.length 2).length] := c_putF magicB L.length 2 (by decide) (by simp [magicB])
  rw [svM_0] at q2
  have wl : IntKind.u32.wrap ((L.length : Nat) : Int) = ((L.length : Nat) : Int) := by rw [IntKind.wrap_u32]; omega
  have hb := svM_le h hl
  refine DC.enterM 1 [.box [(.im (.bool ((true)))), .sl (L.map enV) .ro, .sl (un.map lsV) .ro, .sl (re.map lsV) .ro]] 55 Tryz.func10 rfl (by decide) rfl rfl (s := [(0, .pt 0 0)]) (by rfl) ?_ rfl
  refine wG Y10_Zg True.intro ?_
  refine AR.callQP [0] q1 True.intro I1_Zg N1_Zg ?_
  refine goG Y10_Zg True.intro ?_
  refine AR.end ?_
  refine Thn.n ?_
  refine AWp.condAF rfl rfl ?_
  refine AWp.skip ?_
  refine Thn.n ?_
  refine AWp.seq ?_
  refine AWp.bytesC (n := 4) (cs := [.im (.int .u8 0)]) (e := 5) (es := [.im (.int .u8 68), .im (.int .u8 67), .im (.int .u8 80), .im (.int .u8 49)]) ?qh F_el_22 ?qu F_sz_5 F_al_5 ?qn ?qd ?qp ?qe
  case qu => exact F_un_5
  case qn => decide
  case qd => rfl
  case qp => rfl
  case qe => rfl
  refine goG Y10_Zg (And.intro wl @List.length_map.{0, 0}) ?_
  refine AR.callSP [1] q2 True.intro I1_Zg N1_Zg ?_
  refine goG Y10_Zg True.intro ?_
  refine wG Y10_Zg @List.length_map.{0, 0} ?_
  refine AWp.loop ?_
  refine ALp.cutP 2 [(3, .sl ((svM L (0)).map byB) (.mine 1)), (21, .sl (L.map enV) .ro), (22, (.im (.int .i64 (L.length)))), (23, (.im (.int .i64 ((((0 : Nat)) : Int)))))] [.box [(.im (.bool ((true)))), .sl (L.map enV) .ro, .sl (un.map lsV) .ro, .sl (re.map lsV) .ro], .tip 5 1 (svM L 0).length] I1_Zg ?_
  refine ALp.upto L.length (fun _ => True) (fun m => ⟨dn 55 [(3, .sl ((svM L (m)).map byB) (.mine 1)), (21, .sl (L.map enV) .ro), (22, (.im (.int .i64 (L.length)))), (23, (.im (.int .i64 ((((m : Nat)) : Int)))))], ofl [.box [(.im (.bool ((true)))), .sl (L.map enV) .ro, .sl (un.map lsV) .ro, .sl (re.map lsV) .ro], .tip 5 1 (svM L m).length]⟩) ?_ 0 (Nat.zero_le _) trivial
  intro m hm _ hnext
  by_cases hlt : m < L.length
  · have hlt' : (m : Int) < (L.length : Int) := by omega
    have hg := get_some hlt
    have hm1 := wrap_succ hlt (by omega)
    have hf := h L[m] (List.getElem_mem hlt)
    have hs := svM_succ (L := L) (m := m) (e := L[m]) (List.getElem?_eq_getElem hlt)
    have hn := hnext (m + 1) (by omega) (by omega) trivial
    have hbb := hb (m + 1)
    clear hnext
    rw [hs] at hn hbb
    generalize L[m] = e at hg hf hn hbb
    obtain ⟨k, v, a, t⟩ := e
    obtain ⟨f1, f2, f3, f4⟩ := hf
    simp only at f1 f2 f3 f4 hn hbb
    obtain ⟨kn, rfl⟩ := Int.eq_ofNat_of_zero_le f1.1
    obtain ⟨vn, rfl⟩ := Int.eq_ofNat_of_zero_le f2.1
    obtain ⟨an, rfl⟩ := Int.eq_ofNat_of_zero_le f3.1
    simp only [Int.toNat_natCast] at hn hbb
    generalize svM L m = x at hn hbb ⊢
    have h8 := wrap_u8 kn
    rw [leB_1] at hn hbb
    generalize UInt8.ofNat (kn % 256) = c at h8 hn hbb
    have hB := by_snoc x c
    have hln : x.length + 1 = (x ++ [c]).length := by simp
    simp only [List.length_append, leB_len, List.length_cons, List.length_nil] at hbb
    have hcap : (x.length + 1) * 1 ≤ 140737488355328 := by omega
    have wv : IntKind.u32.wrap ((vn : Nat) : Int) = ((vn : Nat) : Int) := by rw [IntKind.wrap_u32]; omega
    have wt : IntKind.u32.wrap ((t.length : Nat) : Int) = ((t.length : Nat) : Int) := by rw [IntKind.wrap_u32]; omega
    have p1 := c_put (x ++ [c]) an 4 (by simp; omega)
    have p2 := c_put (x ++ [c] ++ leB an 4) vn 2 (by simp [leB_len]; omega)
    have p3 := c_put (x ++ [c] ++ leB an 4 ++ leB vn 2) t.length 2 (by simp [leB_len]; omega)
    have hcap2 : (x ++ [c] ++ leB an 4 ++ leB vn 2 ++ leB t.length 2).length + t.length ≤ 140737488355328 := by simp [leB_len]; omega
    generalize x ++ [c] ++ leB an 4 ++ leB vn 2 ++ leB t.length 2 = y4 at p3 hn hcap2
    generalize x ++ [c] ++ leB an 4 ++ leB vn 2 = y3 at p2 p3
    generalize x ++ [c] ++ leB an 4 = y2 at p1 p2
    generalize x ++ [c] = y1 at hB hln p1
    rw [hln] at hcap
    have hC : y4.map byB ++ t.map byB = (y4 ++ t).map byB := (List.map_append).symm
    have hcap3 : (y4.length + t.length) * 1 ≤ 140737488355328 := by omega
    have hln2 : y4.length + t.length = (y4 ++ t).length := by simp
    generalize y4 ++ t = y5 at hC hln2 hn
    rw [hln2] at hcap3
    refine wdG Y10_Zg (And.intro hlt' (And.intro ENT (And.intro hg (And.intro h8 (And.intro hB (And.intro hcap (And.intro byL_all hln))))))) ?_
    refine AR.callSP [1] p1 @Int.cast_ofNat_Int I1_Zg N1_Zg ?_
    refine goG Y10_Zg wv ?_
    refine AR.callSP [1] p2 @Int.cast_ofNat_Int I1_Zg N1_Zg ?_
    refine goG Y10_Zg (And.intro wt BAT) ?_
    refine AR.callSP [1] p3 @Int.cast_ofNat_Int I1_Zg N1_Zg ?_
    refine goG Y10_Zg True.intro ?_
    refine wdG Y10_Zg (And.intro BAT (And.intro hC (And.intro hcap3 (And.intro byL_all (And.intro hln2 hm1))))) ?_
    refine ALp.cutP 2 [(3, .sl (y5.map byB) (.mine 1)), (21, .sl (L.map enV) .ro), (22, (.im (.int .i64 (L.length)))), (23, (.im (.int .i64 (((m + 1 : Nat) : Int)))))] [.box [(.im (.bool ((true)))), .sl (L.map enV) .ro, .sl (un.map lsV) .ro, .sl (re.map lsV) .ro], .tip 5 1 (y5).length] I1_Zg ?_
    exact hn
  · obtain rfl : m = L.length := by omega
    have hlt' : ¬ (L.length : Int) < (L.length : Int) := by omega
    have hbb := hb L.length
    rw [svM_all] at hbb
    have p1 := c_sum (bodyB L) (by omega)
    have p2 := c_put (bodyB L) (sumB (bodyB L)) 2 (by omega)
    have e1 : bodyB L ++ leB (sumB (bodyB L)) 2 = saveB L := rfl
    rw [e1] at p2
    rw [svM_all]
    clear hnext hlt e1 hb
    generalize sumB (bodyB L) = sm at p1 p2
    generalize bodyB L = y at p1 p2 hbb ⊢
    generalize saveB L = z at p2 ⊢
    refine wdG Y10_Zg hlt' ?_
    refine AR.callW p1 True.intro I1_Zg ?_
    refine goG Y10_Zg True.intro ?_
    refine AR.callSP [1] p2 @Int.cast_ofNat_Int I1_Zg N1_Zg ?_
    refine goG Y10_Zg True.intro ?_
    refine wG Y10_Zg True.intro ?_
    refine Fin.genM 2 (by simp) (rs := [.tmp 2]) rfl (by first | exact .inl rfl | exact .inr rfl) (by simp only [resX, resA, ↓accU_f, ↓reduceIte, SA, SB, SC, SD, Y10_Zg, valG, fpsG, evO, evB, evA, evA1, nilK, eqF, eqC, apOk, intOf, slB, slK,  gd, St.ev, putA, ofl, wrl, putE, V.ofVal, V.ofCell, bin2, un1, seg, fillV, partsOk, Value.oneCell', Nat.reduceBEq, Nat.reduceLT, Nat.reduceSub, Nat.reduceAdd, Nat.reduceMul, Nat.reduceLeDiff, Nat.reduceEqDiff, reduceCtorEq, Int.reduceLT, Int.reduceLE, Int.reduceEq, Int.reduceNe, Int.reduceBEq, Int.reduceBNe, Int.reduceAdd, Int.reduceSub, Int.reduceMul, Int.reduceToNat]; with_reducible exact rfl) ?_ rfl (by first | rfl | simp only [List.length_cons, List.length_nil, Nat.reduceAdd, V.ids, V.idsL, idsA, entOk, List.all_cons, List.all_nil, Bool.and_self, Bool.and_true, Bool.true_and, ltB, noId, Nat.reduceLT, decide_true, Bool.true_eq_false, tyV_id, fdV_id, tyL_id, fdL_id, enV_id, enL_id, byL_id, lsV_id, lsL_id, tyV_id, flE_id])
    repeat (first | exact WkF.of (Wk.refl _) (by first | rfl | simp only [List.length_cons, List.length_nil, Nat.reduceAdd, V.ids, V.idsL, idsA, entOk, List.all_cons, List.all_nil, Bool.and_self, Bool.and_true, Bool.true_and, ltB, noId, Nat.reduceLT, decide_true, Bool.true_eq_false, tyV_id, fdV_id, tyL_id, fdL_id, enV_id, enL_id, byL_id, lsV_id, lsL_id, tyV_id, flE_id]) | exact WkF.of (Wk.ro _ _) (by first | rfl | simp only [List.length_cons, List.length_nil, Nat.reduceAdd, V.ids, V.idsL, idsA, entOk, List.all_cons, List.all_nil, Bool.and_self, Bool.and_true, Bool.true_and, ltB, noId, Nat.reduceLT, decide_true, Bool.true_eq_false, tyV_id, fdV_id, tyL_id, fdL_id, enV_id, enL_id, byL_id, lsV_id, lsL_id, tyV_id, flE_id]) | refine WkF.tu ?_ | refine WkF.ag ?_ | refine WkFL.cons ?_ ?_ | exact WkFL.nil)
end Go.Proofs.YtianekkfehoedaaGreatDoor
