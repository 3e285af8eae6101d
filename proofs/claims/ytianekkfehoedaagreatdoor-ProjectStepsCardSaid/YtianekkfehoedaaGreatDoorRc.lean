/- Walks of the reference: number, sum, Save. -/
import Derived.Test.YtianekkfehoedaaGreatDoorHv
import Derived.Test.YtianekkfehoedaaGreatDoorRb
import Derived.Test.YtianekkfehoedaaGreatDoorZg
namespace Go.Proofs.YtianekkfehoedaaGreatDoor
set_option linter.unusedSimpArgs false
set_option linter.unusedVariables false
set_option linter.unnecessarySimpa false
open Go.RowKit
theorem Y47_Rc : type_of% (And.intro @F_al_5 (And.intro @F_by_5 (And.intro @F_el_22 (And.intro @F_in_3 (And.intro @F_in_5 (And.intro @F_in_90 (And.intro @F_sz_5 (And.intro @F_un_3 (And.intro @F_un_5 (@F_un_90)))))))))) := And.intro @F_al_5 (And.intro @F_by_5 (And.intro @F_el_22 (And.intro @F_in_3 (And.intro @F_in_5 (And.intro @F_in_90 (And.intro @F_sz_5 (And.intro @F_un_3 (And.intro @F_un_5 (@F_un_90)))))))))
theorem I1_Rc : type_of% (And.intro enV_id (And.intro enL_id (And.intro byL_id (And.intro lsV_id (And.intro lsL_id @tyV_id))))) := (And.intro enV_id (And.intro enL_id (And.intro byL_id (And.intro lsV_id (And.intro lsL_id @tyV_id)))))
theorem N1_Rc : type_of% (And.intro enV_ren (And.intro enL_ren (And.intro byL_ren (And.intro lsV_ren lsL_ren)))) := (And.intro enV_ren (And.intro enL_ren (And.intro byL_ren (And.intro lsV_ren lsL_ren))))
theorem shrN (n m : Nat) (hm : m ≤ 4) : ((n : Nat) : Int).fdiv (2 ^ min (8 * m) IntKind.i64.bits) = ((n / 256 ^ m : Nat) : Int) := by
  have h1 : min (8 * m) IntKind.i64.bits = 8 * m := by show min (8 * m) 64 = 8 * m; omega
  have hp : (2 : Int) ^ (8 * m) = ((256 ^ m : Nat) : Int) := by rw [Int.pow_mul]; norm_cast
  rw [h1, hp, Int.fdiv_eq_ediv_of_nonneg _ (Int.natCast_nonneg _)]
  norm_cast
theorem c_num (b : Bs) (n w : Nat) (hw : w ≤ 4) (hb : b.length + w ≤ 140737488355328) : DC Tryz.prog 47 [.sl ((b).map byB) (.own 0), (.im (.int .i64 ((n : Int)))), (.im (.int .i64 ((w : Int))))] [.tip 5 1 b.length] (.sl ((b ++ leB n w).map byB) (.own 0)) [.tip 5 1 (b ++ leB n w).length] := by
  refine DC.enter 23 Tryz.func47 rfl (by decide) rfl rfl (s := [(0, .sl ((b).map byB) (.own 0)), (1, (.im (.int .i64 ((n : Int))))), (2, (.im (.int .i64 ((w : Int)))))]) (by rfl) ?_
  refine wG Y47_Rc True.intro ?_
  refine AWp.loop ?_
  suffices H : ALp _ _ _ _ _ ⟨dn 23 [(0, .sl ((b ++ leB n (0)).map byB) (.own 0)), (1, (.im (.int .i64 ((n : Int))))), (2, (.im (.int .i64 ((w : Int))))), (7, (.im (.int .i64 ((((0 : Nat)) : Int)))))], ofl [.tip 5 1 (b ++ leB n (0)).length]⟩ by
    simp only [leB, List.append_nil] at H
    refine ALp.cutP 1 [(0, .sl ((b).map byB) (.own 0)), (1, (.im (.int .i64 ((n : Int))))), (2, (.im (.int .i64 ((w : Int))))), (7, (.im (.int .i64 (0))))] [.tip 5 1 b.length] I1_Rc ?_
    exact H
  refine ALp.upto w (fun _ => True) (fun m => ⟨dn 23 [(0, .sl ((b ++ leB n (m)).map byB) (.own 0)), (1, (.im (.int .i64 ((n : Int))))), (2, (.im (.int .i64 ((w : Int))))), (7, (.im (.int .i64 ((((m : Nat)) : Int)))))], ofl [.tip 5 1 (b ++ leB n (m)).length]⟩) ?_ 0 (Nat.zero_le _) trivial
  intro m hm _ hnext
  by_cases hlt : m < w
  · have hlt' : (m : Int) < (w : Int) := by omega
    have hm1 := wrap_succ (m := m) (N := 140737488355328) (by omega) (by decide)
    have h8 := wrap_u8 (n / 256 ^ m)
    have hs := leB_succ m n
    have hsh := shrN n m (by omega)
    have u1 : IntKind.u64.wrap ((m : Nat) : Int) = ((m : Nat) : Int) := by rw [IntKind.wrap_u64]; omega
    have u2 : IntKind.u64.wrap (8 * ((m : Nat) : Int)) = ((8 * m : Nat) : Int) := by rw [IntKind.wrap_u64]; omega
    have u3 : (((8 * m : Nat) : Int) < 0) = False := eq_false (by omega)
    have hn := hnext (m + 1) (by omega) (by omega) trivial
    clear hnext
    rw [hs] at hn
    rw [← List.append_assoc] at hn
    have hl0 : (b ++ leB n m).length = b.length + m := by simp [leB_len]
    generalize hx : b ++ leB n m = x at hn hl0
    generalize UInt8.ofNat (n / 256 ^ m % 256) = c at h8 hn
    have hB := by_snoc x c
    have hcap : (x.length + 1) * 1 ≤ 140737488355328 := by omega
    have hln : x.length + 1 = (x ++ [c]).length := by simp
    refine wG Y47_Rc (And.intro hlt' (And.intro u1 (And.intro u2 (And.intro u3 (And.intro hsh (And.intro h8 (And.intro hB (And.intro hcap (And.intro (@List.length_map.{0, 0}) (And.intro byL_all hm1)))))))))) ?_
    rw [hln]
    refine ALp.cutP 1 [(0, .sl ((x ++ [c]).map byB) (.own 0)), (1, (.im (.int .i64 ((n : Int))))), (2, (.im (.int .i64 ((w : Int))))), (7, (.im (.int .i64 (((m + 1 : Nat) : Int)))))] [.tip 5 1 (x ++ [c]).length] I1_Rc ?_
    exact hn
  · obtain rfl : m = w := by omega
    have hlt' : ¬ (m : Int) < (m : Int) := by omega
    clear hnext hlt
    generalize b ++ leB n m = x
    refine wG Y47_Rc hlt' ?_
    refine Fin.gen (rs := [.tmp 6]) rfl (by first | exact .inl rfl | exact .inr rfl) (finG Y47_Rc) ?_ rfl (idG I1_Rc)
    skip
    all_goals exact wkG I1_Rc
theorem c_numF (b : Bs) (n w : Nat) (hw : w ≤ 4) (hb : b.length + w ≤ 140737488355328) : DC Tryz.prog 47 [.sl (b.map byB) .full, (.im (.int .i64 ((n : Int)))), (.im (.int .i64 ((w : Int))))] [.free] (.sl ((b ++ leB n w).map byB) (.own 0)) [.tip 5 1 (b ++ leB n w).length] := by
  refine DC.enterN 1 23 Tryz.func47 rfl (by decide) rfl rfl (s := [(0, .sl (b.map byB) .full), (1, (.im (.int .i64 ((n : Int))))), (2, (.im (.int .i64 ((w : Int)))))]) (by rfl) ?_
  refine wG Y47_Rc True.intro ?_
  refine AWp.loop ?_
  refine ALp.cutP 0 [(0, .sl (b.map byB) .full), (1, (.im (.int .i64 ((n : Int))))), (2, (.im (.int .i64 ((w : Int))))), (7, (.im (.int .i64 (0))))] [] I1_Rc ?_
  refine ALp.ghost 0 (b.map byB) .full 5 1 ?_ rfl (.inl rfl) (byL_allS b)
  suffices H : ALp _ _ _ _ _ ⟨dn 23 [(0, .sl ((b ++ leB n (0)).map byB) (.own 0)), (1, (.im (.int .i64 ((n : Int))))), (2, (.im (.int .i64 ((w : Int))))), (7, (.im (.int .i64 ((((0 : Nat)) : Int)))))], ofl [.tip 5 1 (b ++ leB n (0)).length]⟩ by
    simp only [leB, List.append_nil] at H
    rw [List.length_map]
    refine ALp.cutP 1 [(0, .sl ((b).map byB) (.own 0)), (1, (.im (.int .i64 ((n : Int))))), (2, (.im (.int .i64 ((w : Int))))), (7, (.im (.int .i64 (0))))] [.tip 5 1 b.length] I1_Rc ?_
    exact H
  refine ALp.upto w (fun _ => True) (fun m => ⟨dn 23 [(0, .sl ((b ++ leB n (m)).map byB) (.own 0)), (1, (.im (.int .i64 ((n : Int))))), (2, (.im (.int .i64 ((w : Int))))), (7, (.im (.int .i64 ((((m : Nat)) : Int)))))], ofl [.tip 5 1 (b ++ leB n (m)).length]⟩) ?_ 0 (Nat.zero_le _) trivial
  intro m hm _ hnext
  by_cases hlt : m < w
  · have hlt' : (m : Int) < (w : Int) := by omega
    have hm1 := wrap_succ (m := m) (N := 140737488355328) (by omega) (by decide)
    have h8 := wrap_u8 (n / 256 ^ m)
    have hs := leB_succ m n
    have hsh := shrN n m (by omega)
    have u1 : IntKind.u64.wrap ((m : Nat) : Int) = ((m : Nat) : Int) := by rw [IntKind.wrap_u64]; omega
    have u2 : IntKind.u64.wrap (8 * ((m : Nat) : Int)) = ((8 * m : Nat) : Int) := by rw [IntKind.wrap_u64]; omega
    have u3 : (((8 * m : Nat) : Int) < 0) = False := eq_false (by omega)
    have hn := hnext (m + 1) (by omega) (by omega) trivial
    clear hnext
    rw [hs] at hn
    rw [← List.append_assoc] at hn
    have hl0 : (b ++ leB n m).length = b.length + m := by simp [leB_len]
    generalize hx : b ++ leB n m = x at hn hl0
    generalize UInt8.ofNat (n / 256 ^ m % 256) = c at h8 hn
    have hB := by_snoc x c
    have hcap : (x.length + 1) * 1 ≤ 140737488355328 := by omega
    have hln : x.length + 1 = (x ++ [c]).length := by simp
    refine wG Y47_Rc (And.intro hlt' (And.intro u1 (And.intro u2 (And.intro u3 (And.intro hsh (And.intro h8 (And.intro hB (And.intro hcap (And.intro (@List.length_map.{0, 0}) (And.intro byL_all hm1)))))))))) ?_
    rw [hln]
    refine ALp.cutP 1 [(0, .sl ((x ++ [c]).map byB) (.own 0)), (1, (.im (.int .i64 ((n : Int))))), (2, (.im (.int .i64 ((w : Int))))), (7, (.im (.int .i64 (((m + 1 : Nat) : Int)))))] [.tip 5 1 (x ++ [c]).length] I1_Rc ?_
    exact hn
  · obtain rfl : m = w := by omega
    have hlt' : ¬ (m : Int) < (m : Int) := by omega
    clear hnext hlt
    generalize b ++ leB n m = x
    refine wG Y47_Rc hlt' ?_
    refine Fin.genK 1 (rs := [.tmp 6]) rfl (by first | exact .inl rfl | exact .inr rfl) (by simp only [resX, resA, ↓accU_f, ↓reduceIte, SA, SB, SC, SD, Y47_Rc, valG, fpsG, evO, evB, evA, evA1, nilK, eqF, eqC, apOk, intOf, slB, slK,  gd, St.ev, putA, ofl, wrl, putE, V.ofVal, V.ofCell, bin2, un1, seg, fillV, partsOk, Value.oneCell', Nat.reduceBEq, Nat.reduceLT, Nat.reduceSub, Nat.reduceAdd, Nat.reduceMul, Nat.reduceLeDiff, Nat.reduceEqDiff, reduceCtorEq, Int.reduceLT, Int.reduceLE, Int.reduceEq, Int.reduceNe, Int.reduceBEq, Int.reduceBNe, Int.reduceAdd, Int.reduceSub, Int.reduceMul, Int.reduceToNat]; with_reducible exact rfl) ?_ rfl (by first | rfl | simp only [List.length_cons, List.length_nil, Nat.reduceAdd, V.ids, V.idsL, idsA, entOk, List.all_cons, List.all_nil, Bool.and_self, Bool.and_true, Bool.true_and, ltB, noId, Nat.reduceLT, decide_true, Bool.true_eq_false, tyV_id, fdV_id, tyL_id, fdL_id, enV_id, enL_id, byL_id, lsV_id, lsL_id, tyV_id])
    repeat (first | exact WkF.of (Wk.refl _) (by first | rfl | simp only [List.length_cons, List.length_nil, Nat.reduceAdd, V.ids, V.idsL, idsA, entOk, List.all_cons, List.all_nil, Bool.and_self, Bool.and_true, Bool.true_and, ltB, noId, Nat.reduceLT, decide_true, Bool.true_eq_false, tyV_id, fdV_id, tyL_id, fdL_id, enV_id, enL_id, byL_id, lsV_id, lsL_id, tyV_id]) | exact WkF.of (Wk.ro _ _) (by first | rfl | simp only [List.length_cons, List.length_nil, Nat.reduceAdd, V.ids, V.idsL, idsA, entOk, List.all_cons, List.all_nil, Bool.and_self, Bool.and_true, Bool.true_and, ltB, noId, Nat.reduceLT, decide_true, Bool.true_eq_false, tyV_id, fdV_id, tyL_id, fdL_id, enV_id, enL_id, byL_id, lsV_id, lsL_id, tyV_id]) | refine WkF.tu ?_ | refine WkF.ag ?_ | refine WkFL.cons ?_ ?_ | exact WkFL.nil)
theorem Y28_Rc : type_of% (And.intro @F_ag_5 (And.intro @F_el_22 (And.intro @F_in_3 (And.intro @F_in_5 (And.intro @F_sz_5 (And.intro @F_un_3 (@F_un_5))))))) := And.intro @F_ag_5 (And.intro @F_el_22 (And.intro @F_in_3 (And.intro @F_in_5 (And.intro @F_sz_5 (And.intro @F_un_3 (@F_un_5))))))
def smR (b : Bs) (m : Nat) : Nat := ((b.take m).foldl (fun n c => n + c.toNat) 0) % 65536
theorem smR_succ {b : Bs} {m : Nat} {c : UInt8} (h : b[m]? = some c) : (IntKind.i64.wrap (((smR b m : Nat) : Int) + ((c.toNat : Nat) : Int))).tmod 65536 = ((smR b (m + 1) : Nat) : Int) := by
  obtain ⟨hm, rfl⟩ := List.getElem?_eq_some_iff.1 h
  unfold smR
  rw [List.take_succ_eq_append_getElem hm, List.foldl_append, List.foldl_cons, List.foldl_nil]
  have hc := b[m].toNat_lt
  generalize b[m].toNat = c at hc ⊢
  generalize (b.take m).foldl (fun n c => n + c.toNat) 0 = s
  rw [wrap_in (by omega), Int.tmod_eq_emod_of_nonneg (by omega)]
  omega
theorem c_sumR (b : Bs) (hb : b.length ≤ 140737488355328) : PC Tryz.prog 28 [.sl (b.map byB) .ro] (.im (.int .i64 (((sumB b : Nat) : Int)))) := by
  refine PC.enter 20 Tryz.func28 rfl (by decide) rfl rfl (s := [(0, .sl (b.map byB) .ro)]) (by rfl) ?_
  refine wG Y28_Rc @List.length_map.{0, 0} ?_
  refine AWp.loop ?_
  refine ALp.cutP 0 [(0, .sl (b.map byB) .ro), (3, (.im (.int .i64 (((smR b (0) : Nat) : Int))))), (4, (.im (.int .i64 ((((0 : Nat)) : Int)))))] [] I1_Rc ?_
  refine ALp.upto b.length (fun _ => True) (fun m => ⟨dn 20 [(0, .sl (b.map byB) .ro), (3, (.im (.int .i64 (((smR b (m) : Nat) : Int))))), (4, (.im (.int .i64 ((((m : Nat)) : Int)))))], ofl []⟩) ?_ 0 (Nat.zero_le _) trivial
  intro m hm _ hnext
  by_cases hlt : m < b.length
  · have hlt' : (m : Int) < (b.length : Int) := by omega
    have hg : b[m]? = some b[m] := List.getElem?_eq_getElem hlt
    have hm1 := wrap_succ (m := m) (N := 140737488355328) (by omega) (by decide)
    have hs := smR_succ hg
    have hc := b[m].toNat_lt
    have hw : IntKind.i64.wrap ((b[m].toNat : Nat) : Int) = ((b[m].toNat : Nat) : Int) := wrap_in (by omega)
    generalize b[m] = c at hg hs hw
    have hn := hnext (m + 1) (by omega) (by omega) trivial
    clear hnext
    refine wG Y28_Rc (And.intro hlt' (And.intro byB_eq (And.intro BAT (And.intro hg (And.intro hw (And.intro hs hm1)))))) ?_
    refine ALp.cutP 0 [(0, .sl (b.map byB) .ro), (3, (.im (.int .i64 (((smR b (m + 1) : Nat) : Int))))), (4, (.im (.int .i64 ((((m + 1 : Nat)) : Int)))))] [] I1_Rc ?_
    exact hn
  · obtain rfl : m = b.length := by omega
    have hlt' : ¬ (b.length : Int) < (b.length : Int) := by omega
    clear hnext hlt
    have hq : smR b b.length = sumB b := by unfold smR sumB; rw [List.take_length]
    rw [hq]
    refine wG Y28_Rc (And.intro hlt' @List.length_map.{0, 0}) ?_
    exact Fin.oneP
theorem Y19_Rc : type_of% (And.intro @F_ag_28 (And.intro @F_ag_3 (And.intro @F_ag_4 (And.intro @F_ag_44 (And.intro @F_ag_46 (And.intro @F_ag_9 (And.intro @F_al_46 (And.intro @F_al_5 (And.intro @F_by_5 (And.intro @F_el_22 (And.intro @F_el_28 (And.intro @F_fl_31_0 (And.intro @F_fl_31_1 (And.intro @F_fl_46_0 (And.intro @F_fl_46_1 (And.intro @F_fl_46_2 (And.intro @F_fl_46_3 (And.intro @F_in_22 (And.intro @F_in_3 (And.intro @F_in_44 (And.intro @F_sz_28 (And.intro @F_sz_3 (And.intro @F_sz_4 (And.intro @F_sz_44 (And.intro @F_sz_46 (And.intro @F_sz_5 (And.intro @F_sz_9 (And.intro @F_un_22 (And.intro @F_un_3 (And.intro @F_un_44 (And.intro @F_un_5 (@F_un_9)))))))))))))))))))))))))))))))) := And.intro @F_ag_28 (And.intro @F_ag_3 (And.intro @F_ag_4 (And.intro @F_ag_44 (And.intro @F_ag_46 (And.intro @F_ag_9 (And.intro @F_al_46 (And.intro @F_al_5 (And.intro @F_by_5 (And.intro @F_el_22 (And.intro @F_el_28 (And.intro @F_fl_31_0 (And.intro @F_fl_31_1 (And.intro @F_fl_46_0 (And.intro @F_fl_46_1 (And.intro @F_fl_46_2 (And.intro @F_fl_46_3 (And.intro @F_in_22 (And.intro @F_in_3 (And.intro @F_in_44 (And.intro @F_sz_28 (And.intro @F_sz_3 (And.intro @F_sz_4 (And.intro @F_sz_44 (And.intro @F_sz_46 (And.intro @F_sz_5 (And.intro @F_sz_9 (And.intro @F_un_22 (And.intro @F_un_3 (And.intro @F_un_44 (And.intro @F_un_5 (@F_un_9)))))))))))))))))))))))))))))))
theorem c_SaveRf (p : Pr) (h : ∀ e ∈ p.l, Fits47 e) (hl : p.l.length ≤ 1024) : PC Tryz.prog 19 [(.ag [(.im (.bool (true))), .sl ((p).l.map enV) .ro, .sl ((p).un.reverse.map lsV) .ro, .sl ((p).re.reverse.map lsV) .ro])] (.sl ((saveB p.l).map byB) .ro) := by
  have q2 : DC Tryz.prog 47 [.sl [.im (.int .u8 68), .im (.int .u8 67), .im (.int .u8 80), .im (.int .u8 49)] .full, (.im (.int .i64 (((p.l.length : Nat) : Int)))), (.im (.int .i64 (2)))] [.free] (.sl ((magicB ++ leB p.l.length 2).map byB) (.own 0)) [.tip 5 1 (magicB ++ leB p.l.length 2).length] := c_numF magicB p.l.length 2 (by decide) (by simp [magicB])
  rw [svM_0] at q2
  have hb := svM_le h hl
  refine PC.enter 53 Tryz.func19 rfl (by decide) rfl rfl (s := [(0, (.ag [(.im (.bool (true))), .sl ((p).l.map enV) .ro, .sl ((p).un.reverse.map lsV) .ro, .sl ((p).re.reverse.map lsV) .ro]))]) (by rfl) ?_
  refine AWp.seq ?_
  refine AWp.region ?_
  refine goG Y19_Rc True.intro ?_
  refine AR.end ?_
  refine Thn.n ?_
  refine AWp.seq ?_
  refine AWp.seq ?_
  refine AWp.region ?_
  refine goG Y19_Rc True.intro ?_
  refine AR.end ?_
  refine Thn.n ?_
  refine AWp.condAF rfl rfl ?_
  refine AWp.skip ?_
  refine Thn.n ?_
  refine AWp.seq ?_
  refine AWp.bytesC (n := 4) (cs := [.im (.int .u8 0)]) (e := 5) (es := [.im (.int .u8 68), .im (.int .u8 67), .im (.int .u8 80), .im (.int .u8 49)]) ?qh F_el_22 ?qu F_sz_5 F_al_5 ?qn ?qd ?qp ?qe
  case qu => exact F_un_5
  case qn => decide
  case qd => rfl
  case qp => rfl
  case qe => rfl
  refine goG Y19_Rc @List.length_map.{0, 0} ?_
  refine AR.callSP [1] q2 True.intro I1_Rc N1_Rc ?_
  refine goG Y19_Rc True.intro ?_
  refine wG Y19_Rc True.intro ?_
  refine AWp.loop ?_
  refine ALp.cutP 2 [(1, .pt 0 0), (3, .sl ((svM p.l (0)).map byB) (.own 1)), (4, (.im (.int .i64 ((((0 : Nat)) : Int)))))] [.box [(.im (.bool (true))), .sl ((p).l.map enV) .ro, .sl ((p).un.reverse.map lsV) .ro, .sl ((p).re.reverse.map lsV) .ro], .tip 5 1 (svM p.l 0).length] I1_Rc ?_
  refine ALp.upto p.l.length (fun _ => True) (fun m => ⟨dn 53 [(1, .pt 0 0), (3, .sl ((svM p.l (m)).map byB) (.own 1)), (4, (.im (.int .i64 ((((m : Nat)) : Int)))))], ofl [.box [(.im (.bool (true))), .sl ((p).l.map enV) .ro, .sl ((p).un.reverse.map lsV) .ro, .sl ((p).re.reverse.map lsV) .ro], .tip 5 1 (svM p.l m).length]⟩) ?_ 0 (Nat.zero_le _) trivial
  intro m hm _ hnext
  by_cases hlt : m < p.l.length
  · have hlt' : (m : Int) < (p.l.length : Int) := by omega
    have hg := get_some hlt
    have hm1 := wrap_succ hlt (by omega)
    have hf := h p.l[m] (List.getElem_mem hlt)
    have hs := svM_succ (L := p.l) (m := m) (e := p.l[m]) (List.getElem?_eq_getElem hlt)
    have hn := hnext (m + 1) (by omega) (by omega) trivial
    have hbb := hb (m + 1)
    clear hnext
    rw [hs] at hn hbb
    generalize p.l[m] = e at hg hf hn hbb
    obtain ⟨k, v, a, t⟩ := e
    obtain ⟨f1, f2, f3, f4⟩ := hf
    simp only at f1 f2 f3 f4 hn hbb
    obtain ⟨kn, rfl⟩ := Int.eq_ofNat_of_zero_le f1.1
    obtain ⟨vn, rfl⟩ := Int.eq_ofNat_of_zero_le f2.1
    obtain ⟨an, rfl⟩ := Int.eq_ofNat_of_zero_le f3.1
    simp only [Int.toNat_natCast] at hn hbb
    generalize svM p.l m = x at hn hbb ⊢
    simp only [List.length_append, leB_len, List.length_cons, List.length_nil] at hbb
    have wa : IntKind.i64.wrap ((an : Nat) : Int) = ((an : Nat) : Int) := wrap_in (by omega)
    have p0 := c_num x kn 1 (by decide) (by omega)
    have p1 := c_num (x ++ leB kn 1) an 4 (by decide) (by simp [leB_len]; omega)
    have p2 := c_num (x ++ leB kn 1 ++ leB an 4) vn 2 (by decide) (by simp [leB_len]; omega)
    have p3 := c_num (x ++ leB kn 1 ++ leB an 4 ++ leB vn 2) t.length 2 (by decide) (by simp [leB_len]; omega)
    have hcap2 : (x ++ leB kn 1 ++ leB an 4 ++ leB vn 2 ++ leB t.length 2).length + t.length ≤ 140737488355328 := by simp [leB_len]; omega
    generalize x ++ leB kn 1 ++ leB an 4 ++ leB vn 2 ++ leB t.length 2 = y4 at p3 hn hcap2
    generalize x ++ leB kn 1 ++ leB an 4 ++ leB vn 2 = y3 at p2 p3
    generalize x ++ leB kn 1 ++ leB an 4 = y2 at p1 p2
    generalize x ++ leB kn 1 = y1 at p0 p1
    have hC : y4.map byB ++ t.map byB = (y4 ++ t).map byB := (List.map_append).symm
    have hcap3 : (y4.length + t.length) * 1 ≤ 140737488355328 := by omega
    have hln2 : y4.length + t.length = (y4 ++ t).length := by simp
    generalize y4 ++ t = y5 at hC hln2 hn
    rw [hln2] at hcap3
    refine wdG Y19_Rc (And.intro hlt' (And.intro ENT hg)) ?_
    refine AR.callSP [1] p0 @Int.cast_ofNat_Int I1_Rc N1_Rc ?_
    refine goG Y19_Rc True.intro ?_
    refine wdG Y19_Rc wa ?_
    refine AR.callSP [1] p1 @Int.cast_ofNat_Int I1_Rc N1_Rc ?_
    refine goG Y19_Rc True.intro ?_
    refine wdG Y19_Rc True.intro ?_
    refine AR.callSP [1] p2 @Int.cast_ofNat_Int I1_Rc N1_Rc ?_
    refine goG Y19_Rc True.intro ?_
    refine wdG Y19_Rc BAT ?_
    refine AR.callSP [1] p3 @Int.cast_ofNat_Int I1_Rc N1_Rc ?_
    refine goG Y19_Rc True.intro ?_
    refine wdG Y19_Rc (And.intro BAT (And.intro hC (And.intro hcap3 (And.intro byL_all (And.intro hln2 hm1))))) ?_
    refine ALp.cutP 2 [(1, .pt 0 0), (3, .sl (y5.map byB) (.own 1)), (4, (.im (.int .i64 (((m + 1 : Nat) : Int)))))] [.box [(.im (.bool (true))), .sl ((p).l.map enV) .ro, .sl ((p).un.reverse.map lsV) .ro, .sl ((p).re.reverse.map lsV) .ro], .tip 5 1 (y5).length] I1_Rc ?_
    exact hn
  · obtain rfl : m = p.l.length := by omega
    have hlt' : ¬ (p.l.length : Int) < (p.l.length : Int) := by omega
    have hbb := hb p.l.length
    rw [svM_all] at hbb
    have p1 := c_sumR (bodyB p.l) (by omega)
    have p2 := c_num (bodyB p.l) (sumB (bodyB p.l)) 2 (by decide) (by omega)
    have e1 : bodyB p.l ++ leB (sumB (bodyB p.l)) 2 = saveB p.l := rfl
    rw [e1] at p2
    rw [svM_all]
    clear hnext hlt e1 hb
    generalize sumB (bodyB p.l) = sm at p1 p2
    generalize bodyB p.l = y at p1 p2 hbb ⊢
    generalize saveB p.l = z at p2 ⊢
    refine wdG Y19_Rc (And.intro hlt' @List.length_map.{0, 0}) ?_
    refine AR.callW p1 True.intro I1_Rc ?_
    refine goG Y19_Rc True.intro ?_
    refine AR.callSP [1] p2 @Int.cast_ofNat_Int I1_Rc N1_Rc ?_
    refine goG Y19_Rc True.intro ?_
    refine wG Y19_Rc True.intro ?_
    refine Fin.gen0 (rs := [.tmp 2]) rfl (by first | exact .inl rfl | exact .inr rfl) (finG Y19_Rc) ?_
    skip
    all_goals exact wkG I1_Rc
end Go.Proofs.YtianekkfehoedaaGreatDoor
