/- Walks of the laws: ProjectSaved. -/
import Derived.Test.YtianekkfehoedaaDoorHv
import Derived.Test.YtianekkfehoedaaDoorZk
import Derived.Test.YtianekkfehoedaaDoorK5
namespace Go.Proofs.YtianekkfehoedaaDoor
set_option linter.unusedSimpArgs false
set_option linter.unusedVariables false
set_option linter.unnecessarySimpa false
open Go.RowKit
theorem flat_by (x : Bs) : flatV (x.map byB) = x.map byB := by
  induction x with
  | nil => rfl
  | cons c x ih =>
    rw [List.map_cons]
    show (byB c).cells ++ flatV (x.map byB) = _
    rw [ih]; rfl
theorem by_set (x : Bs) (k : Nat) (c : UInt8) (hk : k < x.length) : (x.map byB).take k ++ [V.im (.int .u8 c.toNat)] ++ (x.map byB).drop (k + 1) = (x.set k c).map byB := by
  rw [List.set_eq_take_append_cons_drop, if_pos hk, List.map_append, List.map_cons, List.map_take, List.map_drop, List.append_assoc]
  rfl
theorem xor_u8 (a b : UInt8) : IntKind.u8.wrap ((BitVec.ofInt IntKind.u8.bits ((a.toNat : Nat) : Int) ^^^ BitVec.ofInt IntKind.u8.bits ((b.toNat : Nat) : Int)).toNat : Int) = (((a ^^^ b).toNat : Nat) : Int) := by
  have e : ∀ c : UInt8, BitVec.ofInt IntKind.u8.bits ((c.toNat : Nat) : Int) = c.toBitVec := fun c => by
    show BitVec.ofInt 8 ((c.toNat : Nat) : Int) = c.toBitVec
    apply BitVec.eq_of_toNat_eq
    rw [BitVec.toNat_ofInt]
    have := c.toNat_lt
    show (((c.toNat : Nat) : Int) % 256).toNat = c.toNat
    omega
  rw [e, e, IntKind.wrap_u8]
  show (((a ^^^ b).toNat : Nat) : Int) % 256 = _
  have := (a ^^^ b).toNat_lt
  omega
theorem Y5_Zo : type_of% (And.intro @F_ag_5 (And.intro @F_el_37 (And.intro @F_sz_5 (@F_un_37)))) := And.intro @F_ag_5 (And.intro @F_el_37 (And.intro @F_sz_5 (@F_un_37)))
set_option maxHeartbeats 4000000 in
theorem c_saved47 (l : List Sp) (at_ : Int) (d : UInt8) (hl : l.length ≤ 4194304) (ha : ∀ s ∈ l, adrB s.e) : PC Tryd.prog 5 [.sl (l.map spV) .ro, (.im (.int .i64 (at_))), (.im (.int .u8 (((d.toNat : Nat) : Int))))] (.im (.bool (true))) := by
  have qx := c_example47
  have ql := c_light l hl
  have qn := c_New
  refine PC.enter 92 Tryd.func5 rfl (by decide) rfl rfl (s := [(0, .sl (l.map spV) .ro), (1, (.im (.int .i64 (at_)))), (2, (.im (.int .u8 (((d.toNat : Nat) : Int)))))]) (by rfl) ?_
  refine wG Y5_Zo True.intro ?_
  refine AR.callP qx True.intro (And.intro enV_id (And.intro enL_id (And.intro byL_id (And.intro lsV_id (And.intro lsL_id (And.intro (@tyV_id) (And.intro flE_id (And.intro spV_id spL_id)))))))) ?_
  refine goG Y5_Zo True.intro ?_
  refine wG Y5_Zo True.intro ?_
  refine AR.callP ql True.intro (And.intro enV_id (And.intro enL_id (And.intro byL_id (And.intro lsV_id (And.intro lsL_id (And.intro (@tyV_id) (And.intro flE_id (And.intro spV_id spL_id)))))))) ?_
  cases hlg : lgB l with
  | false =>
    refine goG Y5_Zo True.intro ?_
    refine wG Y5_Zo True.intro ?_
    exact Fin.oneP
  | true =>
  obtain ⟨l30, lt⟩ := lg_spec hlg
  have r1 := c_run p0 l List.Pairwise.nil (by decide) rfl (by decide) l30 lt
  have hgd := runP_gd (p := p0) (l := l) Gd.nil ha
  generalize runP p0 l = P1 at r1 hgd
  generalize P1.l = L at r1 hgd
  generalize P1.un = un at r1
  have r2 := c_SaveR L un [] (fun e he => hgd.fits he) hgd.len
  have ld := ld_save hgd
  have hcut := ld_cut hgd
  have hflip := fun k c => ld_flip (l := L) (k := k) (c := c)
  have hbl := svM_le (fun e he => hgd.fits he) hgd.len L.length
  rw [svM_all] at hbl
  have hb8 : 8 ≤ (saveB L).length := by have := body_len L; rw [save_len]; omega
  have hbm : (saveB L).length ≤ 140737488355328 := by rw [save_len]; omega
  have r3 := c_LoadK (saveB L) hbm (by rw [ld])
  have r4 := c_LoadE ((saveB L).take ((saveB L).length - 1)) (by simp; omega) (by rw [hcut]; decide)
  rw [hcut] at r4
  rw [ld] at r3
  have r5 := c_AllR L un [] hgd.len
  have r6 : DC _ _ [.pt 0 0] [.box [(.im (.bool (true))), .sl ((L).map enV) .ro, .sl [] .ro, .sl [] .ro]] _ [.box [(.im (.bool (true))), .sl ((L).map enV) .ro, .sl [] .ro, .sl [] .ro]] := c_AllR L [] [] hgd.len
  have r7 := c_sameT L (by have := hgd.len; omega)
  dsimp only at r3 r4
  generalize saveB L = b at r2 r3 r4 hcut hflip hb8 hbm ld
  refine goG Y5_Zo True.intro ?_
  refine wG Y5_Zo True.intro ?_
  refine AR.callSP [0] qn True.intro (And.intro enV_id (And.intro enL_id (And.intro byL_id (And.intro lsV_id (And.intro lsL_id (And.intro (@tyV_id) (And.intro flE_id (And.intro spV_id spL_id)))))))) (And.intro enV_ren (And.intro enL_ren (And.intro byL_ren (And.intro lsV_ren (And.intro lsL_ren (And.intro flE_ren (And.intro spV_ren spL_ren))))))) ?_
  refine goG Y5_Zo True.intro ?_
  refine AR.end ?_
  refine Thn.n ?_
  refine AWp.frz 1 [(0, .sl (l.map spV) .ro), (1, (.im (.int .i64 (at_)))), (2, (.im (.int .u8 (((d.toNat : Nat) : Int))))), (7, .pt 0 0)] [.box [(.im (.bool (true))), .sl [] .ro, .sl [] .full, .sl [] .nl]] ?_ (by simp) (by repeat (first | exact WkFA.nil | refine WkFA.cons (by first | exact .of (Wk.refl _) (by first | rfl | simp only [List.length_cons, List.length_nil, Nat.reduceAdd, V.ids, V.idsL, idsA, entOk, List.all_cons, List.all_nil, Bool.and_self, Bool.and_true, Bool.true_and, ltB, noId, Nat.reduceLT, decide_true, Bool.true_eq_false, tyV_id, fdV_id, tyL_id, fdL_id, enV_id, enL_id, byL_id, lsV_id, lsL_id, tyV_id, flE_id, spV_id, spL_id]) | exact .of (Wk.ro _ _) rfl | exact .of (Wk.nlF _) rfl) ?_)) (by repeat (first | exact WkFE.nil | refine WkFE.box (by repeat (first | exact WkFL.nil | refine WkFL.cons (by first | exact .of (Wk.refl _) (by first | rfl | simp only [List.length_cons, List.length_nil, Nat.reduceAdd, V.ids, V.idsL, idsA, entOk, List.all_cons, List.all_nil, Bool.and_self, Bool.and_true, Bool.true_and, ltB, noId, Nat.reduceLT, decide_true, Bool.true_eq_false, tyV_id, fdV_id, tyL_id, fdL_id, enV_id, enL_id, byL_id, lsV_id, lsL_id, tyV_id, flE_id, spV_id, spL_id]) | exact .of (Wk.ro _ _) rfl | exact .of (Wk.nlF _) rfl) ?_)) ?_ | refine WkFE.same (fun _ e => by cases e) ?_)) (fun i hi => by first | exact absurd rfl hi | exact Nat.lt_of_lt_of_le (ofl_lt hi) (by simp))
  refine wG Y5_Zo True.intro ?_
  refine AR.callSP [0] r1 True.intro (And.intro enV_id (And.intro enL_id (And.intro byL_id (And.intro lsV_id (And.intro lsL_id (And.intro (@tyV_id) (And.intro flE_id (And.intro spV_id spL_id)))))))) (And.intro enV_ren (And.intro enL_ren (And.intro byL_ren (And.intro lsV_ren (And.intro lsL_ren (And.intro flE_ren (And.intro spV_ren spL_ren))))))) ?_
  refine goG Y5_Zo True.intro ?_
  refine AR.end ?_
  refine Thn.n ?_
  refine AWp.frz 1 [(1, (.im (.int .i64 (at_)))), (2, (.im (.int .u8 (((d.toNat : Nat) : Int))))), (7, .pt 0 0)] [.box [(.im (.bool (true))), .sl ((L).map enV) .ro, .sl (un.map lsV) .ro, .sl [] .ro]] ?_ (by simp) (by repeat (first | exact WkFA.nil | refine WkFA.cons (by first | exact .of (Wk.refl _) (by first | rfl | simp only [List.length_cons, List.length_nil, Nat.reduceAdd, V.ids, V.idsL, idsA, entOk, List.all_cons, List.all_nil, Bool.and_self, Bool.and_true, Bool.true_and, ltB, noId, Nat.reduceLT, decide_true, Bool.true_eq_false, tyV_id, fdV_id, tyL_id, fdL_id, enV_id, enL_id, byL_id, lsV_id, lsL_id, tyV_id, flE_id, spV_id, spL_id]) | exact .of (Wk.ro _ _) (by simp [V.ids, V.idsL, lsL_id])) ?_)) (by repeat (first | exact WkFE.nil | refine WkFE.box (by repeat (first | exact WkFL.nil | refine WkFL.cons (by first | exact .of (Wk.refl _) (by first | rfl | simp only [List.length_cons, List.length_nil, Nat.reduceAdd, V.ids, V.idsL, idsA, entOk, List.all_cons, List.all_nil, Bool.and_self, Bool.and_true, Bool.true_and, ltB, noId, Nat.reduceLT, decide_true, Bool.true_eq_false, tyV_id, fdV_id, tyL_id, fdL_id, enV_id, enL_id, byL_id, lsV_id, lsL_id, tyV_id, flE_id, spV_id, spL_id]) | exact .of (Wk.ro _ _) (by simp [V.ids, V.idsL, lsL_id])) ?_)) ?_ | refine WkFE.same (fun _ e => by cases e) ?_)) (fun i hi => by first | exact absurd rfl hi | exact Nat.lt_of_lt_of_le (ofl_lt hi) (by simp))
  refine wG Y5_Zo True.intro ?_
  refine AR.callSP [0, 1] r2 True.intro (And.intro enV_id (And.intro enL_id (And.intro byL_id (And.intro lsV_id (And.intro lsL_id (And.intro (@tyV_id) (And.intro flE_id (And.intro spV_id spL_id)))))))) (And.intro enV_ren (And.intro enL_ren (And.intro byL_ren (And.intro lsV_ren (And.intro lsL_ren (And.intro flE_ren (And.intro spV_ren spL_ren))))))) ?_
  refine goG Y5_Zo True.intro ?_
  refine wG Y5_Zo True.intro ?_
  refine AR.callS [2, 3] r3 rfl rfl (by first | (simp only [SR, enV_ren, enL_ren, byL_ren, lsV_ren, lsL_ren, flE_ren, spV_ren, spL_ren]; done) | (simp only [SR, enV_ren, enL_ren, byL_ren, lsV_ren, lsL_ren, flE_ren, spV_ren, spL_ren]; with_reducible exact rfl)) (by first | (simp only [SR, enV_ren, enL_ren, byL_ren, lsV_ren, lsL_ren, flE_ren, spV_ren, spL_ren]; done) | (simp only [SR, enV_ren, enL_ren, byL_ren, lsV_ren, lsL_ren, flE_ren, spV_ren, spL_ren]; with_reducible exact rfl)) (WkL.cons (Wk.ro _ _) .nil) (by first | rfl | simp only [List.length_cons, List.length_nil, Nat.reduceAdd, V.ids, V.idsL, idsA, entOk, List.all_cons, List.all_nil, Bool.and_self, Bool.and_true, Bool.true_and, ltB, noId, Nat.reduceLT, decide_true, Bool.true_eq_false, tyV_id, fdV_id, tyL_id, fdL_id, enV_id, enL_id, byL_id, lsV_id, lsL_id, tyV_id, flE_id, spV_id, spL_id]) rfl rfl rfl (by first | rfl | simp only [List.length_cons, List.length_nil, Nat.reduceAdd, V.ids, V.idsL, idsA, entOk, List.all_cons, List.all_nil, Bool.and_self, Bool.and_true, Bool.true_and, ltB, noId, Nat.reduceLT, decide_true, Bool.true_eq_false, tyV_id, fdV_id, tyL_id, fdL_id, enV_id, enL_id, byL_id, lsV_id, lsL_id, tyV_id, flE_id, spV_id, spL_id]) (by intro p hp; simp only [renE, SR, Ent.ren, List.mem_cons, List.not_mem_nil, or_false, enV_ren, enL_ren, byL_ren, lsV_ren, lsL_ren, flE_ren, spV_ren, spL_ren] at hp; rcases hp with rfl | rfl <;> rfl) (by simp only [renE, Ent.ren, SR, enV_ren, enL_ren, byL_ren, lsV_ren, lsL_ren, flE_ren, spV_ren, spL_ren, wrl, putE, SC, SD, Nat.reduceBEq, Nat.reduceLT, Nat.reduceSub, Nat.reduceAdd, Nat.reduceMul, Nat.reduceLeDiff, Nat.reduceEqDiff, reduceCtorEq, Int.reduceLT, Int.reduceLE, Int.reduceEq, Int.reduceNe, Int.reduceBEq, Int.reduceBNe, Int.reduceAdd, Int.reduceSub, Int.reduceMul, Int.reduceToNat]; with_reducible exact rfl) ?_
  refine goG Y5_Zo True.intro ?_
  refine AR.end ?_
  refine Thn.n ?_
  refine AWp.frz 4 [(1, (.im (.int .i64 (at_)))), (2, (.im (.int .u8 (((d.toNat : Nat) : Int))))), (7, .pt 0 0), (8, .sl (b.map byB) (.mine 1)), (9, .pt 3 0), (10, (.im (.int .i64 (0))))] [.box [(.im (.bool (true))), .sl ((L).map enV) .ro, .sl (un.map lsV) .ro, .sl [] .ro], .tip 5 1 b.length, .box [.sl (b.map byB) .ro, (.im (.int .i64 (b.length))), (.im (.bool (false)))], .box [(.im (.bool (true))), .sl ((L).map enV) .ro, .sl [] .ro, .sl [] .ro]] ?_ (by simp) (by repeat (first | exact WkFA.nil | refine WkFA.cons (by first | exact .of (Wk.refl _) (by first | rfl | simp only [List.length_cons, List.length_nil, Nat.reduceAdd, V.ids, V.idsL, idsA, entOk, List.all_cons, List.all_nil, Bool.and_self, Bool.and_true, Bool.true_and, ltB, noId, Nat.reduceLT, decide_true, Bool.true_eq_false, tyV_id, fdV_id, tyL_id, fdL_id, enV_id, enL_id, byL_id, lsV_id, lsL_id, tyV_id, flE_id, spV_id, spL_id]) | exact .of (Wk.ro _ _) (by simp [V.ids, V.idsL, lsL_id])) ?_)) (by repeat (first | exact WkFE.nil | refine WkFE.box (by repeat (first | exact WkFL.nil | refine WkFL.cons (by first | exact .of (Wk.refl _) (by first | rfl | simp only [List.length_cons, List.length_nil, Nat.reduceAdd, V.ids, V.idsL, idsA, entOk, List.all_cons, List.all_nil, Bool.and_self, Bool.and_true, Bool.true_and, ltB, noId, Nat.reduceLT, decide_true, Bool.true_eq_false, tyV_id, fdV_id, tyL_id, fdL_id, enV_id, enL_id, byL_id, lsV_id, lsL_id, tyV_id, flE_id, spV_id, spL_id]) | exact .of (Wk.ro _ _) (by simp [V.ids, V.idsL, lsL_id])) ?_)) ?_ | refine WkFE.same (fun _ e => by cases e) ?_)) (fun i hi => by first | exact absurd rfl hi | exact Nat.lt_of_lt_of_le (ofl_lt hi) (by simp))
  refine wG Y5_Zo True.intro ?_
  refine goG Y5_Zo True.intro ?_
  refine AR.eqP false ?_
  refine goG Y5_Zo True.intro ?_
  refine AR.callQP [0] r5 True.intro (And.intro enV_id (And.intro enL_id (And.intro byL_id (And.intro lsV_id (And.intro lsL_id (And.intro (@tyV_id) (And.intro flE_id (And.intro spV_id spL_id)))))))) (And.intro enV_ren (And.intro enL_ren (And.intro byL_ren (And.intro lsV_ren (And.intro lsL_ren (And.intro flE_ren (And.intro spV_ren spL_ren))))))) ?_
  refine goG Y5_Zo True.intro ?_
  refine AR.callQP [3] r6 True.intro (And.intro enV_id (And.intro enL_id (And.intro byL_id (And.intro lsV_id (And.intro lsL_id (And.intro (@tyV_id) (And.intro flE_id (And.intro spV_id spL_id)))))))) (And.intro enV_ren (And.intro enL_ren (And.intro byL_ren (And.intro lsV_ren (And.intro lsL_ren (And.intro flE_ren (And.intro spV_ren spL_ren))))))) ?_
  refine goG Y5_Zo True.intro ?_
  refine AR.callP r7 True.intro (And.intro enV_id (And.intro enL_id (And.intro byL_id (And.intro lsV_id (And.intro lsL_id (And.intro (@tyV_id) (And.intro flE_id (And.intro spV_id spL_id)))))))) ?_
  have f8 : ¬ (b.length : Int) < 8 := by omega
  have w1 : IntKind.i64.wrap ((b.length : Int) - 1) = ((b.length - 1 : Nat) : Int) := by rw [wrap_in (by omega)]; omega
  have g1 : ((b.length - 1 : Nat) : Int) ≤ (b.length : Int) := by omega
  have f9 : (b.length - 1 = b.length) = False := eq_false (by omega)
  have htk : List.take (b.length - 1) (b.map byB) = (b.take (b.length - 1)).map byB := (List.map_take).symm
  refine goG Y5_Zo (And.intro f8 @List.length_map.{0, 0}) ?_
  refine wG Y5_Zo (And.intro f8 (And.intro (@List.length_map.{0, 0}) (And.intro w1 (And.intro GDS (And.intro g1 (And.intro htk (And.intro byL_allS f9))))))) ?_
  refine AR.callP r4 True.intro (And.intro enV_id (And.intro enL_id (And.intro byL_id (And.intro lsV_id (And.intro lsL_id (And.intro (@tyV_id) (And.intro flE_id (And.intro spV_id spL_id)))))))) ?_
  have fz : ((b.length : Int) = 0) = False := eq_false (by omega)
  have hkn := Int.tmod_lt_of_pos at_ (b := (b.length : Int)) (by omega)
  refine goG Y5_Zo True.intro ?_
  refine wG Y5_Zo (And.intro (@List.length_map.{0, 0}) fz) ?_
  generalize at_.tmod (b.length : Int) = kz at hkn
  refine AWp.tail (ι := {k : Nat // k < b.length}) (fun k => ⟨dn 92 [(2, (.im (.int .u8 (((d.toNat : Nat) : Int))))), (8, .sl (b.map byB) (.mine 1)), (13, (.im (.int .i64 (((((k.1) : Nat)) : Int)))))], ofl [.box [(.im (.bool (true))), .sl ((L).map enV) .ro, .sl (un.map lsV) .ro, .sl [] .ro], .tip 5 1 b.length]⟩) ?_ ?_
  case refine_2 =>
    intro rest hr
    refine AWp.condAB rfl rfl (fun hE => ?_) (fun hE => ?_)
    · refine wG Y5_Zo True.intro ?_
      refine AWp.cutP 2 [(2, (.im (.int .u8 (((d.toNat : Nat) : Int))))), (8, .sl (b.map byB) (.mine 1)), (13, (.im (.int .i64 (((((0) : Nat)) : Int)))))] [.box [(.im (.bool (true))), .sl ((L).map enV) .ro, .sl (un.map lsV) .ro, .sl [] .ro], .tip 5 1 b.length] (And.intro enV_id (And.intro enL_id (And.intro byL_id (And.intro lsV_id (And.intro lsL_id (And.intro (@tyV_id) (And.intro flE_id (And.intro spV_id spL_id)))))))) ?_
      exact hr ⟨0, by omega⟩
    · have hge : ¬ kz < 0 := of_decide_eq_false hE
      obtain ⟨k, rfl⟩ := Int.eq_ofNat_of_zero_le (a := kz) (by omega)
      refine wG Y5_Zo True.intro ?_
      refine AWp.cutP 2 [(2, (.im (.int .u8 (((d.toNat : Nat) : Int))))), (8, .sl (b.map byB) (.mine 1)), (13, (.im (.int .i64 (((((k) : Nat)) : Int)))))] [.box [(.im (.bool (true))), .sl ((L).map enV) .ro, .sl (un.map lsV) .ro, .sl [] .ro], .tip 5 1 b.length] (And.intro enV_id (And.intro enL_id (And.intro byL_id (And.intro lsV_id (And.intro lsL_id (And.intro (@tyV_id) (And.intro flE_id (And.intro spV_id spL_id)))))))) ?_
      exact hr ⟨k, by omega⟩
  rintro ⟨k, hk⟩
  have hkz : ((k : Nat) : Int) < (b.length : Int) := by omega
  refine AWp.thawB 8 [(13, .int .i64 ((k : Nat) : Int)), (2, .int .u8 ((d.toNat : Nat) : Int))] b 1 5 ?_ rfl (by intro p hp; simp only [List.mem_cons, List.not_mem_nil, or_false] at hp; rcases hp with rfl | rfl <;> rfl) rfl (by intro h; rw [h] at hb8; simp at hb8) (by decide)
  simp only [List.map_cons, List.map_nil]
  have hg := List.getElem?_eq_getElem hk
  have hset := fun c => by_set b k c hk
  have hfl := hflip k
  generalize hc : b[k] = c at hg
  have hx := xor_u8 c d
  have hfit : k + 1 ≤ b.length := by omega
  have hgb : (b.map byB)[k]? = some (.im (.int .u8 c.toNat)) := by rw [List.getElem?_map, hg]; rfl
  have hsc := hset (c ^^^ d)
  have hsl : (b.set k (c ^^^ d)).length = b.length := List.length_set
  refine AWp.seq ?_
  refine AWp.region ?_
  refine goG Y5_Zo (And.intro hkz (And.intro (@Int.natCast_nonneg) (And.intro hgb (And.intro hx (And.intro hfit (And.intro hsc @Nat.mul_one)))))) ?_
  refine AR.end ?_
  refine Thn.n ?_
  refine AWp.frz 0 [(2, (.im (.int .u8 (((d.toNat : Nat) : Int))))), (8, .sl ((b.set k (c ^^^ d)).map byB) .ro)] [] ?_ (by simp) (by repeat (first | exact WkFA.nil | refine WkFA.cons (by first | exact .of (Wk.refl _) (by first | rfl | simp only [List.length_cons, List.length_nil, Nat.reduceAdd, V.ids, V.idsL, idsA, entOk, List.all_cons, List.all_nil, Bool.and_self, Bool.and_true, Bool.true_and, ltB, noId, Nat.reduceLT, decide_true, Bool.true_eq_false, tyV_id, fdV_id, tyL_id, fdL_id, enV_id, enL_id, byL_id, lsV_id, lsL_id, tyV_id, flE_id, spV_id, spL_id]) | exact WkF.bs (z := 1) rfl rfl (by simp) (byL_all _) (flat_by _).symm (byL_id _ _)) ?_)) (by repeat (first | exact WkFE.nil | refine WkFE.box (by repeat (first | exact WkFL.nil | refine WkFL.cons (by first | exact .of (Wk.refl _) (by first | rfl | simp only [List.length_cons, List.length_nil, Nat.reduceAdd, V.ids, V.idsL, idsA, entOk, List.all_cons, List.all_nil, Bool.and_self, Bool.and_true, Bool.true_and, ltB, noId, Nat.reduceLT, decide_true, Bool.true_eq_false, tyV_id, fdV_id, tyL_id, fdL_id, enV_id, enL_id, byL_id, lsV_id, lsL_id, tyV_id, flE_id, spV_id, spL_id]) | exact WkF.bs (z := 1) rfl rfl (by simp) (byL_all _) (flat_by _).symm (byL_id _ _)) ?_)) ?_ | refine WkFE.same (fun _ e => by cases e) ?_)) (fun i hi => by first | exact absurd rfl hi | exact Nat.lt_of_lt_of_le (ofl_lt hi) (by simp))
  by_cases hd : d = 0
  · subst hd
    have hcc : c ^^^ 0 = c := by simp
    have hbb : b.set k c = b := by rw [← hc]; exact List.set_getElem_self hk
    have hd0 : (((0 : UInt8).toNat : Nat) : Int) = 0 := rfl
    rw [hcc, hbb, hd0]
    refine wG Y5_Zo True.intro ?_
    refine AR.callSP [0, 1] r3 True.intro (And.intro enV_id (And.intro enL_id (And.intro byL_id (And.intro lsV_id (And.intro lsL_id (And.intro (@tyV_id) (And.intro flE_id (And.intro spV_id spL_id)))))))) (And.intro enV_ren (And.intro enL_ren (And.intro byL_ren (And.intro lsV_ren (And.intro lsL_ren (And.intro flE_ren (And.intro spV_ren spL_ren))))))) ?_
    refine goG Y5_Zo True.intro ?_
    refine wG Y5_Zo True.intro ?_
    exact Fin.oneP
  · have hne : c ^^^ d ≠ b[k] := fun h => hd (by
      have h2 : c ^^^ d = c := by rw [h, hc]
      have h3 : c ^^^ (c ^^^ d) = c ^^^ c := by rw [h2]
      rw [← UInt8.xor_assoc, UInt8.xor_self, UInt8.zero_xor] at h3
      exact h3)
    have hl0 := hfl (c ^^^ d) hk hne
    have r8 := c_LoadE (b.set k (c ^^^ d)) (by rw [hsl]; exact hbm) hl0
    have hd1 : ¬ d.toNat = 0 := fun h => hd (UInt8.toNat_inj.1 h)
    have hd0 : (((d.toNat : Nat) : Int) = 0) = False := eq_false (by omega)
    generalize (ldN (b.set k (c ^^^ d))).1 = er at hl0 r8
    generalize b.set k (c ^^^ d) = b2 at r8 ⊢
    refine wG Y5_Zo True.intro ?_
    refine AR.callP r8 True.intro (And.intro enV_id (And.intro enL_id (And.intro byL_id (And.intro lsV_id (And.intro lsL_id (And.intro (@tyV_id) (And.intro flE_id (And.intro spV_id spL_id)))))))) ?_
    refine goG Y5_Zo True.intro ?_
    refine wG Y5_Zo (And.intro hd0 hl0) ?_
    exact Fin.oneP
end Go.Proofs.YtianekkfehoedaaDoor

