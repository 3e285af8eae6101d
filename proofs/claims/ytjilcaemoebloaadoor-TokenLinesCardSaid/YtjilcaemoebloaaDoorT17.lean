/- Walks: numbers in base 16. -/
import Derived.Test.YtjilcaemoebloaaDoorHv
import Derived.Test.YtjilcaemoebloaaDoorT16
import Derived.Test.YtjilcaemoebloaaDoorTf
namespace Go.Proofs.YtjilcaemoebloaaDoor
set_option linter.unusedSimpArgs false
set_option linter.unusedVariables false
set_option linter.unnecessarySimpa false
open Go.RowKit
theorem Y95_T17 : type_of% (And.intro @F_in_28 (And.intro @F_in_95 (And.intro @F_un_28 (@F_un_95)))) := And.intro @F_in_28 (And.intro @F_in_95 (And.intro @F_un_28 (@F_un_95)))
theorem c_tz : PC Tryd.prog 95 [.im (.int .u64 (16))] (.im (.int .i64 (4))) := by
  refine PC.enter 8 Tryd.func95 rfl (by decide) rfl rfl (s := [(0, .im (.int .u64 (16)))]) (by rfl) ?_
  refine wG Y95_T17 True.intro ?_
  refine AWp.condF rfl ?_
  refine wG Y95_T17 True.intro ?_
  refine AR.callP c_tz64 True.intro byL_id ?_
  refine goG Y95_T17 True.intro ?_
  refine wG Y95_T17 True.intro ?_
  exact Fin.oneP

theorem c_pow2 : PC Tryd.prog 94 [(.im (.int .i64 (16)))] (.im (.bool (true))) := by
  refine PC.enter 8 Tryd.func94 rfl (by decide) rfl rfl (s := [(0, (.im (.int .i64 (16))))]) (by rfl) ?_
  refine wG True.intro True.intro ?_
  exact Fin.oneP
theorem hexG_fuel : ∀ (f g n : Nat), n < f → n < g → hexG f n = hexG g n
  | 0, _, _, h, _ => by omega
  | _, 0, _, _, h => by omega
  | f + 1, g + 1, n, hf, hg => by
    rw [hexG, hexG]
    split
    · rfl
    · rw [hexG_fuel f g (n / 16) (by omega) (by omega)]
theorem hexS_lt {n : Nat} (h : n < 16) : hexS n = [hexD n] := by
  unfold hexS
  rw [hexG, if_pos h]
theorem hexS_ge {n : Nat} (h : ¬ n < 16) : hexS n = hexS (n / 16) ++ [hexD (n % 16)] := by
  unfold hexS
  rw [hexG, if_neg h, hexG_fuel n (n / 16 + 1) (n / 16) (by omega) (by omega)]
theorem u64_15 (n : Nat) (hn : n < 18446744073709551616) : IntKind.u64.wrap ↑(BitVec.ofInt IntKind.u64.bits (n : Int) &&& BitVec.ofInt IntKind.u64.bits 15).toNat = ((n % 16 : Nat) : Int) := by
  have e : (BitVec.ofInt 64 (n : Int) &&& BitVec.ofInt 64 15).toNat = n % 16 := by
    rw [BitVec.toNat_and, BitVec.ofInt_natCast, BitVec.toNat_ofNat, Nat.mod_eq_of_lt (by omega : n < 2 ^ 64), show (BitVec.ofInt 64 15).toNat = 2 ^ 4 - 1 from rfl, Nat.and_two_pow_sub_one_eq_mod]
  show IntKind.u64.wrap ((BitVec.ofInt 64 (n : Int) &&& BitVec.ofInt 64 15).toNat : Int) = _
  rw [e]
  exact IntWalk.u64_in _ (by omega)
theorem u64_sh4 (n : Nat) : ((n : Nat) : Int).fdiv (2 ^ min 4 IntKind.u64.bits) = ((n / 16 : Nat) : Int) := by
  rw [show (2 : Int) ^ min 4 IntKind.u64.bits = 16 by decide, Int.fdiv_eq_ediv_of_nonneg _ (by decide)]
  omega
theorem hexZ_get : ∀ {n : Nat}, n < 16 → (48 :: 49 :: 50 :: 51 :: 52 :: 53 :: 54 :: 55 :: 56 :: 57 :: 97 :: 98 :: 99 :: 100 :: 101 :: 102 :: 103 :: 104 :: 105 :: 106 :: 107 :: 108 :: 109 :: 110 :: 111 :: 112 :: 113 :: 114 :: 115 :: 116 :: 117 :: 118 :: 119 :: 120 :: 121 :: 122 :: [] : Bs)[n]? = some (hexD n) := by
  intro n h
  have : ∀ n < 16, (48 :: 49 :: 50 :: 51 :: 52 :: 53 :: 54 :: 55 :: 56 :: 57 :: 97 :: 98 :: 99 :: 100 :: 101 :: 102 :: 103 :: 104 :: 105 :: 106 :: 107 :: 108 :: 109 :: 110 :: 111 :: 112 :: 113 :: 114 :: 115 :: 116 :: 117 :: 118 :: 119 :: 120 :: 121 :: 122 :: [] : Bs)[n]? = some (hexD n) := by decide
  exact this n h
theorem Y81_T17 : type_of% (And.intro @F_al_118 (And.intro @F_al_5 (And.intro @F_ar_118 (And.intro @F_by_5 (And.intro @F_el_71 (And.intro @F_in_3 (And.intro @F_in_71 (And.intro @F_in_74 (And.intro @F_in_9 (And.intro @F_in_95 (And.intro @F_sz_5 (And.intro @F_un_3 (And.intro @F_un_5 (And.intro @F_un_71 (And.intro @F_un_74 (And.intro @F_un_9 (@F_un_95))))))))))))))))) := And.intro @F_al_118 (And.intro @F_al_5 (And.intro @F_ar_118 (And.intro @F_by_5 (And.intro @F_el_71 (And.intro @F_in_3 (And.intro @F_in_71 (And.intro @F_in_74 (And.intro @F_in_9 (And.intro @F_in_95 (And.intro @F_sz_5 (And.intro @F_un_3 (And.intro @F_un_5 (And.intro @F_un_71 (And.intro @F_un_74 (And.intro @F_un_9 (@F_un_95))))))))))))))))
set_option maxHeartbeats 2000000 in
theorem c_fmtB0 (n : Nat) (hn : n < 4294967296) (b4 : Bool) (hb4 : b4 = false) : PC Tryd.prog 81 [.sl [] .nl, .im (.int .u64 ((n : Int))), (.im (.int .i64 (16))), (.im (.bool (false))), (.im (.bool (b4)))] (.tu [.sl [] .nl, .im (.string ⟨(hexS n).toArray⟩)]) := by
  have qp := c_pow2
  have qz := c_tz
  have k16 : IntKind.u64.wrap 16 = 16 := by kernel_rfl
  have k4 : IntKind.u64.wrap 4 = 4 := by kernel_rfl
  have k15 : IntKind.u64.wrap 15 = 15 := by kernel_rfl
  have k36 : ¬ (16 : Int) > 36 := by decide
  refine PC.enter 102 Tryd.func81 rfl (by decide) rfl rfl (s := [(0, .sl [] .nl), (1, .im (.int .u64 ((n : Int)))), (2, (.im (.int .i64 (16)))), (3, (.im (.bool (false)))), (4, (.im (.bool (b4))))]) (by rfl) ?_
  refine wG Y81_T17 k36 ?_
  refine AR.callP qp True.intro byL_id ?_
  refine goG Y81_T17 True.intro ?_
  refine wG Y81_T17 k16 ?_
  refine AR.callP qz True.intro byL_id ?_
  refine goG Y81_T17 True.intro ?_
  refine wG Y81_T17 (And.intro k16 (And.intro k4 k15)) ?_
  refine AWp.loop ?_
  suffices H : ∀ (k m : Nat) (Z A : Bs), m = k → m < 16 ^ Z.length → m < 18446744073709551616 → 1 ≤ Z.length → Z.length + A.length = 65 → hexS n = hexS m ++ A → ALp _ _ _ _ _ ⟨dn 102 [(1, .im (.int .u64 (((m : Nat) : Int)))), (3, (.im (.bool (false)))), (4, (.im (.bool (b4)))), (10, .sl [] .nl), (11, .im (.string ⟨([]).toArray⟩)), (12, .pt 0 0), (13, (.im (.int .i64 ((Z.length : Int))))), (14, .im (.int .u64 (4))), (15, .im (.int .u64 (16))), (16, .im (.int .u64 (15)))], ofl [.box ((Z ++ A).map byB)]⟩ by
    refine ALp.cutP 1 [(1, .im (.int .u64 ((n : Int)))), (3, (.im (.bool (false)))), (4, (.im (.bool (b4)))), (10, .sl [] .nl), (11, .im (.string ⟨([]).toArray⟩)), (12, .pt 0 0), (13, (.im (.int .i64 (((List.replicate 65 (0 : UInt8)).length : Int))))), (14, .im (.int .u64 (4))), (15, .im (.int .u64 (16))), (16, .im (.int .u64 (15)))] [.box (((List.replicate 65 (0 : UInt8)) ++ []).map byB)] byL_id ?_
    exact H n n (List.replicate 65 (0 : UInt8)) [] rfl (by rw [List.length_replicate]; exact Nat.lt_of_lt_of_le hn (by decide)) (by omega) (by decide) rfl (by simp)
  intro k
  induction k using Nat.strongRecOn with
  | _ k ih =>
  intro m Z A hk hm hm64 hZ hZA hx
  obtain ⟨Z', z, rfl⟩ : ∃ Z' z, Z = Z' ++ [z] := ⟨Z.dropLast, Z.getLast (fun e => by rw [e] at hZ; cases hZ), (List.dropLast_concat_getLast _).symm⟩
  rw [List.length_append, List.length_singleton] at hm hZ hZA ⊢
  have hw1 : IntKind.i64.wrap (((Z'.length + 1 : Nat) : Int) - 1) = (Z'.length : Int) := by rw [wrap_in (by omega)]; omega
  have hlt : (Z'.length : Int) < 65 := by omega
  have hle : Z'.length ≤ 64 := by omega
  have hle3 : Z'.length + 1 ≤ Z'.length + 1 + A.length := by omega
  have hseg : ∀ c : UInt8, List.take Z'.length (List.map byB (Z' ++ [z] ++ A)) ++ [V.im (.int .u8 c.toNat)] ++ List.drop (Z'.length + 1) (List.map byB (Z' ++ [z] ++ A)) = List.map byB (Z' ++ c :: A) := fun c => by
    rw [← List.map_take, ← List.map_drop]
    simp [byB]
  have hlen : (List.map byB (Z' ++ [z] ++ A)).length = 65 := by simp; omega
  refine ALp.round ?_
  by_cases h16 : m < 16
  · have e1 : ¬ (m : Int) ≥ 16 := by omega
    have hg := hexZ_get h16
    rw [hexS_lt h16] at hx
    clear ih
    refine wG Y81_T17 (And.intro BY (And.intro GDS (And.intro e1 (And.intro hw1 (And.intro hg (And.intro hlen (And.intro hlt (And.intro hle (And.intro hle3 (And.intro (@Nat.mul_one) hseg)))))))))) ?_
    refine AWp.frz 0 [(10, .sl [] .nl), (12, .ep (.ag ((Z' ++ hexD m :: A).map byB)) 0), (13, (.im (.int .i64 ((Z'.length : Int))))), (94, (.im (.bool (b4))))] [] ?_ (by simp) (by repeat (first | exact WkFA.nil | refine WkFA.cons (by first | exact .of (Wk.refl _) (by first | rfl | simp only [List.length_cons, List.length_nil, Nat.reduceAdd, V.ids, V.idsL, idsA, entOk, List.all_cons, List.all_nil, Bool.and_self, Bool.and_true, Bool.true_and, ltB, noId, Nat.reduceLT, decide_true, Bool.true_eq_false, tyV_id, fdV_id, tyL_id, fdL_id, byL_id]) | exact WkF.ep0 rfl rfl (byL_id _ _)) ?_)) (by repeat (first | exact WkFE.nil | refine WkFE.box (by repeat (first | exact WkFL.nil | refine WkFL.cons (by first | exact .of (Wk.refl _) (by first | rfl | simp only [List.length_cons, List.length_nil, Nat.reduceAdd, V.ids, V.idsL, idsA, entOk, List.all_cons, List.all_nil, Bool.and_self, Bool.and_true, Bool.true_and, ltB, noId, Nat.reduceLT, decide_true, Bool.true_eq_false, tyV_id, fdV_id, tyL_id, fdL_id, byL_id]) | exact WkF.ep0 rfl rfl (byL_id _ _)) ?_)) ?_ | refine WkFE.same (fun _ e => by cases e) ?_)) (fun i hi => by first | exact absurd rfl hi | exact Nat.lt_of_lt_of_le (ofl_lt hi) (by simp))
    subst hb4
    refine AWp.condAF rfl rfl ?_
    refine wG Y81_T17 True.intro ?_
    refine AR.sliceE (e := 5) (n := 65) (m := Z'.length) (b := Z' ++ hexD m :: A) ?_ (by omega) (by simp; omega) (by decide)
    rw [List.drop_left, hx, List.singleton_append]
    generalize hexD m :: A = B
    have hb := bytesOf_map B
    refine goG Y81_T17 hb ?_
    refine wG Y81_T17 hb ?_
    refine Fin.gen0 (rs := [.tmp 10, .tmp 11]) rfl (by first | exact .inl rfl | exact .inr rfl) (by simp only [resX, resA, ↓accU_f, ↓reduceIte, SA, SB, SC, SD, Y81_T17, valG, fpsG, evO, evB, evA, evA1, nilK, eqF, eqC, apOk, intOf, slB, slK,  gd, St.ev, putA, ofl, wrl, putE, V.ofVal, V.ofCell, bin2, un1, seg, fillV, partsOk, Value.oneCell', Nat.reduceBEq, Nat.reduceLT, Nat.reduceSub, Nat.reduceAdd, Nat.reduceMul, Nat.reduceLeDiff, Nat.reduceEqDiff, reduceCtorEq, Int.reduceLT, Int.reduceLE, Int.reduceEq, Int.reduceNe, Int.reduceBEq, Int.reduceBNe, Int.reduceAdd, Int.reduceSub, Int.reduceMul, Int.reduceToNat]; with_reducible exact rfl) ?_
    repeat (first | exact WkF.of (Wk.refl _) (by first | rfl | simp only [List.length_cons, List.length_nil, Nat.reduceAdd, V.ids, V.idsL, idsA, entOk, List.all_cons, List.all_nil, Bool.and_self, Bool.and_true, Bool.true_and, ltB, noId, Nat.reduceLT, decide_true, Bool.true_eq_false, tyV_id, fdV_id, tyL_id, fdL_id, byL_id]) | exact WkF.of (Wk.ro _ _) (by first | rfl | simp only [List.length_cons, List.length_nil, Nat.reduceAdd, V.ids, V.idsL, idsA, entOk, List.all_cons, List.all_nil, Bool.and_self, Bool.and_true, Bool.true_and, ltB, noId, Nat.reduceLT, decide_true, Bool.true_eq_false, tyV_id, fdV_id, tyL_id, fdL_id, byL_id]) | refine WkF.tu ?_ | refine WkF.ag ?_ | refine WkFL.cons ?_ ?_ | exact WkFL.nil)
  · have e1 : (m : Int) ≥ 16 := by omega
    have hg := hexZ_get (show m % 16 < 16 by omega)
    have h15 := u64_15 m hm64
    have hs4 := u64_sh4 m
    rw [hexS_ge h16, List.append_assoc] at hx
    have hI := ih (m / 16) (by omega) (m / 16) Z' (hexD (m % 16) :: A) rfl (by rw [Nat.pow_succ] at hm; omega) (by omega) (by
      rcases Nat.eq_zero_or_pos Z'.length with h0 | h0
      · rw [h0] at hm; omega
      · exact h0) (by rw [List.length_cons]; omega) hx
    clear ih
    refine wdG Y81_T17 (And.intro BY (And.intro GDS (And.intro e1 (And.intro hw1 (And.intro hg (And.intro h15 (And.intro hs4 (And.intro hlen (And.intro hlt (And.intro hle (And.intro hle3 (And.intro (@Nat.mul_one) hseg)))))))))))) ?_
    refine ALp.cutP 1 [(1, .im (.int .u64 (((m / 16 : Nat) : Int)))), (3, (.im (.bool (false)))), (4, (.im (.bool (b4)))), (10, .sl [] .nl), (11, .im (.string ⟨([]).toArray⟩)), (12, .pt 0 0), (13, (.im (.int .i64 ((Z'.length : Int))))), (14, .im (.int .u64 (4))), (15, .im (.int .u64 (16))), (16, .im (.int .u64 (15)))] [.box ((Z' ++ hexD (m % 16) :: A).map byB)] byL_id ?_
    exact hI
theorem c_fmtB (n : Nat) (hn : n < 4294967296) : PC Tryd.prog 81 [.sl [] .nl, .im (.int .u64 ((n : Int))), (.im (.int .i64 (16))), (.im (.bool (false))), (.im (.bool (false)))] (.tu [.sl [] .nl, .im (.string ⟨(hexS n).toArray⟩)]) := c_fmtB0 n hn false rfl
theorem Y61_T17 : type_of% (And.intro @F_al_105 (And.intro @F_el_71 (And.intro @F_in_3 (And.intro @F_in_71 (And.intro @F_in_74 (And.intro @F_in_9 (And.intro @F_un_3 (And.intro @F_un_5 (And.intro @F_un_71 (And.intro @F_un_74 (@F_un_9))))))))))) := And.intro @F_al_105 (And.intro @F_el_71 (And.intro @F_in_3 (And.intro @F_in_71 (And.intro @F_in_74 (And.intro @F_in_9 (And.intro @F_un_3 (And.intro @F_un_5 (And.intro @F_un_71 (And.intro @F_un_74 (@F_un_9))))))))))
theorem c_fmtU (n : Nat) (hn : n < 4294967296) : PC Tryd.prog 61 [.im (.int .u64 ((n : Int))), (.im (.int .i64 (16)))] (.im (.string ⟨(hexS n).toArray⟩)) := by
  have q := c_fmtB n hn
  refine PC.enter 32 Tryd.func61 rfl (by decide) rfl rfl (s := [(0, .im (.int .u64 ((n : Int)))), (1, (.im (.int .i64 (16))))]) (by rfl) ?_
  refine wG Y61_T17 True.intro ?_
  refine AR.callP q True.intro byL_id ?_
  refine goG Y61_T17 True.intro ?_
  refine wG Y61_T17 True.intro ?_
  exact Fin.oneP

theorem c_fmt (n : Nat) (hn : n < 4294967296) : PC Tryd.prog 42 [.im (.int .u64 ((n : Int))), (.im (.int .i64 (16)))] (.im (.string ⟨(hexS n).toArray⟩)) := by
  have q := c_fmtU n hn
  refine PC.enter 8 Tryd.func42 rfl (by decide) rfl rfl (s := [(0, .im (.int .u64 ((n : Int)))), (1, (.im (.int .i64 (16))))]) (by rfl) ?_
  refine wG True.intro True.intro ?_
  refine AR.callP q True.intro byL_id ?_
  refine goG True.intro True.intro ?_
  refine wG True.intro True.intro ?_
  exact Fin.oneP
end Go.Proofs.YtjilcaemoebloaaDoor

