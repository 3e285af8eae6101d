import Derived.Test.YtmbmmckagcdapaaGreatDoorK10
import Derived.Test.YtmbmmckagcdapaaGreatDoorK33
import Derived.Test.YtmbmmckagcdapaaGreatDoorK18
import Derived.Test.YtmbmmckagcdapaaGreatDoorK09
import Derived.Test.YtmbmmckagcdapaaGreatDoorK14
import Derived.Test.YtmbmmckagcdapaaGreatDoorK26
import Derived.Test.YtmbmmckagcdapaaGreatDoorK16
import Derived.Test.YtmbmmckagcdapaaGreatDoorK32
import Derived.Lib.SmallJoins
import Derived.Test.YtmbmmckagcdapaaGreatDoorK07
import Derived.Test.YtmbmmckagcdapaaGreatDoorK30
import Derived.KernelRfl
import Derived.Test.YtmbmmckagcdapaaGreatDoorK05
set_option linter.unusedSimpArgs false
set_option linter.unusedVariables false
set_option linter.unnecessarySimpa false
namespace Go.Proofs.YtmbmmckagcdapaaGreatDoor
open Go.RowKit
theorem Y255_T17 : type_of% (AI @F_in_146 (AI @F_in_43 (AI @F_un_146 (@F_un_43)))) := AI @F_in_146 (AI @F_in_43 (AI @F_un_146 (@F_un_43)))
theorem c_tz : PC Tryz.prog 255 [.im (.int .u64 (16))] (.im (.int .i64 (4))) := by
  refine PC.enter 8 Tryz.func255 rfl (by decide) rfl rfl (s := [(0, .im (.int .u64 (16)))]) (by rfl) ?_
  refine wG Y255_T17 True.intro ?_
  refine AWp.condF rfl ?_
  refine wG Y255_T17 True.intro ?_
  refine AR.callP c_tz64 True.intro byL_id ?_
  refine goG Y255_T17 True.intro ?_
  refine wG Y255_T17 True.intro ?_
  exact Fin.oneP
theorem c_pow2 : PC Tryz.prog 254 [(.im (.int .i64 (16)))] (.im (.bool (true))) := by
  refine PC.enter 8 Tryz.func254 rfl (by decide) rfl rfl (s := [(0, (.im (.int .i64 (16))))]) (by rfl) ?_
  refine wG True.intro True.intro ?_
  exact Fin.oneP
theorem hexG_fuel : ∀ (f g n : Nat), n < f → n < g → hexG f n = hexG g n
  | 0, _, _, h, _ => by omega
  | _, 0, _, _, h => by omega
  | f + 1, g + 1, n, hf, hg => by
    rw [hexG, hexG]; split
    · rfl
    · rw [hexG_fuel f g (n / 16) (by omega) (by omega)]
theorem hexS_lt {n : Nat} (h : n < 16) : hexS n = [hexD n] := by
  unfold hexS
  rw [hexG, if_pos h]
theorem hexS_ge {n : Nat} (h : ¬ n < 16) : hexS n = hexS (n / 16) ++ [hexD (n % 16)] := by
  unfold hexS
  rw [hexG, if_neg h, hexG_fuel n (n / 16 + 1) (n / 16) (by omega) (by omega)]
theorem u64_15 (n : Nat) (hn : n < 18446744073709551616) : IntKind.u64.wrap ↑(BitVec.ofInt IntKind.u64.bits (n : Int) &&& BitVec.ofInt IntKind.u64.bits 15).toNat = ((n % 16 : Nat) : Int) := by
  have e : (BitVec.ofInt 64 (n : Int) &&& BitVec.ofInt 64 15).toNat = n % 16 := by
    rw [BitVec.toNat_and, BitVec.ofInt_natCast, BitVec.toNat_ofNat, Nat.mod_eq_of_lt (by omega : n < 2 ^ 64), show (BitVec.ofInt 64 15).toNat = 2 ^ 4 - 1 from rfl, Nat.and_two_pow_sub_one_eq_mod]
  show IntKind.u64.wrap ((BitVec.ofInt 64 (n : Int) &&& BitVec.ofInt 64 15).toNat : Int) = _
  rw [e]
  exact IntWalk.u64_in _ (by omega)
theorem u64_sh4 (n : Nat) : ((n : Nat) : Int).fdiv (2 ^ min 4 IntKind.u64.bits) = ((n / 16 : Nat) : Int) := by
  rw [show (2 : Int) ^ min 4 IntKind.u64.bits = 16 by decide, Int.fdiv_eq_ediv_of_nonneg _ (by decide)]
  omega
theorem hexZ_get : ∀ {n : Nat}, n < 16 → (48 :: 49 :: 50 :: 51 :: 52 :: 53 :: 54 :: 55 :: 56 :: 57 :: 97 :: 98 :: 99 :: 100 :: 101 :: 102 :: 103 :: 104 :: 105 :: 106 :: 107 :: 108 :: 109 :: 110 :: 111 :: 112 :: 113 :: 114 :: 115 :: 116 :: 117 :: 118 :: 119 :: 120 :: 121 :: 122 :: [] : Bs)[n]? = some (hexD n) := by
  intro n h
  have : ∀ n < 16, (48 :: 49 :: 50 :: 51 :: 52 :: 53 :: 54 :: 55 :: 56 :: 57 :: 97 :: 98 :: 99 :: 100 :: 101 :: 102 :: 103 :: 104 :: 105 :: 106 :: 107 :: 108 :: 109 :: 110 :: 111 :: 112 :: 113 :: 114 :: 115 :: 116 :: 117 :: 118 :: 119 :: 120 :: 121 :: 122 :: [] : Bs)[n]? = some (hexD n) := by decide
  exact this n h
theorem Y209_T17 : type_of% (AI @F_al_281 (AI @F_al_5 (AI @F_ar_281 (AI @F_by_5 (AI @F_el_69 (AI @F_in_145 (AI @F_in_146 (AI @F_in_3 (AI @F_in_69 (AI @F_in_9 (AI @F_sz_5 (AI @F_un_145 (AI @F_un_146 (AI @F_un_3 (AI @F_un_5 (AI @F_un_69 (@F_un_9))))))))))))))))) := AI @F_al_281 (AI @F_al_5 (AI @F_ar_281 (AI @F_by_5 (AI @F_el_69 (AI @F_in_145 (AI @F_in_146 (AI @F_in_3 (AI @F_in_69 (AI @F_in_9 (AI @F_sz_5 (AI @F_un_145 (AI @F_un_146 (AI @F_un_3 (AI @F_un_5 (AI @F_un_69 (@F_un_9))))))))))))))))
set_option maxHeartbeats 2000000 in
theorem c_fmtB0 (n : Nat) (hn : n < 4294967296) (b4 : Bool) (hb4 : b4 = false) : PC Tryz.prog 209 [.sl [] .nl, .im (.int .u64 ((n : Int))), (.im (.int .i64 (16))), (.im (.bool (false))), (.im (.bool (b4)))] (.tu [.sl [] .nl, .im (.string ⟨(hexS n).toArray⟩)]) := by
  have qp := c_pow2
  have qz := c_tz
  have k16 : IntKind.u64.wrap 16 = 16 := by kernel_rfl
  have k4 : IntKind.u64.wrap 4 = 4 := by kernel_rfl
  have k15 : IntKind.u64.wrap 15 = 15 := by kernel_rfl
  have k36 : ¬ (16 : Int) > 36 := by decide
  refine PC.enter 102 Tryz.func209 rfl (by decide) rfl rfl (s := [(0, .sl [] .nl), (1, .im (.int .u64 ((n : Int)))), (2, (.im (.int .i64 (16)))), (3, (.im (.bool (false)))), (4, (.im (.bool (b4))))]) (by rfl) ?_
  refine wG Y209_T17 k36 ?_
  refine AR.callP qp True.intro byL_id ?_
  refine goG Y209_T17 True.intro ?_
  refine wG Y209_T17 k16 ?_
  refine AR.callP qz True.intro byL_id ?_
  refine goG Y209_T17 True.intro ?_
  refine wG Y209_T17 (AI k16 (AI k4 k15)) ?_
  refine AWp.loop ?_
  suffices H : ∀ (k m : Nat) (Z A : Bs), m = k → m < 16 ^ Z.length → m < 18446744073709551616 → 1 ≤ Z.length → Z.length + A.length = 65 → hexS n = hexS m ++ A → ALp _ _ _ _ _ ⟨dn 102 [(1, .im (.int .u64 (((m : Nat) : Int)))), (3, (.im (.bool (false)))), (4, (.im (.bool (b4)))), (10, .sl [] .nl), (11, .im (.string ⟨([]).toArray⟩)), (12, .pt 0 0), (13, (.im (.int .i64 ((Z.length : Int))))), (14, .im (.int .u64 (4))), (15, .im (.int .u64 (16))), (16, .im (.int .u64 (15)))], ofl [.box ((Z ++ A).map byB)]⟩ by
    refine ALp.cutP 1 [(1, .im (.int .u64 ((n : Int)))), (3, (.im (.bool (false)))), (4, (.im (.bool (b4)))), (10, .sl [] .nl), (11, .im (.string ⟨([]).toArray⟩)), (12, .pt 0 0), (13, (.im (.int .i64 (((List.replicate 65 (0 : UInt8)).length : Int))))), (14, .im (.int .u64 (4))), (15, .im (.int .u64 (16))), (16, .im (.int .u64 (15)))] [.box (((List.replicate 65 (0 : UInt8)) ++ []).map byB)] byL_id ?_; exact H n n (List.replicate 65 (0 : UInt8)) [] rfl (by rw [List.length_replicate]; exact Nat.lt_of_lt_of_le hn (by decide)) (by omega) (by decide) rfl (by simp)
  intro k
  induction k using Nat.strongRecOn with
  | _ k ih =>
  intro m Z A hk hm hm64 hZ hZA hx
  obtain ⟨Z', z, rfl⟩ : ∃ Z' z, Z = Z' ++ [z] := ⟨Z.dropLast, Z.getLast (fun e => by rw [e] at hZ; cases hZ), (List.dropLast_concat_getLast _).symm⟩
  rw [List.length_append, List.length_singleton] at hm hZ hZA ⊢
  have hw1 : IntKind.i64.wrap (((Z'.length + 1 : Nat) : Int) - 1) = (Z'.length : Int) := by rw [wrap_in (by omega)]; omega
  have hlt : (Z'.length : Int) < 65 := by omega
  have hle : Z'.length ≤ 64 := by omega
  have hle3 : Z'.length + 1 ≤ Z'.length + 1 + A.length := by omega
  have hseg : ∀ c : UInt8, List.take Z'.length (List.map byB (Z' ++ [z] ++ A)) ++ [V.im (.int .u8 c.toNat)] ++ List.drop (Z'.length + 1) (List.map byB (Z' ++ [z] ++ A)) = List.map byB (Z' ++ c :: A) := fun c => by
    rw [← List.map_take, ← List.map_drop]; simp [byB]
  have hlen : (List.map byB (Z' ++ [z] ++ A)).length = 65 := by simp; omega
  refine ALp.round ?_
  by_cases h16 : m < 16
  · have e1 : ¬ (m : Int) ≥ 16 := by omega
    have hg := hexZ_get h16; rw [hexS_lt h16] at hx; clear ih; refine wG Y209_T17 (AI BY (AI GDS (AI e1 (AI hw1 (AI hg (AI hlen (AI hlt (AI hle (AI hle3 (AI (@Nat.mul_one) hseg)))))))))) ?_; refine AWp.frz 0 [(10, .sl [] .nl), (12, .ep (.ag ((Z' ++ hexD m :: A).map byB)) 0), (13, (.im (.int .i64 ((Z'.length : Int))))), (94, (.im (.bool (b4))))] [] ?_ (by simp) (by repeat (first | exact WkFA.nil | refine WkFA.cons (by first | exact .of (Wk.refl _) (by first | rfl | simp only [List.length_cons, List.length_nil, Nat.reduceAdd, V.ids, V.idsL, idsA, entOk, List.all_cons, List.all_nil, Bool.and_self, Bool.and_true, Bool.true_and, ltB, noId, Nat.reduceLT, decide_true, Bool.true_eq_false, tyV_id, fdV_id, tyL_id, fdL_id, byL_id]) | exact WkF.ep0 rfl rfl (byL_id _ _)) ?_)) (by repeat (first | exact WkFE.nil | refine WkFE.box (by repeat (first | exact WkFL.nil | refine WkFL.cons (by first | exact .of (Wk.refl _) (by first | rfl | simp only [List.length_cons, List.length_nil, Nat.reduceAdd, V.ids, V.idsL, idsA, entOk, List.all_cons, List.all_nil, Bool.and_self, Bool.and_true, Bool.true_and, ltB, noId, Nat.reduceLT, decide_true, Bool.true_eq_false, tyV_id, fdV_id, tyL_id, fdL_id, byL_id]) | exact WkF.ep0 rfl rfl (byL_id _ _)) ?_)) ?_ | refine WkFE.same (fun _ e => by cases e) ?_)) (fun i hi => by first | exact absurd rfl hi | exact Nat.lt_of_lt_of_le (ofl_lt hi) (by simp))
    subst hb4; refine AWp.condAF rfl rfl ?_; refine wG Y209_T17 True.intro ?_; refine AR.sliceE (e := 5) (n := 65) (m := Z'.length) (b := Z' ++ hexD m :: A) ?_ (by omega) (by simp; omega) (by decide)
    rw [List.drop_left, hx, List.singleton_append]; generalize hexD m :: A = B; have hb := bytesOf_map B; refine goG Y209_T17 hb ?_; refine wG Y209_T17 hb ?_; refine Fin.gen0 (rs := [.tmp 10, .tmp 11]) rfl (by first | exact .inl rfl | exact .inr rfl) (finG Y209_T17) ?_
    all_goals exact wkG byL_id
  · have e1 : (m : Int) ≥ 16 := by omega
    have hg := hexZ_get (show m % 16 < 16 by omega)
    have h15 := u64_15 m hm64; have hs4 := u64_sh4 m; rw [hexS_ge h16, List.append_assoc] at hx
    have hI := ih (m / 16) (by omega) (m / 16) Z' (hexD (m % 16) :: A) rfl (by rw [Nat.pow_succ] at hm; omega) (by omega) (by
      rcases Nat.eq_zero_or_pos Z'.length with h0 | h0
      · rw [h0] at hm; omega
      · exact h0) (by rw [List.length_cons]; omega) hx
    clear ih; refine wdG Y209_T17 (AI BY (AI GDS (AI e1 (AI hw1 (AI hg (AI h15 (AI hs4 (AI hlen (AI hlt (AI hle (AI hle3 (AI (@Nat.mul_one) hseg)))))))))))) ?_; refine ALp.cutP 1 [(1, .im (.int .u64 (((m / 16 : Nat) : Int)))), (3, (.im (.bool (false)))), (4, (.im (.bool (b4)))), (10, .sl [] .nl), (11, .im (.string ⟨([]).toArray⟩)), (12, .pt 0 0), (13, (.im (.int .i64 ((Z'.length : Int))))), (14, .im (.int .u64 (4))), (15, .im (.int .u64 (16))), (16, .im (.int .u64 (15)))] [.box ((Z' ++ hexD (m % 16) :: A).map byB)] byL_id ?_; exact hI
theorem c_fmtB (n : Nat) (hn : n < 4294967296) : PC Tryz.prog 209 [.sl [] .nl, .im (.int .u64 ((n : Int))), (.im (.int .i64 (16))), (.im (.bool (false))), (.im (.bool (false)))] (.tu [.sl [] .nl, .im (.string ⟨(hexS n).toArray⟩)]) := c_fmtB0 n hn false rfl
theorem Y152_T17 : type_of% (AI @F_al_254 (AI @F_el_69 (AI @F_in_145 (AI @F_in_3 (AI @F_in_69 (AI @F_in_9 (AI @F_un_145 (AI @F_un_3 (AI @F_un_5 (AI @F_un_69 (@F_un_9))))))))))) := AI @F_al_254 (AI @F_el_69 (AI @F_in_145 (AI @F_in_3 (AI @F_in_69 (AI @F_in_9 (AI @F_un_145 (AI @F_un_3 (AI @F_un_5 (AI @F_un_69 (@F_un_9))))))))))
theorem c_fmtU (n : Nat) (hn : n < 4294967296) : PC Tryz.prog 152 [.im (.int .u64 ((n : Int))), (.im (.int .i64 (16)))] (.im (.string ⟨(hexS n).toArray⟩)) := by
  have q := c_fmtB n hn
  refine PC.enter 32 Tryz.func152 rfl (by decide) rfl rfl (s := [(0, .im (.int .u64 ((n : Int)))), (1, (.im (.int .i64 (16))))]) (by rfl) ?_
  refine wG Y152_T17 True.intro ?_
  refine AR.callP q True.intro byL_id ?_
  refine goG Y152_T17 True.intro ?_
  refine wG Y152_T17 True.intro ?_
  exact Fin.oneP
theorem c_fmt (n : Nat) (hn : n < 4294967296) : PC Tryz.prog 85 [.im (.int .u64 ((n : Int))), (.im (.int .i64 (16)))] (.im (.string ⟨(hexS n).toArray⟩)) := by
  have q := c_fmtU n hn
  refine PC.enter 8 Tryz.func85 rfl (by decide) rfl rfl (s := [(0, .im (.int .u64 ((n : Int)))), (1, (.im (.int .i64 (16))))]) (by rfl) ?_
  refine wG True.intro True.intro ?_
  refine AR.callP q True.intro byL_id ?_
  refine goG True.intro True.intro ?_
  refine wG True.intro True.intro ?_
  exact Fin.oneP
theorem sL_id (p : Nat → Bool) (l : List Bs) : V.idsL p (l.map sV) = true := idsL_map (fun _ => rfl) l
theorem Y24_E3 : type_of% (AI @F_ag_3 (AI @F_ag_43 (AI @F_ag_44 (AI @F_ag_46 (AI @F_ag_9 (AI @F_el_44 (AI @F_fl_46_0 (AI @F_fl_46_1 (AI @F_fl_46_2 (AI @F_fl_46_3 (AI @F_fl_46_4 (AI @F_sz_3 (AI @F_sz_43 (AI @F_sz_44 (AI @F_sz_46 (@F_sz_9)))))))))))))))) := AI @F_ag_3 (AI @F_ag_43 (AI @F_ag_44 (AI @F_ag_46 (AI @F_ag_9 (AI @F_el_44 (AI @F_fl_46_0 (AI @F_fl_46_1 (AI @F_fl_46_2 (AI @F_fl_46_3 (AI @F_fl_46_4 (AI @F_sz_3 (AI @F_sz_43 (AI @F_sz_44 (AI @F_sz_46 (@F_sz_9)))))))))))))))
theorem c_SameExpr : ∀ (a : Ex), fitE a → ∀ b, fitE b → PC Tryz.prog 24 [exV a, exV b] (.im (.bool (samE a b))) := by
  refine Ex.induct fun o k s w l hL => ?_
  intro hfit b hfb
  obtain ⟨o', k', s', w', l'⟩ := b
  obtain ⟨hl1, hfL⟩ := fitE_mk hfit
  obtain ⟨hl2, hfL'⟩ := fitE_mk hfb
  rw [samE_mk]
  simp only [Ex.op, Ex.n, Ex.name, Ex.width, Ex.l]
  refine PC.enter 60 Tryz.func24 rfl (by decide) rfl rfl (s := [(0, exV (.mk o k s w l)), (1, exV (.mk o' k' s' w' l'))]) (by rfl) ?_
  simp only [exV_mk]
  refine wG Y24_E3 True.intro ?_
  refine AWp.condAB rfl rfl (fun hE => ?_) (fun hE => ?_)
  · have hr : (o == o' && k == k' && eqS s s' && w == w' && all2 samE l l') = false := by
      simp only [Bool.or_eq_true, bne_iff_ne, ne_eq, Bool.not_eq_true', decide_eq_false_iff_not, beq_eq_false_iff_ne] at hE; rcases hE with (((hE | hE) | hE) | hE) | hE
      · simp [hE]
      · simp [hE]
      · have : eqS s s' = false := by unfold eqS; simpa using hE
        simp [this]
      · simp [hE]
      · rw [all2_ne (by omega)]; simp
    rw [hr]; refine wG Y24_E3 True.intro ?_; exact Fin.oneP
  · simp only [Bool.or_eq_false_iff, bne_eq_false_iff_eq, beq_iff_eq, Bool.not_eq_false', decide_eq_true_eq] at hE
    obtain ⟨⟨⟨⟨rfl, rfl⟩, hs⟩, rfl⟩, h4⟩ := hE; obtain rfl : s = s' := (eqS_iff s s').1 (by unfold eqS; simpa using hs)
    have h4 : l.length = l'.length := by omega
    have hr : (o == o && k == k && eqS s s && w == w && all2 samE l l') = all2 samE l l' := by simp [eqS_refl]
    rw [hr]; clear hr hs; refine wG Y24_E3 True.intro ?_; refine AWp.loop ?_; refine ALp.cutP 2 [(2, .pt 0 0), (3, .pt 1 0), (5, (.im (.int .i64 ((((0 : Nat)) : Int)))))] [.box [.im (.int .i64 o), .im (.int .u32 k), .im (.string s), .im (.int .i64 w), .sl (l.map exV) .ro], .box [.im (.int .i64 o), .im (.int .u32 k), .im (.string s), .im (.int .i64 w), .sl (l'.map exV) .ro]] (AI (@exL_id) (AI (@vaL_id) (AI (@exV_id) @vaV_id))) ?_; refine ALp.upto l.length (to2 samE l l') (fun m => ⟨dn 60 [(2, .pt 0 0), (3, .pt 1 0), (5, (.im (.int .i64 ((((m : Nat)) : Int)))))], ofl [.box [.im (.int .i64 o), .im (.int .u32 k), .im (.string s), .im (.int .i64 w), .sl (l.map exV) .ro], .box [.im (.int .i64 o), .im (.int .u32 k), .im (.string s), .im (.int .i64 w), .sl (l'.map exV) .ro]]⟩) ?_ 0 (Nat.zero_le _) (to2.zero _ _ _)
    intro m hm hI hnext
    by_cases hlt : m < l.length
    · have hlt2 : m < l'.length := by omega
      have hlt' : (m : Int) < (l.length : Int) := by omega
      have hlt2' : (m : Int) < (l'.length : Int) := by omega
      have hg := get_some hlt; have hg2 := get_some hlt2; have hm1 := wrap_succ hlt (by omega)
      have hc := hL l[m] (List.getElem_mem hlt) (hfL _ (List.getElem_mem hlt)) l'[m] (hfL' _ (List.getElem_mem hlt2)); refine wdG Y24_E3 (AI hlt' (AI hlt2' (AI hg (AI hg2 EX)))) ?_; refine AR.callP hc @exV_eq (AI (@exL_id) (AI (@vaL_id) (AI (@exV_id) @vaV_id))) ?_; cases hs : samE l[m] l'[m] with
      | false =>
        rw [all2_at hlt hlt2 hs]; refine goG Y24_E3 hs ?_; refine wdG Y24_E3 True.intro ?_; exact Fin.oneP
      | true =>
        refine goG Y24_E3 hs ?_; refine wdG Y24_E3 hm1 ?_; refine ALp.cutP 2 [(2, .pt 0 0), (3, .pt 1 0), (5, (.im (.int .i64 ((((m + 1 : Nat)) : Int)))))] [.box [.im (.int .i64 o), .im (.int .u32 k), .im (.string s), .im (.int .i64 w), .sl (l.map exV) .ro], .box [.im (.int .i64 o), .im (.int .u32 k), .im (.string s), .im (.int .i64 w), .sl (l'.map exV) .ro]] (AI (@exL_id) (AI (@vaL_id) (AI (@exV_id) @vaV_id))) ?_; exact hnext (m + 1) (by omega) (by omega) (hI.succ hlt hlt2 hs)
    obtain rfl : m = l.length := by omega
    rw [hI.all h4]; clear hnext hI; refine wG Y24_E3 @Int.lt_irrefl ?_; exact Fin.oneP
theorem Y98_ZC1 : type_of% (AI @F_ag_3 (AI @F_ag_91 (AI @F_ag_92 (AI @F_ag_94 (AI @F_el_91 (AI @F_el_92 (AI @F_fl_218_0 (AI @F_fl_218_1 (AI @F_fl_94_0 (AI @F_fl_94_1 (AI @F_fl_94_2 (AI @F_fl_94_3 (AI @F_fl_94_4 (AI @F_sz_218 (AI @F_sz_3 (AI @F_sz_91 (AI @F_sz_92 (@F_sz_94)))))))))))))))))) := AI @F_ag_3 (AI @F_ag_91 (AI @F_ag_92 (AI @F_ag_94 (AI @F_el_91 (AI @F_el_92 (AI @F_fl_218_0 (AI @F_fl_218_1 (AI @F_fl_94_0 (AI @F_fl_94_1 (AI @F_fl_94_2 (AI @F_fl_94_3 (AI @F_fl_94_4 (AI @F_sz_218 (AI @F_sz_3 (AI @F_sz_91 (AI @F_sz_92 (@F_sz_94)))))))))))))))))
theorem I1_ZC1 : type_of% (AI (@tyV_id) (AI (@fdV_id) (AI (@tyL_id) (AI (@fdL_id) (AI (@exL_id) (AI (@vaL_id) (AI (@exV_id) @vaV_id))))))) := (AI (@tyV_id) (AI (@fdV_id) (AI (@tyL_id) (AI (@fdL_id) (AI (@exL_id) (AI (@vaL_id) (AI (@exV_id) @vaV_id)))))))
theorem c_sameTT : ∀ (a : Ty), fit a → PC Tryz.prog 98 [tyV a, tyV a] (.im (.bool (true))) := by
  refine Ty.induct fun o k s c es fs hT hF => ?_
  intro hfit
  obtain ⟨hl1, hl2, hfE, hfF⟩ := fit_mk hfit
  refine PC.enter 99 Tryz.func98 rfl (by decide) rfl rfl (s := [(0, tyV (.mk o k s c es fs)), (1, tyV (.mk o k s c es fs))]) (by rfl) ?_
  simp only [tyV_mk]
  refine wG Y98_ZC1 True.intro ?_
  refine AWp.loop ?_
  refine ALp.cutP 2 [(2, .pt 0 0), (3, .pt 1 0), (5, (.im (.int .i64 ((((0 : Nat)) : Int)))))] [.box [.im (.int .i64 k), .im (.int .i64 s), .im (.int .i64 c), .sl (es.map tyV) .ro, .sl (fs.map fdV) .ro], .box [.im (.int .i64 k), .im (.int .i64 s), .im (.int .i64 c), .sl (es.map tyV) .ro, .sl (fs.map fdV) .ro]] I1_ZC1 ?_
  refine ALp.upto es.length (fun _ => True) (fun m => ⟨dn 99 [(2, .pt 0 0), (3, .pt 1 0), (5, (.im (.int .i64 ((((m : Nat)) : Int)))))], ofl [.box [.im (.int .i64 k), .im (.int .i64 s), .im (.int .i64 c), .sl (es.map tyV) .ro, .sl (fs.map fdV) .ro], .box [.im (.int .i64 k), .im (.int .i64 s), .im (.int .i64 c), .sl (es.map tyV) .ro, .sl (fs.map fdV) .ro]]⟩) ?_ 0 (Nat.zero_le _) trivial
  intro m hm hI hnext
  by_cases hlt : m < es.length
  · have hlt' : (m : Int) < (es.length : Int) := by omega
    have hg := get_some hlt; have hm1 := wrap_succ hlt (by omega)
    have hc := hT es[m] (List.getElem_mem hlt) (hfE _ (List.getElem_mem hlt)); refine wdG Y98_ZC1 (AI hlt' (AI hg TY)) ?_; refine AR.callP hc @tyV_eq I1_ZC1 ?_; refine goG Y98_ZC1 True.intro ?_; refine wdG Y98_ZC1 hm1 ?_; refine ALp.cutP 2 [(2, .pt 0 0), (3, .pt 1 0), (5, (.im (.int .i64 ((((m + 1 : Nat)) : Int)))))] [.box [.im (.int .i64 k), .im (.int .i64 s), .im (.int .i64 c), .sl (es.map tyV) .ro, .sl (fs.map fdV) .ro], .box [.im (.int .i64 k), .im (.int .i64 s), .im (.int .i64 c), .sl (es.map tyV) .ro, .sl (fs.map fdV) .ro]] I1_ZC1 ?_; exact hnext (m + 1) (by omega) (by omega) trivial
  obtain rfl : m = es.length := by omega
  clear hnext hI
  refine whG Y98_ZC1 @Int.lt_irrefl ?_
  refine Blk'.here (Thn.n ?_)
  refine wG Y98_ZC1 True.intro ?_
  refine AWp.loop ?_
  refine ALp.cutP 2 [(2, .pt 0 0), (3, .pt 1 0), (6, (.im (.int .i64 ((((0 : Nat)) : Int)))))] [.box [.im (.int .i64 k), .im (.int .i64 s), .im (.int .i64 c), .sl (es.map tyV) .ro, .sl (fs.map fdV) .ro], .box [.im (.int .i64 k), .im (.int .i64 s), .im (.int .i64 c), .sl (es.map tyV) .ro, .sl (fs.map fdV) .ro]] I1_ZC1 ?_
  refine ALp.upto fs.length (fun _ => True) (fun m => ⟨dn 99 [(2, .pt 0 0), (3, .pt 1 0), (6, (.im (.int .i64 ((((m : Nat)) : Int)))))], ofl [.box [.im (.int .i64 k), .im (.int .i64 s), .im (.int .i64 c), .sl (es.map tyV) .ro, .sl (fs.map fdV) .ro], .box [.im (.int .i64 k), .im (.int .i64 s), .im (.int .i64 c), .sl (es.map tyV) .ro, .sl (fs.map fdV) .ro]]⟩) ?_ 0 (Nat.zero_le _) trivial
  intro m hm hI hnext
  by_cases hlt : m < fs.length
  · have hlt' : (m : Int) < (fs.length : Int) := by omega
    have hg := get_some hlt; have hm1 := wrap_succ hlt (by omega)
    have hc := hF fs[m] (List.getElem_mem hlt) (hfF _ (List.getElem_mem hlt)); refine wdG Y98_ZC1 (AI hlt' (AI hg TY)) ?_; refine AR.callP hc @tyV_eq I1_ZC1 ?_; refine goG Y98_ZC1 True.intro ?_; refine wdG Y98_ZC1 hm1 ?_; refine ALp.cutP 2 [(2, .pt 0 0), (3, .pt 1 0), (6, (.im (.int .i64 ((((m + 1 : Nat)) : Int)))))] [.box [.im (.int .i64 k), .im (.int .i64 s), .im (.int .i64 c), .sl (es.map tyV) .ro, .sl (fs.map fdV) .ro], .box [.im (.int .i64 k), .im (.int .i64 s), .im (.int .i64 c), .sl (es.map tyV) .ro, .sl (fs.map fdV) .ro]] I1_ZC1 ?_; exact hnext (m + 1) (by omega) (by omega) trivial
  obtain rfl : m = fs.length := by omega
  clear hnext hI
  refine wG Y98_ZC1 @Int.lt_irrefl ?_
  exact Fin.oneP
theorem Y46_ZC1 : type_of% (AI @F_ag_9 (AI @F_ag_94 (AI @F_el_23 (AI @F_fl_96_0 (AI @F_fl_96_1 (AI @F_sz_9 (AI @F_sz_94 (@F_sz_96)))))))) := AI @F_ag_9 (AI @F_ag_94 (AI @F_el_23 (AI @F_fl_96_0 (AI @F_fl_96_1 (AI @F_sz_9 (AI @F_sz_94 (@F_sz_96)))))))
theorem c_sameVV (l : List Va) (hl : fitVN l) (hn : l.length ≤ 4194304) : PC Tryz.prog 46 [.sl (l.map vaV) .ro, .sl (l.map vaV) .ro] (.im (.bool (true))) := by
  refine PC.enter 42 Tryz.func46 rfl (by decide) rfl rfl (s := [(0, .sl (l.map vaV) .ro), (1, .sl (l.map vaV) .ro)]) (by rfl) ?_
  refine wG Y46_ZC1 @List.length_map.{0, 0} ?_
  refine AWp.loop ?_
  refine ALp.cutP 0 [(0, .sl (l.map vaV) .ro), (1, .sl (l.map vaV) .ro), (5, (.im (.int .i64 ((((0 : Nat)) : Int)))))] [] I1_ZC1 ?_
  refine ALp.upto l.length (fun _ => True) (fun m => ⟨dn 42 [(0, .sl (l.map vaV) .ro), (1, .sl (l.map vaV) .ro), (5, (.im (.int .i64 ((((m : Nat)) : Int)))))], ofl []⟩) ?_ 0 (Nat.zero_le _) trivial
  intro m hm hI hnext
  by_cases hlt : m < l.length
  · have hlt' : (m : Int) < (l.length : Int) := by omega
    have hg := get_some hlt; have hm1 := wrap_succ hlt (by omega)
    obtain ⟨hty, hnm⟩ := hl _ (List.getElem_mem hlt); have hc := c_sameTT l[m].ty hty; refine wdG Y46_ZC1 (AI hlt' (AI hg VA)) ?_; refine AR.callP hc @tyV_eq I1_ZC1 ?_; refine goG Y46_ZC1 True.intro ?_; refine wdG Y46_ZC1 hm1 ?_; refine ALp.cutP 0 [(0, .sl (l.map vaV) .ro), (1, .sl (l.map vaV) .ro), (5, (.im (.int .i64 ((((m + 1 : Nat)) : Int)))))] [] I1_ZC1 ?_; exact hnext (m + 1) (by omega) (by omega) trivial
  obtain rfl : m = l.length := by omega
  clear hnext hI
  refine wG Y46_ZC1 @Int.lt_irrefl ?_
  exact Fin.oneP
def bZ (b : UInt8) : V := .im (.int .u8 b.toNat)
theorem bZ_eq (b : UInt8) : bZ b = .im (.int .u8 b.toNat) := rfl
theorem bZ_live (b : UInt8) : (bZ b).live = true := rfl
theorem bZ_size (b : UInt8) : (bZ b).size = 1 := rfl
theorem bZ_isAg (b : UInt8) : (bZ b).isAg = false := rfl
theorem bZ_cells (b : UInt8) : (bZ b).cells = [.im (.int .u8 b.toNat)] := rfl
theorem bZ_firm (b : UInt8) : (bZ b).firm = true := rfl
theorem bZ_strip (g : Bool) (b : UInt8) : strip g (bZ b) = bZ b := rfl
theorem bZL_id (p : Nat → Bool) (l : Bs) : V.idsL p (l.map bZ) = true := idsL_map (fun _ => rfl) l
theorem Y99_ZC1 : type_of% (AI @F_ag_5 (AI @F_el_69 (@F_sz_5))) := AI @F_ag_5 (AI @F_el_69 (@F_sz_5))
theorem c_sameBB (l : Bs) (hn : l.length ≤ 4194304) : PC Tryz.prog 99 [.sl (l.map bZ) .ro, .sl (l.map bZ) .ro] (.im (.bool (true))) := by
  refine PC.enter 26 Tryz.func99 rfl (by decide) rfl rfl (s := [(0, .sl (l.map bZ) .ro), (1, .sl (l.map bZ) .ro)]) (by rfl) ?_
  refine wG Y99_ZC1 @List.length_map.{0, 0} ?_
  refine AWp.loop ?_
  refine ALp.cutP 0 [(0, .sl (l.map bZ) .ro), (1, .sl (l.map bZ) .ro), (5, (.im (.int .i64 ((((0 : Nat)) : Int)))))] [] bZL_id ?_
  refine ALp.upto l.length (fun _ => True) (fun m => ⟨dn 26 [(0, .sl (l.map bZ) .ro), (1, .sl (l.map bZ) .ro), (5, (.im (.int .i64 ((((m : Nat)) : Int)))))], ofl []⟩) ?_ 0 (Nat.zero_le _) trivial
  intro m hm hI hnext
  by_cases hlt : m < l.length
  · have hlt' : (m : Int) < (l.length : Int) := by omega
    have hg := get_some hlt; have hm1 := wrap_succ hlt (by omega)
    refine wdG Y99_ZC1 (AI hlt' (AI hg (AI hm1 (AI bZ_eq (AI bZ_firm (AI bZ_strip (AI bZ_live (AI bZ_size (AI bZ_isAg (AI bZ_cells (AI (@List.getElem?_map.{0, 0}) @Int.natCast_nonneg))))))))))) ?_; refine ALp.cutP 0 [(0, .sl (l.map bZ) .ro), (1, .sl (l.map bZ) .ro), (5, (.im (.int .i64 ((((m + 1 : Nat)) : Int)))))] [] bZL_id ?_; exact hnext (m + 1) (by omega) (by omega) trivial
  obtain rfl : m = l.length := by omega
  clear hnext hI
  refine wG Y99_ZC1 @Int.lt_irrefl ?_
  exact Fin.oneP
theorem byZ_id (p : Nat → Bool) (l : Bs) : V.idsL p (l.map fun b : UInt8 => V.im (.int .u8 b.toNat)) = true := bZL_id p l
theorem Y47_ZC1 : type_of% (AI @F_ag_4 (AI @F_ag_43 (AI @F_ag_69 (AI @F_ag_9 (AI @F_el_24 (AI @F_fl_76_0 (AI @F_fl_76_1 (AI @F_fl_76_2 (AI @F_fl_76_3 (AI @F_fl_76_4 (AI @F_sz_4 (AI @F_sz_43 (AI @F_sz_69 (AI @F_sz_76 (AI @F_sz_9 (@F_un_4)))))))))))))))) := AI @F_ag_4 (AI @F_ag_43 (AI @F_ag_69 (AI @F_ag_9 (AI @F_el_24 (AI @F_fl_76_0 (AI @F_fl_76_1 (AI @F_fl_76_2 (AI @F_fl_76_3 (AI @F_fl_76_4 (AI @F_sz_4 (AI @F_sz_43 (AI @F_sz_69 (AI @F_sz_76 (AI @F_sz_9 (@F_un_4)))))))))))))))
theorem I3_ZC1 : type_of% (AI scV_id (AI scL_id byZ_id)) := (AI scV_id (AI scL_id byZ_id))
theorem c_sameSS (l : List Sec) (hl : ∀ s ∈ l, s.data.length ≤ 4194304) (hn : l.length ≤ 4194304) : PC Tryz.prog 47 [.sl (l.map scV) .ro, .sl (l.map scV) .ro] (.im (.bool (true))) := by
  refine PC.enter 81 Tryz.func47 rfl (by decide) rfl rfl (s := [(0, .sl (l.map scV) .ro), (1, .sl (l.map scV) .ro)]) (by rfl) ?_
  refine wG Y47_ZC1 @List.length_map.{0, 0} ?_
  refine AWp.loop ?_
  refine ALp.cutP 0 [(0, .sl (l.map scV) .ro), (1, .sl (l.map scV) .ro), (5, (.im (.int .i64 ((((0 : Nat)) : Int)))))] [] I3_ZC1 ?_
  refine ALp.upto l.length (fun _ => True) (fun m => ⟨dn 81 [(0, .sl (l.map scV) .ro), (1, .sl (l.map scV) .ro), (5, (.im (.int .i64 ((((m : Nat)) : Int)))))], ofl []⟩) ?_ 0 (Nat.zero_le _) trivial
  intro m hm hI hnext
  by_cases hlt : m < l.length
  · have hlt' : (m : Int) < (l.length : Int) := by omega
    have hg := get_some hlt; have hm1 := wrap_succ hlt (by omega)
    have hc : PC Tryz.prog 99 [.sl (l[m].data.map fun b : UInt8 => V.im (.int .u8 b.toNat)) .ro, .sl (l[m].data.map fun b : UInt8 => V.im (.int .u8 b.toNat)) .ro] (.im (.bool (true))) := c_sameBB l[m].data (hl _ (List.getElem_mem hlt))
    refine wdG Y47_ZC1 (AI hlt' (AI hg (AI scV_firm (AI scV_strip (AI scV_live (AI scV_size (AI scV_isAg (AI scV_cells (AI (@List.getElem?_map.{0, 0}) @Int.natCast_nonneg))))))))) ?_; refine AR.callP hc scV_eq I3_ZC1 ?_; refine goG Y47_ZC1 True.intro ?_; refine wdG Y47_ZC1 hm1 ?_; refine ALp.cutP 0 [(0, .sl (l.map scV) .ro), (1, .sl (l.map scV) .ro), (5, (.im (.int .i64 ((((m + 1 : Nat)) : Int)))))] [] I3_ZC1 ?_; exact hnext (m + 1) (by omega) (by omega) trivial
  obtain rfl : m = l.length := by omega
  clear hnext hI
  refine wG Y47_ZC1 @Int.lt_irrefl ?_
  exact Fin.oneP
theorem Y53_ZC2 : type_of% (AI @F_ag_163 (AI @F_ag_165 (AI @F_ag_3 (AI @F_ag_35 (AI @F_ag_44 (AI @F_ag_46 (AI @F_ag_9 (AI @F_al_165 (AI @F_el_163 (AI @F_el_35 (AI @F_el_44 (AI @F_fl_165_0 (AI @F_fl_165_1 (AI @F_fl_165_2 (AI @F_fl_165_3 (AI @F_fl_165_4 (AI @F_fl_165_5 (AI @F_fl_165_6 (AI @F_sz_163 (AI @F_sz_165 (AI @F_sz_3 (AI @F_sz_35 (AI @F_sz_44 (AI @F_sz_46 (@F_sz_9))))))))))))))))))))))))) := AI @F_ag_163 (AI @F_ag_165 (AI @F_ag_3 (AI @F_ag_35 (AI @F_ag_44 (AI @F_ag_46 (AI @F_ag_9 (AI @F_al_165 (AI @F_el_163 (AI @F_el_35 (AI @F_el_44 (AI @F_fl_165_0 (AI @F_fl_165_1 (AI @F_fl_165_2 (AI @F_fl_165_3 (AI @F_fl_165_4 (AI @F_fl_165_5 (AI @F_fl_165_6 (AI @F_sz_163 (AI @F_sz_165 (AI @F_sz_3 (AI @F_sz_35 (AI @F_sz_44 (AI @F_sz_46 (@F_sz_9))))))))))))))))))))))))
theorem I1_ZC2 : type_of% (AI (@exL_id) (AI (@vaL_id) (AI (@exV_id) (AI (@vaV_id) (AI ndV_id (AI ndLs_id (AI nlVs_id nlV_id))))))) := (AI (@exL_id) (AI (@vaL_id) (AI (@exV_id) (AI (@vaV_id) (AI ndV_id (AI ndLs_id (AI nlVs_id nlV_id)))))))
def SamL (l : List Nd) : Prop := PC Tryz.prog 53 [.sl (l.map ndV) .ro, .sl (l.map ndV) .ro] (.im (.bool (true)))
theorem c_sameLs (l : List Nd) (hl : fitNL l) (h : ∀ t ∈ l, SamL t.l ∧ SamL t.el ∧ ∀ c ∈ t.cs, SamL c) : SamL l := by
  show PC _ _ _ _
  obtain ⟨hn, hf⟩ := hl
  refine PC.enter 120 Tryz.func53 rfl (by decide) rfl rfl (s := [(0, .sl (l.map ndV) .ro), (1, .sl (l.map ndV) .ro)]) (by rfl) ?_
  refine wG Y53_ZC2 @List.length_map.{0, 0} ?_
  refine AWp.loop ?_
  refine ALp.cutP 0 [(0, .sl (l.map ndV) .ro), (1, .sl (l.map ndV) .ro), (5, (.im (.int .i64 ((((0 : Nat)) : Int)))))] [] I1_ZC2 ?_
  refine ALp.upto l.length (fun _ => True) (fun m => ⟨dn 120 [(0, .sl (l.map ndV) .ro), (1, .sl (l.map ndV) .ro), (5, (.im (.int .i64 ((((m : Nat)) : Int)))))], ofl []⟩) ?_ 0 (Nat.zero_le _) trivial
  intro m hm hI hnext
  by_cases hlt : m < l.length
  · have hlt' : (m : Int) < (l.length : Int) := by omega
    have hg := get_some hlt; have hm1 := wrap_succ hlt (by omega)
    obtain ⟨h1, h2, h3⟩ := h l[m] (List.getElem_mem hlt); unfold SamL at h1 h2; have hf := fitN_inv (hf _ (List.getElem_mem hlt)); generalize l[m] = t at hg h1 h2 h3 hf; obtain ⟨_, hnm, ⟨hel, hex⟩, _, _, hcl, hcx⟩ := hf; refine wG Y53_ZC2 (AI hlt' (AI hg BN09)) ?_; refine wdG Y53_ZC2 BN09 ?_; refine AR.callP h1 True.intro I1_ZC2 ?_; refine goG Y53_ZC2 BN09 ?_; refine AR.callP h2 True.intro I1_ZC2 ?_; refine goG Y53_ZC2 BN09 ?_; refine wdG Y53_ZC2 BN09 ?_; refine AWp.loop ?_; refine ALp.cutP 2 [(0, .sl (l.map ndV) .ro), (1, .sl (l.map ndV) .ro), (5, (.im (.int .i64 ((m : Int))))), (6, .pt 0 0), (7, .pt 1 0), (8, (.im (.int .i64 ((((0 : Nat)) : Int)))))] [.box [.im (.int .i64 (t).kind), .im (.int .i64 (t).width), .im (.string (t).name), .sl ((t).e.map exV) .ro, .sl ((t).l.map ndV) .ro, .sl ((t).el.map ndV) .ro, .sl ((t).cs.map nlV) .ro], .box [.im (.int .i64 (t).kind), .im (.int .i64 (t).width), .im (.string (t).name), .sl ((t).e.map exV) .ro, .sl ((t).l.map ndV) .ro, .sl ((t).el.map ndV) .ro, .sl ((t).cs.map nlV) .ro]] I1_ZC2 ?_; refine ALp.upto t.e.length (fun _ => True) (fun j => ⟨dn 120 [(0, .sl (l.map ndV) .ro), (1, .sl (l.map ndV) .ro), (5, (.im (.int .i64 ((m : Int))))), (6, .pt 0 0), (7, .pt 1 0), (8, (.im (.int .i64 ((((j : Nat)) : Int)))))], ofl [.box [.im (.int .i64 (t).kind), .im (.int .i64 (t).width), .im (.string (t).name), .sl ((t).e.map exV) .ro, .sl ((t).l.map ndV) .ro, .sl ((t).el.map ndV) .ro, .sl ((t).cs.map nlV) .ro], .box [.im (.int .i64 (t).kind), .im (.int .i64 (t).width), .im (.string (t).name), .sl ((t).e.map exV) .ro, .sl ((t).l.map ndV) .ro, .sl ((t).el.map ndV) .ro, .sl ((t).cs.map nlV) .ro]]⟩) ?_ 0 (Nat.zero_le _) trivial
    intro j hj hJ hnext2
    by_cases hlj : j < t.e.length
    · have hlj' : (j : Int) < (t.e.length : Int) := by omega
      have hgj := get_some hlj; have hj1 := wrap_succ hlj (by omega)
      have hc := c_SameExpr t.e[j] (hex _ (List.getElem_mem hlj)) t.e[j] (hex _ (List.getElem_mem hlj)); rw [samE_refl] at hc; refine wdG Y53_ZC2 (AI hlj' (AI hgj EX)) ?_; refine AR.callP hc @exV_eq I1_ZC2 ?_; refine goG Y53_ZC2 True.intro ?_; refine wdG Y53_ZC2 hj1 ?_; refine ALp.cutP 2 [(0, .sl (l.map ndV) .ro), (1, .sl (l.map ndV) .ro), (5, (.im (.int .i64 ((m : Int))))), (6, .pt 0 0), (7, .pt 1 0), (8, (.im (.int .i64 ((((j + 1 : Nat)) : Int)))))] [.box [.im (.int .i64 (t).kind), .im (.int .i64 (t).width), .im (.string (t).name), .sl ((t).e.map exV) .ro, .sl ((t).l.map ndV) .ro, .sl ((t).el.map ndV) .ro, .sl ((t).cs.map nlV) .ro], .box [.im (.int .i64 (t).kind), .im (.int .i64 (t).width), .im (.string (t).name), .sl ((t).e.map exV) .ro, .sl ((t).l.map ndV) .ro, .sl ((t).el.map ndV) .ro, .sl ((t).cs.map nlV) .ro]] I1_ZC2 ?_; exact hnext2 (j + 1) (by omega) (by omega) trivial
    obtain rfl : j = t.e.length := by omega
    clear hnext2 hJ; refine whG Y53_ZC2 @Int.lt_irrefl ?_; refine Blk'.here (Thn.n ?_); refine wG Y53_ZC2 True.intro ?_; refine AWp.loop ?_; refine ALp.cutP 2 [(0, .sl (l.map ndV) .ro), (1, .sl (l.map ndV) .ro), (5, (.im (.int .i64 ((m : Int))))), (6, .pt 0 0), (7, .pt 1 0), (9, (.im (.int .i64 ((((0 : Nat)) : Int)))))] [.box [.im (.int .i64 (t).kind), .im (.int .i64 (t).width), .im (.string (t).name), .sl ((t).e.map exV) .ro, .sl ((t).l.map ndV) .ro, .sl ((t).el.map ndV) .ro, .sl ((t).cs.map nlV) .ro], .box [.im (.int .i64 (t).kind), .im (.int .i64 (t).width), .im (.string (t).name), .sl ((t).e.map exV) .ro, .sl ((t).l.map ndV) .ro, .sl ((t).el.map ndV) .ro, .sl ((t).cs.map nlV) .ro]] I1_ZC2 ?_; refine ALp.upto t.cs.length (fun _ => True) (fun j => ⟨dn 120 [(0, .sl (l.map ndV) .ro), (1, .sl (l.map ndV) .ro), (5, (.im (.int .i64 ((m : Int))))), (6, .pt 0 0), (7, .pt 1 0), (9, (.im (.int .i64 ((((j : Nat)) : Int)))))], ofl [.box [.im (.int .i64 (t).kind), .im (.int .i64 (t).width), .im (.string (t).name), .sl ((t).e.map exV) .ro, .sl ((t).l.map ndV) .ro, .sl ((t).el.map ndV) .ro, .sl ((t).cs.map nlV) .ro], .box [.im (.int .i64 (t).kind), .im (.int .i64 (t).width), .im (.string (t).name), .sl ((t).e.map exV) .ro, .sl ((t).l.map ndV) .ro, .sl ((t).el.map ndV) .ro, .sl ((t).cs.map nlV) .ro]]⟩) ?_ 0 (Nat.zero_le _) trivial
    intro j hj hJ hnext2
    by_cases hlj : j < t.cs.length
    · have hlj' : (j : Int) < (t.cs.length : Int) := by omega
      have hgj := get_some hlj; have hj1 := wrap_succ hlj (by omega)
      have hc := h3 t.cs[j] (List.getElem_mem hlj); unfold SamL at hc; refine wdG Y53_ZC2 (AI hlj' (AI hgj BN09)) ?_; refine AR.callP hc True.intro I1_ZC2 ?_; refine goG Y53_ZC2 True.intro ?_; refine wdG Y53_ZC2 hj1 ?_; refine ALp.cutP 2 [(0, .sl (l.map ndV) .ro), (1, .sl (l.map ndV) .ro), (5, (.im (.int .i64 ((m : Int))))), (6, .pt 0 0), (7, .pt 1 0), (9, (.im (.int .i64 ((((j + 1 : Nat)) : Int)))))] [.box [.im (.int .i64 (t).kind), .im (.int .i64 (t).width), .im (.string (t).name), .sl ((t).e.map exV) .ro, .sl ((t).l.map ndV) .ro, .sl ((t).el.map ndV) .ro, .sl ((t).cs.map nlV) .ro], .box [.im (.int .i64 (t).kind), .im (.int .i64 (t).width), .im (.string (t).name), .sl ((t).e.map exV) .ro, .sl ((t).l.map ndV) .ro, .sl ((t).el.map ndV) .ro, .sl ((t).cs.map nlV) .ro]] I1_ZC2 ?_; exact hnext2 (j + 1) (by omega) (by omega) trivial
    obtain rfl : j = t.cs.length := by omega
    clear hnext2 hJ; refine whG Y53_ZC2 @Int.lt_irrefl ?_; refine Blk'.here (Blk'.n (Thn.n ?_)); refine wG Y53_ZC2 hm1 ?_; refine ALp.cutP 0 [(0, .sl (l.map ndV) .ro), (1, .sl (l.map ndV) .ro), (5, (.im (.int .i64 ((((m + 1 : Nat)) : Int)))))] [] I1_ZC2 ?_; exact hnext (m + 1) (by omega) (by omega) trivial
  obtain rfl : m = l.length := by omega
  clear hnext hI
  refine wG Y53_ZC2 @Int.lt_irrefl ?_
  exact Fin.oneP
theorem c_sameL : ∀ l, fitNL l → SamL l := by
  refine Nd.listInduct fun l ih => ?_
  intro hl
  refine c_sameLs l hl fun t ht => ?_
  have hf := fitN_inv (hl.2 t ht)
  obtain ⟨i1, i2, i3⟩ := ih t ht
  exact ⟨i1 hf.2.2.2.1, i2 hf.2.2.2.2.1, fun c hc => i3 c hc (hf.2.2.2.2.2.2 c hc)⟩
theorem Y20_ZC2 : type_of% (AI @F_ag_23 (AI @F_ag_35 (AI @F_ag_9 (AI @F_fl_37_0 (AI @F_fl_37_1 (AI @F_fl_37_2 (AI @F_sz_23 (AI @F_sz_35 (@F_sz_9))))))))) := AI @F_ag_23 (AI @F_ag_35 (AI @F_ag_9 (AI @F_fl_37_0 (AI @F_fl_37_1 (AI @F_fl_37_2 (AI @F_sz_23 (AI @F_sz_35 (@F_sz_9))))))))
theorem I2_ZC2 : type_of% (AI fnV_id (AI fnL_id (AI scL_id (AI (@vaL_id) ndLs_id)))) := (AI fnV_id (AI fnL_id (AI scL_id (AI (@vaL_id) ndLs_id))))
theorem c_sameF (f : Fun) (hf : fitFn f) : PC Tryz.prog 20 [fnV f, fnV f] (.im (.bool (true))) := by
  have h1 := c_sameVV f.vars hf.vn (Nat.le_trans hf.vl (by decide))
  have h2 := c_sameL f.body hf.bd
  unfold SamL at h2
  rw [fnV_eq]
  refine PC.enter 24 Tryz.func20 rfl (by decide) rfl rfl (s := [(0, .ag [.im (.string f.name), .sl (f.vars.map vaV) .ro, .sl (f.body.map ndV) .ro]), (1, .ag [.im (.string f.name), .sl (f.vars.map vaV) .ro, .sl (f.body.map ndV) .ro])]) (by rfl) ?_
  refine wdG Y20_ZC2 True.intro ?_
  refine AR.callP h1 True.intro I2_ZC2 ?_
  refine goG Y20_ZC2 True.intro ?_
  refine AR.callP h2 True.intro I2_ZC2 ?_
  refine goG Y20_ZC2 True.intro ?_
  refine wG Y20_ZC2 True.intro ?_
  exact Fin.oneP
theorem Y16_ZC2 : type_of% (AI @F_ag_23 (AI @F_ag_24 (AI @F_ag_25 (AI @F_ag_37 (AI @F_el_25 (AI @F_fl_27_0 (AI @F_fl_27_1 (AI @F_fl_27_2 (AI @F_sz_23 (AI @F_sz_24 (AI @F_sz_25 (@F_sz_37)))))))))))) := AI @F_ag_23 (AI @F_ag_24 (AI @F_ag_25 (AI @F_ag_37 (AI @F_el_25 (AI @F_fl_27_0 (AI @F_fl_27_1 (AI @F_fl_27_2 (AI @F_sz_23 (AI @F_sz_24 (AI @F_sz_25 (@F_sz_37)))))))))))
theorem c_sameU (u : Un) (hu : fitU u) (hd : ∀ s ∈ u.data, s.data.length ≤ 4194304) : PC Tryz.prog 16 [unV u, unV u] (.im (.bool (true))) := by
  have h1 := c_sameVV u.globals hu.gn (Nat.le_trans hu.gl (by decide))
  have h2 := c_sameSS u.data hd hu.dl
  have hfl := hu.fl
  refine PC.enter 48 Tryz.func16 rfl (by decide) rfl rfl (s := [(0, unV u), (1, unV u)]) (by rfl) ?_
  simp only [unV_eq]
  refine wdG Y16_ZC2 True.intro ?_
  refine AR.callP h1 True.intro I2_ZC2 ?_
  refine goG Y16_ZC2 True.intro ?_
  refine AR.callP h2 True.intro I2_ZC2 ?_
  refine goG Y16_ZC2 True.intro ?_
  refine wdG Y16_ZC2 True.intro ?_
  refine AWp.loop ?_
  refine ALp.cutP 2 [(2, .pt 0 0), (3, .pt 1 0), (5, (.im (.int .i64 ((((0 : Nat)) : Int)))))] [.box [.sl (u.globals.map vaV) .ro, .sl (u.data.map scV) .ro, .sl (u.funcs.map fnV) .ro], .box [.sl (u.globals.map vaV) .ro, .sl (u.data.map scV) .ro, .sl (u.funcs.map fnV) .ro]] I2_ZC2 ?_
  refine ALp.upto u.funcs.length (fun _ => True) (fun m => ⟨dn 48 [(2, .pt 0 0), (3, .pt 1 0), (5, (.im (.int .i64 ((((m : Nat)) : Int)))))], ofl [.box [.sl (u.globals.map vaV) .ro, .sl (u.data.map scV) .ro, .sl (u.funcs.map fnV) .ro], .box [.sl (u.globals.map vaV) .ro, .sl (u.data.map scV) .ro, .sl (u.funcs.map fnV) .ro]]⟩) ?_ 0 (Nat.zero_le _) trivial
  intro m hm hI hnext
  by_cases hlt : m < u.funcs.length
  · have hlt' : (m : Int) < (u.funcs.length : Int) := by omega
    have hg := get_some hlt; have hm1 := wrap_succ hlt (by omega)
    have hc := c_sameF u.funcs[m] (hu.fn _ (List.getElem_mem hlt)); refine wdG Y16_ZC2 (AI hlt' (AI hg (AI fnV_firm (AI fnV_strip (AI fnV_live (AI fnV_size (AI fnV_isAg (AI fnV_cells (AI (@List.getElem?_map.{0, 0}) @Int.natCast_nonneg))))))))) ?_; refine AR.callP hc fnV_eq I2_ZC2 ?_; refine goG Y16_ZC2 True.intro ?_; refine wdG Y16_ZC2 hm1 ?_; refine ALp.cutP 2 [(2, .pt 0 0), (3, .pt 1 0), (5, (.im (.int .i64 ((((m + 1 : Nat)) : Int)))))] [.box [.sl (u.globals.map vaV) .ro, .sl (u.data.map scV) .ro, .sl (u.funcs.map fnV) .ro], .box [.sl (u.globals.map vaV) .ro, .sl (u.data.map scV) .ro, .sl (u.funcs.map fnV) .ro]] I2_ZC2 ?_; exact hnext (m + 1) (by omega) (by omega) trivial
  obtain rfl : m = u.funcs.length := by omega
  clear hnext hI
  refine wG Y16_ZC2 @Int.lt_irrefl ?_
  exact Fin.oneP
theorem dig_ex {n : Nat} (h : n ≤ 9) : (((48 :: 49 :: 50 :: 51 :: 52 :: 53 :: 54 :: 55 :: 56 :: 57 :: 97 :: 98 :: 99 :: 100 :: 101 :: 102 :: 103 :: 104 :: 105 :: 106 :: 107 :: 108 :: 109 :: 110 :: 111 :: 112 :: 113 :: 114 :: 115 :: 116 :: 117 :: 118 :: 119 :: 120 :: 121 :: 122 :: [] : Bs).drop n).take 1) = [hexD n] := by
  have : ∀ n < 10, (((48 :: 49 :: 50 :: 51 :: 52 :: 53 :: 54 :: 55 :: 56 :: 57 :: 97 :: 98 :: 99 :: 100 :: 101 :: 102 :: 103 :: 104 :: 105 :: 106 :: 107 :: 108 :: 109 :: 110 :: 111 :: 112 :: 113 :: 114 :: 115 :: 116 :: 117 :: 118 :: 119 :: 120 :: 121 :: 122 :: [] : Bs).drop n).take 1) = [hexD n] := by decide
  exact this n (by omega)
theorem Y206_T18 : type_of% (@F_un_9) := @F_un_9
theorem c_small (n : Nat) (hn : n ≤ 9) : PC Tryz.prog 206 [(.im (.int .i64 ((n : Int))))] (.im (.string ⟨([hexD n]).toArray⟩)) := by
  have h1 : (n : Int) < 10 := by omega
  have hw := wrap_succ (show n < 10 by omega) (by decide)
  have hd := dig_ex hn
  refine PC.enter 15 Tryz.func206 rfl (by decide) rfl rfl (s := [(0, (.im (.int .i64 ((n : Int)))))]) (by rfl) ?_
  have h2 : (n : Int) ≤ ((n + 1 : Nat) : Int) := by omega
  have h3 : ((n + 1 : Nat) : Int) ≤ 36 := by omega
  have h4 : n + 1 - n = 1 := by omega
  refine wG Y206_T18 (AI BY (AI GDS (AI h1 (AI hw (AI hd (AI h2 (AI h3 h4))))))) ?_
  exact Fin.oneP
theorem Y249_T18 : type_of% (AI @F_al_254 (AI @F_ar_254 (AI @F_el_69 (AI @F_in_145 (AI @F_in_2 (AI @F_in_69 (AI @F_in_9 (AI @F_sz_5 (AI @F_un_145 (AI @F_un_2 (AI @F_un_5 (AI @F_un_69 (@F_un_9))))))))))))) := AI @F_al_254 (AI @F_ar_254 (AI @F_el_69 (AI @F_in_145 (AI @F_in_2 (AI @F_in_69 (AI @F_in_9 (AI @F_sz_5 (AI @F_un_145 (AI @F_un_2 (AI @F_un_5 (AI @F_un_69 (@F_un_9))))))))))))
theorem c_fmtI (n : Nat) (hn : n ≤ 9) : PC Tryz.prog 249 [(.im (.int .i64 ((n : Int)))), (.im (.int .i64 (10)))] (.im (.string ⟨([hexD n]).toArray⟩)) := by
  have q := c_small n hn
  have h1 : (0 : Int) ≤ (n : Int) := by omega
  have h2 : (n : Int) < 100 := by omega
  refine PC.enter 54 Tryz.func249 rfl (by decide) rfl rfl (s := [(0, (.im (.int .i64 ((n : Int))))), (1, (.im (.int .i64 (10))))]) (by rfl) ?_
  refine wG Y249_T18 (AI h1 h2) ?_
  refine AR.callP q True.intro byL_id ?_
  refine goG Y249_T18 True.intro ?_
  refine wG Y249_T18 True.intro ?_
  exact Fin.oneP
theorem c_itoa0 (n : Nat) (hn : n ≤ 9) : PC Tryz.prog 197 [(.im (.int .i64 ((n : Int))))] (.im (.string ⟨([hexD n]).toArray⟩)) := by
  have q := c_fmtI n hn
  refine PC.enter 5 Tryz.func197 rfl (by decide) rfl rfl (s := [(0, (.im (.int .i64 ((n : Int)))))]) (by rfl) ?_
  refine wG True.intro True.intro ?_
  refine AR.callP q True.intro byL_id ?_
  refine goG True.intro True.intro ?_
  refine wG True.intro True.intro ?_
  exact Fin.oneP
theorem c_itoa (n : Nat) (hn : n ≤ 9) : PC Tryz.prog 137 [(.im (.int .i64 ((n : Int))))] (.im (.string ⟨([hexD n]).toArray⟩)) := by
  have q := c_itoa0 n hn
  refine PC.enter 5 Tryz.func137 rfl (by decide) rfl rfl (s := [(0, (.im (.int .i64 ((n : Int)))))]) (by rfl) ?_
  refine wG True.intro True.intro ?_
  refine AR.callP q True.intro byL_id ?_
  refine goG True.intro True.intro ?_
  refine wG True.intro True.intro ?_
  exact Fin.oneP
def shwR (t : Tk) : Bs × Bool := match shw t with
  | some s => (s, true)
  | none => ([], false)
theorem bS_0x (l : Bs) : ByteArray.mk #[48, 120] ++ ByteArray.mk l.toArray = ByteArray.mk (48 :: 120 :: l).toArray := bS_append [48, 120] l
theorem Y70_T18 : type_of% (AI @F_ag_3 (AI @F_ag_43 (AI @F_ag_9 (AI @F_fl_122_0 (AI @F_fl_122_1 (AI @F_fl_122_2 (AI @F_in_145 (AI @F_in_3 (AI @F_in_43 (AI @F_sz_3 (AI @F_sz_43 (AI @F_sz_9 (AI @F_un_145 (AI @F_un_3 (@F_un_43))))))))))))))) := AI @F_ag_3 (AI @F_ag_43 (AI @F_ag_9 (AI @F_fl_122_0 (AI @F_fl_122_1 (AI @F_fl_122_2 (AI @F_in_145 (AI @F_in_3 (AI @F_in_43 (AI @F_sz_3 (AI @F_sz_43 (AI @F_sz_9 (AI @F_un_145 (AI @F_un_3 (@F_un_43))))))))))))))
set_option maxHeartbeats 1000000 in
theorem c_show (t : Tk) (hn : 0 ≤ t.n ∧ t.n < 4294967296) (ht : t.text.length ≤ 4194304) : PC Tryz.prog 70 [tkV t] (.tu [.im (.string ⟨((shwR t).1).toArray⟩), (.im (.bool ((shwR t).2)))]) := by
  have qq := c_quote t.text ht
  obtain ⟨kd, tx, n, li, co⟩ := t
  simp only at hn ht qq
  rw [tkV_eq]
  simp only
  obtain ⟨n, rfl⟩ : ∃ m : Nat, n = m := ⟨n.toNat, by omega⟩
  by_cases h5 : kd = 1 ∨ kd = 2 ∨ kd = 5
  · rw [show shwR ⟨kd, tx, n, li, co⟩ = (tx, true) by unfold shwR shw; rw [if_pos h5]]
    by_cases h1 : kd = 1
    · refine PC.enter 31 Tryz.func70 rfl (by decide) rfl rfl (s := [(0, .ag [(.im (.int .i64 (kd))), .im (.string ⟨(tx).toArray⟩), .im (.int .u32 (n : Int)), (.im (.int .i64 (li))), (.im (.int .i64 (co)))])]) (by rfl) ?_
      refine wG Y70_T18 h1 ?_; refine Fin.gen0 (rs := [.tmp 2, .tmp 3]) rfl (by first | exact .inl rfl | exact .inr rfl) (finG Y70_T18) ?_
      all_goals exact wkG byL_id
    by_cases h2 : kd = 2
    · refine PC.enter 31 Tryz.func70 rfl (by decide) rfl rfl (s := [(0, .ag [(.im (.int .i64 (kd))), .im (.string ⟨(tx).toArray⟩), .im (.int .u32 (n : Int)), (.im (.int .i64 (li))), (.im (.int .i64 (co)))])]) (by rfl) ?_
      refine wG Y70_T18 (AI h1 h2) ?_; refine Fin.gen0 (rs := [.tmp 2, .tmp 3]) rfl (by first | exact .inl rfl | exact .inr rfl) (finG Y70_T18) ?_
      all_goals exact wkG byL_id
    have h3 : kd = 5 := by omega
    refine PC.enter 31 Tryz.func70 rfl (by decide) rfl rfl (s := [(0, .ag [(.im (.int .i64 (kd))), .im (.string ⟨(tx).toArray⟩), .im (.int .u32 (n : Int)), (.im (.int .i64 (li))), (.im (.int .i64 (co)))])]) (by rfl) ?_
    refine wG Y70_T18 (AI h1 (AI h2 h3)) ?_; refine Fin.gen0 (rs := [.tmp 2, .tmp 3]) rfl (by first | exact .inl rfl | exact .inr rfl) (finG Y70_T18) ?_
    all_goals exact wkG byL_id
  have h1 : ¬ kd = 1 := by omega
  have h2 : ¬ kd = 2 := by omega
  have h3 : ¬ kd = 5 := by omega
  have e1 : shwR ⟨kd, tx, n, li, co⟩ = match (if kd = 3 then some (numS n) else if kd = 4 then some (quoS tx) else none : Option Bs) with
    | some s => (s, true)
    | none => ([], false) := by unfold shwR shw; rw [if_neg h5]; rfl
  rw [e1]
  by_cases h4 : kd = 3
  · rw [if_pos h4]
    by_cases h9 : n ≤ 9
    · have h9' : (n : Int) ≤ 9 := by omega
      have q := c_itoa n h9; have hw : IntKind.i64.wrap (n : Int) = n := wrap_in (by omega)
      rw [show numS n = [hexD n] from if_pos h9]
      refine PC.enter 31 Tryz.func70 rfl (by decide) rfl rfl (s := [(0, .ag [(.im (.int .i64 (kd))), .im (.string ⟨(tx).toArray⟩), .im (.int .u32 (n : Int)), (.im (.int .i64 (li))), (.im (.int .i64 (co)))])]) (by rfl) ?_
      refine wG Y70_T18 (AI h1 (AI h2 (AI h3 (AI h4 (AI h9' hw))))) ?_; refine AR.callP q True.intro byL_id ?_; refine goG Y70_T18 True.intro ?_; refine wG Y70_T18 True.intro ?_; refine Fin.gen0 (rs := [.tmp 2, .tmp 3]) rfl (by first | exact .inl rfl | exact .inr rfl) (finG Y70_T18) ?_
      all_goals exact wkG byL_id
    · have h9' : ¬ (n : Int) ≤ 9 := by omega
      have q := c_fmt n (by omega)
      have hw : IntKind.u64.wrap (n : Int) = n := IntWalk.u64_in _ (by omega)
      have hsz : (ByteArray.mk #[48, 120]).size + (ByteArray.mk (hexS n).toArray).size ≤ 9223372036854775807 := by
        rw [bS_size, bS_size, show ([48, 120] : Bs).length = 2 from rfl]
        have := hexG_len 7 (n + 1) n (by omega) (by omega)
        unfold hexS; omega
      rw [show numS n = 48 :: 120 :: hexS n from if_neg h9]
      refine PC.enter 31 Tryz.func70 rfl (by decide) rfl rfl (s := [(0, .ag [(.im (.int .i64 (kd))), .im (.string ⟨(tx).toArray⟩), .im (.int .u32 (n : Int)), (.im (.int .i64 (li))), (.im (.int .i64 (co)))])]) (by rfl) ?_
      refine wG Y70_T18 (AI h1 (AI h2 (AI h3 (AI h4 (AI h9' hw))))) ?_; refine AR.callP q True.intro byL_id ?_; refine goG Y70_T18 (AI bS_0x hsz) ?_; refine wG Y70_T18 True.intro ?_; refine Fin.gen0 (rs := [.tmp 2, .tmp 3]) rfl (by first | exact .inl rfl | exact .inr rfl) (finG Y70_T18) ?_
      all_goals exact wkG byL_id
  rw [if_neg h4]
  by_cases h6 : kd = 4
  · rw [if_pos h6]
    refine PC.enter 31 Tryz.func70 rfl (by decide) rfl rfl (s := [(0, .ag [(.im (.int .i64 (kd))), .im (.string ⟨(tx).toArray⟩), .im (.int .u32 (n : Int)), (.im (.int .i64 (li))), (.im (.int .i64 (co)))])]) (by rfl) ?_
    refine wG Y70_T18 (AI h1 (AI h2 (AI h3 (AI h4 h6)))) ?_; refine AR.callP qq True.intro byL_id ?_; refine goG Y70_T18 True.intro ?_; refine wG Y70_T18 True.intro ?_; refine Fin.gen0 (rs := [.tmp 2, .tmp 3]) rfl (by first | exact .inl rfl | exact .inr rfl) (finG Y70_T18) ?_
    all_goals exact wkG byL_id
  · rw [if_neg h6]
    refine PC.enter 31 Tryz.func70 rfl (by decide) rfl rfl (s := [(0, .ag [(.im (.int .i64 (kd))), .im (.string ⟨(tx).toArray⟩), .im (.int .u32 (n : Int)), (.im (.int .i64 (li))), (.im (.int .i64 (co)))])]) (by rfl) ?_
    refine wG Y70_T18 (AI h1 (AI h2 (AI h3 (AI h4 h6)))) ?_; refine Fin.gen0 (rs := [.tmp 2, .tmp 3]) rfl (by first | exact .inl rfl | exact .inr rfl) (finG Y70_T18) ?_
    all_goals exact wkG byL_id
theorem joinB_cons (x : Bs) (r : List Bs) : joinB (x :: r) = x ++ (r.map ([32] ++ ·)).flatten := by
  induction r generalizing x with
  | nil => simp [joinB]
  | cons y r ih =>
    rw [show joinB (x :: y :: r) = x ++ 32 :: joinB (y :: r) from rfl, ih y]
    simp
theorem joinB_join (l : List Bs) : Lib.join l [32] = joinB l := by
  cases l with
  | nil => rfl
  | cons x r => rw [Lib.join_cons, joinB_cons]; rfl
theorem c_join (l : List Bs) (hN : l.length ≤ 140737488355328) (hlen : (joinB l).length ≤ 140737488355328) : PC Tryz.prog 71 [.sl (l.map sV) .ro, .im (.string ⟨([32]).toArray⟩)] (.im (.string ⟨(joinB l).toArray⟩)) := by
  refine PC.ofBelow (by kernel_rfl) fun C vs hC hsz hR => ?_
  obtain ⟨v0, v1, rfl⟩ : ∃ v0 v1, vs = #[v0, v1] := Go.Joins.array2 hsz
  have h1 : R C (.im (.string ⟨([32]).toArray⟩)) v1 := hR 1 (by simp)
  have h0 : R C (.sl (l.map sV) .ro) v0 := hR 0 (by simp)
  obtain rfl : v1 = .string ⟨#[32]⟩ := h1.im_eq
  cases h0 with
  | @sl _ _ a cap z u hc hm hz h hr hk =>
    cases l with
    | nil =>
      refine (Tryz.strings_Join_none a cap ⟨#[32]⟩ C.w).mono ?_; rintro e w' ⟨rfl, rfl⟩; exact ⟨_, rfl, fun _ => .im rfl, Below.refl _ _⟩
    | cons x r =>
      have hz1 : z = 1 := ((hz 0 (by simp)).1).symm
      subst hz1
      have hu : ∀ j (hj : j < ((x :: r).map sV).length), u j = .string ⟨((x :: r)[j]'(by simpa using hj)).toArray⟩ := fun j hj => by
        have h2 := h j hj; rw [List.getElem_map] at h2; exact h2.im_eq
      obtain ⟨ad, rfl, h3⟩ := hr 0 (by simp)
      have hrd : ∀ j (hj : j < ((x :: r).map sV).length), C.w.cell? ((ad.add (j * 1)).add 0) = some (.string ⟨((x :: r)[j]'(by simpa using hj)).toArray⟩) := fun j hj => by
        obtain ⟨ad', e1, h4⟩ := hr j hj; cases e1
        exact (h4 0 _ (by rw [hu j hj]; rfl)).1
      have h4 := cell_spot (hrd 0 (by simp))
      obtain ⟨bk, o, sp⟩ := ad; have hsp : sp = none := h4.1; subst hsp
      have := Tryz.strings_Join bk o cap ((x :: r).map fun b => ⟨b.toArray⟩) ⟨#[32]⟩ C.w (fun j y hj => ?_) h4.2 (by rw [List.length_map]; exact hN) (by simpa using hc) (by
        rw [List.map_map, show List.map ((fun b : ByteArray => b.data.toList) ∘ fun b : Bs => (⟨b.toArray⟩ : ByteArray)) (x :: r) = x :: r from List.map_id' _, show (ByteArray.mk #[32]).data.toList = [32] from rfl, joinB_join]; exact hlen)
      · rw [List.map_map, show List.map ((fun b : ByteArray => b.data.toList) ∘ fun b : Bs => (⟨b.toArray⟩ : ByteArray)) (x :: r) = x :: r from List.map_id' _, show (ByteArray.mk #[32]).data.toList = [32] from rfl, joinB_join] at this
        rw [List.length_map] at this ⊢; refine this.mono ?_; rintro e w' ⟨rfl, hb⟩; exact ⟨_, rfl, fun _ => .im rfl, hb⟩
      · obtain ⟨hlt, rfl⟩ := List.getElem?_eq_some_iff.1 hj
        have h5 := hrd j (by simpa using hlt)
        rw [Addr.add_lit, Addr.add_lit, Nat.mul_one] at h5; rw [List.getElem_map]; exact h5
theorem shwR_some {t : Tk} {s : Bs} (h : shw t = some s) : shwR t = (s, true) := by unfold shwR; rw [h]
theorem shwR_none {t : Tk} (h : shw t = none) : shwR t = ([], false) := by unfold shwR; rw [h]
theorem filterMap_take {l : List Tk} {m : Nat} (h : m < l.length) : (l.take (m + 1)).filterMap shw = (l.take m).filterMap shw ++ (shw l[m]).toList := by
  rw [List.take_succ_eq_append_getElem h, List.filterMap_append]
  congr 1
theorem Y29_T19 : type_of% (AI @F_ag_122 (AI @F_al_122 (AI @F_al_9 (AI @F_by_9 (AI @F_el_52 (AI @F_el_84 (AI @F_sz_122 (@F_sz_9)))))))) := AI @F_ag_122 (AI @F_al_122 (AI @F_al_9 (AI @F_by_9 (AI @F_el_52 (AI @F_el_84 (AI @F_sz_122 (@F_sz_9)))))))
set_option maxHeartbeats 1000000 in
theorem c_Print (l : List Tk) (hl : l.length ≤ 4194304) (ht : ∀ t ∈ l, TkOk t) (hp : (prn l).length ≤ 140737488355328) : PC Tryz.prog 29 [.sl (l.map tkV) .ro] (.im (.string ⟨(prn l).toArray⟩)) := by
  refine PC.enter 27 Tryz.func29 rfl (by decide) rfl rfl (s := [(0, .sl (l.map tkV) .ro)]) (by rfl) ?_
  refine wG Y29_T19 TKT ?_
  refine AWp.loop ?_
  refine ALp.ghost 3 [] .nl 9 1 ?_
  suffices H : ∀ (k m : Nat) (A : List Bs), l.length - m = k → m ≤ l.length → A = (l.take m).filterMap shw → A.length ≤ m → ALp _ _ _ _ _ ⟨dn 27 [(3, .sl (A.map sV) (.own 0)), (8, .sl (l.map tkV) .ro), (9, (.im (.int .i64 (l.length)))), (10, (.im (.int .i64 ((((m : Nat)) : Int)))))], ofl [.tip 9 1 A.length]⟩ by
    refine ALp.cutP 1 [(3, .sl (([] : List Bs).map sV) (.own 0)), (8, .sl (l.map tkV) .ro), (9, (.im (.int .i64 (l.length)))), (10, (.im (.int .i64 ((((0 : Nat)) : Int)))))] [.tip 9 1 ([] : List Bs).length] (AI tkL_id (AI tkV_id (AI byL_id sL_id))) ?_; exact H _ 0 [] rfl (Nat.zero_le _) rfl (Nat.zero_le _)
  intro k
  induction k using Nat.strongRecOn with
  | _ k ih =>
  intro m A hk hm hA hAl
  refine ALp.round ?_
  by_cases hlt : m < l.length
  case neg =>
    obtain rfl : m = l.length := by omega
    have hn : ¬ (l.length : Int) < (l.length : Int) := by omega
    rw [List.take_length] at hA; have hE : prn l = joinB A := by rw [hA]; rfl
    rw [hE] at hp ⊢; have qj := c_join A (by omega) hp
    clear ih; refine wG Y29_T19 hn ?_; refine AR.callW qj True.intro (AI tkL_id (AI tkV_id (AI byL_id sL_id))) ?_; refine goG Y29_T19 True.intro ?_; refine wG Y29_T19 True.intro ?_; refine Fin.gen0 (rs := [.tmp 2]) rfl (by first | exact .inl rfl | exact .inr rfl) (finG Y29_T19) ?_
    all_goals exact wkG (AI tkL_id (AI tkV_id (AI byL_id sL_id)))
  have hlt' : (m : Int) < (l.length : Int) := by omega
  have hw1 := wrap_succ hlt (by omega)
  have hg : l[m]? = some l[m] := List.getElem?_eq_getElem hlt
  have hst := filterMap_take hlt
  have hok := ht l[m] (List.getElem_mem hlt)
  have qs := c_show l[m] hok.1 hok.2
  generalize l[m] = t at hg hst qs
  cases hs : shw t with
  | none =>
    rw [shwR_none hs] at qs; rw [hs] at hst; have hI := ih (l.length - (m + 1)) (by omega) (m + 1) A rfl (by omega) (by rw [hst, hA]; simp) (by omega)
    clear ih hst; refine wG Y29_T19 (AI TKT (AI hlt' hg)) ?_; refine AR.callP qs tkV_eq (AI tkL_id (AI tkV_id (AI byL_id sL_id))) ?_; refine goG Y29_T19 (AI TKT hw1) ?_; refine wG Y29_T19 hw1 ?_; refine ALp.cutP 1 [(3, .sl (A.map sV) (.own 0)), (8, .sl (l.map tkV) .ro), (9, (.im (.int .i64 (l.length)))), (10, (.im (.int .i64 ((((m + 1 : Nat)) : Int)))))] [.tip 9 1 A.length] (AI tkL_id (AI tkV_id (AI byL_id sL_id))) ?_; exact hI
  | some s =>
    rw [shwR_some hs] at qs; rw [hs] at hst; obtain ⟨B, hB⟩ : ∃ B, B = A ++ [s] := ⟨_, rfl⟩
    have hI := ih (l.length - (m + 1)) (by omega) (m + 1) B rfl (by omega) (by rw [hst, hB, hA]; simp) (by rw [hB]; simp; omega)
    have hAs : A.map sV ++ [.im (.string ⟨(s).toArray⟩)] = B.map sV := by rw [hB, List.map_append]; rfl
    have hAk : A.length + 1 = B.length := by rw [hB]; simp
    have hbl : B.length ≤ 140737488355328 := by omega
    have hbl2 : B.length * 16 ≤ 140737488355328 := by omega
    clear ih hst hB; refine wG Y29_T19 (AI TKT (AI hlt' hg)) ?_; refine AR.callP qs tkV_eq (AI tkL_id (AI tkV_id (AI byL_id sL_id))) ?_; refine goG Y29_T19 (AI TKT hw1) ?_; refine wG Y29_T19 (AI hw1 (AI hAs (AI hAk (AI hbl (AI hbl2 (AI (@List.length_map.{0, 0}) @Nat.mul_one)))))) ?_; refine ALp.cutP 1 [(3, .sl (B.map sV) (.own 0)), (8, .sl (l.map tkV) .ro), (9, (.im (.int .i64 (l.length)))), (10, (.im (.int .i64 ((((m + 1 : Nat)) : Int)))))] [.tip 9 1 B.length] (AI tkL_id (AI tkV_id (AI byL_id sL_id))) ?_; exact hI
def posR (l : List Tk) (k : Int) : Int × Int := if k < 0 then (1, 1) else match l[min k.toNat (l.length - 1)]? with
  | some t => (t.line, t.col)
  | none => (1, 1)
theorem Y64_T19 : type_of% (AI @F_ag_122 (AI @F_ag_3 (AI @F_al_122 (AI @F_el_52 (AI @F_fl_122_3 (AI @F_fl_122_4 (AI @F_sz_122 (@F_sz_3)))))))) := AI @F_ag_122 (AI @F_ag_3 (AI @F_al_122 (AI @F_el_52 (AI @F_fl_122_3 (AI @F_fl_122_4 (AI @F_sz_122 (@F_sz_3)))))))
theorem c_Position (l : List Tk) (k : Int) (hl : l.length ≤ 4194304) : PC Tryz.prog 64 [.sl (l.map tkV) .ro, (.im (.int .i64 (k)))] (.tu [(.im (.int .i64 ((posR l k).1))), (.im (.int .i64 ((posR l k).2)))]) := by
  by_cases h0 : k < 0
  · rw [show posR l k = (1, 1) from if_pos h0]
    refine PC.enter 26 Tryz.func64 rfl (by decide) rfl rfl (s := [(0, .sl (l.map tkV) .ro), (1, (.im (.int .i64 (k))))]) (by rfl) ?_
    refine wG Y64_T19 (AI TKT h0) ?_; refine Fin.gen0 (rs := [.tmp 4, .tmp 5]) rfl (by first | exact .inl rfl | exact .inr rfl) (finG Y64_T19) ?_
    all_goals exact wkG (AI tkL_id (AI tkV_id (AI byL_id sL_id)))
  cases hE : l with
  | nil =>
    rw [show posR [] k = (1, 1) by unfold posR; split <;> rfl]
    refine PC.enter 26 Tryz.func64 rfl (by decide) rfl rfl (s := [(0, .sl (([] : List Tk).map tkV) .ro), (1, (.im (.int .i64 (k))))]) (by rfl) ?_
    refine wG Y64_T19 (AI TKT h0) ?_; refine Fin.gen0 (rs := [.tmp 4, .tmp 5]) rfl (by first | exact .inl rfl | exact .inr rfl) (finG Y64_T19) ?_
    all_goals exact wkG (AI tkL_id (AI tkV_id (AI byL_id sL_id)))
  | cons x r =>
  rw [← hE]
  have hpos : 1 ≤ l.length := by rw [hE]; simp
  clear hE
  have hne : ¬ (l.length : Int) = 0 := by omega
  have hw : IntKind.i64.wrap ((l.length : Int) - 1) = ((l.length - 1 : Nat) : Int) := by rw [wrap_in (by omega)]; omega
  obtain ⟨j, hj⟩ : ∃ j, j = min k.toNat (l.length - 1) := ⟨_, rfl⟩
  have hjl : j < l.length := by omega
  have hg : l[j]? = some l[j] := List.getElem?_eq_getElem hjl
  have hR : posR l k = (l[j].line, l[j].col) := by
    unfold posR; rw [if_neg h0, ← hj, hg]
  rw [hR]
  clear hR
  generalize l[j] = t at hg
  have hmin : (if ((l.length - 1 : Nat) : Int) < k then ((l.length - 1 : Nat) : Int) else k) = (j : Int) := by split <;> omega
  refine PC.enter 26 Tryz.func64 rfl (by decide) rfl rfl (s := [(0, .sl (l.map tkV) .ro), (1, (.im (.int .i64 (k))))]) (by rfl) ?_
  refine wG Y64_T19 (AI TKT (AI h0 hne)) ?_
  refine wdG Y64_T19 (AI TKT (AI h0 (AI hne (AI hw (AI hg (AI hmin @Int.toNat_natCast)))))) ?_
  refine Fin.gen0 (rs := [.tmp 4, .tmp 5]) rfl (by first | exact .inl rfl | exact .inr rfl) (finG Y64_T19) ?_
  all_goals exact wkG (AI tkL_id (AI tkV_id (AI byL_id sL_id)))
end Go.Proofs.YtmbmmckagcdapaaGreatDoor
namespace Go.Proofs.YtmbmmckagcdapaaGreatDoor
def fu (ts : List Tk) : Nat := 3 * ts.length + 10
def rdX {α : Type} (ts : List Tk) (z : α) (r : Option (Rs α)) : α × Int × Nat := match allM ts r with
  | some (.ok x _ _) => (x, 0, 0)
  | some (.bad b e) => (z, e, b)
  | none => (z, 0, 0)
def ex0 : Ex := .mk 0 0 ByteArray.empty 0 []
def uz0 : Un := ⟨[], [], []⟩
def exR (ts : List Tk) : Ex × Int × Nat := rdX ts ex0 (exM ts (fu ts) (.ex 1) 0 0)
def unR (ts : List Tk) : Un × Int × Nat := rdX ts uz0 (uniM ts (fu ts) uz0 0 0)
def expP (s : Bs) : Ex × Int := if (scnR s).2 ≠ 0 then (ex0, (scnR s).2) else if (exR (scnR s).1).2.1 ≠ 0 then (ex0, (exR (scnR s).1).2.1) else if esh (exR (scnR s).1).1 64 = true then ((exR (scnR s).1).1, 0) else (ex0, 20)
def uniP (s : Bs) : Un × Int := if (scnR s).2 ≠ 0 then (uz0, (scnR s).2) else if (unR (scnR s).1).2.1 ≠ 0 then (uz0, (unR (scnR s).1).2.1) else if unE (unR (scnR s).1).1 ≠ 0 then (uz0, unE (unR (scnR s).1).1) else ((unR (scnR s).1).1, 0)
def errP (s : Bs) : (Int × Int) × Int := if (scnR s).2 = 3 then (posR (scnR s).1 ((scnR s).1.length - 1), 3) else if (scnR s).2 ≠ 0 then ((0, 0), (scnR s).2)
  else if (unR (scnR s).1).2.1 ≠ 0 then (posR (scnR s).1 (unR (scnR s).1).2.2, (unR (scnR s).1).2.1) else ((0, 0), unE (unR (scnR s).1).1)
theorem scnR_ok (s : Bs) : (∀ t ∈ (scnR s).1, TkOk t) ∧ (scnR s).1.length ≤ 65536 ∧ ((scnR s).2 = 0 ∨ (scnR s).2 = 3 ∨ (scnR s).2 = 6) := by
  unfold scnR
  by_cases h : 65536 < s.length
  · rw [if_pos h]; exact ⟨by simp, by simp, .inr (.inr rfl)⟩
  · rw [if_neg h, scnB_scan]
    refine ⟨scan_ok (by omega), by have := scan_len s; show (scan s).1.length ≤ _; omega, ?_⟩
    show (if (scan s).2 then (0 : Int) else 3) = 0 ∨ (if (scan s).2 then (0 : Int) else 3) = 3 ∨ _
    cases (scan s).2
    · exact .inr (.inl rfl)
    · exact .inl rfl
theorem rdX_cases {α : Type} {ts : List Tk} {z : α} {r : Option (Rs α)} (hs : Sm r) (he : Er ts.length r) (hl : ∀ x a o, r = some (.ok x a o) → a ≤ ts.length) :
    (∃ b e, allM ts r = some (.bad b e) ∧ rdX ts z r = (z, e, b) ∧ (e = 3 ∨ e = 20) ∧ b ≤ ts.length) ∨ ∃ x b p, allM ts r = some (.ok x b p) ∧ rdX ts z r = (x, 0, 0) ∧ r = some (.ok x b p) := by
  obtain ⟨q, hq⟩ := Sm.all (ts := ts) hs
  cases q with
  | bad b e =>
    obtain ⟨h1, h2⟩ := Er.all he hl b e hq; exact .inl ⟨b, e, hq, by unfold rdX; rw [hq], h1, h2⟩
  | ok x b p =>
    refine .inr ⟨x, b, p, hq, by unfold rdX; rw [hq], ?_⟩
    obtain ⟨y, a, o, h1, h2⟩ := rb_ok hq; rcases ite_or h2 with ⟨_, h2⟩ | ⟨_, h2⟩
    · cases h2
    · cases h2; exact h1
theorem exR_cases (ts : List Tk) : (∃ b e, allM ts (exM ts (fu ts) (.ex 1) 0 0) = some (.bad b e) ∧ exR ts = (ex0, e, b) ∧ (e = 3 ∨ e = 20) ∧ b ≤ ts.length) ∨ ∃ x b p, allM ts (exM ts (fu ts) (.ex 1) 0 0) = some (.ok x b p) ∧ exR ts = (x, 0, 0) ∧ exM ts (fu ts) (.ex 1) 0 0 = some (.ok x b p) :=
  rdX_cases ((exM_some ts _).2.1 _ _ _ (by unfold fu; omega)) ((exM_er _).2.1 _ _ _ (Nat.zero_le _)) fun x a o h => (exM_le _).2.1 _ _ _ _ _ _ h
theorem uniM_le {ts : List Tk} : ∀ (f : Nat) {u : Un} {a o : Nat} {v : Un} {b p : Nat}, a ≤ ts.length → uniM ts f u a o = some (.ok v b p) → b ≤ ts.length := by
  intro f
  induction f with
  | zero => intro u a o v b p _ h; cases h
  | succ f ih =>
    intro u a o v b p ha h; rw [uniM] at h; rcases ite_or h with ⟨hk, h⟩ | ⟨hk, h⟩
    · cases h; exact ha
    rcases ite_or h with ⟨hk, h⟩ | ⟨hk, h⟩
    · obtain ⟨x, a1, o1, h1, h⟩ := rb_ok h
      exact ih (varM_ok h1).2.2 h
    rcases ite_or h with ⟨hk, h⟩ | ⟨hk, h⟩
    · obtain ⟨x, a1, o1, h1, h⟩ := rb_ok h
      exact ih (datM_ok h1).2.2 h
    rcases ite_or h with ⟨hk, h⟩ | ⟨hk, h⟩
    · obtain ⟨x, a1, o1, h1, h⟩ := rb_ok h
      exact ih (funM_ok h1).2.2 h
    · cases h
theorem unR_cases (ts : List Tk) : (∃ b e, allM ts (uniM ts (fu ts) uz0 0 0) = some (.bad b e) ∧ unR ts = (uz0, e, b) ∧ (e = 3 ∨ e = 20) ∧ b ≤ ts.length) ∨ ∃ x b p, allM ts (uniM ts (fu ts) uz0 0 0) = some (.ok x b p) ∧ unR ts = (x, 0, 0) ∧ uniM ts (fu ts) uz0 0 0 = some (.ok x b p) :=
  rdX_cases (uniM_some ts _ _ _ _ (by unfold fu; omega)) (uniM_er _ _ _ _ (Nat.zero_le _)) fun x a o h => uniM_le _ (Nat.zero_le _) h
end Go.Proofs.YtmbmmckagcdapaaGreatDoor
namespace Go.Proofs.YtmbmmckagcdapaaGreatDoor
open Go.RowKit
theorem Y60_ZAE : type_of% (AI @F_ag_44 (AI @F_ag_46 (AI @F_al_46 (AI @F_el_44 (AI @F_fl_46_4 (AI @F_sz_44 (@F_sz_46))))))) := AI @F_ag_44 (AI @F_ag_46 (AI @F_al_46 (AI @F_el_44 (AI @F_fl_46_4 (AI @F_sz_44 (@F_sz_46))))))
theorem I1_ZAE : type_of% (AI tkV_id (AI tkL_id (AI (@exV_id) @exL_id))) := (AI tkV_id (AI tkL_id (AI (@exV_id) @exL_id)))
theorem c_levels : ∀ (e : Ex), fitE e → ∀ k : Int, -65536 ≤ k → k ≤ 65536 → PC Tryz.prog 60 [exV e, (.im (.int .i64 (k)))] (.im (.bool (esh e k))) := by
  intro e
  induction e using Ex.induct with
  | h o n s w l ih =>
  intro hf k hk1 hk2
  obtain ⟨hl, hfl⟩ := fitE_mk hf
  have hw := wrap_in (n := k - 1) (by omega)
  by_cases h1 : k < 1
  · have : esh (.mk o n s w l) k = false := by rw [esh_mk]; simp; intro h; omega
    rw [this]; refine PC.enter 22 Tryz.func60 rfl (by decide) rfl rfl (s := [(0, exV (.mk o n s w l)), (1, (.im (.int .i64 (k))))]) (by rfl) ?_
    rw [exV_mk]; refine wG Y60_ZAE h1 ?_; refine Fin.gen0 (rs := [.tmp 4]) rfl (by first | exact .inl rfl | exact .inr rfl) (finG Y60_ZAE) ?_
    all_goals exact wkG I1_ZAE
  refine PC.enter 22 Tryz.func60 rfl (by decide) rfl rfl (s := [(0, exV (.mk o n s w l)), (1, (.im (.int .i64 (k))))]) (by rfl) ?_
  refine wG Y60_ZAE (AI h1 @exV_mk) ?_
  refine AWp.loop ?_
  refine ALp.cutP 0 [(1, (.im (.int .i64 (k)))), (4, (.im (.bool (false)))), (10, .sl (l.map exV) .ro), (11, (.im (.int .i64 (l.length)))), (12, (.im (.int .i64 ((((0 : Nat)) : Int)))))] [] I1_ZAE ?_
  refine ALp.upto l.length (AllTo (fun t => esh t (k - 1)) l) (fun m => ⟨dn 22 [(1, (.im (.int .i64 (k)))), (4, (.im (.bool (false)))), (10, .sl (l.map exV) .ro), (11, (.im (.int .i64 (l.length)))), (12, (.im (.int .i64 ((((m : Nat)) : Int)))))], ofl []⟩) ?_ 0 (Nat.zero_le _) (AllTo.zero _ _)
  intro m hm hI hnext
  by_cases hlt : m < l.length
  · have hlt' : (m : Int) < (l.length : Int) := by omega
    have hm1 := wrap_succ hlt (by omega)
    have hg := get_some hlt; have hc := ih l[m] (List.getElem_mem hlt) (hfl _ (List.getElem_mem hlt)) (k - 1) (by omega) (by omega)
    cases b : esh l[m] (k - 1) with
    | false =>
      rw [b] at hc; have hr : esh (.mk o n s w l) k = false := by rw [esh_mk, not_all_of hlt b, Bool.and_false]
      rw [hr]; refine wG Y60_ZAE (AI hlt' (AI hg (AI (@exV_firm) (AI (@exV_strip) (AI (@exV_live) (AI (@exV_size) (AI (@exV_isAg) (AI (@exV_cells) (AI (@List.getElem?_map.{0, 0}) (AI (@Int.natCast_nonneg) hw)))))))))) ?_; refine AR.callP hc @exV_eq I1_ZAE ?_; refine goG Y60_ZAE True.intro ?_; refine wG Y60_ZAE True.intro ?_; refine Fin.gen0 (rs := [.tmp 4]) rfl (by first | exact .inl rfl | exact .inr rfl) (finG Y60_ZAE) ?_
      all_goals exact wkG I1_ZAE
    | true =>
      rw [b] at hc; refine wG Y60_ZAE (AI hlt' (AI hg (AI (@exV_firm) (AI (@exV_strip) (AI (@exV_live) (AI (@exV_size) (AI (@exV_isAg) (AI (@exV_cells) (AI (@List.getElem?_map.{0, 0}) (AI (@Int.natCast_nonneg) hw)))))))))) ?_; refine AR.callP hc @exV_eq I1_ZAE ?_; refine goG Y60_ZAE True.intro ?_; refine wG Y60_ZAE hm1 ?_; refine ALp.cutP 0 [(1, (.im (.int .i64 (k)))), (4, (.im (.bool (false)))), (10, .sl (l.map exV) .ro), (11, (.im (.int .i64 (l.length)))), (12, (.im (.int .i64 ((((m + 1 : Nat)) : Int)))))] [] I1_ZAE ?_; exact hnext (m + 1) (by omega) (by omega) (hI.succ hlt b)
  obtain rfl : m = l.length := by omega
  clear hnext
  have hall : l.all (fun t => esh t (k - 1)) = true := List.all_eq_true.2 fun x hx => by
    obtain ⟨j, hj, rfl⟩ := List.getElem_of_mem hx; exact hI j hj hj
  have hr : esh (.mk o n s w l) k = true := by rw [esh_mk, hall, Bool.and_true]; exact decide_eq_true (by omega)
  rw [hr]
  have hn : ¬ (l.length : Int) < (l.length : Int) := by omega
  refine wG Y60_ZAE hn ?_
  refine Fin.gen0 (rs := [.tmp 4]) rfl (by first | exact .inl rfl | exact .inr rfl) (finG Y60_ZAE) ?_
  all_goals exact wkG I1_ZAE
theorem t3 : (3 : Int) ≠ 0 := by decide
theorem e_ne {e : Int} (h : e = 3 ∨ e = 20) : e ≠ 0 := by omega
theorem Y22_ZAE : type_of% (AI @F_ag_28 (AI @F_ag_46 (AI @F_al_46 (AI @F_al_61 (AI @F_fl_61_1 (AI @F_st_46 (AI @F_sz_28 (AI @F_sz_46 (@F_sz_61))))))))) := AI @F_ag_28 (AI @F_ag_46 (AI @F_al_46 (AI @F_al_61 (AI @F_fl_61_1 (AI @F_st_46 (AI @F_sz_28 (AI @F_sz_46 (@F_sz_61))))))))
theorem c_Expr (s : Bs) (hs : s.length ≤ 4194304) : PC Tryz.prog 22 [.im (.string ⟨(s).toArray⟩)] (.tu [exV (expP s).1, (.im (.int .i64 ((expP s).2)))]) := by
  have h1 := c_Scan s hs
  obtain ⟨hok, hts, hes⟩ := scnR_ok s
  unfold expP
  generalize scnR s = q at h1 hok hts hes
  obtain ⟨ts, e⟩ := q
  simp only at h1 hok hts hes ⊢
  by_cases he : e = 0
  case neg =>
    rw [if_pos he]; refine PC.enter 33 Tryz.func22 rfl (by decide) rfl rfl (s := [(0, .im (.string ⟨(s).toArray⟩))]) (by rfl) ?_
    refine wG Y22_ZAE True.intro ?_; refine AR.callP h1 True.intro I1_ZAE ?_; refine goG Y22_ZAE True.intro ?_; refine wG Y22_ZAE he ?_; refine Fin.gen0 (rs := [.cell 2 46, .tmp 3]) rfl (by first | exact .inl rfl | exact .inr rfl) (finG Y22_ZAE) ?_
    all_goals exact wkG I1_ZAE
  subst he
  rw [if_neg (by decide)]
  rcases exR_cases ts with ⟨b, e, hz, hx, he, hb⟩ | ⟨x, b, p, hz, hx, hr⟩
  · have h2 := c_parsedE (by omega) _ _ hz
    change PC _ _ _ (.tu [exV (.mk 0 0 ByteArray.empty 0 []), .ag [(.im (.int .i64 ((b : Nat)))), (.im (.int .i64 (e)))]]) at h2; have he : ¬ e = 0 := e_ne he; rw [hx, if_pos he]; refine PC.enter 33 Tryz.func22 rfl (by decide) rfl rfl (s := [(0, .im (.string ⟨(s).toArray⟩))]) (by rfl) ?_
    refine wG Y22_ZAE True.intro ?_; refine AR.callP h1 True.intro I1_ZAE ?_; refine goG Y22_ZAE True.intro ?_; refine wG Y22_ZAE True.intro ?_; refine AR.callP h2 True.intro I1_ZAE ?_; refine goG Y22_ZAE BN02 ?_; refine wdG Y22_ZAE he ?_; refine Fin.gen0 (rs := [.cell 2 46, .tmp 3]) rfl (by first | exact .inl rfl | exact .inr rfl) (finG Y22_ZAE) ?_
    all_goals exact wkG I1_ZAE
  have h2 := c_parsedE (by omega) _ _ hz
  change PC _ _ _ (.tu [exV x, .ag [(.im (.int .i64 (0))), (.im (.int .i64 (0)))]]) at h2
  have hf := (exM_fit hok _).2.1 _ _ _ _ _ _ hr
  have h3 := c_levels x hf 64 (by decide) (by decide)
  rw [hx, if_neg (fun h => h rfl)]
  simp only
  cases hl : esh x 64 with
  | true =>
    rw [hl] at h3; rw [if_pos rfl]; refine PC.enter 33 Tryz.func22 rfl (by decide) rfl rfl (s := [(0, .im (.string ⟨(s).toArray⟩))]) (by rfl) ?_
    refine wG Y22_ZAE True.intro ?_; refine AR.callP h1 True.intro I1_ZAE ?_; refine goG Y22_ZAE True.intro ?_; refine wG Y22_ZAE True.intro ?_; refine AR.callP h2 True.intro I1_ZAE ?_; refine goG Y22_ZAE BN02 ?_; refine wG Y22_ZAE BN02 ?_; refine AR.callP h3 @exV_eq I1_ZAE ?_; refine goG Y22_ZAE True.intro ?_; refine wG Y22_ZAE True.intro ?_; refine Fin.gen0 (rs := [.cell 2 46, .tmp 3]) rfl (by first | exact .inl rfl | exact .inr rfl) (finG Y22_ZAE) ?_
    rw [exV_eq x]
    all_goals exact wkG I1_ZAE
  | false =>
    rw [hl] at h3; rw [if_neg (by decide)]
    refine PC.enter 33 Tryz.func22 rfl (by decide) rfl rfl (s := [(0, .im (.string ⟨(s).toArray⟩))]) (by rfl) ?_
    refine wG Y22_ZAE True.intro ?_; refine AR.callP h1 True.intro I1_ZAE ?_; refine goG Y22_ZAE True.intro ?_; refine wG Y22_ZAE True.intro ?_; refine AR.callP h2 True.intro I1_ZAE ?_; refine goG Y22_ZAE BN02 ?_; refine wG Y22_ZAE BN02 ?_; refine AR.callP h3 @exV_eq I1_ZAE ?_; refine goG Y22_ZAE True.intro ?_; refine wG Y22_ZAE True.intro ?_; refine Fin.gen0 (rs := [.cell 2 46, .tmp 3]) rfl (by first | exact .inl rfl | exact .inr rfl) (finG Y22_ZAE) ?_
    all_goals exact wkG I1_ZAE
theorem c_CheckUnitV (u : Un) (hu : fitU u) : PC Tryz.prog 15 [.ag [.sl (u.globals.map vaV) .ro, .sl (u.data.map scV) .ro, .sl (u.funcs.map fnV) .ro]] (.im (.int .i64 (unE u))) := c_CheckUnit u hu
theorem I1_ZAF : type_of% (AI tkV_id (AI tkL_id (AI (@vaV_id) (AI (@vaL_id) (AI scV_id (AI scL_id (AI fnV_id (AI fnL_id (AI ndLs_id unV_id))))))))) := (AI tkV_id (AI tkL_id (AI (@vaV_id) (AI (@vaL_id) (AI scV_id (AI scL_id (AI fnV_id (AI fnL_id (AI ndLs_id unV_id)))))))))
theorem Y13_ZAF : type_of% (AI @F_ag_27 (AI @F_ag_28 (AI @F_al_27 (AI @F_al_61 (AI @F_fl_61_1 (AI @F_st_27 (AI @F_sz_27 (AI @F_sz_28 (@F_sz_61))))))))) := AI @F_ag_27 (AI @F_ag_28 (AI @F_al_27 (AI @F_al_61 (AI @F_fl_61_1 (AI @F_st_27 (AI @F_sz_27 (AI @F_sz_28 (@F_sz_61))))))))
theorem c_Unit (s : Bs) (hs : s.length ≤ 4194304) : PC Tryz.prog 13 [.im (.string ⟨(s).toArray⟩)] (.tu [unV (uniP s).1, (.im (.int .i64 ((uniP s).2)))]) := by
  have h1 := c_Scan s hs
  obtain ⟨hok, hts, hes⟩ := scnR_ok s
  unfold uniP
  generalize scnR s = q at h1 hok hts hes
  obtain ⟨ts, e⟩ := q
  simp only at h1 hok hts hes ⊢
  by_cases he : e = 0
  case neg =>
    rw [if_pos he]; refine PC.enter 36 Tryz.func13 rfl (by decide) rfl rfl (s := [(0, .im (.string ⟨(s).toArray⟩))]) (by rfl) ?_
    refine wG Y13_ZAF True.intro ?_; refine AR.callP h1 True.intro I1_ZAF ?_; refine goG Y13_ZAF True.intro ?_; refine wG Y13_ZAF he ?_; refine Fin.gen0 (rs := [.cell 2 27, .tmp 3]) rfl (by first | exact .inl rfl | exact .inr rfl) (finG Y13_ZAF) ?_
    all_goals exact wkG I1_ZAF
  subst he
  rw [if_neg (by decide)]
  rcases unR_cases ts with ⟨b, e, hz, hx, he, hb⟩ | ⟨x, b, p, hz, hx, hr⟩
  · have h2 := c_parsedU (by omega) hok _ _ hz
    change PC _ _ _ (.tu [unV ⟨[], [], []⟩, .ag [(.im (.int .i64 ((b : Nat)))), (.im (.int .i64 (e)))]]) at h2; have he : ¬ e = 0 := e_ne he; rw [hx, if_pos he]; refine PC.enter 36 Tryz.func13 rfl (by decide) rfl rfl (s := [(0, .im (.string ⟨(s).toArray⟩))]) (by rfl) ?_
    refine wG Y13_ZAF True.intro ?_; refine AR.callP h1 True.intro I1_ZAF ?_; refine goG Y13_ZAF True.intro ?_; refine wG Y13_ZAF True.intro ?_; refine AR.callP h2 True.intro I1_ZAF ?_; refine goG Y13_ZAF UNT ?_; refine wdG Y13_ZAF he ?_; refine Fin.gen0 (rs := [.cell 2 27, .tmp 3]) rfl (by first | exact .inl rfl | exact .inr rfl) (finG Y13_ZAF) ?_
    all_goals exact wkG I1_ZAF
  have h2 := c_parsedU (by omega) hok _ _ hz
  change PC _ _ _ (.tu [unV x, .ag [(.im (.int .i64 (0))), (.im (.int .i64 (0)))]]) at h2
  have h3 := c_CheckUnitV x (uniM_fit0 hok hts hr)
  rw [hx, if_neg (fun h => h rfl)]
  simp only
  by_cases hu : unE x = 0
  case neg =>
    rw [if_pos hu]; refine PC.enter 36 Tryz.func13 rfl (by decide) rfl rfl (s := [(0, .im (.string ⟨(s).toArray⟩))]) (by rfl) ?_
    refine wG Y13_ZAF True.intro ?_; refine AR.callP h1 True.intro I1_ZAF ?_; refine goG Y13_ZAF True.intro ?_; refine wG Y13_ZAF True.intro ?_; refine AR.callP h2 True.intro I1_ZAF ?_; refine goG Y13_ZAF UNT ?_; refine wG Y13_ZAF UNT ?_; refine AR.callP h3 True.intro I1_ZAF ?_; refine goG Y13_ZAF True.intro ?_; refine wG Y13_ZAF hu ?_; refine Fin.gen0 (rs := [.cell 2 27, .tmp 3]) rfl (by first | exact .inl rfl | exact .inr rfl) (finG Y13_ZAF) ?_
    all_goals exact wkG I1_ZAF
  rw [if_neg (fun h => h hu)]
  rw [hu] at h3
  refine PC.enter 36 Tryz.func13 rfl (by decide) rfl rfl (s := [(0, .im (.string ⟨(s).toArray⟩))]) (by rfl) ?_
  refine wG Y13_ZAF True.intro ?_
  refine AR.callP h1 True.intro I1_ZAF ?_
  refine goG Y13_ZAF True.intro ?_
  refine wG Y13_ZAF True.intro ?_
  refine AR.callP h2 True.intro I1_ZAF ?_
  refine goG Y13_ZAF UNT ?_
  refine wG Y13_ZAF UNT ?_
  refine AR.callP h3 True.intro I1_ZAF ?_
  refine goG Y13_ZAF True.intro ?_
  refine wG Y13_ZAF True.intro ?_
  refine Fin.gen0 (rs := [.cell 2 27, .tmp 3]) rfl (by first | exact .inl rfl | exact .inr rfl) (finG Y13_ZAF) ?_
  rw [unV_eq x]
  all_goals exact wkG I1_ZAF
theorem Y25_ZAF : type_of% (AI @F_ag_27 (AI @F_ag_28 (AI @F_ag_3 (AI @F_al_27 (AI @F_al_61 (AI @F_el_52 (AI @F_fl_61_0 (AI @F_fl_61_1 (AI @F_sz_122 (AI @F_sz_27 (AI @F_sz_28 (AI @F_sz_3 (@F_sz_61))))))))))))) := AI @F_ag_27 (AI @F_ag_28 (AI @F_ag_3 (AI @F_al_27 (AI @F_al_61 (AI @F_el_52 (AI @F_fl_61_0 (AI @F_fl_61_1 (AI @F_sz_122 (AI @F_sz_27 (AI @F_sz_28 (AI @F_sz_3 (@F_sz_61))))))))))))
theorem c_ErrorAt (s : Bs) (hs : s.length ≤ 4194304) : PC Tryz.prog 25 [.im (.string ⟨(s).toArray⟩)] (.tu [(.im (.int .i64 ((errP s).1.1))), (.im (.int .i64 ((errP s).1.2))), (.im (.int .i64 ((errP s).2)))]) := by
  have h1 := c_Scan s hs
  obtain ⟨hok, hts, hes⟩ := scnR_ok s
  unfold errP
  generalize scnR s = q at h1 hok hts hes
  obtain ⟨ts, e⟩ := q
  simp only at h1 hok hts hes ⊢
  by_cases he3 : e = 3
  · subst he3
    rw [if_pos rfl]; have hw := wrap_in (n := (ts.length : Int) - 1) (by omega)
    have h2 := c_Position ts ((ts.length : Int) - 1) (by omega)
    refine PC.enter 55 Tryz.func25 rfl (by decide) rfl rfl (s := [(0, .im (.string ⟨(s).toArray⟩))]) (by rfl) ?_
    refine wG Y25_ZAF True.intro ?_; refine AR.callP h1 True.intro I1_ZAF ?_; refine goG Y25_ZAF True.intro ?_; refine wG Y25_ZAF (AI hw @List.length_map.{0, 0}) ?_; refine AR.callP h2 True.intro I1_ZAF ?_; refine goG Y25_ZAF True.intro ?_; refine wG Y25_ZAF True.intro ?_; refine Fin.gen0 (rs := [.tmp 2, .tmp 3, .tmp 4]) rfl (by first | exact .inl rfl | exact .inr rfl) (finG Y25_ZAF) ?_
    all_goals exact wkG I1_ZAF
  rw [if_neg he3]
  by_cases he : e = 0
  case neg =>
    rw [if_pos he]; refine PC.enter 55 Tryz.func25 rfl (by decide) rfl rfl (s := [(0, .im (.string ⟨(s).toArray⟩))]) (by rfl) ?_
    refine wG Y25_ZAF True.intro ?_; refine AR.callP h1 True.intro I1_ZAF ?_; refine goG Y25_ZAF True.intro ?_; refine wG Y25_ZAF (AI he he3) ?_; refine Fin.gen0 (rs := [.tmp 2, .tmp 3, .tmp 4]) rfl (by first | exact .inl rfl | exact .inr rfl) (finG Y25_ZAF) ?_
    all_goals exact wkG I1_ZAF
  subst he
  rw [if_neg (by decide)]
  rcases unR_cases ts with ⟨b, e, hz, hx, he, hb⟩ | ⟨x, b, p, hz, hx, hr⟩
  · have h2 := c_parsedU (by omega) hok _ _ hz
    change PC _ _ _ (.tu [unV ⟨[], [], []⟩, .ag [(.im (.int .i64 ((b : Nat)))), (.im (.int .i64 (e)))]]) at h2; have he : ¬ e = 0 := e_ne he; have h3 := c_Position ts (b : Int) (by omega)
    rw [hx, if_pos he]; refine PC.enter 55 Tryz.func25 rfl (by decide) rfl rfl (s := [(0, .im (.string ⟨(s).toArray⟩))]) (by rfl) ?_
    refine wG Y25_ZAF True.intro ?_; refine AR.callP h1 True.intro I1_ZAF ?_; refine goG Y25_ZAF True.intro ?_; refine wG Y25_ZAF True.intro ?_; refine AR.callP h2 True.intro I1_ZAF ?_; refine goG Y25_ZAF UNT ?_; refine wG Y25_ZAF he ?_; refine AR.callP h3 True.intro I1_ZAF ?_; refine goG Y25_ZAF True.intro ?_; refine wdG Y25_ZAF True.intro ?_; refine Fin.gen0 (rs := [.tmp 2, .tmp 3, .tmp 4]) rfl (by first | exact .inl rfl | exact .inr rfl) (finG Y25_ZAF) ?_
    all_goals exact wkG I1_ZAF
  have h2 := c_parsedU (by omega) hok _ _ hz
  change PC _ _ _ (.tu [unV x, .ag [(.im (.int .i64 (0))), (.im (.int .i64 (0)))]]) at h2
  have h3 := c_CheckUnitV x (uniM_fit0 hok hts hr)
  rw [hx, if_neg (fun h => h rfl)]
  simp only
  refine PC.enter 55 Tryz.func25 rfl (by decide) rfl rfl (s := [(0, .im (.string ⟨(s).toArray⟩))]) (by rfl) ?_
  refine wG Y25_ZAF True.intro ?_
  refine AR.callP h1 True.intro I1_ZAF ?_
  refine goG Y25_ZAF True.intro ?_
  refine wG Y25_ZAF True.intro ?_
  refine AR.callP h2 True.intro I1_ZAF ?_
  refine goG Y25_ZAF UNT ?_
  refine wG Y25_ZAF UNT ?_
  refine AR.callP h3 True.intro I1_ZAF ?_
  refine goG Y25_ZAF True.intro ?_
  refine wG Y25_ZAF True.intro ?_
  refine Fin.gen0 (rs := [.tmp 2, .tmp 3, .tmp 4]) rfl (by first | exact .inl rfl | exact .inr rfl) (finG Y25_ZAF) ?_
  all_goals exact wkG I1_ZAF
def nmX (s : Bs) : Ex := .mk 2 0 ⟨s.toArray⟩ 0 []
def coX (n : Int) : Ex := .mk 1 n ByteArray.empty 0 []
def twX (o : Int) (a b : Ex) : Ex := .mk o 0 ByteArray.empty 0 [a, b]
def s1X : Bs := [114, 48, 32, 45, 32, 49, 32, 45, 32, 114, 49, 32, 42, 32, 50]
def s2X : Bs := [45, 114, 48, 32, 42, 32, 50]
def s3X : Bs := [114, 48, 32, 43]
def s4X : Bs := [102, 117, 110, 99, 32, 109, 97, 105, 110, 32, 123, 32, 114, 48, 32, 61, 32, 49, 59, 32, 104, 97, 108, 116, 59, 32, 125]
def s5X : Bs := [118, 97, 114, 32, 114, 48, 58, 32, 117, 105, 110, 116, 51, 50, 59, 32, 102, 117, 110, 99, 32, 109, 97, 105, 110, 32, 123, 32, 114, 48, 32, 61, 32, 49, 59, 32, 104, 97, 108, 116, 59, 32, 125]
def s6X : Bs := [102, 117, 110, 99, 32, 102, 32, 123, 10, 32, 32, 104, 97, 108, 116, 10, 125]
theorem e1X : expP s1X = (twX 4 (twX 4 (nmX [114, 48]) (coX 1)) (twX 5 (nmX [114, 49]) (coX 2)), 0) := by kernel_rfl
theorem e2X : expP s2X = (twX 5 (mkU 17 0 (nmX [114, 48])) (coX 2), 0) := by kernel_rfl
theorem e3X : expP s3X = (ex0, 3) := by kernel_rfl
theorem e4X : uniP s4X = (uz0, 17) := by kernel_rfl
def v5X : Va := ⟨⟨#[114, 48]⟩, .mk 0 2 4 0 [] []⟩
def f5X : Fun := ⟨⟨#[109, 97, 105, 110]⟩, [], [.mk 1 0 ⟨#[114, 48]⟩ [coX 1] [] [] [], .mk 15 0 ByteArray.empty [] [] [] []]⟩
theorem e5X : uniP s5X = (⟨[v5X], [], [f5X]⟩, 0) := by kernel_rfl
theorem e6X : errP s6X = ((3, 1), 3) := by kernel_rfl
theorem Y12_ZAG : type_of% (AI @F_ag_23 (AI @F_ag_25 (AI @F_ag_3 (AI @F_ag_44 (AI @F_al_27 (AI @F_al_46 (AI @F_el_23 (AI @F_el_25 (AI @F_el_44 (AI @F_fl_27_0 (AI @F_fl_27_2 (AI @F_fl_46_0 (AI @F_fl_46_4 (AI @F_sz_23 (AI @F_sz_25 (AI @F_sz_27 (AI @F_sz_3 (AI @F_sz_37 (AI @F_sz_44 (AI @F_sz_46 (@F_sz_96))))))))))))))))))))) := AI @F_ag_23 (AI @F_ag_25 (AI @F_ag_3 (AI @F_ag_44 (AI @F_al_27 (AI @F_al_46 (AI @F_el_23 (AI @F_el_25 (AI @F_el_44 (AI @F_fl_27_0 (AI @F_fl_27_2 (AI @F_fl_46_0 (AI @F_fl_46_4 (AI @F_sz_23 (AI @F_sz_25 (AI @F_sz_27 (AI @F_sz_3 (AI @F_sz_37 (AI @F_sz_44 (AI @F_sz_46 (@F_sz_96))))))))))))))))))))
theorem I1_ZAG : type_of% (AI tkV_id (AI tkL_id (AI (@exV_id) (AI (@exL_id) (AI (@vaV_id) (AI (@vaL_id) (AI scV_id (AI scL_id (AI fnV_id (AI fnL_id (AI ndLs_id unV_id))))))))))) := (AI tkV_id (AI tkL_id (AI (@exV_id) (AI (@exL_id) (AI (@vaV_id) (AI (@vaL_id) (AI scV_id (AI scL_id (AI fnV_id (AI fnL_id (AI ndLs_id unV_id)))))))))))
set_option maxRecDepth 4000 in
set_option maxHeartbeats 4000000 in
theorem c_exH : PC Tryz.prog 12 [] (.im (.bool (true))) := by
  have h1 := c_Expr s1X (by decide)
  have h2 := c_Expr s2X (by decide)
  have h3 := c_Expr s3X (by decide)
  have h4 := c_Unit s4X (by decide)
  have h5 := c_Unit s5X (by decide)
  have h6 := c_ErrorAt s6X (by decide)
  rw [e1X] at h1
  rw [e2X] at h2
  rw [e3X] at h3
  rw [e4X] at h4
  rw [e5X] at h5
  rw [e6X] at h6
  simp only [twX, nmX, coX, mkU, ex0, exV_mk, List.map_cons, List.map_nil, unV_eq, uz0] at h1 h2 h3 h4 h5 h6
  unfold s1X at h1
  unfold s2X at h2
  unfold s3X at h3
  unfold s4X at h4
  unfold s5X at h5
  unfold s6X at h6
  generalize vaV v5X = va at h5
  generalize fnV f5X = fa at h5
  refine PC.enter 127 Tryz.func12 rfl (by decide) rfl rfl (s := []) (by rfl) ?_
  simp only [List.append]
  refine wG Y12_ZAG True.intro ?_
  refine AR.callP h1 True.intro I1_ZAG ?_
  refine goG Y12_ZAG True.intro ?_
  refine wG Y12_ZAG True.intro ?_
  refine AR.callP h2 True.intro I1_ZAG ?_
  refine goG Y12_ZAG True.intro ?_
  refine wG Y12_ZAG True.intro ?_
  refine AR.callP h3 True.intro I1_ZAG ?_
  refine goG Y12_ZAG True.intro ?_
  refine wG Y12_ZAG True.intro ?_
  refine AR.callP h4 True.intro I1_ZAG ?_
  refine goG Y12_ZAG True.intro ?_
  refine wG Y12_ZAG True.intro ?_
  refine AR.callP h5 True.intro I1_ZAG ?_
  refine goG Y12_ZAG True.intro ?_
  refine wG Y12_ZAG True.intro ?_
  refine AR.callP h6 True.intro I1_ZAG ?_
  refine goG Y12_ZAG True.intro ?_
  refine wG Y12_ZAG True.intro ?_
  refine Fin.gen0 (rs := [.tmp 0]) rfl (by first | exact .inl rfl | exact .inr rfl) (finG Y12_ZAG) ?_
  all_goals exact wkG I1_ZAG
end Go.Proofs.YtmbmmckagcdapaaGreatDoor
namespace Go.Proofs.YtmbmmckagcdapaaGreatDoor
def tailC : Bs := [10, 47, 47, 32, 99, 111, 109, 109, 101, 110, 116]
def frontC : Bs := [10, 9, 47, 47, 32, 99, 111, 109, 109, 101, 110, 116, 10]
theorem skp_tailC : ∀ (b : Bool) (s : Bs), skpG b (s ++ tailC) = if skpG b s = [] then [] else skpG b s ++ tailC
  | true, [] => rfl
  | false, [] => rfl
  | true, c :: r => by
    rw [List.cons_append, skpG, skpG]; split
    · exact skp_tailC false r
    · exact skp_tailC true r
  | false, c :: r => by
    rw [List.cons_append, skpG, skpG]; split
    · exact skp_tailC false r
    rename_i q
    by_cases q2 : c.toNat = 47 ∧ r.head? = some 47
    · rw [if_pos q2, if_pos ⟨q2.1, by cases r with | nil => cases q2.2 | cons d r => exact q2.2⟩]
      exact skp_tailC true r
    · rw [if_neg q2, if_neg (fun h => q2 ⟨h.1, by cases r with | nil => cases h.2 | cons d r => exact h.2⟩), if_neg (by simp)]
      rfl
theorem scn_tailC : ∀ (f : Nat) (s : Bs) (p : Int × Int), s.length < f → (scnG f s p).2 = true → (scnG f (s ++ tailC) p).2 = true ∧ (scnG f (s ++ tailC) p).1.map core = (scnG f s p).1.map core
  | 0, s, p, hf, h => by omega
  | f + 1, s, p, hf, h => by
    rw [scnG] at h; rw [scnG, scnG, skp_tailC]
    by_cases q : skpG false s = []
    · rw [if_pos q, if_pos rfl, if_pos q]
      exact ⟨rfl, rfl⟩
    rw [if_neg q] at h; rw [if_neg q, if_neg (by simp [q]), if_neg q]
    cases hk : tokP (skpG false s) with
    | none => rw [hk] at h; cases h
    | some x =>
      obtain ⟨t, n⟩ := x; rw [hk] at h; have h1 := tokP_len hk; have h2 := skp_le false s; rw [tokP_tail hk (show sepB tailC = true from rfl)]
      simp only; rw [List.drop_append_of_le_length h1.2, List.take_append_of_le_length h1.2]
      have key : ∀ p q : Int × Int, (scnG f ((skpG false s).drop n) p).2 = true → (scnG f ((skpG false s).drop n ++ tailC) q).2 = true ∧ (scnG f ((skpG false s).drop n ++ tailC) q).1.map core = (scnG f ((skpG false s).drop n) p).1.map core := fun p q h => by
        have e := scn_tail.scnG_pos f ((skpG false s).drop n) p q; obtain ⟨k1, k2⟩ := scn_tailC f ((skpG false s).drop n) q (by rw [List.length_drop]; omega) (by rw [← e.2]; exact h)
        exact ⟨k1, k2.trans e.1.symm⟩
      obtain ⟨k1, k2⟩ := key _ (advs (skq (s ++ tailC) p) ((skpG false s).take n)) h; refine ⟨k1, ?_⟩; rw [List.map_cons, List.map_cons, k2]; rfl
theorem scan_around {s : Bs} (h : (scan s).2 = true) : (scan (frontC ++ (s ++ tailC))).2 = true ∧ (scan (frontC ++ (s ++ tailC))).1.map core = (scan s).1.map core := by
  unfold scan at h ⊢
  have e : frontC ++ (s ++ tailC) = [10, 9] ++ (47 :: 47 :: ([32, 99, 111, 109, 109, 101, 110, 116] ++ 10 :: (s ++ tailC))) := rfl
  have hl : (frontC ++ (s ++ tailC)).length = s.length + 24 := by simp [frontC, tailC]
  rw [hl, e, scnG_blanks [10, 9] (by decide), scnG_comment _ (by decide)]
  have e2 := fun q => scn_tail.scnG_pos (s.length + 24 + 1) s (1, 1) q
  rw [scnG_fuel (s.length + 1) (s.length + 24 + 1) s _ (by omega) (by omega)] at h ⊢
  generalize advs (advs (1, 1) [10, 9]) _ = q
  have k := scn_tailC (s.length + 24 + 1) s q (by omega) (by rw [← (e2 q).2]; exact h)
  exact ⟨k.1, k.2.trans (e2 q).1.symm⟩
theorem uniP_core {s t : Bs} (hs : s.length ≤ 65536) (ht : t.length ≤ 65536) (h1 : (scan s).2 = true) (h2 : (scan t).2 = true) (h : (scan t).1.map core = (scan s).1.map core) : uniP t = uniP s := by
  have e1 : scnR s = ((scan s).1, 0) := by unfold scnR; rw [if_neg (by omega), scnB_scan]; show ((scan s).1, if (scan s).2 then (0 : Int) else 3) = _; rw [h1]; rfl
  have e2 : scnR t = ((scan t).1, 0) := by unfold scnR; rw [if_neg (by omega), scnB_scan]; show ((scan t).1, if (scan t).2 then (0 : Int) else 3) = _; rw [h2]; rfl
  have e3 : unR (scan t).1 = unR (scan s).1 := by
    unfold unR rdX fu; rw [cz_len h, cz_all h, cz_uni h]
  unfold uniP
  rw [e1, e2]
  simp only [e3]
theorem uniP_print {s : Bs} (hs : s.length ≤ 1500) (h : (scan s).2 = true) : uniP (prn (scan s).1) = uniP s := by
  obtain ⟨h1, h2, _⟩ := round_trip h
  have := scan_prn_len s
  exact uniP_core (by omega) (by omega) h h1 h2
theorem uniP_around {s : Bs} (hs : s.length ≤ 1500) (h : (scan s).2 = true) : uniP (frontC ++ (s ++ tailC)) = uniP s := by
  obtain ⟨h1, h2⟩ := scan_around h
  exact uniP_core (by omega) (by simp [frontC, tailC]; omega) h h1 h2
theorem pk_lenI {ts : List Tk} (hok : ∀ t ∈ ts, TkOk t) (a : Nat) : (pk ts a).text.length ≤ 4194304 := by
  unfold pk List.getD
  cases h : ts[a]? with
  | none => exact Nat.zero_le _
  | some t => exact (hok t (List.mem_of_getElem? h)).2
theorem datM_data {ts : List Tk} (hok : ∀ t ∈ ts, TkOk t) {a o : Nat} {v : Sec} {b p : Nat} (h : datM ts a o = some (.ok v b p)) : v.data.length ≤ 4194304 := by
  obtain ⟨_, a1, o1, h1, h⟩ := rb_ok h
  obtain ⟨n, a2, o2, h2, h⟩ := rb_ok h
  obtain ⟨_, a3, o3, h3, h⟩ := rb_ok h
  obtain ⟨_, a4, o4, h4, h⟩ := rb_ok h
  obtain ⟨_, a5, o5, h5, h⟩ := rb_ok h
  obtain ⟨_, a6, o6, h6, h⟩ := rb_ok h
  obtain ⟨q, a7, o7, h7, h⟩ := rb_ok h
  obtain ⟨_, a8, o8, h8, h⟩ := rb_ok h
  cases h
  show q.text.length ≤ _
  rw [(takM_ok h7).2.1]
  exact pk_lenI hok _
theorem uniM_data {ts : List Tk} (hok : ∀ t ∈ ts, TkOk t) : ∀ (f : Nat) {u : Un} {a o : Nat} {v : Un} {b p : Nat}, (∀ s ∈ u.data, s.data.length ≤ 4194304) → uniM ts f u a o = some (.ok v b p) → ∀ s ∈ v.data, s.data.length ≤ 4194304 := by
  intro f
  induction f with
  | zero => intro u a o v b p _ h; cases h
  | succ f ih =>
    intro u a o v b p hd h; rw [uniM] at h; rcases ite_or h with ⟨hk, h⟩ | ⟨hk, h⟩
    · cases h; exact hd
    rcases ite_or h with ⟨hk, h⟩ | ⟨hk, h⟩
    · obtain ⟨x, a1, o1, h1, h⟩ := rb_ok h
      exact ih (u := ⟨u.globals ++ [x], u.data, u.funcs⟩) hd h
    rcases ite_or h with ⟨hk, h⟩ | ⟨hk, h⟩
    · obtain ⟨x, a1, o1, h1, h⟩ := rb_ok h
      refine ih (u := ⟨u.globals, u.data ++ [x], u.funcs⟩) (fun y hy => ?_) h
      rcases List.mem_append.1 hy with hy | hy
      · exact hd y hy
      · simp at hy; rw [hy]; exact datM_data hok h1
    rcases ite_or h with ⟨hk, h⟩ | ⟨hk, h⟩
    · obtain ⟨x, a1, o1, h1, h⟩ := rb_ok h
      exact ih (u := ⟨u.globals, u.data, u.funcs ++ [x]⟩) hd h
    · cases h
theorem uz0_fit : fitU uz0 := ⟨by simp [uz0], (by intro y hy; cases hy), by simp [uz0], (by intro y hy; cases hy), by simp [uz0], by intro y hy; cases hy⟩
theorem uniP_fit (s : Bs) : fitU (uniP s).1 ∧ ∀ x ∈ (uniP s).1.data, x.data.length ≤ 4194304 := by
  have hz : fitU uz0 ∧ ∀ x ∈ uz0.data, x.data.length ≤ 4194304 := ⟨uz0_fit, by intro y hy; cases hy⟩
  obtain ⟨hok, hts, _⟩ := scnR_ok s
  unfold uniP
  split
  · exact hz
  split
  · exact hz
  split
  · exact hz
  rcases unR_cases (scnR s).1 with ⟨b, e, _, hx, _, _⟩ | ⟨x, b, p, _, hx, hr⟩
  · rw [hx]; exact hz
  · rw [hx]; exact ⟨uniM_fit0 hok hts hr, uniM_data hok _ (by intro y hy; cases hy) hr⟩
end Go.Proofs.YtmbmmckagcdapaaGreatDoor
namespace Go.Proofs.YtmbmmckagcdapaaGreatDoor
open Go.RowKit
theorem Y9_ZC3 : type_of% (AI @F_ag_27 (AI @F_al_27 (AI @F_sz_27 (@F_un_9)))) := AI @F_ag_27 (AI @F_al_27 (AI @F_sz_27 (@F_un_9)))
theorem I1_ZC3 : type_of% (AI tkV_id (AI tkL_id (AI (@exV_id) (AI (@exL_id) (AI (@vaV_id) (AI (@vaL_id) (AI scV_id (AI scL_id (AI fnV_id (AI fnL_id (AI ndLs_id unV_id))))))))))) := (AI tkV_id (AI tkL_id (AI (@exV_id) (AI (@exL_id) (AI (@vaV_id) (AI (@vaL_id) (AI scV_id (AI scL_id (AI fnV_id (AI fnL_id (AI ndLs_id unV_id)))))))))))
theorem c_space (s : Bs) (hs : s.length ≤ 140737488355328) : PC Tryz.prog 9 [.im (.string ⟨(s).toArray⟩)] (.im (.bool (true))) := by
  have qe := c_exH
  by_cases hf : 1500 < s.length
  · have hf' : (s.length : Int) > 1500 := by omega
    refine PC.enter 62 Tryz.func9 rfl (by decide) rfl rfl (s := [(0, .im (.string ⟨(s).toArray⟩))]) (by rfl) ?_
    refine wG Y9_ZC3 (AI BY hf') ?_; refine AR.callP qe True.intro I1_ZC3 ?_; refine goG Y9_ZC3 True.intro ?_; refine wG Y9_ZC3 True.intro ?_; exact Fin.oneP
  have hf' : ¬ (s.length : Int) > 1500 := by omega
  have q1 := c_Scan s (by omega)
  have e1 : scnR s = ((scan s).1, if (scan s).2 then 0 else 3) := by unfold scnR; rw [if_neg (by omega), scnB_scan]
  rw [e1] at q1
  have hlen := scan_len s
  cases hb : (scan s).2 with
  | false =>
    rw [hb] at q1; generalize (scan s).1 = l at q1 hlen; change PC _ _ _ (.tu [_, .im (.int .i64 3)]) at q1; refine PC.enter 62 Tryz.func9 rfl (by decide) rfl rfl (s := [(0, .im (.string ⟨(s).toArray⟩))]) (by rfl) ?_
    refine wG Y9_ZC3 (AI BY hf') ?_; refine AR.callP q1 True.intro I1_ZC3 ?_; refine goG Y9_ZC3 True.intro ?_; refine wG Y9_ZC3 True.intro ?_; refine AR.callP qe True.intro I1_ZC3 ?_; refine goG Y9_ZC3 True.intro ?_; refine wG Y9_ZC3 True.intro ?_; exact Fin.oneP
  | true =>
  rw [hb] at q1
  change PC _ _ _ (.tu [_, .im (.int .i64 0)]) at q1
  have hpl := scan_prn_len s
  have q2 := c_Print (scan s).1 (by omega) (scan_ok (by omega)) (by omega)
  have u0 := c_Unit s (by omega)
  have u1 := c_Unit (prn (scan s).1) (by omega)
  have u2 := c_Unit (frontC ++ (s ++ tailC)) (by simp [frontC, tailC]; omega)
  rw [uniP_print (by omega) hb] at u1
  rw [uniP_around (by omega) hb] at u2
  rw [← List.append_assoc] at u2
  have hap1 : ByteArray.mk #[10, 9, 47, 47, 32, 99, 111, 109, 109, 101, 110, 116, 10] ++ ByteArray.mk s.toArray = ByteArray.mk (frontC ++ s).toArray := bS_append frontC s
  have hap2 : ByteArray.mk (frontC ++ s).toArray ++ ByteArray.mk #[10, 47, 47, 32, 99, 111, 109, 109, 101, 110, 116] = ByteArray.mk (frontC ++ s ++ tailC).toArray := bS_append (frontC ++ s) tailC
  have hsz1 : (ByteArray.mk #[10, 9, 47, 47, 32, 99, 111, 109, 109, 101, 110, 116, 10]).size + (ByteArray.mk s.toArray).size ≤ 9223372036854775807 := by rw [bS_size, bS_size]; show 13 + s.length ≤ 9223372036854775807; omega
  have hsz2 : (ByteArray.mk (frontC ++ s).toArray).size + (ByteArray.mk #[10, 47, 47, 32, 99, 111, 109, 109, 101, 110, 116]).size ≤ 9223372036854775807 := by rw [bS_size, bS_size, List.length_append]; show 13 + s.length + 11 ≤ 9223372036854775807; omega
  obtain ⟨hu, hd⟩ := uniP_fit s
  have qs := c_sameU _ hu hd
  generalize (scan s).1 = l at q1 q2 u1 hlen hpl
  generalize prn l = p at q2 u1 hpl
  generalize uniP s = r at u0 u1 u2 qs
  obtain ⟨u, e⟩ := r
  simp only at u0 u1 u2 qs
  refine PC.enter 62 Tryz.func9 rfl (by decide) rfl rfl (s := [(0, .im (.string ⟨(s).toArray⟩))]) (by rfl) ?_
  refine wG Y9_ZC3 (AI BY hf') ?_
  refine AR.callP q1 True.intro I1_ZC3 ?_
  refine goG Y9_ZC3 True.intro ?_
  refine wG Y9_ZC3 True.intro ?_
  generalize frontC ++ s ++ tailC = x2 at u2 hap2
  generalize frontC ++ s = x1 at hap1 hap2 hsz2
  refine AR.callP u0 True.intro I1_ZC3 ?_
  refine goG Y9_ZC3 UNT ?_
  refine wG Y9_ZC3 UNT ?_
  refine AR.callP q2 True.intro I1_ZC3 ?_
  refine goG Y9_ZC3 True.intro ?_
  refine AR.callP u1 True.intro I1_ZC3 ?_
  refine goG Y9_ZC3 UNT ?_
  refine wG Y9_ZC3 (AI UNT (AI hap1 (AI hsz1 (AI hap2 hsz2)))) ?_
  refine AR.callP u2 True.intro I1_ZC3 ?_
  refine goG Y9_ZC3 UNT ?_
  refine wdG Y9_ZC3 UNT ?_
  refine AR.callP qs unV_eq I1_ZC3 ?_
  refine goG Y9_ZC3 UNT ?_
  refine AR.callP qs unV_eq I1_ZC3 ?_
  refine goG Y9_ZC3 UNT ?_
  refine AR.callP qe True.intro I1_ZC3 ?_
  refine goG Y9_ZC3 True.intro ?_
  refine wG Y9_ZC3 True.intro ?_
  exact Fin.oneP
end Go.Proofs.YtmbmmckagcdapaaGreatDoor
