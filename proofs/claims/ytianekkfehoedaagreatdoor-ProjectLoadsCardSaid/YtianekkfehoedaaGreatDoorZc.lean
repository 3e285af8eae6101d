/- Walks: the methods of a project in other forms. -/
import Derived.Test.YtianekkfehoedaaGreatDoorHv
import Derived.Test.YtianekkfehoedaaGreatDoorK7
import Derived.Test.YtianekkfehoedaaGreatDoorK5
namespace Go.Proofs.YtianekkfehoedaaGreatDoor
set_option linter.unusedSimpArgs false
set_option linter.unusedVariables false
set_option linter.unnecessarySimpa false
open Go.RowKit
theorem Y33_Zc : type_of% (And.intro @F_ag_4 (And.intro @F_fl_64_0 (@F_sz_4))) := And.intro @F_ag_4 (And.intro @F_fl_64_0 (@F_sz_4))
theorem I1_Zc : type_of% (And.intro enV_id (And.intro enL_id (And.intro byL_id (And.intro lsV_id (And.intro lsL_id (And.intro (@tyV_id) flE_id)))))) := (And.intro enV_id (And.intro enL_id (And.intro byL_id (And.intro lsV_id (And.intro lsL_id (And.intro (@tyV_id) flE_id))))))
theorem N1_Zc : type_of% (And.intro enV_ren (And.intro enL_ren (And.intro byL_ren (And.intro lsV_ren (And.intro lsL_ren flE_ren))))) := (And.intro enV_ren (And.intro enL_ren (And.intro byL_ren (And.intro lsV_ren (And.intro lsL_ren flE_ren)))))
theorem c_usableN (b : Bool) (L : List En) (un : List (List En)) : DC Tryz.prog 33 [.pt 0 0] [.box [(.im (.bool ((b)))), .sl (L.map enV) .ro, .sl (un.map lsV) .full, .sl [] .nl]] (.im (.bool (b))) [.box [(.im (.bool ((b)))), .sl (L.map enV) .ro, .sl (un.map lsV) .full, .sl [] .nl]] := by
  refine DC.enter 11 Tryz.func33 rfl (by decide) rfl rfl (s := [(0, .pt 0 0)]) (by rfl) ?_
  refine wG Y33_Zc True.intro ?_
  refine AR.eqP false ?_
  refine goG Y33_Zc True.intro ?_
  refine wG Y33_Zc True.intro ?_
  exact Fin.oneSP I1_Zc
theorem Y48_Zc : type_of% (And.intro @F_ag_28 (And.intro @F_ag_29 (And.intro @F_al_28 (And.intro @F_by_28 (And.intro @F_el_29 (And.intro @F_fl_64_1 (And.intro @F_fl_64_2 (And.intro @F_fl_64_3 (And.intro @F_sz_28 (And.intro @F_sz_29 (@F_un_29))))))))))) := And.intro @F_ag_28 (And.intro @F_ag_29 (And.intro @F_al_28 (And.intro @F_by_28 (And.intro @F_el_29 (And.intro @F_fl_64_1 (And.intro @F_fl_64_2 (And.intro @F_fl_64_3 (And.intro @F_sz_28 (And.intro @F_sz_29 (@F_un_29))))))))))
theorem c_changeN (next L : List En) (un : List (List En)) (hu : un.length ≤ 4194304) : DC Tryz.prog 48 [.pt 0 0, .sl (next.map enV) .ro] [.box [(.im (.bool ((true)))), .sl (L.map enV) .ro, .sl (un.map lsV) .full, .sl [] .nl]] (.tu []) [.box [(.im (.bool (true))), .sl ((next).map enV) .ro, .sl ((clipE (un ++ [L])).map lsV) .full, .sl [] .nl]] := by
  have hA : un.map lsV ++ [.sl (L.map enV) .ro] = (un ++ [L]).map lsV := by rw [List.map_append]; rfl
  have hal : (un.length + 1) * 24 ≤ 140737488355328 := by omega
  have hml : un.length + 1 = (un ++ [L]).length := by simp
  unfold clipE
  generalize un ++ [L] = T at hA hml ⊢
  have hT : T.length ≤ 4194305 := by omega
  have hiss := isS T.length
  have htk := takeAll T
  refine DC.enter 60 Tryz.func48 rfl (by decide) rfl rfl (s := [(0, .pt 0 0), (1, .sl (next.map enV) .ro)]) (by rfl) ?_
  rw [hml] at hal
  by_cases hgt : 256 < T.length
  · obtain ⟨d, hd⟩ : ∃ d, d = T.length - 256 := ⟨_, rfl⟩
    have hw : IntKind.i64.wrap ((T.length : Int) - 256) = (d : Int) := by rw [wrap_in (by omega)]; omega
    have hg : (d : Int) > 0 := by omega
    have hg0 : (0 : Int) ≤ (d : Int) := by omega
    have hg1 : (d : Int) ≤ (T.length : Int) := by omega
    have hg2 : ¬ d = 0 := by omega
    have s3 : List.take (T.length - d) (List.drop d (List.map lsV T)) = List.map lsV (T.drop d) := by rw [← List.map_drop, List.take_of_length_le (by simp)]
    have hm2 := takeAll (T.drop d)
    have hi2 := isS (T.drop d).length
    rw [← hd]
    generalize T.drop d = M at s3 hm2 hi2 ⊢
    refine wdG Y48_Zc (And.intro hA (And.intro hal (And.intro hml (And.intro hw (And.intro (@List.length_map.{0, 0}) (And.intro hg (And.intro GDS (And.intro lsL_allS (And.intro hg0 (And.intro hg1 (And.intro hg2 (And.intro s3 (And.intro hm2 hi2))))))))))))) ?_
    refine Fin.gen (rs := []) rfl (by first | exact .inl rfl | exact .inr rfl) (finG Y48_Zc) ?_ rfl (idG I1_Zc)
    skip
    all_goals exact wkG I1_Zc
  · have hw : IntKind.i64.wrap ((T.length : Int) - 256) = (T.length : Int) - 256 := wrap_in (by omega)
    have hg : ¬ (T.length : Int) - 256 > 0 := by omega
    have hd : T.length - 256 = 0 := by omega
    rw [hd, List.drop_zero]
    refine wdG Y48_Zc (And.intro hA (And.intro hal (And.intro hml (And.intro hw (And.intro (@List.length_map.{0, 0}) (And.intro hg (And.intro GDS (And.intro lsL_allS (And.intro hiss htk))))))))) ?_
    refine Fin.gen (rs := []) rfl (by first | exact .inl rfl | exact .inr rfl) (finG Y48_Zc) ?_ rfl (idG I1_Zc)
    skip
    all_goals exact wkG I1_Zc
theorem Y20_Zc : type_of% (And.intro @F_ag_28 (And.intro @F_ag_46 (And.intro @F_fl_64_1 (And.intro @F_sz_28 (@F_sz_46))))) := And.intro @F_ag_28 (And.intro @F_ag_46 (And.intro @F_fl_64_1 (And.intro @F_sz_28 (@F_sz_46))))
theorem c_Put0N (L : List En) (un : List (List En)) (e : En) (h : AscE L) (hl : L.length ≤ 1024) (ht : e.text.length ≤ 140737488355328) (hu : un.length ≤ 4194304) (hE : eErr L e = 0) : DC Tryz.prog 20 [.pt 0 0, enV e] [.box [(.im (.bool ((true)))), .sl (L.map enV) .ro, .sl (un.map lsV) .full, .sl [] .nl]] (.im (.int .i64 (0))) [.box [(.im (.bool (true))), .sl ((eWith L e).map enV) .ro, .sl ((clipE (un ++ [L])).map lsV) .full, .sl [] .nl]] := by
  have q1 := c_usableN true L un
  have q2 := c_with L e h hl ht
  rw [hE, if_pos rfl] at q2
  have q3 := c_changeN (eWith L e) L un hu
  refine DC.enter 25 Tryz.func20 rfl (by decide) rfl rfl (s := [(0, .pt 0 0), (1, enV e)]) (by rfl) ?_
  simp only [enV_eq e]
  refine wG Y20_Zc True.intro ?_
  refine AR.callQP [0] q1 True.intro I1_Zc N1_Zc ?_
  refine goG Y20_Zc True.intro ?_
  refine wdG Y20_Zc True.intro ?_
  refine AR.callP q2 enV_eq I1_Zc ?_
  refine goG Y20_Zc True.intro ?_
  refine wdG Y20_Zc True.intro ?_
  refine AR.callSP [0] q3 True.intro I1_Zc N1_Zc ?_
  refine goG Y20_Zc True.intro ?_
  refine wG Y20_Zc True.intro ?_
  refine Fin.gen (rs := [.tmp 4]) rfl (by first | exact .inl rfl | exact .inr rfl) (finG Y20_Zc) ?_ rfl (idG I1_Zc)
  skip
  all_goals exact wkG I1_Zc
theorem c_Put1N (L : List En) (un : List (List En)) (e : En) (h : AscE L) (hl : L.length ≤ 1024) (ht : e.text.length ≤ 140737488355328) (hE : eErr L e ≠ 0) : DC Tryz.prog 20 [.pt 0 0, enV e] [.box [(.im (.bool ((true)))), .sl (L.map enV) .ro, .sl (un.map lsV) .full, .sl [] .nl]] (.im (.int .i64 (eErr L e))) [.box [(.im (.bool ((true)))), .sl (L.map enV) .ro, .sl (un.map lsV) .full, .sl [] .nl]] := by
  have q1 := c_usableN true L un
  have q2 := c_with L e h hl ht
  rw [if_neg hE] at q2
  generalize eErr L e = r at hE q2 ⊢
  refine DC.enter 25 Tryz.func20 rfl (by decide) rfl rfl (s := [(0, .pt 0 0), (1, enV e)]) (by rfl) ?_
  simp only [enV_eq e]
  refine wG Y20_Zc True.intro ?_
  refine AR.callQP [0] q1 True.intro I1_Zc N1_Zc ?_
  refine goG Y20_Zc True.intro ?_
  refine wdG Y20_Zc True.intro ?_
  refine AR.callP q2 enV_eq I1_Zc ?_
  refine goG Y20_Zc True.intro ?_
  refine wdG Y20_Zc hE ?_
  refine Fin.gen (rs := [.tmp 4]) rfl (by first | exact .inl rfl | exact .inr rfl) (finG Y20_Zc) ?_ rfl (idG I1_Zc)
  skip
  all_goals exact wkG I1_Zc
theorem Y17_Zc : type_of% (And.intro @F_ag_28 (And.intro @F_ag_9 (And.intro @F_al_46 (And.intro @F_el_28 (And.intro @F_fl_46_3 (And.intro @F_fl_64_1 (And.intro @F_st_46 (And.intro @F_sz_28 (And.intro @F_sz_46 (@F_sz_9)))))))))) := And.intro @F_ag_28 (And.intro @F_ag_9 (And.intro @F_al_46 (And.intro @F_el_28 (And.intro @F_fl_46_3 (And.intro @F_fl_64_1 (And.intro @F_st_46 (And.intro @F_sz_28 (And.intro @F_sz_46 (@F_sz_9)))))))))
theorem c_GetN (L : List En) (un : List (List En)) (k a v : Int) (h : AscE L) (hl : L.length ≤ 1024) : DC Tryz.prog 17 [.pt 0 0, (.im (.int .i64 (k))), (.im (.int .u32 (a))), (.im (.int .i64 (v)))] [.box [(.im (.bool ((true)))), .sl (L.map enV) .ro, .sl (un.map lsV) .full, .sl [] .nl]] (.tu [(.im (.string (bA (getE L k a v)))), (.im (.bool (hasE L (keyOf k a v))))]) [.box [(.im (.bool ((true)))), .sl (L.map enV) .ro, .sl (un.map lsV) .full, .sl [] .nl]] := by
  have q1 := c_usableN true L un
  have q3 := c_search L (keyOf k a v) h (by omega)
  rw [show enV (keyOf k a v) = .ag [(.im (.int .i64 (k))), (.im (.int .i64 (v))), (.im (.int .u32 (a))), .im (.string ByteArray.empty)] from rfl] at q3
  unfold getE
  refine DC.enter 37 Tryz.func17 rfl (by decide) rfl rfl (s := [(0, .pt 0 0), (1, (.im (.int .i64 (k)))), (2, (.im (.int .u32 (a)))), (3, (.im (.int .i64 (v))))]) (by rfl) ?_
  refine wG Y17_Zc True.intro ?_
  refine AR.callQP [0] q1 True.intro I1_Zc N1_Zc ?_
  refine goG Y17_Zc True.intro ?_
  refine wG Y17_Zc True.intro ?_
  refine AR.callP q3 True.intro I1_Zc ?_
  cases h2 : hasE L (keyOf k a v) with
  | false =>
    rw [if_neg (by decide)]
    refine goG Y17_Zc True.intro ?_
    refine wG Y17_Zc True.intro ?_
    refine Fin.gen (rs := [.tmp 8, .tmp 9]) rfl (by first | exact .inl rfl | exact .inr rfl) (finG Y17_Zc) ?_ rfl (idG I1_Zc)
    skip
    all_goals exact wkG I1_Zc
  | true =>
    obtain ⟨hp, _⟩ := hasE_pos h h2
    have hg := get_some hp
    have hgd : L.getD (posE L (keyOf k a v)) ⟨0, 0, 0, []⟩ = L[posE L (keyOf k a v)] := by rw [List.getD_eq_getElem?_getD, hg]; rfl
    rw [if_pos rfl, hgd]
    generalize L[posE L (keyOf k a v)] = x at hg ⊢
    generalize posE L (keyOf k a v) = p at hg
    refine goG Y17_Zc True.intro ?_
    refine wG Y17_Zc (And.intro ENT hg) ?_
    refine Fin.gen (rs := [.tmp 8, .tmp 9]) rfl (by first | exact .inl rfl | exact .inr rfl) (finG Y17_Zc) ?_ rfl (idG I1_Zc)
    skip
    all_goals exact wkG I1_Zc
theorem Y9_Zc : type_of% (And.intro @F_ag_28 (And.intro @F_fl_64_1 (@F_sz_28))) := And.intro @F_ag_28 (And.intro @F_fl_64_1 (@F_sz_28))
theorem c_AllN (L : List En) (un : List (List En)) (hl : L.length ≤ 1024) : DC Tryz.prog 9 [.pt 0 0] [.box [(.im (.bool ((true)))), .sl (L.map enV) .ro, .sl (un.map lsV) .full, .sl [] .nl]] (.sl (L.map enV) .ro) [.box [(.im (.bool ((true)))), .sl (L.map enV) .ro, .sl (un.map lsV) .full, .sl [] .nl]] := by
  have q1 := c_usableN true L un
  refine DC.enter 11 Tryz.func9 rfl (by decide) rfl rfl (s := [(0, .pt 0 0)]) (by rfl) ?_
  refine wG Y9_Zc True.intro ?_
  refine AR.callQP [0] q1 True.intro I1_Zc N1_Zc ?_
  refine goG Y9_Zc True.intro ?_
  refine wG Y9_Zc True.intro ?_
  rcases Nat.eq_zero_or_pos L.length with h0 | h0
  · obtain rfl := List.length_eq_zero_iff.1 h0
    have qc := c_cl0
    rw [List.map_nil]
    refine AR.callP qc True.intro I1_Zc ?_
    refine goG Y9_Zc True.intro ?_
    refine wG Y9_Zc True.intro ?_
    refine Fin.gen (rs := [.tmp 2]) rfl (by first | exact .inl rfl | exact .inr rfl) (finG Y9_Zc) ?_ rfl (idG I1_Zc)
    skip
    all_goals exact wkG I1_Zc
  · have qc := c_clB h0 (by omega)
    refine AR.callS [1] qc rfl rfl (by first | (simp only [SR, enV_ren, enL_ren, byL_ren, lsV_ren, lsL_ren, flE_ren]; done) | (simp only [SR, enV_ren, enL_ren, byL_ren, lsV_ren, lsL_ren, flE_ren]; with_reducible exact rfl)) (by first | (simp only [SR, enV_ren, enL_ren, byL_ren, lsV_ren, lsL_ren, flE_ren]; done) | (simp only [SR, enV_ren, enL_ren, byL_ren, lsV_ren, lsL_ren, flE_ren]; with_reducible exact rfl)) (WkL.cons (Wk.nn (by simpa using h0)) .nil) (by first | rfl | simp only [List.length_cons, List.length_nil, Nat.reduceAdd, V.ids, V.idsL, idsA, entOk, List.all_cons, List.all_nil, Bool.and_self, Bool.and_true, Bool.true_and, ltB, noId, Nat.reduceLT, decide_true, Bool.true_eq_false, tyV_id, fdV_id, tyL_id, fdL_id, enV_id, enL_id, byL_id, lsV_id, lsL_id, tyV_id, flE_id]) rfl rfl rfl (by first | rfl | simp only [List.length_cons, List.length_nil, Nat.reduceAdd, V.ids, V.idsL, idsA, entOk, List.all_cons, List.all_nil, Bool.and_self, Bool.and_true, Bool.true_and, ltB, noId, Nat.reduceLT, decide_true, Bool.true_eq_false, tyV_id, fdV_id, tyL_id, fdL_id, enV_id, enL_id, byL_id, lsV_id, lsL_id, tyV_id, flE_id]) (by intro p hp; simp only [renE, SR, Ent.ren, List.mem_cons, List.not_mem_nil, or_false, enV_ren, enL_ren, byL_ren, lsV_ren, lsL_ren, flE_ren] at hp; rcases hp with rfl <;> rfl) (by simp only [renE, Ent.ren, SR, enV_ren, enL_ren, byL_ren, lsV_ren, lsL_ren, flE_ren, wrl, putE, SC, SD, Nat.reduceBEq, Nat.reduceLT, Nat.reduceSub, Nat.reduceAdd, Nat.reduceMul, Nat.reduceLeDiff, Nat.reduceEqDiff, reduceCtorEq, Int.reduceLT, Int.reduceLE, Int.reduceEq, Int.reduceNe, Int.reduceBEq, Int.reduceBNe, Int.reduceAdd, Int.reduceSub, Int.reduceMul, Int.reduceToNat]; with_reducible exact rfl) ?_
    refine goG Y9_Zc True.intro ?_
    refine wG Y9_Zc True.intro ?_
    refine Fin.gen (rs := [.tmp 2]) rfl (by first | exact .inl rfl | exact .inr rfl) (finG Y9_Zc) ?_ rfl (idG I1_Zc)
    exact WkF.bs (z := 4) rfl rfl (by simp) (enL_all L) rfl (enL_id _ _)
    all_goals exact wkG I1_Zc
theorem c_usableM (b : Bool) (L : List En) (un re : List (List En)) : DC Tryz.prog 33 [.pt 0 0] [.box [(.im (.bool ((b)))), .sl (L.map enV) .ro, .sl (un.map lsV) .full, .sl (re.map lsV) .ro]] (.im (.bool (b))) [.box [(.im (.bool ((b)))), .sl (L.map enV) .ro, .sl (un.map lsV) .full, .sl (re.map lsV) .ro]] := by
  refine DC.enter 11 Tryz.func33 rfl (by decide) rfl rfl (s := [(0, .pt 0 0)]) (by rfl) ?_
  refine wG Y33_Zc True.intro ?_
  refine AR.eqP false ?_
  refine goG Y33_Zc True.intro ?_
  refine wG Y33_Zc True.intro ?_
  exact Fin.oneSP I1_Zc
theorem c_GetM (L : List En) (un re : List (List En)) (k a v : Int) (h : AscE L) (hl : L.length ≤ 1024) : DC Tryz.prog 17 [.pt 0 0, (.im (.int .i64 (k))), (.im (.int .u32 (a))), (.im (.int .i64 (v)))] [.box [(.im (.bool ((true)))), .sl (L.map enV) .ro, .sl (un.map lsV) .full, .sl (re.map lsV) .ro]] (.tu [(.im (.string (bA (getE L k a v)))), (.im (.bool (hasE L (keyOf k a v))))]) [.box [(.im (.bool ((true)))), .sl (L.map enV) .ro, .sl (un.map lsV) .full, .sl (re.map lsV) .ro]] := by
  have q1 := c_usableM true L un re
  have q3 := c_search L (keyOf k a v) h (by omega)
  rw [show enV (keyOf k a v) = .ag [(.im (.int .i64 (k))), (.im (.int .i64 (v))), (.im (.int .u32 (a))), .im (.string ByteArray.empty)] from rfl] at q3
  unfold getE
  refine DC.enter 37 Tryz.func17 rfl (by decide) rfl rfl (s := [(0, .pt 0 0), (1, (.im (.int .i64 (k)))), (2, (.im (.int .u32 (a)))), (3, (.im (.int .i64 (v))))]) (by rfl) ?_
  refine wG Y17_Zc True.intro ?_
  refine AR.callQP [0] q1 True.intro I1_Zc N1_Zc ?_
  refine goG Y17_Zc True.intro ?_
  refine wG Y17_Zc True.intro ?_
  refine AR.callP q3 True.intro I1_Zc ?_
  cases h2 : hasE L (keyOf k a v) with
  | false =>
    rw [if_neg (by decide)]
    refine goG Y17_Zc True.intro ?_
    refine wG Y17_Zc True.intro ?_
    refine Fin.gen (rs := [.tmp 8, .tmp 9]) rfl (by first | exact .inl rfl | exact .inr rfl) (finG Y17_Zc) ?_ rfl (idG I1_Zc)
    skip
    all_goals exact wkG I1_Zc
  | true =>
    obtain ⟨hp, _⟩ := hasE_pos h h2
    have hg := get_some hp
    have hgd : L.getD (posE L (keyOf k a v)) ⟨0, 0, 0, []⟩ = L[posE L (keyOf k a v)] := by rw [List.getD_eq_getElem?_getD, hg]; rfl
    rw [if_pos rfl, hgd]
    generalize L[posE L (keyOf k a v)] = x at hg ⊢
    generalize posE L (keyOf k a v) = p at hg
    refine goG Y17_Zc True.intro ?_
    refine wG Y17_Zc (And.intro ENT hg) ?_
    refine Fin.gen (rs := [.tmp 8, .tmp 9]) rfl (by first | exact .inl rfl | exact .inr rfl) (finG Y17_Zc) ?_ rfl (idG I1_Zc)
    skip
    all_goals exact wkG I1_Zc
theorem c_usableR (b : Bool) (L : List En) (un re : List (List En)) : DC Tryz.prog 33 [.pt 0 0] [.box [(.im (.bool ((b)))), .sl (L.map enV) .ro, .sl (un.map lsV) .ro, .sl (re.map lsV) .ro]] (.im (.bool (b))) [.box [(.im (.bool ((b)))), .sl (L.map enV) .ro, .sl (un.map lsV) .ro, .sl (re.map lsV) .ro]] := by
  refine DC.enter 11 Tryz.func33 rfl (by decide) rfl rfl (s := [(0, .pt 0 0)]) (by rfl) ?_
  refine wG Y33_Zc True.intro ?_
  refine AR.eqP false ?_
  refine goG Y33_Zc True.intro ?_
  refine wG Y33_Zc True.intro ?_
  exact Fin.oneSP I1_Zc
theorem c_GetR (L : List En) (un re : List (List En)) (k a v : Int) (h : AscE L) (hl : L.length ≤ 1024) : DC Tryz.prog 17 [.pt 0 0, (.im (.int .i64 (k))), (.im (.int .u32 (a))), (.im (.int .i64 (v)))] [.box [(.im (.bool ((true)))), .sl (L.map enV) .ro, .sl (un.map lsV) .ro, .sl (re.map lsV) .ro]] (.tu [(.im (.string (bA (getE L k a v)))), (.im (.bool (hasE L (keyOf k a v))))]) [.box [(.im (.bool ((true)))), .sl (L.map enV) .ro, .sl (un.map lsV) .ro, .sl (re.map lsV) .ro]] := by
  have q1 := c_usableR true L un re
  have q3 := c_search L (keyOf k a v) h (by omega)
  rw [show enV (keyOf k a v) = .ag [(.im (.int .i64 (k))), (.im (.int .i64 (v))), (.im (.int .u32 (a))), .im (.string ByteArray.empty)] from rfl] at q3
  unfold getE
  refine DC.enter 37 Tryz.func17 rfl (by decide) rfl rfl (s := [(0, .pt 0 0), (1, (.im (.int .i64 (k)))), (2, (.im (.int .u32 (a)))), (3, (.im (.int .i64 (v))))]) (by rfl) ?_
  refine wG Y17_Zc True.intro ?_
  refine AR.callQP [0] q1 True.intro I1_Zc N1_Zc ?_
  refine goG Y17_Zc True.intro ?_
  refine wG Y17_Zc True.intro ?_
  refine AR.callP q3 True.intro I1_Zc ?_
  cases h2 : hasE L (keyOf k a v) with
  | false =>
    rw [if_neg (by decide)]
    refine goG Y17_Zc True.intro ?_
    refine wG Y17_Zc True.intro ?_
    refine Fin.gen (rs := [.tmp 8, .tmp 9]) rfl (by first | exact .inl rfl | exact .inr rfl) (finG Y17_Zc) ?_ rfl (idG I1_Zc)
    skip
    all_goals exact wkG I1_Zc
  | true =>
    obtain ⟨hp, _⟩ := hasE_pos h h2
    have hg := get_some hp
    have hgd : L.getD (posE L (keyOf k a v)) ⟨0, 0, 0, []⟩ = L[posE L (keyOf k a v)] := by rw [List.getD_eq_getElem?_getD, hg]; rfl
    rw [if_pos rfl, hgd]
    generalize L[posE L (keyOf k a v)] = x at hg ⊢
    generalize posE L (keyOf k a v) = p at hg
    refine goG Y17_Zc True.intro ?_
    refine wG Y17_Zc (And.intro ENT hg) ?_
    refine Fin.gen (rs := [.tmp 8, .tmp 9]) rfl (by first | exact .inl rfl | exact .inr rfl) (finG Y17_Zc) ?_ rfl (idG I1_Zc)
    skip
    all_goals exact wkG I1_Zc
theorem c_AllR (L : List En) (un re : List (List En)) (hl : L.length ≤ 1024) : DC Tryz.prog 9 [.pt 0 0] [.box [(.im (.bool ((true)))), .sl (L.map enV) .ro, .sl (un.map lsV) .ro, .sl (re.map lsV) .ro]] (.sl (L.map enV) .ro) [.box [(.im (.bool ((true)))), .sl (L.map enV) .ro, .sl (un.map lsV) .ro, .sl (re.map lsV) .ro]] := by
  have q1 := c_usableR true L un re
  refine DC.enter 11 Tryz.func9 rfl (by decide) rfl rfl (s := [(0, .pt 0 0)]) (by rfl) ?_
  refine wG Y9_Zc True.intro ?_
  refine AR.callQP [0] q1 True.intro I1_Zc N1_Zc ?_
  refine goG Y9_Zc True.intro ?_
  refine wG Y9_Zc True.intro ?_
  rcases Nat.eq_zero_or_pos L.length with h0 | h0
  · obtain rfl := List.length_eq_zero_iff.1 h0
    have qc := c_cl0
    rw [List.map_nil]
    refine AR.callP qc True.intro I1_Zc ?_
    refine goG Y9_Zc True.intro ?_
    refine wG Y9_Zc True.intro ?_
    refine Fin.gen (rs := [.tmp 2]) rfl (by first | exact .inl rfl | exact .inr rfl) (finG Y9_Zc) ?_ rfl (idG I1_Zc)
    skip
    all_goals exact wkG I1_Zc
  · have qc := c_clB h0 (by omega)
    refine AR.callS [1] qc rfl rfl (by first | (simp only [SR, enV_ren, enL_ren, byL_ren, lsV_ren, lsL_ren, flE_ren]; done) | (simp only [SR, enV_ren, enL_ren, byL_ren, lsV_ren, lsL_ren, flE_ren]; with_reducible exact rfl)) (by first | (simp only [SR, enV_ren, enL_ren, byL_ren, lsV_ren, lsL_ren, flE_ren]; done) | (simp only [SR, enV_ren, enL_ren, byL_ren, lsV_ren, lsL_ren, flE_ren]; with_reducible exact rfl)) (WkL.cons (Wk.nn (by simpa using h0)) .nil) (by first | rfl | simp only [List.length_cons, List.length_nil, Nat.reduceAdd, V.ids, V.idsL, idsA, entOk, List.all_cons, List.all_nil, Bool.and_self, Bool.and_true, Bool.true_and, ltB, noId, Nat.reduceLT, decide_true, Bool.true_eq_false, tyV_id, fdV_id, tyL_id, fdL_id, enV_id, enL_id, byL_id, lsV_id, lsL_id, tyV_id, flE_id]) rfl rfl rfl (by first | rfl | simp only [List.length_cons, List.length_nil, Nat.reduceAdd, V.ids, V.idsL, idsA, entOk, List.all_cons, List.all_nil, Bool.and_self, Bool.and_true, Bool.true_and, ltB, noId, Nat.reduceLT, decide_true, Bool.true_eq_false, tyV_id, fdV_id, tyL_id, fdL_id, enV_id, enL_id, byL_id, lsV_id, lsL_id, tyV_id, flE_id]) (by intro p hp; simp only [renE, SR, Ent.ren, List.mem_cons, List.not_mem_nil, or_false, enV_ren, enL_ren, byL_ren, lsV_ren, lsL_ren, flE_ren] at hp; rcases hp with rfl <;> rfl) (by simp only [renE, Ent.ren, SR, enV_ren, enL_ren, byL_ren, lsV_ren, lsL_ren, flE_ren, wrl, putE, SC, SD, Nat.reduceBEq, Nat.reduceLT, Nat.reduceSub, Nat.reduceAdd, Nat.reduceMul, Nat.reduceLeDiff, Nat.reduceEqDiff, reduceCtorEq, Int.reduceLT, Int.reduceLE, Int.reduceEq, Int.reduceNe, Int.reduceBEq, Int.reduceBNe, Int.reduceAdd, Int.reduceSub, Int.reduceMul, Int.reduceToNat]; with_reducible exact rfl) ?_
    refine goG Y9_Zc True.intro ?_
    refine wG Y9_Zc True.intro ?_
    refine Fin.gen (rs := [.tmp 2]) rfl (by first | exact .inl rfl | exact .inr rfl) (finG Y9_Zc) ?_ rfl (idG I1_Zc)
    exact WkF.bs (z := 4) rfl rfl (by simp) (enL_all L) rfl (enL_id _ _)
    all_goals exact wkG I1_Zc
theorem c_usableQ (b : Bool) (L : List En) (un re : List (List En)) : DC Tryz.prog 33 [.pt 0 0] [.box [(.im (.bool ((b)))), .sl (L.map enV) .ro, .sl (un.map lsV) (.own 1), .sl (re.map lsV) .full], .tip 28 1 un.length] (.im (.bool (b))) [.box [(.im (.bool ((b)))), .sl (L.map enV) .ro, .sl (un.map lsV) (.own 1), .sl (re.map lsV) .full], .tip 28 1 un.length] := by
  refine DC.enter 11 Tryz.func33 rfl (by decide) rfl rfl (s := [(0, .pt 0 0)]) (by rfl) ?_
  refine wG Y33_Zc True.intro ?_
  refine AR.eqP false ?_
  refine goG Y33_Zc True.intro ?_
  refine wG Y33_Zc True.intro ?_
  exact Fin.oneSP I1_Zc
theorem Y11_Zc : type_of% (And.intro @F_ag_28 (And.intro @F_ag_29 (And.intro @F_al_28 (And.intro @F_by_28 (And.intro @F_el_29 (And.intro @F_fl_64_1 (And.intro @F_fl_64_2 (And.intro @F_fl_64_3 (And.intro @F_sz_28 (And.intro @F_sz_29 (@F_un_29))))))))))) := And.intro @F_ag_28 (And.intro @F_ag_29 (And.intro @F_al_28 (And.intro @F_by_28 (And.intro @F_el_29 (And.intro @F_fl_64_1 (And.intro @F_fl_64_2 (And.intro @F_fl_64_3 (And.intro @F_sz_28 (And.intro @F_sz_29 (@F_un_29))))))))))
theorem c_Undo0N (L x : List En) (un : List (List En)) (hu : un.length ≤ 4194304) : DC Tryz.prog 11 [.pt 0 0] [.box [(.im (.bool ((true)))), .sl (L.map enV) .ro, .sl ((un ++ [x]).map lsV) .full, .sl [] .nl], .free] (.im (.bool (true))) [.box [(.im (.bool ((true)))), .sl (x.map enV) .ro, .sl (un.map lsV) .full, .sl ([L].map lsV) (.own 1)], .tip 28 1 [L].length] := by
  have q1 := c_usableN true L (un ++ [x])
  have hA : ([V.sl (L.map enV) .ro] : List V) = [L].map lsV := rfl
  have hml := True.intro
  have hal := True.intro
  have hgx : (un ++ [x])[un.length]? = some x := by simp
  have htk : List.take un.length (List.map lsV (un ++ [x])) = List.map lsV un := by rw [← List.map_take, List.take_left]
  have hz : ¬ ((un ++ [x]).length : Int) = 0 := by simp; omega
  have hw : IntKind.i64.wrap (((un ++ [x]).length : Int) - 1) = (un.length : Int) := by rw [wrap_in (by simp; omega)]; simp
  have hlt : (un.length : Int) < ((un ++ [x]).length : Int) := by simp; omega
  have hle : (un.length : Int) ≤ ((un ++ [x]).length : Int) := by simp; omega
  have hiss := isS un.length
  generalize un ++ [x] = T at q1 hgx htk hz hw hlt hle ⊢
  refine DC.enterM 1 [.box [(.im (.bool (true))), .sl (L.map enV) .ro, .sl (T.map lsV) .full, .sl [] .nl]] 54 Tryz.func11 rfl (by decide) rfl rfl (s := [(0, .pt 0 0)]) (by rfl) ?_ rfl
  refine wG Y11_Zc True.intro ?_
  refine AR.callQP [0] q1 True.intro I1_Zc N1_Zc ?_
  refine goG Y11_Zc (And.intro hz @List.length_map.{0, 0}) ?_
  refine wdG Y11_Zc (And.intro hz (And.intro hw (And.intro LST (And.intro GDS (And.intro hgx (And.intro htk (And.intro hlt (And.intro hle (And.intro hiss lsL_allS))))))))) ?_
  refine Fin.genM 2 (by simp) (rs := [.tmp 2]) rfl (by first | exact .inl rfl | exact .inr rfl) (by simp only [resX, resA, ↓accU_f, ↓reduceIte, SA, SB, SC, SD, Y11_Zc, valG, fpsG, evO, evB, evA, evA1, nilK, eqF, eqC, apOk, intOf, slB, slK,  gd, St.ev, putA, ofl, wrl, putE, V.ofVal, V.ofCell, bin2, un1, seg, fillV, partsOk, Value.oneCell', Nat.reduceBEq, Nat.reduceLT, Nat.reduceSub, Nat.reduceAdd, Nat.reduceMul, Nat.reduceLeDiff, Nat.reduceEqDiff, reduceCtorEq, Int.reduceLT, Int.reduceLE, Int.reduceEq, Int.reduceNe, Int.reduceBEq, Int.reduceBNe, Int.reduceAdd, Int.reduceSub, Int.reduceMul, Int.reduceToNat]; with_reducible exact rfl) ?_ rfl (by first | rfl | simp only [List.length_cons, List.length_nil, Nat.reduceAdd, V.ids, V.idsL, idsA, entOk, List.all_cons, List.all_nil, Bool.and_self, Bool.and_true, Bool.true_and, ltB, noId, Nat.reduceLT, decide_true, Bool.true_eq_false, tyV_id, fdV_id, tyL_id, fdL_id, enV_id, enL_id, byL_id, lsV_id, lsL_id, tyV_id, flE_id])
  repeat (first | exact WkF.of (Wk.refl _) (by first | rfl | simp only [List.length_cons, List.length_nil, Nat.reduceAdd, V.ids, V.idsL, idsA, entOk, List.all_cons, List.all_nil, Bool.and_self, Bool.and_true, Bool.true_and, ltB, noId, Nat.reduceLT, decide_true, Bool.true_eq_false, tyV_id, fdV_id, tyL_id, fdL_id, enV_id, enL_id, byL_id, lsV_id, lsL_id, tyV_id, flE_id]) | exact WkF.of (Wk.ro _ _) (by first | rfl | simp only [List.length_cons, List.length_nil, Nat.reduceAdd, V.ids, V.idsL, idsA, entOk, List.all_cons, List.all_nil, Bool.and_self, Bool.and_true, Bool.true_and, ltB, noId, Nat.reduceLT, decide_true, Bool.true_eq_false, tyV_id, fdV_id, tyL_id, fdL_id, enV_id, enL_id, byL_id, lsV_id, lsL_id, tyV_id, flE_id]) | refine WkF.tu ?_ | refine WkF.ag ?_ | refine WkFL.cons ?_ ?_ | exact WkFL.nil)
theorem Y12_Zc : type_of% (And.intro @F_ag_28 (And.intro @F_ag_29 (And.intro @F_al_28 (And.intro @F_by_28 (And.intro @F_el_29 (And.intro @F_fl_64_1 (And.intro @F_fl_64_2 (And.intro @F_fl_64_3 (And.intro @F_sz_28 (And.intro @F_sz_29 (@F_un_29))))))))))) := And.intro @F_ag_28 (And.intro @F_ag_29 (And.intro @F_al_28 (And.intro @F_by_28 (And.intro @F_el_29 (And.intro @F_fl_64_1 (And.intro @F_fl_64_2 (And.intro @F_fl_64_3 (And.intro @F_sz_28 (And.intro @F_sz_29 (@F_un_29))))))))))
theorem c_Redo0M (L x : List En) (un re : List (List En)) (hu : un.length ≤ 4194304) (hr : re.length ≤ 4194304) : DC Tryz.prog 12 [.pt 0 0] [.box [(.im (.bool ((true)))), .sl (L.map enV) .ro, .sl (un.map lsV) .full, .sl ((re ++ [x]).map lsV) .ro], .free] (.im (.bool (true))) [.box [(.im (.bool ((true)))), .sl (x.map enV) .ro, .sl ((un ++ [L]).map lsV) (.own 1), .sl (re.map lsV) .full], .tip 28 1 (un ++ [L]).length] := by
  have q1 := c_usableM true L un (re ++ [x])
  have hA : un.map lsV ++ [.sl (L.map enV) .ro] = (un ++ [L]).map lsV := by rw [List.map_append]; rfl
  have hml : un.length + 1 = (un ++ [L]).length := by simp
  have hal : (un ++ [L]).length * 24 ≤ 140737488355328 := by simp; omega
  have hgx : (re ++ [x])[re.length]? = some x := by simp
  have htk : List.take re.length (List.map lsV (re ++ [x])) = List.map lsV re := by rw [← List.map_take, List.take_left]
  have hz : ¬ ((re ++ [x]).length : Int) = 0 := by simp; omega
  have hw : IntKind.i64.wrap (((re ++ [x]).length : Int) - 1) = (re.length : Int) := by rw [wrap_in (by simp; omega)]; simp
  have hlt : (re.length : Int) < ((re ++ [x]).length : Int) := by simp; omega
  have hle : (re.length : Int) ≤ ((re ++ [x]).length : Int) := by simp; omega
  have hiss := isS re.length
  generalize re ++ [x] = T at q1 hgx htk hz hw hlt hle ⊢
  generalize un ++ [L] = D at hA hml hal ⊢
  refine DC.enterM 1 [.box [(.im (.bool (true))), .sl (L.map enV) .ro, .sl (un.map lsV) .full, .sl (T.map lsV) .ro]] 54 Tryz.func12 rfl (by decide) rfl rfl (s := [(0, .pt 0 0)]) (by rfl) ?_ rfl
  refine wG Y12_Zc True.intro ?_
  refine AR.callQP [0] q1 True.intro I1_Zc N1_Zc ?_
  refine goG Y12_Zc (And.intro hz @List.length_map.{0, 0}) ?_
  refine wdG Y12_Zc (And.intro hz (And.intro hA (And.intro hml (And.intro hal (And.intro hw (And.intro LST (And.intro GDS (And.intro hgx (And.intro htk (And.intro hlt (And.intro hle (And.intro hiss lsL_allS)))))))))))) ?_
  refine Fin.genM 2 (by simp) (rs := [.tmp 2]) rfl (by first | exact .inl rfl | exact .inr rfl) (by simp only [resX, resA, ↓accU_f, ↓reduceIte, SA, SB, SC, SD, Y12_Zc, valG, fpsG, evO, evB, evA, evA1, nilK, eqF, eqC, apOk, intOf, slB, slK,  gd, St.ev, putA, ofl, wrl, putE, V.ofVal, V.ofCell, bin2, un1, seg, fillV, partsOk, Value.oneCell', Nat.reduceBEq, Nat.reduceLT, Nat.reduceSub, Nat.reduceAdd, Nat.reduceMul, Nat.reduceLeDiff, Nat.reduceEqDiff, reduceCtorEq, Int.reduceLT, Int.reduceLE, Int.reduceEq, Int.reduceNe, Int.reduceBEq, Int.reduceBNe, Int.reduceAdd, Int.reduceSub, Int.reduceMul, Int.reduceToNat]; with_reducible exact rfl) ?_ rfl (by first | rfl | simp only [List.length_cons, List.length_nil, Nat.reduceAdd, V.ids, V.idsL, idsA, entOk, List.all_cons, List.all_nil, Bool.and_self, Bool.and_true, Bool.true_and, ltB, noId, Nat.reduceLT, decide_true, Bool.true_eq_false, tyV_id, fdV_id, tyL_id, fdL_id, enV_id, enL_id, byL_id, lsV_id, lsL_id, tyV_id, flE_id])
  repeat (first | exact WkF.of (Wk.refl _) (by first | rfl | simp only [List.length_cons, List.length_nil, Nat.reduceAdd, V.ids, V.idsL, idsA, entOk, List.all_cons, List.all_nil, Bool.and_self, Bool.and_true, Bool.true_and, ltB, noId, Nat.reduceLT, decide_true, Bool.true_eq_false, tyV_id, fdV_id, tyL_id, fdL_id, enV_id, enL_id, byL_id, lsV_id, lsL_id, tyV_id, flE_id]) | exact WkF.of (Wk.ro _ _) (by first | rfl | simp only [List.length_cons, List.length_nil, Nat.reduceAdd, V.ids, V.idsL, idsA, entOk, List.all_cons, List.all_nil, Bool.and_self, Bool.and_true, Bool.true_and, ltB, noId, Nat.reduceLT, decide_true, Bool.true_eq_false, tyV_id, fdV_id, tyL_id, fdL_id, enV_id, enL_id, byL_id, lsV_id, lsL_id, tyV_id, flE_id]) | refine WkF.tu ?_ | refine WkF.ag ?_ | refine WkFL.cons ?_ ?_ | exact WkFL.nil)
theorem c_Undo1R (L : List En) (re : List (List En)) : DC Tryz.prog 11 [.pt 0 0] [.box [(.im (.bool ((true)))), .sl (L.map enV) .ro, .sl [] .ro, .sl (re.map lsV) .ro]] (.im (.bool (false))) [.box [(.im (.bool ((true)))), .sl (L.map enV) .ro, .sl [] .ro, .sl (re.map lsV) .ro]] := by
  have q1 := c_usableR true L [] re
  rw [List.map_nil] at q1
  refine DC.enter 54 Tryz.func11 rfl (by decide) rfl rfl (s := [(0, .pt 0 0)]) (by rfl) ?_
  refine wG Y11_Zc True.intro ?_
  refine AR.callQP [0] q1 True.intro I1_Zc N1_Zc ?_
  refine goG Y11_Zc @List.length_nil.{0} ?_
  refine wG Y11_Zc True.intro ?_
  refine Fin.gen (rs := [.tmp 2]) rfl (by first | exact .inl rfl | exact .inr rfl) (finG Y11_Zc) ?_ rfl (idG I1_Zc)
  skip
  all_goals exact wkG I1_Zc
theorem c_Redo1R (L : List En) (un : List (List En)) : DC Tryz.prog 12 [.pt 0 0] [.box [(.im (.bool ((true)))), .sl (L.map enV) .ro, .sl (un.map lsV) .ro, .sl [] .ro]] (.im (.bool (false))) [.box [(.im (.bool ((true)))), .sl (L.map enV) .ro, .sl (un.map lsV) .ro, .sl [] .ro]] := by
  have q1 := c_usableR true L un []
  rw [List.map_nil] at q1
  refine DC.enter 54 Tryz.func12 rfl (by decide) rfl rfl (s := [(0, .pt 0 0)]) (by rfl) ?_
  refine wG Y12_Zc True.intro ?_
  refine AR.callQP [0] q1 True.intro I1_Zc N1_Zc ?_
  refine goG Y12_Zc @List.length_nil.{0} ?_
  refine wG Y12_Zc True.intro ?_
  refine Fin.gen (rs := [.tmp 2]) rfl (by first | exact .inl rfl | exact .inr rfl) (finG Y12_Zc) ?_ rfl (idG I1_Zc)
  skip
  all_goals exact wkG I1_Zc
theorem c_Redo1Q (L : List En) (un : List (List En)) : DC Tryz.prog 12 [.pt 0 0] [.box [(.im (.bool ((true)))), .sl (L.map enV) .ro, .sl (un.map lsV) (.own 1), .sl [] .full], .tip 28 1 un.length] (.im (.bool (false))) [.box [(.im (.bool ((true)))), .sl (L.map enV) .ro, .sl (un.map lsV) (.own 1), .sl [] .full], .tip 28 1 un.length] := by
  have q1 := c_usableQ true L un []
  rw [List.map_nil] at q1
  refine DC.enter 54 Tryz.func12 rfl (by decide) rfl rfl (s := [(0, .pt 0 0)]) (by rfl) ?_
  refine wG Y12_Zc True.intro ?_
  refine AR.callQP [0, 1] q1 True.intro I1_Zc N1_Zc ?_
  refine goG Y12_Zc @List.length_nil.{0} ?_
  refine wG Y12_Zc True.intro ?_
  refine Fin.gen (rs := [.tmp 2]) rfl (by first | exact .inl rfl | exact .inr rfl) (finG Y12_Zc) ?_ rfl (idG I1_Zc)
  skip
  all_goals exact wkG I1_Zc
end Go.Proofs.YtianekkfehoedaaGreatDoor
