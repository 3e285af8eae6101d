/- Walks: the methods of a project in other forms. -/
import Derived.Test.YtianekkfehoedaaDoorHv
import Derived.Test.YtianekkfehoedaaDoorK7
import Derived.Test.YtianekkfehoedaaDoorK5
namespace Go.Proofs.YtianekkfehoedaaDoor
set_option linter.unusedSimpArgs false
set_option linter.unusedVariables false
set_option linter.unnecessarySimpa false
open Go.RowKit
theorem Y22_Zc : type_of% (And.intro @F_ag_4 (And.intro @F_fl_45_0 (@F_sz_4))) := And.intro @F_ag_4 (And.intro @F_fl_45_0 (@F_sz_4))
theorem c_usableN (b : Bool) (L : List En) (un : List (List En)) : DC Tryd.prog 22 [.pt 0 0] [.box [(.im (.bool ((b)))), .sl (L.map enV) .ro, .sl (un.map lsV) .full, .sl [] .nl]] (.im (.bool (b))) [.box [(.im (.bool ((b)))), .sl (L.map enV) .ro, .sl (un.map lsV) .full, .sl [] .nl]] := by
  refine DC.enter 11 Tryd.func22 rfl (by decide) rfl rfl (s := [(0, .pt 0 0)]) (by rfl) ?_
  refine wG Y22_Zc True.intro ?_
  refine AR.eqP false ?_
  refine goG Y22_Zc True.intro ?_
  refine wG Y22_Zc True.intro ?_
  exact Fin.oneSP (And.intro enV_id (And.intro enL_id (And.intro byL_id (And.intro lsV_id (And.intro lsL_id (And.intro (@tyV_id) flE_id))))))
theorem Y33_Zc : type_of% (And.intro @F_ag_28 (And.intro @F_ag_43 (And.intro @F_al_28 (And.intro @F_by_28 (And.intro @F_el_43 (And.intro @F_fl_45_1 (And.intro @F_fl_45_2 (And.intro @F_fl_45_3 (And.intro @F_sz_28 (And.intro @F_sz_43 (@F_un_43))))))))))) := And.intro @F_ag_28 (And.intro @F_ag_43 (And.intro @F_al_28 (And.intro @F_by_28 (And.intro @F_el_43 (And.intro @F_fl_45_1 (And.intro @F_fl_45_2 (And.intro @F_fl_45_3 (And.intro @F_sz_28 (And.intro @F_sz_43 (@F_un_43))))))))))
theorem c_changeN (next L : List En) (un : List (List En)) (hu : un.length ≤ 4194304) : DC Tryd.prog 33 [.pt 0 0, .sl (next.map enV) .ro] [.box [(.im (.bool ((true)))), .sl (L.map enV) .ro, .sl (un.map lsV) .full, .sl [] .nl]] (.tu []) [.box [(.im (.bool (true))), .sl ((next).map enV) .ro, .sl ((clipE (un ++ [L])).map lsV) .full, .sl [] .nl]] := by
  have hA : un.map lsV ++ [.sl (L.map enV) .ro] = (un ++ [L]).map lsV := by rw [List.map_append]; rfl
  have hal : (un.length + 1) * 24 ≤ 140737488355328 := by omega
  have hml : un.length + 1 = (un ++ [L]).length := by simp
  unfold clipE
  generalize un ++ [L] = T at hA hml ⊢
  have hT : T.length ≤ 4194305 := by omega
  have hiss := isS T.length
  have htk := takeAll T
  refine DC.enter 60 Tryd.func33 rfl (by decide) rfl rfl (s := [(0, .pt 0 0), (1, .sl (next.map enV) .ro)]) (by rfl) ?_
  rw [hml] at hal
  by_cases hgt : 256 < T.length
  · obtain ⟨d, hd⟩ : ∃ d, d = T.length - 256 := ⟨_, rfl⟩
    have hw : IntKind.i64.wrap ((T.length : Int) - 256) = (d : Int) := by rw [wrap_in (by omega)]; omega
    have hg : (d : Int) > 0 := by omega
    have hg0 : (0 : Int) ≤ (d : Int) := by omega
    have hg1 : (d : Int) ≤ (T.length : Int) := by omega
    have hg2 : ¬ d = 0 := by omega
    have s3 : List.take (T.length - d) (List.drop d (List.map lsV T)) = List.map lsV (T.drop d) := by rw [← List.map_drop, List.take_of_length_le (by simp)]
    have hm2 := takeAll (T.drop d)
    have hi2 := isS (T.drop d).length
    rw [← hd]
    generalize T.drop d = M at s3 hm2 hi2 ⊢
    refine wdG Y33_Zc (And.intro hA (And.intro hal (And.intro hml (And.intro hw (And.intro (@List.length_map.{0, 0}) (And.intro hg (And.intro GDS (And.intro lsL_allS (And.intro hg0 (And.intro hg1 (And.intro hg2 (And.intro s3 (And.intro hm2 hi2))))))))))))) ?_
    refine Fin.gen (rs := []) rfl (by first | exact .inl rfl | exact .inr rfl) (finG Y33_Zc) ?_ rfl (idG (And.intro enV_id (And.intro enL_id (And.intro byL_id (And.intro lsV_id (And.intro lsL_id (And.intro (@tyV_id) flE_id)))))))
    skip
    all_goals exact wkG (And.intro enV_id (And.intro enL_id (And.intro byL_id (And.intro lsV_id (And.intro lsL_id (And.intro (@tyV_id) flE_id))))))
  · have hw : IntKind.i64.wrap ((T.length : Int) - 256) = (T.length : Int) - 256 := wrap_in (by omega)
    have hg : ¬ (T.length : Int) - 256 > 0 := by omega
    have hd : T.length - 256 = 0 := by omega
    rw [hd, List.drop_zero]
    refine wdG Y33_Zc (And.intro hA (And.intro hal (And.intro hml (And.intro hw (And.intro (@List.length_map.{0, 0}) (And.intro hg (And.intro GDS (And.intro lsL_allS (And.intro hiss htk))))))))) ?_
    refine Fin.gen (rs := []) rfl (by first | exact .inl rfl | exact .inr rfl) (finG Y33_Zc) ?_ rfl (idG (And.intro enV_id (And.intro enL_id (And.intro byL_id (And.intro lsV_id (And.intro lsL_id (And.intro (@tyV_id) flE_id)))))))
    skip
    all_goals exact wkG (And.intro enV_id (And.intro enL_id (And.intro byL_id (And.intro lsV_id (And.intro lsL_id (And.intro (@tyV_id) flE_id))))))
theorem c_changeBN (next L : List En) (un : List (List En)) (hu : un.length ≤ 4194304) : DC Tryd.prog 33 [.pt 0 0, .bs 1 next.length] [.box [(.im (.bool ((true)))), .sl (L.map enV) .ro, .sl (un.map lsV) .full, .sl [] .nl], .box (flatV (next.map enV))] (.tu []) [.box [(.im (.bool (true))), .bs 1 next.length, .sl ((clipE (un ++ [L])).map lsV) .full, .sl [] .nl], .box (flatV (next.map enV))] := by
  have hA : un.map lsV ++ [.sl (L.map enV) .ro] = (un ++ [L]).map lsV := by rw [List.map_append]; rfl
  have hal : (un.length + 1) * 24 ≤ 140737488355328 := by omega
  have hml : un.length + 1 = (un ++ [L]).length := by simp
  unfold clipE
  generalize un ++ [L] = T at hA hml ⊢
  have hT : T.length ≤ 4194305 := by omega
  have hiss := isS T.length
  have htk := takeAll T
  refine DC.enter 60 Tryd.func33 rfl (by decide) rfl rfl (s := [(0, .pt 0 0), (1, .bs 1 next.length)]) (by rfl) ?_
  rw [hml] at hal
  by_cases hgt : 256 < T.length
  · obtain ⟨d, hd⟩ : ∃ d, d = T.length - 256 := ⟨_, rfl⟩
    have hw : IntKind.i64.wrap ((T.length : Int) - 256) = (d : Int) := by rw [wrap_in (by omega)]; omega
    have hg : (d : Int) > 0 := by omega
    have hg0 : (0 : Int) ≤ (d : Int) := by omega
    have hg1 : (d : Int) ≤ (T.length : Int) := by omega
    have hg2 : ¬ d = 0 := by omega
    have s3 : List.take (T.length - d) (List.drop d (List.map lsV T)) = List.map lsV (T.drop d) := by rw [← List.map_drop, List.take_of_length_le (by simp)]
    have hm2 := takeAll (T.drop d)
    have hi2 := isS (T.drop d).length
    rw [← hd]
    generalize T.drop d = M at s3 hm2 hi2 ⊢
    refine wdG Y33_Zc (And.intro hA (And.intro hal (And.intro hml (And.intro hw (And.intro (@List.length_map.{0, 0}) (And.intro hg (And.intro GDS (And.intro lsL_allS (And.intro hg0 (And.intro hg1 (And.intro hg2 (And.intro s3 (And.intro hm2 hi2))))))))))))) ?_
    refine Fin.gen (rs := []) rfl (by first | exact .inl rfl | exact .inr rfl) (finG Y33_Zc) ?_ rfl (idG (And.intro enV_id (And.intro enL_id (And.intro byL_id (And.intro lsV_id (And.intro lsL_id (And.intro (@tyV_id) flE_id)))))))
    skip
    all_goals exact wkG (And.intro enV_id (And.intro enL_id (And.intro byL_id (And.intro lsV_id (And.intro lsL_id (And.intro (@tyV_id) flE_id))))))
  · have hw : IntKind.i64.wrap ((T.length : Int) - 256) = (T.length : Int) - 256 := wrap_in (by omega)
    have hg : ¬ (T.length : Int) - 256 > 0 := by omega
    have hd : T.length - 256 = 0 := by omega
    rw [hd, List.drop_zero]
    refine wdG Y33_Zc (And.intro hA (And.intro hal (And.intro hml (And.intro hw (And.intro (@List.length_map.{0, 0}) (And.intro hg (And.intro GDS (And.intro lsL_allS (And.intro hiss htk))))))))) ?_
    refine Fin.gen (rs := []) rfl (by first | exact .inl rfl | exact .inr rfl) (finG Y33_Zc) ?_ rfl (idG (And.intro enV_id (And.intro enL_id (And.intro byL_id (And.intro lsV_id (And.intro lsL_id (And.intro (@tyV_id) flE_id)))))))
    skip
    all_goals exact wkG (And.intro enV_id (And.intro enL_id (And.intro byL_id (And.intro lsV_id (And.intro lsL_id (And.intro (@tyV_id) flE_id))))))
theorem Y20_Zc : type_of% (And.intro @F_ag_28 (And.intro @F_ag_36 (And.intro @F_fl_45_1 (And.intro @F_sz_28 (@F_sz_36))))) := And.intro @F_ag_28 (And.intro @F_ag_36 (And.intro @F_fl_45_1 (And.intro @F_sz_28 (@F_sz_36))))
theorem c_Put0N (L : List En) (un : List (List En)) (e : En) (h : AscE L) (hl : L.length ≤ 1024) (ht : e.text.length ≤ 140737488355328) (hu : un.length ≤ 4194304) (hE : eErr L e = 0) : DC Tryd.prog 20 [.pt 0 0, enV e] [.box [(.im (.bool ((true)))), .sl (L.map enV) .ro, .sl (un.map lsV) .full, .sl [] .nl]] (.im (.int .i64 (0))) [.box [(.im (.bool (true))), .sl ((eWith L e).map enV) .ro, .sl ((clipE (un ++ [L])).map lsV) .full, .sl [] .nl]] := by
  have q1 := c_usableN true L un
  have q2 := c_with L e h hl ht
  rw [hE, if_pos rfl] at q2
  have q3 := c_changeN (eWith L e) L un hu
  refine DC.enter 25 Tryd.func20 rfl (by decide) rfl rfl (s := [(0, .pt 0 0), (1, enV e)]) (by rfl) ?_
  simp only [enV_eq e]
  refine wG Y20_Zc True.intro ?_
  refine AR.callQP [0] q1 True.intro (And.intro enV_id (And.intro enL_id (And.intro byL_id (And.intro lsV_id (And.intro lsL_id (And.intro (@tyV_id) flE_id)))))) (And.intro enV_ren (And.intro enL_ren (And.intro byL_ren (And.intro lsV_ren (And.intro lsL_ren flE_ren))))) ?_
  refine goG Y20_Zc True.intro ?_
  refine wdG Y20_Zc True.intro ?_
  refine AR.callP q2 enV_eq (And.intro enV_id (And.intro enL_id (And.intro byL_id (And.intro lsV_id (And.intro lsL_id (And.intro (@tyV_id) flE_id)))))) ?_
  refine goG Y20_Zc True.intro ?_
  refine wdG Y20_Zc True.intro ?_
  refine AR.callSP [0] q3 True.intro (And.intro enV_id (And.intro enL_id (And.intro byL_id (And.intro lsV_id (And.intro lsL_id (And.intro (@tyV_id) flE_id)))))) (And.intro enV_ren (And.intro enL_ren (And.intro byL_ren (And.intro lsV_ren (And.intro lsL_ren flE_ren))))) ?_
  refine goG Y20_Zc True.intro ?_
  refine wG Y20_Zc True.intro ?_
  refine Fin.gen (rs := [.tmp 4]) rfl (by first | exact .inl rfl | exact .inr rfl) (finG Y20_Zc) ?_ rfl (idG (And.intro enV_id (And.intro enL_id (And.intro byL_id (And.intro lsV_id (And.intro lsL_id (And.intro (@tyV_id) flE_id)))))))
  skip
  all_goals exact wkG (And.intro enV_id (And.intro enL_id (And.intro byL_id (And.intro lsV_id (And.intro lsL_id (And.intro (@tyV_id) flE_id))))))
theorem c_Put1N (L : List En) (un : List (List En)) (e : En) (h : AscE L) (hl : L.length ≤ 1024) (ht : e.text.length ≤ 140737488355328) (hE : eErr L e ≠ 0) : DC Tryd.prog 20 [.pt 0 0, enV e] [.box [(.im (.bool ((true)))), .sl (L.map enV) .ro, .sl (un.map lsV) .full, .sl [] .nl]] (.im (.int .i64 (eErr L e))) [.box [(.im (.bool ((true)))), .sl (L.map enV) .ro, .sl (un.map lsV) .full, .sl [] .nl]] := by
  have q1 := c_usableN true L un
  have q2 := c_with L e h hl ht
  rw [if_neg hE] at q2
  generalize eErr L e = r at hE q2 ⊢
  refine DC.enter 25 Tryd.func20 rfl (by decide) rfl rfl (s := [(0, .pt 0 0), (1, enV e)]) (by rfl) ?_
  simp only [enV_eq e]
  refine wG Y20_Zc True.intro ?_
  refine AR.callQP [0] q1 True.intro (And.intro enV_id (And.intro enL_id (And.intro byL_id (And.intro lsV_id (And.intro lsL_id (And.intro (@tyV_id) flE_id)))))) (And.intro enV_ren (And.intro enL_ren (And.intro byL_ren (And.intro lsV_ren (And.intro lsL_ren flE_ren))))) ?_
  refine goG Y20_Zc True.intro ?_
  refine wdG Y20_Zc True.intro ?_
  refine AR.callP q2 enV_eq (And.intro enV_id (And.intro enL_id (And.intro byL_id (And.intro lsV_id (And.intro lsL_id (And.intro (@tyV_id) flE_id)))))) ?_
  refine goG Y20_Zc True.intro ?_
  refine wdG Y20_Zc hE ?_
  refine Fin.gen (rs := [.tmp 4]) rfl (by first | exact .inl rfl | exact .inr rfl) (finG Y20_Zc) ?_ rfl (idG (And.intro enV_id (And.intro enL_id (And.intro byL_id (And.intro lsV_id (And.intro lsL_id (And.intro (@tyV_id) flE_id)))))))
  skip
  all_goals exact wkG (And.intro enV_id (And.intro enL_id (And.intro byL_id (And.intro lsV_id (And.intro lsL_id (And.intro (@tyV_id) flE_id))))))
theorem Y21_Zc : type_of% (And.intro @F_ag_28 (And.intro @F_ag_36 (And.intro @F_fl_45_1 (And.intro @F_sz_28 (@F_sz_36))))) := And.intro @F_ag_28 (And.intro @F_ag_36 (And.intro @F_fl_45_1 (And.intro @F_sz_28 (@F_sz_36))))
theorem c_Rem1N (L : List En) (un : List (List En)) (e : En) (h : AscE L) (hl : L.length ≤ 1024) (hE : rmErr L e ≠ 0) : DC Tryd.prog 21 [.pt 0 0, enV e] [.box [(.im (.bool ((true)))), .sl (L.map enV) .ro, .sl (un.map lsV) .full, .sl [] .nl]] (.im (.int .i64 (rmErr L e))) [.box [(.im (.bool ((true)))), .sl (L.map enV) .ro, .sl (un.map lsV) .full, .sl [] .nl]] := by
  have q1 := c_usableN true L un
  have q2 := c_vkey e
  have q3 := c_search L e h (by omega)
  refine DC.enter 35 Tryd.func21 rfl (by decide) rfl rfl (s := [(0, .pt 0 0), (1, enV e)]) (by rfl) ?_
  simp only [enV_eq e]
  refine wG Y21_Zc True.intro ?_
  refine AR.callQP [0] q1 True.intro (And.intro enV_id (And.intro enL_id (And.intro byL_id (And.intro lsV_id (And.intro lsL_id (And.intro (@tyV_id) flE_id)))))) (And.intro enV_ren (And.intro enL_ren (And.intro byL_ren (And.intro lsV_ren (And.intro lsL_ren flE_ren))))) ?_
  refine goG Y21_Zc True.intro ?_
  refine wG Y21_Zc True.intro ?_
  refine AR.callP q2 enV_eq (And.intro enV_id (And.intro enL_id (And.intro byL_id (And.intro lsV_id (And.intro lsL_id (And.intro (@tyV_id) flE_id)))))) ?_
  cases h1 : vkeyB e with
  | false =>
    rw [rm2 h1]
    refine goG Y21_Zc True.intro ?_
    refine wG Y21_Zc True.intro ?_
    refine Fin.gen (rs := [.tmp 4]) rfl (by first | exact .inl rfl | exact .inr rfl) (finG Y21_Zc) ?_ rfl (idG (And.intro enV_id (And.intro enL_id (And.intro byL_id (And.intro lsV_id (And.intro lsL_id (And.intro (@tyV_id) flE_id)))))))
    skip
    all_goals exact wkG (And.intro enV_id (And.intro enL_id (And.intro byL_id (And.intro lsV_id (And.intro lsL_id (And.intro (@tyV_id) flE_id))))))
  | true =>
  cases h2 : hasE L e with
  | true => exact absurd (by unfold rmErr; rw [h1, h2]; rfl) hE
  | false =>
  rw [h2] at q3
  rw [rm9 h1 h2]
  refine goG Y21_Zc True.intro ?_
  refine wdG Y21_Zc True.intro ?_
  refine AR.callP q3 enV_eq (And.intro enV_id (And.intro enL_id (And.intro byL_id (And.intro lsV_id (And.intro lsL_id (And.intro (@tyV_id) flE_id)))))) ?_
  refine goG Y21_Zc True.intro ?_
  refine wdG Y21_Zc True.intro ?_
  refine Fin.gen (rs := [.tmp 4]) rfl (by first | exact .inl rfl | exact .inr rfl) (finG Y21_Zc) ?_ rfl (idG (And.intro enV_id (And.intro enL_id (And.intro byL_id (And.intro lsV_id (And.intro lsL_id (And.intro (@tyV_id) flE_id)))))))
  skip
  all_goals exact wkG (And.intro enV_id (And.intro enL_id (And.intro byL_id (And.intro lsV_id (And.intro lsL_id (And.intro (@tyV_id) flE_id))))))
theorem c_Rem0N (L : List En) (un : List (List En)) (e : En) (h : AscE L) (hl : L.length ≤ 1024) (hu : un.length ≤ 4194304) (hE : rmErr L e = 0) : DC Tryd.prog 21 [.pt 0 0, enV e] [.box [(.im (.bool ((true)))), .sl (L.map enV) .ro, .sl (un.map lsV) .full, .sl [] .nl]] (.im (.int .i64 (0))) [.box [(.im (.bool (true))), .sl ((delE L e).map enV) .ro, .sl ((clipE (un ++ [L])).map lsV) .full, .sl [] .nl]] := by
  obtain ⟨h1, h2⟩ := rm0 hE
  obtain ⟨hp, _⟩ := hasE_pos h h2
  have q1 := c_usableN true L un
  have q2 := c_vkey e
  have q3 := c_search L e h (by omega)
  rw [h1] at q2
  rw [h2] at q3
  have h0 : 0 < L.length := by omega
  have q4 := c_clB h0 (by omega)
  have q5 := c_del L (posE L e) hp (by omega)
  have q6 := c_changeBN (L.eraseIdx (posE L e)) L un hu
  have hml : L.length - 1 = (L.eraseIdx (posE L e)).length := by rw [List.length_eraseIdx, if_pos hp]
  rw [hml] at q5
  have hd : delE L e = L.eraseIdx (posE L e) := rfl
  rw [hd]
  have hw : IntKind.i64.wrap (((posE L e : Nat) : Int) + 1) = ((posE L e : Nat) : Int) + 1 := wrap_in (by omega)
  generalize L.eraseIdx (posE L e) = M at q5 q6 ⊢
  generalize posE L e = p at q3 q5 hw
  generalize clipE (un ++ [L]) = CU at q6 ⊢
  refine DC.enter 35 Tryd.func21 rfl (by decide) rfl rfl (s := [(0, .pt 0 0), (1, enV e)]) (by rfl) ?_
  simp only [enV_eq e]
  refine wG Y21_Zc True.intro ?_
  refine AR.callQP [0] q1 True.intro (And.intro enV_id (And.intro enL_id (And.intro byL_id (And.intro lsV_id (And.intro lsL_id (And.intro (@tyV_id) flE_id)))))) (And.intro enV_ren (And.intro enL_ren (And.intro byL_ren (And.intro lsV_ren (And.intro lsL_ren flE_ren))))) ?_
  refine goG Y21_Zc True.intro ?_
  refine wG Y21_Zc True.intro ?_
  refine AR.callP q2 enV_eq (And.intro enV_id (And.intro enL_id (And.intro byL_id (And.intro lsV_id (And.intro lsL_id (And.intro (@tyV_id) flE_id)))))) ?_
  refine goG Y21_Zc True.intro ?_
  refine wdG Y21_Zc True.intro ?_
  refine AR.callP q3 enV_eq (And.intro enV_id (And.intro enL_id (And.intro byL_id (And.intro lsV_id (And.intro lsL_id (And.intro (@tyV_id) flE_id)))))) ?_
  refine goG Y21_Zc True.intro ?_
  refine wdG Y21_Zc True.intro ?_
  refine AR.callS [2] q4 rfl rfl (by first | (simp only [SR, enV_ren, enL_ren, byL_ren, lsV_ren, lsL_ren, flE_ren]; done) | (simp only [SR, enV_ren, enL_ren, byL_ren, lsV_ren, lsL_ren, flE_ren]; with_reducible exact rfl)) (by first | (simp only [SR, enV_ren, enL_ren, byL_ren, lsV_ren, lsL_ren, flE_ren]; done) | (simp only [SR, enV_ren, enL_ren, byL_ren, lsV_ren, lsL_ren, flE_ren]; with_reducible exact rfl)) (WkL.cons (Wk.nn (by simpa using h0)) .nil) (by first | rfl | simp only [List.length_cons, List.length_nil, Nat.reduceAdd, V.ids, V.idsL, idsA, entOk, List.all_cons, List.all_nil, Bool.and_self, Bool.and_true, Bool.true_and, ltB, noId, Nat.reduceLT, decide_true, Bool.true_eq_false, tyV_id, fdV_id, tyL_id, fdL_id, enV_id, enL_id, byL_id, lsV_id, lsL_id, tyV_id, flE_id]) rfl rfl rfl (by first | rfl | simp only [List.length_cons, List.length_nil, Nat.reduceAdd, V.ids, V.idsL, idsA, entOk, List.all_cons, List.all_nil, Bool.and_self, Bool.and_true, Bool.true_and, ltB, noId, Nat.reduceLT, decide_true, Bool.true_eq_false, tyV_id, fdV_id, tyL_id, fdL_id, enV_id, enL_id, byL_id, lsV_id, lsL_id, tyV_id, flE_id]) (by intro p hp; simp only [renE, SR, Ent.ren, List.mem_cons, List.not_mem_nil, or_false, enV_ren, enL_ren, byL_ren, lsV_ren, lsL_ren, flE_ren] at hp; rcases hp with rfl <;> rfl) (by simp only [renE, Ent.ren, SR, enV_ren, enL_ren, byL_ren, lsV_ren, lsL_ren, flE_ren, wrl, putE, SC, SD, Nat.reduceBEq, Nat.reduceLT, Nat.reduceSub, Nat.reduceAdd, Nat.reduceMul, Nat.reduceLeDiff, Nat.reduceEqDiff, reduceCtorEq, Int.reduceLT, Int.reduceLE, Int.reduceEq, Int.reduceNe, Int.reduceBEq, Int.reduceBNe, Int.reduceAdd, Int.reduceSub, Int.reduceMul, Int.reduceToNat]; with_reducible exact rfl) ?_
  refine goG Y21_Zc hw ?_
  refine AR.callSP [2] q5 True.intro (And.intro enV_id (And.intro enL_id (And.intro byL_id (And.intro lsV_id (And.intro lsL_id (And.intro (@tyV_id) flE_id)))))) (And.intro enV_ren (And.intro enL_ren (And.intro byL_ren (And.intro lsV_ren (And.intro lsL_ren flE_ren))))) ?_
  refine goG Y21_Zc True.intro ?_
  refine AR.callSP [0, 2] q6 True.intro (And.intro enV_id (And.intro enL_id (And.intro byL_id (And.intro lsV_id (And.intro lsL_id (And.intro (@tyV_id) flE_id)))))) (And.intro enV_ren (And.intro enL_ren (And.intro byL_ren (And.intro lsV_ren (And.intro lsL_ren flE_ren))))) ?_
  refine goG Y21_Zc True.intro ?_
  refine AR.end ?_
  refine Thn.n ?_
  refine AWp.frz 1 [] [.box [(.im (.bool (true))), .sl (M.map enV) .ro, .sl (CU.map lsV) .full, .sl [] .nl]] ?_ (by simp) (by repeat (first | exact WkFA.nil | refine WkFA.cons (by first | exact .of (Wk.refl _) (by first | rfl | simp only [List.length_cons, List.length_nil, Nat.reduceAdd, V.ids, V.idsL, idsA, entOk, List.all_cons, List.all_nil, Bool.and_self, Bool.and_true, Bool.true_and, ltB, noId, Nat.reduceLT, decide_true, Bool.true_eq_false, tyV_id, fdV_id, tyL_id, fdL_id, enV_id, enL_id, byL_id, lsV_id, lsL_id, tyV_id, flE_id]) | exact WkF.bs (z := 4) rfl rfl (by simp) (enL_all M) rfl (enL_id _ _)) ?_)) (by repeat (first | exact WkFE.nil | refine WkFE.box (by repeat (first | exact WkFL.nil | refine WkFL.cons (by first | exact .of (Wk.refl _) (by first | rfl | simp only [List.length_cons, List.length_nil, Nat.reduceAdd, V.ids, V.idsL, idsA, entOk, List.all_cons, List.all_nil, Bool.and_self, Bool.and_true, Bool.true_and, ltB, noId, Nat.reduceLT, decide_true, Bool.true_eq_false, tyV_id, fdV_id, tyL_id, fdL_id, enV_id, enL_id, byL_id, lsV_id, lsL_id, tyV_id, flE_id]) | exact WkF.bs (z := 4) rfl rfl (by simp) (enL_all M) rfl (enL_id _ _)) ?_)) ?_ | refine WkFE.same (fun _ e => by cases e) ?_)) (fun i hi => by first | exact absurd rfl hi | exact Nat.lt_of_lt_of_le (ofl_lt hi) (by simp))
  refine wG Y21_Zc True.intro ?_
  refine Fin.gen (rs := [.tmp 4]) rfl (by first | exact .inl rfl | exact .inr rfl) (finG Y21_Zc) ?_ rfl (idG (And.intro enV_id (And.intro enL_id (And.intro byL_id (And.intro lsV_id (And.intro lsL_id (And.intro (@tyV_id) flE_id)))))))
  skip
  all_goals exact wkG (And.intro enV_id (And.intro enL_id (And.intro byL_id (And.intro lsV_id (And.intro lsL_id (And.intro (@tyV_id) flE_id))))))
theorem Y16_Zc : type_of% (And.intro @F_ag_28 (And.intro @F_ag_9 (And.intro @F_al_36 (And.intro @F_el_28 (And.intro @F_fl_36_3 (And.intro @F_fl_45_1 (And.intro @F_st_36 (And.intro @F_sz_28 (And.intro @F_sz_36 (@F_sz_9)))))))))) := And.intro @F_ag_28 (And.intro @F_ag_9 (And.intro @F_al_36 (And.intro @F_el_28 (And.intro @F_fl_36_3 (And.intro @F_fl_45_1 (And.intro @F_st_36 (And.intro @F_sz_28 (And.intro @F_sz_36 (@F_sz_9)))))))))
theorem c_GetN (L : List En) (un : List (List En)) (k a v : Int) (h : AscE L) (hl : L.length ≤ 1024) : DC Tryd.prog 16 [.pt 0 0, (.im (.int .i64 (k))), (.im (.int .u32 (a))), (.im (.int .i64 (v)))] [.box [(.im (.bool ((true)))), .sl (L.map enV) .ro, .sl (un.map lsV) .full, .sl [] .nl]] (.tu [(.im (.string (bA (getE L k a v)))), (.im (.bool (hasE L (keyOf k a v))))]) [.box [(.im (.bool ((true)))), .sl (L.map enV) .ro, .sl (un.map lsV) .full, .sl [] .nl]] := by
  have q1 := c_usableN true L un
  have q3 := c_search L (keyOf k a v) h (by omega)
  rw [show enV (keyOf k a v) = .ag [(.im (.int .i64 (k))), (.im (.int .i64 (v))), (.im (.int .u32 (a))), .im (.string ByteArray.empty)] from rfl] at q3
  unfold getE
  refine DC.enter 37 Tryd.func16 rfl (by decide) rfl rfl (s := [(0, .pt 0 0), (1, (.im (.int .i64 (k)))), (2, (.im (.int .u32 (a)))), (3, (.im (.int .i64 (v))))]) (by rfl) ?_
  refine wG Y16_Zc True.intro ?_
  refine AR.callQP [0] q1 True.intro (And.intro enV_id (And.intro enL_id (And.intro byL_id (And.intro lsV_id (And.intro lsL_id (And.intro (@tyV_id) flE_id)))))) (And.intro enV_ren (And.intro enL_ren (And.intro byL_ren (And.intro lsV_ren (And.intro lsL_ren flE_ren))))) ?_
  refine goG Y16_Zc True.intro ?_
  refine wG Y16_Zc True.intro ?_
  refine AR.callP q3 True.intro (And.intro enV_id (And.intro enL_id (And.intro byL_id (And.intro lsV_id (And.intro lsL_id (And.intro (@tyV_id) flE_id)))))) ?_
  cases h2 : hasE L (keyOf k a v) with
  | false =>
    rw [if_neg (by decide)]
    refine goG Y16_Zc True.intro ?_
    refine wG Y16_Zc True.intro ?_
    refine Fin.gen (rs := [.tmp 8, .tmp 9]) rfl (by first | exact .inl rfl | exact .inr rfl) (finG Y16_Zc) ?_ rfl (idG (And.intro enV_id (And.intro enL_id (And.intro byL_id (And.intro lsV_id (And.intro lsL_id (And.intro (@tyV_id) flE_id)))))))
    skip
    all_goals exact wkG (And.intro enV_id (And.intro enL_id (And.intro byL_id (And.intro lsV_id (And.intro lsL_id (And.intro (@tyV_id) flE_id))))))
  | true =>
    obtain ⟨hp, _⟩ := hasE_pos h h2
    have hg := get_some hp
    have hgd : L.getD (posE L (keyOf k a v)) ⟨0, 0, 0, []⟩ = L[posE L (keyOf k a v)] := by rw [List.getD_eq_getElem?_getD, hg]; rfl
    rw [if_pos rfl, hgd]
    generalize L[posE L (keyOf k a v)] = x at hg ⊢
    generalize posE L (keyOf k a v) = p at hg
    refine goG Y16_Zc True.intro ?_
    refine wG Y16_Zc (And.intro ENT hg) ?_
    refine Fin.gen (rs := [.tmp 8, .tmp 9]) rfl (by first | exact .inl rfl | exact .inr rfl) (finG Y16_Zc) ?_ rfl (idG (And.intro enV_id (And.intro enL_id (And.intro byL_id (And.intro lsV_id (And.intro lsL_id (And.intro (@tyV_id) flE_id)))))))
    skip
    all_goals exact wkG (And.intro enV_id (And.intro enL_id (And.intro byL_id (And.intro lsV_id (And.intro lsL_id (And.intro (@tyV_id) flE_id))))))
theorem Y12_Zc : type_of% (And.intro @F_ag_28 (And.intro @F_fl_45_1 (@F_sz_28))) := And.intro @F_ag_28 (And.intro @F_fl_45_1 (@F_sz_28))
theorem c_AllN (L : List En) (un : List (List En)) (hl : L.length ≤ 1024) : DC Tryd.prog 12 [.pt 0 0] [.box [(.im (.bool ((true)))), .sl (L.map enV) .ro, .sl (un.map lsV) .full, .sl [] .nl]] (.sl (L.map enV) .ro) [.box [(.im (.bool ((true)))), .sl (L.map enV) .ro, .sl (un.map lsV) .full, .sl [] .nl]] := by
  have q1 := c_usableN true L un
  refine DC.enter 11 Tryd.func12 rfl (by decide) rfl rfl (s := [(0, .pt 0 0)]) (by rfl) ?_
  refine wG Y12_Zc True.intro ?_
  refine AR.callQP [0] q1 True.intro (And.intro enV_id (And.intro enL_id (And.intro byL_id (And.intro lsV_id (And.intro lsL_id (And.intro (@tyV_id) flE_id)))))) (And.intro enV_ren (And.intro enL_ren (And.intro byL_ren (And.intro lsV_ren (And.intro lsL_ren flE_ren))))) ?_
  refine goG Y12_Zc True.intro ?_
  refine wG Y12_Zc True.intro ?_
  rcases Nat.eq_zero_or_pos L.length with h0 | h0
  · obtain rfl := List.length_eq_zero_iff.1 h0
    have qc := c_cl0
    rw [List.map_nil]
    refine AR.callP qc True.intro (And.intro enV_id (And.intro enL_id (And.intro byL_id (And.intro lsV_id (And.intro lsL_id (And.intro (@tyV_id) flE_id)))))) ?_
    refine goG Y12_Zc True.intro ?_
    refine wG Y12_Zc True.intro ?_
    refine Fin.gen (rs := [.tmp 2]) rfl (by first | exact .inl rfl | exact .inr rfl) (finG Y12_Zc) ?_ rfl (idG (And.intro enV_id (And.intro enL_id (And.intro byL_id (And.intro lsV_id (And.intro lsL_id (And.intro (@tyV_id) flE_id)))))))
    skip
    all_goals exact wkG (And.intro enV_id (And.intro enL_id (And.intro byL_id (And.intro lsV_id (And.intro lsL_id (And.intro (@tyV_id) flE_id))))))
  · have qc := c_clB h0 (by omega)
    refine AR.callS [1] qc rfl rfl (by first | (simp only [SR, enV_ren, enL_ren, byL_ren, lsV_ren, lsL_ren, flE_ren]; done) | (simp only [SR, enV_ren, enL_ren, byL_ren, lsV_ren, lsL_ren, flE_ren]; with_reducible exact rfl)) (by first | (simp only [SR, enV_ren, enL_ren, byL_ren, lsV_ren, lsL_ren, flE_ren]; done) | (simp only [SR, enV_ren, enL_ren, byL_ren, lsV_ren, lsL_ren, flE_ren]; with_reducible exact rfl)) (WkL.cons (Wk.nn (by simpa using h0)) .nil) (by first | rfl | simp only [List.length_cons, List.length_nil, Nat.reduceAdd, V.ids, V.idsL, idsA, entOk, List.all_cons, List.all_nil, Bool.and_self, Bool.and_true, Bool.true_and, ltB, noId, Nat.reduceLT, decide_true, Bool.true_eq_false, tyV_id, fdV_id, tyL_id, fdL_id, enV_id, enL_id, byL_id, lsV_id, lsL_id, tyV_id, flE_id]) rfl rfl rfl (by first | rfl | simp only [List.length_cons, List.length_nil, Nat.reduceAdd, V.ids, V.idsL, idsA, entOk, List.all_cons, List.all_nil, Bool.and_self, Bool.and_true, Bool.true_and, ltB, noId, Nat.reduceLT, decide_true, Bool.true_eq_false, tyV_id, fdV_id, tyL_id, fdL_id, enV_id, enL_id, byL_id, lsV_id, lsL_id, tyV_id, flE_id]) (by intro p hp; simp only [renE, SR, Ent.ren, List.mem_cons, List.not_mem_nil, or_false, enV_ren, enL_ren, byL_ren, lsV_ren, lsL_ren, flE_ren] at hp; rcases hp with rfl <;> rfl) (by simp only [renE, Ent.ren, SR, enV_ren, enL_ren, byL_ren, lsV_ren, lsL_ren, flE_ren, wrl, putE, SC, SD, Nat.reduceBEq, Nat.reduceLT, Nat.reduceSub, Nat.reduceAdd, Nat.reduceMul, Nat.reduceLeDiff, Nat.reduceEqDiff, reduceCtorEq, Int.reduceLT, Int.reduceLE, Int.reduceEq, Int.reduceNe, Int.reduceBEq, Int.reduceBNe, Int.reduceAdd, Int.reduceSub, Int.reduceMul, Int.reduceToNat]; with_reducible exact rfl) ?_
    refine goG Y12_Zc True.intro ?_
    refine wG Y12_Zc True.intro ?_
    refine Fin.gen (rs := [.tmp 2]) rfl (by first | exact .inl rfl | exact .inr rfl) (finG Y12_Zc) ?_ rfl (idG (And.intro enV_id (And.intro enL_id (And.intro byL_id (And.intro lsV_id (And.intro lsL_id (And.intro (@tyV_id) flE_id)))))))
    exact WkF.bs (z := 4) rfl rfl (by simp) (enL_all L) rfl (enL_id _ _)
    all_goals exact wkG (And.intro enV_id (And.intro enL_id (And.intro byL_id (And.intro lsV_id (And.intro lsL_id (And.intro (@tyV_id) flE_id))))))
theorem c_usableM (b : Bool) (L : List En) (un re : List (List En)) : DC Tryd.prog 22 [.pt 0 0] [.box [(.im (.bool ((b)))), .sl (L.map enV) .ro, .sl (un.map lsV) .full, .sl (re.map lsV) .ro]] (.im (.bool (b))) [.box [(.im (.bool ((b)))), .sl (L.map enV) .ro, .sl (un.map lsV) .full, .sl (re.map lsV) .ro]] := by
  refine DC.enter 11 Tryd.func22 rfl (by decide) rfl rfl (s := [(0, .pt 0 0)]) (by rfl) ?_
  refine wG Y22_Zc True.intro ?_
  refine AR.eqP false ?_
  refine goG Y22_Zc True.intro ?_
  refine wG Y22_Zc True.intro ?_
  exact Fin.oneSP (And.intro enV_id (And.intro enL_id (And.intro byL_id (And.intro lsV_id (And.intro lsL_id (And.intro (@tyV_id) flE_id))))))
theorem c_GetM (L : List En) (un re : List (List En)) (k a v : Int) (h : AscE L) (hl : L.length ≤ 1024) : DC Tryd.prog 16 [.pt 0 0, (.im (.int .i64 (k))), (.im (.int .u32 (a))), (.im (.int .i64 (v)))] [.box [(.im (.bool ((true)))), .sl (L.map enV) .ro, .sl (un.map lsV) .full, .sl (re.map lsV) .ro]] (.tu [(.im (.string (bA (getE L k a v)))), (.im (.bool (hasE L (keyOf k a v))))]) [.box [(.im (.bool ((true)))), .sl (L.map enV) .ro, .sl (un.map lsV) .full, .sl (re.map lsV) .ro]] := by
  have q1 := c_usableM true L un re
  have q3 := c_search L (keyOf k a v) h (by omega)
  rw [show enV (keyOf k a v) = .ag [(.im (.int .i64 (k))), (.im (.int .i64 (v))), (.im (.int .u32 (a))), .im (.string ByteArray.empty)] from rfl] at q3
  unfold getE
  refine DC.enter 37 Tryd.func16 rfl (by decide) rfl rfl (s := [(0, .pt 0 0), (1, (.im (.int .i64 (k)))), (2, (.im (.int .u32 (a)))), (3, (.im (.int .i64 (v))))]) (by rfl) ?_
  refine wG Y16_Zc True.intro ?_
  refine AR.callQP [0] q1 True.intro (And.intro enV_id (And.intro enL_id (And.intro byL_id (And.intro lsV_id (And.intro lsL_id (And.intro (@tyV_id) flE_id)))))) (And.intro enV_ren (And.intro enL_ren (And.intro byL_ren (And.intro lsV_ren (And.intro lsL_ren flE_ren))))) ?_
  refine goG Y16_Zc True.intro ?_
  refine wG Y16_Zc True.intro ?_
  refine AR.callP q3 True.intro (And.intro enV_id (And.intro enL_id (And.intro byL_id (And.intro lsV_id (And.intro lsL_id (And.intro (@tyV_id) flE_id)))))) ?_
  cases h2 : hasE L (keyOf k a v) with
  | false =>
    rw [if_neg (by decide)]
    refine goG Y16_Zc True.intro ?_
    refine wG Y16_Zc True.intro ?_
    refine Fin.gen (rs := [.tmp 8, .tmp 9]) rfl (by first | exact .inl rfl | exact .inr rfl) (finG Y16_Zc) ?_ rfl (idG (And.intro enV_id (And.intro enL_id (And.intro byL_id (And.intro lsV_id (And.intro lsL_id (And.intro (@tyV_id) flE_id)))))))
    skip
    all_goals exact wkG (And.intro enV_id (And.intro enL_id (And.intro byL_id (And.intro lsV_id (And.intro lsL_id (And.intro (@tyV_id) flE_id))))))
  | true =>
    obtain ⟨hp, _⟩ := hasE_pos h h2
    have hg := get_some hp
    have hgd : L.getD (posE L (keyOf k a v)) ⟨0, 0, 0, []⟩ = L[posE L (keyOf k a v)] := by rw [List.getD_eq_getElem?_getD, hg]; rfl
    rw [if_pos rfl, hgd]
    generalize L[posE L (keyOf k a v)] = x at hg ⊢
    generalize posE L (keyOf k a v) = p at hg
    refine goG Y16_Zc True.intro ?_
    refine wG Y16_Zc (And.intro ENT hg) ?_
    refine Fin.gen (rs := [.tmp 8, .tmp 9]) rfl (by first | exact .inl rfl | exact .inr rfl) (finG Y16_Zc) ?_ rfl (idG (And.intro enV_id (And.intro enL_id (And.intro byL_id (And.intro lsV_id (And.intro lsL_id (And.intro (@tyV_id) flE_id)))))))
    skip
    all_goals exact wkG (And.intro enV_id (And.intro enL_id (And.intro byL_id (And.intro lsV_id (And.intro lsL_id (And.intro (@tyV_id) flE_id))))))
theorem c_AllM (L : List En) (un re : List (List En)) (hl : L.length ≤ 1024) : DC Tryd.prog 12 [.pt 0 0] [.box [(.im (.bool ((true)))), .sl (L.map enV) .ro, .sl (un.map lsV) .full, .sl (re.map lsV) .ro]] (.sl (L.map enV) .ro) [.box [(.im (.bool ((true)))), .sl (L.map enV) .ro, .sl (un.map lsV) .full, .sl (re.map lsV) .ro]] := by
  have q1 := c_usableM true L un re
  refine DC.enter 11 Tryd.func12 rfl (by decide) rfl rfl (s := [(0, .pt 0 0)]) (by rfl) ?_
  refine wG Y12_Zc True.intro ?_
  refine AR.callQP [0] q1 True.intro (And.intro enV_id (And.intro enL_id (And.intro byL_id (And.intro lsV_id (And.intro lsL_id (And.intro (@tyV_id) flE_id)))))) (And.intro enV_ren (And.intro enL_ren (And.intro byL_ren (And.intro lsV_ren (And.intro lsL_ren flE_ren))))) ?_
  refine goG Y12_Zc True.intro ?_
  refine wG Y12_Zc True.intro ?_
  rcases Nat.eq_zero_or_pos L.length with h0 | h0
  · obtain rfl := List.length_eq_zero_iff.1 h0
    have qc := c_cl0
    rw [List.map_nil]
    refine AR.callP qc True.intro (And.intro enV_id (And.intro enL_id (And.intro byL_id (And.intro lsV_id (And.intro lsL_id (And.intro (@tyV_id) flE_id)))))) ?_
    refine goG Y12_Zc True.intro ?_
    refine wG Y12_Zc True.intro ?_
    refine Fin.gen (rs := [.tmp 2]) rfl (by first | exact .inl rfl | exact .inr rfl) (finG Y12_Zc) ?_ rfl (idG (And.intro enV_id (And.intro enL_id (And.intro byL_id (And.intro lsV_id (And.intro lsL_id (And.intro (@tyV_id) flE_id)))))))
    skip
    all_goals exact wkG (And.intro enV_id (And.intro enL_id (And.intro byL_id (And.intro lsV_id (And.intro lsL_id (And.intro (@tyV_id) flE_id))))))
  · have qc := c_clB h0 (by omega)
    refine AR.callS [1] qc rfl rfl (by first | (simp only [SR, enV_ren, enL_ren, byL_ren, lsV_ren, lsL_ren, flE_ren]; done) | (simp only [SR, enV_ren, enL_ren, byL_ren, lsV_ren, lsL_ren, flE_ren]; with_reducible exact rfl)) (by first | (simp only [SR, enV_ren, enL_ren, byL_ren, lsV_ren, lsL_ren, flE_ren]; done) | (simp only [SR, enV_ren, enL_ren, byL_ren, lsV_ren, lsL_ren, flE_ren]; with_reducible exact rfl)) (WkL.cons (Wk.nn (by simpa using h0)) .nil) (by first | rfl | simp only [List.length_cons, List.length_nil, Nat.reduceAdd, V.ids, V.idsL, idsA, entOk, List.all_cons, List.all_nil, Bool.and_self, Bool.and_true, Bool.true_and, ltB, noId, Nat.reduceLT, decide_true, Bool.true_eq_false, tyV_id, fdV_id, tyL_id, fdL_id, enV_id, enL_id, byL_id, lsV_id, lsL_id, tyV_id, flE_id]) rfl rfl rfl (by first | rfl | simp only [List.length_cons, List.length_nil, Nat.reduceAdd, V.ids, V.idsL, idsA, entOk, List.all_cons, List.all_nil, Bool.and_self, Bool.and_true, Bool.true_and, ltB, noId, Nat.reduceLT, decide_true, Bool.true_eq_false, tyV_id, fdV_id, tyL_id, fdL_id, enV_id, enL_id, byL_id, lsV_id, lsL_id, tyV_id, flE_id]) (by intro p hp; simp only [renE, SR, Ent.ren, List.mem_cons, List.not_mem_nil, or_false, enV_ren, enL_ren, byL_ren, lsV_ren, lsL_ren, flE_ren] at hp; rcases hp with rfl <;> rfl) (by simp only [renE, Ent.ren, SR, enV_ren, enL_ren, byL_ren, lsV_ren, lsL_ren, flE_ren, wrl, putE, SC, SD, Nat.reduceBEq, Nat.reduceLT, Nat.reduceSub, Nat.reduceAdd, Nat.reduceMul, Nat.reduceLeDiff, Nat.reduceEqDiff, reduceCtorEq, Int.reduceLT, Int.reduceLE, Int.reduceEq, Int.reduceNe, Int.reduceBEq, Int.reduceBNe, Int.reduceAdd, Int.reduceSub, Int.reduceMul, Int.reduceToNat]; with_reducible exact rfl) ?_
    refine goG Y12_Zc True.intro ?_
    refine wG Y12_Zc True.intro ?_
    refine Fin.gen (rs := [.tmp 2]) rfl (by first | exact .inl rfl | exact .inr rfl) (finG Y12_Zc) ?_ rfl (idG (And.intro enV_id (And.intro enL_id (And.intro byL_id (And.intro lsV_id (And.intro lsL_id (And.intro (@tyV_id) flE_id)))))))
    exact WkF.bs (z := 4) rfl rfl (by simp) (enL_all L) rfl (enL_id _ _)
    all_goals exact wkG (And.intro enV_id (And.intro enL_id (And.intro byL_id (And.intro lsV_id (And.intro lsL_id (And.intro (@tyV_id) flE_id))))))
theorem c_usableR (b : Bool) (L : List En) (un re : List (List En)) : DC Tryd.prog 22 [.pt 0 0] [.box [(.im (.bool ((b)))), .sl (L.map enV) .ro, .sl (un.map lsV) .ro, .sl (re.map lsV) .ro]] (.im (.bool (b))) [.box [(.im (.bool ((b)))), .sl (L.map enV) .ro, .sl (un.map lsV) .ro, .sl (re.map lsV) .ro]] := by
  refine DC.enter 11 Tryd.func22 rfl (by decide) rfl rfl (s := [(0, .pt 0 0)]) (by rfl) ?_
  refine wG Y22_Zc True.intro ?_
  refine AR.eqP false ?_
  refine goG Y22_Zc True.intro ?_
  refine wG Y22_Zc True.intro ?_
  exact Fin.oneSP (And.intro enV_id (And.intro enL_id (And.intro byL_id (And.intro lsV_id (And.intro lsL_id (And.intro (@tyV_id) flE_id))))))
theorem c_GetR (L : List En) (un re : List (List En)) (k a v : Int) (h : AscE L) (hl : L.length ≤ 1024) : DC Tryd.prog 16 [.pt 0 0, (.im (.int .i64 (k))), (.im (.int .u32 (a))), (.im (.int .i64 (v)))] [.box [(.im (.bool ((true)))), .sl (L.map enV) .ro, .sl (un.map lsV) .ro, .sl (re.map lsV) .ro]] (.tu [(.im (.string (bA (getE L k a v)))), (.im (.bool (hasE L (keyOf k a v))))]) [.box [(.im (.bool ((true)))), .sl (L.map enV) .ro, .sl (un.map lsV) .ro, .sl (re.map lsV) .ro]] := by
  have q1 := c_usableR true L un re
  have q3 := c_search L (keyOf k a v) h (by omega)
  rw [show enV (keyOf k a v) = .ag [(.im (.int .i64 (k))), (.im (.int .i64 (v))), (.im (.int .u32 (a))), .im (.string ByteArray.empty)] from rfl] at q3
  unfold getE
  refine DC.enter 37 Tryd.func16 rfl (by decide) rfl rfl (s := [(0, .pt 0 0), (1, (.im (.int .i64 (k)))), (2, (.im (.int .u32 (a)))), (3, (.im (.int .i64 (v))))]) (by rfl) ?_
  refine wG Y16_Zc True.intro ?_
  refine AR.callQP [0] q1 True.intro (And.intro enV_id (And.intro enL_id (And.intro byL_id (And.intro lsV_id (And.intro lsL_id (And.intro (@tyV_id) flE_id)))))) (And.intro enV_ren (And.intro enL_ren (And.intro byL_ren (And.intro lsV_ren (And.intro lsL_ren flE_ren))))) ?_
  refine goG Y16_Zc True.intro ?_
  refine wG Y16_Zc True.intro ?_
  refine AR.callP q3 True.intro (And.intro enV_id (And.intro enL_id (And.intro byL_id (And.intro lsV_id (And.intro lsL_id (And.intro (@tyV_id) flE_id)))))) ?_
  cases h2 : hasE L (keyOf k a v) with
  | false =>
    rw [if_neg (by decide)]
    refine goG Y16_Zc True.intro ?_
    refine wG Y16_Zc True.intro ?_
    refine Fin.gen (rs := [.tmp 8, .tmp 9]) rfl (by first | exact .inl rfl | exact .inr rfl) (finG Y16_Zc) ?_ rfl (idG (And.intro enV_id (And.intro enL_id (And.intro byL_id (And.intro lsV_id (And.intro lsL_id (And.intro (@tyV_id) flE_id)))))))
    skip
    all_goals exact wkG (And.intro enV_id (And.intro enL_id (And.intro byL_id (And.intro lsV_id (And.intro lsL_id (And.intro (@tyV_id) flE_id))))))
  | true =>
    obtain ⟨hp, _⟩ := hasE_pos h h2
    have hg := get_some hp
    have hgd : L.getD (posE L (keyOf k a v)) ⟨0, 0, 0, []⟩ = L[posE L (keyOf k a v)] := by rw [List.getD_eq_getElem?_getD, hg]; rfl
    rw [if_pos rfl, hgd]
    generalize L[posE L (keyOf k a v)] = x at hg ⊢
    generalize posE L (keyOf k a v) = p at hg
    refine goG Y16_Zc True.intro ?_
    refine wG Y16_Zc (And.intro ENT hg) ?_
    refine Fin.gen (rs := [.tmp 8, .tmp 9]) rfl (by first | exact .inl rfl | exact .inr rfl) (finG Y16_Zc) ?_ rfl (idG (And.intro enV_id (And.intro enL_id (And.intro byL_id (And.intro lsV_id (And.intro lsL_id (And.intro (@tyV_id) flE_id)))))))
    skip
    all_goals exact wkG (And.intro enV_id (And.intro enL_id (And.intro byL_id (And.intro lsV_id (And.intro lsL_id (And.intro (@tyV_id) flE_id))))))
theorem c_AllR (L : List En) (un re : List (List En)) (hl : L.length ≤ 1024) : DC Tryd.prog 12 [.pt 0 0] [.box [(.im (.bool ((true)))), .sl (L.map enV) .ro, .sl (un.map lsV) .ro, .sl (re.map lsV) .ro]] (.sl (L.map enV) .ro) [.box [(.im (.bool ((true)))), .sl (L.map enV) .ro, .sl (un.map lsV) .ro, .sl (re.map lsV) .ro]] := by
  have q1 := c_usableR true L un re
  refine DC.enter 11 Tryd.func12 rfl (by decide) rfl rfl (s := [(0, .pt 0 0)]) (by rfl) ?_
  refine wG Y12_Zc True.intro ?_
  refine AR.callQP [0] q1 True.intro (And.intro enV_id (And.intro enL_id (And.intro byL_id (And.intro lsV_id (And.intro lsL_id (And.intro (@tyV_id) flE_id)))))) (And.intro enV_ren (And.intro enL_ren (And.intro byL_ren (And.intro lsV_ren (And.intro lsL_ren flE_ren))))) ?_
  refine goG Y12_Zc True.intro ?_
  refine wG Y12_Zc True.intro ?_
  rcases Nat.eq_zero_or_pos L.length with h0 | h0
  · obtain rfl := List.length_eq_zero_iff.1 h0
    have qc := c_cl0
    rw [List.map_nil]
    refine AR.callP qc True.intro (And.intro enV_id (And.intro enL_id (And.intro byL_id (And.intro lsV_id (And.intro lsL_id (And.intro (@tyV_id) flE_id)))))) ?_
    refine goG Y12_Zc True.intro ?_
    refine wG Y12_Zc True.intro ?_
    refine Fin.gen (rs := [.tmp 2]) rfl (by first | exact .inl rfl | exact .inr rfl) (finG Y12_Zc) ?_ rfl (idG (And.intro enV_id (And.intro enL_id (And.intro byL_id (And.intro lsV_id (And.intro lsL_id (And.intro (@tyV_id) flE_id)))))))
    skip
    all_goals exact wkG (And.intro enV_id (And.intro enL_id (And.intro byL_id (And.intro lsV_id (And.intro lsL_id (And.intro (@tyV_id) flE_id))))))
  · have qc := c_clB h0 (by omega)
    refine AR.callS [1] qc rfl rfl (by first | (simp only [SR, enV_ren, enL_ren, byL_ren, lsV_ren, lsL_ren, flE_ren]; done) | (simp only [SR, enV_ren, enL_ren, byL_ren, lsV_ren, lsL_ren, flE_ren]; with_reducible exact rfl)) (by first | (simp only [SR, enV_ren, enL_ren, byL_ren, lsV_ren, lsL_ren, flE_ren]; done) | (simp only [SR, enV_ren, enL_ren, byL_ren, lsV_ren, lsL_ren, flE_ren]; with_reducible exact rfl)) (WkL.cons (Wk.nn (by simpa using h0)) .nil) (by first | rfl | simp only [List.length_cons, List.length_nil, Nat.reduceAdd, V.ids, V.idsL, idsA, entOk, List.all_cons, List.all_nil, Bool.and_self, Bool.and_true, Bool.true_and, ltB, noId, Nat.reduceLT, decide_true, Bool.true_eq_false, tyV_id, fdV_id, tyL_id, fdL_id, enV_id, enL_id, byL_id, lsV_id, lsL_id, tyV_id, flE_id]) rfl rfl rfl (by first | rfl | simp only [List.length_cons, List.length_nil, Nat.reduceAdd, V.ids, V.idsL, idsA, entOk, List.all_cons, List.all_nil, Bool.and_self, Bool.and_true, Bool.true_and, ltB, noId, Nat.reduceLT, decide_true, Bool.true_eq_false, tyV_id, fdV_id, tyL_id, fdL_id, enV_id, enL_id, byL_id, lsV_id, lsL_id, tyV_id, flE_id]) (by intro p hp; simp only [renE, SR, Ent.ren, List.mem_cons, List.not_mem_nil, or_false, enV_ren, enL_ren, byL_ren, lsV_ren, lsL_ren, flE_ren] at hp; rcases hp with rfl <;> rfl) (by simp only [renE, Ent.ren, SR, enV_ren, enL_ren, byL_ren, lsV_ren, lsL_ren, flE_ren, wrl, putE, SC, SD, Nat.reduceBEq, Nat.reduceLT, Nat.reduceSub, Nat.reduceAdd, Nat.reduceMul, Nat.reduceLeDiff, Nat.reduceEqDiff, reduceCtorEq, Int.reduceLT, Int.reduceLE, Int.reduceEq, Int.reduceNe, Int.reduceBEq, Int.reduceBNe, Int.reduceAdd, Int.reduceSub, Int.reduceMul, Int.reduceToNat]; with_reducible exact rfl) ?_
    refine goG Y12_Zc True.intro ?_
    refine wG Y12_Zc True.intro ?_
    refine Fin.gen (rs := [.tmp 2]) rfl (by first | exact .inl rfl | exact .inr rfl) (finG Y12_Zc) ?_ rfl (idG (And.intro enV_id (And.intro enL_id (And.intro byL_id (And.intro lsV_id (And.intro lsL_id (And.intro (@tyV_id) flE_id)))))))
    exact WkF.bs (z := 4) rfl rfl (by simp) (enL_all L) rfl (enL_id _ _)
    all_goals exact wkG (And.intro enV_id (And.intro enL_id (And.intro byL_id (And.intro lsV_id (And.intro lsL_id (And.intro (@tyV_id) flE_id))))))
theorem c_usableO (b : Bool) (L : List En) (un re : List (List En)) : DC Tryd.prog 22 [.pt 0 0] [.box [(.im (.bool ((b)))), .sl (L.map enV) .ro, .sl (un.map lsV) .full, .sl (re.map lsV) (.own 1)], .tip 28 1 re.length] (.im (.bool (b))) [.box [(.im (.bool ((b)))), .sl (L.map enV) .ro, .sl (un.map lsV) .full, .sl (re.map lsV) (.own 1)], .tip 28 1 re.length] := by
  refine DC.enter 11 Tryd.func22 rfl (by decide) rfl rfl (s := [(0, .pt 0 0)]) (by rfl) ?_
  refine wG Y22_Zc True.intro ?_
  refine AR.eqP false ?_
  refine goG Y22_Zc True.intro ?_
  refine wG Y22_Zc True.intro ?_
  exact Fin.oneSP (And.intro enV_id (And.intro enL_id (And.intro byL_id (And.intro lsV_id (And.intro lsL_id (And.intro (@tyV_id) flE_id))))))
theorem c_AllO (L : List En) (un re : List (List En)) (hl : L.length ≤ 1024) : DC Tryd.prog 12 [.pt 0 0] [.box [(.im (.bool ((true)))), .sl (L.map enV) .ro, .sl (un.map lsV) .full, .sl (re.map lsV) (.own 1)], .tip 28 1 re.length] (.sl (L.map enV) .ro) [.box [(.im (.bool ((true)))), .sl (L.map enV) .ro, .sl (un.map lsV) .full, .sl (re.map lsV) (.own 1)], .tip 28 1 re.length] := by
  have q1 := c_usableO true L un re
  refine DC.enter 11 Tryd.func12 rfl (by decide) rfl rfl (s := [(0, .pt 0 0)]) (by rfl) ?_
  refine wG Y12_Zc True.intro ?_
  refine AR.callQP [0, 1] q1 True.intro (And.intro enV_id (And.intro enL_id (And.intro byL_id (And.intro lsV_id (And.intro lsL_id (And.intro (@tyV_id) flE_id)))))) (And.intro enV_ren (And.intro enL_ren (And.intro byL_ren (And.intro lsV_ren (And.intro lsL_ren flE_ren))))) ?_
  refine goG Y12_Zc True.intro ?_
  refine wG Y12_Zc True.intro ?_
  rcases Nat.eq_zero_or_pos L.length with h0 | h0
  · obtain rfl := List.length_eq_zero_iff.1 h0
    have qc := c_cl0
    rw [List.map_nil]
    refine AR.callP qc True.intro (And.intro enV_id (And.intro enL_id (And.intro byL_id (And.intro lsV_id (And.intro lsL_id (And.intro (@tyV_id) flE_id)))))) ?_
    refine goG Y12_Zc True.intro ?_
    refine wG Y12_Zc True.intro ?_
    refine Fin.gen (rs := [.tmp 2]) rfl (by first | exact .inl rfl | exact .inr rfl) (finG Y12_Zc) ?_ rfl (idG (And.intro enV_id (And.intro enL_id (And.intro byL_id (And.intro lsV_id (And.intro lsL_id (And.intro (@tyV_id) flE_id)))))))
    skip
    all_goals exact wkG (And.intro enV_id (And.intro enL_id (And.intro byL_id (And.intro lsV_id (And.intro lsL_id (And.intro (@tyV_id) flE_id))))))
  · have qc := c_clB h0 (by omega)
    refine AR.callS [2] qc rfl rfl (by first | (simp only [SR, enV_ren, enL_ren, byL_ren, lsV_ren, lsL_ren, flE_ren]; done) | (simp only [SR, enV_ren, enL_ren, byL_ren, lsV_ren, lsL_ren, flE_ren]; with_reducible exact rfl)) (by first | (simp only [SR, enV_ren, enL_ren, byL_ren, lsV_ren, lsL_ren, flE_ren]; done) | (simp only [SR, enV_ren, enL_ren, byL_ren, lsV_ren, lsL_ren, flE_ren]; with_reducible exact rfl)) (WkL.cons (Wk.nn (by simpa using h0)) .nil) (by first | rfl | simp only [List.length_cons, List.length_nil, Nat.reduceAdd, V.ids, V.idsL, idsA, entOk, List.all_cons, List.all_nil, Bool.and_self, Bool.and_true, Bool.true_and, ltB, noId, Nat.reduceLT, decide_true, Bool.true_eq_false, tyV_id, fdV_id, tyL_id, fdL_id, enV_id, enL_id, byL_id, lsV_id, lsL_id, tyV_id, flE_id]) rfl rfl rfl (by first | rfl | simp only [List.length_cons, List.length_nil, Nat.reduceAdd, V.ids, V.idsL, idsA, entOk, List.all_cons, List.all_nil, Bool.and_self, Bool.and_true, Bool.true_and, ltB, noId, Nat.reduceLT, decide_true, Bool.true_eq_false, tyV_id, fdV_id, tyL_id, fdL_id, enV_id, enL_id, byL_id, lsV_id, lsL_id, tyV_id, flE_id]) (by intro p hp; simp only [renE, SR, Ent.ren, List.mem_cons, List.not_mem_nil, or_false, enV_ren, enL_ren, byL_ren, lsV_ren, lsL_ren, flE_ren] at hp; rcases hp with rfl <;> rfl) (by simp only [renE, Ent.ren, SR, enV_ren, enL_ren, byL_ren, lsV_ren, lsL_ren, flE_ren, wrl, putE, SC, SD, Nat.reduceBEq, Nat.reduceLT, Nat.reduceSub, Nat.reduceAdd, Nat.reduceMul, Nat.reduceLeDiff, Nat.reduceEqDiff, reduceCtorEq, Int.reduceLT, Int.reduceLE, Int.reduceEq, Int.reduceNe, Int.reduceBEq, Int.reduceBNe, Int.reduceAdd, Int.reduceSub, Int.reduceMul, Int.reduceToNat]; with_reducible exact rfl) ?_
    refine goG Y12_Zc True.intro ?_
    refine wG Y12_Zc True.intro ?_
    refine Fin.gen (rs := [.tmp 2]) rfl (by first | exact .inl rfl | exact .inr rfl) (finG Y12_Zc) ?_ rfl (idG (And.intro enV_id (And.intro enL_id (And.intro byL_id (And.intro lsV_id (And.intro lsL_id (And.intro (@tyV_id) flE_id)))))))
    exact WkF.bs (z := 4) rfl rfl (by simp) (enL_all L) rfl (enL_id _ _)
    all_goals exact wkG (And.intro enV_id (And.intro enL_id (And.intro byL_id (And.intro lsV_id (And.intro lsL_id (And.intro (@tyV_id) flE_id))))))
theorem c_usableP (b : Bool) (L : List En) (un re : List (List En)) : DC Tryd.prog 22 [.pt 0 0] [.box [(.im (.bool ((b)))), .sl (L.map enV) .ro, .sl (un.map lsV) (.own 1), .sl (re.map lsV) .ro], .tip 28 1 un.length] (.im (.bool (b))) [.box [(.im (.bool ((b)))), .sl (L.map enV) .ro, .sl (un.map lsV) (.own 1), .sl (re.map lsV) .ro], .tip 28 1 un.length] := by
  refine DC.enter 11 Tryd.func22 rfl (by decide) rfl rfl (s := [(0, .pt 0 0)]) (by rfl) ?_
  refine wG Y22_Zc True.intro ?_
  refine AR.eqP false ?_
  refine goG Y22_Zc True.intro ?_
  refine wG Y22_Zc True.intro ?_
  exact Fin.oneSP (And.intro enV_id (And.intro enL_id (And.intro byL_id (And.intro lsV_id (And.intro lsL_id (And.intro (@tyV_id) flE_id))))))
theorem c_AllP (L : List En) (un re : List (List En)) (hl : L.length ≤ 1024) : DC Tryd.prog 12 [.pt 0 0] [.box [(.im (.bool ((true)))), .sl (L.map enV) .ro, .sl (un.map lsV) (.own 1), .sl (re.map lsV) .ro], .tip 28 1 un.length] (.sl (L.map enV) .ro) [.box [(.im (.bool ((true)))), .sl (L.map enV) .ro, .sl (un.map lsV) (.own 1), .sl (re.map lsV) .ro], .tip 28 1 un.length] := by
  have q1 := c_usableP true L un re
  refine DC.enter 11 Tryd.func12 rfl (by decide) rfl rfl (s := [(0, .pt 0 0)]) (by rfl) ?_
  refine wG Y12_Zc True.intro ?_
  refine AR.callQP [0, 1] q1 True.intro (And.intro enV_id (And.intro enL_id (And.intro byL_id (And.intro lsV_id (And.intro lsL_id (And.intro (@tyV_id) flE_id)))))) (And.intro enV_ren (And.intro enL_ren (And.intro byL_ren (And.intro lsV_ren (And.intro lsL_ren flE_ren))))) ?_
  refine goG Y12_Zc True.intro ?_
  refine wG Y12_Zc True.intro ?_
  rcases Nat.eq_zero_or_pos L.length with h0 | h0
  · obtain rfl := List.length_eq_zero_iff.1 h0
    have qc := c_cl0
    rw [List.map_nil]
    refine AR.callP qc True.intro (And.intro enV_id (And.intro enL_id (And.intro byL_id (And.intro lsV_id (And.intro lsL_id (And.intro (@tyV_id) flE_id)))))) ?_
    refine goG Y12_Zc True.intro ?_
    refine wG Y12_Zc True.intro ?_
    refine Fin.gen (rs := [.tmp 2]) rfl (by first | exact .inl rfl | exact .inr rfl) (finG Y12_Zc) ?_ rfl (idG (And.intro enV_id (And.intro enL_id (And.intro byL_id (And.intro lsV_id (And.intro lsL_id (And.intro (@tyV_id) flE_id)))))))
    skip
    all_goals exact wkG (And.intro enV_id (And.intro enL_id (And.intro byL_id (And.intro lsV_id (And.intro lsL_id (And.intro (@tyV_id) flE_id))))))
  · have qc := c_clB h0 (by omega)
    refine AR.callS [2] qc rfl rfl (by first | (simp only [SR, enV_ren, enL_ren, byL_ren, lsV_ren, lsL_ren, flE_ren]; done) | (simp only [SR, enV_ren, enL_ren, byL_ren, lsV_ren, lsL_ren, flE_ren]; with_reducible exact rfl)) (by first | (simp only [SR, enV_ren, enL_ren, byL_ren, lsV_ren, lsL_ren, flE_ren]; done) | (simp only [SR, enV_ren, enL_ren, byL_ren, lsV_ren, lsL_ren, flE_ren]; with_reducible exact rfl)) (WkL.cons (Wk.nn (by simpa using h0)) .nil) (by first | rfl | simp only [List.length_cons, List.length_nil, Nat.reduceAdd, V.ids, V.idsL, idsA, entOk, List.all_cons, List.all_nil, Bool.and_self, Bool.and_true, Bool.true_and, ltB, noId, Nat.reduceLT, decide_true, Bool.true_eq_false, tyV_id, fdV_id, tyL_id, fdL_id, enV_id, enL_id, byL_id, lsV_id, lsL_id, tyV_id, flE_id]) rfl rfl rfl (by first | rfl | simp only [List.length_cons, List.length_nil, Nat.reduceAdd, V.ids, V.idsL, idsA, entOk, List.all_cons, List.all_nil, Bool.and_self, Bool.and_true, Bool.true_and, ltB, noId, Nat.reduceLT, decide_true, Bool.true_eq_false, tyV_id, fdV_id, tyL_id, fdL_id, enV_id, enL_id, byL_id, lsV_id, lsL_id, tyV_id, flE_id]) (by intro p hp; simp only [renE, SR, Ent.ren, List.mem_cons, List.not_mem_nil, or_false, enV_ren, enL_ren, byL_ren, lsV_ren, lsL_ren, flE_ren] at hp; rcases hp with rfl <;> rfl) (by simp only [renE, Ent.ren, SR, enV_ren, enL_ren, byL_ren, lsV_ren, lsL_ren, flE_ren, wrl, putE, SC, SD, Nat.reduceBEq, Nat.reduceLT, Nat.reduceSub, Nat.reduceAdd, Nat.reduceMul, Nat.reduceLeDiff, Nat.reduceEqDiff, reduceCtorEq, Int.reduceLT, Int.reduceLE, Int.reduceEq, Int.reduceNe, Int.reduceBEq, Int.reduceBNe, Int.reduceAdd, Int.reduceSub, Int.reduceMul, Int.reduceToNat]; with_reducible exact rfl) ?_
    refine goG Y12_Zc True.intro ?_
    refine wG Y12_Zc True.intro ?_
    refine Fin.gen (rs := [.tmp 2]) rfl (by first | exact .inl rfl | exact .inr rfl) (finG Y12_Zc) ?_ rfl (idG (And.intro enV_id (And.intro enL_id (And.intro byL_id (And.intro lsV_id (And.intro lsL_id (And.intro (@tyV_id) flE_id)))))))
    exact WkF.bs (z := 4) rfl rfl (by simp) (enL_all L) rfl (enL_id _ _)
    all_goals exact wkG (And.intro enV_id (And.intro enL_id (And.intro byL_id (And.intro lsV_id (And.intro lsL_id (And.intro (@tyV_id) flE_id))))))
theorem c_usableQ (b : Bool) (L : List En) (un re : List (List En)) : DC Tryd.prog 22 [.pt 0 0] [.box [(.im (.bool ((b)))), .sl (L.map enV) .ro, .sl (un.map lsV) (.own 1), .sl (re.map lsV) .full], .tip 28 1 un.length] (.im (.bool (b))) [.box [(.im (.bool ((b)))), .sl (L.map enV) .ro, .sl (un.map lsV) (.own 1), .sl (re.map lsV) .full], .tip 28 1 un.length] := by
  refine DC.enter 11 Tryd.func22 rfl (by decide) rfl rfl (s := [(0, .pt 0 0)]) (by rfl) ?_
  refine wG Y22_Zc True.intro ?_
  refine AR.eqP false ?_
  refine goG Y22_Zc True.intro ?_
  refine wG Y22_Zc True.intro ?_
  exact Fin.oneSP (And.intro enV_id (And.intro enL_id (And.intro byL_id (And.intro lsV_id (And.intro lsL_id (And.intro (@tyV_id) flE_id))))))
theorem Y13_Zc : type_of% (And.intro @F_ag_28 (And.intro @F_ag_43 (And.intro @F_al_28 (And.intro @F_by_28 (And.intro @F_el_43 (And.intro @F_fl_45_1 (And.intro @F_fl_45_2 (And.intro @F_fl_45_3 (And.intro @F_sz_28 (And.intro @F_sz_43 (@F_un_43))))))))))) := And.intro @F_ag_28 (And.intro @F_ag_43 (And.intro @F_al_28 (And.intro @F_by_28 (And.intro @F_el_43 (And.intro @F_fl_45_1 (And.intro @F_fl_45_2 (And.intro @F_fl_45_3 (And.intro @F_sz_28 (And.intro @F_sz_43 (@F_un_43))))))))))
theorem c_Undo0N (L x : List En) (un : List (List En)) (hu : un.length ≤ 4194304) : DC Tryd.prog 13 [.pt 0 0] [.box [(.im (.bool ((true)))), .sl (L.map enV) .ro, .sl ((un ++ [x]).map lsV) .full, .sl [] .nl], .free] (.im (.bool (true))) [.box [(.im (.bool ((true)))), .sl (x.map enV) .ro, .sl (un.map lsV) .full, .sl ([L].map lsV) (.own 1)], .tip 28 1 [L].length] := by
  have q1 := c_usableN true L (un ++ [x])
  have hA : ([V.sl (L.map enV) .ro] : List V) = [L].map lsV := rfl
  have hml := True.intro
  have hal := True.intro
  have hgx : (un ++ [x])[un.length]? = some x := by simp
  have htk : List.take un.length (List.map lsV (un ++ [x])) = List.map lsV un := by rw [← List.map_take, List.take_left]
  have hz : ¬ ((un ++ [x]).length : Int) = 0 := by simp; omega
  have hw : IntKind.i64.wrap (((un ++ [x]).length : Int) - 1) = (un.length : Int) := by rw [wrap_in (by simp; omega)]; simp
  have hlt : (un.length : Int) < ((un ++ [x]).length : Int) := by simp; omega
  have hle : (un.length : Int) ≤ ((un ++ [x]).length : Int) := by simp; omega
  have hiss := isS un.length
  generalize un ++ [x] = T at q1 hgx htk hz hw hlt hle ⊢
  refine DC.enterM 1 [.box [(.im (.bool (true))), .sl (L.map enV) .ro, .sl (T.map lsV) .full, .sl [] .nl]] 54 Tryd.func13 rfl (by decide) rfl rfl (s := [(0, .pt 0 0)]) (by rfl) ?_ rfl
  refine wG Y13_Zc True.intro ?_
  refine AR.callQP [0] q1 True.intro (And.intro enV_id (And.intro enL_id (And.intro byL_id (And.intro lsV_id (And.intro lsL_id (And.intro (@tyV_id) flE_id)))))) (And.intro enV_ren (And.intro enL_ren (And.intro byL_ren (And.intro lsV_ren (And.intro lsL_ren flE_ren))))) ?_
  refine goG Y13_Zc (And.intro hz @List.length_map.{0, 0}) ?_
  refine wdG Y13_Zc (And.intro hz (And.intro hw (And.intro LST (And.intro GDS (And.intro hgx (And.intro htk (And.intro hlt (And.intro hle (And.intro hiss lsL_allS))))))))) ?_
  refine Fin.genM 2 (by simp) (rs := [.tmp 2]) rfl (by first | exact .inl rfl | exact .inr rfl) (by simp only [resX, resA, ↓accU_f, ↓reduceIte, SA, SB, SC, SD, Y13_Zc, valG, fpsG, evO, evB, evA, evA1, nilK, eqF, eqC, apOk, intOf, slB, slK,  gd, St.ev, putA, ofl, wrl, putE, V.ofVal, V.ofCell, bin2, un1, seg, fillV, partsOk, Value.oneCell', Nat.reduceBEq, Nat.reduceLT, Nat.reduceSub, Nat.reduceAdd, Nat.reduceMul, Nat.reduceLeDiff, Nat.reduceEqDiff, reduceCtorEq, Int.reduceLT, Int.reduceLE, Int.reduceEq, Int.reduceNe, Int.reduceBEq, Int.reduceBNe, Int.reduceAdd, Int.reduceSub, Int.reduceMul, Int.reduceToNat]; with_reducible exact rfl) ?_ rfl (by first | rfl | simp only [List.length_cons, List.length_nil, Nat.reduceAdd, V.ids, V.idsL, idsA, entOk, List.all_cons, List.all_nil, Bool.and_self, Bool.and_true, Bool.true_and, ltB, noId, Nat.reduceLT, decide_true, Bool.true_eq_false, tyV_id, fdV_id, tyL_id, fdL_id, enV_id, enL_id, byL_id, lsV_id, lsL_id, tyV_id, flE_id])
  repeat (first | exact WkF.of (Wk.refl _) (by first | rfl | simp only [List.length_cons, List.length_nil, Nat.reduceAdd, V.ids, V.idsL, idsA, entOk, List.all_cons, List.all_nil, Bool.and_self, Bool.and_true, Bool.true_and, ltB, noId, Nat.reduceLT, decide_true, Bool.true_eq_false, tyV_id, fdV_id, tyL_id, fdL_id, enV_id, enL_id, byL_id, lsV_id, lsL_id, tyV_id, flE_id]) | exact WkF.of (Wk.ro _ _) (by first | rfl | simp only [List.length_cons, List.length_nil, Nat.reduceAdd, V.ids, V.idsL, idsA, entOk, List.all_cons, List.all_nil, Bool.and_self, Bool.and_true, Bool.true_and, ltB, noId, Nat.reduceLT, decide_true, Bool.true_eq_false, tyV_id, fdV_id, tyL_id, fdL_id, enV_id, enL_id, byL_id, lsV_id, lsL_id, tyV_id, flE_id]) | refine WkF.tu ?_ | refine WkF.ag ?_ | refine WkFL.cons ?_ ?_ | exact WkFL.nil)
theorem c_Undo0O (L x : List En) (un re : List (List En)) (hu : un.length ≤ 4194304) (hr : re.length ≤ 4194304) : DC Tryd.prog 13 [.pt 0 0] [.box [(.im (.bool ((true)))), .sl (L.map enV) .ro, .sl ((un ++ [x]).map lsV) .full, .sl (re.map lsV) (.own 1)], .tip 28 1 re.length] (.im (.bool (true))) [.box [(.im (.bool ((true)))), .sl (x.map enV) .ro, .sl (un.map lsV) .full, .sl ((re ++ [L]).map lsV) (.own 1)], .tip 28 1 (re ++ [L]).length] := by
  have q1 := c_usableO true L (un ++ [x]) re
  have hA : re.map lsV ++ [.sl (L.map enV) .ro] = (re ++ [L]).map lsV := by rw [List.map_append]; rfl
  have hml : re.length + 1 = (re ++ [L]).length := by simp
  have hal : (re ++ [L]).length * 24 ≤ 140737488355328 := by simp; omega
  have hgx : (un ++ [x])[un.length]? = some x := by simp
  have htk : List.take un.length (List.map lsV (un ++ [x])) = List.map lsV un := by rw [← List.map_take, List.take_left]
  have hz : ¬ ((un ++ [x]).length : Int) = 0 := by simp; omega
  have hw : IntKind.i64.wrap (((un ++ [x]).length : Int) - 1) = (un.length : Int) := by rw [wrap_in (by simp; omega)]; simp
  have hlt : (un.length : Int) < ((un ++ [x]).length : Int) := by simp; omega
  have hle : (un.length : Int) ≤ ((un ++ [x]).length : Int) := by simp; omega
  have hiss := isS un.length
  generalize un ++ [x] = T at q1 hgx htk hz hw hlt hle ⊢
  generalize re ++ [L] = D at hA hml hal ⊢
  refine DC.enter 54 Tryd.func13 rfl (by decide) rfl rfl (s := [(0, .pt 0 0)]) (by rfl) ?_
  refine wG Y13_Zc True.intro ?_
  refine AR.callQP [0, 1] q1 True.intro (And.intro enV_id (And.intro enL_id (And.intro byL_id (And.intro lsV_id (And.intro lsL_id (And.intro (@tyV_id) flE_id)))))) (And.intro enV_ren (And.intro enL_ren (And.intro byL_ren (And.intro lsV_ren (And.intro lsL_ren flE_ren))))) ?_
  refine goG Y13_Zc (And.intro hz @List.length_map.{0, 0}) ?_
  refine wdG Y13_Zc (And.intro hz (And.intro hA (And.intro hml (And.intro hal (And.intro hw (And.intro LST (And.intro GDS (And.intro hgx (And.intro htk (And.intro hlt (And.intro hle (And.intro hiss lsL_allS)))))))))))) ?_
  refine Fin.gen (rs := [.tmp 2]) rfl (by first | exact .inl rfl | exact .inr rfl) (finG Y13_Zc) ?_ rfl (idG (And.intro enV_id (And.intro enL_id (And.intro byL_id (And.intro lsV_id (And.intro lsL_id (And.intro (@tyV_id) flE_id)))))))
  skip
  all_goals exact wkG (And.intro enV_id (And.intro enL_id (And.intro byL_id (And.intro lsV_id (And.intro lsL_id (And.intro (@tyV_id) flE_id))))))
theorem Y15_Zc : type_of% (And.intro @F_ag_28 (And.intro @F_ag_43 (And.intro @F_al_28 (And.intro @F_by_28 (And.intro @F_el_43 (And.intro @F_fl_45_1 (And.intro @F_fl_45_2 (And.intro @F_fl_45_3 (And.intro @F_sz_28 (And.intro @F_sz_43 (@F_un_43))))))))))) := And.intro @F_ag_28 (And.intro @F_ag_43 (And.intro @F_al_28 (And.intro @F_by_28 (And.intro @F_el_43 (And.intro @F_fl_45_1 (And.intro @F_fl_45_2 (And.intro @F_fl_45_3 (And.intro @F_sz_28 (And.intro @F_sz_43 (@F_un_43))))))))))
theorem c_Redo0M (L x : List En) (un re : List (List En)) (hu : un.length ≤ 4194304) (hr : re.length ≤ 4194304) : DC Tryd.prog 15 [.pt 0 0] [.box [(.im (.bool ((true)))), .sl (L.map enV) .ro, .sl (un.map lsV) .full, .sl ((re ++ [x]).map lsV) .ro], .free] (.im (.bool (true))) [.box [(.im (.bool ((true)))), .sl (x.map enV) .ro, .sl ((un ++ [L]).map lsV) (.own 1), .sl (re.map lsV) .full], .tip 28 1 (un ++ [L]).length] := by
  have q1 := c_usableM true L un (re ++ [x])
  have hA : un.map lsV ++ [.sl (L.map enV) .ro] = (un ++ [L]).map lsV := by rw [List.map_append]; rfl
  have hml : un.length + 1 = (un ++ [L]).length := by simp
  have hal : (un ++ [L]).length * 24 ≤ 140737488355328 := by simp; omega
  have hgx : (re ++ [x])[re.length]? = some x := by simp
  have htk : List.take re.length (List.map lsV (re ++ [x])) = List.map lsV re := by rw [← List.map_take, List.take_left]
  have hz : ¬ ((re ++ [x]).length : Int) = 0 := by simp; omega
  have hw : IntKind.i64.wrap (((re ++ [x]).length : Int) - 1) = (re.length : Int) := by rw [wrap_in (by simp; omega)]; simp
  have hlt : (re.length : Int) < ((re ++ [x]).length : Int) := by simp; omega
  have hle : (re.length : Int) ≤ ((re ++ [x]).length : Int) := by simp; omega
  have hiss := isS re.length
  generalize re ++ [x] = T at q1 hgx htk hz hw hlt hle ⊢
  generalize un ++ [L] = D at hA hml hal ⊢
  refine DC.enterM 1 [.box [(.im (.bool (true))), .sl (L.map enV) .ro, .sl (un.map lsV) .full, .sl (T.map lsV) .ro]] 54 Tryd.func15 rfl (by decide) rfl rfl (s := [(0, .pt 0 0)]) (by rfl) ?_ rfl
  refine wG Y15_Zc True.intro ?_
  refine AR.callQP [0] q1 True.intro (And.intro enV_id (And.intro enL_id (And.intro byL_id (And.intro lsV_id (And.intro lsL_id (And.intro (@tyV_id) flE_id)))))) (And.intro enV_ren (And.intro enL_ren (And.intro byL_ren (And.intro lsV_ren (And.intro lsL_ren flE_ren))))) ?_
  refine goG Y15_Zc (And.intro hz @List.length_map.{0, 0}) ?_
  refine wdG Y15_Zc (And.intro hz (And.intro hA (And.intro hml (And.intro hal (And.intro hw (And.intro LST (And.intro GDS (And.intro hgx (And.intro htk (And.intro hlt (And.intro hle (And.intro hiss lsL_allS)))))))))))) ?_
  refine Fin.genM 2 (by simp) (rs := [.tmp 2]) rfl (by first | exact .inl rfl | exact .inr rfl) (by simp only [resX, resA, ↓accU_f, ↓reduceIte, SA, SB, SC, SD, Y15_Zc, valG, fpsG, evO, evB, evA, evA1, nilK, eqF, eqC, apOk, intOf, slB, slK,  gd, St.ev, putA, ofl, wrl, putE, V.ofVal, V.ofCell, bin2, un1, seg, fillV, partsOk, Value.oneCell', Nat.reduceBEq, Nat.reduceLT, Nat.reduceSub, Nat.reduceAdd, Nat.reduceMul, Nat.reduceLeDiff, Nat.reduceEqDiff, reduceCtorEq, Int.reduceLT, Int.reduceLE, Int.reduceEq, Int.reduceNe, Int.reduceBEq, Int.reduceBNe, Int.reduceAdd, Int.reduceSub, Int.reduceMul, Int.reduceToNat]; with_reducible exact rfl) ?_ rfl (by first | rfl | simp only [List.length_cons, List.length_nil, Nat.reduceAdd, V.ids, V.idsL, idsA, entOk, List.all_cons, List.all_nil, Bool.and_self, Bool.and_true, Bool.true_and, ltB, noId, Nat.reduceLT, decide_true, Bool.true_eq_false, tyV_id, fdV_id, tyL_id, fdL_id, enV_id, enL_id, byL_id, lsV_id, lsL_id, tyV_id, flE_id])
  repeat (first | exact WkF.of (Wk.refl _) (by first | rfl | simp only [List.length_cons, List.length_nil, Nat.reduceAdd, V.ids, V.idsL, idsA, entOk, List.all_cons, List.all_nil, Bool.and_self, Bool.and_true, Bool.true_and, ltB, noId, Nat.reduceLT, decide_true, Bool.true_eq_false, tyV_id, fdV_id, tyL_id, fdL_id, enV_id, enL_id, byL_id, lsV_id, lsL_id, tyV_id, flE_id]) | exact WkF.of (Wk.ro _ _) (by first | rfl | simp only [List.length_cons, List.length_nil, Nat.reduceAdd, V.ids, V.idsL, idsA, entOk, List.all_cons, List.all_nil, Bool.and_self, Bool.and_true, Bool.true_and, ltB, noId, Nat.reduceLT, decide_true, Bool.true_eq_false, tyV_id, fdV_id, tyL_id, fdL_id, enV_id, enL_id, byL_id, lsV_id, lsL_id, tyV_id, flE_id]) | refine WkF.tu ?_ | refine WkF.ag ?_ | refine WkFL.cons ?_ ?_ | exact WkFL.nil)
theorem c_Redo0P (L x : List En) (un re : List (List En)) (hu : un.length ≤ 4194304) (hr : re.length ≤ 4194304) : DC Tryd.prog 15 [.pt 0 0] [.box [(.im (.bool ((true)))), .sl (L.map enV) .ro, .sl (un.map lsV) (.own 1), .sl ((re ++ [x]).map lsV) .ro], .tip 28 1 un.length] (.im (.bool (true))) [.box [(.im (.bool ((true)))), .sl (x.map enV) .ro, .sl ((un ++ [L]).map lsV) (.own 1), .sl (re.map lsV) .full], .tip 28 1 (un ++ [L]).length] := by
  have q1 := c_usableP true L un (re ++ [x])
  have hA : un.map lsV ++ [.sl (L.map enV) .ro] = (un ++ [L]).map lsV := by rw [List.map_append]; rfl
  have hml : un.length + 1 = (un ++ [L]).length := by simp
  have hal : (un ++ [L]).length * 24 ≤ 140737488355328 := by simp; omega
  have hgx : (re ++ [x])[re.length]? = some x := by simp
  have htk : List.take re.length (List.map lsV (re ++ [x])) = List.map lsV re := by rw [← List.map_take, List.take_left]
  have hz : ¬ ((re ++ [x]).length : Int) = 0 := by simp; omega
  have hw : IntKind.i64.wrap (((re ++ [x]).length : Int) - 1) = (re.length : Int) := by rw [wrap_in (by simp; omega)]; simp
  have hlt : (re.length : Int) < ((re ++ [x]).length : Int) := by simp; omega
  have hle : (re.length : Int) ≤ ((re ++ [x]).length : Int) := by simp; omega
  have hiss := isS re.length
  generalize re ++ [x] = T at q1 hgx htk hz hw hlt hle ⊢
  generalize un ++ [L] = D at hA hml hal ⊢
  refine DC.enter 54 Tryd.func15 rfl (by decide) rfl rfl (s := [(0, .pt 0 0)]) (by rfl) ?_
  refine wG Y15_Zc True.intro ?_
  refine AR.callQP [0, 1] q1 True.intro (And.intro enV_id (And.intro enL_id (And.intro byL_id (And.intro lsV_id (And.intro lsL_id (And.intro (@tyV_id) flE_id)))))) (And.intro enV_ren (And.intro enL_ren (And.intro byL_ren (And.intro lsV_ren (And.intro lsL_ren flE_ren))))) ?_
  refine goG Y15_Zc (And.intro hz @List.length_map.{0, 0}) ?_
  refine wdG Y15_Zc (And.intro hz (And.intro hA (And.intro hml (And.intro hal (And.intro hw (And.intro LST (And.intro GDS (And.intro hgx (And.intro htk (And.intro hlt (And.intro hle (And.intro hiss lsL_allS)))))))))))) ?_
  refine Fin.gen (rs := [.tmp 2]) rfl (by first | exact .inl rfl | exact .inr rfl) (finG Y15_Zc) ?_ rfl (idG (And.intro enV_id (And.intro enL_id (And.intro byL_id (And.intro lsV_id (And.intro lsL_id (And.intro (@tyV_id) flE_id)))))))
  skip
  all_goals exact wkG (And.intro enV_id (And.intro enL_id (And.intro byL_id (And.intro lsV_id (And.intro lsL_id (And.intro (@tyV_id) flE_id))))))
theorem c_Undo1R (L : List En) (re : List (List En)) : DC Tryd.prog 13 [.pt 0 0] [.box [(.im (.bool ((true)))), .sl (L.map enV) .ro, .sl [] .ro, .sl (re.map lsV) .ro]] (.im (.bool (false))) [.box [(.im (.bool ((true)))), .sl (L.map enV) .ro, .sl [] .ro, .sl (re.map lsV) .ro]] := by
  have q1 := c_usableR true L [] re
  rw [List.map_nil] at q1
  refine DC.enter 54 Tryd.func13 rfl (by decide) rfl rfl (s := [(0, .pt 0 0)]) (by rfl) ?_
  refine wG Y13_Zc True.intro ?_
  refine AR.callQP [0] q1 True.intro (And.intro enV_id (And.intro enL_id (And.intro byL_id (And.intro lsV_id (And.intro lsL_id (And.intro (@tyV_id) flE_id)))))) (And.intro enV_ren (And.intro enL_ren (And.intro byL_ren (And.intro lsV_ren (And.intro lsL_ren flE_ren))))) ?_
  refine goG Y13_Zc @List.length_nil.{0} ?_
  refine wG Y13_Zc True.intro ?_
  refine Fin.gen (rs := [.tmp 2]) rfl (by first | exact .inl rfl | exact .inr rfl) (finG Y13_Zc) ?_ rfl (idG (And.intro enV_id (And.intro enL_id (And.intro byL_id (And.intro lsV_id (And.intro lsL_id (And.intro (@tyV_id) flE_id)))))))
  skip
  all_goals exact wkG (And.intro enV_id (And.intro enL_id (And.intro byL_id (And.intro lsV_id (And.intro lsL_id (And.intro (@tyV_id) flE_id))))))
theorem c_Redo1R (L : List En) (un : List (List En)) : DC Tryd.prog 15 [.pt 0 0] [.box [(.im (.bool ((true)))), .sl (L.map enV) .ro, .sl (un.map lsV) .ro, .sl [] .ro]] (.im (.bool (false))) [.box [(.im (.bool ((true)))), .sl (L.map enV) .ro, .sl (un.map lsV) .ro, .sl [] .ro]] := by
  have q1 := c_usableR true L un []
  rw [List.map_nil] at q1
  refine DC.enter 54 Tryd.func15 rfl (by decide) rfl rfl (s := [(0, .pt 0 0)]) (by rfl) ?_
  refine wG Y15_Zc True.intro ?_
  refine AR.callQP [0] q1 True.intro (And.intro enV_id (And.intro enL_id (And.intro byL_id (And.intro lsV_id (And.intro lsL_id (And.intro (@tyV_id) flE_id)))))) (And.intro enV_ren (And.intro enL_ren (And.intro byL_ren (And.intro lsV_ren (And.intro lsL_ren flE_ren))))) ?_
  refine goG Y15_Zc @List.length_nil.{0} ?_
  refine wG Y15_Zc True.intro ?_
  refine Fin.gen (rs := [.tmp 2]) rfl (by first | exact .inl rfl | exact .inr rfl) (finG Y15_Zc) ?_ rfl (idG (And.intro enV_id (And.intro enL_id (And.intro byL_id (And.intro lsV_id (And.intro lsL_id (And.intro (@tyV_id) flE_id)))))))
  skip
  all_goals exact wkG (And.intro enV_id (And.intro enL_id (And.intro byL_id (And.intro lsV_id (And.intro lsL_id (And.intro (@tyV_id) flE_id))))))
theorem c_Redo1Q (L : List En) (un : List (List En)) : DC Tryd.prog 15 [.pt 0 0] [.box [(.im (.bool ((true)))), .sl (L.map enV) .ro, .sl (un.map lsV) (.own 1), .sl [] .full], .tip 28 1 un.length] (.im (.bool (false))) [.box [(.im (.bool ((true)))), .sl (L.map enV) .ro, .sl (un.map lsV) (.own 1), .sl [] .full], .tip 28 1 un.length] := by
  have q1 := c_usableQ true L un []
  rw [List.map_nil] at q1
  refine DC.enter 54 Tryd.func15 rfl (by decide) rfl rfl (s := [(0, .pt 0 0)]) (by rfl) ?_
  refine wG Y15_Zc True.intro ?_
  refine AR.callQP [0, 1] q1 True.intro (And.intro enV_id (And.intro enL_id (And.intro byL_id (And.intro lsV_id (And.intro lsL_id (And.intro (@tyV_id) flE_id)))))) (And.intro enV_ren (And.intro enL_ren (And.intro byL_ren (And.intro lsV_ren (And.intro lsL_ren flE_ren))))) ?_
  refine goG Y15_Zc @List.length_nil.{0} ?_
  refine wG Y15_Zc True.intro ?_
  refine Fin.gen (rs := [.tmp 2]) rfl (by first | exact .inl rfl | exact .inr rfl) (finG Y15_Zc) ?_ rfl (idG (And.intro enV_id (And.intro enL_id (And.intro byL_id (And.intro lsV_id (And.intro lsL_id (And.intro (@tyV_id) flE_id)))))))
  skip
  all_goals exact wkG (And.intro enV_id (And.intro enL_id (And.intro byL_id (And.intro lsV_id (And.intro lsL_id (And.intro (@tyV_id) flE_id))))))
theorem c_Redo1P (L : List En) (un : List (List En)) : DC Tryd.prog 15 [.pt 0 0] [.box [(.im (.bool ((true)))), .sl (L.map enV) .ro, .sl (un.map lsV) (.own 1), .sl [] .ro], .tip 28 1 un.length] (.im (.bool (false))) [.box [(.im (.bool ((true)))), .sl (L.map enV) .ro, .sl (un.map lsV) (.own 1), .sl [] .ro], .tip 28 1 un.length] := by
  have q1 := c_usableP true L un []
  rw [List.map_nil] at q1
  refine DC.enter 54 Tryd.func15 rfl (by decide) rfl rfl (s := [(0, .pt 0 0)]) (by rfl) ?_
  refine wG Y15_Zc True.intro ?_
  refine AR.callQP [0, 1] q1 True.intro (And.intro enV_id (And.intro enL_id (And.intro byL_id (And.intro lsV_id (And.intro lsL_id (And.intro (@tyV_id) flE_id)))))) (And.intro enV_ren (And.intro enL_ren (And.intro byL_ren (And.intro lsV_ren (And.intro lsL_ren flE_ren))))) ?_
  refine goG Y15_Zc @List.length_nil.{0} ?_
  refine wG Y15_Zc True.intro ?_
  refine Fin.gen (rs := [.tmp 2]) rfl (by first | exact .inl rfl | exact .inr rfl) (finG Y15_Zc) ?_ rfl (idG (And.intro enV_id (And.intro enL_id (And.intro byL_id (And.intro lsV_id (And.intro lsL_id (And.intro (@tyV_id) flE_id)))))))
  skip
  all_goals exact wkG (And.intro enV_id (And.intro enL_id (And.intro byL_id (And.intro lsV_id (And.intro lsL_id (And.intro (@tyV_id) flE_id))))))
end Go.Proofs.YtianekkfehoedaaDoor

