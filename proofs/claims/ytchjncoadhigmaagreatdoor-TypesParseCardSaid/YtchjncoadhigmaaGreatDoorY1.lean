/- Walks: small makers of types; which types are small. -/
import Derived.Test.YtchjncoadhigmaaGreatDoorHv
import Derived.Test.YtchjncoadhigmaaGreatDoorJC
import Derived.Test.YtchjncoadhigmaaGreatDoorPq
namespace Go.Proofs.YtchjncoadhigmaaGreatDoor
set_option linter.unusedSimpArgs false
set_option linter.unusedVariables false
set_option linter.unnecessarySimpa false
open Go.RowKit
theorem AWp.condAB {K : Option Nat → Prop} {P : Program} {st0 : Nat → Ent} {Q : Exit → St → Prop} {N t : Nat} {s : List (Nat × V)} {st : Nat → Ent} {x y : Code} {b : Bool} (ht : Nat.blt t N = true) (hc : look s t = .im (.bool b))
    (h1 : b = true → AWpK K P st0 x Q ⟨dn N s, st⟩) (h2 : b = false → AWpK K P st0 y Q ⟨dn N s, st⟩) : AWpK K P st0 (.cond (.tmp t) x y) Q ⟨dn N s, st⟩ := by
  cases b
  · exact AWp.condAF ht hc (h2 rfl)
  · exact AWp.condAT ht hc (h1 rfl)
/-- A loop whose states get smaller. -/
theorem ALp.meas {K : Option Nat → Prop} {P : Program} {st0 : Nat → Ent} {Q : Exit → St → Prop} {c : Code} {α : Type} (S : α → St) (I : α → Prop) (μ : α → Nat)
    (h : ∀ x, I x → (∀ y, μ y < μ x → I y → ALp K P st0 c Q (S y)) → AWpK K P st0 c (Rnd K P st0 c Q) (S x)) : ∀ x, I x → ALp K P st0 c Q (S x) := by
  have H : ∀ (n : Nat) (x : α), μ x = n → I x → ALp K P st0 c Q (S x) := by
    intro n
    induction n using Nat.strongRecOn with
    | _ n ih => exact fun x hx hI => ALp.round (h x hI fun y hy hJ => ih (μ y) (by omega) y rfl hJ)
  exact fun x hI => H _ x rfl hI
theorem Y25_Y1 : type_of% (And.intro @F_ag_25 (And.intro @F_al_25 (And.intro @F_st_25 (@F_sz_25)))) := And.intro @F_ag_25 (And.intro @F_al_25 (And.intro @F_st_25 (@F_sz_25)))
theorem c_Int (n : Int) : PC Tryz.prog 25 [(.im (.int .i64 (n)))] (tyV (.mk 0 1 n 0 [] [])) := by
  refine PC.enter 5 Tryz.func25 rfl (by decide) rfl rfl (s := [(0, (.im (.int .i64 (n))))]) (by rfl) ?_
  refine wG Y25_Y1 True.intro ?_
  refine Fin.gen0 (rs := [.cell 2 25]) rfl (by first | exact .inl rfl | exact .inr rfl) (finG Y25_Y1) ?_
  simp only [tyV_mk, List.map_nil]
  all_goals exact wkG (And.intro (@tyV_id) (And.intro (@fdV_id) (And.intro (@tyL_id) @fdL_id)))
theorem Y27_Y1 : type_of% (And.intro @F_ag_25 (And.intro @F_al_25 (And.intro @F_st_25 (@F_sz_25)))) := And.intro @F_ag_25 (And.intro @F_al_25 (And.intro @F_st_25 (@F_sz_25)))
theorem c_Uint (n : Int) : PC Tryz.prog 27 [(.im (.int .i64 (n)))] (tyV (.mk 0 2 n 0 [] [])) := by
  refine PC.enter 5 Tryz.func27 rfl (by decide) rfl rfl (s := [(0, (.im (.int .i64 (n))))]) (by rfl) ?_
  refine wG Y27_Y1 True.intro ?_
  refine Fin.gen0 (rs := [.cell 2 25]) rfl (by first | exact .inl rfl | exact .inr rfl) (finG Y27_Y1) ?_
  simp only [tyV_mk, List.map_nil]
  all_goals exact wkG (And.intro (@tyV_id) (And.intro (@fdV_id) (And.intro (@tyL_id) @fdL_id)))
theorem Y29_Y1 : type_of% (And.intro @F_ag_25 (And.intro @F_al_25 (And.intro @F_el_22 (And.intro @F_st_25 (@F_sz_25))))) := And.intro @F_ag_25 (And.intro @F_al_25 (And.intro @F_el_22 (And.intro @F_st_25 (@F_sz_25))))
theorem c_Ptr (x : Ty) (hx : fit x) : PC Tryz.prog 29 [tyV x] (tyV (.mk 0 3 0 0 [x] [])) := by
  have h := c_own x hx
  refine PC.enter 7 Tryz.func29 rfl (by decide) rfl rfl (s := [(0, tyV x)]) (by rfl) ?_
  rw [tyV_eq x]
  refine wG Y29_Y1 True.intro ?_
  refine AR.callP h @tyV_eq (And.intro (@tyV_id) (And.intro (@fdV_id) (And.intro (@tyL_id) @fdL_id))) ?_
  refine goG Y29_Y1 (And.intro (@tyV_firm) (And.intro (@fdV_firm) (And.intro (@tyV_strip) (And.intro (@fdV_strip) (And.intro (@tyV_live) (And.intro (@tyV_size) (And.intro (@tyV_isAg) (And.intro (@tyV_cells) (And.intro (@fdV_live) (And.intro (@fdV_size) (And.intro (@fdV_isAg) (And.intro (@fdV_cells) (And.intro (@List.getElem?_map.{0, 0}) @Int.natCast_nonneg))))))))))))) ?_
  refine wG Y29_Y1 (And.intro (@tyV_firm) (And.intro (@fdV_firm) (And.intro (@tyV_strip) (And.intro (@fdV_strip) (And.intro (@tyV_live) (And.intro (@tyV_size) (And.intro (@tyV_isAg) (And.intro (@tyV_cells) (And.intro (@fdV_live) (And.intro (@fdV_size) (And.intro (@fdV_isAg) (And.intro (@fdV_cells) (And.intro (@List.getElem?_map.{0, 0}) @Int.natCast_nonneg))))))))))))) ?_
  refine Fin.gen0 (rs := [.cell 2 25]) rfl (by first | exact .inl rfl | exact .inr rfl) (finG Y29_Y1) ?_
  simp only [tyV_mk, List.map_nil, List.map_cons]
  all_goals exact wkG (And.intro (@tyV_id) (And.intro (@fdV_id) (And.intro (@tyL_id) @fdL_id)))
theorem Y31_Y1 : type_of% (And.intro @F_ag_25 (And.intro @F_al_25 (And.intro @F_el_22 (And.intro @F_st_25 (@F_sz_25))))) := And.intro @F_ag_25 (And.intro @F_al_25 (And.intro @F_el_22 (And.intro @F_st_25 (@F_sz_25))))
theorem c_Array (x : Ty) (hx : fit x) (n : Int) : PC Tryz.prog 31 [tyV x, (.im (.int .i64 (n)))] (tyV (.mk 0 4 0 n [x] [])) := by
  have h := c_own x hx
  refine PC.enter 10 Tryz.func31 rfl (by decide) rfl rfl (s := [(0, tyV x), (1, (.im (.int .i64 (n))))]) (by rfl) ?_
  rw [tyV_eq x]
  refine wG Y31_Y1 True.intro ?_
  refine AR.callP h @tyV_eq (And.intro (@tyV_id) (And.intro (@fdV_id) (And.intro (@tyL_id) @fdL_id))) ?_
  refine goG Y31_Y1 (And.intro (@tyV_firm) (And.intro (@fdV_firm) (And.intro (@tyV_strip) (And.intro (@fdV_strip) (And.intro (@tyV_live) (And.intro (@tyV_size) (And.intro (@tyV_isAg) (And.intro (@tyV_cells) (And.intro (@fdV_live) (And.intro (@fdV_size) (And.intro (@fdV_isAg) (And.intro (@fdV_cells) (And.intro (@List.getElem?_map.{0, 0}) @Int.natCast_nonneg))))))))))))) ?_
  refine wG Y31_Y1 (And.intro (@tyV_firm) (And.intro (@fdV_firm) (And.intro (@tyV_strip) (And.intro (@fdV_strip) (And.intro (@tyV_live) (And.intro (@tyV_size) (And.intro (@tyV_isAg) (And.intro (@tyV_cells) (And.intro (@fdV_live) (And.intro (@fdV_size) (And.intro (@fdV_isAg) (And.intro (@fdV_cells) (And.intro (@List.getElem?_map.{0, 0}) @Int.natCast_nonneg))))))))))))) ?_
  refine Fin.gen0 (rs := [.cell 4 25]) rfl (by first | exact .inl rfl | exact .inr rfl) (finG Y31_Y1) ?_
  simp only [tyV_mk, List.map_nil, List.map_cons]
  all_goals exact wkG (And.intro (@tyV_id) (And.intro (@fdV_id) (And.intro (@tyL_id) @fdL_id)))
theorem Y30_Y1 : type_of% (And.intro @F_ag_25 (And.intro @F_al_25 (And.intro @F_el_22 (And.intro @F_st_25 (@F_sz_25))))) := And.intro @F_ag_25 (And.intro @F_al_25 (And.intro @F_el_22 (And.intro @F_st_25 (@F_sz_25))))
theorem c_PtrR (x : Ty) : PC Tryz.prog 30 [tyV x] (tyV (.mk 0 3 0 0 [x] [])) := by
  refine PC.enter 6 Tryz.func30 rfl (by decide) rfl rfl (s := [(0, tyV x)]) (by rfl) ?_
  rw [tyV_eq x]
  refine wG Y30_Y1 True.intro ?_
  refine Fin.gen0 (rs := [.cell 2 25]) rfl (by first | exact .inl rfl | exact .inr rfl) (finG Y30_Y1) ?_
  simp only [tyV_mk, tyV_eq x, List.map_nil, List.map_cons]
  all_goals exact wkG (And.intro (@tyV_id) (And.intro (@fdV_id) (And.intro (@tyL_id) @fdL_id)))
theorem Y32_Y1 : type_of% (And.intro @F_ag_25 (And.intro @F_al_25 (And.intro @F_el_22 (And.intro @F_st_25 (@F_sz_25))))) := And.intro @F_ag_25 (And.intro @F_al_25 (And.intro @F_el_22 (And.intro @F_st_25 (@F_sz_25))))
theorem c_ArrayR (x : Ty) (n : Int) : PC Tryz.prog 32 [tyV x, (.im (.int .i64 (n)))] (tyV (.mk 0 4 0 n [x] [])) := by
  refine PC.enter 9 Tryz.func32 rfl (by decide) rfl rfl (s := [(0, tyV x), (1, (.im (.int .i64 (n))))]) (by rfl) ?_
  rw [tyV_eq x]
  refine wG Y32_Y1 True.intro ?_
  refine Fin.gen0 (rs := [.cell 4 25]) rfl (by first | exact .inl rfl | exact .inr rfl) (finG Y32_Y1) ?_
  simp only [tyV_mk, tyV_eq x, List.map_nil, List.map_cons]
  all_goals exact wkG (And.intro (@tyV_id) (And.intro (@fdV_id) (And.intro (@tyL_id) @fdL_id)))
theorem pair_cond0 {m n : Nat} {a : Int} (h : (decide ((m : Int) < (n : Int)) && decide (a ≥ 0)) = true) : m < n ∧ 0 ≤ a := by
  simp only [Bool.and_eq_true, decide_eq_true_eq] at h
  omega
theorem pair_stop0 {α : Type} {f : α → Int → Int} {l : List α} {m : Nat} {n : Int} (hm : m ≤ l.length) (h : (decide ((m : Int) < (l.length : Int)) && decide (pfold f (l.take m) n ≥ 0)) = false) : pfold f (l.take m) n = pfold f l n := by
  simp only [Bool.and_eq_false_iff, decide_eq_false_iff_not] at h
  by_cases h1 : m < l.length
  · exact (pfold_all (by omega)).symm
  · rw [List.take_of_length_le (by omega)]
theorem Y33_Y1 : type_of% (And.intro @F_ag_22 (And.intro @F_ag_23 (And.intro @F_ag_25 (And.intro @F_el_22 (And.intro @F_el_23 (And.intro @F_fl_25_3 (And.intro @F_fl_25_4 (And.intro @F_fl_47_1 (And.intro @F_sz_22 (And.intro @F_sz_23 (And.intro @F_sz_25 (@F_sz_47)))))))))))) := And.intro @F_ag_22 (And.intro @F_ag_23 (And.intro @F_ag_25 (And.intro @F_el_22 (And.intro @F_el_23 (And.intro @F_fl_25_3 (And.intro @F_fl_25_4 (And.intro @F_fl_47_1 (And.intro @F_sz_22 (And.intro @F_sz_23 (And.intro @F_sz_25 (@F_sz_47)))))))))))
theorem c_parts : ∀ (t : Ty), fit t → ∀ most n : Int, 0 ≤ most → most ≤ 4194304 → 0 ≤ n → n ≤ 4194304 → PC Tryz.prog 33 [tyV t, (.im (.int .i64 (most))), (.im (.int .i64 (n)))] (.im (.int .i64 (tpa t most n))) := by
  refine Ty.induct fun o k s c es fs hT hF => ?_
  intro hfit most n hq hq2 hn hn2
  obtain ⟨hl1, hl2, hfE, hfF⟩ := fit_mk hfit
  rw [tpa_mk]
  refine PC.enter 72 Tryz.func33 rfl (by decide) rfl rfl (s := [(0, tyV (.mk o k s c es fs)), (1, (.im (.int .i64 (most)))), (2, (.im (.int .i64 (n))))]) (by rfl) ?_
  simp only [tyV_mk]
  refine wG Y33_Y1 True.intro ?_
  refine AWp.condAB rfl rfl (fun hE => ?_) (fun hE => ?_)
  · simp only [Bool.or_eq_true, decide_eq_true_eq] at hE
    rw [if_pos (by omega)]
    refine wG Y33_Y1 True.intro ?_
    exact Fin.oneP
  simp only [Bool.or_eq_false_iff, decide_eq_false_iff_not] at hE
  have hw : IntKind.i64.wrap (n - 1) = n - 1 := wrap_in (by omega)
  have hv : IntKind.i64.wrap (most - 1) = most - 1 := wrap_in (by omega)
  rw [if_neg (by omega)]
  refine wG Y33_Y1 hw ?_
  refine AWp.loop ?_
  refine ALp.cutP 1 [(1, (.im (.int .i64 (most)))), (3, .pt 0 0), (7, (.im (.int .i64 (pfold (fun x n => tpa x (most - 1) n) (es.take (0)) (n - 1))))), (8, (.im (.int .i64 ((((0 : Nat)) : Int)))))] [.box [.im (.int .i64 k), .im (.int .i64 s), .im (.int .i64 c), .sl (es.map tyV) .ro, .sl (fs.map fdV) .ro]] (And.intro (@tyV_id) (And.intro (@fdV_id) (And.intro (@tyL_id) @fdL_id))) ?_
  refine ALp.upto es.length (fun _ => True) (fun m => ⟨dn 72 [(1, (.im (.int .i64 (most)))), (3, .pt 0 0), (7, (.im (.int .i64 (pfold (fun x n => tpa x (most - 1) n) (es.take (m)) (n - 1))))), (8, (.im (.int .i64 ((((m : Nat)) : Int)))))], ofl [.box [.im (.int .i64 k), .im (.int .i64 s), .im (.int .i64 c), .sl (es.map tyV) .ro, .sl (fs.map fdV) .ro]]⟩) ?_ 0 (Nat.zero_le _) trivial
  intro m hm _ hnext
  refine wG Y33_Y1 @Int.natCast_nonneg ?_
  refine AWp.condAB rfl rfl (fun hE => ?_) (fun hE => ?_)
  · obtain ⟨hlt, hp⟩ := pair_cond0 hE
    have hlt' : (m : Int) < (es.length : Int) := by omega
    have hm1 := wrap_succ hlt (by omega)
    have hb := pfold_bound (f := fun x n => tpa x (most - 1) n) (l := es.take m) (fun t _ n hn => tpa_bound t _ n hn) (n - 1) (by omega)
    have hc := hT es[m] (List.getElem_mem hlt) (hfE _ (List.getElem_mem hlt)) (most - 1) _ (by omega) (by omega) hp (by omega)
    rw [← pfold_take (f := fun x n => tpa x (most - 1) n) hlt hp] at hc
    have hg := get_some hlt
    refine wG Y33_Y1 (And.intro hlt' (And.intro hg (And.intro hv (And.intro (@Int.natCast_nonneg) (And.intro (@tyV_firm) (And.intro (@fdV_firm) (And.intro (@tyV_strip) (And.intro (@fdV_strip) (And.intro (@tyV_live) (And.intro (@tyV_size) (And.intro (@tyV_isAg) (And.intro (@tyV_cells) (And.intro (@fdV_live) (And.intro (@fdV_size) (And.intro (@fdV_isAg) (And.intro (@fdV_cells) (And.intro (@List.getElem?_map.{0, 0}) @Int.natCast_nonneg))))))))))))))))) ?_
    refine AR.callP hc @tyV_eq (And.intro (@tyV_id) (And.intro (@fdV_id) (And.intro (@tyL_id) @fdL_id))) ?_
    refine goG Y33_Y1 (And.intro (@tyV_firm) (And.intro (@fdV_firm) (And.intro (@tyV_strip) (And.intro (@fdV_strip) (And.intro (@tyV_live) (And.intro (@tyV_size) (And.intro (@tyV_isAg) (And.intro (@tyV_cells) (And.intro (@fdV_live) (And.intro (@fdV_size) (And.intro (@fdV_isAg) (And.intro (@fdV_cells) (And.intro (@List.getElem?_map.{0, 0}) @Int.natCast_nonneg))))))))))))) ?_
    refine wG Y33_Y1 hm1 ?_
    refine ALp.cutP 1 [(1, (.im (.int .i64 (most)))), (3, .pt 0 0), (7, (.im (.int .i64 (pfold (fun x n => tpa x (most - 1) n) (es.take (m + 1)) (n - 1))))), (8, (.im (.int .i64 ((((m + 1 : Nat)) : Int)))))] [.box [.im (.int .i64 k), .im (.int .i64 s), .im (.int .i64 c), .sl (es.map tyV) .ro, .sl (fs.map fdV) .ro]] (And.intro (@tyV_id) (And.intro (@fdV_id) (And.intro (@tyL_id) @fdL_id))) ?_
    exact hnext (m + 1) (by omega) (by omega) trivial
  rw [pair_stop0 hm hE]
  clear hnext hE
  generalize hm0 : m = m0
  clear hm hm0
  have hb0 := pfold_bound (f := fun x n => tpa x (most - 1) n) (l := es) (fun t _ n hn => tpa_bound t _ n hn) (n - 1) (by omega)
  refine whG Y33_Y1 True.intro ?_
  refine Blk'.here (Thn.n ?_)
  refine wG Y33_Y1 True.intro ?_
  refine AWp.loop ?_
  refine ALp.cutP 1 [(1, (.im (.int .i64 (most)))), (3, .pt 0 0), (7, (.im (.int .i64 (pfold (fun x n => tpa x (most - 1) n) (fs.take (0)) (pfold (fun x n => tpa x (most - 1) n) es (n - 1)))))), (9, (.im (.int .i64 ((((0 : Nat)) : Int)))))] [.box [.im (.int .i64 k), .im (.int .i64 s), .im (.int .i64 c), .sl (es.map tyV) .ro, .sl (fs.map fdV) .ro]] (And.intro (@tyV_id) (And.intro (@fdV_id) (And.intro (@tyL_id) @fdL_id))) ?_
  refine ALp.upto fs.length (fun _ => True) (fun m => ⟨dn 72 [(1, (.im (.int .i64 (most)))), (3, .pt 0 0), (7, (.im (.int .i64 (pfold (fun x n => tpa x (most - 1) n) (fs.take (m)) (pfold (fun x n => tpa x (most - 1) n) es (n - 1)))))), (9, (.im (.int .i64 ((((m : Nat)) : Int)))))], ofl [.box [.im (.int .i64 k), .im (.int .i64 s), .im (.int .i64 c), .sl (es.map tyV) .ro, .sl (fs.map fdV) .ro]]⟩) ?_ 0 (Nat.zero_le _) trivial
  intro m hm _ hnext
  refine wG Y33_Y1 @Int.natCast_nonneg ?_
  refine AWp.condAB rfl rfl (fun hE => ?_) (fun hE => ?_)
  · obtain ⟨hlt, hp⟩ := pair_cond0 hE
    have hlt' : (m : Int) < (fs.length : Int) := by omega
    have hm1 := wrap_succ hlt (by omega)
    have hb := pfold_bound (f := fun x n => tpa x (most - 1) n) (l := fs.take m) (fun t _ n hn => tpa_bound t _ n hn) (pfold (fun x n => tpa x (most - 1) n) es (n - 1)) (by omega)
    have hc := hF fs[m] (List.getElem_mem hlt) (hfF _ (List.getElem_mem hlt)) (most - 1) _ (by omega) (by omega) hp (by omega)
    rw [← pfold_take (f := fun x n => tpa x (most - 1) n) hlt hp] at hc
    have hg := get_some hlt
    refine wG Y33_Y1 (And.intro hlt' (And.intro hg (And.intro hv (And.intro (@Int.natCast_nonneg) (And.intro (@tyV_firm) (And.intro (@fdV_firm) (And.intro (@tyV_strip) (And.intro (@fdV_strip) (And.intro (@tyV_live) (And.intro (@tyV_size) (And.intro (@tyV_isAg) (And.intro (@tyV_cells) (And.intro (@fdV_live) (And.intro (@fdV_size) (And.intro (@fdV_isAg) (And.intro (@fdV_cells) (And.intro (@List.getElem?_map.{0, 0}) @Int.natCast_nonneg))))))))))))))))) ?_
    refine AR.callP hc @tyV_eq (And.intro (@tyV_id) (And.intro (@fdV_id) (And.intro (@tyL_id) @fdL_id))) ?_
    refine goG Y33_Y1 (And.intro (@tyV_firm) (And.intro (@fdV_firm) (And.intro (@tyV_strip) (And.intro (@fdV_strip) (And.intro (@tyV_live) (And.intro (@tyV_size) (And.intro (@tyV_isAg) (And.intro (@tyV_cells) (And.intro (@fdV_live) (And.intro (@fdV_size) (And.intro (@fdV_isAg) (And.intro (@fdV_cells) (And.intro (@List.getElem?_map.{0, 0}) @Int.natCast_nonneg))))))))))))) ?_
    refine wG Y33_Y1 hm1 ?_
    refine ALp.cutP 1 [(1, (.im (.int .i64 (most)))), (3, .pt 0 0), (7, (.im (.int .i64 (pfold (fun x n => tpa x (most - 1) n) (fs.take (m + 1)) (pfold (fun x n => tpa x (most - 1) n) es (n - 1)))))), (9, (.im (.int .i64 ((((m + 1 : Nat)) : Int)))))] [.box [.im (.int .i64 k), .im (.int .i64 s), .im (.int .i64 c), .sl (es.map tyV) .ro, .sl (fs.map fdV) .ro]] (And.intro (@tyV_id) (And.intro (@fdV_id) (And.intro (@tyL_id) @fdL_id))) ?_
    exact hnext (m + 1) (by omega) (by omega) trivial
  rw [pair_stop0 hm hE]
  clear hnext hE
  refine wG Y33_Y1 True.intro ?_
  exact Fin.oneP
theorem Y6_Y1 : type_of% (And.intro @F_ag_25 (@F_sz_25)) := And.intro @F_ag_25 (@F_sz_25)
theorem c_small31 (t : Ty) (ht : fit t) (most : Int) (hq : 0 ≤ most) (hq2 : most ≤ 4194304) : PC Tryz.prog 6 [tyV t, (.im (.int .i64 (most)))] (.im (.bool (smallT t most))) := by
  have h := c_parts t ht most 3000 hq hq2 (by omega) (by omega)
  refine PC.enter 9 Tryz.func6 rfl (by decide) rfl rfl (s := [(0, tyV t), (1, (.im (.int .i64 (most))))]) (by rfl) ?_
  rw [tyV_eq t]
  refine wG Y6_Y1 True.intro ?_
  refine AR.callP h @tyV_eq (And.intro (@tyV_id) (And.intro (@fdV_id) (And.intro (@tyL_id) @fdL_id))) ?_
  refine goG Y6_Y1 (And.intro (@tyV_firm) (And.intro (@fdV_firm) (And.intro (@tyV_strip) (And.intro (@fdV_strip) (And.intro (@tyV_live) (And.intro (@tyV_size) (And.intro (@tyV_isAg) (And.intro (@tyV_cells) (And.intro (@fdV_live) (And.intro (@fdV_size) (And.intro (@fdV_isAg) (And.intro (@fdV_cells) (And.intro (@List.getElem?_map.{0, 0}) @Int.natCast_nonneg))))))))))))) ?_
  refine wG Y6_Y1 True.intro ?_
  unfold smallT
  exact Fin.oneP
end Go.Proofs.YtchjncoadhigmaaGreatDoor

