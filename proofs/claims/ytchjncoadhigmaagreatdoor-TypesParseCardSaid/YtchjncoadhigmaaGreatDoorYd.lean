/- Walks: a type is printed. -/
import Derived.Test.YtchjncoadhigmaaGreatDoorHv
import Derived.Test.YtchjncoadhigmaaGreatDoorYc
import Derived.Test.YtchjncoadhigmaaGreatDoorTs
import Derived.Test.YtchjncoadhigmaaGreatDoorTq
import Derived.Test.YtchjncoadhigmaaGreatDoorSj
import Derived.Test.YtchjncoadhigmaaGreatDoorPt
namespace Go.Proofs.YtchjncoadhigmaaGreatDoor
set_option linter.unusedSimpArgs false
set_option linter.unusedVariables false
set_option linter.unnecessarySimpa false
open Go.RowKit
theorem c_WS (s : ByteArray) (l m : Bs) (hs : s = bA m) (hlen : l.length + m.length ≤ 140737488355328) : DC Tryz.prog 79 [.pt 0 0, .im (.string s)] [.box [.nb 0 60, .sl (byV (bA (l))) (.mine 1)], .tip 5 1 (bA (l)).size] (.tu [(.im (.int .i64 ((m.length : Int)))), .im Value.nilIface]) [.box [.nb 0 60, .sl (byV (bA ((l ++ m)))) (.mine 1)], .tip 5 1 (bA ((l ++ m))).size] := by
  have h := c_WriteString (bA l) s (by rw [hs, bA_size, bA_size]; exact hlen)
  rw [hs, bA_app, bA_size m] at h
  rw [hs]
  exact h
theorem itoa_s {s : Int} (h : s = 1 ∨ s = 2 ∨ s = 4) : IntKind.i64.wrap (8 * s) = 8 * s := by rcases h with rfl | rfl | rfl <;> rfl
theorem Y80_Yd : type_of% (And.intro @F_ag_3 (And.intro @F_ag_58 (And.intro @F_fl_25_0 (And.intro @F_fl_25_1 (And.intro @F_fl_60_0 (And.intro @F_sz_3 (@F_sz_58))))))) := And.intro @F_ag_3 (And.intro @F_ag_58 (And.intro @F_fl_25_0 (And.intro @F_fl_25_1 (And.intro @F_fl_60_0 (And.intro @F_sz_3 (@F_sz_58))))))
theorem c_integerP (o k s c : Int) (es fs : List Ty) (hs : s = 1 ∨ s = 2 ∨ s = 4) (l : Bs) (hl : (if k = 2 then l ++ [117] else l).length + (3 + (Lib.itoa (8 * s)).length) ≤ 140737488355328) :
    DC Tryz.prog 80 [.pt 0 0, tyV (.mk o k s c es fs)] [.box [.nb 0 60, .sl (byV (bA (l))) (.mine 1)], .tip 5 1 (bA (l)).size] (.tu []) [.box [.nb 0 60, .sl (byV (bA ((if k = 2 then l ++ [117] else l) ++ ([105, 110, 116] ++ Lib.itoa (8 * s))))) (.mine 1)], .tip 5 1 (bA ((if k = 2 then l ++ [117] else l) ++ ([105, 110, 116] ++ Lib.itoa (8 * s)))).size] := by
  have hi := c_Itoa (8 * s) (by omega) (by omega)
  have hw := itoa_s hs
  refine DC.enter 20 Tryz.func80 rfl (by decide) rfl rfl (s := [(0, .pt 0 0), (1, tyV (.mk o k s c es fs))]) (by rfl) ?_
  simp only [tyV_mk]
  have hz1 : ((⟨#[105, 110, 116]⟩ : ByteArray)).size + ((⟨(Lib.itoa (8 * s)).toArray⟩ : ByteArray)).size ≤ 9223372036854775807 := by
    show 3 + (bA (Lib.itoa (8 * s))).size ≤ _
    rw [bA_size]
    split at hl <;> (try simp at hl) <;> omega
  by_cases hk : k = 2
  · rw [if_pos hk] at hl ⊢
    have h1 := c_WS ⟨#[117]⟩ l [117] rfl (by simp at hl ⊢; omega)
    have h2 := c_WS (⟨#[105, 110, 116]⟩ ++ ⟨(Lib.itoa (8 * s)).toArray⟩) (l ++ [117]) ([105, 110, 116] ++ Lib.itoa (8 * s)) (bA_app [105, 110, 116] _) (by simp at hl ⊢; omega)
    refine wdG Y80_Yd hk ?_
    refine AR.callSP [0, 1] h1 True.intro (And.intro (@tyV_id) (And.intro (@fdV_id) (And.intro (@tyL_id) (And.intro (@fdL_id) byV_id)))) (And.intro (@fdL_ren) (And.intro (@tyL_ren) (And.intro (@fdV_ren) (And.intro (@tyV_ren) (And.intro byV_ren nb_ren))))) ?_
    refine goG Y80_Yd True.intro ?_
    refine wdG Y80_Yd hw ?_
    refine AR.callP hi True.intro (And.intro (@tyV_id) (And.intro (@fdV_id) (And.intro (@tyL_id) (And.intro (@fdL_id) byV_id)))) ?_
    refine goG Y80_Yd hz1 ?_
    refine AR.callSP [0, 1] h2 True.intro (And.intro (@tyV_id) (And.intro (@fdV_id) (And.intro (@tyL_id) (And.intro (@fdL_id) byV_id)))) (And.intro (@fdL_ren) (And.intro (@tyL_ren) (And.intro (@fdV_ren) (And.intro (@tyV_ren) (And.intro byV_ren nb_ren))))) ?_
    refine goG Y80_Yd True.intro ?_
    refine wdG Y80_Yd True.intro ?_
    refine Fin.gen (rs := []) rfl (by first | exact .inl rfl | exact .inr rfl) (finG Y80_Yd) ?_ rfl (idG (And.intro (@tyV_id) (And.intro (@fdV_id) (And.intro (@tyL_id) (And.intro (@fdL_id) byV_id)))))
    all_goals exact wkG (And.intro (@tyV_id) (And.intro (@fdV_id) (And.intro (@tyL_id) (And.intro (@fdL_id) byV_id))))
  · rw [if_neg hk] at hl ⊢
    have h2 := c_WS (⟨#[105, 110, 116]⟩ ++ ⟨(Lib.itoa (8 * s)).toArray⟩) l ([105, 110, 116] ++ Lib.itoa (8 * s)) (bA_app [105, 110, 116] _) (by simp at hl ⊢; omega)
    refine wdG Y80_Yd (And.intro hk hw) ?_
    refine AR.callP hi True.intro (And.intro (@tyV_id) (And.intro (@fdV_id) (And.intro (@tyL_id) (And.intro (@fdL_id) byV_id)))) ?_
    refine goG Y80_Yd hz1 ?_
    refine AR.callSP [0, 1] h2 True.intro (And.intro (@tyV_id) (And.intro (@fdV_id) (And.intro (@tyL_id) (And.intro (@fdL_id) byV_id)))) (And.intro (@fdL_ren) (And.intro (@tyL_ren) (And.intro (@fdV_ren) (And.intro (@tyV_ren) (And.intro byV_ren nb_ren))))) ?_
    refine goG Y80_Yd True.intro ?_
    refine wdG Y80_Yd True.intro ?_
    refine Fin.gen (rs := []) rfl (by first | exact .inl rfl | exact .inr rfl) (finG Y80_Yd) ?_ rfl (idG (And.intro (@tyV_id) (And.intro (@fdV_id) (And.intro (@tyL_id) (And.intro (@fdL_id) byV_id)))))
    all_goals exact wkG (And.intro (@tyV_id) (And.intro (@fdV_id) (And.intro (@tyL_id) (And.intro (@fdL_id) byV_id))))
theorem Y46_Yd : type_of% (And.intro @F_ag_22 (And.intro @F_ag_23 (And.intro @F_ag_25 (And.intro @F_ag_3 (And.intro @F_ag_47 (And.intro @F_ag_58 (And.intro @F_al_47 (And.intro @F_el_22 (And.intro @F_el_23 (And.intro @F_fl_25_0 (And.intro @F_fl_25_2 (And.intro @F_fl_25_3 (And.intro @F_fl_25_4 (And.intro @F_fl_47_0 (And.intro @F_fl_47_1 (And.intro @F_fl_60_0 (And.intro @F_sz_22 (And.intro @F_sz_23 (And.intro @F_sz_25 (And.intro @F_sz_3 (And.intro @F_sz_47 (@F_sz_58)))))))))))))))))))))) := And.intro @F_ag_22 (And.intro @F_ag_23 (And.intro @F_ag_25 (And.intro @F_ag_3 (And.intro @F_ag_47 (And.intro @F_ag_58 (And.intro @F_al_47 (And.intro @F_el_22 (And.intro @F_el_23 (And.intro @F_fl_25_0 (And.intro @F_fl_25_2 (And.intro @F_fl_25_3 (And.intro @F_fl_25_4 (And.intro @F_fl_47_0 (And.intro @F_fl_47_1 (And.intro @F_fl_60_0 (And.intro @F_sz_22 (And.intro @F_sz_23 (And.intro @F_sz_25 (And.intro @F_sz_3 (And.intro @F_sz_47 (@F_sz_58)))))))))))))))))))))
set_option maxHeartbeats 2000000 in
theorem c_writeP : ∀ (t : Ty), fit t → frm t = true → ∀ (l : Bs), l.length + (txT t).length ≤ 140737488355328 → DC Tryz.prog 46 [.pt 0 0, tyV t] [.box [.nb 0 60, .sl (byV (bA (l))) (.mine 1)], .tip 5 1 (bA (l)).size] (.tu []) [.box [.nb 0 60, .sl (byV (bA ((l ++ txT t)))) (.mine 1)], .tip 5 1 (bA ((l ++ txT t))).size] := by
  refine Ty.induct fun o k s c es fs hE hF => ?_
  intro hfit hfrm l hl
  obtain ⟨hl1, hl2, hfE, hfF⟩ := fit_mk hfit
  obtain ⟨hb, hof, hfs, hes⟩ := frm_inv hfrm
  rw [txT_mk] at hl ⊢
  refine DC.enter 96 Tryz.func46 rfl (by decide) rfl rfl (s := [(0, .pt 0 0), (1, tyV (.mk o k s c es fs))]) (by rfl) ?_
  simp only [tyV_mk]
  rcases base_cases hb with ⟨hk, h1⟩ | ⟨hk, hs, h1⟩ | ⟨rfl, h1⟩ | ⟨rfl, h0, h1, h2, h3, h4⟩ | ⟨rfl, h1⟩
  · rcases hk with rfl | rfl
    · rw [if_pos rfl] at hl ⊢
      have h := c_WS ⟨#[63]⟩ l [63] rfl hl
      refine wG Y46_Yd True.intro ?_
      refine AR.callSP [0, 1] h True.intro (And.intro (@tyV_id) (And.intro (@fdV_id) (And.intro (@tyL_id) (And.intro (@fdL_id) byV_id)))) (And.intro (@fdL_ren) (And.intro (@tyL_ren) (And.intro (@fdV_ren) (And.intro (@tyV_ren) (And.intro byV_ren nb_ren))))) ?_
      refine goG Y46_Yd True.intro ?_
      refine wG Y46_Yd True.intro ?_
      refine Fin.gen (rs := []) rfl (by first | exact .inl rfl | exact .inr rfl) (finG Y46_Yd) ?_ rfl (idG (And.intro (@tyV_id) (And.intro (@fdV_id) (And.intro (@tyL_id) (And.intro (@fdL_id) byV_id)))))
      all_goals exact wkG (And.intro (@tyV_id) (And.intro (@fdV_id) (And.intro (@tyL_id) (And.intro (@fdL_id) byV_id))))
    · rw [if_neg (by decide), if_pos rfl] at hl ⊢
      have h := c_WS ⟨#[97, 110, 121]⟩ l [97, 110, 121] rfl hl
      refine wG Y46_Yd True.intro ?_
      refine AR.callSP [0, 1] h True.intro (And.intro (@tyV_id) (And.intro (@fdV_id) (And.intro (@tyL_id) (And.intro (@fdL_id) byV_id)))) (And.intro (@fdL_ren) (And.intro (@tyL_ren) (And.intro (@fdV_ren) (And.intro (@tyV_ren) (And.intro byV_ren nb_ren))))) ?_
      refine goG Y46_Yd True.intro ?_
      refine wG Y46_Yd True.intro ?_
      refine Fin.gen (rs := []) rfl (by first | exact .inl rfl | exact .inr rfl) (finG Y46_Yd) ?_ rfl (idG (And.intro (@tyV_id) (And.intro (@fdV_id) (And.intro (@tyL_id) (And.intro (@fdL_id) byV_id)))))
      all_goals exact wkG (And.intro (@tyV_id) (And.intro (@fdV_id) (And.intro (@tyL_id) (And.intro (@fdL_id) byV_id))))
  · rcases hk with rfl | rfl
    · rw [if_neg (by decide), if_neg (by decide), if_pos rfl] at hl ⊢
      have h := c_integerP o 1 s c es fs hs l (by rw [if_neg (by decide)]; simp at hl; omega)
      rw [if_neg (by decide)] at h
      refine wG Y46_Yd True.intro ?_
      refine AR.callSP [0, 1] h @tyV_mk (And.intro (@tyV_id) (And.intro (@fdV_id) (And.intro (@tyL_id) (And.intro (@fdL_id) byV_id)))) (And.intro (@fdL_ren) (And.intro (@tyL_ren) (And.intro (@fdV_ren) (And.intro (@tyV_ren) (And.intro byV_ren nb_ren))))) ?_
      refine goG Y46_Yd True.intro ?_
      refine wG Y46_Yd True.intro ?_
      refine Fin.gen (rs := []) rfl (by first | exact .inl rfl | exact .inr rfl) (finG Y46_Yd) ?_ rfl (idG (And.intro (@tyV_id) (And.intro (@fdV_id) (And.intro (@tyL_id) (And.intro (@fdL_id) byV_id)))))
      all_goals exact wkG (And.intro (@tyV_id) (And.intro (@fdV_id) (And.intro (@tyL_id) (And.intro (@fdL_id) byV_id))))
    · rw [if_neg (by decide), if_neg (by decide), if_neg (by decide), if_pos rfl] at hl ⊢
      have h := c_integerP o 2 s c es fs hs l (by rw [if_pos rfl]; simp at hl ⊢; omega)
      rw [if_pos rfl, List.append_assoc] at h
      refine wG Y46_Yd True.intro ?_
      refine AR.callSP [0, 1] h @tyV_mk (And.intro (@tyV_id) (And.intro (@fdV_id) (And.intro (@tyL_id) (And.intro (@fdL_id) byV_id)))) (And.intro (@fdL_ren) (And.intro (@tyL_ren) (And.intro (@fdV_ren) (And.intro (@tyV_ren) (And.intro byV_ren nb_ren))))) ?_
      refine goG Y46_Yd True.intro ?_
      refine wG Y46_Yd True.intro ?_
      refine Fin.gen (rs := []) rfl (by first | exact .inl rfl | exact .inr rfl) (finG Y46_Yd) ?_ rfl (idG (And.intro (@tyV_id) (And.intro (@fdV_id) (And.intro (@tyL_id) (And.intro (@fdL_id) byV_id)))))
      all_goals exact wkG (And.intro (@tyV_id) (And.intro (@fdV_id) (And.intro (@tyL_id) (And.intro (@fdL_id) byV_id))))
  · rw [if_neg (by decide), if_neg (by decide), if_neg (by decide), if_neg (by decide), if_pos rfl] at hl ⊢
    obtain ⟨x, rfl⟩ := List.length_eq_one_iff.1 h1.2.2.1
    simp only [List.map_cons, List.map_nil, List.headD_cons] at hl ⊢
    have h := c_WS ⟨#[42]⟩ l [42] rfl (by simp at hl ⊢; omega)
    have hc := hE x (by simp) (hfE x (by simp)) (hes x (by simp)) (l ++ [42]) (by simp at hl ⊢; omega)
    rw [List.append_assoc] at hc
    refine wG Y46_Yd True.intro ?_
    refine AR.callSP [0, 1] h True.intro (And.intro (@tyV_id) (And.intro (@fdV_id) (And.intro (@tyL_id) (And.intro (@fdL_id) byV_id)))) (And.intro (@fdL_ren) (And.intro (@tyL_ren) (And.intro (@fdV_ren) (And.intro (@tyV_ren) (And.intro byV_ren nb_ren))))) ?_
    refine goG Y46_Yd True.intro ?_
    refine wG Y46_Yd (And.intro (@tyV_firm) (And.intro (@fdV_firm) (And.intro (@tyV_strip) (And.intro (@fdV_strip) (And.intro (@tyV_live) (And.intro (@tyV_size) (And.intro (@tyV_isAg) (And.intro (@tyV_cells) (And.intro (@fdV_live) (And.intro (@fdV_size) (And.intro (@fdV_isAg) (And.intro (@fdV_cells) (And.intro (@List.getElem?_map.{0, 0}) @Int.natCast_nonneg))))))))))))) ?_
    refine AR.callSP [0, 1] hc @tyV_eq (And.intro (@tyV_id) (And.intro (@fdV_id) (And.intro (@tyL_id) (And.intro (@fdL_id) byV_id)))) (And.intro (@fdL_ren) (And.intro (@tyL_ren) (And.intro (@fdV_ren) (And.intro (@tyV_ren) (And.intro byV_ren nb_ren))))) ?_
    refine goG Y46_Yd True.intro ?_
    refine wG Y46_Yd True.intro ?_
    refine Fin.gen (rs := []) rfl (by first | exact .inl rfl | exact .inr rfl) (finG Y46_Yd) ?_ rfl (idG (And.intro (@tyV_id) (And.intro (@fdV_id) (And.intro (@tyL_id) (And.intro (@fdL_id) byV_id)))))
    all_goals exact wkG (And.intro (@tyV_id) (And.intro (@fdV_id) (And.intro (@tyL_id) (And.intro (@fdL_id) byV_id))))
  · rw [if_neg (by decide), if_neg (by decide), if_neg (by decide), if_neg (by decide), if_neg (by decide), if_pos rfl] at hl ⊢
    obtain ⟨x, rfl⟩ := List.length_eq_one_iff.1 h3
    simp only [List.map_cons, List.map_nil, List.headD_cons] at hl ⊢
    have hi := c_Itoa c (by omega) (by omega)
    have hz1 : ((⟨#[91]⟩ : ByteArray)).size + ((⟨(Lib.itoa c).toArray⟩ : ByteArray)).size ≤ 9223372036854775807 := by
      show 1 + (bA (Lib.itoa c)).size ≤ _
      rw [bA_size]
      simp at hl
      omega
    have hz2 : ((⟨#[91]⟩ ++ ⟨(Lib.itoa c).toArray⟩ : ByteArray)).size + ((⟨#[93]⟩ : ByteArray)).size ≤ 9223372036854775807 := by
      rw [ByteArray.size_append]
      show 1 + (bA (Lib.itoa c)).size + 1 ≤ _
      rw [bA_size]
      simp at hl
      omega
    have he : ((⟨#[91]⟩ ++ ⟨(Lib.itoa c).toArray⟩) ++ ⟨#[93]⟩ : ByteArray) = bA ([91] ++ Lib.itoa c ++ [93]) := by rw [← bA_app, ← bA_app]; rfl
    obtain ⟨m, hm⟩ : ∃ m, m = [91] ++ Lib.itoa c ++ [93] := ⟨_, rfl⟩
    rw [← hm] at he hl ⊢
    have h := c_WS _ l m he (by simp at hl ⊢; omega)
    have hc := hE x (by simp) (hfE x (by simp)) (hes x (by simp)) (l ++ m) (by simp at hl ⊢; omega)
    rw [List.append_assoc] at hc
    refine wdG Y46_Yd True.intro ?_
    refine AR.callP hi True.intro (And.intro (@tyV_id) (And.intro (@fdV_id) (And.intro (@tyL_id) (And.intro (@fdL_id) byV_id)))) ?_
    refine goG Y46_Yd (And.intro hz1 hz2) ?_
    refine AR.callSP [0, 1] h True.intro (And.intro (@tyV_id) (And.intro (@fdV_id) (And.intro (@tyL_id) (And.intro (@fdL_id) byV_id)))) (And.intro (@fdL_ren) (And.intro (@tyL_ren) (And.intro (@fdV_ren) (And.intro (@tyV_ren) (And.intro byV_ren nb_ren))))) ?_
    refine goG Y46_Yd True.intro ?_
    refine wdG Y46_Yd (And.intro (@tyV_firm) (And.intro (@fdV_firm) (And.intro (@tyV_strip) (And.intro (@fdV_strip) (And.intro (@tyV_live) (And.intro (@tyV_size) (And.intro (@tyV_isAg) (And.intro (@tyV_cells) (And.intro (@fdV_live) (And.intro (@fdV_size) (And.intro (@fdV_isAg) (And.intro (@fdV_cells) (And.intro (@List.getElem?_map.{0, 0}) @Int.natCast_nonneg))))))))))))) ?_
    refine AR.callSP [0, 1] hc @tyV_eq (And.intro (@tyV_id) (And.intro (@fdV_id) (And.intro (@tyL_id) (And.intro (@fdL_id) byV_id)))) (And.intro (@fdL_ren) (And.intro (@tyL_ren) (And.intro (@fdV_ren) (And.intro (@tyV_ren) (And.intro byV_ren nb_ren))))) ?_
    refine goG Y46_Yd True.intro ?_
    refine wdG Y46_Yd True.intro ?_
    refine Fin.gen (rs := []) rfl (by first | exact .inl rfl | exact .inr rfl) (finG Y46_Yd) ?_ rfl (idG (And.intro (@tyV_id) (And.intro (@fdV_id) (And.intro (@tyL_id) (And.intro (@fdL_id) byV_id)))))
    all_goals exact wkG (And.intro (@tyV_id) (And.intro (@fdV_id) (And.intro (@tyL_id) (And.intro (@fdL_id) byV_id))))
  · rw [if_neg (by decide), if_neg (by decide), if_neg (by decide), if_neg (by decide), if_neg (by decide), if_neg (by decide), if_pos rfl] at hl ⊢
    obtain ⟨F, hF0⟩ : ∃ F : Nat → Bs, F = fun m => fldT ((fs.take m).map fun f => (f.off, txT f)) := ⟨_, rfl⟩
    have hFs : ∀ m (h : m < fs.length), F (m + 1) = F m ++ ((if m = 0 then [] else [44, 32]) ++ (Lib.itoa fs[m].off ++ [58, 32] ++ txT fs[m])) := fun m h => by rw [hF0]; exact fldT_take fs h
    have hFl : ∀ m, m ≤ fs.length → (F m).length ≤ (fldT (fs.map fun f => (f.off, txT f))).length := fun m h => by rw [hF0]; exact fldT_le fs h
    have hFn : F fs.length = fldT (fs.map fun f => (f.off, txT f)) := by rw [hF0]; simp
    have hF00 : F 0 = [] := by rw [hF0]; simp [fldT]
    rw [← hFn] at hl ⊢
    rw [← hFn] at hFl
    have h := c_WS ⟨#[123]⟩ l [123] rfl (by simp at hl ⊢; omega)
    refine wG Y46_Yd True.intro ?_
    refine AR.callSP [0, 1] h True.intro (And.intro (@tyV_id) (And.intro (@fdV_id) (And.intro (@tyL_id) (And.intro (@fdL_id) byV_id)))) (And.intro (@fdL_ren) (And.intro (@tyL_ren) (And.intro (@fdV_ren) (And.intro (@tyV_ren) (And.intro byV_ren nb_ren))))) ?_
    refine goG Y46_Yd True.intro ?_
    refine wG Y46_Yd @List.length_map.{0, 0} ?_
    obtain ⟨l0, hl0⟩ : ∃ l0, l0 = l ++ [123] := ⟨_, rfl⟩
    have hll : l0.length = l.length + 1 := by rw [hl0]; simp
    have hgoal : l ++ ([123] ++ F fs.length ++ [125]) = l0 ++ F fs.length ++ [125] := by rw [hl0]; simp
    have hl00 : l ++ [123] = l0 ++ F 0 := by rw [hF00, hl0]; simp
    rw [hgoal, hl00]
    refine AWp.loop ?_
    refine ALp.cutP 3 [(0, .pt 0 0), (3, .pt 2 0), (4, .fn (.func 46) [] []), (65, .sl (fs.map fdV) .ro), (66, (.im (.int .i64 (fs.length)))), (67, (.im (.int .i64 ((((0 : Nat)) : Int)))))] [.box [.nb 0 60, .sl (byV (bA ((l0 ++ F 0)))) (.mine 1)], .tip 5 1 (bA ((l0 ++ F 0))).size, .box [(.im (.int .i64 ((5 : Int)))), (.im (.int .i64 (s))), (.im (.int .i64 (c))), .sl (es.map tyV) .ro, .sl (fs.map fdV) .ro]] (And.intro (@tyV_id) (And.intro (@fdV_id) (And.intro (@tyL_id) (And.intro (@fdL_id) byV_id)))) ?_
    refine ALp.upto fs.length (fun _ => True) (fun m => ⟨dn 96 [(0, .pt 0 0), (3, .pt 2 0), (4, .fn (.func 46) [] []), (65, .sl (fs.map fdV) .ro), (66, (.im (.int .i64 (fs.length)))), (67, (.im (.int .i64 ((((m : Nat)) : Int)))))], ofl [.box [.nb 0 60, .sl (byV (bA ((l0 ++ F m)))) (.mine 1)], .tip 5 1 (bA ((l0 ++ F m))).size, .box [(.im (.int .i64 ((5 : Int)))), (.im (.int .i64 (s))), (.im (.int .i64 (c))), .sl (es.map tyV) .ro, .sl (fs.map fdV) .ro]]⟩) ?_ 0 (Nat.zero_le _) trivial
    intro m hm _ hnext
    by_cases hlt : m < fs.length
    · have hlt' : (m : Int) < (fs.length : Int) := by omega
      have hg := get_some hlt
      have hm1 := wrap_succ hlt (by omega)
      have hn := hnext (m + 1) (by omega) (by omega) trivial
      clear hnext
      have ho : 0 ≤ fs[m].off ∧ fs[m].off ≤ 9223372036854775807 := by
        have := hof m hlt
        unfold fok at this
        simp [hlt] at this
        omega
      have hi := c_Itoa fs[m].off ho.1 ho.2
      have hle := hFl (m + 1) (by omega)
      rw [hFs m hlt] at hle hn
      have hz1 : ((⟨(Lib.itoa fs[m].off).toArray⟩ : ByteArray)).size + ((⟨#[58, 32]⟩ : ByteArray)).size ≤ 9223372036854775807 := by
        show (bA (Lib.itoa fs[m].off)).size + 2 ≤ _
        rw [bA_size]
        simp at hl hle
        omega
      have he : (⟨(Lib.itoa fs[m].off).toArray⟩ ++ ⟨#[58, 32]⟩ : ByteArray) = bA (Lib.itoa fs[m].off ++ [58, 32]) := by rw [← bA_app]; rfl
      by_cases h0 : m = 0
      · rw [if_pos h0, List.nil_append] at hle hn
        obtain ⟨q, hq⟩ : ∃ q, q = Lib.itoa fs[m].off ++ [58, 32] := ⟨_, rfl⟩
        rw [← hq] at he hle hn
        obtain ⟨l1, hl1'⟩ : ∃ l1, l1 = l0 ++ F m := ⟨_, rfl⟩
        have h2 := c_WS _ l1 q he (by rw [hl1']; simp at hl hle ⊢; omega)
        have hc := hF fs[m] (List.getElem_mem hlt) (hfF _ (List.getElem_mem hlt)) (hfs _ (List.getElem_mem hlt)) (l1 ++ q) (by rw [hl1']; simp at hl hle ⊢; omega)
        rw [← List.append_assoc, ← List.append_assoc, ← hl1'] at hn
        rw [← hl1']
        have hg0 : ¬ ((m : Nat) : Int) > 0 := by omega
        refine wdG Y46_Yd (And.intro (@tyV_firm) (And.intro (@fdV_firm) (And.intro (@tyV_strip) (And.intro (@fdV_strip) (And.intro (@tyV_live) (And.intro (@tyV_size) (And.intro (@tyV_isAg) (And.intro (@tyV_cells) (And.intro (@fdV_live) (And.intro (@fdV_size) (And.intro (@fdV_isAg) (And.intro (@fdV_cells) (And.intro (@List.getElem?_map.{0, 0}) (And.intro (@Int.natCast_nonneg) (And.intro hlt' (And.intro hg hg0)))))))))))))))) ?_
        refine AR.callP hi True.intro (And.intro (@tyV_id) (And.intro (@fdV_id) (And.intro (@tyL_id) (And.intro (@fdL_id) byV_id)))) ?_
        refine goG Y46_Yd hz1 ?_
        refine AR.callSP [0, 1] h2 True.intro (And.intro (@tyV_id) (And.intro (@fdV_id) (And.intro (@tyL_id) (And.intro (@fdL_id) byV_id)))) (And.intro (@fdL_ren) (And.intro (@tyL_ren) (And.intro (@fdV_ren) (And.intro (@tyV_ren) (And.intro byV_ren nb_ren))))) ?_
        refine goG Y46_Yd True.intro ?_
        refine wdG Y46_Yd (And.intro (@tyV_firm) (And.intro (@fdV_firm) (And.intro (@tyV_strip) (And.intro (@fdV_strip) (And.intro (@tyV_live) (And.intro (@tyV_size) (And.intro (@tyV_isAg) (And.intro (@tyV_cells) (And.intro (@fdV_live) (And.intro (@fdV_size) (And.intro (@fdV_isAg) (And.intro (@fdV_cells) (And.intro (@List.getElem?_map.{0, 0}) @Int.natCast_nonneg))))))))))))) ?_
        refine AR.callSP [0, 1] hc @tyV_eq (And.intro (@tyV_id) (And.intro (@fdV_id) (And.intro (@tyL_id) (And.intro (@fdL_id) byV_id)))) (And.intro (@fdL_ren) (And.intro (@tyL_ren) (And.intro (@fdV_ren) (And.intro (@tyV_ren) (And.intro byV_ren nb_ren))))) ?_
        refine goG Y46_Yd True.intro ?_
        refine wdG Y46_Yd hm1 ?_
        refine ALp.cutP 3 [(0, .pt 0 0), (3, .pt 2 0), (4, .fn (.func 46) [] []), (65, .sl (fs.map fdV) .ro), (66, (.im (.int .i64 (fs.length)))), (67, (.im (.int .i64 ((((m + 1 : Nat)) : Int)))))] [.box [.nb 0 60, .sl (byV (bA ((l1 ++ q ++ txT fs[m])))) (.mine 1)], .tip 5 1 (bA ((l1 ++ q ++ txT fs[m]))).size, .box [(.im (.int .i64 ((5 : Int)))), (.im (.int .i64 (s))), (.im (.int .i64 (c))), .sl (es.map tyV) .ro, .sl (fs.map fdV) .ro]] (And.intro (@tyV_id) (And.intro (@fdV_id) (And.intro (@tyL_id) (And.intro (@fdL_id) byV_id)))) ?_
        exact hn
      · rw [if_neg h0] at hle hn
        obtain ⟨q, hq⟩ : ∃ q, q = Lib.itoa fs[m].off ++ [58, 32] := ⟨_, rfl⟩
        rw [← hq] at he hle hn
        obtain ⟨l1, hl1'⟩ : ∃ l1, l1 = l0 ++ F m := ⟨_, rfl⟩
        obtain ⟨l2, hl2'⟩ : ∃ l2, l2 = l1 ++ [44, 32] := ⟨_, rfl⟩
        have h2 := c_WS ⟨#[44, 32]⟩ l1 [44, 32] rfl (by rw [hl1']; simp at hl hle ⊢; omega)
        rw [← hl2'] at h2
        have h3 := c_WS _ l2 q he (by rw [hl2', hl1']; simp at hl hle ⊢; omega)
        have hc := hF fs[m] (List.getElem_mem hlt) (hfF _ (List.getElem_mem hlt)) (hfs _ (List.getElem_mem hlt)) (l2 ++ q) (by rw [hl2', hl1']; simp at hl hle ⊢; omega)
        rw [← List.append_assoc, ← List.append_assoc, ← List.append_assoc, ← hl1', ← hl2'] at hn
        rw [← hl1']
        have hg0 : ((m : Nat) : Int) > 0 := by omega
        refine wdG Y46_Yd (And.intro (@tyV_firm) (And.intro (@fdV_firm) (And.intro (@tyV_strip) (And.intro (@fdV_strip) (And.intro (@tyV_live) (And.intro (@tyV_size) (And.intro (@tyV_isAg) (And.intro (@tyV_cells) (And.intro (@fdV_live) (And.intro (@fdV_size) (And.intro (@fdV_isAg) (And.intro (@fdV_cells) (And.intro (@List.getElem?_map.{0, 0}) (And.intro (@Int.natCast_nonneg) (And.intro hlt' (And.intro hg hg0)))))))))))))))) ?_
        refine AR.callSP [0, 1] h2 True.intro (And.intro (@tyV_id) (And.intro (@fdV_id) (And.intro (@tyL_id) (And.intro (@fdL_id) byV_id)))) (And.intro (@fdL_ren) (And.intro (@tyL_ren) (And.intro (@fdV_ren) (And.intro (@tyV_ren) (And.intro byV_ren nb_ren))))) ?_
        refine goG Y46_Yd True.intro ?_
        refine wdG Y46_Yd (And.intro (@tyV_firm) (And.intro (@fdV_firm) (And.intro (@tyV_strip) (And.intro (@fdV_strip) (And.intro (@tyV_live) (And.intro (@tyV_size) (And.intro (@tyV_isAg) (And.intro (@tyV_cells) (And.intro (@fdV_live) (And.intro (@fdV_size) (And.intro (@fdV_isAg) (And.intro (@fdV_cells) (And.intro (@List.getElem?_map.{0, 0}) @Int.natCast_nonneg))))))))))))) ?_
        refine AR.callP hi True.intro (And.intro (@tyV_id) (And.intro (@fdV_id) (And.intro (@tyL_id) (And.intro (@fdL_id) byV_id)))) ?_
        refine goG Y46_Yd hz1 ?_
        refine AR.callSP [0, 1] h3 True.intro (And.intro (@tyV_id) (And.intro (@fdV_id) (And.intro (@tyL_id) (And.intro (@fdL_id) byV_id)))) (And.intro (@fdL_ren) (And.intro (@tyL_ren) (And.intro (@fdV_ren) (And.intro (@tyV_ren) (And.intro byV_ren nb_ren))))) ?_
        refine goG Y46_Yd True.intro ?_
        refine wdG Y46_Yd (And.intro (@tyV_firm) (And.intro (@fdV_firm) (And.intro (@tyV_strip) (And.intro (@fdV_strip) (And.intro (@tyV_live) (And.intro (@tyV_size) (And.intro (@tyV_isAg) (And.intro (@tyV_cells) (And.intro (@fdV_live) (And.intro (@fdV_size) (And.intro (@fdV_isAg) (And.intro (@fdV_cells) (And.intro (@List.getElem?_map.{0, 0}) @Int.natCast_nonneg))))))))))))) ?_
        refine AR.callSP [0, 1] hc @tyV_eq (And.intro (@tyV_id) (And.intro (@fdV_id) (And.intro (@tyL_id) (And.intro (@fdL_id) byV_id)))) (And.intro (@fdL_ren) (And.intro (@tyL_ren) (And.intro (@fdV_ren) (And.intro (@tyV_ren) (And.intro byV_ren nb_ren))))) ?_
        refine goG Y46_Yd True.intro ?_
        refine wdG Y46_Yd hm1 ?_
        refine ALp.cutP 3 [(0, .pt 0 0), (3, .pt 2 0), (4, .fn (.func 46) [] []), (65, .sl (fs.map fdV) .ro), (66, (.im (.int .i64 (fs.length)))), (67, (.im (.int .i64 ((((m + 1 : Nat)) : Int)))))] [.box [.nb 0 60, .sl (byV (bA ((l2 ++ q ++ txT fs[m])))) (.mine 1)], .tip 5 1 (bA ((l2 ++ q ++ txT fs[m]))).size, .box [(.im (.int .i64 ((5 : Int)))), (.im (.int .i64 (s))), (.im (.int .i64 (c))), .sl (es.map tyV) .ro, .sl (fs.map fdV) .ro]] (And.intro (@tyV_id) (And.intro (@fdV_id) (And.intro (@tyL_id) (And.intro (@fdL_id) byV_id)))) ?_
        exact hn
    · obtain rfl : m = fs.length := by omega
      have hlt' : ¬ (fs.length : Int) < (fs.length : Int) := by omega
      clear hnext
      have h2 := c_WS ⟨#[125]⟩ (l0 ++ F fs.length) [125] rfl (by simp at hl ⊢; omega)
      refine wG Y46_Yd hlt' ?_
      refine AR.callSP [0, 1] h2 True.intro (And.intro (@tyV_id) (And.intro (@fdV_id) (And.intro (@tyL_id) (And.intro (@fdL_id) byV_id)))) (And.intro (@fdL_ren) (And.intro (@tyL_ren) (And.intro (@fdV_ren) (And.intro (@tyV_ren) (And.intro byV_ren nb_ren))))) ?_
      refine goG Y46_Yd True.intro ?_
      refine wG Y46_Yd True.intro ?_
      refine Fin.gen (rs := []) rfl (by first | exact .inl rfl | exact .inr rfl) (finG Y46_Yd) ?_ rfl (idG (And.intro (@tyV_id) (And.intro (@fdV_id) (And.intro (@tyL_id) (And.intro (@fdL_id) byV_id)))))
      all_goals exact wkG (And.intro (@tyV_id) (And.intro (@fdV_id) (And.intro (@tyL_id) (And.intro (@fdL_id) byV_id))))
theorem Y17_Yd : type_of% (And.intro @F_ag_25 (And.intro @F_ag_58 (And.intro @F_al_60 (And.intro @F_fl_60_0 (And.intro @F_st_60 (And.intro @F_sz_25 (@F_sz_58))))))) := And.intro @F_ag_25 (And.intro @F_ag_58 (And.intro @F_al_60 (And.intro @F_fl_60_0 (And.intro @F_st_60 (And.intro @F_sz_25 (@F_sz_58))))))
theorem txT_ne {t : Ty} (h : frm t = true) : txT t ≠ [] := by
  obtain ⟨o, k, s, c, es, fs⟩ := t
  obtain ⟨hb, _⟩ := frm_inv h
  rw [txT_mk]
  rcases base_cases hb with ⟨hk, h1⟩ | ⟨hk, hs, h1⟩ | ⟨rfl, h1⟩ | ⟨rfl, h0, h1, h2, h3, h4⟩ | ⟨rfl, h1⟩
  · rcases hk with rfl | rfl <;> simp
  · rcases hk with rfl | rfl <;> simp
  · simp
  · simp
  · simp
/-- What Print answers. -/
def prT (t : Ty) : Bs := if good t = true then txT t else []
theorem c_Print (t : Ty) (hfit : fit t) (hl : good t = true → (txT t).length ≤ 140737488355328) : PC Tryz.prog 17 [tyV t] (.im (.string (bA (prT t)))) := by
  have hgd := c_good t hfit
  unfold prT
  refine PC.enter 16 Tryz.func17 rfl (by decide) rfl rfl (s := [(0, tyV t)]) (by rfl) ?_
  simp only [tyV_eq t]
  cases hg : good t with
  | false =>
    rw [hg] at hgd
    rw [if_neg (by decide)]
    refine wG Y17_Yd True.intro ?_
    refine AR.callP hgd @tyV_eq (And.intro (@tyV_id) (And.intro (@fdV_id) (And.intro (@tyL_id) (And.intro (@fdL_id) byV_id)))) ?_
    refine goG Y17_Yd True.intro ?_
    refine wG Y17_Yd True.intro ?_
    refine Fin.gen0 (rs := [.tmp 2]) rfl (by first | exact .inl rfl | exact .inr rfl) (finG Y17_Yd) ?_
    skip
    all_goals exact wkG (And.intro (@tyV_id) (And.intro (@fdV_id) (And.intro (@tyL_id) (And.intro (@fdL_id) byV_id))))
  | true =>
    rw [hg] at hgd
    rw [if_pos rfl]
    have hfrm := good_frm hg
    have hl := hl hg
    have hw := c_writeP t hfit hfrm [] (by simpa using hl)
    rw [List.nil_append] at hw
    have hs := c_String (bA (txT t)) (by rw [bA_size]; intro e; exact txT_ne hfrm (List.length_eq_zero_iff.1 e))
    refine wG Y17_Yd True.intro ?_
    refine AR.callP hgd @tyV_eq (And.intro (@tyV_id) (And.intro (@fdV_id) (And.intro (@tyL_id) (And.intro (@fdL_id) byV_id)))) ?_
    refine goG Y17_Yd True.intro ?_
    repeat (with_reducible first | refine AWp.seq ?_ | refine AR.end ?_ | refine Thn.n ?_ | refine AWp.skip ?_)
    with_reducible apply AWp.condAF
    case ht => rfl
    case hc => rfl
    repeat (with_reducible first | refine AWp.seq ?_ | refine AR.end ?_ | refine Thn.n ?_ | refine AWp.skip ?_)
    refine AWp.region ?_
    refine AR.one rfl (by simp only [↓accU_f, ↓reduceIte, SA, SB, SC, SD, Y17_Yd, valG, fpsG, evO, evB, evA, evA1, nilK, eqF, eqC, apOk, intOf, slB, slK,  gd, St.ev, putA, ofl, wrl, putE, V.ofVal, V.ofCell, bin2, un1, seg, fillV, partsOk, Value.oneCell', Nat.reduceBEq, Nat.reduceLT, Nat.reduceSub, Nat.reduceAdd, Nat.reduceMul, Nat.reduceLeDiff, Nat.reduceEqDiff, reduceCtorEq, Int.reduceLT, Int.reduceLE, Int.reduceEq, Int.reduceNe, Int.reduceBEq, Int.reduceBNe, Int.reduceAdd, Int.reduceSub, Int.reduceMul, Int.reduceToNat]; with_reducible exact rfl) (by simp only [↓accU_f, ↓reduceIte, SA, SB, SC, SD, Y17_Yd, valG, fpsG, evO, evB, evA, evA1, nilK, eqF, eqC, apOk, intOf, slB, slK,  gd, St.ev, putA, ofl, wrl, putE, V.ofVal, V.ofCell, bin2, un1, seg, fillV, partsOk, Value.oneCell', Nat.reduceBEq, Nat.reduceLT, Nat.reduceSub, Nat.reduceAdd, Nat.reduceMul, Nat.reduceLeDiff, Nat.reduceEqDiff, reduceCtorEq, Int.reduceLT, Int.reduceLE, Int.reduceEq, Int.reduceNe, Int.reduceBEq, Int.reduceBNe, Int.reduceAdd, Int.reduceSub, Int.reduceMul, Int.reduceToNat]; with_reducible exact rfl) (by simp only [↓accU_f, ↓reduceIte, SA, SB, SC, SD, Y17_Yd, valG, fpsG, evO, evB, evA, evA1, nilK, eqF, eqC, apOk, intOf, slB, slK,  gd, St.ev, putA, ofl, wrl, putE, V.ofVal, V.ofCell, bin2, un1, seg, fillV, partsOk, Value.oneCell', Nat.reduceBEq, Nat.reduceLT, Nat.reduceSub, Nat.reduceAdd, Nat.reduceMul, Nat.reduceLeDiff, Nat.reduceEqDiff, reduceCtorEq, Int.reduceLT, Int.reduceLE, Int.reduceEq, Int.reduceNe, Int.reduceBEq, Int.reduceBNe, Int.reduceAdd, Int.reduceSub, Int.reduceMul, Int.reduceToNat]; with_reducible exact rfl) ?_
    refine AR.boxB rfl ?_
    refine goG Y17_Yd True.intro ?_
    repeat (with_reducible first | refine AWp.seq ?_ | refine AR.end ?_ | refine Thn.n ?_ | refine AWp.skip ?_)
    refine AWp.ghostB 1 1 [.nb 1 60, .sl [] .nl] 5 1 ?_
    simp only [List.set_cons_succ, List.set_cons_zero, List.cons_append, List.nil_append, List.length_cons, List.length_nil, Nat.reduceAdd]
    rw [show byV (bA ([] : Bs)) = [] from rfl, show (bA ([] : Bs)).size = 0 from rfl] at hw
    refine wG Y17_Yd True.intro ?_
    refine AR.callSP [1, 2] hw @tyV_eq (And.intro (@tyV_id) (And.intro (@fdV_id) (And.intro (@tyL_id) (And.intro (@fdL_id) byV_id)))) (And.intro (@fdL_ren) (And.intro (@tyL_ren) (And.intro (@fdV_ren) (And.intro (@tyV_ren) (And.intro byV_ren nb_ren))))) ?_
    refine goG Y17_Yd True.intro ?_
    refine wG Y17_Yd True.intro ?_
    refine AR.callSP [1, 2] hs True.intro (And.intro (@tyV_id) (And.intro (@fdV_id) (And.intro (@tyL_id) (And.intro (@fdL_id) byV_id)))) (And.intro (@fdL_ren) (And.intro (@tyL_ren) (And.intro (@fdV_ren) (And.intro (@tyV_ren) (And.intro byV_ren nb_ren))))) ?_
    refine goG Y17_Yd True.intro ?_
    refine wG Y17_Yd True.intro ?_
    refine Fin.gen0 (rs := [.tmp 2]) rfl (by first | exact .inl rfl | exact .inr rfl) (finG Y17_Yd) ?_
    skip
    all_goals exact wkG (And.intro (@tyV_id) (And.intro (@fdV_id) (And.intro (@tyL_id) (And.intro (@fdL_id) byV_id))))
end Go.Proofs.YtchjncoadhigmaaGreatDoor

