/- Walks: the law TypesText. -/
import Derived.Test.YtchjncoadhigmaaDoorHv
import Derived.Test.YtchjncoadhigmaaDoorYh
import Derived.Test.YtchjncoadhigmaaDoorYl
import Derived.Test.YtchjncoadhigmaaDoorPy
namespace Go.Proofs.YtchjncoadhigmaaDoor
set_option linter.unusedSimpArgs false
set_option linter.unusedVariables false
set_option linter.unnecessarySimpa false
open Go.RowKit
theorem bA_nz {l : Bs} (h : l ≠ []) : ((bA l).toList == (⟨#[]⟩ : ByteArray).toList) = false := by
  cases l with
  | nil => exact absurd rfl h
  | cons x r => exact bA_ne x r
theorem Y8_Yn : type_of% (And.intro @F_ag_25 (And.intro @F_al_25 (And.intro @F_sz_25 (@F_un_9)))) := And.intro @F_ag_25 (And.intro @F_al_25 (And.intro @F_sz_25 (@F_un_9)))
set_option maxHeartbeats 4000000 in
theorem c_text31 (hX : PC Tryd.prog 11 [] (.im (.bool (true)))) (t : Ty) (ht : fit t) : PC Tryd.prog 8 [tyV t] (.im (.bool (true))) := by
  have hs := c_small31 t ht 70 (by decide) (by decide)
  have hc := c_checkR t ht
  refine PC.enter 59 Tryd.func8 rfl (by decide) rfl rfl (s := [(0, tyV t)]) (by rfl) ?_
  rw [tyV_eq t]
  refine wG Y8_Yn True.intro ?_
  refine AR.callP hs @tyV_eq (And.intro (@tyV_id) (And.intro (@fdV_id) (And.intro (@tyL_id) @fdL_id))) ?_
  cases q : smallT t 70
  case' false =>
    refine goG Y8_Yn q ?_
    refine wG Y8_Yn True.intro ?_
    refine AR.callP hX True.intro (And.intro (@tyV_id) (And.intro (@fdV_id) (And.intro (@tyL_id) @fdL_id))) ?_
    refine goG Y8_Yn True.intro ?_
    refine wG Y8_Yn True.intro ?_
    exact Fin.oneP
  refine goG Y8_Yn q ?_
  refine wG Y8_Yn True.intro ?_
  have hb : good t = true → (txT t).length ≤ 120000 := fun hg => txT_small (good_frm hg) q
  have hp := c_Print t ht (fun hg => by have := hb hg; omega)
  have hr := c_PrintR t ht (fun hg => by have := hb hg; omega)
  by_cases g : chk t = 0
  · have hg : good t = true := by unfold good; simp [g]
    have hb := hb hg
    have e0 : prT t = txT t := by unfold prT; rw [if_pos hg]
    rw [e0] at hp hr
    have hne := bA_nz (txT_ne (good_frm hg))
    have heq := bA_eqt (txT t)
    have hps := c_Parse (txT t) (by omega)
    have hpf := psT_fit (txT t)
    by_cases hl : 65536 < (txT t).length
    · rw [psT_long hl] at hps
      have h1 : ((bA (txT t)).size : Int) > 65536 := by rw [bA_size]; omega
      refine AR.callP hp @tyV_eq (And.intro (@tyV_id) (And.intro (@fdV_id) (And.intro (@tyL_id) @fdL_id))) ?_
      refine goG Y8_Yn True.intro ?_
      refine wG Y8_Yn True.intro ?_
      refine AR.callP hc @tyV_eq (And.intro (@tyV_id) (And.intro (@fdV_id) (And.intro (@tyL_id) @fdL_id))) ?_
      refine goG Y8_Yn g ?_
      refine wG Y8_Yn True.intro ?_
      refine AR.callP hps True.intro (And.intro (@tyV_id) (And.intro (@fdV_id) (And.intro (@tyL_id) @fdL_id))) ?_
      refine goG Y8_Yn (And.intro (@tyV_firm) (And.intro (@fdV_firm) (And.intro (@tyV_strip) (And.intro (@fdV_strip) (And.intro (@tyV_live) (And.intro (@tyV_size) (And.intro (@tyV_isAg) (And.intro (@tyV_cells) (And.intro (@fdV_live) (And.intro (@fdV_size) (And.intro (@fdV_isAg) (And.intro (@fdV_cells) (And.intro (@List.getElem?_map.{0, 0}) @Int.natCast_nonneg))))))))))))) ?_
      refine wG Y8_Yn (And.intro hne (And.intro h1 (And.intro (@tyV_firm) (And.intro (@fdV_firm) (And.intro (@tyV_strip) (And.intro (@fdV_strip) (And.intro (@tyV_live) (And.intro (@tyV_size) (And.intro (@tyV_isAg) (And.intro (@tyV_cells) (And.intro (@fdV_live) (And.intro (@fdV_size) (And.intro (@fdV_isAg) (And.intro (@fdV_cells) (And.intro (@List.getElem?_map.{0, 0}) @Int.natCast_nonneg))))))))))))))) ?_
      refine AR.callP hr @tyV_eq (And.intro (@tyV_id) (And.intro (@fdV_id) (And.intro (@tyL_id) @fdL_id))) ?_
      refine goG Y8_Yn heq ?_
      refine AR.callP hX True.intro (And.intro (@tyV_id) (And.intro (@fdV_id) (And.intro (@tyL_id) @fdL_id))) ?_
      refine goG Y8_Yn True.intro ?_
      refine wG Y8_Yn True.intro ?_
      exact Fin.oneP
    · obtain ⟨p2, p1⟩ := psT_txT hg (by omega)
      have h1 : ¬ ((bA (txT t)).size : Int) > 65536 := by rw [bA_size]; omega
      have h2 : ((bA (txT t)).size : Int) ≤ 65536 := by rw [bA_size]; omega
      have hS := c_Same _ hpf t ht
      rw [p1] at hS
      rw [p2] at hps
      generalize (psT (txT t)).1 = x at hps hS
      refine AR.callP hp @tyV_eq (And.intro (@tyV_id) (And.intro (@fdV_id) (And.intro (@tyL_id) @fdL_id))) ?_
      refine goG Y8_Yn True.intro ?_
      refine wG Y8_Yn True.intro ?_
      refine AR.callP hc @tyV_eq (And.intro (@tyV_id) (And.intro (@fdV_id) (And.intro (@tyL_id) @fdL_id))) ?_
      refine goG Y8_Yn g ?_
      refine wG Y8_Yn True.intro ?_
      refine AR.callP hps True.intro (And.intro (@tyV_id) (And.intro (@fdV_id) (And.intro (@tyL_id) @fdL_id))) ?_
      refine goG Y8_Yn (And.intro (@tyV_firm) (And.intro (@fdV_firm) (And.intro (@tyV_strip) (And.intro (@fdV_strip) (And.intro (@tyV_live) (And.intro (@tyV_size) (And.intro (@tyV_isAg) (And.intro (@tyV_cells) (And.intro (@fdV_live) (And.intro (@fdV_size) (And.intro (@fdV_isAg) (And.intro (@fdV_cells) (And.intro (@List.getElem?_map.{0, 0}) @Int.natCast_nonneg))))))))))))) ?_
      refine wG Y8_Yn (And.intro hne (And.intro h1 (And.intro h2 (And.intro (@tyV_firm) (And.intro (@fdV_firm) (And.intro (@tyV_strip) (And.intro (@fdV_strip) (And.intro (@tyV_live) (And.intro (@tyV_size) (And.intro (@tyV_isAg) (And.intro (@tyV_cells) (And.intro (@fdV_live) (And.intro (@fdV_size) (And.intro (@fdV_isAg) (And.intro (@fdV_cells) (And.intro (@List.getElem?_map.{0, 0}) @Int.natCast_nonneg)))))))))))))))) ?_
      refine AR.callP hS @tyV_eq (And.intro (@tyV_id) (And.intro (@fdV_id) (And.intro (@tyL_id) @fdL_id))) ?_
      refine goG Y8_Yn (And.intro (@tyV_firm) (And.intro (@fdV_firm) (And.intro (@tyV_strip) (And.intro (@fdV_strip) (And.intro (@tyV_live) (And.intro (@tyV_size) (And.intro (@tyV_isAg) (And.intro (@tyV_cells) (And.intro (@fdV_live) (And.intro (@fdV_size) (And.intro (@fdV_isAg) (And.intro (@fdV_cells) (And.intro (@List.getElem?_map.{0, 0}) @Int.natCast_nonneg))))))))))))) ?_
      refine AR.callP hr @tyV_eq (And.intro (@tyV_id) (And.intro (@fdV_id) (And.intro (@tyL_id) @fdL_id))) ?_
      refine goG Y8_Yn heq ?_
      refine AR.callP hX True.intro (And.intro (@tyV_id) (And.intro (@fdV_id) (And.intro (@tyL_id) @fdL_id))) ?_
      refine goG Y8_Yn True.intro ?_
      refine wG Y8_Yn True.intro ?_
      exact Fin.oneP
  · have hg : ¬ good t = true := by unfold good; simp [g]
    have e0 : prT t = [] := by unfold prT; rw [if_neg hg]
    rw [e0] at hp
    have heq := bA_nil
    refine AR.callP hp @tyV_eq (And.intro (@tyV_id) (And.intro (@fdV_id) (And.intro (@tyL_id) @fdL_id))) ?_
    refine goG Y8_Yn True.intro ?_
    refine wG Y8_Yn True.intro ?_
    refine AR.callP hc @tyV_eq (And.intro (@tyV_id) (And.intro (@fdV_id) (And.intro (@tyL_id) @fdL_id))) ?_
    refine goG Y8_Yn g ?_
    refine wG Y8_Yn heq ?_
    refine AR.callP hX True.intro (And.intro (@tyV_id) (And.intro (@fdV_id) (And.intro (@tyL_id) @fdL_id))) ?_
    refine goG Y8_Yn True.intro ?_
    refine wG Y8_Yn True.intro ?_
    exact Fin.oneP
end Go.Proofs.YtchjncoadhigmaaDoor

