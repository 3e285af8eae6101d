import Derived.Test.YtfggemopnlffeaaGreatHv
import Derived.Test.YtfggemopnlffeaaGreatLe
namespace Go.Proofs.YtfggemopnlffeaaGreat
set_option linter.unusedSimpArgs false
set_option linter.unusedVariables false
set_option linter.unnecessarySimpa false
open Go.RowKit
theorem Y98_B1 : type_of% (AI @F_ag_38 (AI @F_ag_39 (AI @F_ag_41 (AI @F_ag_64 (AI @F_al_41 (AI @F_al_64 (AI @F_el_38 (AI @F_el_39 (AI @F_fl_41_3 (AI @F_fl_41_4 (AI @F_fl_64_1 (AI @F_sz_38 (AI @F_sz_39 (AI @F_sz_41 (@F_sz_64))))))))))))))) := AI @F_ag_38 (AI @F_ag_39 (AI @F_ag_41 (AI @F_ag_64 (AI @F_al_41 (AI @F_al_64 (AI @F_el_38 (AI @F_el_39 (AI @F_fl_41_3 (AI @F_fl_41_4 (AI @F_fl_64_1 (AI @F_sz_38 (AI @F_sz_39 (AI @F_sz_41 (@F_sz_64))))))))))))))
theorem G98_B1 : type_of% (AI (@tyV_firm) (AI (@fdV_firm) (AI (@tyV_strip) (AI (@fdV_strip) (AI (@tyV_live) (AI (@tyV_size) (AI (@tyV_isAg) (AI (@tyV_cells) (AI (@fdV_live) (AI (@fdV_size) (AI (@fdV_isAg) (AI (@fdV_cells) (AI (@List.getElem?_map.{0, 0}) @Int.natCast_nonneg))))))))))))) := (AI (@tyV_firm) (AI (@fdV_firm) (AI (@tyV_strip) (AI (@fdV_strip) (AI (@tyV_live) (AI (@tyV_size) (AI (@tyV_isAg) (AI (@tyV_cells) (AI (@fdV_live) (AI (@fdV_size) (AI (@fdV_isAg) (AI (@fdV_cells) (AI (@List.getElem?_map.{0, 0}) @Int.natCast_nonneg)))))))))))))
set_option maxHeartbeats 400000 in
theorem c_shallow : ∀ (t : Ty), fit t → ∀ (n : Int), I64 n → PC Tryz.prog 98 [tyV t, (.im (.int .i64 (n)))] (.im (.bool (shal t n))) := by
  refine Ty.induct fun o k s c es fs hE hF => ?_
  intro hfit n hn
  unfold I64 at hn
  obtain ⟨hl1, hl2, hfE, hfF⟩ := fit_mk hfit
  refine PC.enter 38 Tryz.func98 rfl (by decide) rfl rfl (s := [(0, tyV (.mk o k s c es fs)), (1, (.im (.int .i64 (n))))]) (by rfl) ?_
  simp only [tyV_mk]
  by_cases h1 : n < 1
  · have hr : shal (.mk o k s c es fs) n = false := by
      rw [shal_mk]
      have : decide (1 ≤ n) = false := by simp; omega
      simp [this]
    rw [hr]
    refine wG Y98_B1 (AI (@G98_B1) h1) ?_
    exact Fin.oneP
  · have hn1 : IntKind.i64.wrap (n - 1) = n - 1 := wrap_in (by omega)
    refine wG Y98_B1 (AI (@G98_B1) h1) ?_
    refine AWp.loop ?_
    refine ALp.cutP 1 [(0, .ag [.im (.int .i64 k), .im (.int .i64 s), .im (.int .i64 c), .sl (es.map tyV) .ro, .sl (fs.map fdV) .ro]), (1, (.im (.int .i64 (n)))), (2, .pt 0 0), (4, .im (.bool false)), (12, .sl (es.map tyV) .ro), (13, (.im (.int .i64 (es.length)))), (14, (.im (.int .i64 (0))))] [.box [.im (.int .i64 k), .im (.int .i64 s), .im (.int .i64 c), .sl (es.map tyV) .ro, .sl (fs.map fdV) .ro]] True.intro ?_
    refine ALp.upto es.length (AllTo (fun t => shal t (n - 1)) es) (fun m => ⟨dn 38 [(0, .ag [.im (.int .i64 k), .im (.int .i64 s), .im (.int .i64 c), .sl (es.map tyV) .ro, .sl (fs.map fdV) .ro]), (1, (.im (.int .i64 (n)))), (2, .pt 0 0), (4, .im (.bool false)), (12, .sl (es.map tyV) .ro), (13, (.im (.int .i64 (es.length)))), (14, (.im (.int .i64 (m))))], ofl [.box [.im (.int .i64 k), .im (.int .i64 s), .im (.int .i64 c), .sl (es.map tyV) .ro, .sl (fs.map fdV) .ro]]⟩) ?_ 0 (Nat.zero_le _) (AllTo.zero _ _)
    intro m hm hI hnext
    by_cases hlt : m < es.length
    · have hlt' : (m : Int) < (es.length : Int) := by omega
      have hg := get_some hlt
      have hm1 := wrap_succ hlt (by omega)
      have hc := hE es[m] (List.getElem_mem hlt) (hfE _ (List.getElem_mem hlt)) (n - 1) (by unfold I64; omega)
      refine wG Y98_B1 (AI (@G98_B1) (AI hlt' (AI hg (AI hn1 hm1)))) ?_
      refine AR.callP hc @tyV_eq True.intro ?_
      by_cases hsh : shal es[m] (n - 1) = true
      · refine goG Y98_B1 (AI (@G98_B1) hsh) ?_
        refine wG Y98_B1 (AI (@G98_B1) hm1) ?_
        refine ALp.cutP 1 [(0, .ag [.im (.int .i64 k), .im (.int .i64 s), .im (.int .i64 c), .sl (es.map tyV) .ro, .sl (fs.map fdV) .ro]), (1, (.im (.int .i64 (n)))), (2, .pt 0 0), (4, .im (.bool false)), (12, .sl (es.map tyV) .ro), (13, (.im (.int .i64 (es.length)))), (14, (.im (.int .i64 (((m + 1 : Nat) : Int)))))] [.box [.im (.int .i64 k), .im (.int .i64 s), .im (.int .i64 c), .sl (es.map tyV) .ro, .sl (fs.map fdV) .ro]] True.intro ?_
        exact hnext (m + 1) (by omega) (by omega) (hI.succ hlt hsh)
      · have hsh : shal es[m] (n - 1) = false := by simpa using hsh
        refine goG Y98_B1 (AI (@G98_B1) hsh) ?_
        refine wG Y98_B1 (AI (@G98_B1) hm1) ?_
        rw [shal_mk, not_all_of hlt hsh]
        simp only [Bool.and_false, Bool.false_and]
        exact Fin.oneP
    · have hall1 := hI.done (by omega)
      have hlt' : ¬ (m : Int) < (es.length : Int) := by omega
      clear hnext hI hm hlt
      refine wG Y98_B1 (AI (@G98_B1) hlt') ?_
      clear hlt'
      refine AWp.loop ?_
      refine ALp.cutP 1 [(0, .ag [.im (.int .i64 k), .im (.int .i64 s), .im (.int .i64 c), .sl (es.map tyV) .ro, .sl (fs.map fdV) .ro]), (1, (.im (.int .i64 (n)))), (2, .pt 0 0), (4, .im (.bool false)), (25, .sl (fs.map fdV) .ro), (26, (.im (.int .i64 (fs.length)))), (27, (.im (.int .i64 (0))))] [.box [.im (.int .i64 k), .im (.int .i64 s), .im (.int .i64 c), .sl (es.map tyV) .ro, .sl (fs.map fdV) .ro]] True.intro ?_
      refine ALp.upto fs.length (AllTo (fun t => shal t (n - 1)) fs) (fun m => ⟨dn 38 [(0, .ag [.im (.int .i64 k), .im (.int .i64 s), .im (.int .i64 c), .sl (es.map tyV) .ro, .sl (fs.map fdV) .ro]), (1, (.im (.int .i64 (n)))), (2, .pt 0 0), (4, .im (.bool false)), (25, .sl (fs.map fdV) .ro), (26, (.im (.int .i64 (fs.length)))), (27, (.im (.int .i64 (m))))], ofl [.box [.im (.int .i64 k), .im (.int .i64 s), .im (.int .i64 c), .sl (es.map tyV) .ro, .sl (fs.map fdV) .ro]]⟩) ?_ 0 (Nat.zero_le _) (AllTo.zero _ _)
      intro m hm hI hnext
      by_cases hlt : m < fs.length
      · have hlt' : (m : Int) < (fs.length : Int) := by omega
        have hg := get_some hlt
        have hm1 := wrap_succ hlt (by omega)
        have hc := hF fs[m] (List.getElem_mem hlt) (hfF _ (List.getElem_mem hlt)) (n - 1) (by unfold I64; omega)
        refine wG Y98_B1 (AI (@G98_B1) (AI hlt' (AI hg (AI hn1 hm1)))) ?_
        refine AR.callP hc @tyV_eq True.intro ?_
        by_cases hsh : shal fs[m] (n - 1) = true
        · refine goG Y98_B1 (AI (@G98_B1) hsh) ?_
          refine wG Y98_B1 (AI (@G98_B1) hm1) ?_
          refine ALp.cutP 1 [(0, .ag [.im (.int .i64 k), .im (.int .i64 s), .im (.int .i64 c), .sl (es.map tyV) .ro, .sl (fs.map fdV) .ro]), (1, (.im (.int .i64 (n)))), (2, .pt 0 0), (4, .im (.bool false)), (25, .sl (fs.map fdV) .ro), (26, (.im (.int .i64 (fs.length)))), (27, (.im (.int .i64 (((m + 1 : Nat) : Int)))))] [.box [.im (.int .i64 k), .im (.int .i64 s), .im (.int .i64 c), .sl (es.map tyV) .ro, .sl (fs.map fdV) .ro]] True.intro ?_
          exact hnext (m + 1) (by omega) (by omega) (hI.succ hlt hsh)
        · have hsh : shal fs[m] (n - 1) = false := by simpa using hsh
          refine goG Y98_B1 (AI (@G98_B1) hsh) ?_
          refine wG Y98_B1 (AI (@G98_B1) hm1) ?_
          rw [shal_mk, not_all_of hlt hsh]
          simp only [Bool.and_false]
          exact Fin.oneP
      · have hall2 := hI.done (by omega)
        have hlt' : ¬ (m : Int) < (fs.length : Int) := by omega
        clear hnext hI hm hlt
        refine wG Y98_B1 (AI (@G98_B1) hlt') ?_
        rw [shal_mk, hall1, hall2]
        have : decide (1 ≤ n) = true := by simp; omega
        rw [this]
        simp only [Bool.and_self]
        exact Fin.oneP
theorem Y108_B1 : type_of% (AI @F_ag_38 (AI @F_ag_39 (AI @F_ag_41 (AI @F_el_38 (AI @F_el_39 (AI @F_fl_41_3 (AI @F_fl_41_4 (AI @F_fl_64_1 (AI @F_sz_38 (AI @F_sz_39 (AI @F_sz_41 (@F_sz_64)))))))))))) := AI @F_ag_38 (AI @F_ag_39 (AI @F_ag_41 (AI @F_el_38 (AI @F_el_39 (AI @F_fl_41_3 (AI @F_fl_41_4 (AI @F_fl_64_1 (AI @F_sz_38 (AI @F_sz_39 (AI @F_sz_41 (@F_sz_64)))))))))))
theorem G108_B1 : type_of% (AI (@tyV_firm) (AI (@fdV_firm) (AI (@tyV_strip) (AI (@fdV_strip) (AI (@tyV_live) (AI (@tyV_size) (AI (@tyV_isAg) (AI (@tyV_cells) (AI (@fdV_live) (AI (@fdV_size) (AI (@fdV_isAg) (AI (@fdV_cells) (AI (@List.getElem?_map.{0, 0}) @Int.natCast_nonneg))))))))))))) := (AI (@tyV_firm) (AI (@fdV_firm) (AI (@tyV_strip) (AI (@fdV_strip) (AI (@tyV_live) (AI (@tyV_size) (AI (@tyV_isAg) (AI (@tyV_cells) (AI (@fdV_live) (AI (@fdV_size) (AI (@fdV_isAg) (AI (@fdV_cells) (AI (@List.getElem?_map.{0, 0}) @Int.natCast_nonneg)))))))))))))
set_option maxHeartbeats 400000 in
theorem c_isDeep : ∀ (t : Ty), fit t → ∀ (n : Int), I64 n → PC Tryz.prog 108 [tyV t, (.im (.int .i64 (n)))] (.im (.bool (!shal t n))) := by
  refine Ty.induct fun o k s c es fs hE hF => ?_
  intro hfit n hn
  unfold I64 at hn
  obtain ⟨hl1, hl2, hfE, hfF⟩ := fit_mk hfit
  refine PC.enter 40 Tryz.func108 rfl (by decide) rfl rfl (s := [(0, tyV (.mk o k s c es fs)), (1, (.im (.int .i64 (n))))]) (by rfl) ?_
  simp only [tyV_mk]
  by_cases h1 : n < 1
  · have hr : shal (.mk o k s c es fs) n = false := by
      rw [shal_mk]
      have : decide (1 ≤ n) = false := by simp; omega
      simp [this]
    rw [hr]
    refine wG Y108_B1 (AI (@G108_B1) h1) ?_
    exact Fin.oneP
  · have hn1 : IntKind.i64.wrap (n - 1) = n - 1 := wrap_in (by omega)
    refine wG Y108_B1 (AI (@G108_B1) h1) ?_
    refine AWp.loop ?_
    refine ALp.cutP 1 [(0, .ag [.im (.int .i64 k), .im (.int .i64 s), .im (.int .i64 c), .sl (es.map tyV) .ro, .sl (fs.map fdV) .ro]), (1, (.im (.int .i64 (n)))), (2, .pt 0 0), (4, .im (.bool false)), (5, (.im (.int .i64 (0))))] [.box [.im (.int .i64 k), .im (.int .i64 s), .im (.int .i64 c), .sl (es.map tyV) .ro, .sl (fs.map fdV) .ro]] True.intro ?_
    refine ALp.upto es.length (AllTo (fun t => shal t (n - 1)) es) (fun m => ⟨dn 40 [(0, .ag [.im (.int .i64 k), .im (.int .i64 s), .im (.int .i64 c), .sl (es.map tyV) .ro, .sl (fs.map fdV) .ro]), (1, (.im (.int .i64 (n)))), (2, .pt 0 0), (4, .im (.bool false)), (5, (.im (.int .i64 (m))))], ofl [.box [.im (.int .i64 k), .im (.int .i64 s), .im (.int .i64 c), .sl (es.map tyV) .ro, .sl (fs.map fdV) .ro]]⟩) ?_ 0 (Nat.zero_le _) (AllTo.zero _ _)
    intro m hm hI hnext
    by_cases hlt : m < es.length
    · have hlt' : (m : Int) < (es.length : Int) := by omega
      have hg := get_some hlt
      have hm1 := wrap_succ hlt (by omega)
      have hc := hE es[m] (List.getElem_mem hlt) (hfE _ (List.getElem_mem hlt)) (n - 1) (by unfold I64; omega)
      refine wG Y108_B1 (AI (@G108_B1) (AI hlt' (AI hg (AI hn1 hm1)))) ?_
      refine AR.callP hc True.intro True.intro ?_
      by_cases hsh : shal es[m] (n - 1) = true
      · refine goG Y108_B1 (AI (@G108_B1) hsh) ?_
        refine wG Y108_B1 (AI (@G108_B1) hm1) ?_
        refine ALp.cutP 1 [(0, .ag [.im (.int .i64 k), .im (.int .i64 s), .im (.int .i64 c), .sl (es.map tyV) .ro, .sl (fs.map fdV) .ro]), (1, (.im (.int .i64 (n)))), (2, .pt 0 0), (4, .im (.bool false)), (5, (.im (.int .i64 (((m + 1 : Nat) : Int)))))] [.box [.im (.int .i64 k), .im (.int .i64 s), .im (.int .i64 c), .sl (es.map tyV) .ro, .sl (fs.map fdV) .ro]] True.intro ?_
        exact hnext (m + 1) (by omega) (by omega) (hI.succ hlt hsh)
      · have hsh : shal es[m] (n - 1) = false := by simpa using hsh
        refine goG Y108_B1 (AI (@G108_B1) hsh) ?_
        refine wG Y108_B1 (AI (@G108_B1) hm1) ?_
        rw [shal_mk, not_all_of hlt hsh]
        simp only [Bool.and_false, Bool.false_and]
        exact Fin.oneP
    · have hall1 := hI.done (by omega)
      have hlt' : ¬ (m : Int) < (es.length : Int) := by omega
      clear hnext hI hm hlt
      refine wG Y108_B1 (AI (@G108_B1) hlt') ?_
      clear hlt'
      refine AWp.loop ?_
      refine ALp.cutP 1 [(0, .ag [.im (.int .i64 k), .im (.int .i64 s), .im (.int .i64 c), .sl (es.map tyV) .ro, .sl (fs.map fdV) .ro]), (1, (.im (.int .i64 (n)))), (2, .pt 0 0), (4, .im (.bool false)), (6, (.im (.int .i64 (0))))] [.box [.im (.int .i64 k), .im (.int .i64 s), .im (.int .i64 c), .sl (es.map tyV) .ro, .sl (fs.map fdV) .ro]] True.intro ?_
      refine ALp.upto fs.length (AllTo (fun t => shal t (n - 1)) fs) (fun m => ⟨dn 40 [(0, .ag [.im (.int .i64 k), .im (.int .i64 s), .im (.int .i64 c), .sl (es.map tyV) .ro, .sl (fs.map fdV) .ro]), (1, (.im (.int .i64 (n)))), (2, .pt 0 0), (4, .im (.bool false)), (6, (.im (.int .i64 (m))))], ofl [.box [.im (.int .i64 k), .im (.int .i64 s), .im (.int .i64 c), .sl (es.map tyV) .ro, .sl (fs.map fdV) .ro]]⟩) ?_ 0 (Nat.zero_le _) (AllTo.zero _ _)
      intro m hm hI hnext
      by_cases hlt : m < fs.length
      · have hlt' : (m : Int) < (fs.length : Int) := by omega
        have hg := get_some hlt
        have hm1 := wrap_succ hlt (by omega)
        have hc := hF fs[m] (List.getElem_mem hlt) (hfF _ (List.getElem_mem hlt)) (n - 1) (by unfold I64; omega)
        refine wG Y108_B1 (AI (@G108_B1) (AI hlt' (AI hg (AI hn1 hm1)))) ?_
        refine AR.callP hc @tyV_eq True.intro ?_
        by_cases hsh : shal fs[m] (n - 1) = true
        · refine goG Y108_B1 (AI (@G108_B1) hsh) ?_
          refine wG Y108_B1 (AI (@G108_B1) hm1) ?_
          refine ALp.cutP 1 [(0, .ag [.im (.int .i64 k), .im (.int .i64 s), .im (.int .i64 c), .sl (es.map tyV) .ro, .sl (fs.map fdV) .ro]), (1, (.im (.int .i64 (n)))), (2, .pt 0 0), (4, .im (.bool false)), (6, (.im (.int .i64 (((m + 1 : Nat) : Int)))))] [.box [.im (.int .i64 k), .im (.int .i64 s), .im (.int .i64 c), .sl (es.map tyV) .ro, .sl (fs.map fdV) .ro]] True.intro ?_
          exact hnext (m + 1) (by omega) (by omega) (hI.succ hlt hsh)
        · have hsh : shal fs[m] (n - 1) = false := by simpa using hsh
          refine goG Y108_B1 (AI (@G108_B1) hsh) ?_
          refine wG Y108_B1 (AI (@G108_B1) hm1) ?_
          rw [shal_mk, not_all_of hlt hsh]
          simp only [Bool.and_false]
          exact Fin.oneP
      · have hall2 := hI.done (by omega)
        have hlt' : ¬ (m : Int) < (fs.length : Int) := by omega
        clear hnext hI hm hlt
        refine wG Y108_B1 (AI (@G108_B1) hlt') ?_
        rw [shal_mk, hall1, hall2]
        have : decide (1 ≤ n) = true := by simp; omega
        rw [this]
        simp only [Bool.and_self]
        exact Fin.oneP
end Go.Proofs.YtfggemopnlffeaaGreat
namespace Go.Proofs.YtfggemopnlffeaaGreat
set_option linter.unusedSimpArgs false
set_option linter.unusedVariables false
set_option linter.unnecessarySimpa false
open Go.RowKit
theorem go_min (a b : Int) : (if b < a then b else a) = min a b := by omega
theorem go_max (a b : Int) : (if b > a then b else a) = max a b := by omega
def ends (fs : List Ty) (m : Nat) : Int := ((fs.take m).map fun f => f.off + siz f).foldl max 0
theorem ends_succ {fs : List Ty} {m : Nat} (h : m < fs.length) : ends fs (m + 1) = max (ends fs m) (fs[m].off + siz fs[m]) := by
  unfold ends
  rw [List.take_succ_eq_append_getElem h, List.map_append, List.foldl_append]
  rfl
theorem ends_all (fs : List Ty) : ends fs fs.length = (fs.map fun f => f.off + siz f).foldl max 0 := by
  unfold ends
  rw [List.take_length]
theorem ends_le {fs : List Ty} (h : ∀ i, (hi : i < fs.length) → 0 ≤ fs[i].off ∧ fs[i].off < 65536) (m : Nat) : 0 ≤ ends fs m ∧ ends fs m ≤ 131072 := by
  unfold ends
  refine ⟨foldl_max_ge _ _, foldl_max_le _ _ (fun x hx => ?_) _ (by omega)⟩
  obtain ⟨f, hf, rfl⟩ := List.mem_map.1 hx
  obtain ⟨i, hi, rfl⟩ := List.getElem_of_mem (List.mem_of_mem_take hf)
  have := h i hi
  have := siz_le fs[i]
  omega
theorem Y121_B2 : type_of% (AI @F_ag_3 (AI @F_ag_38 (AI @F_ag_39 (AI @F_ag_41 (AI @F_ag_64 (AI @F_al_64 (AI @F_el_38 (AI @F_el_39 (AI @F_fl_41_0 (AI @F_fl_41_1 (AI @F_fl_41_2 (AI @F_fl_41_3 (AI @F_fl_41_4 (AI @F_fl_64_0 (AI @F_fl_64_1 (AI @F_sz_3 (AI @F_sz_38 (AI @F_sz_39 (AI @F_sz_41 (@F_sz_64)))))))))))))))))))) := AI @F_ag_3 (AI @F_ag_38 (AI @F_ag_39 (AI @F_ag_41 (AI @F_ag_64 (AI @F_al_64 (AI @F_el_38 (AI @F_el_39 (AI @F_fl_41_0 (AI @F_fl_41_1 (AI @F_fl_41_2 (AI @F_fl_41_3 (AI @F_fl_41_4 (AI @F_fl_64_0 (AI @F_fl_64_1 (AI @F_sz_3 (AI @F_sz_38 (AI @F_sz_39 (AI @F_sz_41 (@F_sz_64)))))))))))))))))))
theorem G121_B2 : type_of% (AI (@tyV_firm) (AI (@fdV_firm) (AI (@tyV_strip) (AI (@fdV_strip) (AI (@tyV_live) (AI (@tyV_size) (AI (@tyV_isAg) (AI (@tyV_cells) (AI (@fdV_live) (AI (@fdV_size) (AI (@fdV_isAg) (AI (@fdV_cells) (AI (@List.getElem?_map.{0, 0}) @Int.natCast_nonneg))))))))))))) := (AI (@tyV_firm) (AI (@fdV_firm) (AI (@tyV_strip) (AI (@fdV_strip) (AI (@tyV_live) (AI (@tyV_size) (AI (@tyV_isAg) (AI (@tyV_cells) (AI (@fdV_live) (AI (@fdV_size) (AI (@fdV_isAg) (AI (@fdV_cells) (AI (@List.getElem?_map.{0, 0}) @Int.natCast_nonneg)))))))))))))
set_option maxHeartbeats 400000 in
theorem c_size : ∀ (t : Ty), fit t → frm t = true → PC Tryz.prog 121 [tyV t] (.im (.int .i64 (siz t))) := by
  refine Ty.induct fun o k s c es fs hE hF => ?_
  intro hfit hfrm
  obtain ⟨hl1, hl2, hfE, hfF⟩ := fit_mk hfit
  obtain ⟨hb, hof, hfs, hes⟩ := frm_inv hfrm
  refine PC.enter 45 Tryz.func121 rfl (by decide) rfl rfl (s := [(0, tyV (.mk o k s c es fs))]) (by rfl) ?_
  simp only [tyV_mk]
  rw [siz_mk]
  rcases base_cases hb with h1 | h1 | h1 | h1 | h1
  · obtain ⟨h1, rfl, rfl, _, _⟩ := h1
    rcases h1 with rfl | rfl
    all_goals
      refine wG Y121_B2 @G121_B2 ?_
      exact Fin.oneP
  · obtain ⟨h1, h2, rfl, _, _⟩ := h1
    have e : min s 65537 = s := by omega
    have hs : ¬ (65537 : Int) < s := by omega
    rcases h1 with rfl | rfl
    · refine wG Y121_B2 (AI (@G121_B2) hs) ?_
      simp only [Int.reduceBEq, Bool.true_or, Bool.or_true, if_true, e]
      exact Fin.oneP
    · refine wG Y121_B2 (AI (@G121_B2) hs) ?_
      simp only [Int.reduceBEq, Bool.true_or, Bool.or_true, if_true, e]
      exact Fin.oneP
  · obtain ⟨rfl, rfl, rfl, _, _⟩ := h1
    refine wG Y121_B2 @G121_B2 ?_
    exact Fin.oneP
  · obtain ⟨rfl, rfl, h2, h3, h4, _⟩ := h1
    obtain ⟨x, rfl⟩ := List.length_eq_one_iff.1 h4
    have hc := hE x (by simp) (hfE x (by simp)) (hes x (by simp))
    have hx0 := siz_nonneg x (hes x (by simp))
    have hx1 := siz_le x
    have hw : IntKind.i64.wrap (c * siz x) = c * siz x := wrap_in (by
      have h5 : 0 ≤ c * siz x := Int.mul_nonneg (by omega) hx0
      have h6 : c * siz x ≤ 65536 * 65537 := Int.mul_le_mul h3 hx1 hx0 (by omega)
      omega)
    refine wdG Y121_B2 @G121_B2 ?_
    refine AR.callP hc @tyV_eq True.intro ?_
    refine goG Y121_B2 (AI (@G121_B2) hw) ?_
    refine wdG Y121_B2 (AI (@G121_B2) (AI hw go_min)) ?_
    simp only [Int.reduceBEq, Bool.or_self, Bool.false_eq_true, if_false, if_true, List.map_cons, List.headD_cons]
    exact Fin.oneP
  · obtain ⟨rfl, rfl, rfl, _⟩ := h1
    have hoff : ∀ i, (hi : i < fs.length) → 0 ≤ fs[i].off ∧ fs[i].off < 65536 := fun i hi => fok_off hi (hof i hi)
    refine wdG Y121_B2 @G121_B2 ?_
    refine AWp.loop ?_
    refine ALp.cutP 1 [(0, .ag [.im (.int .i64 5), .im (.int .i64 0), .im (.int .i64 0), .sl (es.map tyV) .ro, .sl (fs.map fdV) .ro]), (1, .pt 0 0), (2, (.im (.int .i64 (0)))), (3, (.im (.int .i64 (ends fs (0))))), (28, .sl (fs.map fdV) .ro), (29, (.im (.int .i64 (fs.length)))), (30, (.im (.int .i64 (((0 : Nat) : Int)))))] [.box [.im (.int .i64 5), .im (.int .i64 0), .im (.int .i64 0), .sl (es.map tyV) .ro, .sl (fs.map fdV) .ro]] True.intro ?_
    refine ALp.upto fs.length (fun _ => True) (fun m => ⟨dn 45 [(0, .ag [.im (.int .i64 5), .im (.int .i64 0), .im (.int .i64 0), .sl (es.map tyV) .ro, .sl (fs.map fdV) .ro]), (1, .pt 0 0), (2, (.im (.int .i64 (0)))), (3, (.im (.int .i64 (ends fs (m))))), (28, .sl (fs.map fdV) .ro), (29, (.im (.int .i64 (fs.length)))), (30, (.im (.int .i64 (((m : Nat) : Int)))))], ofl [.box [.im (.int .i64 5), .im (.int .i64 0), .im (.int .i64 0), .sl (es.map tyV) .ro, .sl (fs.map fdV) .ro]]⟩) ?_ 0 (Nat.zero_le _) trivial
    intro m hm _ hnext
    by_cases hlt : m < fs.length
    · have hlt' : (m : Int) < (fs.length : Int) := by omega
      have hg := get_some hlt
      have hm1 := wrap_succ hlt (by omega)
      have hc := hF fs[m] (List.getElem_mem hlt) (hfF _ (List.getElem_mem hlt)) (hfs _ (List.getElem_mem hlt))
      have ho := hoff m hlt
      have hx0 := siz_nonneg fs[m] (hfs _ (List.getElem_mem hlt))
      have hx1 := siz_le fs[m]
      have hw : IntKind.i64.wrap (fs[m].off + siz fs[m]) = fs[m].off + siz fs[m] := wrap_in (by omega)
      have he := (ends_succ hlt).symm
      refine wdG Y121_B2 (AI (@G121_B2) (AI hlt' (AI hg hm1))) ?_
      refine AR.callP hc @tyV_eq True.intro ?_
      refine goG Y121_B2 (AI (@G121_B2) (AI hw (AI go_max he))) ?_
      refine wdG Y121_B2 (AI (@G121_B2) hm1) ?_
      refine ALp.cutP 1 [(0, .ag [.im (.int .i64 5), .im (.int .i64 0), .im (.int .i64 0), .sl (es.map tyV) .ro, .sl (fs.map fdV) .ro]), (1, .pt 0 0), (2, (.im (.int .i64 (0)))), (3, (.im (.int .i64 (ends fs (m + 1))))), (28, .sl (fs.map fdV) .ro), (29, (.im (.int .i64 (fs.length)))), (30, (.im (.int .i64 (((m + 1 : Nat) : Int)))))] [.box [.im (.int .i64 5), .im (.int .i64 0), .im (.int .i64 0), .sl (es.map tyV) .ro, .sl (fs.map fdV) .ro]] True.intro ?_
      exact hnext (m + 1) (by omega) (by omega) trivial
    · obtain rfl : m = fs.length := by omega
      have hlt' : ¬ (fs.length : Int) < (fs.length : Int) := by omega
      clear hnext
      refine wdG Y121_B2 (AI (@G121_B2) (AI hlt' go_min)) ?_
      simp only [Int.reduceBEq, Bool.or_self, Bool.false_eq_true, if_false, if_true, ← ends_all]
      exact Fin.oneP
theorem Y126_B2 : type_of% (AI @F_ag_3 (AI @F_ag_38 (AI @F_ag_39 (AI @F_ag_41 (AI @F_el_38 (AI @F_el_39 (AI @F_fl_41_0 (AI @F_fl_41_1 (AI @F_fl_41_2 (AI @F_fl_41_3 (AI @F_fl_41_4 (AI @F_fl_64_0 (AI @F_fl_64_1 (AI @F_sz_3 (AI @F_sz_38 (AI @F_sz_39 (AI @F_sz_41 (@F_sz_64)))))))))))))))))) := AI @F_ag_3 (AI @F_ag_38 (AI @F_ag_39 (AI @F_ag_41 (AI @F_el_38 (AI @F_el_39 (AI @F_fl_41_0 (AI @F_fl_41_1 (AI @F_fl_41_2 (AI @F_fl_41_3 (AI @F_fl_41_4 (AI @F_fl_64_0 (AI @F_fl_64_1 (AI @F_sz_3 (AI @F_sz_38 (AI @F_sz_39 (AI @F_sz_41 (@F_sz_64)))))))))))))))))
theorem G126_B2 : type_of% (AI (@tyV_firm) (AI (@fdV_firm) (AI (@tyV_strip) (AI (@fdV_strip) (AI (@tyV_live) (AI (@tyV_size) (AI (@tyV_isAg) (AI (@tyV_cells) (AI (@fdV_live) (AI (@fdV_size) (AI (@fdV_isAg) (AI (@fdV_cells) (AI (@List.getElem?_map.{0, 0}) @Int.natCast_nonneg))))))))))))) := (AI (@tyV_firm) (AI (@fdV_firm) (AI (@tyV_strip) (AI (@fdV_strip) (AI (@tyV_live) (AI (@tyV_size) (AI (@tyV_isAg) (AI (@tyV_cells) (AI (@fdV_live) (AI (@fdV_size) (AI (@fdV_isAg) (AI (@fdV_cells) (AI (@List.getElem?_map.{0, 0}) @Int.natCast_nonneg)))))))))))))
set_option maxHeartbeats 400000 in
theorem c_sizeR : ∀ (t : Ty), fit t → frm t = true → PC Tryz.prog 126 [tyV t] (.im (.int .i64 (siz t))) := by
  refine Ty.induct fun o k s c es fs hE hF => ?_
  intro hfit hfrm
  obtain ⟨hl1, hl2, hfE, hfF⟩ := fit_mk hfit
  obtain ⟨hb, hof, hfs, hes⟩ := frm_inv hfrm
  refine PC.enter 51 Tryz.func126 rfl (by decide) rfl rfl (s := [(0, tyV (.mk o k s c es fs))]) (by rfl) ?_
  simp only [tyV_mk]
  rw [siz_mk]
  rcases base_cases hb with h1 | h1 | h1 | h1 | h1
  · obtain ⟨h1, rfl, rfl, _, _⟩ := h1
    rcases h1 with rfl | rfl
    all_goals
      refine wG Y126_B2 @G126_B2 ?_
      exact Fin.oneP
  · obtain ⟨h1, h2, rfl, _, _⟩ := h1
    have e : min s 65537 = s := by omega
    have hs : ¬ (65537 : Int) < s := by omega
    rcases h1 with rfl | rfl
    · refine wG Y126_B2 (AI (@G126_B2) hs) ?_
      simp only [Int.reduceBEq, Bool.true_or, Bool.or_true, if_true, e]
      exact Fin.oneP
    · refine wG Y126_B2 (AI (@G126_B2) hs) ?_
      simp only [Int.reduceBEq, Bool.true_or, Bool.or_true, if_true, e]
      exact Fin.oneP
  · obtain ⟨rfl, rfl, rfl, _, _⟩ := h1
    refine wG Y126_B2 @G126_B2 ?_
    exact Fin.oneP
  · obtain ⟨rfl, rfl, h2, h3, h4, _⟩ := h1
    obtain ⟨x, rfl⟩ := List.length_eq_one_iff.1 h4
    have hc := hE x (by simp) (hfE x (by simp)) (hes x (by simp))
    have hx0 := siz_nonneg x (hes x (by simp))
    have hx1 := siz_le x
    have hw : IntKind.i64.wrap (c * siz x) = c * siz x := wrap_in (by
      have h5 : 0 ≤ c * siz x := Int.mul_nonneg (by omega) hx0
      have h6 : c * siz x ≤ 65536 * 65537 := Int.mul_le_mul h3 hx1 hx0 (by omega)
      omega)
    refine wdG Y126_B2 @G126_B2 ?_
    refine AR.callP hc @tyV_eq True.intro ?_
    refine goG Y126_B2 (AI (@G126_B2) hw) ?_
    refine wdG Y126_B2 (AI (@G126_B2) (AI hw go_min)) ?_
    simp only [Int.reduceBEq, Bool.or_self, Bool.false_eq_true, if_false, if_true, List.map_cons, List.headD_cons]
    exact Fin.oneP
  · obtain ⟨rfl, rfl, rfl, _⟩ := h1
    have hoff : ∀ i, (hi : i < fs.length) → 0 ≤ fs[i].off ∧ fs[i].off < 65536 := fun i hi => fok_off hi (hof i hi)
    refine wdG Y126_B2 @G126_B2 ?_
    refine AWp.loop ?_
    refine ALp.cutP 1 [(0, .ag [.im (.int .i64 5), .im (.int .i64 0), .im (.int .i64 0), .sl (es.map tyV) .ro, .sl (fs.map fdV) .ro]), (1, .pt 0 0), (2, (.im (.int .i64 (0)))), (3, (.im (.int .i64 (ends fs (0))))), (4, (.im (.int .i64 (((0 : Nat) : Int)))))] [.box [.im (.int .i64 5), .im (.int .i64 0), .im (.int .i64 0), .sl (es.map tyV) .ro, .sl (fs.map fdV) .ro]] True.intro ?_
    refine ALp.upto fs.length (fun _ => True) (fun m => ⟨dn 51 [(0, .ag [.im (.int .i64 5), .im (.int .i64 0), .im (.int .i64 0), .sl (es.map tyV) .ro, .sl (fs.map fdV) .ro]), (1, .pt 0 0), (2, (.im (.int .i64 (0)))), (3, (.im (.int .i64 (ends fs (m))))), (4, (.im (.int .i64 (((m : Nat) : Int)))))], ofl [.box [.im (.int .i64 5), .im (.int .i64 0), .im (.int .i64 0), .sl (es.map tyV) .ro, .sl (fs.map fdV) .ro]]⟩) ?_ 0 (Nat.zero_le _) trivial
    intro m hm _ hnext
    by_cases hlt : m < fs.length
    · have hlt' : (m : Int) < (fs.length : Int) := by omega
      have hg := get_some hlt
      have hm1 := wrap_succ hlt (by omega)
      have hc := hF fs[m] (List.getElem_mem hlt) (hfF _ (List.getElem_mem hlt)) (hfs _ (List.getElem_mem hlt))
      have ho := hoff m hlt
      have hx0 := siz_nonneg fs[m] (hfs _ (List.getElem_mem hlt))
      have hx1 := siz_le fs[m]
      have hw : IntKind.i64.wrap (fs[m].off + siz fs[m]) = fs[m].off + siz fs[m] := wrap_in (by omega)
      have he := (ends_succ hlt).symm
      refine wdG Y126_B2 (AI (@G126_B2) (AI hlt' (AI hg hm1))) ?_
      refine AR.callP hc @tyV_eq True.intro ?_
      refine goG Y126_B2 (AI (@G126_B2) (AI hw (AI go_max he))) ?_
      refine wdG Y126_B2 (AI (@G126_B2) hm1) ?_
      refine ALp.cutP 1 [(0, .ag [.im (.int .i64 5), .im (.int .i64 0), .im (.int .i64 0), .sl (es.map tyV) .ro, .sl (fs.map fdV) .ro]), (1, .pt 0 0), (2, (.im (.int .i64 (0)))), (3, (.im (.int .i64 (ends fs (m + 1))))), (4, (.im (.int .i64 (((m + 1 : Nat) : Int)))))] [.box [.im (.int .i64 5), .im (.int .i64 0), .im (.int .i64 0), .sl (es.map tyV) .ro, .sl (fs.map fdV) .ro]] True.intro ?_
      exact hnext (m + 1) (by omega) (by omega) trivial
    · obtain rfl : m = fs.length := by omega
      have hlt' : ¬ (fs.length : Int) < (fs.length : Int) := by omega
      clear hnext
      refine wdG Y126_B2 (AI (@G126_B2) (AI hlt' go_min)) ?_
      simp only [Int.reduceBEq, Bool.or_self, Bool.false_eq_true, if_false, if_true, ← ends_all]
      exact Fin.oneP
end Go.Proofs.YtfggemopnlffeaaGreat
namespace Go.Proofs.YtfggemopnlffeaaGreat
set_option linter.unusedSimpArgs false
set_option linter.unusedVariables false
set_option linter.unnecessarySimpa false
open Go.RowKit
def seen (fs : List Ty) (m : Nat) : Prop := ∀ j (hj : j < fs.length), j < m → fok fs j = true ∧ frm fs[j] = true
theorem seen.succ {fs : List Ty} {m : Nat} (h : seen fs m) (hm : m < fs.length) (h1 : fok fs m = true) (h2 : frm fs[m] = true) : seen fs (m + 1) := by
  intro j hj hlt
  rcases Nat.lt_succ_iff_lt_or_eq.1 hlt with h3 | rfl
  · exact h j hj h3
  · exact ⟨h1, h2⟩
theorem seen.done {fs : List Ty} (h : seen fs fs.length) : (asc fs && fs.all frm) = true := by
  simp only [Bool.and_eq_true, asc, List.all_eq_true, List.mem_range]
  refine ⟨fun i hi => (h i hi hi).1, fun t ht => ?_⟩
  obtain ⟨i, hi, rfl⟩ := List.getElem_of_mem ht
  exact (h i hi hi).2
theorem unseen {fs : List Ty} {m : Nat} (hm : m < fs.length) (h : ¬ (fok fs m = true ∧ frm fs[m] = true)) : (asc fs && fs.all frm) = false := by
  rw [Bool.eq_false_iff]
  intro hn
  simp only [Bool.and_eq_true, asc, List.all_eq_true, List.mem_range] at hn
  exact h ⟨hn.1 m hm, hn.2 _ (List.getElem_mem hm)⟩
theorem fok_zero {fs : List Ty} (hi : 0 < fs.length) : fok fs 0 = (decide (0 ≤ fs[0].off) && decide (fs[0].off < 65536)) := by
  unfold fok
  have e : (fs.map Ty.off).getD 0 0 = fs[0].off := by simp [List.getD, hi]
  rw [e]
  simp
theorem fok_succ {fs : List Ty} {j : Nat} (hi : j + 1 < fs.length) : fok fs (j + 1) = (decide (0 ≤ fs[j + 1].off) && decide (fs[j + 1].off < 65536) && decide (fs[j].off < fs[j + 1].off)) := by
  unfold fok
  have hj : j < fs.length := by omega
  have e : (fs.map Ty.off).getD (j + 1) 0 = fs[j + 1].off := by simp [List.getD, hi]
  have e2 : (fs.map Ty.off).getD (j + 1 - 1) 0 = fs[j].off := by simp [List.getD, hj]
  rw [e, e2]
  simp
theorem wrap_pred {j : Nat} (h : j + 1 ≤ 4194304) : IntKind.i64.wrap (((j + 1 : Nat) : Int) - 1) = (j : Int) := by
  rw [wrap_in (by omega)]
  omega
theorem fok_iff {fs : List Ty} {m : Nat} (hm : m < fs.length) : fok fs m = true ↔ 0 ≤ fs[m].off ∧ fs[m].off < 65536 ∧ (m = 0 ∨ (fs[m - 1]'(by omega)).off < fs[m].off) := by
  cases m with
  | zero => rw [fok_zero hm]; simp
  | succ j => rw [fok_succ hm]; simp [and_assoc]
theorem frm_unseen {o : Int} {fs : List Ty} {m : Nat} (hm : m < fs.length) (h : ¬ (fok fs m = true ∧ frm fs[m] = true)) : frm (.mk o 5 0 0 [] fs) = false := by
  rw [frm_mk]
  have := unseen hm h
  simp only [Bool.and_eq_false_iff] at this ⊢
  exact .inl (this.elim (fun h => .inl (.inr h)) .inr)
theorem frm_bad {o k s c : Int} {es fs : List Ty} (h : base k s c es.length fs.length = false) : frm (.mk o k s c es fs) = false := by rw [frm_mk, h]; rfl
theorem frm_of {o k s c : Int} {es fs : List Ty} (hb : base k s c es.length fs.length = true) (hf : fs = []) : frm (.mk o k s c es fs) = es.all frm := by
  subst hf
  rw [frm_mk, hb]
  simp [asc]
theorem Y99_B3 : type_of% (AI @F_ag_3 (AI @F_ag_38 (AI @F_ag_39 (AI @F_ag_41 (AI @F_ag_64 (AI @F_al_41 (AI @F_al_64 (AI @F_el_38 (AI @F_el_39 (AI @F_fl_41_0 (AI @F_fl_41_1 (AI @F_fl_41_2 (AI @F_fl_41_3 (AI @F_fl_41_4 (AI @F_fl_64_0 (AI @F_fl_64_1 (AI @F_st_41 (AI @F_sz_3 (AI @F_sz_38 (AI @F_sz_39 (AI @F_sz_41 (@F_sz_64)))))))))))))))))))))) := AI @F_ag_3 (AI @F_ag_38 (AI @F_ag_39 (AI @F_ag_41 (AI @F_ag_64 (AI @F_al_41 (AI @F_al_64 (AI @F_el_38 (AI @F_el_39 (AI @F_fl_41_0 (AI @F_fl_41_1 (AI @F_fl_41_2 (AI @F_fl_41_3 (AI @F_fl_41_4 (AI @F_fl_64_0 (AI @F_fl_64_1 (AI @F_st_41 (AI @F_sz_3 (AI @F_sz_38 (AI @F_sz_39 (AI @F_sz_41 (@F_sz_64)))))))))))))))))))))
theorem G99_B3 : type_of% (AI (@tyV_firm) (AI (@fdV_firm) (AI (@tyV_strip) (AI (@fdV_strip) (AI (@tyV_live) (AI (@tyV_size) (AI (@tyV_isAg) (AI (@tyV_cells) (AI (@fdV_live) (AI (@fdV_size) (AI (@fdV_isAg) (AI (@fdV_cells) (AI (@List.getElem?_map.{0, 0}) @Int.natCast_nonneg))))))))))))) := (AI (@tyV_firm) (AI (@fdV_firm) (AI (@tyV_strip) (AI (@fdV_strip) (AI (@tyV_live) (AI (@tyV_size) (AI (@tyV_isAg) (AI (@tyV_cells) (AI (@fdV_live) (AI (@fdV_size) (AI (@fdV_isAg) (AI (@fdV_cells) (AI (@List.getElem?_map.{0, 0}) @Int.natCast_nonneg)))))))))))))
set_option maxRecDepth 100000 in
set_option maxHeartbeats 2000000 in
theorem formed5 {o s c : Int} {es fs : List Ty} (hF : ∀ t ∈ fs, fit t → PC Tryz.prog 99 [tyV t] (.im (.bool (frm t)))) (hfit : fit (.mk o 5 s c es fs)) : PC Tryz.prog 99 [tyV (.mk o 5 s c es fs)] (.im (.bool (frm (.mk o 5 s c es fs)))) := by
  obtain ⟨hl1, hl2, hfE, hfF⟩ := fit_mk hfit
  refine PC.enter 131 Tryz.func99 rfl (by decide) rfl rfl (s := [(0, tyV (.mk o 5 s c es fs))]) (by rfl) ?_
  simp only [tyV_mk]
  refine wdG Y99_B3 @G99_B3 ?_
  refine AWp.condA rfl rfl (fun h => ?_) (fun h => ?_)
  · rw [frm_bad (by simp [base, -List.length_eq_zero_iff] at h ⊢; omega)]
    refine wG Y99_B3 @G99_B3 ?_
    exact Fin.oneP
  · obtain ⟨rfl, rfl, he⟩ : s = 0 ∧ c = 0 ∧ es.length = 0 := by simp [-List.length_eq_zero_iff] at h; omega
    obtain rfl := List.length_eq_zero_iff.1 he
    refine wdG Y99_B3 @G99_B3 ?_
    refine AWp.loop ?_
    refine ALp.cutP 1 [(0, .ag [.im (.int .i64 5), .im (.int .i64 0), .im (.int .i64 0), .sl [] .ro, .sl (fs.map fdV) .ro]), (1, .pt 0 0), (4, (.im (.int .i64 (0)))), (5, (.im (.bool (true)))), (84, .sl (fs.map fdV) .ro), (85, (.im (.int .i64 (fs.length)))), (86, (.im (.int .i64 (((0 : Nat) : Int)))))] [.box [.im (.int .i64 5), .im (.int .i64 0), .im (.int .i64 0), .sl [] .ro, .sl (fs.map fdV) .ro]] True.intro ?_
    refine ALp.upto fs.length (fun m => seen fs m) (fun m => ⟨dn 131 [(0, .ag [.im (.int .i64 5), .im (.int .i64 0), .im (.int .i64 0), .sl [] .ro, .sl (fs.map fdV) .ro]), (1, .pt 0 0), (4, (.im (.int .i64 (0)))), (5, (.im (.bool (true)))), (84, .sl (fs.map fdV) .ro), (85, (.im (.int .i64 (fs.length)))), (86, (.im (.int .i64 (((m : Nat) : Int)))))], ofl [.box [.im (.int .i64 5), .im (.int .i64 0), .im (.int .i64 0), .sl [] .ro, .sl (fs.map fdV) .ro]]⟩) ?_ 0 (Nat.zero_le _) (fun j _ hj => absurd hj (Nat.not_lt_zero _))
    intro m hm hI hnext
    by_cases hlt : m < fs.length
    · have hlt' : (m : Int) < (fs.length : Int) := by omega
      have hg := get_some hlt
      have hm1 := wrap_succ hlt (by omega)
      have hk := fok_iff hlt
      by_cases a1 : fs[m].off < 0
      · rw [frm_unseen hlt (fun h => by have := hk.1 h.1; omega)]
        refine wdG Y99_B3 (AI (@G99_B3) (AI hlt' (AI hg (AI hm1 a1)))) ?_
        exact Fin.oneP
      by_cases a2 : fs[m].off ≥ 65536
      · rw [frm_unseen hlt (fun h => by have := hk.1 h.1; omega)]
        refine wdG Y99_B3 (AI (@G99_B3) (AI hlt' (AI hg (AI hm1 (AI a1 a2))))) ?_
        exact Fin.oneP
      have hc := hF fs[m] (List.getElem_mem hlt) (hfF _ (List.getElem_mem hlt))
      by_cases a3 : (m : Int) > 0
      · have hg2 := get_some (l := fs) (m := m - 1) (by omega)
        have hp : IntKind.i64.wrap ((m : Int) - 1) = ((m - 1 : Nat) : Int) := by rw [wrap_in (by omega)]; omega
        by_cases a4 : fs[m].off ≤ (fs[m - 1]'(by omega)).off
        · rw [frm_unseen hlt (fun h => by have := hk.1 h.1; omega)]
          refine wdG Y99_B3 (AI (@G99_B3) (AI hlt' (AI hg (AI hm1 (AI a1 (AI a2 (AI a3 (AI hg2 (AI hp a4))))))))) ?_
          exact Fin.oneP
        · have hk2 : fok fs m = true := hk.2 (by omega)
          refine wdG Y99_B3 (AI (@G99_B3) (AI hlt' (AI hg (AI hm1 (AI a1 (AI a2 (AI a3 (AI hg2 (AI hp a4))))))))) ?_
          by_cases b : frm fs[m] = true
          · rw [b] at hc
            refine AR.callP hc @tyV_eq True.intro ?_
            refine goG Y99_B3 @G99_B3 ?_
            refine wdG Y99_B3 (AI (@G99_B3) hm1) ?_
            refine ALp.cutP 1 [(0, .ag [.im (.int .i64 5), .im (.int .i64 0), .im (.int .i64 0), .sl [] .ro, .sl (fs.map fdV) .ro]), (1, .pt 0 0), (4, (.im (.int .i64 (0)))), (5, (.im (.bool (true)))), (84, .sl (fs.map fdV) .ro), (85, (.im (.int .i64 (fs.length)))), (86, (.im (.int .i64 (((m + 1 : Nat) : Int)))))] [.box [.im (.int .i64 5), .im (.int .i64 0), .im (.int .i64 0), .sl [] .ro, .sl (fs.map fdV) .ro]] True.intro ?_
            exact hnext (m + 1) (by omega) (by omega) (hI.succ hlt hk2 b)
          · rw [frm_unseen hlt (fun h => b h.2)]
            rw [Bool.eq_false_iff.2 b] at hc
            refine AR.callP hc @tyV_eq True.intro ?_
            refine goG Y99_B3 @G99_B3 ?_
            refine wdG Y99_B3 (AI (@G99_B3) hm1) ?_
            exact Fin.oneP
      · have hk2 : fok fs m = true := hk.2 (by omega)
        refine wdG Y99_B3 (AI (@G99_B3) (AI hlt' (AI hg (AI hm1 (AI a1 (AI a2 a3)))))) ?_
        by_cases b : frm fs[m] = true
        · rw [b] at hc
          refine AR.callP hc @tyV_eq True.intro ?_
          refine goG Y99_B3 @G99_B3 ?_
          refine wdG Y99_B3 (AI (@G99_B3) hm1) ?_
          refine ALp.cutP 1 [(0, .ag [.im (.int .i64 5), .im (.int .i64 0), .im (.int .i64 0), .sl [] .ro, .sl (fs.map fdV) .ro]), (1, .pt 0 0), (4, (.im (.int .i64 (0)))), (5, (.im (.bool (true)))), (84, .sl (fs.map fdV) .ro), (85, (.im (.int .i64 (fs.length)))), (86, (.im (.int .i64 (((m + 1 : Nat) : Int)))))] [.box [.im (.int .i64 5), .im (.int .i64 0), .im (.int .i64 0), .sl [] .ro, .sl (fs.map fdV) .ro]] True.intro ?_
          exact hnext (m + 1) (by omega) (by omega) (hI.succ hlt hk2 b)
        · rw [frm_unseen hlt (fun h => b h.2)]
          rw [Bool.eq_false_iff.2 b] at hc
          refine AR.callP hc @tyV_eq True.intro ?_
          refine goG Y99_B3 @G99_B3 ?_
          refine wdG Y99_B3 (AI (@G99_B3) hm1) ?_
          exact Fin.oneP
    · obtain rfl : m = fs.length := by omega
      have hlt' : ¬ (fs.length : Int) < (fs.length : Int) := by omega
      clear hnext
      have e : frm (.mk o 5 0 0 [] fs) = true := by
        rw [frm_mk, show base 5 0 0 ([] : List Ty).length fs.length = true from by simp [base]]
        simpa using hI.done
      rw [e]
      refine wdG Y99_B3 (AI (@G99_B3) hlt') ?_
      exact Fin.oneP
set_option maxRecDepth 100000 in
set_option maxHeartbeats 2000000 in
theorem c_formed : ∀ (t : Ty), fit t → PC Tryz.prog 99 [tyV t] (.im (.bool (frm t))) := by
  refine Ty.induct fun o k s c es fs hE hF => ?_
  intro hfit
  obtain ⟨hl1, hl2, hfE, hfF⟩ := fit_mk hfit
  by_cases k5 : k = 5
  · subst k5
    exact formed5 hF hfit
  refine PC.enter 131 Tryz.func99 rfl (by decide) rfl rfl (s := [(0, tyV (.mk o k s c es fs))]) (by rfl) ?_
  simp only [tyV_mk]
  by_cases k0 : k = 0 ∨ k = 6
  · rcases k0 with rfl | rfl
    all_goals
      refine wdG Y99_B3 @G99_B3 ?_
      refine AWp.condA rfl rfl (fun h => ?_) (fun h => ?_)
      · rw [frm_bad (by simp [base, -List.length_eq_zero_iff] at h ⊢; omega)]
        refine wG Y99_B3 @G99_B3 ?_
        exact Fin.oneP
      · obtain ⟨rfl, rfl, he, hf⟩ : s = 0 ∧ c = 0 ∧ es.length = 0 ∧ fs.length = 0 := by simp [-List.length_eq_zero_iff] at h; omega
        obtain rfl := List.length_eq_zero_iff.1 he
        obtain rfl := List.length_eq_zero_iff.1 hf
        rw [frm_of (by decide) rfl]
        refine wdG Y99_B3 @G99_B3 ?_
        refine AWp.loop (ALp.round ?_)
        refine wG Y99_B3 @G99_B3 ?_
        exact Fin.oneP
  by_cases k1 : k = 1 ∨ k = 2
  · rcases k1 with rfl | rfl
    all_goals
      refine wdG Y99_B3 @G99_B3 ?_
      refine AWp.condA rfl rfl (fun h => ?_) (fun h => ?_)
      · rw [frm_bad (by simp [base, -List.length_eq_zero_iff] at h ⊢; omega)]
        refine wG Y99_B3 @G99_B3 ?_
        exact Fin.oneP
      · have hs : s = 1 ∨ s = 2 ∨ s = 4 := by simp [-List.length_eq_zero_iff] at h; omega
        refine wdG Y99_B3 @G99_B3 ?_
        refine AWp.condA rfl rfl (fun h => ?_) (fun h => ?_)
        · rw [frm_bad (by simp [base, -List.length_eq_zero_iff] at h ⊢; omega)]
          refine wG Y99_B3 @G99_B3 ?_
          exact Fin.oneP
        · obtain ⟨rfl, he, hf⟩ : c = 0 ∧ es.length = 0 ∧ fs.length = 0 := by simp [-List.length_eq_zero_iff] at h; omega
          obtain rfl := List.length_eq_zero_iff.1 he
          obtain rfl := List.length_eq_zero_iff.1 hf
          rw [frm_of (by simp [base, -List.length_eq_zero_iff]; omega) rfl]
          refine wdG Y99_B3 @G99_B3 ?_
          refine AWp.loop (ALp.round ?_)
          refine wG Y99_B3 @G99_B3 ?_
          exact Fin.oneP
  by_cases k3 : k = 3
  · subst k3
    refine wdG Y99_B3 @G99_B3 ?_
    refine AWp.condA rfl rfl (fun h => ?_) (fun h => ?_)
    · rw [frm_bad (by simp [base, -List.length_eq_zero_iff] at h ⊢; omega)]
      refine wG Y99_B3 @G99_B3 ?_
      exact Fin.oneP
    · obtain ⟨rfl, rfl, he, hf⟩ : s = 0 ∧ c = 0 ∧ es.length = 1 ∧ fs.length = 0 := by simp [-List.length_eq_zero_iff] at h; omega
      obtain ⟨x, rfl⟩ := List.length_eq_one_iff.1 he
      obtain rfl := List.length_eq_zero_iff.1 hf
      have hc := hE x (by simp) (hfE x (by simp))
      rw [frm_of (by simp [base]) rfl]
      refine wdG Y99_B3 @G99_B3 ?_
      refine AWp.loop (ALp.round ?_)
      refine wdG Y99_B3 @G99_B3 ?_
      refine AR.callP hc @tyV_eq True.intro ?_
      refine goG Y99_B3 @G99_B3 ?_
      simp only [List.all_cons, List.all_nil, Bool.and_true]
      refine wdG Y99_B3 @G99_B3 ?_
      exact Fin.oneP
  by_cases k4 : k = 4
  · subst k4
    refine wdG Y99_B3 @G99_B3 ?_
    refine AWp.condA rfl rfl (fun h => ?_) (fun h => ?_)
    · rw [frm_bad (by simp [base, -List.length_eq_zero_iff] at h ⊢; omega)]
      refine wG Y99_B3 @G99_B3 ?_
      exact Fin.oneP
    · have hs : 1 ≤ c ∧ c ≤ 65536 := by simp [-List.length_eq_zero_iff] at h; omega
      refine wdG Y99_B3 @G99_B3 ?_
      refine AWp.condA rfl rfl (fun h => ?_) (fun h => ?_)
      · rw [frm_bad (by simp [base, -List.length_eq_zero_iff] at h ⊢; omega)]
        refine wG Y99_B3 @G99_B3 ?_
        exact Fin.oneP
      · obtain ⟨rfl, he, hf⟩ : s = 0 ∧ es.length = 1 ∧ fs.length = 0 := by simp [-List.length_eq_zero_iff] at h; omega
        obtain ⟨x, rfl⟩ := List.length_eq_one_iff.1 he
        obtain rfl := List.length_eq_zero_iff.1 hf
        have hc := hE x (by simp) (hfE x (by simp))
        rw [frm_of (by simp [base, -List.length_eq_zero_iff]; omega) rfl]
        refine wdG Y99_B3 @G99_B3 ?_
        refine AWp.loop (ALp.round ?_)
        refine wdG Y99_B3 @G99_B3 ?_
        refine AR.callP hc @tyV_eq True.intro ?_
        refine goG Y99_B3 @G99_B3 ?_
        simp only [List.all_cons, List.all_nil, Bool.and_true]
        refine wdG Y99_B3 @G99_B3 ?_
        exact Fin.oneP
  have k6 : ¬ k = 6 := by omega
  have k2 : ¬ k = 2 := by omega
  replace k0 : ¬ k = 0 := by omega
  replace k1 : ¬ k = 1 := by omega
  rw [frm_bad (by simp [base, k0, k1, k2, k3, k4, k5, k6])]
  refine wdG Y99_B3 (AI (@G99_B3) (AI k0 (AI k1 (AI k2 (AI k3 (AI k4 (AI k5 k6))))))) ?_
  exact Fin.oneP
end Go.Proofs.YtfggemopnlffeaaGreat
namespace Go.Proofs.YtfggemopnlffeaaGreat
set_option linter.unusedSimpArgs false
set_option linter.unusedVariables false
set_option linter.unnecessarySimpa false
open Go.RowKit
theorem frm_flat {o k s c : Int} {es fs : List Ty} {b : Bool} (hb : base k s c es.length fs.length = b) (h : b = true → es = [] ∧ fs = []) : frm (.mk o k s c es fs) = b := by
  cases b with
  | false => exact frm_bad hb
  | true =>
    obtain ⟨rfl, rfl⟩ := h rfl
    rw [frm_of hb rfl]
    rfl
theorem seen_no {fs : List Ty} {m : Nat} (hm : m < fs.length) (h : ¬ (fok fs m = true ∧ frm fs[m] = true)) : (asc fs && fs.all frm) = false := unseen hm h
theorem num_eq (n m : Nat) : decide ((n : Int) = (m : Int)) = decide (n = m) := by
  by_cases h : n = m
  · subst h; simp
  · simp [h]; omega
theorem Y125_B4 : type_of% (AI @F_ag_3 (AI @F_ag_41 (AI @F_el_39 (AI @F_fl_64_0 (AI @F_fl_64_1 (AI @F_sz_3 (AI @F_sz_41 (@F_sz_64)))))))) := AI @F_ag_3 (AI @F_ag_41 (AI @F_el_39 (AI @F_fl_64_0 (AI @F_fl_64_1 (AI @F_sz_3 (AI @F_sz_41 (@F_sz_64)))))))
theorem G125_B4 : type_of% (AI (@tyV_firm) (AI (@fdV_firm) (AI (@tyV_strip) (AI (@fdV_strip) (AI (@tyV_live) (AI (@tyV_size) (AI (@tyV_isAg) (AI (@tyV_cells) (AI (@fdV_live) (AI (@fdV_size) (AI (@fdV_isAg) (AI (@fdV_cells) (AI (@List.getElem?_map.{0, 0}) @Int.natCast_nonneg))))))))))))) := (AI (@tyV_firm) (AI (@fdV_firm) (AI (@tyV_strip) (AI (@fdV_strip) (AI (@tyV_live) (AI (@tyV_size) (AI (@tyV_isAg) (AI (@tyV_cells) (AI (@fdV_live) (AI (@fdV_size) (AI (@fdV_isAg) (AI (@fdV_cells) (AI (@List.getElem?_map.{0, 0}) @Int.natCast_nonneg)))))))))))))
set_option maxRecDepth 100000 in
set_option maxHeartbeats 1000000 in
theorem c_areFormed {fs : List Ty} {f : FuncId} (hf : f = 109) (hl2 : fs.length ≤ 4194304) (hF : ∀ t ∈ fs, PC Tryz.prog f [tyV t] (.im (.bool (frm t)))) : PC Tryz.prog 125 [.sl (fs.map fdV) .ro] (.im (.bool (asc fs && fs.all frm))) := by
  subst hf
  refine PC.enter 51 Tryz.func125 rfl (by decide) rfl rfl (s := [(0, .sl (fs.map fdV) .ro)]) (by rfl) ?_
  refine wdG Y125_B4 @G125_B4 ?_
  refine AWp.loop ?_
  refine ALp.cutP 0 [(0, .sl (fs.map fdV) .ro), (2, (.im (.bool (false)))), (3, (.im (.int .i64 (((0 : Nat) : Int)))))] [] True.intro ?_
  refine ALp.upto fs.length (fun m => seen fs m) (fun m => ⟨dn 51 [(0, .sl (fs.map fdV) .ro), (2, (.im (.bool (false)))), (3, (.im (.int .i64 (((m : Nat) : Int)))))], ofl []⟩) ?_ 0 (Nat.zero_le _) (fun j _ hj => absurd hj (Nat.not_lt_zero _))
  intro m hm hI hnext
  by_cases hlt : m < fs.length
  · have hlt' : (m : Int) < (fs.length : Int) := by omega
    have hg := get_some hlt
    have hm1 := wrap_succ hlt (by omega)
    have hk := fok_iff hlt
    by_cases a1 : fs[m].off < 0
    · rw [seen_no hlt (fun h => by have := hk.1 h.1; omega)]
      refine wdG Y125_B4 (AI (@G125_B4) (AI hlt' (AI hg (AI hm1 a1)))) ?_
      exact Fin.oneP
    by_cases a2 : fs[m].off ≥ 65536
    · rw [seen_no hlt (fun h => by have := hk.1 h.1; omega)]
      refine wdG Y125_B4 (AI (@G125_B4) (AI hlt' (AI hg (AI hm1 (AI a1 a2))))) ?_
      exact Fin.oneP
    have hc := hF fs[m] (List.getElem_mem hlt)
    by_cases a3 : (m : Int) > 0
    · have hg2 := get_some (l := fs) (m := m - 1) (by omega)
      have hp : IntKind.i64.wrap ((m : Int) - 1) = ((m - 1 : Nat) : Int) := by rw [wrap_in (by omega)]; omega
      by_cases a4 : fs[m].off ≤ (fs[m - 1]'(by omega)).off
      · rw [seen_no hlt (fun h => by have := hk.1 h.1; omega)]
        refine wdG Y125_B4 (AI (@G125_B4) (AI hlt' (AI hg (AI hm1 (AI a1 (AI a2 (AI a3 (AI hg2 (AI hp a4))))))))) ?_
        exact Fin.oneP
      · have hk2 : fok fs m = true := hk.2 (by omega)
        refine wdG Y125_B4 (AI (@G125_B4) (AI hlt' (AI hg (AI hm1 (AI a1 (AI a2 (AI a3 (AI hg2 (AI hp a4))))))))) ?_
        by_cases b : frm fs[m] = true
        · rw [b] at hc
          refine AR.callP hc @tyV_eq True.intro ?_
          refine goG Y125_B4 @G125_B4 ?_
          refine wdG Y125_B4 (AI (@G125_B4) hm1) ?_
          refine ALp.cutP 0 [(0, .sl (fs.map fdV) .ro), (2, (.im (.bool (false)))), (3, (.im (.int .i64 (((m + 1 : Nat) : Int)))))] [] True.intro ?_
          exact hnext (m + 1) (by omega) (by omega) (hI.succ hlt hk2 b)
        · rw [seen_no hlt (fun h => b h.2)]
          rw [Bool.eq_false_iff.2 b] at hc
          refine AR.callP hc @tyV_eq True.intro ?_
          refine goG Y125_B4 @G125_B4 ?_
          refine wdG Y125_B4 (AI (@G125_B4) hm1) ?_
          exact Fin.oneP
    · have hk2 : fok fs m = true := hk.2 (by omega)
      refine wdG Y125_B4 (AI (@G125_B4) (AI hlt' (AI hg (AI hm1 (AI a1 (AI a2 a3)))))) ?_
      by_cases b : frm fs[m] = true
      · rw [b] at hc
        refine AR.callP hc @tyV_eq True.intro ?_
        refine goG Y125_B4 @G125_B4 ?_
        refine wdG Y125_B4 (AI (@G125_B4) hm1) ?_
        refine ALp.cutP 0 [(0, .sl (fs.map fdV) .ro), (2, (.im (.bool (false)))), (3, (.im (.int .i64 (((m + 1 : Nat) : Int)))))] [] True.intro ?_
        exact hnext (m + 1) (by omega) (by omega) (hI.succ hlt hk2 b)
      · rw [seen_no hlt (fun h => b h.2)]
        rw [Bool.eq_false_iff.2 b] at hc
        refine AR.callP hc @tyV_eq True.intro ?_
        refine goG Y125_B4 @G125_B4 ?_
        refine wdG Y125_B4 (AI (@G125_B4) hm1) ?_
        exact Fin.oneP
  · obtain rfl : m = fs.length := by omega
    have hlt' : ¬ (fs.length : Int) < (fs.length : Int) := by omega
    clear hnext
    rw [hI.done]
    refine wdG Y125_B4 (AI (@G125_B4) hlt') ?_
    exact Fin.oneP
theorem Y109_B4 : type_of% (AI @F_ag_3 (AI @F_ag_38 (AI @F_ag_39 (AI @F_ag_41 (AI @F_el_38 (AI @F_el_39 (AI @F_fl_41_0 (AI @F_fl_41_1 (AI @F_fl_41_2 (AI @F_fl_41_3 (AI @F_fl_41_4 (AI @F_sz_3 (AI @F_sz_38 (AI @F_sz_39 (AI @F_sz_41 (@F_sz_64)))))))))))))))) := AI @F_ag_3 (AI @F_ag_38 (AI @F_ag_39 (AI @F_ag_41 (AI @F_el_38 (AI @F_el_39 (AI @F_fl_41_0 (AI @F_fl_41_1 (AI @F_fl_41_2 (AI @F_fl_41_3 (AI @F_fl_41_4 (AI @F_sz_3 (AI @F_sz_38 (AI @F_sz_39 (AI @F_sz_41 (@F_sz_64)))))))))))))))
theorem G109_B4 : type_of% (AI (@tyV_firm) (AI (@fdV_firm) (AI (@tyV_strip) (AI (@fdV_strip) (AI (@tyV_live) (AI (@tyV_size) (AI (@tyV_isAg) (AI (@tyV_cells) (AI (@fdV_live) (AI (@fdV_size) (AI (@fdV_isAg) (AI (@fdV_cells) (AI (@List.getElem?_map.{0, 0}) @Int.natCast_nonneg))))))))))))) := (AI (@tyV_firm) (AI (@fdV_firm) (AI (@tyV_strip) (AI (@fdV_strip) (AI (@tyV_live) (AI (@tyV_size) (AI (@tyV_isAg) (AI (@tyV_cells) (AI (@fdV_live) (AI (@fdV_size) (AI (@fdV_isAg) (AI (@fdV_cells) (AI (@List.getElem?_map.{0, 0}) @Int.natCast_nonneg)))))))))))))
set_option maxRecDepth 100000 in
set_option maxHeartbeats 2000000 in
theorem c_isFormed : ∀ (t : Ty), fit t → PC Tryz.prog 109 [tyV t] (.im (.bool (frm t))) := by
  refine Ty.induct fun o k s c es fs hE hF => ?_
  intro hfit
  obtain ⟨hl1, hl2, hfE, hfF⟩ := fit_mk hfit
  have hA := c_areFormed rfl hl2 (fun t ht => hF t ht (hfF t ht))
  have nil : ∀ {l : List Ty}, (l.length : Int) = 0 → l = [] := fun h => List.length_eq_zero_iff.1 (by omega)
  refine PC.enter 133 Tryz.func109 rfl (by decide) rfl rfl (s := [(0, tyV (.mk o k s c es fs))]) (by rfl) ?_
  simp only [tyV_mk]
  by_cases k0 : k = 0 ∨ k = 6
  · rw [frm_flat (b := decide (c = 0) && decide ((es.length : Int) = 0) && decide ((fs.length : Int) = 0) && decide (s = 0)) (by rcases k0 with rfl | rfl <;> (rw [Bool.eq_iff_iff]; simp [base, -List.length_eq_zero_iff]; omega)) (fun h => by simp only [Bool.and_eq_true, decide_eq_true_eq] at h; exact ⟨nil h.1.1.2, nil h.1.2⟩)]
    rcases k0 with rfl | rfl
    all_goals
      refine wdG Y109_B4 @G109_B4 ?_
      exact Fin.oneP
  by_cases k1 : k = 1 ∨ k = 2
  · rw [frm_flat (b := decide (c = 0) && decide ((es.length : Int) = 0) && decide ((fs.length : Int) = 0) && (decide (s = 1) || decide (s = 2) || decide (s = 4))) (by rcases k1 with rfl | rfl <;> (rw [Bool.eq_iff_iff]; simp [base, -List.length_eq_zero_iff]; omega)) (fun h => by simp only [Bool.and_eq_true, decide_eq_true_eq] at h; exact ⟨nil h.1.1.2, nil h.1.2⟩)]
    rcases k1 with rfl | rfl
    all_goals
      refine wdG Y109_B4 @G109_B4 ?_
      exact Fin.oneP
  have k6 : ¬ k = 6 := by omega
  have k2 : ¬ k = 2 := by omega
  replace k0 : ¬ k = 0 := by omega
  replace k1 : ¬ k = 1 := by omega
  by_cases k3 : k = 3
  · subst k3
    cases h : (decide (s = 0) && decide (c = 0) && decide ((fs.length : Int) = 0) && decide ((es.length : Int) = 1)) with
    | false =>
      rw [frm_bad (by rw [Bool.eq_false_iff] at h ⊢; simp [base, -List.length_eq_zero_iff] at h ⊢; omega)]
      refine wdG Y109_B4 (AI (@G109_B4) h) ?_
      exact Fin.oneP
    | true =>
      simp only [Bool.and_eq_true, decide_eq_true_eq] at h
      obtain ⟨⟨⟨rfl, rfl⟩, hf⟩, he⟩ := h
      obtain rfl := nil hf
      obtain ⟨x, rfl⟩ := List.length_eq_one_iff.1 (show es.length = 1 by omega)
      have hc := hE x (by simp) (hfE x (by simp))
      rw [frm_of (by simp [base]) rfl]
      refine wdG Y109_B4 @G109_B4 ?_
      refine AR.callP hc @tyV_eq True.intro ?_
      refine goG Y109_B4 @G109_B4 ?_
      simp only [List.all_cons, List.all_nil, Bool.and_true]
      refine wdG Y109_B4 @G109_B4 ?_
      exact Fin.oneP
  by_cases k4 : k = 4
  · subst k4
    cases h : (decide (s = 0) && decide (c ≥ 1) && decide (c ≤ 65536) && decide ((fs.length : Int) = 0) && decide ((es.length : Int) = 1)) with
    | false =>
      rw [frm_bad (by rw [Bool.eq_false_iff] at h ⊢; simp [base, -List.length_eq_zero_iff] at h ⊢; omega)]
      refine wdG Y109_B4 (AI (@G109_B4) h) ?_
      exact Fin.oneP
    | true =>
      simp only [Bool.and_eq_true, decide_eq_true_eq] at h
      obtain ⟨⟨⟨⟨rfl, h1⟩, h2⟩, hf⟩, he⟩ := h
      obtain rfl := nil hf
      obtain ⟨x, rfl⟩ := List.length_eq_one_iff.1 (show es.length = 1 by omega)
      have hc := hE x (by simp) (hfE x (by simp))
      rw [frm_of (by simp [base]; omega) rfl]
      refine wdG Y109_B4 (AI (@G109_B4) (AI h1 h2)) ?_
      refine AR.callP hc @tyV_eq True.intro ?_
      refine goG Y109_B4 @G109_B4 ?_
      simp only [List.all_cons, List.all_nil, Bool.and_true]
      refine wdG Y109_B4 @G109_B4 ?_
      exact Fin.oneP
  by_cases k5 : k = 5
  · subst k5
    cases h : (decide (s = 0) && decide (c = 0) && decide ((es.length : Int) = 0)) with
    | false =>
      rw [frm_bad (by rw [Bool.eq_false_iff] at h ⊢; simp [base, -List.length_eq_zero_iff] at h ⊢; omega)]
      refine wdG Y109_B4 (AI (@G109_B4) h) ?_
      exact Fin.oneP
    | true =>
      simp only [Bool.and_eq_true, decide_eq_true_eq] at h
      obtain ⟨⟨rfl, rfl⟩, he⟩ := h
      obtain rfl := nil he
      have e : frm (.mk o 5 0 0 [] fs) = (asc fs && fs.all frm) := by
        rw [frm_mk, show base 5 0 0 ([] : List Ty).length fs.length = true from by simp [base]]
        simp
      rw [e]
      refine wdG Y109_B4 @G109_B4 ?_
      refine AR.callP hA @tyV_eq True.intro ?_
      refine goG Y109_B4 @G109_B4 ?_
      refine wdG Y109_B4 @G109_B4 ?_
      exact Fin.oneP
  rw [frm_bad (by simp [base, k0, k1, k2, k3, k4, k5, k6])]
  refine wdG Y109_B4 (AI (@G109_B4) (AI k0 (AI k1 (AI k2 (AI k3 (AI k4 (AI k5 k6))))))) ?_
  exact Fin.oneP
end Go.Proofs.YtfggemopnlffeaaGreat
namespace Go.Proofs.YtfggemopnlffeaaGreat
set_option linter.unusedSimpArgs false
set_option linter.unusedVariables false
set_option linter.unnecessarySimpa false
open Go.RowKit
theorem base_one {k s c : Int} {ne nf : Nat} (h : base k s c ne nf = true) : ne = 0 ∨ ne = 1 := by
  rcases base_cases h with h | h | h | h | h <;> omega
theorem Y100_B5 : type_of% (AI @F_ag_38 (AI @F_ag_39 (AI @F_ag_41 (AI @F_ag_64 (AI @F_al_64 (AI @F_el_38 (AI @F_el_39 (AI @F_fl_41_3 (AI @F_fl_41_4 (AI @F_fl_64_1 (AI @F_sz_38 (AI @F_sz_39 (AI @F_sz_41 (@F_sz_64)))))))))))))) := AI @F_ag_38 (AI @F_ag_39 (AI @F_ag_41 (AI @F_ag_64 (AI @F_al_64 (AI @F_el_38 (AI @F_el_39 (AI @F_fl_41_3 (AI @F_fl_41_4 (AI @F_fl_64_1 (AI @F_sz_38 (AI @F_sz_39 (AI @F_sz_41 (@F_sz_64)))))))))))))
theorem G100_B5 : type_of% (AI (@tyV_firm) (AI (@fdV_firm) (AI (@tyV_strip) (AI (@fdV_strip) (AI (@tyV_live) (AI (@tyV_size) (AI (@tyV_isAg) (AI (@tyV_cells) (AI (@fdV_live) (AI (@fdV_size) (AI (@fdV_isAg) (AI (@fdV_cells) (AI (@List.getElem?_map.{0, 0}) @Int.natCast_nonneg))))))))))))) := (AI (@tyV_firm) (AI (@fdV_firm) (AI (@tyV_strip) (AI (@fdV_strip) (AI (@tyV_live) (AI (@tyV_size) (AI (@tyV_isAg) (AI (@tyV_cells) (AI (@fdV_live) (AI (@fdV_size) (AI (@fdV_isAg) (AI (@fdV_cells) (AI (@List.getElem?_map.{0, 0}) @Int.natCast_nonneg)))))))))))))
set_option maxHeartbeats 1000000 in
theorem c_within : ∀ (t : Ty), fit t → frm t = true → PC Tryz.prog 100 [tyV t] (.im (.bool (wit t))) := by
  refine Ty.induct fun o k s c es fs hE hF => ?_
  intro hfit hfrm
  obtain ⟨hl1, hl2, hfE, hfF⟩ := fit_mk hfit
  obtain ⟨hb, hof, hfs, hes⟩ := frm_inv hfrm
  have hs := c_size _ hfit hfrm
  refine PC.enter 37 Tryz.func100 rfl (by decide) rfl rfl (s := [(0, tyV (.mk o k s c es fs))]) (by rfl) ?_
  simp only [tyV_mk]
  by_cases h1 : (fs.length : Int) > 64
  · have e : wit (.mk o k s c es fs) = false := by rw [wit_mk]; simp; omega
    rw [e]
    refine wG Y100_B5 (AI (@G100_B5) h1) ?_
    exact Fin.oneP
  refine wG Y100_B5 (AI (@G100_B5) h1) ?_
  refine AR.callP hs @tyV_mk True.intro ?_
  by_cases h2 : siz (.mk o k s c es fs) > 65536
  · have e : wit (.mk o k s c es fs) = false := by rw [wit_mk]; simp; omega
    rw [e]
    refine goG Y100_B5 (AI (@G100_B5) (AI h1 h2)) ?_
    refine wG Y100_B5 @G100_B5 ?_
    exact Fin.oneP
  refine goG Y100_B5 (AI (@G100_B5) (AI h1 h2)) ?_
  have e0 : wit (.mk o k s c es fs) = (fs.all wit && es.all wit) := by
    rw [wit_mk]
    have a1 : decide (fs.length ≤ 64) = true := by simp; omega
    have a2 : decide (siz (.mk o k s c es fs) ≤ 65536) = true := by simp; omega
    rw [a1, a2]
    simp
  rw [e0]
  clear hs h2 e0
  refine wG Y100_B5 @G100_B5 ?_
  refine AWp.loop ?_
  refine ALp.cutP 1 [(0, .ag [.im (.int .i64 k), .im (.int .i64 s), .im (.int .i64 c), .sl (es.map tyV) .ro, .sl (fs.map fdV) .ro]), (1, .pt 0 0), (15, .sl (fs.map fdV) .ro), (16, (.im (.int .i64 (fs.length)))), (17, (.im (.int .i64 ((((0 : Nat)) : Int)))))] [.box [.im (.int .i64 k), .im (.int .i64 s), .im (.int .i64 c), .sl (es.map tyV) .ro, .sl (fs.map fdV) .ro]] True.intro ?_
  refine ALp.upto fs.length (AllTo wit fs) (fun m => ⟨dn 37 [(0, .ag [.im (.int .i64 k), .im (.int .i64 s), .im (.int .i64 c), .sl (es.map tyV) .ro, .sl (fs.map fdV) .ro]), (1, .pt 0 0), (15, .sl (fs.map fdV) .ro), (16, (.im (.int .i64 (fs.length)))), (17, (.im (.int .i64 ((((m : Nat)) : Int)))))], ofl [.box [.im (.int .i64 k), .im (.int .i64 s), .im (.int .i64 c), .sl (es.map tyV) .ro, .sl (fs.map fdV) .ro]]⟩) ?_ 0 (Nat.zero_le _) (AllTo.zero _ _)
  intro m hm hI hnext
  by_cases hlt : m < fs.length
  · have hlt' : (m : Int) < (fs.length : Int) := by omega
    have hg := get_some hlt
    have hm1 := wrap_succ hlt (by omega)
    have hc := hF fs[m] (List.getElem_mem hlt) (hfF _ (List.getElem_mem hlt)) (hfs _ (List.getElem_mem hlt))
    refine wG Y100_B5 (AI (@G100_B5) (AI hlt' (AI hg hm1))) ?_
    by_cases b : wit fs[m] = true
    · rw [b] at hc
      refine AR.callP hc @tyV_eq True.intro ?_
      refine goG Y100_B5 @G100_B5 ?_
      refine wG Y100_B5 (AI (@G100_B5) hm1) ?_
      refine ALp.cutP 1 [(0, .ag [.im (.int .i64 k), .im (.int .i64 s), .im (.int .i64 c), .sl (es.map tyV) .ro, .sl (fs.map fdV) .ro]), (1, .pt 0 0), (15, .sl (fs.map fdV) .ro), (16, (.im (.int .i64 (fs.length)))), (17, (.im (.int .i64 ((((m + 1 : Nat)) : Int)))))] [.box [.im (.int .i64 k), .im (.int .i64 s), .im (.int .i64 c), .sl (es.map tyV) .ro, .sl (fs.map fdV) .ro]] True.intro ?_
      exact hnext (m + 1) (by omega) (by omega) (hI.succ hlt b)
    · have b : wit fs[m] = false := by simpa using b
      rw [b] at hc
      refine AR.callP hc @tyV_eq True.intro ?_
      refine goG Y100_B5 @G100_B5 ?_
      refine wG Y100_B5 (AI (@G100_B5) hm1) ?_
      rw [not_all_of hlt b, Bool.false_and]
      exact Fin.oneP
  · have hall := hI.done (by omega)
    have hlt' : ¬ (m : Int) < (fs.length : Int) := by omega
    clear hnext hI hm hlt
    rw [hall, Bool.true_and]
    rcases base_one hb with he | he
    · obtain rfl := List.length_eq_zero_iff.1 he
      refine wG Y100_B5 (AI (@G100_B5) hlt') ?_
      exact Fin.oneP
    · obtain ⟨x, rfl⟩ := List.length_eq_one_iff.1 he
      have hc := hE x (by simp) (hfE x (by simp)) (hes x (by simp))
      refine wG Y100_B5 (AI (@G100_B5) hlt') ?_
      refine AR.callP hc @tyV_eq True.intro ?_
      refine goG Y100_B5 @G100_B5 ?_
      simp only [List.all_cons, List.all_nil, Bool.and_true]
      refine wG Y100_B5 @G100_B5 ?_
      exact Fin.oneP
theorem Y110_B5 : type_of% (AI @F_ag_38 (AI @F_ag_39 (AI @F_ag_41 (AI @F_el_38 (AI @F_el_39 (AI @F_fl_41_3 (AI @F_fl_41_4 (AI @F_fl_64_1 (AI @F_sz_38 (AI @F_sz_39 (AI @F_sz_41 (@F_sz_64)))))))))))) := AI @F_ag_38 (AI @F_ag_39 (AI @F_ag_41 (AI @F_el_38 (AI @F_el_39 (AI @F_fl_41_3 (AI @F_fl_41_4 (AI @F_fl_64_1 (AI @F_sz_38 (AI @F_sz_39 (AI @F_sz_41 (@F_sz_64)))))))))))
theorem G110_B5 : type_of% (AI (@tyV_firm) (AI (@fdV_firm) (AI (@tyV_strip) (AI (@fdV_strip) (AI (@tyV_live) (AI (@tyV_size) (AI (@tyV_isAg) (AI (@tyV_cells) (AI (@fdV_live) (AI (@fdV_size) (AI (@fdV_isAg) (AI (@fdV_cells) (AI (@List.getElem?_map.{0, 0}) @Int.natCast_nonneg))))))))))))) := (AI (@tyV_firm) (AI (@fdV_firm) (AI (@tyV_strip) (AI (@fdV_strip) (AI (@tyV_live) (AI (@tyV_size) (AI (@tyV_isAg) (AI (@tyV_cells) (AI (@fdV_live) (AI (@fdV_size) (AI (@fdV_isAg) (AI (@fdV_cells) (AI (@List.getElem?_map.{0, 0}) @Int.natCast_nonneg)))))))))))))
set_option maxHeartbeats 1000000 in
theorem c_isLarge : ∀ (t : Ty), fit t → frm t = true → PC Tryz.prog 110 [tyV t] (.im (.bool (!wit t))) := by
  refine Ty.induct fun o k s c es fs hE hF => ?_
  intro hfit hfrm
  obtain ⟨hl1, hl2, hfE, hfF⟩ := fit_mk hfit
  obtain ⟨hb, hof, hfs, hes⟩ := frm_inv hfrm
  have hs := c_sizeR _ hfit hfrm
  refine PC.enter 41 Tryz.func110 rfl (by decide) rfl rfl (s := [(0, tyV (.mk o k s c es fs))]) (by rfl) ?_
  simp only [tyV_mk]
  refine wG Y110_B5 @G110_B5 ?_
  refine AR.callP hs @tyV_mk True.intro ?_
  by_cases h2 : siz (.mk o k s c es fs) > 65536
  · have e : wit (.mk o k s c es fs) = false := by rw [wit_mk]; simp; omega
    rw [e]
    refine goG Y110_B5 (AI (@G110_B5) h2) ?_
    refine wG Y110_B5 @G110_B5 ?_
    exact Fin.oneP
  by_cases h1 : (fs.length : Int) > 64
  · have e : wit (.mk o k s c es fs) = false := by rw [wit_mk]; simp; omega
    rw [e]
    refine goG Y110_B5 (AI (@G110_B5) (AI h1 h2)) ?_
    refine wG Y110_B5 @G110_B5 ?_
    exact Fin.oneP
  refine goG Y110_B5 (AI (@G110_B5) (AI h1 h2)) ?_
  have e0 : wit (.mk o k s c es fs) = (fs.all wit && es.all wit) := by
    rw [wit_mk]
    have a1 : decide (fs.length ≤ 64) = true := by simp; omega
    have a2 : decide (siz (.mk o k s c es fs) ≤ 65536) = true := by simp; omega
    rw [a1, a2]
    simp
  rw [e0]
  clear hs h2 e0
  refine wG Y110_B5 @G110_B5 ?_
  refine AWp.loop ?_
  refine ALp.cutP 1 [(0, .ag [.im (.int .i64 k), .im (.int .i64 s), .im (.int .i64 c), .sl (es.map tyV) .ro, .sl (fs.map fdV) .ro]), (1, .pt 0 0), (3, (.im (.int .i64 ((((0 : Nat)) : Int)))))] [.box [.im (.int .i64 k), .im (.int .i64 s), .im (.int .i64 c), .sl (es.map tyV) .ro, .sl (fs.map fdV) .ro]] True.intro ?_
  refine ALp.upto es.length (AllTo wit es) (fun m => ⟨dn 41 [(0, .ag [.im (.int .i64 k), .im (.int .i64 s), .im (.int .i64 c), .sl (es.map tyV) .ro, .sl (fs.map fdV) .ro]), (1, .pt 0 0), (3, (.im (.int .i64 ((((m : Nat)) : Int)))))], ofl [.box [.im (.int .i64 k), .im (.int .i64 s), .im (.int .i64 c), .sl (es.map tyV) .ro, .sl (fs.map fdV) .ro]]⟩) ?_ 0 (Nat.zero_le _) (AllTo.zero _ _)
  intro m hm hI hnext
  by_cases hlt : m < es.length
  · have hlt' : (m : Int) < (es.length : Int) := by omega
    have hg := get_some hlt
    have hm1 := wrap_succ hlt (by omega)
    have hc := hE es[m] (List.getElem_mem hlt) (hfE _ (List.getElem_mem hlt)) (hes _ (List.getElem_mem hlt))
    refine wG Y110_B5 (AI (@G110_B5) (AI hlt' (AI hg hm1))) ?_
    by_cases b : wit es[m] = true
    · rw [b] at hc
      refine AR.callP hc @tyV_eq True.intro ?_
      refine goG Y110_B5 @G110_B5 ?_
      refine wG Y110_B5 (AI (@G110_B5) hm1) ?_
      refine ALp.cutP 1 [(0, .ag [.im (.int .i64 k), .im (.int .i64 s), .im (.int .i64 c), .sl (es.map tyV) .ro, .sl (fs.map fdV) .ro]), (1, .pt 0 0), (3, (.im (.int .i64 ((((m + 1 : Nat)) : Int)))))] [.box [.im (.int .i64 k), .im (.int .i64 s), .im (.int .i64 c), .sl (es.map tyV) .ro, .sl (fs.map fdV) .ro]] True.intro ?_
      exact hnext (m + 1) (by omega) (by omega) (hI.succ hlt b)
    · have b : wit es[m] = false := by simpa using b
      rw [b] at hc
      refine AR.callP hc @tyV_eq True.intro ?_
      refine goG Y110_B5 @G110_B5 ?_
      refine wG Y110_B5 (AI (@G110_B5) hm1) ?_
      rw [not_all_of hlt b, Bool.and_false]
      exact Fin.oneP
  · have hall1 := hI.done (by omega)
    have hlt' : ¬ (m : Int) < (es.length : Int) := by omega
    clear hnext hI hm hlt
    rw [hall1, Bool.and_true]
    refine wG Y110_B5 (AI (@G110_B5) hlt') ?_
    clear hlt'
    refine AWp.loop ?_
    refine ALp.cutP 1 [(0, .ag [.im (.int .i64 k), .im (.int .i64 s), .im (.int .i64 c), .sl (es.map tyV) .ro, .sl (fs.map fdV) .ro]), (1, .pt 0 0), (4, (.im (.int .i64 ((((0 : Nat)) : Int)))))] [.box [.im (.int .i64 k), .im (.int .i64 s), .im (.int .i64 c), .sl (es.map tyV) .ro, .sl (fs.map fdV) .ro]] True.intro ?_
    refine ALp.upto fs.length (AllTo wit fs) (fun m => ⟨dn 41 [(0, .ag [.im (.int .i64 k), .im (.int .i64 s), .im (.int .i64 c), .sl (es.map tyV) .ro, .sl (fs.map fdV) .ro]), (1, .pt 0 0), (4, (.im (.int .i64 ((((m : Nat)) : Int)))))], ofl [.box [.im (.int .i64 k), .im (.int .i64 s), .im (.int .i64 c), .sl (es.map tyV) .ro, .sl (fs.map fdV) .ro]]⟩) ?_ 0 (Nat.zero_le _) (AllTo.zero _ _)
    intro m hm hI hnext
    by_cases hlt : m < fs.length
    · have hlt' : (m : Int) < (fs.length : Int) := by omega
      have hg := get_some hlt
      have hm1 := wrap_succ hlt (by omega)
      have hc := hF fs[m] (List.getElem_mem hlt) (hfF _ (List.getElem_mem hlt)) (hfs _ (List.getElem_mem hlt))
      refine wG Y110_B5 (AI (@G110_B5) (AI hlt' (AI hg hm1))) ?_
      by_cases b : wit fs[m] = true
      · rw [b] at hc
        refine AR.callP hc @tyV_eq True.intro ?_
        refine goG Y110_B5 @G110_B5 ?_
        refine wG Y110_B5 (AI (@G110_B5) hm1) ?_
        refine ALp.cutP 1 [(0, .ag [.im (.int .i64 k), .im (.int .i64 s), .im (.int .i64 c), .sl (es.map tyV) .ro, .sl (fs.map fdV) .ro]), (1, .pt 0 0), (4, (.im (.int .i64 ((((m + 1 : Nat)) : Int)))))] [.box [.im (.int .i64 k), .im (.int .i64 s), .im (.int .i64 c), .sl (es.map tyV) .ro, .sl (fs.map fdV) .ro]] True.intro ?_
        exact hnext (m + 1) (by omega) (by omega) (hI.succ hlt b)
      · have b : wit fs[m] = false := by simpa using b
        rw [b] at hc
        refine AR.callP hc @tyV_eq True.intro ?_
        refine goG Y110_B5 @G110_B5 ?_
        refine wG Y110_B5 (AI (@G110_B5) hm1) ?_
        rw [not_all_of hlt b]
        exact Fin.oneP
    · have hall := hI.done (by omega)
      have hlt' : ¬ (m : Int) < (fs.length : Int) := by omega
      clear hnext hI hm hlt
      rw [hall]
      refine wG Y110_B5 (AI (@G110_B5) hlt') ?_
      exact Fin.oneP
theorem i64_64 : I64 64 := by unfold I64; omega
theorem Y63_B5 : type_of% (AI @F_ag_41 (@F_sz_41)) := AI @F_ag_41 (@F_sz_41)
theorem c_check (t : Ty) (hfit : fit t) : PC Tryz.prog 63 [tyV t] (.im (.int .i64 (chk t))) := by
  have h1 := c_shallow t hfit 64 i64_64
  have h2 := c_formed t hfit
  have h3 : frm t = true → _ := c_within t hfit
  refine PC.enter 15 Tryz.func63 rfl (by decide) rfl rfl (s := [(0, tyV t)]) (by rfl) ?_
  simp only [tyV_eq]
  unfold chk
  refine wG Y63_B5 True.intro ?_
  by_cases b1 : shal t 64 = true
  case neg =>
    have b1 : shal t 64 = false := by simpa using b1
    rw [b1] at h1 ⊢
    refine AR.callP h1 @tyV_eq True.intro ?_
    refine goG Y63_B5 True.intro ?_
    refine wG Y63_B5 True.intro ?_
    exact Fin.oneP
  rw [b1] at h1 ⊢
  refine AR.callP h1 @tyV_eq True.intro ?_
  refine goG Y63_B5 True.intro ?_
  refine wG Y63_B5 True.intro ?_
  by_cases b2 : frm t = true
  case neg =>
    have b2 : frm t = false := by simpa using b2
    rw [b2] at h2 ⊢
    refine AR.callP h2 @tyV_eq True.intro ?_
    refine goG Y63_B5 True.intro ?_
    refine wG Y63_B5 True.intro ?_
    exact Fin.oneP
  have h3 := h3 b2
  rw [b2] at h2 ⊢
  refine AR.callP h2 @tyV_eq True.intro ?_
  refine goG Y63_B5 True.intro ?_
  refine wG Y63_B5 True.intro ?_
  by_cases b3 : wit t = true
  case neg =>
    have b3 : wit t = false := by simpa using b3
    rw [b3] at h3 ⊢
    refine AR.callP h3 @tyV_eq True.intro ?_
    refine goG Y63_B5 True.intro ?_
    refine wG Y63_B5 True.intro ?_
    exact Fin.oneP
  rw [b3] at h3 ⊢
  refine AR.callP h3 @tyV_eq True.intro ?_
  refine goG Y63_B5 True.intro ?_
  refine wG Y63_B5 True.intro ?_
  exact Fin.oneP
theorem Y73_B5 : type_of% (AI @F_ag_41 (@F_sz_41)) := AI @F_ag_41 (@F_sz_41)
theorem c_checkR (t : Ty) (hfit : fit t) : PC Tryz.prog 73 [tyV t] (.im (.int .i64 (chk t))) := by
  have h1 := c_isDeep t hfit 64 i64_64
  have h2 := c_isFormed t hfit
  have h3 : frm t = true → _ := c_isLarge t hfit
  refine PC.enter 10 Tryz.func73 rfl (by decide) rfl rfl (s := [(0, tyV t)]) (by rfl) ?_
  simp only [tyV_eq]
  unfold chk
  refine wG Y73_B5 True.intro ?_
  by_cases b1 : shal t 64 = true
  case neg =>
    have b1 : shal t 64 = false := by simpa using b1
    rw [b1] at h1 ⊢
    refine AR.callP h1 @tyV_eq True.intro ?_
    refine goG Y73_B5 True.intro ?_
    refine wG Y73_B5 True.intro ?_
    exact Fin.oneP
  rw [b1] at h1 ⊢
  refine AR.callP h1 @tyV_eq True.intro ?_
  refine goG Y73_B5 True.intro ?_
  refine wG Y73_B5 True.intro ?_
  by_cases b2 : frm t = true
  case neg =>
    have b2 : frm t = false := by simpa using b2
    rw [b2] at h2 ⊢
    refine AR.callP h2 @tyV_eq True.intro ?_
    refine goG Y73_B5 True.intro ?_
    refine wG Y73_B5 True.intro ?_
    exact Fin.oneP
  have h3 := h3 b2
  rw [b2] at h2 ⊢
  refine AR.callP h2 @tyV_eq True.intro ?_
  refine goG Y73_B5 True.intro ?_
  refine wG Y73_B5 True.intro ?_
  by_cases b3 : wit t = true
  case neg =>
    have b3 : wit t = false := by simpa using b3
    rw [b3] at h3 ⊢
    refine AR.callP h3 @tyV_eq True.intro ?_
    refine goG Y73_B5 True.intro ?_
    refine wG Y73_B5 True.intro ?_
    exact Fin.oneP
  rw [b3] at h3 ⊢
  refine AR.callP h3 @tyV_eq True.intro ?_
  refine goG Y73_B5 True.intro ?_
  refine wG Y73_B5 True.intro ?_
  exact Fin.oneP
theorem Y60_B5 : type_of% (AI @F_ag_41 (@F_sz_41)) := AI @F_ag_41 (@F_sz_41)
theorem c_good (t : Ty) (hfit : fit t) : PC Tryz.prog 60 [tyV t] (.im (.bool (good t))) := by
  have h1 := c_check t hfit
  refine PC.enter 6 Tryz.func60 rfl (by decide) rfl rfl (s := [(0, tyV t)]) (by rfl) ?_
  simp only [tyV_eq]
  have e : good t = decide (chk t = 0) := rfl
  rw [e]
  refine wG Y60_B5 True.intro ?_
  refine AR.callP h1 @tyV_eq True.intro ?_
  refine goG Y60_B5 True.intro ?_
  refine wG Y60_B5 True.intro ?_
  exact Fin.oneP
end Go.Proofs.YtfggemopnlffeaaGreat
