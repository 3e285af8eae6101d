/- Walks of the reference: Valid, accepted, changed, Put, Remove, Get, Undo, Redo, New, Same. -/
import Derived.Test.YtianekkfehoedaaGreatDoorHv
import Derived.Test.YtianekkfehoedaaGreatDoorRa
import Derived.Test.YtianekkfehoedaaGreatDoorEr
import Derived.Test.YtianekkfehoedaaGreatDoorK7
namespace Go.Proofs.YtianekkfehoedaaGreatDoor
set_option linter.unusedSimpArgs false
set_option linter.unusedVariables false
set_option linter.unnecessarySimpa false
open Go.RowKit
theorem Y53_Rb : type_of% (And.intro @F_ag_3 (And.intro @F_ag_9 (And.intro @F_al_100 (And.intro @F_fl_46_0 (And.intro @F_fl_46_1 (And.intro @F_fl_46_3 (And.intro @F_sz_100 (And.intro @F_sz_3 (And.intro @F_sz_9 (@F_un_9)))))))))) := And.intro @F_ag_3 (And.intro @F_ag_9 (And.intro @F_al_100 (And.intro @F_fl_46_0 (And.intro @F_fl_46_1 (And.intro @F_fl_46_3 (And.intro @F_sz_100 (And.intro @F_sz_3 (And.intro @F_sz_9 (@F_un_9)))))))))
theorem I1_Rb : type_of% (And.intro enV_id (And.intro enL_id (And.intro byL_id (And.intro lsV_id (And.intro lsL_id @tyV_id))))) := (And.intro enV_id (And.intro enL_id (And.intro byL_id (And.intro lsV_id (And.intro lsL_id @tyV_id)))))
theorem c_validR (e : En) (ht : e.text.length ≤ 65536) : PC Tryz.prog 53 [enV e] (.im (.int .i64 (valR e))) := by
  have hk := vkeyB_ref e
  have hb := fun h => vkeyB_bd (e := e) h
  have q1 := c_nameR e.text (by omega)
  have q2 := c_ParseR e.text ht
  unfold valR
  refine PC.enter 88 Tryz.func53 rfl (by decide) rfl rfl (s := [(0, enV e)]) (by rfl) ?_
  simp only [enV_eq e]
  refine wG Y53_Rb True.intro ?_
  refine AWp.condAB rfl rfl (fun hE => ?_) (fun hE => ?_)
  · rw [if_pos (hk.2 (by simp only [Bool.or_eq_true, Bool.and_eq_true, decide_eq_true_eq, Bool.not_eq_true', decide_eq_false_iff_not] at hE; omega))]
    clear hE
    refine wG Y53_Rb True.intro ?_
    exact Fin.oneP
  have hv : vkeyB e = true := by
    cases hv : vkeyB e with
    | true => rfl
    | false =>
      have h7 := hk.1 hv
      simp only [Bool.or_eq_false_iff, Bool.and_eq_false_iff, decide_eq_false_iff_not, Bool.not_eq_false', decide_eq_true_eq] at hE
      omega
  have hb := hb hv
  rw [if_neg (by rw [hv]; decide)]
  clear hE hk hv
  unfold vtextB
  by_cases k1 : e.kind = 1 ∨ e.kind = 4
  · have n2 : ¬ e.kind = 2 := by omega
    have n3 : ¬ e.kind = 3 := by omega
    rw [if_neg n2, if_neg n3]
    have hkk : (e.kind = 1) = True ∨ (e.kind = 1) = False ∧ (e.kind = 4) = True := by
      rcases k1 with h | h
      · exact .inl (eq_true h)
      · exact .inr ⟨eq_false (by omega), eq_true h⟩
    rcases hkk with f1 | ⟨f1, f4⟩
    · cases hn : nameB e.text with
      | true =>
        rw [hn] at q1
        refine wG Y53_Rb f1 ?_
        refine AR.callP q1 True.intro I1_Rb ?_
        refine goG Y53_Rb True.intro ?_
        refine wG Y53_Rb True.intro ?_
        exact Fin.oneP
      | false =>
        rw [hn] at q1
        refine wG Y53_Rb f1 ?_
        refine AR.callP q1 True.intro I1_Rb ?_
        refine goG Y53_Rb True.intro ?_
        refine wG Y53_Rb True.intro ?_
        exact Fin.oneP
    · cases hn : nameB e.text with
      | true =>
        rw [hn] at q1
        refine wG Y53_Rb (And.intro f1 f4) ?_
        refine AR.callP q1 True.intro I1_Rb ?_
        refine goG Y53_Rb True.intro ?_
        refine wG Y53_Rb True.intro ?_
        exact Fin.oneP
      | false =>
        rw [hn] at q1
        refine wG Y53_Rb (And.intro f1 f4) ?_
        refine AR.callP q1 True.intro I1_Rb ?_
        refine goG Y53_Rb True.intro ?_
        refine wG Y53_Rb True.intro ?_
        exact Fin.oneP
  have f1 : (e.kind = 1) = False := eq_false (fun h => k1 (.inl h))
  have f4 : (e.kind = 4) = False := eq_false (fun h => k1 (.inr h))
  by_cases k2 : e.kind = 2
  · rw [if_pos k2]
    have f2 : (e.kind = 2) = True := eq_true k2
    refine wG Y53_Rb (And.intro f1 (And.intro f4 f2)) ?_
    refine AWp.loop ?_
    refine ALp.cutP 1 [(1, .pt 0 0), (3, (.im (.int .i64 ((((0 : Nat)) : Int)))))] [.box [(.im (.int .i64 (e.kind))), (.im (.int .i64 (e.var))), (.im (.int .u32 (e.addr))), (.im (.string (bA (e.text))))]] I1_Rb ?_
    refine ALp.upto e.text.length (fun m => e.text.all cmC = (e.text.drop m).all cmC) (fun m => ⟨dn 88 [(1, .pt 0 0), (3, (.im (.int .i64 ((((m : Nat)) : Int)))))], ofl [.box [(.im (.int .i64 (e.kind))), (.im (.int .i64 (e.var))), (.im (.int .u32 (e.addr))), (.im (.string (bA (e.text))))]]⟩) ?_ 0 (Nat.zero_le _) rfl
    intro m hm hI hnext
    by_cases hlt : m < e.text.length
    · have hlt' : (m : Int) < (e.text.length : Int) := by omega
      have hg : e.text[m]? = some e.text[m] := List.getElem?_eq_getElem hlt
      have hg' := (bA_get47 e.text m).trans hg
      have h0 : (0 : Int) ≤ (m : Int) := by omega
      have hm1 := wrap_succ (m := m) (N := 140737488355328) (by omega) (by decide)
      rw [all_drop cmC hg] at hI
      generalize e.text[m] = c at hg' hI
      have hn := hnext (m + 1) (by omega) (by omega)
      clear hnext hg
      cases hc : cmC c with
      | true =>
        rw [hc, Bool.true_and] at hI
        have l1 : ¬ ((c.toNat : Nat) : Int) < 32 := by
          unfold cmC at hc; simp only [Bool.and_eq_true, decide_eq_true_eq] at hc; omega
        have l2 : ¬ ((c.toNat : Nat) : Int) > 126 := by
          unfold cmC at hc; simp only [Bool.and_eq_true, decide_eq_true_eq] at hc; omega
        refine wG Y53_Rb (And.intro hlt' (And.intro h0 (And.intro hg' (And.intro BAT (And.intro l1 (And.intro l2 hm1)))))) ?_
        refine ALp.cutP 1 [(1, .pt 0 0), (3, (.im (.int .i64 ((((m + 1 : Nat)) : Int)))))] [.box [(.im (.int .i64 (e.kind))), (.im (.int .i64 (e.var))), (.im (.int .u32 (e.addr))), (.im (.string (bA (e.text))))]] I1_Rb ?_
        exact hn hI
      | false =>
        rw [hc, Bool.false_and] at hI
        have hB : commB e.text = false := by unfold commB; rw [hI]; rfl
        rw [hB]
        by_cases l1 : ((c.toNat : Nat) : Int) < 32
        · refine wG Y53_Rb (And.intro hlt' (And.intro h0 (And.intro hg' (And.intro BAT l1)))) ?_
          exact Fin.oneP
        · have l2 : ((c.toNat : Nat) : Int) > 126 := by
            unfold cmC at hc; simp only [Bool.and_eq_false_iff, decide_eq_false_iff_not] at hc; omega
          refine wG Y53_Rb (And.intro hlt' (And.intro h0 (And.intro hg' (And.intro BAT (And.intro l1 l2))))) ?_
          exact Fin.oneP
    · obtain rfl : m = e.text.length := by omega
      have hlt' : ¬ (e.text.length : Int) < (e.text.length : Int) := by omega
      have hI : e.text.all cmC = true := by rw [hI, List.drop_length]; rfl
      clear hnext hlt
      unfold commB
      rw [hI]
      by_cases h1 : 1 ≤ e.text.length
      · have h1' : ¬ (e.text.length : Int) < 1 := by omega
        by_cases h2 : e.text.length ≤ 256
        · have h2' : ¬ (e.text.length : Int) > 256 := by omega
          rw [decide_eq_true h1, decide_eq_true h2]
          refine wG Y53_Rb (And.intro hlt' (And.intro h1' (And.intro h2' bA_size))) ?_
          exact Fin.oneP
        · have h2' : (e.text.length : Int) > 256 := by omega
          rw [decide_eq_true h1, decide_eq_false h2]
          refine wG Y53_Rb (And.intro hlt' (And.intro h1' (And.intro h2' bA_size))) ?_
          exact Fin.oneP
      · have h1' : (e.text.length : Int) < 1 := by omega
        rw [decide_eq_false h1]
        refine wG Y53_Rb (And.intro hlt' (And.intro h1' bA_size)) ?_
        exact Fin.oneP
  · have k3 : e.kind = 3 := by omega
    rw [if_neg k2, if_pos k3]
    generalize (psT e.text).1 = T at q2
    generalize (psT e.text).2 = E at q2 ⊢
    refine wG Y53_Rb (And.intro f1 (And.intro f4 k2)) ?_
    refine AR.callP q2 True.intro I1_Rb ?_
    refine goG Y53_Rb (And.intro (@tyV_firm) (And.intro (@fdV_firm) (And.intro (@tyV_strip) (And.intro (@fdV_strip) (And.intro (@tyV_live) (And.intro (@tyV_size) (And.intro (@tyV_isAg) (And.intro (@tyV_cells) (And.intro (@fdV_live) (And.intro (@fdV_size) (And.intro (@fdV_isAg) (And.intro (@fdV_cells) (And.intro (@List.getElem?_map.{0, 0}) @Int.natCast_nonneg))))))))))))) ?_
    by_cases h4 : E = 0
    · by_cases h5 : e.text.length ≤ 65535
      · have h5' : ¬ (e.text.length : Int) > 65535 := by omega
        rw [decide_eq_true h4, decide_eq_true h5]
        refine wG Y53_Rb (And.intro h4 (And.intro h5' bA_size)) ?_
        exact Fin.oneP
      · have h5' : (e.text.length : Int) > 65535 := by omega
        rw [decide_eq_true h4, decide_eq_false h5]
        refine wG Y53_Rb (And.intro h4 (And.intro h5' bA_size)) ?_
        exact Fin.oneP
    · rw [decide_eq_false h4]
      refine wG Y53_Rb h4 ?_
      exact Fin.oneP
theorem Y31_Rb : type_of% (And.intro @F_ag_46 (And.intro @F_el_28 (@F_sz_46))) := And.intro @F_ag_46 (And.intro @F_el_28 (@F_sz_46))
theorem c_accR (l : List En) (e : En) (h : AscE l) (hl : l.length ≤ 4194304) (ht : e.text.length ≤ 65536) : PC Tryz.prog 31 [.sl (l.map enV) .ro, enV e] (.im (.int .i64 (eErr l e))) := by
  have q1 := c_validR e ht
  have q2 := c_takenR l e hl
  have q3 := c_findR l e hl
  rw [fndR_eq h] at q3
  rw [eErr_valR]
  generalize hF : (if hasE l e = true then ((0 + posE l e : Nat) : Int) else -1) = F at q3
  generalize valR e = v at q1 ⊢
  refine PC.enter 23 Tryz.func31 rfl (by decide) rfl rfl (s := [(0, .sl (l.map enV) .ro), (1, enV e)]) (by rfl) ?_
  simp only [enV_eq e]
  refine wG Y31_Rb True.intro ?_
  refine AR.callP q1 enV_eq I1_Rb ?_
  by_cases hv : v = 0
  case neg =>
    rw [if_pos hv]
    refine goG Y31_Rb hv ?_
    refine wG Y31_Rb hv ?_
    exact Fin.oneP
  subst hv
  rw [if_neg (by decide)]
  refine goG Y31_Rb True.intro ?_
  refine wG Y31_Rb True.intro ?_
  refine AR.callP q2 enV_eq I1_Rb ?_
  cases h3 : takenB l e with
  | true =>
    rw [if_pos rfl]
    refine goG Y31_Rb True.intro ?_
    refine wG Y31_Rb True.intro ?_
    exact Fin.oneP
  | false =>
  rw [if_neg (by decide)]
  refine goG Y31_Rb True.intro ?_
  refine wG Y31_Rb True.intro ?_
  refine AR.callP q3 enV_eq I1_Rb ?_
  cases h4 : hasE l e with
  | true =>
    rw [h4, if_pos rfl] at hF
    rw [if_neg (by rintro ⟨k, _⟩; cases k)]
    have hz : ¬ F < 0 := by omega
    refine goG Y31_Rb hz ?_
    refine wG Y31_Rb hz ?_
    exact Fin.oneP
  | false =>
    rw [h4, if_neg (by decide)] at hF
    have hz : F < 0 := by omega
    by_cases h5 : 1024 ≤ l.length
    · have h5' : (l.length : Int) ≥ 1024 := by omega
      rw [if_pos ⟨rfl, h5⟩]
      refine goG Y31_Rb (And.intro hz (And.intro h5' @List.length_map.{0, 0})) ?_
      refine wG Y31_Rb (And.intro hz (And.intro h5' @List.length_map.{0, 0})) ?_
      exact Fin.oneP
    · have h5' : ¬ (l.length : Int) ≥ 1024 := by omega
      rw [if_neg (fun k => h5 k.2)]
      refine goG Y31_Rb (And.intro hz (And.intro h5' @List.length_map.{0, 0})) ?_
      refine wG Y31_Rb (And.intro hz (And.intro h5' @List.length_map.{0, 0})) ?_
      exact Fin.oneP
theorem Y15_Rb : type_of% (And.intro @F_ag_31 (And.intro @F_al_31 (And.intro @F_st_31 (@F_sz_31)))) := And.intro @F_ag_31 (And.intro @F_al_31 (And.intro @F_st_31 (@F_sz_31)))
theorem c_NewR : PC Tryz.prog 15 [] (.ag [(.im (.bool (true))), .sl [] .ro, .sl [] .ro, .sl [] .ro]) := by
  refine PC.enter 2 Tryz.func15 rfl (by decide) rfl rfl (s := []) (by rfl) ?_
  refine wG Y15_Rb True.intro ?_
  refine Fin.gen0 (rs := [.cell 0 31]) rfl (by first | exact .inl rfl | exact .inr rfl) (finG Y15_Rb) ?_
  skip
  all_goals exact wkG I1_Rb
theorem Y8_Rb : type_of% (And.intro @F_ag_46 (And.intro @F_el_28 (And.intro @F_eq_46 (@F_sz_46)))) := And.intro @F_ag_46 (And.intro @F_el_28 (And.intro @F_eq_46 (@F_sz_46)))
theorem c_SameR (a : List En) (ha : a.length ≤ 4194304) : PC Tryz.prog 8 [.sl (a.map enV) .ro, .sl (a.map enV) .ro] (.im (.bool (true))) := by
  refine PC.enter 26 Tryz.func8 rfl (by decide) rfl rfl (s := [(0, .sl (a.map enV) .ro), (1, .sl (a.map enV) .ro)]) (by rfl) ?_
  refine wG Y8_Rb @List.length_map.{0, 0} ?_
  refine AWp.loop ?_
  refine ALp.cutP 0 [(0, .sl (a.map enV) .ro), (1, .sl (a.map enV) .ro), (5, (.im (.int .i64 ((((0 : Nat)) : Int)))))] [] I1_Rb ?_
  refine ALp.upto a.length (fun _ => True) (fun m => ⟨dn 26 [(0, .sl (a.map enV) .ro), (1, .sl (a.map enV) .ro), (5, (.im (.int .i64 ((((m : Nat)) : Int)))))], ofl []⟩) ?_ 0 (Nat.zero_le _) trivial
  intro m hm _ hnext
  by_cases hlt : m < a.length
  · have hlt' : (m : Int) < (a.length : Int) := by omega
    have hg := get_some hlt
    have hm1 := wrap_succ hlt (by omega)
    have hn := hnext (m + 1) (by omega) (by omega) trivial
    clear hnext
    generalize a[m] = e at hg
    refine wdG Y8_Rb (And.intro hlt' (And.intro ENT (And.intro enV_eq (And.intro hg hm1)))) ?_
    refine ALp.cutP 0 [(0, .sl (a.map enV) .ro), (1, .sl (a.map enV) .ro), (5, (.im (.int .i64 ((((m + 1 : Nat)) : Int)))))] [] I1_Rb ?_
    exact hn
  · obtain rfl : m = a.length := by omega
    have hlt' : ¬ (a.length : Int) < (a.length : Int) := by omega
    clear hnext hlt
    refine wG Y8_Rb (And.intro hlt' @List.length_map.{0, 0}) ?_
    exact Fin.oneP
end Go.Proofs.YtianekkfehoedaaGreatDoor
