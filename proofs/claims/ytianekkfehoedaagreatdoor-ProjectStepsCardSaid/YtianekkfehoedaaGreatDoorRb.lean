/- Walks of the reference: Valid, accepted, changed, Put, Remove, Get, Undo, Redo, New, Same. -/
import Derived.Test.YtianekkfehoedaaGreatDoorHv
import Derived.Test.YtianekkfehoedaaGreatDoorRa
import Derived.Test.YtianekkfehoedaaGreatDoorEr
import Derived.Test.YtianekkfehoedaaGreatDoorK7
namespace Go.Proofs.YtianekkfehoedaaGreatDoor
set_option linter.unusedSimpArgs false
set_option linter.unusedVariables false
set_option linter.unnecessarySimpa false
open Go.RowKit
theorem ite_roK {p : Prop} [Decidable p] : (if p then Slk.ro else Slk.ro) = Slk.ro := ite_self _
theorem Y53_Rb : type_of% (And.intro @F_ag_3 (And.intro @F_ag_9 (And.intro @F_al_100 (And.intro @F_fl_46_0 (And.intro @F_fl_46_1 (And.intro @F_fl_46_3 (And.intro @F_sz_100 (And.intro @F_sz_3 (And.intro @F_sz_9 (@F_un_9)))))))))) := And.intro @F_ag_3 (And.intro @F_ag_9 (And.intro @F_al_100 (And.intro @F_fl_46_0 (And.intro @F_fl_46_1 (And.intro @F_fl_46_3 (And.intro @F_sz_100 (And.intro @F_sz_3 (And.intro @F_sz_9 (@F_un_9)))))))))
theorem I1_Rb : type_of% (And.intro enV_id (And.intro enL_id (And.intro byL_id (And.intro lsV_id (And.intro lsL_id @tyV_id))))) := (And.intro enV_id (And.intro enL_id (And.intro byL_id (And.intro lsV_id (And.intro lsL_id @tyV_id)))))
theorem c_validR (e : En) (ht : e.text.length ≤ 65536) : PC Tryz.prog 53 [enV e] (.im (.int .i64 (valR e))) := by
  have hk := vkeyB_ref e
  have hb := fun h => vkeyB_bd (e := e) h
  have q1 := c_nameR e.text (by omega)
  have q2 := c_ParseR e.text ht
  unfold valR
  refine PC.enter 88 Tryz.func53 rfl (by decide) rfl rfl (s := [(0, enV e)]) (by rfl) ?_
  simp only [enV_eq e]
  refine wG Y53_Rb True.intro ?_
  refine AWp.condAB rfl rfl (fun hE => ?_) (fun hE => ?_)
  · rw [if_pos (hk.2 (by simp only [Bool.or_eq_true, Bool.and_eq_true, decide_eq_true_eq, Bool.not_eq_true', decide_eq_false_iff_not] at hE; omega))]
    clear hE
    refine wG Y53_Rb True.intro ?_
    exact Fin.oneP
  have hv : vkeyB e = true := by
    cases hv : vkeyB e with
    | true => rfl
    | false =>
      have h7 := hk.1 hv
      simp only [Bool.or_eq_false_iff, Bool.and_eq_false_iff, decide_eq_false_iff_not, Bool.not_eq_false', decide_eq_true_eq] at hE
      omega
  have hb := hb hv
  rw [if_neg (by rw [hv]; decide)]
  clear hE hk hv
  unfold vtextB
  by_cases k1 : e.kind = 1 ∨ e.kind = 4
  · have n2 : ¬ e.kind = 2 := by omega
    have n3 : ¬ e.kind = 3 := by omega
    rw [if_neg n2, if_neg n3]
    have hkk : (e.kind = 1) = True ∨ (e.kind = 1) = False ∧ (e.kind = 4) = True := by
      rcases k1 with h | h
      · exact .inl (eq_true h)
      · exact .inr ⟨eq_false (by omega), eq_true h⟩
    rcases hkk with f1 | ⟨f1, f4⟩
    · cases hn : nameB e.text with
      | true =>
        rw [hn] at q1
        refine wG Y53_Rb f1 ?_
        refine AR.callP q1 True.intro I1_Rb ?_
        refine goG Y53_Rb True.intro ?_
        refine wG Y53_Rb True.intro ?_
        exact Fin.oneP
      | false =>
        rw [hn] at q1
        refine wG Y53_Rb f1 ?_
        refine AR.callP q1 True.intro I1_Rb ?_
        refine goG Y53_Rb True.intro ?_
        refine wG Y53_Rb True.intro ?_
        exact Fin.oneP
    · cases hn : nameB e.text with
      | true =>
        rw [hn] at q1
        refine wG Y53_Rb (And.intro f1 f4) ?_
        refine AR.callP q1 True.intro I1_Rb ?_
        refine goG Y53_Rb True.intro ?_
        refine wG Y53_Rb True.intro ?_
        exact Fin.oneP
      | false =>
        rw [hn] at q1
        refine wG Y53_Rb (And.intro f1 f4) ?_
        refine AR.callP q1 True.intro I1_Rb ?_
        refine goG Y53_Rb True.intro ?_
        refine wG Y53_Rb True.intro ?_
        exact Fin.oneP
  have f1 : (e.kind = 1) = False := eq_false (fun h => k1 (.inl h))
  have f4 : (e.kind = 4) = False := eq_false (fun h => k1 (.inr h))
  by_cases k2 : e.kind = 2
  · rw [if_pos k2]
    have f2 : (e.kind = 2) = True := eq_true k2
    refine wG Y53_Rb (And.intro f1 (And.intro f4 f2)) ?_
    refine AWp.loop ?_
    refine ALp.cutP 1 [(1, .pt 0 0), (3, (.im (.int .i64 ((((0 : Nat)) : Int)))))] [.box [(.im (.int .i64 (e.kind))), (.im (.int .i64 (e.var))), (.im (.int .u32 (e.addr))), (.im (.string (bA (e.text))))]] I1_Rb ?_
    refine ALp.upto e.text.length (fun m => e.text.all cmC = (e.text.drop m).all cmC) (fun m => ⟨dn 88 [(1, .pt 0 0), (3, (.im (.int .i64 ((((m : Nat)) : Int)))))], ofl [.box [(.im (.int .i64 (e.kind))), (.im (.int .i64 (e.var))), (.im (.int .u32 (e.addr))), (.im (.string (bA (e.text))))]]⟩) ?_ 0 (Nat.zero_le _) rfl
    intro m hm hI hnext
    by_cases hlt : m < e.text.length
    · have hlt' : (m : Int) < (e.text.length : Int) := by omega
      have hg : e.text[m]? = some e.text[m] := List.getElem?_eq_getElem hlt
      have hg' := (bA_get47 e.text m).trans hg
      have h0 : (0 : Int) ≤ (m : Int) := by omega
      have hm1 := wrap_succ (m := m) (N := 140737488355328) (by omega) (by decide)
      rw [all_drop cmC hg] at hI
      generalize e.text[m] = c at hg' hI
      have hn := hnext (m + 1) (by omega) (by omega)
      clear hnext hg
      cases hc : cmC c with
      | true =>
        rw [hc, Bool.true_and] at hI
        have l1 : ¬ ((c.toNat : Nat) : Int) < 32 := by
          unfold cmC at hc; simp only [Bool.and_eq_true, decide_eq_true_eq] at hc; omega
        have l2 : ¬ ((c.toNat : Nat) : Int) > 126 := by
          unfold cmC at hc; simp only [Bool.and_eq_true, decide_eq_true_eq] at hc; omega
        refine wG Y53_Rb (And.intro hlt' (And.intro h0 (And.intro hg' (And.intro BAT (And.intro l1 (And.intro l2 hm1)))))) ?_
        refine ALp.cutP 1 [(1, .pt 0 0), (3, (.im (.int .i64 ((((m + 1 : Nat)) : Int)))))] [.box [(.im (.int .i64 (e.kind))), (.im (.int .i64 (e.var))), (.im (.int .u32 (e.addr))), (.im (.string (bA (e.text))))]] I1_Rb ?_
        exact hn hI
      | false =>
        rw [hc, Bool.false_and] at hI
        have hB : commB e.text = false := by unfold commB; rw [hI]; rfl
        rw [hB]
        by_cases l1 : ((c.toNat : Nat) : Int) < 32
        · refine wG Y53_Rb (And.intro hlt' (And.intro h0 (And.intro hg' (And.intro BAT l1)))) ?_
          exact Fin.oneP
        · have l2 : ((c.toNat : Nat) : Int) > 126 := by
            unfold cmC at hc; simp only [Bool.and_eq_false_iff, decide_eq_false_iff_not] at hc; omega
          refine wG Y53_Rb (And.intro hlt' (And.intro h0 (And.intro hg' (And.intro BAT (And.intro l1 l2))))) ?_
          exact Fin.oneP
    · obtain rfl : m = e.text.length := by omega
      have hlt' : ¬ (e.text.length : Int) < (e.text.length : Int) := by omega
      have hI : e.text.all cmC = true := by rw [hI, List.drop_length]; rfl
      clear hnext hlt
      unfold commB
      rw [hI]
      by_cases h1 : 1 ≤ e.text.length
      · have h1' : ¬ (e.text.length : Int) < 1 := by omega
        by_cases h2 : e.text.length ≤ 256
        · have h2' : ¬ (e.text.length : Int) > 256 := by omega
          rw [decide_eq_true h1, decide_eq_true h2]
          refine wG Y53_Rb (And.intro hlt' (And.intro h1' (And.intro h2' bA_size))) ?_
          exact Fin.oneP
        · have h2' : (e.text.length : Int) > 256 := by omega
          rw [decide_eq_true h1, decide_eq_false h2]
          refine wG Y53_Rb (And.intro hlt' (And.intro h1' (And.intro h2' bA_size))) ?_
          exact Fin.oneP
      · have h1' : (e.text.length : Int) < 1 := by omega
        rw [decide_eq_false h1]
        refine wG Y53_Rb (And.intro hlt' (And.intro h1' bA_size)) ?_
        exact Fin.oneP
  · have k3 : e.kind = 3 := by omega
    rw [if_neg k2, if_pos k3]
    generalize (psT e.text).1 = T at q2
    generalize (psT e.text).2 = E at q2 ⊢
    refine wG Y53_Rb (And.intro f1 (And.intro f4 k2)) ?_
    refine AR.callP q2 True.intro I1_Rb ?_
    refine goG Y53_Rb (And.intro (@tyV_firm) (And.intro (@fdV_firm) (And.intro (@tyV_strip) (And.intro (@fdV_strip) (And.intro (@tyV_live) (And.intro (@tyV_size) (And.intro (@tyV_isAg) (And.intro (@tyV_cells) (And.intro (@fdV_live) (And.intro (@fdV_size) (And.intro (@fdV_isAg) (And.intro (@fdV_cells) (And.intro (@List.getElem?_map.{0, 0}) @Int.natCast_nonneg))))))))))))) ?_
    by_cases h4 : E = 0
    · by_cases h5 : e.text.length ≤ 65535
      · have h5' : ¬ (e.text.length : Int) > 65535 := by omega
        rw [decide_eq_true h4, decide_eq_true h5]
        refine wG Y53_Rb (And.intro h4 (And.intro h5' bA_size)) ?_
        exact Fin.oneP
      · have h5' : (e.text.length : Int) > 65535 := by omega
        rw [decide_eq_true h4, decide_eq_false h5]
        refine wG Y53_Rb (And.intro h4 (And.intro h5' bA_size)) ?_
        exact Fin.oneP
    · rw [decide_eq_false h4]
      refine wG Y53_Rb h4 ?_
      exact Fin.oneP
theorem Y31_Rb : type_of% (And.intro @F_ag_46 (And.intro @F_el_28 (@F_sz_46))) := And.intro @F_ag_46 (And.intro @F_el_28 (@F_sz_46))
theorem c_accR (l : List En) (e : En) (h : AscE l) (hl : l.length ≤ 4194304) (ht : e.text.length ≤ 65536) : PC Tryz.prog 31 [.sl (l.map enV) .ro, enV e] (.im (.int .i64 (eErr l e))) := by
  have q1 := c_validR e ht
  have q2 := c_takenR l e hl
  have q3 := c_findR l e hl
  rw [fndR_eq h] at q3
  rw [eErr_valR]
  generalize hF : (if hasE l e = true then ((0 + posE l e : Nat) : Int) else -1) = F at q3
  generalize valR e = v at q1 ⊢
  refine PC.enter 23 Tryz.func31 rfl (by decide) rfl rfl (s := [(0, .sl (l.map enV) .ro), (1, enV e)]) (by rfl) ?_
  simp only [enV_eq e]
  refine wG Y31_Rb True.intro ?_
  refine AR.callP q1 enV_eq I1_Rb ?_
  by_cases hv : v = 0
  case neg =>
    rw [if_pos hv]
    refine goG Y31_Rb hv ?_
    refine wG Y31_Rb hv ?_
    exact Fin.oneP
  subst hv
  rw [if_neg (by decide)]
  refine goG Y31_Rb True.intro ?_
  refine wG Y31_Rb True.intro ?_
  refine AR.callP q2 enV_eq I1_Rb ?_
  cases h3 : takenB l e with
  | true =>
    rw [if_pos rfl]
    refine goG Y31_Rb True.intro ?_
    refine wG Y31_Rb True.intro ?_
    exact Fin.oneP
  | false =>
  rw [if_neg (by decide)]
  refine goG Y31_Rb True.intro ?_
  refine wG Y31_Rb True.intro ?_
  refine AR.callP q3 enV_eq I1_Rb ?_
  cases h4 : hasE l e with
  | true =>
    rw [h4, if_pos rfl] at hF
    rw [if_neg (by rintro ⟨k, _⟩; cases k)]
    have hz : ¬ F < 0 := by omega
    refine goG Y31_Rb hz ?_
    refine wG Y31_Rb hz ?_
    exact Fin.oneP
  | false =>
    rw [h4, if_neg (by decide)] at hF
    have hz : F < 0 := by omega
    by_cases h5 : 1024 ≤ l.length
    · have h5' : (l.length : Int) ≥ 1024 := by omega
      rw [if_pos ⟨rfl, h5⟩]
      refine goG Y31_Rb (And.intro hz (And.intro h5' @List.length_map.{0, 0})) ?_
      refine wG Y31_Rb (And.intro hz (And.intro h5' @List.length_map.{0, 0})) ?_
      exact Fin.oneP
    · have h5' : ¬ (l.length : Int) ≥ 1024 := by omega
      rw [if_neg (fun k => h5 k.2)]
      refine goG Y31_Rb (And.intro hz (And.intro h5' @List.length_map.{0, 0})) ?_
      refine wG Y31_Rb (And.intro hz (And.intro h5' @List.length_map.{0, 0})) ?_
      exact Fin.oneP
theorem Y56_Rb : type_of% (And.intro @F_ag_28 (And.intro @F_ag_29 (And.intro @F_ag_31 (And.intro @F_al_28 (And.intro @F_al_31 (And.intro @F_by_28 (And.intro @F_el_29 (And.intro @F_fl_31_1 (And.intro @F_fl_31_2 (And.intro @F_st_31 (And.intro @F_sz_28 (And.intro @F_sz_29 (@F_sz_31))))))))))))) := And.intro @F_ag_28 (And.intro @F_ag_29 (And.intro @F_ag_31 (And.intro @F_al_28 (And.intro @F_al_31 (And.intro @F_by_28 (And.intro @F_el_29 (And.intro @F_fl_31_1 (And.intro @F_fl_31_2 (And.intro @F_st_31 (And.intro @F_sz_28 (And.intro @F_sz_29 (@F_sz_31))))))))))))
theorem take_succ_lsV {R : List (List En)} {m : Nat} {x : List En} (L : List En) (h : R[m]? = some x) : (L :: R.take m).map lsV ++ [.sl (x.map enV) .ro] = (L :: R.take (m + 1)).map lsV ∧ (L :: R.take (m + 1)).length = (L :: R.take m).length + 1 := by
  obtain ⟨hm, rfl⟩ := List.getElem?_eq_some_iff.1 h
  rw [List.take_succ_eq_append_getElem hm]
  constructor
  · simp only [List.map_cons, List.map_append, List.cons_append, List.map_nil]
    rfl
  · simp; omega
theorem c_changed0 (p : Pr) (n : List En) (hu : p.un.length ≤ 4194304) : PC Tryz.prog 56 [(.ag [(.im (.bool (true))), .sl ((p).l.map enV) .ro, .sl ((p).un.reverse.map lsV) .ro, .sl ((p).re.reverse.map lsV) .ro]), .sl (n.map enV) .ro] (.ag [(.im (.bool (true))), .sl (n.map enV) .ro, .sl ((p.l :: p.un.reverse.take 255).map lsV) .ro, .sl [] .ro]) := by
  refine PC.enter 32 Tryz.func56 rfl (by decide) rfl rfl (s := [(0, (.ag [(.im (.bool (true))), .sl ((p).l.map enV) .ro, .sl ((p).un.reverse.map lsV) .ro, .sl ((p).re.reverse.map lsV) .ro])), (1, .sl (n.map enV) .ro)]) (by rfl) ?_
  refine wG Y56_Rb True.intro ?_
  refine AWp.loop ?_
  refine ALp.cutP 2 [(1, .sl (n.map enV) .ro), (2, .pt 0 0), (4, .pt 1 0), (5, .sl [.sl (p.l.map enV) .ro] .full), (6, (.im (.int .i64 (0))))] [.box [(.im (.bool (true))), .sl ((p).l.map enV) .ro, .sl ((p).un.reverse.map lsV) .ro, .sl ((p).re.reverse.map lsV) .ro], .box [(.im (.bool (false))), .sl [] .nl, .sl [] .nl, .sl [] .nl]] I1_Rb ?_
  refine ALp.ghost 5 [.sl (p.l.map enV) .ro] .full 28 1 ?_
  have hRl : p.un.reverse.length ≤ 4194304 := by simpa using hu
  refine ALp.upto (min p.un.reverse.length 255) (fun _ => True) (fun m => ⟨dn 32 [(1, .sl (n.map enV) .ro), (2, .pt 0 0), (4, .pt 1 0), (5, .sl ((p.l :: p.un.reverse.take (m)).map lsV) (.own 2)), (6, (.im (.int .i64 ((((m : Nat)) : Int)))))], ofl [.box [(.im (.bool (true))), .sl ((p).l.map enV) .ro, .sl ((p).un.reverse.map lsV) .ro, .sl ((p).re.reverse.map lsV) .ro], .box [(.im (.bool (false))), .sl [] .nl, .sl [] .nl, .sl [] .nl], .tip 28 1 (p.l :: p.un.reverse.take (m)).length]⟩) ?_ 0 (Nat.zero_le _) trivial
  intro m hm _ hnext
  generalize p.un.reverse = R at hRl hm hnext ⊢
  by_cases hlt : m < min R.length 255
  · have hlt' : (m : Int) < (R.length : Int) := by omega
    have hlt2 : (m : Int) < 255 := by omega
    have hg : R[m]? = some R[m] := List.getElem?_eq_getElem (by omega)
    obtain ⟨hA, hln⟩ := take_succ_lsV p.l hg
    have hn := hnext (m + 1) (by omega) (by omega) trivial
    clear hnext
    have hm1 := wrap_succ (m := m) (N := 4194304) (by omega) (by omega)
    have hcap : ((p.l :: R.take m).length + 1) * 24 ≤ 140737488355328 := by simp; omega
    generalize R[m] = x at hg hA
    generalize p.l :: R.take (m + 1) = M2 at hA hln hn
    generalize p.l :: R.take m = M1 at hA hln hcap ⊢
    refine wdG Y56_Rb (And.intro hlt' (And.intro hlt2 (And.intro LST (And.intro hg (And.intro hA (And.intro hcap (And.intro (@List.length_map.{0, 0}) (And.intro lsL_all hm1)))))))) ?_
    rw [← hln]
    refine ALp.cutP 3 [(1, .sl (n.map enV) .ro), (2, .pt 0 0), (4, .pt 1 0), (5, .sl (M2.map lsV) (.own 2)), (6, (.im (.int .i64 (((m + 1 : Nat) : Int)))))] [.box [(.im (.bool (true))), .sl (p.l.map enV) .ro, .sl (R.map lsV) .ro, .sl (p.re.reverse.map lsV) .ro], .box [(.im (.bool (false))), .sl [] .nl, .sl [] .nl, .sl [] .nl], .tip 28 1 M2.length] I1_Rb ?_
    exact hn
  · have hmm : R.take m = R.take 255 := by
      rcases Nat.lt_or_ge R.length 255 with h | h
      · rw [List.take_of_length_le (by omega), List.take_of_length_le (by omega)]
      · rw [show m = 255 by omega]
    rw [hmm]
    clear hnext
    generalize p.l :: R.take 255 = M1
    by_cases h1 : m < R.length
    · have h1' : (m : Int) < (R.length : Int) := by omega
      have h2' : ¬ (m : Int) < 255 := by omega
      refine wdG Y56_Rb (And.intro h1' (And.intro h2' @List.length_map.{0, 0})) ?_
      refine Fin.gen0 (rs := [.cell 4 31]) rfl (by first | exact .inl rfl | exact .inr rfl) (finG Y56_Rb) ?_
      skip
      all_goals exact wkG I1_Rb
    · have h1' : ¬ (m : Int) < (R.length : Int) := by omega
      refine wdG Y56_Rb (And.intro h1' @List.length_map.{0, 0}) ?_
      refine Fin.gen0 (rs := [.cell 4 31]) rfl (by first | exact .inl rfl | exact .inr rfl) (finG Y56_Rb) ?_
      skip
      all_goals exact wkG I1_Rb
theorem chg_un (p : Pr) (n : List En) : (p.chg n).un = clipE (p.un ++ [p.l]) := by unfold Pr.chg; dsimp only
theorem c_changedR (p : Pr) (n : List En) (hu : p.un.length ≤ 4194304) : PC Tryz.prog 56 [(.ag [(.im (.bool (true))), .sl ((p).l.map enV) .ro, .sl ((p).un.reverse.map lsV) .ro, .sl ((p).re.reverse.map lsV) .ro]), .sl (n.map enV) .ro] ((.ag [(.im (.bool (true))), .sl ((p.chg n).l.map enV) .ro, .sl ((p.chg n).un.reverse.map lsV) .ro, .sl ((p.chg n).re.reverse.map lsV) .ro])) := by
  have h := c_changed0 p n hu
  rw [chg_un, clip_rev]
  exact h
theorem Y36_Rb : type_of% (And.intro @F_ag_28 (And.intro @F_ag_31 (And.intro @F_ag_4 (And.intro @F_ag_46 (And.intro @F_al_31 (And.intro @F_fl_31_0 (And.intro @F_fl_31_1 (And.intro @F_sz_28 (And.intro @F_sz_31 (And.intro @F_sz_4 (@F_sz_46))))))))))) := And.intro @F_ag_28 (And.intro @F_ag_31 (And.intro @F_ag_4 (And.intro @F_ag_46 (And.intro @F_al_31 (And.intro @F_fl_31_0 (And.intro @F_fl_31_1 (And.intro @F_sz_28 (And.intro @F_sz_31 (And.intro @F_sz_4 (@F_sz_46))))))))))
theorem c_PutR (p : Pr) (e : En) (h : AscE p.l) (hl : p.l.length ≤ 1024) (ht : e.text.length ≤ 65536) (hu : p.un.length ≤ 4194304) : PC Tryz.prog 36 [(.ag [(.im (.bool (true))), .sl ((p).l.map enV) .ro, .sl ((p).un.reverse.map lsV) .ro, .sl ((p).re.reverse.map lsV) .ro]), enV e] (.tu [(.ag [(.im (.bool (true))), .sl ((p.put e).l.map enV) .ro, .sl ((p.put e).un.reverse.map lsV) .ro, .sl ((p.put e).re.reverse.map lsV) .ro]), (.im (.int .i64 (eErr p.l e)))]) := by
  have q1 := c_accR p.l e h (by omega) ht
  have q2 := c_withR p.l e h (by omega)
  have q3 := c_changedR p (eWith p.l e) hu
  unfold Pr.put
  generalize eErr p.l e = r at q1 ⊢
  refine PC.enter 25 Tryz.func36 rfl (by decide) rfl rfl (s := [(0, (.ag [(.im (.bool (true))), .sl ((p).l.map enV) .ro, .sl ((p).un.reverse.map lsV) .ro, .sl ((p).re.reverse.map lsV) .ro])), (1, enV e)]) (by rfl) ?_
  simp only [enV_eq e]
  refine wG Y36_Rb True.intro ?_
  refine AR.callP q1 enV_eq I1_Rb ?_
  by_cases hr : r = 0
  · subst hr
    rw [if_pos rfl]
    generalize p.chg (eWith p.l e) = p2 at q3 ⊢
    generalize eWith p.l e = w at q2 q3
    refine goG Y36_Rb True.intro ?_
    refine wdG Y36_Rb True.intro ?_
    refine AR.callP q2 enV_eq I1_Rb ?_
    refine goG Y36_Rb True.intro ?_
    refine AR.callP q3 True.intro I1_Rb ?_
    refine goG Y36_Rb True.intro ?_
    refine wdG Y36_Rb True.intro ?_
    refine Fin.gen0 (rs := [.cell 4 31, .tmp 5]) rfl (by first | exact .inl rfl | exact .inr rfl) (finG Y36_Rb) ?_
    skip
    all_goals exact wkG I1_Rb
  · rw [if_neg hr]
    refine goG Y36_Rb hr ?_
    refine wdG Y36_Rb hr ?_
    refine Fin.gen0 (rs := [.cell 4 31, .tmp 5]) rfl (by first | exact .inl rfl | exact .inr rfl) (finG Y36_Rb) ?_
    skip
    all_goals exact wkG I1_Rb
theorem Y18_Rb : type_of% (And.intro @F_ag_28 (And.intro @F_ag_9 (And.intro @F_al_46 (And.intro @F_el_28 (And.intro @F_fl_31_1 (And.intro @F_fl_46_3 (And.intro @F_st_46 (And.intro @F_sz_28 (And.intro @F_sz_46 (@F_sz_9)))))))))) := And.intro @F_ag_28 (And.intro @F_ag_9 (And.intro @F_al_46 (And.intro @F_el_28 (And.intro @F_fl_31_1 (And.intro @F_fl_46_3 (And.intro @F_st_46 (And.intro @F_sz_28 (And.intro @F_sz_46 (@F_sz_9)))))))))
theorem c_GetRf (p : Pr) (k a v : Int) (h : AscE p.l) (hl : p.l.length ≤ 1024) : PC Tryz.prog 18 [(.ag [(.im (.bool (true))), .sl ((p).l.map enV) .ro, .sl ((p).un.reverse.map lsV) .ro, .sl ((p).re.reverse.map lsV) .ro]), (.im (.int .i64 (k))), (.im (.int .u32 (a))), (.im (.int .i64 (v)))] (.tu [(.im (.string (bA (getE p.l k a v)))), (.im (.bool (hasE p.l (keyOf k a v))))]) := by
  have q := c_findR p.l (keyOf k a v) (by omega)
  rw [show enV (keyOf k a v) = .ag [(.im (.int .i64 (k))), (.im (.int .i64 (v))), (.im (.int .u32 (a))), .im (.string ByteArray.empty)] from rfl, fndR_eq h] at q
  unfold getE
  refine PC.enter 26 Tryz.func18 rfl (by decide) rfl rfl (s := [(0, (.ag [(.im (.bool (true))), .sl ((p).l.map enV) .ro, .sl ((p).un.reverse.map lsV) .ro, .sl ((p).re.reverse.map lsV) .ro])), (1, (.im (.int .i64 (k)))), (2, (.im (.int .u32 (a)))), (3, (.im (.int .i64 (v))))]) (by rfl) ?_
  refine wG Y18_Rb True.intro ?_
  refine AR.callP q True.intro I1_Rb ?_
  cases h2 : hasE p.l (keyOf k a v) with
  | false =>
    rw [if_neg (by decide), if_neg (by decide)]
    refine goG Y18_Rb True.intro ?_
    refine wG Y18_Rb True.intro ?_
    refine Fin.gen0 (rs := [.tmp 8, .tmp 9]) rfl (by first | exact .inl rfl | exact .inr rfl) (finG Y18_Rb) ?_
    skip
    all_goals exact wkG I1_Rb
  | true =>
    obtain ⟨hp, _⟩ := hasE_pos h h2
    have hg := get_some hp
    have hgd : p.l.getD (posE p.l (keyOf k a v)) ⟨0, 0, 0, []⟩ = p.l[posE p.l (keyOf k a v)] := by rw [List.getD_eq_getElem?_getD, hg]; rfl
    rw [if_pos rfl, if_pos rfl, hgd, Nat.zero_add]
    generalize p.l[posE p.l (keyOf k a v)] = x at hg ⊢
    generalize posE p.l (keyOf k a v) = i at hg
    have hz : ¬ ((i : Nat) : Int) < 0 := by omega
    refine goG Y18_Rb hz ?_
    refine wG Y18_Rb (And.intro hz (And.intro ENT hg)) ?_
    refine Fin.gen0 (rs := [.tmp 8, .tmp 9]) rfl (by first | exact .inl rfl | exact .inr rfl) (finG Y18_Rb) ?_
    skip
    all_goals exact wkG I1_Rb
theorem Y39_Rb : type_of% (And.intro @F_ag_28 (And.intro @F_ag_29 (And.intro @F_ag_31 (And.intro @F_al_28 (And.intro @F_al_31 (And.intro @F_by_28 (And.intro @F_el_29 (And.intro @F_fl_31_1 (And.intro @F_fl_31_2 (And.intro @F_fl_31_3 (And.intro @F_st_31 (And.intro @F_sz_28 (And.intro @F_sz_29 (And.intro @F_sz_31 (@F_un_29))))))))))))))) := And.intro @F_ag_28 (And.intro @F_ag_29 (And.intro @F_ag_31 (And.intro @F_al_28 (And.intro @F_al_31 (And.intro @F_by_28 (And.intro @F_el_29 (And.intro @F_fl_31_1 (And.intro @F_fl_31_2 (And.intro @F_fl_31_3 (And.intro @F_st_31 (And.intro @F_sz_28 (And.intro @F_sz_29 (And.intro @F_sz_31 (@F_un_29))))))))))))))
theorem c_UndoR0 (L x : List En) (un re : List (List En)) (hu : un.length ≤ 4194304) (hr : re.length ≤ 4194304) : PC Tryz.prog 39 [(.ag [(.im (.bool (true))), .sl (((⟨L, un ++ [x], re⟩ : Pr)).l.map enV) .ro, .sl (((⟨L, un ++ [x], re⟩ : Pr)).un.reverse.map lsV) .ro, .sl (((⟨L, un ++ [x], re⟩ : Pr)).re.reverse.map lsV) .ro])] (.tu [(.ag [(.im (.bool (true))), .sl (((⟨x, un, re ++ [L]⟩ : Pr)).l.map enV) .ro, .sl (((⟨x, un, re ++ [L]⟩ : Pr)).un.reverse.map lsV) .ro, .sl (((⟨x, un, re ++ [L]⟩ : Pr)).re.reverse.map lsV) .ro]), (.im (.bool (true)))]) := by
  dsimp only
  rw [List.reverse_append, List.reverse_append, List.reverse_cons, List.reverse_nil, List.nil_append, List.singleton_append, List.reverse_cons, List.reverse_nil, List.nil_append, List.singleton_append, List.map_cons, List.map_cons]
  have hu2 : un.reverse.length ≤ 4194304 := by simpa using hu
  have hr2 : re.reverse.length ≤ 4194304 := by simpa using hr
  generalize un.reverse = U at hu2 ⊢
  generalize re.reverse = R at hr2 ⊢
  have hz : ¬ ((U.length : Int) + 1 = 0) := by omega
  have h0 : (0 : Int) < (U.length : Int) + 1 := by omega
  have g1 : (1 : Int) ≤ (U.length : Int) + 1 := by omega
  have hcap : (1 + R.length) * 24 ≤ 140737488355328 := by omega
  have htn : ((U.length : Int) + 1).toNat = U.length + 1 := by omega
  have htk : List.take (U.length + 1 - 1) (List.map lsV U) = List.map lsV U := List.take_of_length_le (by simp)
  refine PC.enter 25 Tryz.func39 rfl (by decide) rfl rfl (s := [(0, .ag [(.im (.bool (true))), .sl (L.map enV) .ro, .sl (lsV x :: U.map lsV) .ro, .sl (R.map lsV) .ro])]) (by rfl) ?_
  refine wdG Y39_Rb (And.intro LST (And.intro hz (And.intro h0 (And.intro g1 (And.intro hcap (And.intro htn (And.intro (@ite_roK) (And.intro htk (And.intro GDS (And.intro lsL_all (And.intro lsL_allS (And.intro (@Int.natCast_add) @Int.natCast_one)))))))))))) ?_
  refine Fin.gen0 (rs := [.cell 2 31, .tmp 3]) rfl (by first | exact .inl rfl | exact .inr rfl) (finG Y39_Rb) ?_
  skip
  all_goals exact wkG I1_Rb
theorem c_UndoR1 (L : List En) (re : List (List En)) : PC Tryz.prog 39 [(.ag [(.im (.bool (true))), .sl (((⟨L, [], re⟩ : Pr)).l.map enV) .ro, .sl (((⟨L, [], re⟩ : Pr)).un.reverse.map lsV) .ro, .sl (((⟨L, [], re⟩ : Pr)).re.reverse.map lsV) .ro])] (.tu [(.ag [(.im (.bool (true))), .sl (((⟨L, [], re⟩ : Pr)).l.map enV) .ro, .sl (((⟨L, [], re⟩ : Pr)).un.reverse.map lsV) .ro, .sl (((⟨L, [], re⟩ : Pr)).re.reverse.map lsV) .ro]), (.im (.bool (false)))]) := by
  dsimp only
  rw [List.reverse_nil, List.map_nil]
  refine PC.enter 25 Tryz.func39 rfl (by decide) rfl rfl (s := [(0, .ag [(.im (.bool (true))), .sl (L.map enV) .ro, .sl [] .ro, .sl (re.reverse.map lsV) .ro])]) (by rfl) ?_
  refine wG Y39_Rb True.intro ?_
  refine Fin.gen0 (rs := [.cell 2 31, .tmp 3]) rfl (by first | exact .inl rfl | exact .inr rfl) (finG Y39_Rb) ?_
  skip
  all_goals exact wkG I1_Rb
theorem Y40_Rb : type_of% (And.intro @F_ag_28 (And.intro @F_ag_29 (And.intro @F_ag_31 (And.intro @F_al_28 (And.intro @F_al_31 (And.intro @F_by_28 (And.intro @F_el_29 (And.intro @F_fl_31_1 (And.intro @F_fl_31_2 (And.intro @F_fl_31_3 (And.intro @F_st_31 (And.intro @F_sz_28 (And.intro @F_sz_29 (And.intro @F_sz_31 (@F_un_29))))))))))))))) := And.intro @F_ag_28 (And.intro @F_ag_29 (And.intro @F_ag_31 (And.intro @F_al_28 (And.intro @F_al_31 (And.intro @F_by_28 (And.intro @F_el_29 (And.intro @F_fl_31_1 (And.intro @F_fl_31_2 (And.intro @F_fl_31_3 (And.intro @F_st_31 (And.intro @F_sz_28 (And.intro @F_sz_29 (And.intro @F_sz_31 (@F_un_29))))))))))))))
theorem c_RedoR0 (L x : List En) (un re : List (List En)) (hu : un.length ≤ 4194304) (hr : re.length ≤ 4194304) : PC Tryz.prog 40 [(.ag [(.im (.bool (true))), .sl (((⟨L, un, re ++ [x]⟩ : Pr)).l.map enV) .ro, .sl (((⟨L, un, re ++ [x]⟩ : Pr)).un.reverse.map lsV) .ro, .sl (((⟨L, un, re ++ [x]⟩ : Pr)).re.reverse.map lsV) .ro])] (.tu [(.ag [(.im (.bool (true))), .sl (((⟨x, un ++ [L], re⟩ : Pr)).l.map enV) .ro, .sl (((⟨x, un ++ [L], re⟩ : Pr)).un.reverse.map lsV) .ro, .sl (((⟨x, un ++ [L], re⟩ : Pr)).re.reverse.map lsV) .ro]), (.im (.bool (true)))]) := by
  dsimp only
  rw [List.reverse_append, List.reverse_append, List.reverse_cons, List.reverse_nil, List.nil_append, List.singleton_append, List.reverse_cons, List.reverse_nil, List.nil_append, List.singleton_append, List.map_cons, List.map_cons]
  have hu2 : un.reverse.length ≤ 4194304 := by simpa using hu
  have hr2 : re.reverse.length ≤ 4194304 := by simpa using hr
  generalize un.reverse = U at hu2 ⊢
  generalize re.reverse = R at hr2 ⊢
  have hz : ¬ ((R.length : Int) + 1 = 0) := by omega
  have h0 : (0 : Int) < (R.length : Int) + 1 := by omega
  have g1 : (1 : Int) ≤ (R.length : Int) + 1 := by omega
  have hcap : (1 + U.length) * 24 ≤ 140737488355328 := by omega
  have htn : ((R.length : Int) + 1).toNat = R.length + 1 := by omega
  have htk : List.take (R.length + 1 - 1) (List.map lsV R) = List.map lsV R := List.take_of_length_le (by simp)
  refine PC.enter 25 Tryz.func40 rfl (by decide) rfl rfl (s := [(0, .ag [(.im (.bool (true))), .sl (L.map enV) .ro, .sl (U.map lsV) .ro, .sl (lsV x :: R.map lsV) .ro])]) (by rfl) ?_
  refine wdG Y40_Rb (And.intro LST (And.intro hz (And.intro h0 (And.intro g1 (And.intro hcap (And.intro htn (And.intro (@ite_roK) (And.intro htk (And.intro GDS (And.intro lsL_all (And.intro lsL_allS (And.intro (@Int.natCast_add) @Int.natCast_one)))))))))))) ?_
  refine Fin.gen0 (rs := [.cell 2 31, .tmp 3]) rfl (by first | exact .inl rfl | exact .inr rfl) (finG Y40_Rb) ?_
  skip
  all_goals exact wkG I1_Rb
theorem c_RedoR1 (L : List En) (un : List (List En)) : PC Tryz.prog 40 [(.ag [(.im (.bool (true))), .sl (((⟨L, un, []⟩ : Pr)).l.map enV) .ro, .sl (((⟨L, un, []⟩ : Pr)).un.reverse.map lsV) .ro, .sl (((⟨L, un, []⟩ : Pr)).re.reverse.map lsV) .ro])] (.tu [(.ag [(.im (.bool (true))), .sl (((⟨L, un, []⟩ : Pr)).l.map enV) .ro, .sl (((⟨L, un, []⟩ : Pr)).un.reverse.map lsV) .ro, .sl (((⟨L, un, []⟩ : Pr)).re.reverse.map lsV) .ro]), (.im (.bool (false)))]) := by
  dsimp only
  rw [List.reverse_nil, List.map_nil]
  refine PC.enter 25 Tryz.func40 rfl (by decide) rfl rfl (s := [(0, .ag [(.im (.bool (true))), .sl (L.map enV) .ro, .sl (un.reverse.map lsV) .ro, .sl [] .ro])]) (by rfl) ?_
  refine wG Y40_Rb True.intro ?_
  refine Fin.gen0 (rs := [.cell 2 31, .tmp 3]) rfl (by first | exact .inl rfl | exact .inr rfl) (finG Y40_Rb) ?_
  skip
  all_goals exact wkG I1_Rb
theorem Y38_Rb : type_of% (And.intro @F_ag_28 (And.intro @F_ag_3 (And.intro @F_ag_31 (And.intro @F_ag_4 (And.intro @F_ag_46 (And.intro @F_al_31 (And.intro @F_al_46 (And.intro @F_by_46 (And.intro @F_el_28 (And.intro @F_fl_31_0 (And.intro @F_fl_31_1 (And.intro @F_fl_46_0 (And.intro @F_fl_46_1 (And.intro @F_sz_28 (And.intro @F_sz_3 (And.intro @F_sz_31 (And.intro @F_sz_4 (And.intro @F_sz_46 (@F_un_28))))))))))))))))))) := And.intro @F_ag_28 (And.intro @F_ag_3 (And.intro @F_ag_31 (And.intro @F_ag_4 (And.intro @F_ag_46 (And.intro @F_al_31 (And.intro @F_al_46 (And.intro @F_by_46 (And.intro @F_el_28 (And.intro @F_fl_31_0 (And.intro @F_fl_31_1 (And.intro @F_fl_46_0 (And.intro @F_fl_46_1 (And.intro @F_sz_28 (And.intro @F_sz_3 (And.intro @F_sz_31 (And.intro @F_sz_4 (And.intro @F_sz_46 (@F_un_28))))))))))))))))))
theorem c_RemR (p : Pr) (e : En) (h : AscE p.l) (hl : p.l.length ≤ 1024) (hu : p.un.length ≤ 4194304) : PC Tryz.prog 38 [(.ag [(.im (.bool (true))), .sl ((p).l.map enV) .ro, .sl ((p).un.reverse.map lsV) .ro, .sl ((p).re.reverse.map lsV) .ro]), enV e] (.tu [(.ag [(.im (.bool (true))), .sl ((p.rem e).l.map enV) .ro, .sl ((p.rem e).un.reverse.map lsV) .ro, .sl ((p.rem e).re.reverse.map lsV) .ro]), (.im (.int .i64 (rmErr p.l e)))]) := by
  have hk := vkeyB_ref e
  have q1 := c_findR p.l e (by omega)
  rw [fndR_eq h] at q1
  have q3 := c_changedR p (delE p.l e) hu
  unfold Pr.rem
  refine PC.enter 63 Tryz.func38 rfl (by decide) rfl rfl (s := [(0, (.ag [(.im (.bool (true))), .sl ((p).l.map enV) .ro, .sl ((p).un.reverse.map lsV) .ro, .sl ((p).re.reverse.map lsV) .ro])), (1, enV e)]) (by rfl) ?_
  simp only [enV_eq e]
  refine wG Y38_Rb True.intro ?_
  refine AWp.condAB rfl rfl (fun hE => ?_) (fun hE => ?_)
  · have hv : vkeyB e = false := hk.2 (by simp only [Bool.or_eq_true, Bool.and_eq_true, decide_eq_true_eq, Bool.not_eq_true', decide_eq_false_iff_not] at hE; omega)
    rw [rm2 hv, if_neg (by decide)]
    clear hE
    refine wG Y38_Rb True.intro ?_
    refine Fin.gen0 (rs := [.cell 4 31, .tmp 5]) rfl (by first | exact .inl rfl | exact .inr rfl) (finG Y38_Rb) ?_
    skip
    all_goals exact wkG I1_Rb
  have hv : vkeyB e = true := by
    cases hv : vkeyB e with
    | true => rfl
    | false =>
      have h7 := hk.1 hv
      simp only [Bool.or_eq_false_iff, Bool.and_eq_false_iff, decide_eq_false_iff_not, Bool.not_eq_false', decide_eq_true_eq] at hE
      omega
  clear hE hk
  refine wG Y38_Rb True.intro ?_
  refine AR.callP q1 enV_eq I1_Rb ?_
  cases h2 : hasE p.l e with
  | false =>
    rw [rm9 hv h2, if_neg (by decide), if_neg (by decide)]
    refine goG Y38_Rb True.intro ?_
    refine wG Y38_Rb True.intro ?_
    refine Fin.gen0 (rs := [.cell 4 31, .tmp 5]) rfl (by first | exact .inl rfl | exact .inr rfl) (finG Y38_Rb) ?_
    skip
    all_goals exact wkG I1_Rb
  | true =>
    obtain ⟨hp, _⟩ := hasE_pos h h2
    have hE0 : rmErr p.l e = 0 := by unfold rmErr; rw [hv, h2]; rfl
    rw [hE0, if_pos rfl, if_pos rfl, Nat.zero_add]
    have hd : delE p.l e = p.l.take (posE p.l e) ++ p.l.drop (posE p.l e + 1) := List.eraseIdx_eq_take_drop_succ _ _
    generalize p.chg (delE p.l e) = p2 at q3 ⊢
    rw [hd] at q3
    generalize posE p.l e = i at hp q3
    have hz : ¬ ((i : Nat) : Int) < 0 := by omega
    have w1 : IntKind.i64.wrap ((i : Int) + 1) = ((i + 1 : Nat) : Int) := by rw [wrap_in (by omega)]; omega
    have g0 : ((i : Nat) : Int) ≤ (p.l.length : Int) := by omega
    have g1 : ((i + 1 : Nat) : Int) ≤ (p.l.length : Int) := by omega
    have t1 : List.take i (p.l.map enV) = (p.l.take i).map enV := (List.map_take).symm
    have t2 : List.take (p.l.length - (i + 1)) (List.drop (i + 1) (p.l.map enV)) = (p.l.drop (i + 1)).map enV := by rw [← List.map_drop, List.take_of_length_le (by simp)]
    have t3 : (p.l.take i).map enV ++ (p.l.drop (i + 1)).map enV = (p.l.take i ++ p.l.drop (i + 1)).map enV := (List.map_append).symm
    have c1 : (p.l.take i).length * 40 ≤ 140737488355328 := by simp; omega
    have c2 : ((p.l.take i).length + (p.l.drop (i + 1)).length) * 40 ≤ 140737488355328 := by simp; omega
    generalize p.l.take i ++ p.l.drop (i + 1) = M at t3 q3
    generalize p.l.take i = La at t1 t3 c1 c2
    generalize p.l.drop (i + 1) = Lb at t2 t3 c2
    refine goG Y38_Rb hz ?_
    refine wdG Y38_Rb (And.intro hz (And.intro w1 (And.intro g0 (And.intro g1 (And.intro GDS (And.intro (@List.length_map.{0, 0}) (And.intro t1 (And.intro t2 (And.intro t3 (And.intro c1 (And.intro c2 (And.intro enL_all (And.intro enL_allS @ite_roK))))))))))))) ?_
    refine AR.callW q3 True.intro I1_Rb ?_
    refine goG Y38_Rb True.intro ?_
    refine wdG Y38_Rb True.intro ?_
    refine Fin.gen0 (rs := [.cell 4 31, .tmp 5]) rfl (by first | exact .inl rfl | exact .inr rfl) (finG Y38_Rb) ?_
    skip
    all_goals exact wkG I1_Rb
theorem Y15_Rb : type_of% (And.intro @F_ag_31 (And.intro @F_al_31 (And.intro @F_st_31 (@F_sz_31)))) := And.intro @F_ag_31 (And.intro @F_al_31 (And.intro @F_st_31 (@F_sz_31)))
theorem c_NewR : PC Tryz.prog 15 [] (.ag [(.im (.bool (true))), .sl [] .ro, .sl [] .ro, .sl [] .ro]) := by
  refine PC.enter 2 Tryz.func15 rfl (by decide) rfl rfl (s := []) (by rfl) ?_
  refine wG Y15_Rb True.intro ?_
  refine Fin.gen0 (rs := [.cell 0 31]) rfl (by first | exact .inl rfl | exact .inr rfl) (finG Y15_Rb) ?_
  skip
  all_goals exact wkG I1_Rb
theorem Y8_Rb : type_of% (And.intro @F_ag_46 (And.intro @F_el_28 (And.intro @F_eq_46 (@F_sz_46)))) := And.intro @F_ag_46 (And.intro @F_el_28 (And.intro @F_eq_46 (@F_sz_46)))
theorem c_SameR (a : List En) (ha : a.length ≤ 4194304) : PC Tryz.prog 8 [.sl (a.map enV) .ro, .sl (a.map enV) .ro] (.im (.bool (true))) := by
  refine PC.enter 26 Tryz.func8 rfl (by decide) rfl rfl (s := [(0, .sl (a.map enV) .ro), (1, .sl (a.map enV) .ro)]) (by rfl) ?_
  refine wG Y8_Rb @List.length_map.{0, 0} ?_
  refine AWp.loop ?_
  refine ALp.cutP 0 [(0, .sl (a.map enV) .ro), (1, .sl (a.map enV) .ro), (5, (.im (.int .i64 ((((0 : Nat)) : Int)))))] [] I1_Rb ?_
  refine ALp.upto a.length (fun _ => True) (fun m => ⟨dn 26 [(0, .sl (a.map enV) .ro), (1, .sl (a.map enV) .ro), (5, (.im (.int .i64 ((((m : Nat)) : Int)))))], ofl []⟩) ?_ 0 (Nat.zero_le _) trivial
  intro m hm _ hnext
  by_cases hlt : m < a.length
  · have hlt' : (m : Int) < (a.length : Int) := by omega
    have hg := get_some hlt
    have hm1 := wrap_succ hlt (by omega)
    have hn := hnext (m + 1) (by omega) (by omega) trivial
    clear hnext
    generalize a[m] = e at hg
    refine wdG Y8_Rb (And.intro hlt' (And.intro ENT (And.intro enV_eq (And.intro hg hm1)))) ?_
    refine ALp.cutP 0 [(0, .sl (a.map enV) .ro), (1, .sl (a.map enV) .ro), (5, (.im (.int .i64 ((((m + 1 : Nat)) : Int)))))] [] I1_Rb ?_
    exact hn
  · obtain rfl : m = a.length := by omega
    have hlt' : ¬ (a.length : Int) < (a.length : Int) := by omega
    clear hnext hlt
    refine wG Y8_Rb (And.intro hlt' @List.length_map.{0, 0}) ?_
    exact Fin.oneP
end Go.Proofs.YtianekkfehoedaaGreatDoor
