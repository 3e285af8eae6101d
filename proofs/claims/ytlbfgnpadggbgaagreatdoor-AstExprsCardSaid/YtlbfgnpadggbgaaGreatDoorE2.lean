/- Walks: the text of an expression. -/
import Derived.Test.YtlbfgnpadggbgaaGreatDoorHv
import Derived.Test.YtlbfgnpadggbgaaGreatDoorE1
import Derived.Test.YtlbfgnpadggbgaaGreatDoorM7
namespace Go.Proofs.YtlbfgnpadggbgaaGreatDoor
set_option linter.unusedSimpArgs false
set_option linter.unusedVariables false
set_option linter.unnecessarySimpa false
open Go.RowKit
theorem itoa_small {m : Nat} (h : m ≤ 9) : Lib.itoa (m : Int) = [hexD m] := by
  unfold Lib.itoa
  rw [if_neg (by omega), Int.toNat_natCast, Lib.decDigits, dif_pos (by omega)]
  have : ∀ m < 10, [UInt8.ofNat (48 + m)] = [hexD m] := by decide
  exact this m (by omega)
theorem itoa_w {w : Int} (h : w = 1 ∨ w = 2 ∨ w = 4) : Lib.itoa w = wB w := by 
  rcases h with rfl | rfl | rfl
  · exact itoa_small (m := 1) (by decide)
  · exact itoa_small (m := 2) (by decide)
  · exact itoa_small (m := 4) (by decide)
theorem opdT_len (o : Int) (t : Bs) (need : Nat) : t.length ≤ (opdT o t need).length := by
  unfold opdT
  split
  · simp only [List.length_cons, List.length_append]; omega
  · exact Nat.le_refl _
theorem Y41_E2 : type_of% (And.intro @F_ag_25 (And.intro @F_al_9 (And.intro @F_el_58 (And.intro @F_sz_25 (@F_sz_9))))) := And.intro @F_ag_25 (And.intro @F_al_9 (And.intro @F_el_58 (And.intro @F_sz_25 (@F_sz_9))))
theorem c_operand (e : Ex) (need : Nat) (hn : need ≤ 10) (hlen : (opdT e.op (txE e) need).length ≤ 140737488355328) (q : PC Tryz.prog 21 [exV e] (.im (.string ⟨(txE e).toArray⟩))) : PC Tryz.prog 41 [exV e, (.im (.int .i64 ((need : Int))))] (.im (.string ⟨(opdT e.op (txE e) need).toArray⟩)) := by
  have qs : PC Tryz.prog 64 [exV e] (.im (.int .i64 ((strE e.op : Int)))) := by
    obtain ⟨o, n, s, w, l⟩ := e
    exact c_strength o n s w l
  by_cases h : strE e.op < need
  · have h1 : (strE e.op : Int) < (need : Int) := by omega
    have he : opdT e.op (txE e) need = 40 :: (txE e ++ [41]) := if_pos h
    rw [he] at hlen ⊢
    have qj := c_j3 [40] (txE e) [41] _ rfl hlen
    refine PC.enter 15 Tryz.func41 rfl (by decide) rfl rfl (s := [(0, exV e), (1, (.im (.int .i64 ((need : Int)))))]) (by rfl) ?_
    refine wG Y41_E2 (And.intro (@exV_firm) (And.intro (@exV_strip) (And.intro (@exV_live) (And.intro (@exV_size) (And.intro (@exV_isAg) (And.intro (@exV_cells) (And.intro (@List.getElem?_map.{0, 0}) @Int.natCast_nonneg))))))) ?_
    refine AR.callP qs @exV_eq (And.intro byL_id (And.intro (@exL_id) (And.intro (@exV_id) sL_id))) ?_
    refine goG Y41_E2 (And.intro (@exV_firm) (And.intro (@exV_strip) (And.intro (@exV_live) (And.intro (@exV_size) (And.intro (@exV_isAg) (And.intro (@exV_cells) (And.intro (@List.getElem?_map.{0, 0}) (And.intro (@Int.natCast_nonneg) h1)))))))) ?_
    refine wG Y41_E2 (And.intro (@exV_firm) (And.intro (@exV_strip) (And.intro (@exV_live) (And.intro (@exV_size) (And.intro (@exV_isAg) (And.intro (@exV_cells) (And.intro (@List.getElem?_map.{0, 0}) (And.intro (@Int.natCast_nonneg) h1)))))))) ?_
    refine AR.callP q @exV_eq (And.intro byL_id (And.intro (@exL_id) (And.intro (@exV_id) sL_id))) ?_
    refine goG Y41_E2 True.intro ?_
    refine AR.callW qj True.intro (And.intro byL_id (And.intro (@exL_id) (And.intro (@exV_id) sL_id))) ?_
    refine goG Y41_E2 True.intro ?_
    refine wG Y41_E2 True.intro ?_
    exact Fin.oneP
  · have h1 : ¬ (strE e.op : Int) < (need : Int) := by omega
    have he : opdT e.op (txE e) need = txE e := if_neg h
    rw [he] at hlen ⊢
    refine PC.enter 15 Tryz.func41 rfl (by decide) rfl rfl (s := [(0, exV e), (1, (.im (.int .i64 ((need : Int)))))]) (by rfl) ?_
    refine wG Y41_E2 (And.intro (@exV_firm) (And.intro (@exV_strip) (And.intro (@exV_live) (And.intro (@exV_size) (And.intro (@exV_isAg) (And.intro (@exV_cells) (And.intro (@List.getElem?_map.{0, 0}) @Int.natCast_nonneg))))))) ?_
    refine AR.callP qs @exV_eq (And.intro byL_id (And.intro (@exL_id) (And.intro (@exV_id) sL_id))) ?_
    refine goG Y41_E2 (And.intro (@exV_firm) (And.intro (@exV_strip) (And.intro (@exV_live) (And.intro (@exV_size) (And.intro (@exV_isAg) (And.intro (@exV_cells) (And.intro (@List.getElem?_map.{0, 0}) (And.intro (@Int.natCast_nonneg) h1)))))))) ?_
    refine wG Y41_E2 (And.intro (@exV_firm) (And.intro (@exV_strip) (And.intro (@exV_live) (And.intro (@exV_size) (And.intro (@exV_isAg) (And.intro (@exV_cells) (And.intro (@List.getElem?_map.{0, 0}) (And.intro (@Int.natCast_nonneg) h1)))))))) ?_
    refine AR.callP q @exV_eq (And.intro byL_id (And.intro (@exL_id) (And.intro (@exV_id) sL_id))) ?_
    refine goG Y41_E2 True.intro ?_
    refine wG Y41_E2 True.intro ?_
    exact Fin.oneP
theorem num_small {m : Nat} (h : m ≤ 9) : Lib.itoa (m : Int) = numS m := (itoa_small h).trans (if_pos h).symm
theorem take1 {a : Ex} : ([a] : List Ex)[0]? = some a := rfl
theorem Y21_E2 : type_of% (And.intro @F_ag_22 (And.intro @F_ag_23 (And.intro @F_ag_25 (And.intro @F_ag_3 (And.intro @F_ag_9 (And.intro @F_al_76 (And.intro @F_al_9 (And.intro @F_el_23 (And.intro @F_el_58 (And.intro @F_fl_25_0 (And.intro @F_fl_25_1 (And.intro @F_fl_25_2 (And.intro @F_fl_25_3 (And.intro @F_fl_25_4 (And.intro @F_fl_76_0 (And.intro @F_fl_76_1 (And.intro @F_in_22 (And.intro @F_in_3 (And.intro @F_sz_22 (And.intro @F_sz_23 (And.intro @F_sz_25 (And.intro @F_sz_3 (And.intro @F_sz_76 (And.intro @F_sz_9 (And.intro @F_un_22 (@F_un_3)))))))))))))))))))))))))) := And.intro @F_ag_22 (And.intro @F_ag_23 (And.intro @F_ag_25 (And.intro @F_ag_3 (And.intro @F_ag_9 (And.intro @F_al_76 (And.intro @F_al_9 (And.intro @F_el_23 (And.intro @F_el_58 (And.intro @F_fl_25_0 (And.intro @F_fl_25_1 (And.intro @F_fl_25_2 (And.intro @F_fl_25_3 (And.intro @F_fl_25_4 (And.intro @F_fl_76_0 (And.intro @F_fl_76_1 (And.intro @F_in_22 (And.intro @F_in_3 (And.intro @F_sz_22 (And.intro @F_sz_23 (And.intro @F_sz_25 (And.intro @F_sz_3 (And.intro @F_sz_76 (And.intro @F_sz_9 (And.intro @F_un_22 (@F_un_3)))))))))))))))))))))))))
set_option maxHeartbeats 2000000 in
theorem c_text : ∀ (e : Ex), fitE e → efm e = true → (txE e).length ≤ 140737488355328 → PC Tryz.prog 21 [exV e] (.im (.string ⟨(txE e).toArray⟩)) := by
  refine Ex.induct fun o n s w l hE => ?_
  intro hfit hf hlen
  obtain ⟨hl1, hfE⟩ := fitE_mk hfit
  obtain ⟨_, hn, _⟩ := fitE_num hfit
  rw [efm_mk, Bool.and_eq_true] at hf
  obtain ⟨hb, hl⟩ := hf
  have IH := fun t ht => hE t ht (hfE t ht) (List.all_eq_true.1 hl t ht)
  clear hE hl hfE
  obtain ⟨n, rfl⟩ : ∃ m : Nat, n = m := ⟨n.toNat, by omega⟩
  rw [txE_mk] at hlen ⊢
  rcases ebase_inv hb with ⟨rfl, _, _, h4⟩ | ⟨rfl, h1, _, _, h4⟩ | ⟨ho, _, _, _, h4⟩ | ⟨ho, _, _, _, h4⟩ | ⟨rfl, _, _, h3, h4⟩ | ⟨rfl, _, _, h3, h4⟩
  · rw [show txN 1 (n : Int) s.data.toList w l (l.map txE) = numS n from rfl]
    by_cases h9 : n ≤ 9
    · have h9' : (n : Int) ≤ 9 := by omega
      have q := c_Itoa n (by omega) (by omega)
      rw [num_small h9] at q
      have hw : IntKind.i64.wrap (n : Int) = n := wrap_in (by omega)
      refine PC.enter 86 Tryz.func21 rfl (by decide) rfl rfl (s := [(0, exV (.mk 1 (n : Int) s w l))]) (by rfl) ?_
      simp only [exV_mk]
      refine wG Y21_E2 (And.intro h9' hw) ?_
      refine AR.callP q True.intro (And.intro byL_id (And.intro (@exL_id) (And.intro (@exV_id) sL_id))) ?_
      refine goG Y21_E2 True.intro ?_
      refine wG Y21_E2 True.intro ?_
      exact Fin.oneP
    · have h9' : ¬ (n : Int) ≤ 9 := by omega
      have q := c_address n (by omega)
      rw [show numS n = 48 :: 120 :: hexS n from if_neg h9]
      refine PC.enter 86 Tryz.func21 rfl (by decide) rfl rfl (s := [(0, exV (.mk 1 (n : Int) s w l))]) (by rfl) ?_
      simp only [exV_mk]
      refine wG Y21_E2 h9' ?_
      refine AR.callP q True.intro (And.intro byL_id (And.intro (@exL_id) (And.intro (@exV_id) sL_id))) ?_
      refine goG Y21_E2 True.intro ?_
      refine wG Y21_E2 True.intro ?_
      exact Fin.oneP
  · rw [show txN 2 (n : Int) s.data.toList w l (l.map txE) = s.data.toList from rfl, show ByteArray.mk s.data.toList.toArray = s from rfl]
    refine PC.enter 86 Tryz.func21 rfl (by decide) rfl rfl (s := [(0, exV (.mk 2 (n : Int) s w l))]) (by rfl) ?_
    simp only [exV_mk]
    refine wG Y21_E2 True.intro ?_
    exact Fin.oneP
  · obtain ⟨a, b, rfl⟩ : ∃ a b, l = [a, b] := by
      match l, h4 with
      | [a, b], _ => exact ⟨a, b, rfl⟩
    have e1 : txN o (n : Int) s.data.toList w [a, b] ([a, b].map txE) = opdT a.op (txE a) (stO o) ++ ([32] ++ (symB o ++ ([32] ++ opdT b.op (txE b) (stO o + 1)))) := by
      unfold txN
      rw [if_neg (by omega), if_neg (by omega), if_neg (by omega), if_neg (by omega), if_neg (by omega), if_neg (by omega)]
      rfl
    rw [e1] at hlen ⊢
    obtain ⟨_, _, q3, _⟩ := symB_ok ho
    have hl0 := hlen
    simp only [List.length_append] at hl0
    have la := opdT_len a.op (txE a) (stO o)
    have lb := opdT_len b.op (txE b) (stO o + 1)
    have qa := c_operand a (stO o) (by omega) (by omega) (IH a (by simp) (by omega))
    have qb := c_operand b (stO o + 1) (by omega) (by omega) (IH b (by simp) (by omega))
    have qo := c_binary o ho
    have qj := c_j5 (opdT a.op (txE a) (stO o)) [32] (symB o) [32] (opdT b.op (txE b) (stO o + 1)) _ rfl hlen
    have hw : IntKind.i64.wrap ((stO o : Int) + 1) = ((stO o + 1 : Nat) : Int) := by rw [wrap_in (by omega)]; omega
    have n1 : ¬ o = 1 := by omega
    have n2 : ¬ o = 2 := by omega
    have n3 : ¬ o = 18 := by omega
    have n4 : ¬ o = 19 := by omega
    have n5 : ¬ o = 16 := by omega
    have n6 : ¬ o = 17 := by omega
    clear IH
    refine PC.enter 86 Tryz.func21 rfl (by decide) rfl rfl (s := [(0, exV (.mk o (n : Int) s w [a, b]))]) (by rfl) ?_
    simp only [exV_mk]
    refine wG Y21_E2 (And.intro n1 (And.intro n2 (And.intro n3 (And.intro n4 (And.intro n5 n6))))) ?_
    refine AR.callP qo True.intro (And.intro byL_id (And.intro (@exL_id) (And.intro (@exV_id) sL_id))) ?_
    refine goG Y21_E2 True.intro ?_
    refine wdG Y21_E2 (And.intro (@exV_firm) (And.intro (@exV_strip) (And.intro (@exV_live) (And.intro (@exV_size) (And.intro (@exV_isAg) (And.intro (@exV_cells) (And.intro (@List.getElem?_map.{0, 0}) @Int.natCast_nonneg))))))) ?_
    refine AR.callP qa @exV_eq (And.intro byL_id (And.intro (@exL_id) (And.intro (@exV_id) sL_id))) ?_
    refine goG Y21_E2 (And.intro (@exV_firm) (And.intro (@exV_strip) (And.intro (@exV_live) (And.intro (@exV_size) (And.intro (@exV_isAg) (And.intro (@exV_cells) (And.intro (@List.getElem?_map.{0, 0}) (And.intro (@Int.natCast_nonneg) hw)))))))) ?_
    refine AR.callP qb @exV_eq (And.intro byL_id (And.intro (@exL_id) (And.intro (@exV_id) sL_id))) ?_
    refine goG Y21_E2 True.intro ?_
    refine AR.callW qj True.intro (And.intro byL_id (And.intro (@exL_id) (And.intro (@exV_id) sL_id))) ?_
    refine goG Y21_E2 True.intro ?_
    refine wdG Y21_E2 True.intro ?_
    exact Fin.oneP
  · obtain ⟨a, rfl⟩ : ∃ a, l = [a] := by
      match l, h4 with
      | [a], _ => exact ⟨a, rfl⟩
    rcases ho with rfl | rfl
    · have e1 : txN 16 (n : Int) s.data.toList w [a] ([a].map txE) = [33] ++ opdT a.op (txE a) 9 := rfl
      rw [e1] at hlen ⊢
      have hl0 := hlen
      simp only [List.length_append] at hl0
      have la := opdT_len a.op (txE a) 9
      have qa := c_operand a 9 (by omega) (by omega) (IH a (by simp) (by omega))
      rw [show ((9 : Nat) : Int) = 9 from rfl] at qa
      have qj := c_j2 [33] (opdT a.op (txE a) 9) _ rfl hlen
      refine PC.enter 86 Tryz.func21 rfl (by decide) rfl rfl (s := [(0, exV (.mk 16 (n : Int) s w [a]))]) (by rfl) ?_
      simp only [exV_mk]
      refine wG Y21_E2 (And.intro (@exV_firm) (And.intro (@exV_strip) (And.intro (@exV_live) (And.intro (@exV_size) (And.intro (@exV_isAg) (And.intro (@exV_cells) (And.intro (@List.getElem?_map.{0, 0}) @Int.natCast_nonneg))))))) ?_
      refine AR.callP qa @exV_eq (And.intro byL_id (And.intro (@exL_id) (And.intro (@exV_id) sL_id))) ?_
      refine goG Y21_E2 True.intro ?_
      refine AR.callW qj True.intro (And.intro byL_id (And.intro (@exL_id) (And.intro (@exV_id) sL_id))) ?_
      refine goG Y21_E2 True.intro ?_
      refine wG Y21_E2 True.intro ?_
      exact Fin.oneP
    · have e1 : txN 17 (n : Int) s.data.toList w [a] ([a].map txE) = [45] ++ opdT a.op (txE a) 9 := rfl
      rw [e1] at hlen ⊢
      have hl0 := hlen
      simp only [List.length_append] at hl0
      have la := opdT_len a.op (txE a) 9
      have qa := c_operand a 9 (by omega) (by omega) (IH a (by simp) (by omega))
      rw [show ((9 : Nat) : Int) = 9 from rfl] at qa
      have qj := c_j2 [45] (opdT a.op (txE a) 9) _ rfl hlen
      refine PC.enter 86 Tryz.func21 rfl (by decide) rfl rfl (s := [(0, exV (.mk 17 (n : Int) s w [a]))]) (by rfl) ?_
      simp only [exV_mk]
      refine wG Y21_E2 (And.intro (@exV_firm) (And.intro (@exV_strip) (And.intro (@exV_live) (And.intro (@exV_size) (And.intro (@exV_isAg) (And.intro (@exV_cells) (And.intro (@List.getElem?_map.{0, 0}) @Int.natCast_nonneg))))))) ?_
      refine AR.callP qa @exV_eq (And.intro byL_id (And.intro (@exL_id) (And.intro (@exV_id) sL_id))) ?_
      refine goG Y21_E2 True.intro ?_
      refine AR.callW qj True.intro (And.intro byL_id (And.intro (@exL_id) (And.intro (@exV_id) sL_id))) ?_
      refine goG Y21_E2 True.intro ?_
      refine wG Y21_E2 True.intro ?_
      exact Fin.oneP
  · obtain ⟨a, rfl⟩ : ∃ a, l = [a] := by
      match l, h4 with
      | [a], _ => exact ⟨a, rfl⟩
    have e1 : txN 18 (n : Int) s.data.toList w [a] ([a].map txE) = [108, 111, 97, 100] ++ (wB w ++ ([40] ++ (txE a ++ [41]))) := rfl
    rw [e1] at hlen ⊢
    have hl0 := hlen
    simp only [List.length_append] at hl0
    have qa := IH a (by simp) (by omega)
    have qi := c_Itoa w (by omega) (by omega)
    rw [itoa_w h3] at qi
    have qj := c_j5 [108, 111, 97, 100] (wB w) [40] (txE a) [41] _ rfl hlen
    refine PC.enter 86 Tryz.func21 rfl (by decide) rfl rfl (s := [(0, exV (.mk 18 (n : Int) s w [a]))]) (by rfl) ?_
    simp only [exV_mk]
    refine wdG Y21_E2 (And.intro (@exV_firm) (And.intro (@exV_strip) (And.intro (@exV_live) (And.intro (@exV_size) (And.intro (@exV_isAg) (And.intro (@exV_cells) (And.intro (@List.getElem?_map.{0, 0}) @Int.natCast_nonneg))))))) ?_
    refine AR.callP qi True.intro (And.intro byL_id (And.intro (@exL_id) (And.intro (@exV_id) sL_id))) ?_
    refine goG Y21_E2 (And.intro (@exV_firm) (And.intro (@exV_strip) (And.intro (@exV_live) (And.intro (@exV_size) (And.intro (@exV_isAg) (And.intro (@exV_cells) (And.intro (@List.getElem?_map.{0, 0}) @Int.natCast_nonneg))))))) ?_
    refine AR.callP qa @exV_eq (And.intro byL_id (And.intro (@exL_id) (And.intro (@exV_id) sL_id))) ?_
    refine goG Y21_E2 True.intro ?_
    refine AR.callW qj True.intro (And.intro byL_id (And.intro (@exL_id) (And.intro (@exV_id) sL_id))) ?_
    refine goG Y21_E2 True.intro ?_
    refine wdG Y21_E2 True.intro ?_
    exact Fin.oneP
  · obtain ⟨a, rfl⟩ : ∃ a, l = [a] := by
      match l, h4 with
      | [a], _ => exact ⟨a, rfl⟩
    have e1 : txN 19 (n : Int) s.data.toList w [a] ([a].map txE) = [115, 101, 120, 116] ++ (wB w ++ ([40] ++ (txE a ++ [41]))) := rfl
    rw [e1] at hlen ⊢
    have hl0 := hlen
    simp only [List.length_append] at hl0
    have qa := IH a (by simp) (by omega)
    have qi := c_Itoa w (by omega) (by omega)
    rw [itoa_w (by omega)] at qi
    have qj := c_j5 [115, 101, 120, 116] (wB w) [40] (txE a) [41] _ rfl hlen
    refine PC.enter 86 Tryz.func21 rfl (by decide) rfl rfl (s := [(0, exV (.mk 19 (n : Int) s w [a]))]) (by rfl) ?_
    simp only [exV_mk]
    refine wdG Y21_E2 (And.intro (@exV_firm) (And.intro (@exV_strip) (And.intro (@exV_live) (And.intro (@exV_size) (And.intro (@exV_isAg) (And.intro (@exV_cells) (And.intro (@List.getElem?_map.{0, 0}) @Int.natCast_nonneg))))))) ?_
    refine AR.callP qi True.intro (And.intro byL_id (And.intro (@exL_id) (And.intro (@exV_id) sL_id))) ?_
    refine goG Y21_E2 (And.intro (@exV_firm) (And.intro (@exV_strip) (And.intro (@exV_live) (And.intro (@exV_size) (And.intro (@exV_isAg) (And.intro (@exV_cells) (And.intro (@List.getElem?_map.{0, 0}) @Int.natCast_nonneg))))))) ?_
    refine AR.callP qa @exV_eq (And.intro byL_id (And.intro (@exL_id) (And.intro (@exV_id) sL_id))) ?_
    refine goG Y21_E2 True.intro ?_
    refine AR.callW qj True.intro (And.intro byL_id (And.intro (@exL_id) (And.intro (@exV_id) sL_id))) ?_
    refine goG Y21_E2 True.intro ?_
    refine wdG Y21_E2 True.intro ?_
    exact Fin.oneP
theorem Y8_E2 : type_of% (And.intro @F_ag_25 (@F_sz_25)) := And.intro @F_ag_25 (@F_sz_25)
theorem c_PrintExpr (e : Ex) (hfit : fitE e) (hlen : (prE e).length ≤ 140737488355328) : PC Tryz.prog 8 [exV e] (.im (.string ⟨(prE e).toArray⟩)) := by
  have q1 := c_eshallow e hfit 64 (by unfold I64; omega)
  unfold prE at hlen ⊢
  cases h1 : esh e 64 with
  | false =>
    rw [h1] at q1
    refine PC.enter 13 Tryz.func8 rfl (by decide) rfl rfl (s := [(0, exV e)]) (by rfl) ?_
    refine wG Y8_E2 (And.intro (@exV_firm) (And.intro (@exV_strip) (And.intro (@exV_live) (And.intro (@exV_size) (And.intro (@exV_isAg) (And.intro (@exV_cells) (And.intro (@List.getElem?_map.{0, 0}) @Int.natCast_nonneg))))))) ?_
    refine AR.callP q1 @exV_eq (And.intro byL_id (And.intro (@exL_id) (And.intro (@exV_id) sL_id))) ?_
    refine goG Y8_E2 True.intro ?_
    refine wG Y8_E2 True.intro ?_
    exact Fin.oneP
  | true =>
    rw [h1] at q1 hlen
    have q2 := c_eformed e hfit
    cases h2 : efm e with
    | false =>
      rw [h2] at q2
      refine PC.enter 13 Tryz.func8 rfl (by decide) rfl rfl (s := [(0, exV e)]) (by rfl) ?_
      refine wG Y8_E2 (And.intro (@exV_firm) (And.intro (@exV_strip) (And.intro (@exV_live) (And.intro (@exV_size) (And.intro (@exV_isAg) (And.intro (@exV_cells) (And.intro (@List.getElem?_map.{0, 0}) @Int.natCast_nonneg))))))) ?_
      refine AR.callP q1 @exV_eq (And.intro byL_id (And.intro (@exL_id) (And.intro (@exV_id) sL_id))) ?_
      refine goG Y8_E2 (And.intro (@exV_firm) (And.intro (@exV_strip) (And.intro (@exV_live) (And.intro (@exV_size) (And.intro (@exV_isAg) (And.intro (@exV_cells) (And.intro (@List.getElem?_map.{0, 0}) @Int.natCast_nonneg))))))) ?_
      refine AR.callP q2 @exV_eq (And.intro byL_id (And.intro (@exL_id) (And.intro (@exV_id) sL_id))) ?_
      refine goG Y8_E2 True.intro ?_
      refine wG Y8_E2 True.intro ?_
      exact Fin.oneP
    | true =>
      rw [h2] at q2 hlen
      have q3 := c_text e hfit h2 hlen
      refine PC.enter 13 Tryz.func8 rfl (by decide) rfl rfl (s := [(0, exV e)]) (by rfl) ?_
      refine wG Y8_E2 (And.intro (@exV_firm) (And.intro (@exV_strip) (And.intro (@exV_live) (And.intro (@exV_size) (And.intro (@exV_isAg) (And.intro (@exV_cells) (And.intro (@List.getElem?_map.{0, 0}) @Int.natCast_nonneg))))))) ?_
      refine AR.callP q1 @exV_eq (And.intro byL_id (And.intro (@exL_id) (And.intro (@exV_id) sL_id))) ?_
      refine goG Y8_E2 (And.intro (@exV_firm) (And.intro (@exV_strip) (And.intro (@exV_live) (And.intro (@exV_size) (And.intro (@exV_isAg) (And.intro (@exV_cells) (And.intro (@List.getElem?_map.{0, 0}) @Int.natCast_nonneg))))))) ?_
      refine AR.callP q2 @exV_eq (And.intro byL_id (And.intro (@exL_id) (And.intro (@exV_id) sL_id))) ?_
      refine goG Y8_E2 True.intro ?_
      refine wG Y8_E2 (And.intro (@exV_firm) (And.intro (@exV_strip) (And.intro (@exV_live) (And.intro (@exV_size) (And.intro (@exV_isAg) (And.intro (@exV_cells) (And.intro (@List.getElem?_map.{0, 0}) @Int.natCast_nonneg))))))) ?_
      refine AR.callP q3 @exV_eq (And.intro byL_id (And.intro (@exL_id) (And.intro (@exV_id) sL_id))) ?_
      refine goG Y8_E2 True.intro ?_
      refine wG Y8_E2 True.intro ?_
      exact Fin.oneP
end Go.Proofs.YtlbfgnpadggbgaaGreatDoor

