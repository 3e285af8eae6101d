/- Walks: the order of entries. Walks: names and comments. Walks: texts of entries; other entries with the same name; binary search. Walks: is the name taken; binary search. Walks: binary search. -/
import Derived.Test.YtianekkfehoedaaGreatDoorHv
import Derived.Test.YtianekkfehoedaaGreatDoorYg
import Derived.Test.YtianekkfehoedaaGreatDoorKB
namespace Go.Proofs.YtianekkfehoedaaGreatDoor
set_option linter.unusedSimpArgs false
set_option linter.unusedVariables false
set_option linter.unnecessarySimpa false
open Go.RowKit
theorem I1_Z1 : type_of% (And.intro enV_id (And.intro enL_id (And.intro byL_id (And.intro lsV_id lsL_id)))) := (And.intro enV_id (And.intro enL_id (And.intro byL_id (And.intro lsV_id lsL_id))))
theorem c_nanU (a : Int) : PC Tryz.prog 70 [(.im (.int .u32 (a)))] (.im (.bool (false))) := by
  refine PC.enter 6 Tryz.func70 rfl (by decide) rfl rfl (s := [(0, (.im (.int .u32 (a))))]) (by rfl) ?_
  refine wG True.intro True.intro ?_
  exact Fin.oneP
theorem c_nanI (a : Int) : PC Tryz.prog 71 [(.im (.int .i64 (a)))] (.im (.bool (false))) := by
  refine PC.enter 6 Tryz.func71 rfl (by decide) rfl rfl (s := [(0, (.im (.int .i64 (a))))]) (by rfl) ?_
  refine wG True.intro True.intro ?_
  exact Fin.oneP
theorem c_cmpU (a b : Int) : PC Tryz.prog 59 [(.im (.int .u32 (a))), (.im (.int .u32 (b)))] (.im (.int .i64 (cmpI a b))) := by
  have h1 := c_nanU a
  have h2 := c_nanU b
  refine PC.enter 20 Tryz.func59 rfl (by decide) rfl rfl (s := [(0, (.im (.int .u32 (a)))), (1, (.im (.int .u32 (b))))]) (by rfl) ?_
  refine wG True.intro True.intro ?_
  refine AR.callP h1 True.intro I1_Z1 ?_
  refine goG True.intro True.intro ?_
  refine wG True.intro True.intro ?_
  refine AR.callP h2 True.intro I1_Z1 ?_
  refine goG True.intro True.intro ?_
  unfold cmpI
  by_cases p : a < b
  · rw [if_pos p]
    refine wG True.intro p ?_
    exact Fin.oneP
  · rw [if_neg p]
    by_cases q : b < a
    · rw [if_pos q]
      refine wG True.intro (And.intro p q) ?_
      exact Fin.oneP
    · rw [if_neg q]
      refine wG True.intro (And.intro p q) ?_
      exact Fin.oneP
theorem c_cmpS (a b : Int) : PC Tryz.prog 60 [(.im (.int .i64 (a))), (.im (.int .i64 (b)))] (.im (.int .i64 (cmpI a b))) := by
  have h1 := c_nanI a
  have h2 := c_nanI b
  refine PC.enter 20 Tryz.func60 rfl (by decide) rfl rfl (s := [(0, (.im (.int .i64 (a)))), (1, (.im (.int .i64 (b))))]) (by rfl) ?_
  refine wG True.intro True.intro ?_
  refine AR.callP h1 True.intro I1_Z1 ?_
  refine goG True.intro True.intro ?_
  refine wG True.intro True.intro ?_
  refine AR.callP h2 True.intro I1_Z1 ?_
  refine goG True.intro True.intro ?_
  unfold cmpI
  by_cases p : a < b
  · rw [if_pos p]
    refine wG True.intro p ?_
    exact Fin.oneP
  · rw [if_neg p]
    by_cases q : b < a
    · rw [if_pos q]
      refine wG True.intro (And.intro p q) ?_
      exact Fin.oneP
    · rw [if_neg q]
      refine wG True.intro (And.intro p q) ?_
      exact Fin.oneP
theorem Y58_Z1 : type_of% (And.intro @F_ag_3 (And.intro @F_el_105 (@F_sz_3))) := And.intro @F_ag_3 (And.intro @F_el_105 (@F_sz_3))
theorem c_or (a b c : Int) : PC Tryz.prog 58 [.sl [(.im (.int .i64 (a))), (.im (.int .i64 (b))), (.im (.int .i64 (c)))] .ro] (.im (.int .i64 (orI a b c))) := by
  have w1 : IntKind.i64.wrap 1 = 1 := by decide
  have w2 : IntKind.i64.wrap 2 = 2 := by decide
  have w3 : IntKind.i64.wrap 3 = 3 := by decide
  refine PC.enter 18 Tryz.func58 rfl (by decide) rfl rfl (s := [(0, .sl [(.im (.int .i64 (a))), (.im (.int .i64 (b))), (.im (.int .i64 (c)))] .ro)]) (by rfl) ?_
  refine wG Y58_Z1 True.intro ?_
  refine AWp.loop ?_
  refine ALp.round ?_
  unfold orI
  by_cases ha : a = 0
  case neg =>
    rw [if_pos ha]
    refine wG Y58_Z1 ha ?_
    exact Fin.oneP
  subst ha
  rw [if_neg (by decide)]
  refine wG Y58_Z1 (And.intro w1 (And.intro w2 w3)) ?_
  refine ALp.round ?_
  by_cases hb : b = 0
  case neg =>
    rw [if_pos hb]
    refine wG Y58_Z1 hb ?_
    exact Fin.oneP
  subst hb
  rw [if_neg (by decide)]
  refine wG Y58_Z1 (And.intro w1 (And.intro w2 w3)) ?_
  refine ALp.round ?_
  by_cases hc : c = 0
  case neg =>
    refine wG Y58_Z1 hc ?_
    exact Fin.oneP
  subst hc
  refine wG Y58_Z1 (And.intro w1 (And.intro w2 w3)) ?_
  refine ALp.round ?_
  refine wG Y58_Z1 True.intro ?_
  exact Fin.oneP
theorem Y45_Z1 : type_of% (And.intro @F_ag_3 (And.intro @F_ag_44 (And.intro @F_al_3 (And.intro @F_el_105 (And.intro @F_fl_46_0 (And.intro @F_fl_46_1 (And.intro @F_fl_46_2 (And.intro @F_sz_3 (@F_sz_44))))))))) := And.intro @F_ag_3 (And.intro @F_ag_44 (And.intro @F_al_3 (And.intro @F_el_105 (And.intro @F_fl_46_0 (And.intro @F_fl_46_1 (And.intro @F_fl_46_2 (And.intro @F_sz_3 (@F_sz_44))))))))
theorem c_cmpE (a b : En) : PC Tryz.prog 45 [enV a, enV b] (.im (.int .i64 (cmpE a b))) := by
  have h1 := c_cmpU a.addr b.addr
  have h2 := c_cmpS a.kind b.kind
  have h3 := c_cmpS a.var b.var
  have h4 := c_or (cmpI a.addr b.addr) (cmpI a.kind b.kind) (cmpI a.var b.var)
  refine PC.enter 22 Tryz.func45 rfl (by decide) rfl rfl (s := [(0, enV a), (1, enV b)]) (by rfl) ?_
  unfold cmpE
  simp only [enV_eq]
  generalize cmpI a.addr b.addr = x at h1 h4 ⊢
  generalize cmpI a.kind b.kind = y at h2 h4 ⊢
  generalize cmpI a.var b.var = z at h3 h4 ⊢
  refine wdG Y45_Z1 True.intro ?_
  refine AR.callP h1 True.intro I1_Z1 ?_
  refine goG Y45_Z1 True.intro ?_
  refine AR.callP h2 True.intro I1_Z1 ?_
  refine goG Y45_Z1 True.intro ?_
  refine AR.callP h3 True.intro I1_Z1 ?_
  refine goG Y45_Z1 True.intro ?_
  refine AR.callW h4 True.intro I1_Z1 ?_
  refine goG Y45_Z1 True.intro ?_
  refine wdG Y45_Z1 True.intro ?_
  exact Fin.oneP
theorem Y49_Z1 : type_of% (And.intro @F_ag_3 (And.intro @F_fl_46_0 (And.intro @F_fl_46_1 (@F_sz_3)))) := And.intro @F_ag_3 (And.intro @F_fl_46_0 (And.intro @F_fl_46_1 (@F_sz_3)))
theorem c_vkey (e : En) : PC Tryz.prog 49 [enV e] (.im (.bool (vkeyB e))) := by
  refine PC.enter 27 Tryz.func49 rfl (by decide) rfl rfl (s := [(0, enV e)]) (by rfl) ?_
  unfold vkeyB
  simp only [enV_eq]
  obtain ⟨k, v, a, t⟩ := e
  simp only
  by_cases hk : k = 4
  · rw [if_pos hk]
    cases h1 : decide (0 ≤ v) with
    | true =>
      have h1 : 0 ≤ v := of_decide_eq_true h1
      cases h2 : decide (v < 256) with
      | true =>
        have h2 : v < 256 := of_decide_eq_true h2
        refine wG Y49_Z1 (And.intro hk (And.intro h1 h2)) ?_
        exact Fin.oneP
      | false =>
        have h2 : ¬ v < 256 := of_decide_eq_false h2
        refine wG Y49_Z1 (And.intro hk (And.intro h1 h2)) ?_
        exact Fin.oneP
    | false =>
      have h1 : ¬ 0 ≤ v := of_decide_eq_false h1
      refine wG Y49_Z1 (And.intro hk h1) ?_
      exact Fin.oneP
  · rw [if_neg hk]
    cases h1 : decide (1 ≤ k) with
    | false =>
      have h1 : ¬ 1 ≤ k := of_decide_eq_false h1
      refine wG Y49_Z1 (And.intro hk h1) ?_
      exact Fin.oneP
    | true =>
      have h1 : 1 ≤ k := of_decide_eq_true h1
      cases h2 : decide (k ≤ 3) with
      | false =>
        have h2 : ¬ k ≤ 3 := of_decide_eq_false h2
        refine wG Y49_Z1 (And.intro hk (And.intro h1 h2)) ?_
        exact Fin.oneP
      | true =>
        have h2 : k ≤ 3 := of_decide_eq_true h2
        cases h3 : decide (v = 0) with
        | false =>
          have h3 : ¬ v = 0 := of_decide_eq_false h3
          refine wG Y49_Z1 (And.intro hk (And.intro h1 (And.intro h2 h3))) ?_
          exact Fin.oneP
        | true =>
          have h3 : v = 0 := of_decide_eq_true h3
          refine wG Y49_Z1 (And.intro hk (And.intro h1 (And.intro h2 h3))) ?_
          exact Fin.oneP
end Go.Proofs.YtianekkfehoedaaGreatDoor
namespace Go.Proofs.YtianekkfehoedaaGreatDoor
set_option linter.unusedSimpArgs false
set_option linter.unusedVariables false
set_option linter.unnecessarySimpa false
open Go.RowKit
theorem drop_get {s : Bs} {m : Nat} {c : UInt8} (h : s[m]? = some c) : s.drop m = c :: s.drop (m + 1) := by
  obtain ⟨hm, rfl⟩ := List.getElem?_eq_some_iff.1 h
  exact List.drop_eq_getElem_cons hm
theorem nmA_at {s : Bs} {m : Nat} {c : UInt8} (h : s[m]? = some c) : nmA m (s.drop m) = (nmC m c && nmA (m + 1) (s.drop (m + 1))) := by rw [drop_get h]; rfl
theorem Y63_Z2 : type_of% (@F_un_9) := @F_un_9
theorem I1_Z2 : type_of% (And.intro enV_id (And.intro enL_id (And.intro byL_id (And.intro lsV_id lsL_id)))) := (And.intro enV_id (And.intro enL_id (And.intro byL_id (And.intro lsV_id lsL_id))))
theorem c_isName (s : Bs) (hs : s.length ≤ 140737488355328) : PC Tryz.prog 63 [(.im (.string (bA (s))))] (.im (.bool (nameB s))) := by
  refine PC.enter 55 Tryz.func63 rfl (by decide) rfl rfl (s := [(0, (.im (.string (bA (s)))))]) (by rfl) ?_
  refine wG Y63_Z2 bA_size ?_
  refine AWp.loop ?_
  refine ALp.cutP 0 [(0, (.im (.string (bA (s))))), (7, (.im (.int .i64 (s.length)))), (8, (.im (.int .i64 ((((0 : Nat)) : Int)))))] [] I1_Z2 ?_
  refine ALp.upto s.length (fun m => nmA 0 s = nmA m (s.drop m)) (fun m => ⟨dn 55 [(0, (.im (.string (bA (s))))), (7, (.im (.int .i64 (s.length)))), (8, (.im (.int .i64 ((((m : Nat)) : Int)))))], ofl []⟩) ?_ 0 (Nat.zero_le _) rfl
  intro m hm hI hnext
  by_cases hlt : m < s.length
  · have hlt' : (m : Int) < (s.length : Int) := by omega
    have hg : s[m]? = some s[m] := List.getElem?_eq_getElem hlt
    have hg' := (bA_get47 s m).trans hg
    have h0 : (0 : Int) ≤ (m : Int) := by omega
    have hm1 := wrap_succ (m := m) (N := 140737488355328) (by omega) (by decide)
    rw [nmA_at hg] at hI
    generalize s[m] = c at hg' hI
    have hn := hnext (m + 1) (by omega) (by omega)
    clear hnext hg
    refine wG Y63_Z2 (And.intro hlt' (And.intro h0 hg')) ?_
    refine AWp.condAB rfl rfl (fun hE => ?_) (fun hE => ?_)
    · have hf : nmC m c = false := by
        unfold nmC letB
        simp only [Bool.and_eq_true, Bool.or_eq_true, decide_eq_true_eq, Bool.not_eq_true', Bool.or_eq_false_iff, Bool.and_eq_false_iff, decide_eq_false_iff_not] at hE ⊢
        omega
      have hB : nameB s = false := by unfold nameB; rw [hI, hf]; rfl
      rw [hB]
      clear hE
      refine wG Y63_Z2 True.intro ?_
      exact Fin.oneP
    · have hf : nmC m c = true := by
        unfold nmC letB
        simp only [Bool.and_eq_true, Bool.or_eq_true, decide_eq_true_eq, Bool.not_eq_false', Bool.or_eq_false_iff, Bool.and_eq_false_iff, decide_eq_false_iff_not] at hE ⊢
        omega
      clear hE
      refine wG Y63_Z2 hm1 ?_
      refine ALp.cutP 0 [(0, (.im (.string (bA (s))))), (7, (.im (.int .i64 (s.length)))), (8, (.im (.int .i64 ((((m + 1 : Nat)) : Int)))))] [] I1_Z2 ?_
      exact hn (by rw [hI, hf]; rfl)
  · obtain rfl : m = s.length := by omega
    have hlt' : ¬ (s.length : Int) < (s.length : Int) := by omega
    have hI : nmA 0 s = true := by rw [hI, List.drop_length]; rfl
    clear hnext hlt
    unfold nameB
    rw [hI]
    by_cases h1 : 1 ≤ s.length
    · have h1' : (s.length : Int) ≥ 1 := by omega
      by_cases h2 : s.length ≤ 32
      · have h2' : (s.length : Int) ≤ 32 := by omega
        rw [decide_eq_true h1, decide_eq_true h2]
        refine wG Y63_Z2 (And.intro hlt' (And.intro h1' (And.intro h2' bA_size))) ?_
        exact Fin.oneP
      · have h2' : ¬ (s.length : Int) ≤ 32 := by omega
        rw [decide_eq_true h1, decide_eq_false h2]
        refine wG Y63_Z2 (And.intro hlt' (And.intro h1' (And.intro h2' bA_size))) ?_
        exact Fin.oneP
    · have h1' : ¬ (s.length : Int) ≥ 1 := by omega
      rw [decide_eq_false h1]
      refine wG Y63_Z2 (And.intro hlt' (And.intro h1' bA_size)) ?_
      exact Fin.oneP
theorem all_drop {s : Bs} {m : Nat} {c : UInt8} (p : UInt8 → Bool) (h : s[m]? = some c) : (s.drop m).all p = (p c && (s.drop (m + 1)).all p) := by rw [drop_get h]; rfl
theorem Y61_Z2 : type_of% (@F_un_9) := @F_un_9
theorem c_isComment (s : Bs) (hs : s.length ≤ 140737488355328) : PC Tryz.prog 61 [(.im (.string (bA (s))))] (.im (.bool (commB s))) := by
  refine PC.enter 28 Tryz.func61 rfl (by decide) rfl rfl (s := [(0, (.im (.string (bA (s)))))]) (by rfl) ?_
  refine wG Y61_Z2 bA_size ?_
  refine AWp.loop ?_
  refine ALp.cutP 0 [(0, (.im (.string (bA (s))))), (5, (.im (.int .i64 (s.length)))), (6, (.im (.int .i64 ((((0 : Nat)) : Int)))))] [] I1_Z2 ?_
  refine ALp.upto s.length (fun m => s.all cmC = (s.drop m).all cmC) (fun m => ⟨dn 28 [(0, (.im (.string (bA (s))))), (5, (.im (.int .i64 (s.length)))), (6, (.im (.int .i64 ((((m : Nat)) : Int)))))], ofl []⟩) ?_ 0 (Nat.zero_le _) rfl
  intro m hm hI hnext
  by_cases hlt : m < s.length
  · have hlt' : (m : Int) < (s.length : Int) := by omega
    have hg : s[m]? = some s[m] := List.getElem?_eq_getElem hlt
    have hg' := (bA_get47 s m).trans hg
    have h0 : (0 : Int) ≤ (m : Int) := by omega
    have hm1 := wrap_succ (m := m) (N := 140737488355328) (by omega) (by decide)
    rw [all_drop cmC hg] at hI
    generalize s[m] = c at hg' hI
    have hn := hnext (m + 1) (by omega) (by omega)
    clear hnext hg
    refine wG Y61_Z2 (And.intro hlt' (And.intro h0 hg')) ?_
    refine AWp.condAB rfl rfl (fun hE => ?_) (fun hE => ?_)
    · have hf : cmC c = false := by
        unfold cmC
        simp only [Bool.and_eq_true, Bool.or_eq_true, decide_eq_true_eq, Bool.and_eq_false_iff, decide_eq_false_iff_not] at hE ⊢
        omega
      have hB : commB s = false := by unfold commB; rw [hI, hf]; rfl
      rw [hB]
      clear hE
      refine wG Y61_Z2 True.intro ?_
      exact Fin.oneP
    · have hf : cmC c = true := by
        unfold cmC
        simp only [Bool.and_eq_true, Bool.or_eq_false_iff, decide_eq_true_eq, Bool.and_eq_false_iff, decide_eq_false_iff_not] at hE ⊢
        omega
      clear hE
      refine wG Y61_Z2 hm1 ?_
      refine ALp.cutP 0 [(0, (.im (.string (bA (s))))), (5, (.im (.int .i64 (s.length)))), (6, (.im (.int .i64 ((((m + 1 : Nat)) : Int)))))] [] I1_Z2 ?_
      exact hn (by rw [hI, hf]; rfl)
  · obtain rfl : m = s.length := by omega
    have hlt' : ¬ (s.length : Int) < (s.length : Int) := by omega
    have hI : s.all cmC = true := by rw [hI, List.drop_length]; rfl
    clear hnext hlt
    unfold commB
    rw [hI]
    by_cases h1 : 1 ≤ s.length
    · have h1' : (s.length : Int) ≥ 1 := by omega
      by_cases h2 : s.length ≤ 256
      · have h2' : (s.length : Int) ≤ 256 := by omega
        rw [decide_eq_true h1, decide_eq_true h2]
        refine wG Y61_Z2 (And.intro hlt' (And.intro h1' (And.intro h2' bA_size))) ?_
        exact Fin.oneP
      · have h2' : ¬ (s.length : Int) ≤ 256 := by omega
        rw [decide_eq_true h1, decide_eq_false h2]
        refine wG Y61_Z2 (And.intro hlt' (And.intro h1' (And.intro h2' bA_size))) ?_
        exact Fin.oneP
    · have h1' : ¬ (s.length : Int) ≥ 1 := by omega
      rw [decide_eq_false h1]
      refine wG Y61_Z2 (And.intro hlt' (And.intro h1' bA_size)) ?_
      exact Fin.oneP
end Go.Proofs.YtianekkfehoedaaGreatDoor
namespace Go.Proofs.YtianekkfehoedaaGreatDoor
set_option linter.unusedSimpArgs false
set_option linter.unusedVariables false
set_option linter.unnecessarySimpa false
open Go.RowKit
theorem bA_inj {a b : Bs} (h : bA a = bA b) : a = b := by rw [← bA_list a, h, bA_list]
theorem bA_eq (a b : Bs) : ((bA a).toList == (bA b).toList) = (a == b) := by
  rw [ByteArray.toList_eq, ByteArray.toList_eq, bA_list, bA_list]
theorem Y50_Z3 : type_of% (And.intro @F_ag_3 (And.intro @F_ag_9 (And.intro @F_al_100 (And.intro @F_fl_46_0 (And.intro @F_fl_46_3 (And.intro @F_sz_100 (And.intro @F_sz_3 (And.intro @F_sz_9 (@F_un_9))))))))) := And.intro @F_ag_3 (And.intro @F_ag_9 (And.intro @F_al_100 (And.intro @F_fl_46_0 (And.intro @F_fl_46_3 (And.intro @F_sz_100 (And.intro @F_sz_3 (And.intro @F_sz_9 (@F_un_9))))))))
theorem I1_Z3 : type_of% (And.intro enV_id (And.intro enL_id (And.intro byL_id (And.intro lsV_id (And.intro lsL_id @tyV_id))))) := (And.intro enV_id (And.intro enL_id (And.intro byL_id (And.intro lsV_id (And.intro lsL_id @tyV_id)))))
theorem c_vtext (e : En) (hs : e.text.length ≤ 140737488355328) : PC Tryz.prog 50 [enV e] (.im (.bool (vtextB e))) := by
  have q1 := c_isComment e.text hs
  have q2 := c_Parse e.text hs
  have q3 := c_isName e.text hs
  unfold vtextB
  simp only [enV_eq]
  obtain ⟨k, v, a, t⟩ := e
  simp only at hs q1 q2 q3 ⊢
  refine PC.enter 31 Tryz.func50 rfl (by decide) rfl rfl (s := [(0, .ag [(.im (.int .i64 (k))), (.im (.int .i64 (v))), (.im (.int .u32 (a))), (.im (.string (bA (t))))])]) (by rfl) ?_
  by_cases h2 : k = 2
  · rw [if_pos h2]
    refine wG Y50_Z3 h2 ?_
    refine AR.callP q1 True.intro I1_Z3 ?_
    refine goG Y50_Z3 True.intro ?_
    refine wG Y50_Z3 True.intro ?_
    exact Fin.oneP
  rw [if_neg h2]
  by_cases h3 : k = 3
  · rw [if_pos h3]
    generalize (psT t).1 = T at q2
    generalize (psT t).2 = E at q2 ⊢
    refine wG Y50_Z3 (And.intro h2 h3) ?_
    refine AR.callP q2 True.intro I1_Z3 ?_
    refine goG Y50_Z3 (And.intro (@tyV_firm) (And.intro (@fdV_firm) (And.intro (@tyV_strip) (And.intro (@fdV_strip) (And.intro (@tyV_live) (And.intro (@tyV_size) (And.intro (@tyV_isAg) (And.intro (@tyV_cells) (And.intro (@fdV_live) (And.intro (@fdV_size) (And.intro (@fdV_isAg) (And.intro (@fdV_cells) (And.intro (@List.getElem?_map.{0, 0}) @Int.natCast_nonneg))))))))))))) ?_
    by_cases h4 : E = 0
    · by_cases h5 : t.length ≤ 65535
      · have h5' : (t.length : Int) ≤ 65535 := by omega
        rw [decide_eq_true h4, decide_eq_true h5]
        refine wG Y50_Z3 (And.intro h4 (And.intro h5' bA_size)) ?_
        exact Fin.oneP
      · have h5' : ¬ (t.length : Int) ≤ 65535 := by omega
        rw [decide_eq_true h4, decide_eq_false h5]
        refine wG Y50_Z3 (And.intro h4 (And.intro h5' bA_size)) ?_
        exact Fin.oneP
    · rw [decide_eq_false h4]
      refine wG Y50_Z3 h4 ?_
      exact Fin.oneP
  · rw [if_neg h3]
    refine wG Y50_Z3 (And.intro h2 h3) ?_
    refine AR.callP q3 True.intro I1_Z3 ?_
    refine goG Y50_Z3 True.intro ?_
    refine wG Y50_Z3 True.intro ?_
    exact Fin.oneP
theorem Y65_Z3 : type_of% (And.intro @F_ag_3 (And.intro @F_ag_44 (And.intro @F_ag_46 (And.intro @F_ag_9 (And.intro @F_fl_46_0 (And.intro @F_fl_46_2 (And.intro @F_fl_46_3 (And.intro @F_sz_3 (And.intro @F_sz_44 (And.intro @F_sz_46 (@F_sz_9))))))))))) := And.intro @F_ag_3 (And.intro @F_ag_44 (And.intro @F_ag_46 (And.intro @F_ag_9 (And.intro @F_fl_46_0 (And.intro @F_fl_46_2 (And.intro @F_fl_46_3 (And.intro @F_sz_3 (And.intro @F_sz_44 (And.intro @F_sz_46 (@F_sz_9))))))))))
theorem c_tk1 (e o : En) : DC Tryz.prog 65 [enV o, .pt 0 0] [.box [(.im (.int .i64 (e.kind))), (.im (.int .i64 (e.var))), (.im (.int .u32 (e.addr))), (.im (.string (bA (e.text))))]] (.im (.bool (tkC e o))) [.box [(.im (.int .i64 (e.kind))), (.im (.int .i64 (e.var))), (.im (.int .u32 (e.addr))), (.im (.string (bA (e.text))))]] := by
  have q := c_cmpE o e
  have hz := cmpE_zero o e
  have he := bA_eq o.text e.text
  unfold tkC
  simp only [enV_eq] at q ⊢
  generalize keyE o e = K at hz ⊢
  generalize cmpE o e = c at hz q
  obtain ⟨k, v, a, t⟩ := e
  obtain ⟨k', v', a', t'⟩ := o
  simp only at q hz he ⊢
  refine DC.enter 37 Tryz.func65 rfl (by decide) rfl rfl (s := [(0, .ag [(.im (.int .i64 (k'))), (.im (.int .i64 (v'))), (.im (.int .u32 (a'))), (.im (.string (bA (t'))))]), (1, .pt 0 0)]) (by rfl) ?_
  by_cases h1 : k' = k
  case neg =>
    rw [decide_eq_false h1]
    refine wG Y65_Z3 h1 ?_
    exact Fin.oneSP I1_Z3
  subst h1
  rw [decide_eq_true rfl]
  by_cases h2 : t' = t
  case neg =>
    have h3 : (t' == t) = false := by simpa using h2
    rw [h3] at he ⊢
    refine wG Y65_Z3 he ?_
    exact Fin.oneSP I1_Z3
  subst h2
  rw [show (t' == t') = true from beq_self_eq_true _] at he ⊢
  refine wG Y65_Z3 he ?_
  refine AR.callP q True.intro I1_Z3 ?_
  cases K with
  | true =>
    have h0 : c = 0 := hz.2 rfl
    refine goG Y65_Z3 h0 ?_
    refine wG Y65_Z3 h0 ?_
    exact Fin.oneSP I1_Z3
  | false =>
    have h0 : ¬ c = 0 := fun h => by have := hz.1 h; cases this
    refine goG Y65_Z3 h0 ?_
    by_cases k1 : k' = 1
    · rw [decide_eq_true k1]
      have k1 : (k' = 1) = True := eq_true k1
      refine wG Y65_Z3 (And.intro h0 k1) ?_
      exact Fin.oneSP I1_Z3
    · rw [decide_eq_false k1]
      by_cases k4 : k' = 4
      · rw [decide_eq_true k4]
        have k4 : (k' = 4) = True := eq_true k4
        by_cases ka : a' = a
        · rw [decide_eq_true ka]
          have ka : (a' = a) = True := eq_true ka
          refine wG Y65_Z3 (And.intro h0 (And.intro k1 (And.intro k4 ka))) ?_
          exact Fin.oneSP I1_Z3
        · rw [decide_eq_false ka]
          refine wG Y65_Z3 (And.intro h0 (And.intro k1 (And.intro k4 ka))) ?_
          exact Fin.oneSP I1_Z3
      · rw [decide_eq_false k4]
        refine wG Y65_Z3 (And.intro h0 (And.intro k1 k4)) ?_
        exact Fin.oneSP I1_Z3
end Go.Proofs.YtianekkfehoedaaGreatDoor
namespace Go.Proofs.YtianekkfehoedaaGreatDoor
set_option linter.unusedSimpArgs false
set_option linter.unusedVariables false
set_option linter.unnecessarySimpa false
open Go.RowKit
/-- The place of the first that fits, or -1. -/
def idx {α : Type} (l : List α) (p : α → Bool) : Int := match l.findIdx? p with
  | some k => k
  | none => -1
theorem idx_none {α : Type} {l : List α} {p : α → Bool} (h : AllTo (fun x => !p x) l l.length) : idx l p = -1 := by
  unfold idx
  have : l.findIdx? p = none := by
    rw [List.findIdx?_eq_none_iff]
    intro x hx
    obtain ⟨j, hj, rfl⟩ := List.getElem_of_mem hx
    simpa using h j hj hj
  rw [this]
theorem idx_some {α : Type} {l : List α} {p : α → Bool} {m : Nat} (hm : m < l.length) (h : AllTo (fun x => !p x) l m) (hp : p l[m] = true) : idx l p = m := by
  unfold idx
  have : l.findIdx? p = some m := by
    rw [List.findIdx?_eq_some_iff_getElem]
    exact ⟨hm, hp, fun j hj => by simpa using h j (by omega) hj⟩
  rw [this]
theorem idx_any {α : Type} (l : List α) (p : α → Bool) : decide (idx l p ≥ 0) = l.any p := by
  unfold idx
  cases h : l.findIdx? p with
  | none =>
    rw [List.findIdx?_eq_none_iff] at h
    have : l.any p = false := by simpa using h
    rw [this]
    decide
  | some k =>
    rw [List.findIdx?_eq_some_iff_getElem] at h
    obtain ⟨hk, hp, _⟩ := h
    have : l.any p = true := List.any_eq_true.2 ⟨_, List.getElem_mem hk, hp⟩
    rw [this]
    simp
theorem Y74_Z4 : type_of% (And.intro @F_ag_46 (And.intro @F_el_28 (@F_sz_46))) := And.intro @F_ag_46 (And.intro @F_el_28 (@F_sz_46))
theorem c_indexN {gs : List En} {F : FuncId} {cs : List V} (p : En → Bool) (hcs : V.idsL (ltB 1) cs = true) (hr : V.renL (gOf [0]) cs = cs) (hl : gs.length ≤ 4194304) (hF : ∀ t ∈ gs, DC Tryz.prog F [enV t, .pt 0 0] [.box cs] (.im (.bool (p t))) [.box cs]) :
    DC Tryz.prog 74 [.sl (gs.map enV) .ro, .fn (.func F) [] [.pt 0 0]] [.box cs] (.im (.int .i64 (idx gs p))) [.box cs] := by
  refine DC.enter 19 Tryz.func74 rfl (by decide) rfl rfl (s := [(0, .sl (gs.map enV) .ro), (1, .fn (.func F) [] [.pt 0 0])]) (by rfl) ?_
  refine wG Y74_Z4 True.intro ?_
  refine AWp.loop ?_
  refine ALp.cutP 1 [(0, .sl (gs.map enV) .ro), (1, .fn (.func F) [] [.pt 0 0]), (7, (.im (.int .i64 (gs.length)))), (8, (.im (.int .i64 ((((0 : Nat)) : Int)))))] [.box cs] (And.intro enV_id (And.intro enL_id (And.intro byL_id (And.intro lsV_id (And.intro lsL_id hcs))))) ?_
  refine ALp.upto gs.length (AllTo (fun x => !p x) gs) (fun m => ⟨dn 19 [(0, .sl (gs.map enV) .ro), (1, .fn (.func F) [] [.pt 0 0]), (7, (.im (.int .i64 (gs.length)))), (8, (.im (.int .i64 ((((m : Nat)) : Int)))))], ofl [.box cs]⟩) ?_ 0 (Nat.zero_le _) (AllTo.zero _ _)
  intro m hm hI hnext
  by_cases hlt : m < gs.length
  · have hlt' : (m : Int) < (gs.length : Int) := by omega
    have hg := get_some hlt
    have hm1 := wrap_succ hlt (by omega)
    have hc := hF gs[m] (List.getElem_mem hlt)
    refine wG Y74_Z4 (And.intro ENT (And.intro hlt' (And.intro hg hm1))) ?_
    by_cases b : p gs[m] = true
    · rw [b] at hc
      refine AR.callQP [0] hc enV_eq (And.intro enV_id (And.intro enL_id (And.intro byL_id (And.intro lsV_id (And.intro lsL_id hcs))))) (And.intro enV_ren (And.intro enL_ren (And.intro byL_ren (And.intro lsV_ren (And.intro lsL_ren hr))))) ?_
      refine goG Y74_Z4 True.intro ?_
      refine wG Y74_Z4 True.intro ?_
      rw [idx_some hlt hI b]
      exact Fin.oneSP (And.intro enV_id (And.intro enL_id (And.intro byL_id (And.intro lsV_id (And.intro lsL_id hcs)))))
    · have b : p gs[m] = false := by simpa using b
      rw [b] at hc
      refine AR.callQP [0] hc enV_eq (And.intro enV_id (And.intro enL_id (And.intro byL_id (And.intro lsV_id (And.intro lsL_id hcs))))) (And.intro enV_ren (And.intro enL_ren (And.intro byL_ren (And.intro lsV_ren (And.intro lsL_ren hr))))) ?_
      refine goG Y74_Z4 True.intro ?_
      refine wG Y74_Z4 hm1 ?_
      refine ALp.cutP 1 [(0, .sl (gs.map enV) .ro), (1, .fn (.func F) [] [.pt 0 0]), (7, (.im (.int .i64 (gs.length)))), (8, (.im (.int .i64 ((((m + 1 : Nat)) : Int)))))] [.box cs] (And.intro enV_id (And.intro enL_id (And.intro byL_id (And.intro lsV_id (And.intro lsL_id hcs))))) ?_
      exact hnext (m + 1) (by omega) (by omega) (hI.succ hlt (by simp [b]))
  · obtain rfl : m = gs.length := by omega
    have hlt' : ¬ (gs.length : Int) < (gs.length : Int) := by omega
    clear hnext hlt
    rw [idx_none hI]
    refine wG Y74_Z4 hlt' ?_
    exact Fin.oneSP (And.intro enV_id (And.intro enL_id (And.intro byL_id (And.intro lsV_id (And.intro lsL_id hcs)))))
theorem c_containsN {gs : List En} {F : FuncId} {cs : List V} (p : En → Bool) (hcs : V.idsL (ltB 1) cs = true) (hr : V.renL (gOf [0]) cs = cs) (hl : gs.length ≤ 4194304) (hF : ∀ t ∈ gs, DC Tryz.prog F [enV t, .pt 0 0] [.box cs] (.im (.bool (p t))) [.box cs]) :
    DC Tryz.prog 64 [.sl (gs.map enV) .ro, .fn (.func F) [] [.pt 0 0]] [.box cs] (.im (.bool (gs.any p))) [.box cs] := by
  have h := c_indexN p hcs hr hl hF
  refine DC.enter 9 Tryz.func64 rfl (by decide) rfl rfl (s := [(0, .sl (gs.map enV) .ro), (1, .fn (.func F) [] [.pt 0 0])]) (by rfl) ?_
  refine wG True.intro True.intro ?_
  refine AR.callQP [0] h True.intro (And.intro enV_id (And.intro enL_id (And.intro byL_id (And.intro lsV_id (And.intro lsL_id hcs))))) (And.intro enV_ren (And.intro enL_ren (And.intro byL_ren (And.intro lsV_ren (And.intro lsL_ren hr))))) ?_
  refine goG True.intro True.intro ?_
  rw [idx_any]
  refine wG True.intro True.intro ?_
  exact Fin.oneSP (And.intro enV_id (And.intro enL_id (And.intro byL_id (And.intro lsV_id (And.intro lsL_id hcs)))))
theorem I2_Z4 : type_of% (And.intro enV_id (And.intro enL_id (And.intro byL_id (And.intro lsV_id (And.intro lsL_id @tyV_id))))) := (And.intro enV_id (And.intro enL_id (And.intro byL_id (And.intro lsV_id (And.intro lsL_id @tyV_id)))))
theorem N2_Z4 : type_of% (And.intro enV_ren (And.intro enL_ren (And.intro byL_ren (And.intro lsV_ren lsL_ren)))) := (And.intro enV_ren (And.intro enL_ren (And.intro byL_ren (And.intro lsV_ren lsL_ren))))
theorem c_taken (l : List En) (e : En) (hl : l.length ≤ 4194304) : PC Tryz.prog 51 [.sl (l.map enV) .ro, enV e] (.im (.bool (takenB l e))) := by
  have h := c_containsN (gs := l) (F := 65) (cs := [(.im (.int .i64 (e.kind))), (.im (.int .i64 (e.var))), (.im (.int .u32 (e.addr))), (.im (.string (bA (e.text))))]) (tkC e) rfl rfl hl (fun o _ => c_tk1 e o)
  unfold takenB
  refine PC.enter 8 Tryz.func51 rfl (by decide) rfl rfl (s := [(0, .sl (l.map enV) .ro), (1, enV e)]) (by rfl) ?_
  simp only [enV_eq e]
  refine wG True.intro True.intro ?_
  refine AR.callQP [0] h True.intro I2_Z4 N2_Z4 ?_
  refine goG True.intro True.intro ?_
  refine wG True.intro True.intro ?_
  exact Fin.oneP
end Go.Proofs.YtianekkfehoedaaGreatDoor
namespace Go.Proofs.YtianekkfehoedaaGreatDoor
set_option linter.unusedSimpArgs false
set_option linter.unusedVariables false
set_option linter.unnecessarySimpa false
open Go.RowKit
theorem Y44_Z5 : type_of% (And.intro @F_ag_46 (And.intro @F_el_28 (And.intro @F_in_3 (And.intro @F_in_90 (And.intro @F_sz_46 (And.intro @F_un_3 (@F_un_90))))))) := And.intro @F_ag_46 (And.intro @F_el_28 (And.intro @F_in_3 (And.intro @F_in_90 (And.intro @F_sz_46 (And.intro @F_un_3 (@F_un_90))))))
theorem I1_Z5 : type_of% (And.intro enV_id (And.intro enL_id (And.intro byL_id (And.intro lsV_id (And.intro lsL_id @tyV_id))))) := (And.intro enV_id (And.intro enL_id (And.intro byL_id (And.intro lsV_id (And.intro lsL_id @tyV_id)))))
theorem c_search (l : List En) (e : En) (h : AscE l) (hl : l.length ≤ 4194304) : PC Tryz.prog 44 [.sl (l.map enV) .ro, enV e, .fn (.func 45) [] []] (.tu [(.im (.int .i64 (((posE l e : Nat) : Int)))), (.im (.bool (hasE l e)))]) := by
  refine PC.enter 49 Tryz.func44 rfl (by decide) rfl rfl (s := [(0, .sl (l.map enV) .ro), (1, enV e), (2, .fn (.func 45) [] [])]) (by rfl) ?_
  simp only [enV_eq e]
  refine wG Y44_Z5 True.intro ?_
  refine AWp.loop ?_
  refine ALp.cutP 1 [(0, .sl (l.map enV) .ro), (2, .fn (.func 45) [] []), (4, .pt 0 0), (8, (.im (.int .i64 (l.length)))), (9, (.im (.int .i64 ((((((0, l.length) : Nat × Nat)).1 : Nat) : Int))))), (10, (.im (.int .i64 ((((((0, l.length) : Nat × Nat)).2 : Nat) : Int)))))] [.box [(.im (.int .i64 (e.kind))), (.im (.int .i64 (e.var))), (.im (.int .u32 (e.addr))), (.im (.string (bA (e.text))))]] I1_Z5 ?_
  refine ALp.meas (α := Nat × Nat) (fun p => ⟨dn 49 [(0, .sl (l.map enV) .ro), (2, .fn (.func 45) [] []), (4, .pt 0 0), (8, (.im (.int .i64 (l.length)))), (9, (.im (.int .i64 ((((p).1 : Nat) : Int))))), (10, (.im (.int .i64 ((((p).2 : Nat) : Int)))))], ofl [.box [(.im (.int .i64 (e.kind))), (.im (.int .i64 (e.var))), (.im (.int .u32 (e.addr))), (.im (.string (bA (e.text))))]]⟩) (fun p => p.1 ≤ posE l e ∧ posE l e ≤ p.2 ∧ p.2 ≤ l.length) (fun p => p.2 - p.1) ?_ (0, l.length) ⟨Nat.zero_le _, posE_le l e, Nat.le_refl _⟩
  rintro ⟨i, j⟩ ⟨h1, h2, h3⟩ hnext
  simp only at h1 h2 h3 hnext
  by_cases hij : i < j
  · have hij' : (i : Int) < (j : Int) := by omega
    obtain ⟨m, hm⟩ : ∃ m, m = (i + j) / 2 := ⟨_, rfl⟩
    have hml : m < l.length := by omega
    have w1 : IntKind.i64.wrap ((i : Int) + (j : Int)) = ((i + j : Nat) : Int) := by rw [wrap_in (by omega)]; omega
    have w2 : IntKind.u64.wrap ((i + j : Nat) : Int) = ((i + j : Nat) : Int) := by rw [IntKind.wrap_u64]; omega
    have w3 : (((i + j : Nat) : Int)).fdiv (2 ^ min 1 IntKind.u64.bits) = ((m : Nat) : Int) := by
      rw [show (2 : Int) ^ min 1 IntKind.u64.bits = 2 by decide, Int.fdiv_eq_ediv_of_nonneg _ (by decide)]
      omega
    have w4 : IntKind.i64.wrap ((m : Nat) : Int) = (m : Int) := wrap_in (by omega)
    have hg := get_some hml
    have hp := posE_lt h e m hml
    have hc := c_cmpE l[m] e
    have hneg := cmpE_neg l[m] e
    generalize cmpE l[m] e = c at hc hneg
    have hm1 := wrap_succ (m := m) (N := 4194304) (by omega) (by omega)
    have n1 := hnext (m + 1, j)
    have n2 := hnext (i, m)
    clear hnext
    simp only at n1 n2
    by_cases hlt : c < 0
    · have n1 := n1 (by omega) ⟨by have := hp.1 (hneg.1 hlt); omega, h2, h3⟩
      clear n2
      refine wdG Y44_Z5 (And.intro hij' (And.intro w1 (And.intro w2 (And.intro w3 (And.intro w4 (And.intro hg ENT)))))) ?_
      refine AR.callP hc enV_eq I1_Z5 ?_
      refine goG Y44_Z5 hlt ?_
      refine wdG Y44_Z5 (And.intro hlt hm1) ?_
      refine ALp.cutP 1 [(0, .sl (l.map enV) .ro), (2, .fn (.func 45) [] []), (4, .pt 0 0), (8, (.im (.int .i64 (l.length)))), (9, (.im (.int .i64 ((((((m + 1, j) : Nat × Nat)).1 : Nat) : Int))))), (10, (.im (.int .i64 ((((((m + 1, j) : Nat × Nat)).2 : Nat) : Int)))))] [.box [(.im (.int .i64 (e.kind))), (.im (.int .i64 (e.var))), (.im (.int .u32 (e.addr))), (.im (.string (bA (e.text))))]] I1_Z5 ?_
      exact n1
    · have n2 := n2 (by omega) ⟨h1, by
        have : ¬ m < posE l e := fun hx => hlt (hneg.2 (hp.2 hx))
        omega, by omega⟩
      clear n1
      refine wdG Y44_Z5 (And.intro hij' (And.intro w1 (And.intro w2 (And.intro w3 (And.intro w4 (And.intro hg ENT)))))) ?_
      refine AR.callP hc enV_eq I1_Z5 ?_
      refine goG Y44_Z5 hlt ?_
      refine wdG Y44_Z5 hlt ?_
      refine ALp.cutP 1 [(0, .sl (l.map enV) .ro), (2, .fn (.func 45) [] []), (4, .pt 0 0), (8, (.im (.int .i64 (l.length)))), (9, (.im (.int .i64 ((((((i, m) : Nat × Nat)).1 : Nat) : Int))))), (10, (.im (.int .i64 ((((((i, m) : Nat × Nat)).2 : Nat) : Int)))))] [.box [(.im (.int .i64 (e.kind))), (.im (.int .i64 (e.var))), (.im (.int .u32 (e.addr))), (.im (.string (bA (e.text))))]] I1_Z5 ?_
      exact n2
  · obtain rfl : i = posE l e := by omega
    have hij' : ¬ ((posE l e : Nat) : Int) < (j : Int) := by omega
    clear hnext
    by_cases hlt : posE l e < l.length
    · have hlt' : ((posE l e : Nat) : Int) < (l.length : Int) := by omega
      have hg := get_some hlt
      have hc := c_cmpE l[posE l e] e
      have hz := cmpE_zero l[posE l e] e
      have hq : keyE l[posE l e] e = hasE l e := by
        cases hk : keyE l[posE l e] e with
        | true => exact (pos_hasE hlt hk).symm
        | false =>
          cases hh : hasE l e with
          | false => rfl
          | true =>
            obtain ⟨_, hx⟩ := hasE_pos h hh
            rw [hk] at hx; cases hx
      rw [hq] at hz
      generalize cmpE l[posE l e] e = c at hc hz
      cases hh : hasE l e with
      | true =>
        have h0 : c = 0 := hz.2 hh
        refine wdG Y44_Z5 (And.intro hij' (And.intro hlt' (And.intro hg ENT))) ?_
        refine AR.callP hc enV_eq I1_Z5 ?_
        refine goG Y44_Z5 h0 ?_
        refine wdG Y44_Z5 True.intro ?_
        refine Fin.gen0 (rs := [.tmp 6, .tmp 7]) rfl (by first | exact .inl rfl | exact .inr rfl) (finG Y44_Z5) ?_
        skip
        all_goals exact wkG I1_Z5
      | false =>
        have h0 : ¬ c = 0 := fun hx => by rw [hz.1 hx] at hh; cases hh
        refine wdG Y44_Z5 (And.intro hij' (And.intro hlt' (And.intro hg ENT))) ?_
        refine AR.callP hc enV_eq I1_Z5 ?_
        refine goG Y44_Z5 h0 ?_
        refine wdG Y44_Z5 True.intro ?_
        refine Fin.gen0 (rs := [.tmp 6, .tmp 7]) rfl (by first | exact .inl rfl | exact .inr rfl) (finG Y44_Z5) ?_
        skip
        all_goals exact wkG I1_Z5
    · have hlt' : ¬ ((posE l e : Nat) : Int) < (l.length : Int) := by omega
      have hh : hasE l e = false := by
        cases hh : hasE l e with
        | false => rfl
        | true =>
          obtain ⟨hx, _⟩ := hasE_pos h hh
          omega
      rw [hh]
      refine wdG Y44_Z5 (And.intro hij' hlt') ?_
      refine Fin.gen0 (rs := [.tmp 6, .tmp 7]) rfl (by first | exact .inl rfl | exact .inr rfl) (finG Y44_Z5) ?_
      skip
      all_goals exact wkG I1_Z5
end Go.Proofs.YtianekkfehoedaaGreatDoor
