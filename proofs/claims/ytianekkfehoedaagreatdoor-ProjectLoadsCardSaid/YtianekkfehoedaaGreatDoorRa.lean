/- Walks of the reference: keys, order, find, taken, with. -/
import Derived.Test.YtianekkfehoedaaGreatDoorHv
import Derived.Test.YtianekkfehoedaaGreatDoorK6
import Derived.Test.YtianekkfehoedaaGreatDoorYr
namespace Go.Proofs.YtianekkfehoedaaGreatDoor
set_option linter.unusedSimpArgs false
set_option linter.unusedVariables false
set_option linter.unnecessarySimpa false
open Go.RowKit
theorem Y55_Ra : type_of% (And.intro @F_ag_3 (And.intro @F_ag_44 (And.intro @F_fl_46_0 (And.intro @F_fl_46_1 (And.intro @F_fl_46_2 (And.intro @F_sz_3 (@F_sz_44))))))) := And.intro @F_ag_3 (And.intro @F_ag_44 (And.intro @F_fl_46_0 (And.intro @F_fl_46_1 (And.intro @F_fl_46_2 (And.intro @F_sz_3 (@F_sz_44))))))
theorem I1_Ra : type_of% (And.intro enV_id (And.intro enL_id (And.intro byL_id (And.intro lsV_id (And.intro lsL_id @tyV_id))))) := (And.intro enV_id (And.intro enL_id (And.intro byL_id (And.intro lsV_id (And.intro lsL_id @tyV_id)))))
theorem c_samekey (a b : En) : PC Tryz.prog 55 [enV a, enV b] (.im (.bool (keyE a b))) := by
  unfold keyE
  simp only [enV_eq]
  obtain ⟨k, v, a, t⟩ := a
  obtain ⟨k', v', a', t'⟩ := b
  dsimp only
  refine PC.enter 24 Tryz.func55 rfl (by decide) rfl rfl (s := [(0, .ag [(.im (.int .i64 (k))), (.im (.int .i64 (v))), (.im (.int .u32 (a))), (.im (.string (bA (t))))]), (1, .ag [(.im (.int .i64 (k'))), (.im (.int .i64 (v'))), (.im (.int .u32 (a'))), (.im (.string (bA (t'))))])]) (by rfl) ?_
  by_cases h1 : k = k'
  · by_cases h2 : a = a'
    · by_cases h3 : v = v'
      · rw [decide_eq_true h1, decide_eq_true h2, decide_eq_true h3]
        have h1 : (k = k') = True := eq_true h1
        have h2 : (a = a') = True := eq_true h2
        have h3 : (v = v') = True := eq_true h3
        refine wG Y55_Ra (And.intro h1 (And.intro h2 h3)) ?_
        exact Fin.oneP
      · rw [decide_eq_true h1, decide_eq_true h2, decide_eq_false h3]
        have h1 : (k = k') = True := eq_true h1
        have h2 : (a = a') = True := eq_true h2
        refine wG Y55_Ra (And.intro h1 (And.intro h2 h3)) ?_
        exact Fin.oneP
    · rw [decide_eq_true h1, decide_eq_false h2]
      have h1 : (k = k') = True := eq_true h1
      refine wG Y55_Ra (And.intro h1 h2) ?_
      exact Fin.oneP
  · rw [decide_eq_false h1]
    refine wG Y55_Ra h1 ?_
    exact Fin.oneP
theorem Y30_Ra : type_of% (And.intro @F_ag_3 (And.intro @F_ag_44 (And.intro @F_fl_46_0 (And.intro @F_fl_46_1 (And.intro @F_fl_46_2 (And.intro @F_sz_3 (@F_sz_44))))))) := And.intro @F_ag_3 (And.intro @F_ag_44 (And.intro @F_fl_46_0 (And.intro @F_fl_46_1 (And.intro @F_fl_46_2 (And.intro @F_sz_3 (@F_sz_44))))))
theorem c_before (a b : En) : PC Tryz.prog 30 [enV a, enV b] (.im (.bool (ltE a b))) := by
  have hlt := ltE_iff (a := a) (b := b)
  generalize ltE a b = r at hlt ⊢
  simp only [enV_eq]
  obtain ⟨k, v, a, t⟩ := a
  obtain ⟨k', v', a', t'⟩ := b
  dsimp only at hlt ⊢
  refine PC.enter 30 Tryz.func30 rfl (by decide) rfl rfl (s := [(0, .ag [(.im (.int .i64 (k))), (.im (.int .i64 (v))), (.im (.int .u32 (a))), (.im (.string (bA (t))))]), (1, .ag [(.im (.int .i64 (k'))), (.im (.int .i64 (v'))), (.im (.int .u32 (a'))), (.im (.string (bA (t'))))])]) (by rfl) ?_
  by_cases h1 : a = a'
  · have e1 : (a = a') = True := eq_true h1
    by_cases h2 : k = k'
    · have e2 : (k = k') = True := eq_true h2
      have hr : r = decide (v < v') := by
        cases r with
        | true => exact (decide_eq_true (by have := hlt.1 rfl; omega)).symm
        | false => exact (decide_eq_false (fun h => by have := hlt.2 (.inr ⟨h1, .inr ⟨h2, h⟩⟩); cases this)).symm
      rw [hr]
      refine wG Y30_Ra (And.intro e1 e2) ?_
      exact Fin.oneP
    · have hr : r = decide (k < k') := by
        cases r with
        | true => exact (decide_eq_true (by have := hlt.1 rfl; omega)).symm
        | false => exact (decide_eq_false (fun h => by have := hlt.2 (.inr ⟨h1, .inl h⟩); cases this)).symm
      rw [hr]
      refine wG Y30_Ra (And.intro e1 h2) ?_
      exact Fin.oneP
  · have hr : r = decide (a < a') := by
      cases r with
      | true => exact (decide_eq_true (by have := hlt.1 rfl; omega)).symm
      | false => exact (decide_eq_false (fun h => by have := hlt.2 (.inl h); cases this)).symm
    rw [hr]
    refine wG Y30_Ra h1 ?_
    exact Fin.oneP
theorem Y46_Ra : type_of% (And.intro @F_ag_46 (And.intro @F_el_28 (@F_sz_46))) := And.intro @F_ag_46 (And.intro @F_el_28 (@F_sz_46))
theorem fndR_cons {l : List En} {m : Nat} {x : En} (h : l[m]? = some x) (e : En) : fndR m (l.drop m) e = if keyE x e = true then (m : Int) else fndR (m + 1) (l.drop (m + 1)) e := by
  obtain ⟨hm, rfl⟩ := List.getElem?_eq_some_iff.1 h
  rw [List.drop_eq_getElem_cons hm]
  rfl
theorem c_findR (l : List En) (e : En) (hl : l.length ≤ 4194304) : PC Tryz.prog 46 [.sl (l.map enV) .ro, enV e] (.im (.int .i64 (fndR 0 l e))) := by
  refine PC.enter 19 Tryz.func46 rfl (by decide) rfl rfl (s := [(0, .sl (l.map enV) .ro), (1, enV e)]) (by rfl) ?_
  simp only [enV_eq e]
  refine wG Y46_Ra True.intro ?_
  refine AWp.loop ?_
  refine ALp.cutP 1 [(0, .sl (l.map enV) .ro), (3, .pt 0 0), (5, (.im (.int .i64 ((((0 : Nat)) : Int)))))] [.box [(.im (.int .i64 (e.kind))), (.im (.int .i64 (e.var))), (.im (.int .u32 (e.addr))), (.im (.string (bA (e.text))))]] I1_Ra ?_
  refine ALp.upto l.length (fun m => fndR 0 l e = fndR m (l.drop m) e) (fun m => ⟨dn 19 [(0, .sl (l.map enV) .ro), (3, .pt 0 0), (5, (.im (.int .i64 ((((m : Nat)) : Int)))))], ofl [.box [(.im (.int .i64 (e.kind))), (.im (.int .i64 (e.var))), (.im (.int .u32 (e.addr))), (.im (.string (bA (e.text))))]]⟩) ?_ 0 (Nat.zero_le _) rfl
  intro m hm hI hnext
  by_cases hlt : m < l.length
  · have hlt' : (m : Int) < (l.length : Int) := by omega
    have hg := get_some hlt
    have hm1 := wrap_succ hlt (by omega)
    have hn := hnext (m + 1) (by omega) (by omega)
    clear hnext
    rw [fndR_cons (List.getElem?_eq_getElem hlt)] at hI
    have hc := c_samekey l[m] e
    generalize l[m] = x at hg hI hc
    cases hk : keyE x e with
    | true =>
      rw [hk] at hc
      rw [hk, if_pos rfl] at hI
      rw [hI]
      refine wdG Y46_Ra (And.intro hlt' (And.intro ENT hg)) ?_
      refine AR.callP hc enV_eq I1_Ra ?_
      refine goG Y46_Ra True.intro ?_
      refine wdG Y46_Ra True.intro ?_
      exact Fin.oneP
    | false =>
      rw [hk] at hc
      rw [hk, if_neg (by decide)] at hI
      refine wdG Y46_Ra (And.intro hlt' (And.intro ENT hg)) ?_
      refine AR.callP hc enV_eq I1_Ra ?_
      refine goG Y46_Ra True.intro ?_
      refine wdG Y46_Ra hm1 ?_
      refine ALp.cutP 1 [(0, .sl (l.map enV) .ro), (3, .pt 0 0), (5, (.im (.int .i64 ((((m + 1 : Nat)) : Int)))))] [.box [(.im (.int .i64 (e.kind))), (.im (.int .i64 (e.var))), (.im (.int .u32 (e.addr))), (.im (.string (bA (e.text))))]] I1_Ra ?_
      exact hn hI
  · obtain rfl : m = l.length := by omega
    have hlt' : ¬ (l.length : Int) < (l.length : Int) := by omega
    rw [List.drop_length] at hI
    rw [hI]
    clear hnext hlt hI
    refine wdG Y46_Ra hlt' ?_
    exact Fin.oneP
theorem Y68_Ra : type_of% (@F_un_9) := @F_un_9
theorem c_nameR (s : Bs) (hs : s.length ≤ 140737488355328) : PC Tryz.prog 68 [(.im (.string (bA (s))))] (.im (.bool (nameB s))) := by
  refine PC.enter 55 Tryz.func68 rfl (by decide) rfl rfl (s := [(0, (.im (.string (bA (s)))))]) (by rfl) ?_
  refine wG Y68_Ra True.intro ?_
  refine AWp.loop ?_
  refine ALp.cutP 0 [(0, (.im (.string (bA (s))))), (3, (.im (.int .i64 ((((0 : Nat)) : Int)))))] [] I1_Ra ?_
  refine ALp.upto s.length (fun m => nmA 0 s = nmA m (s.drop m)) (fun m => ⟨dn 55 [(0, (.im (.string (bA (s))))), (3, (.im (.int .i64 ((((m : Nat)) : Int)))))], ofl []⟩) ?_ 0 (Nat.zero_le _) rfl
  intro m hm hI hnext
  by_cases hlt : m < s.length
  · have hlt' : (m : Int) < (s.length : Int) := by omega
    have hg : s[m]? = some s[m] := List.getElem?_eq_getElem hlt
    have hg' := (bA_get47 s m).trans hg
    have h0 : (0 : Int) ≤ (m : Int) := by omega
    have hm1 := wrap_succ (m := m) (N := 140737488355328) (by omega) (by decide)
    rw [nmA_at hg] at hI
    generalize s[m] = c at hg' hI
    have hn := hnext (m + 1) (by omega) (by omega)
    clear hnext hg
    refine wG Y68_Ra (And.intro hlt' (And.intro h0 (And.intro hg' bA_size))) ?_
    refine AWp.condAB rfl rfl (fun hE => ?_) (fun hE => ?_)
    · have hf : nmC m c = false := by
        unfold nmC letB
        simp only [Bool.and_eq_true, Bool.or_eq_true, decide_eq_true_eq, Bool.not_eq_true', Bool.or_eq_false_iff, Bool.and_eq_false_iff, decide_eq_false_iff_not] at hE ⊢
        omega
      have hB : nameB s = false := by unfold nameB; rw [hI, hf]; rfl
      rw [hB]
      clear hE
      refine wG Y68_Ra True.intro ?_
      exact Fin.oneP
    · have hf : nmC m c = true := by
        unfold nmC letB
        simp only [Bool.and_eq_true, Bool.or_eq_true, decide_eq_true_eq, Bool.not_eq_false', Bool.or_eq_false_iff, Bool.and_eq_false_iff, decide_eq_false_iff_not] at hE ⊢
        omega
      clear hE
      refine wG Y68_Ra hm1 ?_
      refine ALp.cutP 0 [(0, (.im (.string (bA (s))))), (3, (.im (.int .i64 ((((m + 1 : Nat)) : Int)))))] [] I1_Ra ?_
      exact hn (by rw [hI, hf]; rfl)
  · obtain rfl : m = s.length := by omega
    have hlt' : ¬ (s.length : Int) < (s.length : Int) := by omega
    have hI : nmA 0 s = true := by rw [hI, List.drop_length]; rfl
    clear hnext hlt
    unfold nameB
    rw [hI]
    by_cases h1 : 1 ≤ s.length
    · have h1' : (s.length : Int) ≥ 1 := by omega
      by_cases h2 : s.length ≤ 32
      · have h2' : (s.length : Int) ≤ 32 := by omega
        rw [decide_eq_true h1, decide_eq_true h2]
        refine wG Y68_Ra (And.intro hlt' (And.intro h1' (And.intro h2' bA_size))) ?_
        exact Fin.oneP
      · have h2' : ¬ (s.length : Int) ≤ 32 := by omega
        rw [decide_eq_true h1, decide_eq_false h2]
        refine wG Y68_Ra (And.intro hlt' (And.intro h1' (And.intro h2' bA_size))) ?_
        exact Fin.oneP
    · have h1' : ¬ (s.length : Int) ≥ 1 := by omega
      rw [decide_eq_false h1]
      refine wG Y68_Ra (And.intro hlt' (And.intro h1' bA_size)) ?_
      exact Fin.oneP
theorem Y54_Ra : type_of% (And.intro @F_ag_3 (And.intro @F_ag_44 (And.intro @F_ag_46 (And.intro @F_ag_9 (And.intro @F_al_46 (And.intro @F_el_28 (And.intro @F_fl_46_0 (And.intro @F_fl_46_2 (And.intro @F_fl_46_3 (And.intro @F_sz_3 (And.intro @F_sz_44 (And.intro @F_sz_46 (@F_sz_9))))))))))))) := And.intro @F_ag_3 (And.intro @F_ag_44 (And.intro @F_ag_46 (And.intro @F_ag_9 (And.intro @F_al_46 (And.intro @F_el_28 (And.intro @F_fl_46_0 (And.intro @F_fl_46_2 (And.intro @F_fl_46_3 (And.intro @F_sz_3 (And.intro @F_sz_44 (And.intro @F_sz_46 (@F_sz_9))))))))))))
theorem keyE_comm (a b : En) : keyE a b = keyE b a := by
  cases h : keyE b a with
  | true => exact keyE_symm h
  | false =>
    cases h2 : keyE a b with
    | false => rfl
    | true => rw [keyE_symm h2] at h; cases h
theorem tkC_eq (e x : En) : tkC e x = (!keyE x e && (decide (x.kind = e.kind) && ((x.text == e.text) && (decide (e.kind = 1) || decide (e.kind = 4) && decide (x.addr = e.addr))))) := by
  unfold tkC
  rw [keyE_comm x e]
  cases keyE e x <;> cases decide (x.kind = e.kind) <;> cases (x.text == e.text) <;> rfl
theorem c_takenR (l : List En) (e : En) (hl : l.length ≤ 4194304) : PC Tryz.prog 54 [.sl (l.map enV) .ro, enV e] (.im (.bool (takenB l e))) := by
  unfold takenB
  refine PC.enter 49 Tryz.func54 rfl (by decide) rfl rfl (s := [(0, .sl (l.map enV) .ro), (1, enV e)]) (by rfl) ?_
  simp only [enV_eq e]
  refine wG Y54_Ra True.intro ?_
  refine AWp.loop ?_
  refine ALp.cutP 1 [(0, .sl (l.map enV) .ro), (3, .pt 0 0), (5, (.im (.int .i64 ((((0 : Nat)) : Int)))))] [.box [(.im (.int .i64 (e.kind))), (.im (.int .i64 (e.var))), (.im (.int .u32 (e.addr))), (.im (.string (bA (e.text))))]] I1_Ra ?_
  refine ALp.upto l.length (fun m => l.any (tkC e) = (l.drop m).any (tkC e)) (fun m => ⟨dn 49 [(0, .sl (l.map enV) .ro), (3, .pt 0 0), (5, (.im (.int .i64 ((((m : Nat)) : Int)))))], ofl [.box [(.im (.int .i64 (e.kind))), (.im (.int .i64 (e.var))), (.im (.int .u32 (e.addr))), (.im (.string (bA (e.text))))]]⟩) ?_ 0 (Nat.zero_le _) rfl
  intro m hm hI hnext
  by_cases hlt : m < l.length
  · have hlt' : (m : Int) < (l.length : Int) := by omega
    have hg := get_some hlt
    have hm1 := wrap_succ hlt (by omega)
    have hn := hnext (m + 1) (by omega) (by omega)
    clear hnext
    rw [List.drop_eq_getElem_cons hlt, List.any_cons, tkC_eq] at hI
    have hc := c_samekey l[m] e
    generalize l[m] = x at hg hI hc
    have he := bA_eq x.text e.text
    refine wdG Y54_Ra (And.intro hlt' (And.intro ENT hg)) ?_
    refine AR.callP hc enV_eq I1_Ra ?_
    cases hk : keyE x e with
    | true =>
      rw [hk] at hI
      refine goG Y54_Ra True.intro ?_
      refine wG Y54_Ra hm1 ?_
      refine ALp.cutP 1 [(0, .sl (l.map enV) .ro), (3, .pt 0 0), (5, (.im (.int .i64 ((((m + 1 : Nat)) : Int)))))] [.box [(.im (.int .i64 (e.kind))), (.im (.int .i64 (e.var))), (.im (.int .u32 (e.addr))), (.im (.string (bA (e.text))))]] I1_Ra ?_
      exact hn hI
    | false =>
    rw [hk, Bool.not_false, Bool.true_and] at hI
    by_cases f1 : x.kind = e.kind
    case neg =>
      rw [decide_eq_false f1] at hI
      refine goG Y54_Ra f1 ?_
      refine wG Y54_Ra (And.intro f1 hm1) ?_
      refine ALp.cutP 1 [(0, .sl (l.map enV) .ro), (3, .pt 0 0), (5, (.im (.int .i64 ((((m + 1 : Nat)) : Int)))))] [.box [(.im (.int .i64 (e.kind))), (.im (.int .i64 (e.var))), (.im (.int .u32 (e.addr))), (.im (.string (bA (e.text))))]] I1_Ra ?_
      exact hn hI
    have g1 : (x.kind = e.kind) = True := eq_true f1
    rw [decide_eq_true f1, Bool.true_and] at hI
    by_cases f2 : x.text = e.text
    case neg =>
      have f2 : (x.text == e.text) = false := by simpa using f2
      rw [f2] at he hI
      refine goG Y54_Ra (And.intro g1 he) ?_
      refine wG Y54_Ra (And.intro g1 (And.intro he hm1)) ?_
      refine ALp.cutP 1 [(0, .sl (l.map enV) .ro), (3, .pt 0 0), (5, (.im (.int .i64 ((((m + 1 : Nat)) : Int)))))] [.box [(.im (.int .i64 (e.kind))), (.im (.int .i64 (e.var))), (.im (.int .u32 (e.addr))), (.im (.string (bA (e.text))))]] I1_Ra ?_
      exact hn hI
    have f2 : (x.text == e.text) = true := by simpa using f2
    rw [f2] at he hI
    rw [Bool.true_and] at hI
    by_cases k1 : e.kind = 1
    · rw [decide_eq_true k1, Bool.true_or, Bool.true_or] at hI
      rw [hI]
      have k1 : (e.kind = 1) = True := eq_true k1
      refine goG Y54_Ra (And.intro g1 (And.intro he k1)) ?_
      refine wG Y54_Ra (And.intro g1 (And.intro he k1)) ?_
      exact Fin.oneP
    rw [decide_eq_false k1, Bool.false_or] at hI
    by_cases k4 : e.kind = 4
    case neg =>
      rw [decide_eq_false k4, Bool.false_and, Bool.false_or] at hI
      refine goG Y54_Ra (And.intro g1 (And.intro he (And.intro k1 k4))) ?_
      refine wG Y54_Ra (And.intro g1 (And.intro he (And.intro k1 (And.intro k4 hm1)))) ?_
      refine ALp.cutP 1 [(0, .sl (l.map enV) .ro), (3, .pt 0 0), (5, (.im (.int .i64 ((((m + 1 : Nat)) : Int)))))] [.box [(.im (.int .i64 (e.kind))), (.im (.int .i64 (e.var))), (.im (.int .u32 (e.addr))), (.im (.string (bA (e.text))))]] I1_Ra ?_
      exact hn hI
    rw [decide_eq_true k4, Bool.true_and] at hI
    have k4 : (e.kind = 4) = True := eq_true k4
    by_cases f3 : x.addr = e.addr
    · rw [decide_eq_true f3, Bool.true_or] at hI
      rw [hI]
      have f3 : (x.addr = e.addr) = True := eq_true f3
      refine goG Y54_Ra (And.intro g1 (And.intro he (And.intro k1 (And.intro k4 f3)))) ?_
      refine wG Y54_Ra (And.intro g1 (And.intro he (And.intro k1 (And.intro k4 f3)))) ?_
      exact Fin.oneP
    · rw [decide_eq_false f3, Bool.false_or] at hI
      refine goG Y54_Ra (And.intro g1 (And.intro he (And.intro k1 (And.intro k4 f3)))) ?_
      refine wG Y54_Ra (And.intro g1 (And.intro he (And.intro k1 (And.intro k4 (And.intro f3 hm1))))) ?_
      refine ALp.cutP 1 [(0, .sl (l.map enV) .ro), (3, .pt 0 0), (5, (.im (.int .i64 ((((m + 1 : Nat)) : Int)))))] [.box [(.im (.int .i64 (e.kind))), (.im (.int .i64 (e.var))), (.im (.int .u32 (e.addr))), (.im (.string (bA (e.text))))]] I1_Ra ?_
      exact hn hI
  · obtain rfl : m = l.length := by omega
    have hlt' : ¬ (l.length : Int) < (l.length : Int) := by omega
    rw [List.drop_length] at hI
    rw [hI]
    clear hnext hlt hI
    refine wG Y54_Ra hlt' ?_
    exact Fin.oneP
theorem Y32_Ra : type_of% (And.intro @F_ag_46 (And.intro @F_al_46 (And.intro @F_by_46 (And.intro @F_el_28 (@F_sz_46))))) := And.intro @F_ag_46 (And.intro @F_al_46 (And.intro @F_by_46 (And.intro @F_el_28 (@F_sz_46))))
theorem wRg_step {l : List En} {m : Nat} {x : En} (h : l[m]? = some x) (d : Bool) (e : En) : wRg d (l.drop m) e = (if (!d && !ltE x e) = true then [e] else []) ++ ((if keyE x e = true then [] else [x]) ++ wRg (d || !ltE x e) (l.drop (m + 1)) e) := by
  obtain ⟨hm, rfl⟩ := List.getElem?_eq_some_iff.1 h
  rw [List.drop_eq_getElem_cons hm]
  rfl
structure WI (l : List En) (e : En) (x : Nat × Bool × List En) : Prop where
  m : x.1 ≤ l.length
  n : x.2.2.length ≤ 2 * x.1
  w : wRg false l e = x.2.2 ++ wRg x.2.1 (l.drop x.1) e
set_option maxHeartbeats 4000000 in
theorem c_withR0 (l : List En) (e : En) (hl : l.length ≤ 1048576) : PC Tryz.prog 32 [.sl (l.map enV) .ro, enV e] (.sl ((wRg false l e).map enV) .ro) := by
  refine PC.enter 50 Tryz.func32 rfl (by decide) rfl rfl (s := [(0, .sl (l.map enV) .ro), (1, enV e)]) (by rfl) ?_
  simp only [enV_eq e]
  refine wG Y32_Ra True.intro ?_
  refine AWp.loop ?_
  refine ALp.cutP 1 [(0, .sl (l.map enV) .ro), (3, .pt 0 0), (5, .sl [] .nl), (6, (.im (.bool (false)))), (7, (.im (.int .i64 (0))))] [.box [(.im (.int .i64 (e.kind))), (.im (.int .i64 (e.var))), (.im (.int .u32 (e.addr))), (.im (.string (bA (e.text))))]] I1_Ra ?_
  refine ALp.ghost 5 [] .nl 46 4 ?_
  suffices H : ∀ x : Nat × Bool × List En, WI l e x → ALp _ _ _ _ _ ⟨dn 50 [(0, .sl (l.map enV) .ro), (3, .pt 0 0), (5, .sl ((x).2.2.map enV) (.own 1)), (6, (.im (.bool ((x).2.1)))), (7, (.im (.int .i64 ((((x).1 : Nat) : Int)))))], ofl [.box [(.im (.int .i64 (e.kind))), (.im (.int .i64 (e.var))), (.im (.int .u32 (e.addr))), (.im (.string (bA (e.text))))], .tip 46 4 (x).2.2.length]⟩ by
    exact H (0, false, []) ⟨Nat.zero_le _, Nat.le_refl _, rfl⟩
  refine ALp.meas (α := Nat × Bool × List En) (fun x => ⟨dn 50 [(0, .sl (l.map enV) .ro), (3, .pt 0 0), (5, .sl ((x).2.2.map enV) (.own 1)), (6, (.im (.bool ((x).2.1)))), (7, (.im (.int .i64 ((((x).1 : Nat) : Int)))))], ofl [.box [(.im (.int .i64 (e.kind))), (.im (.int .i64 (e.var))), (.im (.int .u32 (e.addr))), (.im (.string (bA (e.text))))], .tip 46 4 (x).2.2.length]⟩) (WI l e) (fun x => l.length - x.1) ?_
  rintro ⟨m, d, out⟩ ⟨h1, h2, h3⟩ hnext
  dsimp only at h1 h2 h3
  by_cases hlt : m < l.length
  · have hlt' : (m : Int) < (l.length : Int) := by omega
    have hg := get_some hlt
    have hm1 := wrap_succ hlt (by omega)
    rw [wRg_step (List.getElem?_eq_getElem hlt)] at h3
    have hb := c_before l[m] e
    have hc := c_samekey l[m] e
    generalize l[m] = x at hg h3 hb hc
    have hcap : (out.length + 1) * 40 ≤ 140737488355328 := by omega
    have hcap2 : (out.length + 1 + 1) * 40 ≤ 140737488355328 := by
      have h9 : out.length + 1 + 1 ≤ 3000000 := by omega
      generalize out.length + 1 + 1 = q at h9 ⊢
      omega
    have hAe : out.map enV ++ [enV e] = (out ++ [e]).map enV := by rw [List.map_append]; rfl
    have hAx : out.map enV ++ [enV x] = (out ++ [x]).map enV := by rw [List.map_append]; rfl
    have hAex : (out ++ [e]).map enV ++ [enV x] = (out ++ [e] ++ [x]).map enV := by rw [List.map_append (l₂ := [x])]; rfl
    rw [enV_eq e] at hAe
    have le : (out ++ [e]).length = out.length + 1 := by simp
    have lx : (out ++ [x]).length = out.length + 1 := by simp
    have lex : (out ++ [e] ++ [x]).length = out.length + 1 + 1 := by simp
    cases d with
    | true =>
      cases hk : keyE x e with
      | true =>
        rw [hk] at hc
        rw [hk] at h3
        simp only [Bool.not_true, Bool.not_false, Bool.and_true, Bool.and_false, Bool.true_and, Bool.false_and, Bool.or_true, Bool.or_false, Bool.true_or, Bool.false_or, if_true, if_false, Bool.false_eq_true, List.nil_append, List.cons_append] at h3
        have hn := hnext (m + 1, true, out) (by simp; omega) ⟨by dsimp only; omega, by first | (dsimp only; omega) | (simp; omega), by rw [h3]; try simp⟩
        clear hnext h3
        refine wdG Y32_Ra (And.intro hlt' (And.intro ENT hg)) ?_
        refine AR.callP hc enV_eq I1_Ra ?_
        refine goG Y32_Ra True.intro ?_
        refine wdG Y32_Ra hm1 ?_
        refine ALp.cutP 2 [(0, .sl (l.map enV) .ro), (3, .pt 0 0), (5, .sl ((((m + 1, true, out) : Nat × Bool × List En)).2.2.map enV) (.own 1)), (6, (.im (.bool ((((m + 1, true, out) : Nat × Bool × List En)).2.1)))), (7, (.im (.int .i64 ((((((m + 1, true, out) : Nat × Bool × List En)).1 : Nat) : Int)))))] [.box [(.im (.int .i64 (e.kind))), (.im (.int .i64 (e.var))), (.im (.int .u32 (e.addr))), (.im (.string (bA (e.text))))], .tip 46 4 (((m + 1, true, out) : Nat × Bool × List En)).2.2.length] I1_Ra ?_
        exact hn
      | false =>
        rw [hk] at hc
        rw [hk] at h3
        simp only [Bool.not_true, Bool.not_false, Bool.and_true, Bool.and_false, Bool.true_and, Bool.false_and, Bool.or_true, Bool.or_false, Bool.true_or, Bool.false_or, if_true, if_false, Bool.false_eq_true, List.nil_append, List.cons_append] at h3
        have hn := hnext (m + 1, true, out ++ [x]) (by simp; omega) ⟨by dsimp only; omega, by first | (dsimp only; omega) | (simp; omega), by rw [h3]; try simp⟩
        clear hnext h3
        generalize out ++ [x] = Mx at hAx lx hn
        refine wdG Y32_Ra (And.intro hlt' (And.intro ENT hg)) ?_
        refine AR.callP hc enV_eq I1_Ra ?_
        refine goG Y32_Ra True.intro ?_
        refine wdG Y32_Ra (And.intro ENT (And.intro hg (And.intro hAx (And.intro hcap (And.intro (@List.length_map.{0, 0}) (And.intro enL_all hm1)))))) ?_
        rw [← lx]
        refine ALp.cutP 2 [(0, .sl (l.map enV) .ro), (3, .pt 0 0), (5, .sl ((((m + 1, true, Mx) : Nat × Bool × List En)).2.2.map enV) (.own 1)), (6, (.im (.bool ((((m + 1, true, Mx) : Nat × Bool × List En)).2.1)))), (7, (.im (.int .i64 ((((((m + 1, true, Mx) : Nat × Bool × List En)).1 : Nat) : Int)))))] [.box [(.im (.int .i64 (e.kind))), (.im (.int .i64 (e.var))), (.im (.int .u32 (e.addr))), (.im (.string (bA (e.text))))], .tip 46 4 (((m + 1, true, Mx) : Nat × Bool × List En)).2.2.length] I1_Ra ?_
        exact hn
    | false =>
      cases hq : ltE x e with
      | true =>
        rw [hq] at hb h3
        cases hk : keyE x e with
        | true =>
          rw [hk] at hc
          rw [hk] at h3
          simp only [Bool.not_true, Bool.not_false, Bool.and_true, Bool.and_false, Bool.true_and, Bool.false_and, Bool.or_true, Bool.or_false, Bool.true_or, Bool.false_or, if_true, if_false, Bool.false_eq_true, List.nil_append, List.cons_append] at h3
          have hn := hnext (m + 1, false, out) (by simp; omega) ⟨by dsimp only; omega, by first | (dsimp only; omega) | (simp; omega), by rw [h3]; try simp⟩
          clear hnext h3
          refine wdG Y32_Ra (And.intro hlt' (And.intro ENT hg)) ?_
          refine AR.callP hb enV_eq I1_Ra ?_
          refine goG Y32_Ra True.intro ?_
          refine wdG Y32_Ra (And.intro ENT hg) ?_
          refine AR.callP hc enV_eq I1_Ra ?_
          refine goG Y32_Ra True.intro ?_
          refine wdG Y32_Ra hm1 ?_
          refine ALp.cutP 2 [(0, .sl (l.map enV) .ro), (3, .pt 0 0), (5, .sl ((((m + 1, false, out) : Nat × Bool × List En)).2.2.map enV) (.own 1)), (6, (.im (.bool ((((m + 1, false, out) : Nat × Bool × List En)).2.1)))), (7, (.im (.int .i64 ((((((m + 1, false, out) : Nat × Bool × List En)).1 : Nat) : Int)))))] [.box [(.im (.int .i64 (e.kind))), (.im (.int .i64 (e.var))), (.im (.int .u32 (e.addr))), (.im (.string (bA (e.text))))], .tip 46 4 (((m + 1, false, out) : Nat × Bool × List En)).2.2.length] I1_Ra ?_
          exact hn
        | false =>
          rw [hk] at hc
          rw [hk] at h3
          simp only [Bool.not_true, Bool.not_false, Bool.and_true, Bool.and_false, Bool.true_and, Bool.false_and, Bool.or_true, Bool.or_false, Bool.true_or, Bool.false_or, if_true, if_false, Bool.false_eq_true, List.nil_append, List.cons_append] at h3
          have hn := hnext (m + 1, false, out ++ [x]) (by simp; omega) ⟨by dsimp only; omega, by first | (dsimp only; omega) | (simp; omega), by rw [h3]; try simp⟩
          clear hnext h3
          generalize out ++ [x] = Mx at hAx lx hn
          refine wdG Y32_Ra (And.intro hlt' (And.intro ENT hg)) ?_
          refine AR.callP hb enV_eq I1_Ra ?_
          refine goG Y32_Ra True.intro ?_
          refine wdG Y32_Ra (And.intro ENT hg) ?_
          refine AR.callP hc enV_eq I1_Ra ?_
          refine goG Y32_Ra True.intro ?_
          refine wdG Y32_Ra (And.intro ENT (And.intro hg (And.intro hAx (And.intro hcap (And.intro (@List.length_map.{0, 0}) (And.intro enL_all hm1)))))) ?_
          rw [← lx]
          refine ALp.cutP 2 [(0, .sl (l.map enV) .ro), (3, .pt 0 0), (5, .sl ((((m + 1, false, Mx) : Nat × Bool × List En)).2.2.map enV) (.own 1)), (6, (.im (.bool ((((m + 1, false, Mx) : Nat × Bool × List En)).2.1)))), (7, (.im (.int .i64 ((((((m + 1, false, Mx) : Nat × Bool × List En)).1 : Nat) : Int)))))] [.box [(.im (.int .i64 (e.kind))), (.im (.int .i64 (e.var))), (.im (.int .u32 (e.addr))), (.im (.string (bA (e.text))))], .tip 46 4 (((m + 1, false, Mx) : Nat × Bool × List En)).2.2.length] I1_Ra ?_
          exact hn
      | false =>
        rw [hq] at hb h3
        cases hk : keyE x e with
        | true =>
          rw [hk] at hc
          rw [hk] at h3
          simp only [Bool.not_true, Bool.not_false, Bool.and_true, Bool.and_false, Bool.true_and, Bool.false_and, Bool.or_true, Bool.or_false, Bool.true_or, Bool.false_or, if_true, if_false, Bool.false_eq_true, List.nil_append, List.cons_append] at h3
          have hn := hnext (m + 1, true, out ++ [e]) (by simp; omega) ⟨by dsimp only; omega, by first | (dsimp only; omega) | (simp; omega), by rw [h3]; try simp⟩
          clear hnext h3
          generalize out ++ [e] = Me at hAe hAex le lex hn
          refine wdG Y32_Ra (And.intro hlt' (And.intro ENT hg)) ?_
          refine AR.callP hb enV_eq I1_Ra ?_
          refine goG Y32_Ra True.intro ?_
          refine wdG Y32_Ra (And.intro ENT (And.intro hg (And.intro hAe (And.intro hcap (And.intro (@List.length_map.{0, 0}) enL_all))))) ?_
          refine AR.callP hc enV_eq I1_Ra ?_
          refine goG Y32_Ra True.intro ?_
          refine wdG Y32_Ra hm1 ?_
          rw [← le]
          refine ALp.cutP 2 [(0, .sl (l.map enV) .ro), (3, .pt 0 0), (5, .sl ((((m + 1, true, Me) : Nat × Bool × List En)).2.2.map enV) (.own 1)), (6, (.im (.bool ((((m + 1, true, Me) : Nat × Bool × List En)).2.1)))), (7, (.im (.int .i64 ((((((m + 1, true, Me) : Nat × Bool × List En)).1 : Nat) : Int)))))] [.box [(.im (.int .i64 (e.kind))), (.im (.int .i64 (e.var))), (.im (.int .u32 (e.addr))), (.im (.string (bA (e.text))))], .tip 46 4 (((m + 1, true, Me) : Nat × Bool × List En)).2.2.length] I1_Ra ?_
          exact hn
        | false =>
          rw [hk] at hc
          rw [hk] at h3
          simp only [Bool.not_true, Bool.not_false, Bool.and_true, Bool.and_false, Bool.true_and, Bool.false_and, Bool.or_true, Bool.or_false, Bool.true_or, Bool.false_or, if_true, if_false, Bool.false_eq_true, List.nil_append, List.cons_append] at h3
          have hn := hnext (m + 1, true, out ++ [e] ++ [x]) (by simp; omega) ⟨by dsimp only; omega, by first | (dsimp only; omega) | (simp; omega), by rw [h3]; try simp⟩
          clear hnext h3
          generalize out ++ [e] = Me at hAe hAex le lex hn
          generalize Me ++ [x] = Mex at hAex lex hn
          refine wdG Y32_Ra (And.intro hlt' (And.intro ENT hg)) ?_
          refine AR.callP hb enV_eq I1_Ra ?_
          refine goG Y32_Ra True.intro ?_
          refine wdG Y32_Ra (And.intro ENT (And.intro hg (And.intro hAe (And.intro hcap (And.intro (@List.length_map.{0, 0}) enL_all))))) ?_
          refine AR.callP hc enV_eq I1_Ra ?_
          refine goG Y32_Ra True.intro ?_
          refine wdG Y32_Ra (And.intro ENT (And.intro hg (And.intro hAex (And.intro (@List.length_map.{0, 0}) (And.intro enL_all (And.intro le (And.intro hcap2 hm1))))))) ?_
          rw [← lex]
          refine ALp.cutP 2 [(0, .sl (l.map enV) .ro), (3, .pt 0 0), (5, .sl ((((m + 1, true, Mex) : Nat × Bool × List En)).2.2.map enV) (.own 1)), (6, (.im (.bool ((((m + 1, true, Mex) : Nat × Bool × List En)).2.1)))), (7, (.im (.int .i64 ((((((m + 1, true, Mex) : Nat × Bool × List En)).1 : Nat) : Int)))))] [.box [(.im (.int .i64 (e.kind))), (.im (.int .i64 (e.var))), (.im (.int .u32 (e.addr))), (.im (.string (bA (e.text))))], .tip 46 4 (((m + 1, true, Mex) : Nat × Bool × List En)).2.2.length] I1_Ra ?_
          exact hn
  · obtain rfl : m = l.length := by omega
    have hlt' : ¬ (l.length : Int) < (l.length : Int) := by omega
    rw [List.drop_length] at h3
    rw [h3]
    clear hnext hlt h3
    cases d with
    | true =>
      rw [wRg, if_pos rfl, List.append_nil]
      refine wdG Y32_Ra hlt' ?_
      refine Fin.gen0 (rs := [.tmp 4]) rfl (by first | exact .inl rfl | exact .inr rfl) (finG Y32_Ra) ?_
      skip
      all_goals exact wkG I1_Ra
    | false =>
      rw [wRg, if_neg (by decide)]
      have hA : out.map enV ++ [enV e] = (out ++ [e]).map enV := by rw [List.map_append]; rfl
      rw [enV_eq e] at hA
      have hcap : (out.length + 1) * 40 ≤ 140737488355328 := by omega
      generalize out ++ [e] = M at hA ⊢
      refine wdG Y32_Ra (And.intro hlt' (And.intro ENT (And.intro hA (And.intro hcap (And.intro (@List.length_map.{0, 0}) enL_all))))) ?_
      refine Fin.gen0 (rs := [.tmp 4]) rfl (by first | exact .inl rfl | exact .inr rfl) (finG Y32_Ra) ?_
      skip
      all_goals exact wkG I1_Ra
theorem c_withR (l : List En) (e : En) (h : AscE l) (hl : l.length ≤ 1048576) : PC Tryz.prog 32 [.sl (l.map enV) .ro, enV e] (.sl ((eWith l e).map enV) .ro) := by
  have q := c_withR0 l e hl
  rwa [wRg_eq h] at q
end Go.Proofs.YtianekkfehoedaaGreatDoor
