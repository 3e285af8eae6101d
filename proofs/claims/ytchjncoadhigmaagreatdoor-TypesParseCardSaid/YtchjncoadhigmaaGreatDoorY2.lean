/- Walks: Same, both. -/
import Derived.Test.YtchjncoadhigmaaGreatDoorHv
import Derived.Test.YtchjncoadhigmaaGreatDoorY1
namespace Go.Proofs.YtchjncoadhigmaaGreatDoor
set_option linter.unusedSimpArgs false
set_option linter.unusedVariables false
set_option linter.unnecessarySimpa false
open Go.RowKit
theorem all2_ne {α β : Type} {p : α → β → Bool} {l : List α} {m : List β} (h : l.length ≠ m.length) : all2 p l m = false := by
  rw [← Bool.not_eq_true, all2_iff]
  exact fun k => h k.1
theorem all2_at {α β : Type} {p : α → β → Bool} {l : List α} {m : List β} {i : Nat} (h1 : i < l.length) (h2 : i < m.length) (h : p l[i] m[i] = false) : all2 p l m = false := by
  rw [← Bool.not_eq_true, all2_iff]
  exact fun k => by rw [k.2 i h1 h2] at h; cases h
/-- The first m members of the lists go together. -/
def to2 {α β : Type} (p : α → β → Bool) (l : List α) (k : List β) (m : Nat) : Prop := ∀ j (h1 : j < l.length) (h2 : j < k.length), j < m → p l[j] k[j] = true
theorem to2.zero {α β : Type} (p : α → β → Bool) (l : List α) (k : List β) : to2 p l k 0 := fun j _ _ h => absurd h (Nat.not_lt_zero j)
theorem to2.succ {α β : Type} {p : α → β → Bool} {l : List α} {k : List β} {m : Nat} (h : to2 p l k m) (h1 : m < l.length) (h2 : m < k.length) (hp : p l[m] k[m] = true) : to2 p l k (m + 1) := fun j j1 j2 hj => by
  rcases Nat.lt_succ_iff_lt_or_eq.1 hj with hj | rfl
  · exact h j j1 j2 hj
  · exact hp
theorem to2.all {α β : Type} {p : α → β → Bool} {l : List α} {k : List β} (h : to2 p l k l.length) (he : l.length = k.length) : all2 p l k = true := all2_iff.2 ⟨he, fun j j1 j2 => h j j1 j2 j1⟩
def samF (x y : Ty) : Bool := x.off == y.off && samT x y
theorem Y10_Y2 : type_of% (And.intro @F_ag_22 (And.intro @F_ag_23 (And.intro @F_ag_25 (And.intro @F_ag_3 (And.intro @F_el_22 (And.intro @F_el_23 (And.intro @F_fl_25_0 (And.intro @F_fl_25_1 (And.intro @F_fl_25_2 (And.intro @F_fl_25_3 (And.intro @F_fl_25_4 (And.intro @F_fl_47_0 (And.intro @F_fl_47_1 (And.intro @F_sz_22 (And.intro @F_sz_23 (And.intro @F_sz_25 (And.intro @F_sz_3 (@F_sz_47)))))))))))))))))) := And.intro @F_ag_22 (And.intro @F_ag_23 (And.intro @F_ag_25 (And.intro @F_ag_3 (And.intro @F_el_22 (And.intro @F_el_23 (And.intro @F_fl_25_0 (And.intro @F_fl_25_1 (And.intro @F_fl_25_2 (And.intro @F_fl_25_3 (And.intro @F_fl_25_4 (And.intro @F_fl_47_0 (And.intro @F_fl_47_1 (And.intro @F_sz_22 (And.intro @F_sz_23 (And.intro @F_sz_25 (And.intro @F_sz_3 (@F_sz_47)))))))))))))))))
theorem c_SameR : ∀ (a : Ty), fit a → ∀ b, fit b → PC Tryz.prog 10 [tyV a, tyV b] (.im (.bool (samT a b))) := by
  refine Ty.induct fun o k s c es fs hT hF => ?_
  intro hfit b hfb
  obtain ⟨o', k', s', c', es', fs'⟩ := b
  obtain ⟨hl1, hl2, hfE, hfF⟩ := fit_mk hfit
  obtain ⟨hl3, hl4, hfE', hfF'⟩ := fit_mk hfb
  rw [samT_mk]
  simp only [Ty.kind, Ty.size, Ty.count, Ty.elem, Ty.fields]
  show PC _ _ _ (.im (.bool (k == k' && s == s' && c == c' && all2 samT es es' && all2 samF fs fs')))
  refine PC.enter 99 Tryz.func10 rfl (by decide) rfl rfl (s := [(0, tyV (.mk o k s c es fs)), (1, tyV (.mk o' k' s' c' es' fs'))]) (by rfl) ?_
  simp only [tyV_mk]
  refine wG Y10_Y2 True.intro ?_
  refine AWp.condAB rfl rfl (fun hE => ?_) (fun hE => ?_)
  · have hr : (k == k' && s == s' && c == c' && all2 samT es es' && all2 samF fs fs') = false := by
      simp only [Bool.or_eq_true, bne_iff_ne, ne_eq, Bool.not_eq_true', decide_eq_false_iff_not, beq_eq_false_iff_ne] at hE
      rcases hE with (((hE | hE) | hE) | hE) | hE
      · simp [hE]
      · simp [hE]
      · simp [hE]
      · rw [all2_ne (by omega)]; simp
      · rw [all2_ne (l := fs) (by omega)]; simp
    rw [hr]
    refine wG Y10_Y2 True.intro ?_
    exact Fin.oneP
  · simp only [Bool.or_eq_false_iff, bne_eq_false_iff_eq, beq_iff_eq, Bool.not_eq_false', decide_eq_true_eq] at hE
    obtain ⟨⟨⟨⟨rfl, rfl⟩, rfl⟩, h4⟩, h5⟩ := hE
    have h4 : es.length = es'.length := by omega
    have h5 : fs.length = fs'.length := by omega
    have hr : (k == k && s == s && c == c && all2 samT es es' && all2 samF fs fs') = (all2 samT es es' && all2 samF fs fs') := by simp
    rw [hr]
    clear hr
    refine wG Y10_Y2 True.intro ?_
    refine AWp.loop ?_
    refine ALp.cutP 2 [(2, .pt 0 0), (3, .pt 1 0), (5, (.im (.int .i64 ((((0 : Nat)) : Int)))))] [.box [.im (.int .i64 k), .im (.int .i64 s), .im (.int .i64 c), .sl (es.map tyV) .ro, .sl (fs.map fdV) .ro], .box [.im (.int .i64 k), .im (.int .i64 s), .im (.int .i64 c), .sl (es'.map tyV) .ro, .sl (fs'.map fdV) .ro]] (And.intro (@tyV_id) (And.intro (@fdV_id) (And.intro (@tyL_id) @fdL_id))) ?_
    refine ALp.upto es.length (to2 samT es es') (fun m => ⟨dn 99 [(2, .pt 0 0), (3, .pt 1 0), (5, (.im (.int .i64 ((((m : Nat)) : Int)))))], ofl [.box [.im (.int .i64 k), .im (.int .i64 s), .im (.int .i64 c), .sl (es.map tyV) .ro, .sl (fs.map fdV) .ro], .box [.im (.int .i64 k), .im (.int .i64 s), .im (.int .i64 c), .sl (es'.map tyV) .ro, .sl (fs'.map fdV) .ro]]⟩) ?_ 0 (Nat.zero_le _) (to2.zero _ _ _)
    intro m hm hI hnext
    by_cases hlt : m < es.length
    · have hlt2 : m < es'.length := by omega
      have hlt' : (m : Int) < (es.length : Int) := by omega
      have hlt2' : (m : Int) < (es'.length : Int) := by omega
      have hg := get_some hlt
      have hg2 := get_some hlt2
      have hm1 := wrap_succ hlt (by omega)
      have hc := hT es[m] (List.getElem_mem hlt) (hfE _ (List.getElem_mem hlt)) es'[m] (hfE' _ (List.getElem_mem hlt2))
      refine wdG Y10_Y2 (And.intro hlt' (And.intro hlt2' (And.intro hg (And.intro hg2 TY)))) ?_
      refine AR.callP hc @tyV_eq (And.intro (@tyV_id) (And.intro (@fdV_id) (And.intro (@tyL_id) @fdL_id))) ?_
      cases hs : samT es[m] es'[m] with
      | false =>
        rw [all2_at hlt hlt2 hs, Bool.false_and]
        refine goG Y10_Y2 hs ?_
        refine wdG Y10_Y2 True.intro ?_
        exact Fin.oneP
      | true =>
        refine goG Y10_Y2 hs ?_
        refine wdG Y10_Y2 hm1 ?_
        refine ALp.cutP 2 [(2, .pt 0 0), (3, .pt 1 0), (5, (.im (.int .i64 ((((m + 1 : Nat)) : Int)))))] [.box [.im (.int .i64 k), .im (.int .i64 s), .im (.int .i64 c), .sl (es.map tyV) .ro, .sl (fs.map fdV) .ro], .box [.im (.int .i64 k), .im (.int .i64 s), .im (.int .i64 c), .sl (es'.map tyV) .ro, .sl (fs'.map fdV) .ro]] (And.intro (@tyV_id) (And.intro (@fdV_id) (And.intro (@tyL_id) @fdL_id))) ?_
        exact hnext (m + 1) (by omega) (by omega) (hI.succ hlt hlt2 hs)
    obtain rfl : m = es.length := by omega
    rw [hI.all h4, Bool.true_and]
    clear hnext hI
    refine whG Y10_Y2 @Int.lt_irrefl ?_
    refine Blk'.here (Thn.n ?_)
    refine wG Y10_Y2 True.intro ?_
    refine AWp.loop ?_
    refine ALp.cutP 2 [(2, .pt 0 0), (3, .pt 1 0), (6, (.im (.int .i64 ((((0 : Nat)) : Int)))))] [.box [.im (.int .i64 k), .im (.int .i64 s), .im (.int .i64 c), .sl (es.map tyV) .ro, .sl (fs.map fdV) .ro], .box [.im (.int .i64 k), .im (.int .i64 s), .im (.int .i64 c), .sl (es'.map tyV) .ro, .sl (fs'.map fdV) .ro]] (And.intro (@tyV_id) (And.intro (@fdV_id) (And.intro (@tyL_id) @fdL_id))) ?_
    refine ALp.upto fs.length (to2 samF fs fs') (fun m => ⟨dn 99 [(2, .pt 0 0), (3, .pt 1 0), (6, (.im (.int .i64 ((((m : Nat)) : Int)))))], ofl [.box [.im (.int .i64 k), .im (.int .i64 s), .im (.int .i64 c), .sl (es.map tyV) .ro, .sl (fs.map fdV) .ro], .box [.im (.int .i64 k), .im (.int .i64 s), .im (.int .i64 c), .sl (es'.map tyV) .ro, .sl (fs'.map fdV) .ro]]⟩) ?_ 0 (Nat.zero_le _) (to2.zero _ _ _)
    intro m hm hI hnext
    by_cases hlt : m < fs.length
    · have hlt2 : m < fs'.length := by omega
      have hlt' : (m : Int) < (fs.length : Int) := by omega
      have hlt2' : (m : Int) < (fs'.length : Int) := by omega
      have hg := get_some hlt
      have hg2 := get_some hlt2
      have hm1 := wrap_succ hlt (by omega)
      have hc := hF fs[m] (List.getElem_mem hlt) (hfF _ (List.getElem_mem hlt)) fs'[m] (hfF' _ (List.getElem_mem hlt2))
      by_cases ho : fs[m].off = fs'[m].off
      case neg =>
        have hs : samF fs[m] fs'[m] = false := by simp [samF, ho]
        rw [all2_at hlt hlt2 hs]
        refine wdG Y10_Y2 (And.intro hlt' (And.intro hlt2' (And.intro hg (And.intro hg2 (And.intro ho TY))))) ?_
        exact Fin.oneP
      cases hs : samT fs[m] fs'[m] with
      | false =>
        have hs' : samF fs[m] fs'[m] = false := by simp [samF, hs]
        rw [all2_at hlt hlt2 hs']
        refine wdG Y10_Y2 (And.intro hlt' (And.intro hlt2' (And.intro hg (And.intro hg2 (And.intro ho TY))))) ?_
        refine AR.callP hc @tyV_eq (And.intro (@tyV_id) (And.intro (@fdV_id) (And.intro (@tyL_id) @fdL_id))) ?_
        refine goG Y10_Y2 hs ?_
        refine wdG Y10_Y2 True.intro ?_
        exact Fin.oneP
      | true =>
        have hs' : samF fs[m] fs'[m] = true := by simp [samF, ho, hs]
        refine wdG Y10_Y2 (And.intro hlt' (And.intro hlt2' (And.intro hg (And.intro hg2 (And.intro ho TY))))) ?_
        refine AR.callP hc @tyV_eq (And.intro (@tyV_id) (And.intro (@fdV_id) (And.intro (@tyL_id) @fdL_id))) ?_
        refine goG Y10_Y2 hs ?_
        refine wdG Y10_Y2 hm1 ?_
        refine ALp.cutP 2 [(2, .pt 0 0), (3, .pt 1 0), (6, (.im (.int .i64 ((((m + 1 : Nat)) : Int)))))] [.box [.im (.int .i64 k), .im (.int .i64 s), .im (.int .i64 c), .sl (es.map tyV) .ro, .sl (fs.map fdV) .ro], .box [.im (.int .i64 k), .im (.int .i64 s), .im (.int .i64 c), .sl (es'.map tyV) .ro, .sl (fs'.map fdV) .ro]] (And.intro (@tyV_id) (And.intro (@fdV_id) (And.intro (@tyL_id) @fdL_id))) ?_
        exact hnext (m + 1) (by omega) (by omega) (hI.succ hlt hlt2 hs')
    obtain rfl : m = fs.length := by omega
    rw [hI.all h5]
    clear hnext hI
    refine wG Y10_Y2 @Int.lt_irrefl ?_
    exact Fin.oneP
theorem Y56_Y2 : type_of% (And.intro @F_ag_25 (And.intro @F_al_25 (And.intro @F_el_22 (@F_sz_25)))) := And.intro @F_ag_25 (And.intro @F_al_25 (And.intro @F_el_22 (@F_sz_25)))
theorem c_eqT {l k : List Ty} {F : FuncId} (p : Ty → Ty → Bool) (hl : l.length ≤ 4194304) (hk : k.length ≤ 4194304) (hF : ∀ x ∈ l, ∀ y ∈ k, PC Tryz.prog F [tyV x, tyV y] (.im (.bool (p x y)))) :
    PC Tryz.prog 56 [.sl (l.map tyV) .ro, .sl (k.map tyV) .ro, .fn (.func F) [] []] (.im (.bool (all2 p l k))) := by
  refine PC.enter 32 Tryz.func56 rfl (by decide) rfl rfl (s := [(0, .sl (l.map tyV) .ro), (1, .sl (k.map tyV) .ro), (2, .fn (.func F) [] [])]) (by rfl) ?_
  by_cases he : l.length = k.length
  case neg =>
    have he' : ¬ (l.length : Int) = (k.length : Int) := by omega
    rw [all2_ne he]
    refine wG Y56_Y2 he' ?_
    exact Fin.oneP
  have he' : (l.length : Int) = (k.length : Int) := by omega
  refine wG Y56_Y2 he' ?_
  refine AWp.loop ?_
  refine ALp.cutP 0 [(1, .sl (k.map tyV) .ro), (2, .fn (.func F) [] []), (15, .sl (l.map tyV) .ro), (16, (.im (.int .i64 (k.length)))), (17, (.im (.int .i64 ((((0 : Nat)) : Int)))))] [] (And.intro (@tyV_id) (And.intro (@fdV_id) (And.intro (@tyL_id) @fdL_id))) ?_
  refine ALp.upto l.length (to2 p l k) (fun m => ⟨dn 32 [(1, .sl (k.map tyV) .ro), (2, .fn (.func F) [] []), (15, .sl (l.map tyV) .ro), (16, (.im (.int .i64 (k.length)))), (17, (.im (.int .i64 ((((m : Nat)) : Int)))))], ofl []⟩) ?_ 0 (Nat.zero_le _) (to2.zero _ _ _)
  intro m hm hI hnext
  by_cases hlt : m < l.length
  · have hlt2 : m < k.length := by omega
    have hlt' : (m : Int) < (l.length : Int) := by omega
    have hlt2' : (m : Int) < (k.length : Int) := by omega
    have hg := get_some hlt
    have hg2 := get_some hlt2
    have hm1 := wrap_succ hlt (by omega)
    have hc := hF l[m] (List.getElem_mem hlt) k[m] (List.getElem_mem hlt2)
    refine wG Y56_Y2 (And.intro hlt' (And.intro hlt2' (And.intro he' (And.intro hg (And.intro hg2 TY))))) ?_
    refine AR.callP hc @tyV_eq (And.intro (@tyV_id) (And.intro (@fdV_id) (And.intro (@tyL_id) @fdL_id))) ?_
    cases hs : p l[m] k[m] with
    | false =>
      rw [all2_at hlt hlt2 hs]
      refine goG Y56_Y2 hs ?_
      refine wG Y56_Y2 True.intro ?_
      exact Fin.oneP
    | true =>
      refine goG Y56_Y2 hs ?_
      refine wG Y56_Y2 hm1 ?_
      refine ALp.cutP 0 [(1, .sl (k.map tyV) .ro), (2, .fn (.func F) [] []), (15, .sl (l.map tyV) .ro), (16, (.im (.int .i64 (k.length)))), (17, (.im (.int .i64 ((((m + 1 : Nat)) : Int)))))] [] (And.intro (@tyV_id) (And.intro (@fdV_id) (And.intro (@tyL_id) @fdL_id))) ?_
      exact hnext (m + 1) (by omega) (by omega) (hI.succ hlt hlt2 hs)
  obtain rfl : m = l.length := by omega
  rw [hI.all he]
  clear hnext hI
  refine wG Y56_Y2 (And.intro he' @Int.lt_irrefl) ?_
  exact Fin.oneP
theorem Y57_Y2 : type_of% (And.intro @F_ag_47 (And.intro @F_al_47 (And.intro @F_el_23 (@F_sz_47)))) := And.intro @F_ag_47 (And.intro @F_al_47 (And.intro @F_el_23 (@F_sz_47)))
theorem c_eqF {l k : List Ty} {F : FuncId} (p : Ty → Ty → Bool) (hl : l.length ≤ 4194304) (hk : k.length ≤ 4194304) (hF : ∀ x ∈ l, ∀ y ∈ k, PC Tryz.prog F [fdV x, fdV y] (.im (.bool (p x y)))) :
    PC Tryz.prog 57 [.sl (l.map fdV) .ro, .sl (k.map fdV) .ro, .fn (.func F) [] []] (.im (.bool (all2 p l k))) := by
  refine PC.enter 32 Tryz.func57 rfl (by decide) rfl rfl (s := [(0, .sl (l.map fdV) .ro), (1, .sl (k.map fdV) .ro), (2, .fn (.func F) [] [])]) (by rfl) ?_
  by_cases he : l.length = k.length
  case neg =>
    have he' : ¬ (l.length : Int) = (k.length : Int) := by omega
    rw [all2_ne he]
    refine wG Y57_Y2 he' ?_
    exact Fin.oneP
  have he' : (l.length : Int) = (k.length : Int) := by omega
  refine wG Y57_Y2 he' ?_
  refine AWp.loop ?_
  refine ALp.cutP 0 [(1, .sl (k.map fdV) .ro), (2, .fn (.func F) [] []), (15, .sl (l.map fdV) .ro), (16, (.im (.int .i64 (k.length)))), (17, (.im (.int .i64 ((((0 : Nat)) : Int)))))] [] (And.intro (@tyV_id) (And.intro (@fdV_id) (And.intro (@tyL_id) @fdL_id))) ?_
  refine ALp.upto l.length (to2 p l k) (fun m => ⟨dn 32 [(1, .sl (k.map fdV) .ro), (2, .fn (.func F) [] []), (15, .sl (l.map fdV) .ro), (16, (.im (.int .i64 (k.length)))), (17, (.im (.int .i64 ((((m : Nat)) : Int)))))], ofl []⟩) ?_ 0 (Nat.zero_le _) (to2.zero _ _ _)
  intro m hm hI hnext
  by_cases hlt : m < l.length
  · have hlt2 : m < k.length := by omega
    have hlt' : (m : Int) < (l.length : Int) := by omega
    have hlt2' : (m : Int) < (k.length : Int) := by omega
    have hg := get_some hlt
    have hg2 := get_some hlt2
    have hm1 := wrap_succ hlt (by omega)
    have hc := hF l[m] (List.getElem_mem hlt) k[m] (List.getElem_mem hlt2)
    refine wG Y57_Y2 (And.intro hlt' (And.intro hlt2' (And.intro he' (And.intro hg (And.intro hg2 TY))))) ?_
    refine AR.callP hc @fdV_eq (And.intro (@tyV_id) (And.intro (@fdV_id) (And.intro (@tyL_id) @fdL_id))) ?_
    cases hs : p l[m] k[m] with
    | false =>
      rw [all2_at hlt hlt2 hs]
      refine goG Y57_Y2 hs ?_
      refine wG Y57_Y2 True.intro ?_
      exact Fin.oneP
    | true =>
      refine goG Y57_Y2 hs ?_
      refine wG Y57_Y2 hm1 ?_
      refine ALp.cutP 0 [(1, .sl (k.map fdV) .ro), (2, .fn (.func F) [] []), (15, .sl (l.map fdV) .ro), (16, (.im (.int .i64 (k.length)))), (17, (.im (.int .i64 ((((m + 1 : Nat)) : Int)))))] [] (And.intro (@tyV_id) (And.intro (@fdV_id) (And.intro (@tyL_id) @fdL_id))) ?_
      exact hnext (m + 1) (by omega) (by omega) (hI.succ hlt hlt2 hs)
  obtain rfl : m = l.length := by omega
  rw [hI.all he]
  clear hnext hI
  refine wG Y57_Y2 (And.intro he' @Int.lt_irrefl) ?_
  exact Fin.oneP
theorem Y58_Y2 : type_of% (And.intro @F_ag_25 (And.intro @F_ag_3 (And.intro @F_fl_47_0 (And.intro @F_fl_47_1 (And.intro @F_sz_25 (@F_sz_3)))))) := And.intro @F_ag_25 (And.intro @F_ag_3 (And.intro @F_fl_47_0 (And.intro @F_fl_47_1 (And.intro @F_sz_25 (@F_sz_3)))))
theorem c_same1 {x y : Ty} {r : Bool} (h : PC Tryz.prog 24 [tyV x, tyV y] (.im (.bool (r)))) : PC Tryz.prog 58 [fdV x, fdV y] (.im (.bool (x.off == y.off && r))) := by
  refine PC.enter 17 Tryz.func58 rfl (by decide) rfl rfl (s := [(0, fdV x), (1, fdV y)]) (by rfl) ?_
  rw [fdV_eq x, fdV_eq y]
  by_cases ho : x.off = y.off
  · refine wG Y58_Y2 (And.intro ho TY) ?_
    rw [tyV_eq x, tyV_eq y] at h
    refine AR.callP h True.intro (And.intro (@tyV_id) (And.intro (@fdV_id) (And.intro (@tyL_id) @fdL_id))) ?_
    refine goG Y58_Y2 True.intro ?_
    refine wG Y58_Y2 True.intro ?_
    simp only [ho, beq_self_eq_true, Bool.true_and]
    exact Fin.oneP
  · refine wG Y58_Y2 (And.intro ho TY) ?_
    have : (x.off == y.off) = false := by simp [ho]
    rw [this, Bool.false_and]
    exact Fin.oneP
theorem Y24_Y2 : type_of% (And.intro @F_ag_22 (And.intro @F_ag_23 (And.intro @F_ag_3 (And.intro @F_fl_25_0 (And.intro @F_fl_25_1 (And.intro @F_fl_25_2 (And.intro @F_fl_25_3 (And.intro @F_fl_25_4 (And.intro @F_sz_22 (And.intro @F_sz_23 (@F_sz_3))))))))))) := And.intro @F_ag_22 (And.intro @F_ag_23 (And.intro @F_ag_3 (And.intro @F_fl_25_0 (And.intro @F_fl_25_1 (And.intro @F_fl_25_2 (And.intro @F_fl_25_3 (And.intro @F_fl_25_4 (And.intro @F_sz_22 (And.intro @F_sz_23 (@F_sz_3))))))))))
theorem c_Same : ∀ (a : Ty), fit a → ∀ b, fit b → PC Tryz.prog 24 [tyV a, tyV b] (.im (.bool (samT a b))) := by
  refine Ty.induct fun o k s c es fs hT hF => ?_
  intro hfit b hfb
  obtain ⟨o', k', s', c', es', fs'⟩ := b
  obtain ⟨hl1, hl2, hfE, hfF⟩ := fit_mk hfit
  obtain ⟨hl3, hl4, hfE', hfF'⟩ := fit_mk hfb
  have h1 := c_eqT (l := es) (k := es') samT hl1 hl3 (fun x hx y hy => hT x hx (hfE x hx) y (hfE' y hy))
  have h2 := c_eqF (l := fs) (k := fs') samF hl2 hl4 (fun x hx y hy => c_same1 (hF x hx (hfF x hx) y (hfF' y hy)))
  rw [samT_mk]
  simp only [Ty.kind, Ty.size, Ty.count, Ty.elem, Ty.fields]
  show PC _ _ _ (.im (.bool (k == k' && s == s' && c == c' && all2 samT es es' && all2 samF fs fs')))
  generalize all2 samT es es' = r1 at h1 ⊢
  generalize all2 samF fs fs' = r2 at h2 ⊢
  refine PC.enter 38 Tryz.func24 rfl (by decide) rfl rfl (s := [(0, tyV (.mk o k s c es fs)), (1, tyV (.mk o' k' s' c' es' fs'))]) (by rfl) ?_
  simp only [tyV_mk]
  by_cases e1 : k = k'
  case neg =>
    have q : (k == k') = false := by simp [e1]
    rw [q]
    simp only [Bool.false_and]
    refine wG Y24_Y2 e1 ?_
    exact Fin.oneP
  by_cases e2 : s = s'
  case neg =>
    have q : (s == s') = false := by simp [e2]
    rw [q]
    simp only [Bool.and_false, Bool.false_and]
    refine wG Y24_Y2 (And.intro e1 e2) ?_
    exact Fin.oneP
  by_cases e3 : c = c'
  case neg =>
    have q : (c == c') = false := by simp [e3]
    rw [q]
    simp only [Bool.and_false, Bool.false_and]
    refine wG Y24_Y2 (And.intro e1 (And.intro e2 e3)) ?_
    exact Fin.oneP
  subst e1 e2 e3
  simp only [beq_self_eq_true, Bool.true_and]
  refine wG Y24_Y2 True.intro ?_
  refine AR.callP h1 True.intro (And.intro (@tyV_id) (And.intro (@fdV_id) (And.intro (@tyL_id) @fdL_id))) ?_
  cases r1 with
  | false =>
    simp only [Bool.false_and]
    refine goG Y24_Y2 True.intro ?_
    refine wG Y24_Y2 True.intro ?_
    exact Fin.oneP
  | true =>
    simp only [Bool.true_and]
    refine goG Y24_Y2 True.intro ?_
    refine AR.callP h2 True.intro (And.intro (@tyV_id) (And.intro (@fdV_id) (And.intro (@tyL_id) @fdL_id))) ?_
    refine goG Y24_Y2 True.intro ?_
    refine wG Y24_Y2 True.intro ?_
    exact Fin.oneP
end Go.Proofs.YtchjncoadhigmaaGreatDoor

