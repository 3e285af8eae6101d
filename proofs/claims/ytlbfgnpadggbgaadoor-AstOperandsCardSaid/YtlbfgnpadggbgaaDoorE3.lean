/- Walks: how many of a number of expressions are left; equal expressions, the reference. -/
import Derived.Test.YtlbfgnpadggbgaaDoorHv
import Derived.Test.YtlbfgnpadggbgaaDoorE2
import Derived.Test.YtlbfgnpadggbgaaDoorM7
namespace Go.Proofs.YtlbfgnpadggbgaaDoor
set_option linter.unusedSimpArgs false
set_option linter.unusedVariables false
set_option linter.unnecessarySimpa false
open Go.RowKit
theorem pair_cond {m n : Nat} {g : Int} (h : (decide ((m : Int) < n) && decide (0 < g)) = true) : m < n ∧ 0 < g := by
  simp only [Bool.and_eq_true, decide_eq_true_eq] at h
  omega
theorem pair_stop {α : Type} {f : α → Int → Int} {l : List α} (hb : ∀ t ∈ l, ∀ n, 0 < n → 0 ≤ f t n ∧ f t n < n) {m : Nat} (hm : m ≤ l.length) {n : Int} (hn : 0 ≤ n) (h : (decide ((m : Int) < l.length) && decide (0 < gfold f (l.take m) n)) = false) : gfold f (l.take m) n = gfold f l n := by
  simp only [Bool.and_eq_false_iff, decide_eq_false_iff_not] at h
  rcases h with h | h
  · rw [List.take_of_length_le (by omega)]
  · exact (gfold_all hb hn h).symm
theorem Y5_E3 : type_of% (And.intro @F_ag_23 (And.intro @F_ag_25 (And.intro @F_el_23 (And.intro @F_fl_25_4 (And.intro @F_sz_23 (@F_sz_25)))))) := And.intro @F_ag_23 (And.intro @F_ag_25 (And.intro @F_el_23 (And.intro @F_fl_25_4 (And.intro @F_sz_23 (@F_sz_25)))))
theorem c_sizeE : ∀ (t : Ex), fitE t → ∀ n : Int, 0 < n → n ≤ 4194304 → PC Tryd.prog 5 [exV t, (.im (.int .i64 (n)))] (.im (.int .i64 (exn t n))) := by
  refine Ex.induct fun o k s w l hL => ?_
  intro hfit n hn hn2
  obtain ⟨hl1, hfL⟩ := fitE_mk hfit
  have hw : IntKind.i64.wrap (n - 1) = n - 1 := wrap_in (by omega)
  rw [exn_mk]
  refine PC.enter 27 Tryd.func5 rfl (by decide) rfl rfl (s := [(0, exV (.mk o k s w l)), (1, (.im (.int .i64 (n))))]) (by rfl) ?_
  simp only [exV_mk]
  refine wG Y5_E3 hw ?_
  refine AWp.loop ?_
  refine ALp.cutP 1 [(1, (.im (.int .i64 (gfold exn (l.take (0)) (n - 1))))), (2, .pt 0 0), (5, (.im (.int .i64 ((((0 : Nat)) : Int)))))] [.box [.im (.int .i64 o), .im (.int .u32 k), .im (.string s), .im (.int .i64 w), .sl (l.map exV) .ro]] (And.intro (@exL_id) (And.intro (@vaL_id) (And.intro (@exV_id) @vaV_id))) ?_
  refine ALp.upto l.length (fun _ => True) (fun m => ⟨dn 27 [(1, (.im (.int .i64 (gfold exn (l.take (m)) (n - 1))))), (2, .pt 0 0), (5, (.im (.int .i64 ((((m : Nat)) : Int)))))], ofl [.box [.im (.int .i64 o), .im (.int .u32 k), .im (.string s), .im (.int .i64 w), .sl (l.map exV) .ro]]⟩) ?_ 0 (Nat.zero_le _) trivial
  intro m hm _ hnext
  refine wG Y5_E3 @Int.natCast_nonneg ?_
  refine AWp.condAB rfl rfl (fun hE => ?_) (fun hE => ?_)
  · obtain ⟨hlt, hp⟩ := pair_cond hE
    have hlt' : (m : Int) < (l.length : Int) := by omega
    have hm1 := wrap_succ hlt (by omega)
    have hb := gfold_bound (f := exn) (l := l.take m) (fun t _ => exn_bound t) (n - 1) (by omega)
    have hc := hL l[m] (List.getElem_mem hlt) (hfL _ (List.getElem_mem hlt)) _ hp (by omega)
    rw [← gfold_take hlt hp] at hc
    have hg := get_some hlt
    refine wG Y5_E3 (And.intro hlt' (And.intro hg (And.intro (@Int.natCast_nonneg) (And.intro (@exV_firm) (And.intro (@exV_strip) (And.intro (@exV_live) (And.intro (@exV_size) (And.intro (@exV_isAg) (And.intro (@exV_cells) @List.getElem?_map.{0, 0}))))))))) ?_
    refine AR.callP hc @exV_eq (And.intro (@exL_id) (And.intro (@vaL_id) (And.intro (@exV_id) @vaV_id))) ?_
    refine goG Y5_E3 True.intro ?_
    refine wG Y5_E3 hm1 ?_
    refine ALp.cutP 1 [(1, (.im (.int .i64 (gfold exn (l.take (m + 1)) (n - 1))))), (2, .pt 0 0), (5, (.im (.int .i64 ((((m + 1 : Nat)) : Int)))))] [.box [.im (.int .i64 o), .im (.int .u32 k), .im (.string s), .im (.int .i64 w), .sl (l.map exV) .ro]] (And.intro (@exL_id) (And.intro (@vaL_id) (And.intro (@exV_id) @vaV_id))) ?_
    exact hnext (m + 1) (by omega) (by omega) trivial
  rw [pair_stop (fun t _ => exn_bound t) hm (by omega) hE]
  clear hnext hE
  refine wG Y5_E3 True.intro ?_
  exact Fin.oneP
theorem all2_ne {α β : Type} {p : α → β → Bool} {l : List α} {m : List β} (h : l.length ≠ m.length) : all2 p l m = false := by
  rw [← Bool.not_eq_true, all2_iff]
  exact fun k => h k.1
theorem all2_at {α β : Type} {p : α → β → Bool} {l : List α} {m : List β} {i : Nat} (h1 : i < l.length) (h2 : i < m.length) (h : p l[i] m[i] = false) : all2 p l m = false := by
  rw [← Bool.not_eq_true, all2_iff]
  exact fun k => by rw [k.2 i h1 h2] at h; cases h
/-- The first m members of the lists go together. -/
def to2 {α β : Type} (p : α → β → Bool) (l : List α) (k : List β) (m : Nat) : Prop := ∀ j (h1 : j < l.length) (h2 : j < k.length), j < m → p l[j] k[j] = true
theorem to2.zero {α β : Type} (p : α → β → Bool) (l : List α) (k : List β) : to2 p l k 0 := fun j _ _ h => absurd h (Nat.not_lt_zero j)
theorem to2.succ {α β : Type} {p : α → β → Bool} {l : List α} {k : List β} {m : Nat} (h : to2 p l k m) (h1 : m < l.length) (h2 : m < k.length) (hp : p l[m] k[m] = true) : to2 p l k (m + 1) := fun j j1 j2 hj => by
  rcases Nat.lt_succ_iff_lt_or_eq.1 hj with hj | rfl
  · exact h j j1 j2 hj
  · exact hp
theorem to2.all {α β : Type} {p : α → β → Bool} {l : List α} {k : List β} (h : to2 p l k l.length) (he : l.length = k.length) : all2 p l k = true := all2_iff.2 ⟨he, fun j j1 j2 => h j j1 j2 j1⟩
theorem Y8_E3 : type_of% (And.intro @F_ag_22 (And.intro @F_ag_23 (And.intro @F_ag_25 (And.intro @F_ag_3 (And.intro @F_ag_9 (And.intro @F_el_23 (And.intro @F_fl_25_0 (And.intro @F_fl_25_1 (And.intro @F_fl_25_2 (And.intro @F_fl_25_3 (And.intro @F_fl_25_4 (And.intro @F_sz_22 (And.intro @F_sz_23 (And.intro @F_sz_25 (And.intro @F_sz_3 (@F_sz_9)))))))))))))))) := And.intro @F_ag_22 (And.intro @F_ag_23 (And.intro @F_ag_25 (And.intro @F_ag_3 (And.intro @F_ag_9 (And.intro @F_el_23 (And.intro @F_fl_25_0 (And.intro @F_fl_25_1 (And.intro @F_fl_25_2 (And.intro @F_fl_25_3 (And.intro @F_fl_25_4 (And.intro @F_sz_22 (And.intro @F_sz_23 (And.intro @F_sz_25 (And.intro @F_sz_3 (@F_sz_9)))))))))))))))
theorem c_SameExpr : ∀ (a : Ex), fitE a → ∀ b, fitE b → PC Tryd.prog 8 [exV a, exV b] (.im (.bool (samE a b))) := by
  refine Ex.induct fun o k s w l hL => ?_
  intro hfit b hfb
  obtain ⟨o', k', s', w', l'⟩ := b
  obtain ⟨hl1, hfL⟩ := fitE_mk hfit
  obtain ⟨hl2, hfL'⟩ := fitE_mk hfb
  rw [samE_mk]
  simp only [Ex.op, Ex.n, Ex.name, Ex.width, Ex.l]
  refine PC.enter 60 Tryd.func8 rfl (by decide) rfl rfl (s := [(0, exV (.mk o k s w l)), (1, exV (.mk o' k' s' w' l'))]) (by rfl) ?_
  simp only [exV_mk]
  refine wG Y8_E3 True.intro ?_
  refine AWp.condAB rfl rfl (fun hE => ?_) (fun hE => ?_)
  · have hr : (o == o' && k == k' && eqS s s' && w == w' && all2 samE l l') = false := by
      simp only [Bool.or_eq_true, bne_iff_ne, ne_eq, Bool.not_eq_true', decide_eq_false_iff_not, beq_eq_false_iff_ne] at hE
      rcases hE with (((hE | hE) | hE) | hE) | hE
      · simp [hE]
      · simp [hE]
      · have : eqS s s' = false := by unfold eqS; simpa using hE
        simp [this]
      · simp [hE]
      · rw [all2_ne (by omega)]; simp
    rw [hr]
    refine wG Y8_E3 True.intro ?_
    exact Fin.oneP
  · simp only [Bool.or_eq_false_iff, bne_eq_false_iff_eq, beq_iff_eq, Bool.not_eq_false', decide_eq_true_eq] at hE
    obtain ⟨⟨⟨⟨rfl, rfl⟩, hs⟩, rfl⟩, h4⟩ := hE
    obtain rfl : s = s' := (eqS_iff s s').1 (by unfold eqS; simpa using hs)
    have h4 : l.length = l'.length := by omega
    have hr : (o == o && k == k && eqS s s && w == w && all2 samE l l') = all2 samE l l' := by simp [eqS_refl]
    rw [hr]
    clear hr hs
    refine wG Y8_E3 True.intro ?_
    refine AWp.loop ?_
    refine ALp.cutP 2 [(2, .pt 0 0), (3, .pt 1 0), (5, (.im (.int .i64 ((((0 : Nat)) : Int)))))] [.box [.im (.int .i64 o), .im (.int .u32 k), .im (.string s), .im (.int .i64 w), .sl (l.map exV) .ro], .box [.im (.int .i64 o), .im (.int .u32 k), .im (.string s), .im (.int .i64 w), .sl (l'.map exV) .ro]] (And.intro (@exL_id) (And.intro (@vaL_id) (And.intro (@exV_id) @vaV_id))) ?_
    refine ALp.upto l.length (to2 samE l l') (fun m => ⟨dn 60 [(2, .pt 0 0), (3, .pt 1 0), (5, (.im (.int .i64 ((((m : Nat)) : Int)))))], ofl [.box [.im (.int .i64 o), .im (.int .u32 k), .im (.string s), .im (.int .i64 w), .sl (l.map exV) .ro], .box [.im (.int .i64 o), .im (.int .u32 k), .im (.string s), .im (.int .i64 w), .sl (l'.map exV) .ro]]⟩) ?_ 0 (Nat.zero_le _) (to2.zero _ _ _)
    intro m hm hI hnext
    by_cases hlt : m < l.length
    · have hlt2 : m < l'.length := by omega
      have hlt' : (m : Int) < (l.length : Int) := by omega
      have hlt2' : (m : Int) < (l'.length : Int) := by omega
      have hg := get_some hlt
      have hg2 := get_some hlt2
      have hm1 := wrap_succ hlt (by omega)
      have hc := hL l[m] (List.getElem_mem hlt) (hfL _ (List.getElem_mem hlt)) l'[m] (hfL' _ (List.getElem_mem hlt2))
      refine wdG Y8_E3 (And.intro hlt' (And.intro hlt2' (And.intro hg (And.intro hg2 EX)))) ?_
      refine AR.callP hc @exV_eq (And.intro (@exL_id) (And.intro (@vaL_id) (And.intro (@exV_id) @vaV_id))) ?_
      cases hs : samE l[m] l'[m] with
      | false =>
        rw [all2_at hlt hlt2 hs]
        refine goG Y8_E3 hs ?_
        refine wdG Y8_E3 True.intro ?_
        exact Fin.oneP
      | true =>
        refine goG Y8_E3 hs ?_
        refine wdG Y8_E3 hm1 ?_
        refine ALp.cutP 2 [(2, .pt 0 0), (3, .pt 1 0), (5, (.im (.int .i64 ((((m + 1 : Nat)) : Int)))))] [.box [.im (.int .i64 o), .im (.int .u32 k), .im (.string s), .im (.int .i64 w), .sl (l.map exV) .ro], .box [.im (.int .i64 o), .im (.int .u32 k), .im (.string s), .im (.int .i64 w), .sl (l'.map exV) .ro]] (And.intro (@exL_id) (And.intro (@vaL_id) (And.intro (@exV_id) @vaV_id))) ?_
        exact hnext (m + 1) (by omega) (by omega) (hI.succ hlt hlt2 hs)
    obtain rfl : m = l.length := by omega
    rw [hI.all h4]
    clear hnext hI
    refine wG Y8_E3 @Int.lt_irrefl ?_
    exact Fin.oneP
end Go.Proofs.YtlbfgnpadggbgaaDoor

