/- Walks: Same of the reference; the law on expressions. -/
import Derived.Test.YtfggemopnlffeaaHv
import Derived.Test.YtfggemopnlffeaaBV
namespace Go.Proofs.Ytfggemopnlffeaa
set_option linter.unusedSimpArgs false
set_option linter.unusedVariables false
set_option linter.unnecessarySimpa false
open Go.RowKit
theorem all2_ne {α β : Type} {p : α → β → Bool} {l : List α} {m : List β} (h : l.length ≠ m.length) : all2 p l m = false := by
  rw [← Bool.not_eq_true, all2_iff]
  exact fun k => h k.1
theorem all2_at {α β : Type} {p : α → β → Bool} {l : List α} {m : List β} {i : Nat} (h1 : i < l.length) (h2 : i < m.length) (h : p l[i] m[i] = false) : all2 p l m = false := by
  rw [← Bool.not_eq_true, all2_iff]
  exact fun k => by rw [k.2 i h1 h2] at h; cases h
/-- The first m members of the lists go together. -/
def to2 {α β : Type} (p : α → β → Bool) (l : List α) (k : List β) (m : Nat) : Prop := ∀ j (h1 : j < l.length) (h2 : j < k.length), j < m → p l[j] k[j] = true
theorem to2.zero {α β : Type} (p : α → β → Bool) (l : List α) (k : List β) : to2 p l k 0 := fun j _ _ h => absurd h (Nat.not_lt_zero j)
theorem to2.succ {α β : Type} {p : α → β → Bool} {l : List α} {k : List β} {m : Nat} (h : to2 p l k m) (h1 : m < l.length) (h2 : m < k.length) (hp : p l[m] k[m] = true) : to2 p l k (m + 1) := fun j j1 j2 hj => by
  rcases Nat.lt_succ_iff_lt_or_eq.1 hj with hj | rfl
  · exact h j j1 j2 hj
  · exact hp
theorem to2.all {α β : Type} {p : α → β → Bool} {l : List α} {k : List β} (h : to2 p l k l.length) (he : l.length = k.length) : all2 p l k = true := all2_iff.2 ⟨he, fun j j1 j2 => h j j1 j2 j1⟩
def samF (x y : Ty) : Bool := x.off == y.off && samT x y
theorem Y18_CA : type_of% (And.intro @F_ag_22 (And.intro @F_ag_23 (And.intro @F_ag_25 (And.intro @F_ag_3 (And.intro @F_el_22 (And.intro @F_el_23 (And.intro @F_fl_25_0 (And.intro @F_fl_25_1 (And.intro @F_fl_25_2 (And.intro @F_fl_25_3 (And.intro @F_fl_25_4 (And.intro @F_fl_59_0 (And.intro @F_fl_59_1 (And.intro @F_sz_22 (And.intro @F_sz_23 (And.intro @F_sz_25 (And.intro @F_sz_3 (@F_sz_59)))))))))))))))))) := And.intro @F_ag_22 (And.intro @F_ag_23 (And.intro @F_ag_25 (And.intro @F_ag_3 (And.intro @F_el_22 (And.intro @F_el_23 (And.intro @F_fl_25_0 (And.intro @F_fl_25_1 (And.intro @F_fl_25_2 (And.intro @F_fl_25_3 (And.intro @F_fl_25_4 (And.intro @F_fl_59_0 (And.intro @F_fl_59_1 (And.intro @F_sz_22 (And.intro @F_sz_23 (And.intro @F_sz_25 (And.intro @F_sz_3 (@F_sz_59)))))))))))))))))
theorem c_SameR : ∀ (a : Ty), fit a → ∀ b, fit b → PC Try.prog 18 [tyV a, tyV b] (.im (.bool (samT a b))) := by
  refine Ty.induct fun o k s c es fs hT hF => ?_
  intro hfit b hfb
  obtain ⟨o', k', s', c', es', fs'⟩ := b
  obtain ⟨hl1, hl2, hfE, hfF⟩ := fit_mk hfit
  obtain ⟨hl3, hl4, hfE', hfF'⟩ := fit_mk hfb
  rw [samT_mk]
  simp only [Ty.kind, Ty.size, Ty.count, Ty.elem, Ty.fields]
  show PC _ _ _ (.im (.bool (k == k' && s == s' && c == c' && all2 samT es es' && all2 samF fs fs')))
  refine PC.enter 99 Try.func18 rfl (by decide) rfl rfl (s := [(0, tyV (.mk o k s c es fs)), (1, tyV (.mk o' k' s' c' es' fs'))]) (by rfl) ?_
  simp only [tyV_mk]
  refine wG Y18_CA True.intro ?_
  refine AWp.condAB rfl rfl (fun hE => ?_) (fun hE => ?_)
  · have hr : (k == k' && s == s' && c == c' && all2 samT es es' && all2 samF fs fs') = false := by
      simp only [Bool.or_eq_true, bne_iff_ne, ne_eq, Bool.not_eq_true', decide_eq_false_iff_not, beq_eq_false_iff_ne] at hE
      rcases hE with (((hE | hE) | hE) | hE) | hE
      · simp [hE]
      · simp [hE]
      · simp [hE]
      · rw [all2_ne (by omega)]; simp
      · rw [all2_ne (l := fs) (by omega)]; simp
    rw [hr]
    refine wG Y18_CA True.intro ?_
    exact Fin.oneP
  · simp only [Bool.or_eq_false_iff, bne_eq_false_iff_eq, beq_iff_eq, Bool.not_eq_false', decide_eq_true_eq] at hE
    obtain ⟨⟨⟨⟨rfl, rfl⟩, rfl⟩, h4⟩, h5⟩ := hE
    have h4 : es.length = es'.length := by omega
    have h5 : fs.length = fs'.length := by omega
    have hr : (k == k && s == s && c == c && all2 samT es es' && all2 samF fs fs') = (all2 samT es es' && all2 samF fs fs') := by simp
    rw [hr]
    clear hr
    refine wG Y18_CA True.intro ?_
    refine AWp.loop ?_
    refine ALp.cutP 2 [(2, .pt 0 0), (3, .pt 1 0), (5, (.im (.int .i64 ((((0 : Nat)) : Int)))))] [.box [.im (.int .i64 k), .im (.int .i64 s), .im (.int .i64 c), .sl (es.map tyV) .ro, .sl (fs.map fdV) .ro], .box [.im (.int .i64 k), .im (.int .i64 s), .im (.int .i64 c), .sl (es'.map tyV) .ro, .sl (fs'.map fdV) .ro]] (And.intro (@exL_id) (And.intro (@vaL_id) (And.intro (@exV_id) @vaV_id))) ?_
    refine ALp.upto es.length (to2 samT es es') (fun m => ⟨dn 99 [(2, .pt 0 0), (3, .pt 1 0), (5, (.im (.int .i64 ((((m : Nat)) : Int)))))], ofl [.box [.im (.int .i64 k), .im (.int .i64 s), .im (.int .i64 c), .sl (es.map tyV) .ro, .sl (fs.map fdV) .ro], .box [.im (.int .i64 k), .im (.int .i64 s), .im (.int .i64 c), .sl (es'.map tyV) .ro, .sl (fs'.map fdV) .ro]]⟩) ?_ 0 (Nat.zero_le _) (to2.zero _ _ _)
    intro m hm hI hnext
    by_cases hlt : m < es.length
    · have hlt2 : m < es'.length := by omega
      have hlt' : (m : Int) < (es.length : Int) := by omega
      have hlt2' : (m : Int) < (es'.length : Int) := by omega
      have hg := get_some hlt
      have hg2 := get_some hlt2
      have hm1 := wrap_succ hlt (by omega)
      have hc := hT es[m] (List.getElem_mem hlt) (hfE _ (List.getElem_mem hlt)) es'[m] (hfE' _ (List.getElem_mem hlt2))
      refine wdG Y18_CA (And.intro hlt' (And.intro hlt2' (And.intro hg (And.intro hg2 TY)))) ?_
      refine AR.callP hc @tyV_eq (And.intro (@exL_id) (And.intro (@vaL_id) (And.intro (@exV_id) @vaV_id))) ?_
      cases hs : samT es[m] es'[m] with
      | false =>
        rw [all2_at hlt hlt2 hs, Bool.false_and]
        refine goG Y18_CA hs ?_
        refine wdG Y18_CA True.intro ?_
        exact Fin.oneP
      | true =>
        refine goG Y18_CA hs ?_
        refine wdG Y18_CA hm1 ?_
        refine ALp.cutP 2 [(2, .pt 0 0), (3, .pt 1 0), (5, (.im (.int .i64 ((((m + 1 : Nat)) : Int)))))] [.box [.im (.int .i64 k), .im (.int .i64 s), .im (.int .i64 c), .sl (es.map tyV) .ro, .sl (fs.map fdV) .ro], .box [.im (.int .i64 k), .im (.int .i64 s), .im (.int .i64 c), .sl (es'.map tyV) .ro, .sl (fs'.map fdV) .ro]] (And.intro (@exL_id) (And.intro (@vaL_id) (And.intro (@exV_id) @vaV_id))) ?_
        exact hnext (m + 1) (by omega) (by omega) (hI.succ hlt hlt2 hs)
    obtain rfl : m = es.length := by omega
    rw [hI.all h4, Bool.true_and]
    clear hnext hI
    refine whG Y18_CA @Int.lt_irrefl ?_
    refine Blk'.here (Thn.n ?_)
    refine wG Y18_CA True.intro ?_
    refine AWp.loop ?_
    refine ALp.cutP 2 [(2, .pt 0 0), (3, .pt 1 0), (6, (.im (.int .i64 ((((0 : Nat)) : Int)))))] [.box [.im (.int .i64 k), .im (.int .i64 s), .im (.int .i64 c), .sl (es.map tyV) .ro, .sl (fs.map fdV) .ro], .box [.im (.int .i64 k), .im (.int .i64 s), .im (.int .i64 c), .sl (es'.map tyV) .ro, .sl (fs'.map fdV) .ro]] (And.intro (@exL_id) (And.intro (@vaL_id) (And.intro (@exV_id) @vaV_id))) ?_
    refine ALp.upto fs.length (to2 samF fs fs') (fun m => ⟨dn 99 [(2, .pt 0 0), (3, .pt 1 0), (6, (.im (.int .i64 ((((m : Nat)) : Int)))))], ofl [.box [.im (.int .i64 k), .im (.int .i64 s), .im (.int .i64 c), .sl (es.map tyV) .ro, .sl (fs.map fdV) .ro], .box [.im (.int .i64 k), .im (.int .i64 s), .im (.int .i64 c), .sl (es'.map tyV) .ro, .sl (fs'.map fdV) .ro]]⟩) ?_ 0 (Nat.zero_le _) (to2.zero _ _ _)
    intro m hm hI hnext
    by_cases hlt : m < fs.length
    · have hlt2 : m < fs'.length := by omega
      have hlt' : (m : Int) < (fs.length : Int) := by omega
      have hlt2' : (m : Int) < (fs'.length : Int) := by omega
      have hg := get_some hlt
      have hg2 := get_some hlt2
      have hm1 := wrap_succ hlt (by omega)
      have hc := hF fs[m] (List.getElem_mem hlt) (hfF _ (List.getElem_mem hlt)) fs'[m] (hfF' _ (List.getElem_mem hlt2))
      by_cases ho : fs[m].off = fs'[m].off
      case neg =>
        have hs : samF fs[m] fs'[m] = false := by simp [samF, ho]
        rw [all2_at hlt hlt2 hs]
        refine wdG Y18_CA (And.intro hlt' (And.intro hlt2' (And.intro hg (And.intro hg2 (And.intro ho TY))))) ?_
        exact Fin.oneP
      cases hs : samT fs[m] fs'[m] with
      | false =>
        have hs' : samF fs[m] fs'[m] = false := by simp [samF, hs]
        rw [all2_at hlt hlt2 hs']
        refine wdG Y18_CA (And.intro hlt' (And.intro hlt2' (And.intro hg (And.intro hg2 (And.intro ho TY))))) ?_
        refine AR.callP hc @tyV_eq (And.intro (@exL_id) (And.intro (@vaL_id) (And.intro (@exV_id) @vaV_id))) ?_
        refine goG Y18_CA hs ?_
        refine wdG Y18_CA True.intro ?_
        exact Fin.oneP
      | true =>
        have hs' : samF fs[m] fs'[m] = true := by simp [samF, ho, hs]
        refine wdG Y18_CA (And.intro hlt' (And.intro hlt2' (And.intro hg (And.intro hg2 (And.intro ho TY))))) ?_
        refine AR.callP hc @tyV_eq (And.intro (@exL_id) (And.intro (@vaL_id) (And.intro (@exV_id) @vaV_id))) ?_
        refine goG Y18_CA hs ?_
        refine wdG Y18_CA hm1 ?_
        refine ALp.cutP 2 [(2, .pt 0 0), (3, .pt 1 0), (6, (.im (.int .i64 ((((m + 1 : Nat)) : Int)))))] [.box [.im (.int .i64 k), .im (.int .i64 s), .im (.int .i64 c), .sl (es.map tyV) .ro, .sl (fs.map fdV) .ro], .box [.im (.int .i64 k), .im (.int .i64 s), .im (.int .i64 c), .sl (es'.map tyV) .ro, .sl (fs'.map fdV) .ro]] (And.intro (@exL_id) (And.intro (@vaL_id) (And.intro (@exV_id) @vaV_id))) ?_
        exact hnext (m + 1) (by omega) (by omega) (hI.succ hlt hlt2 hs')
    obtain rfl : m = fs.length := by omega
    rw [hI.all h5]
    clear hnext hI
    refine wG Y18_CA @Int.lt_irrefl ?_
    exact Fin.oneP
theorem fit_exT {vs : List Va} (hv : fitV vs) (e : Ex) : fit (exT vs e).1 := by
  unfold exT
  split
  · split
    · exact fit_typ hv e
    · exact fit_tz
  · exact fit_tz
theorem Y4_CA : type_of% (And.intro @F_ag_25 (And.intro @F_ag_34 (And.intro @F_al_25 (And.intro @F_sz_25 (@F_sz_34))))) := And.intro @F_ag_25 (And.intro @F_ag_34 (And.intro @F_al_25 (And.intro @F_sz_25 (@F_sz_34))))
theorem c_law2 (e : Ex) (he : fitE e) (vs : List Va) (hv : fitV vs) : PC Try.prog 4 [exV e, (V.sl (vs.map vaV) .ro)] (.im (.bool (true))) := by
  have h1 := c_exprs e he 2000 (by decide) (by decide)
  have h2 := c_variables vs hv 2000 (by decide) (by decide)
  have h3 := c_example
  have h4 := c_Expr vs hv e he
  have h5 := c_ExprR vs hv e he
  have h6 := c_SameR (exT vs e).1 (fit_exT hv e) (exT vs e).1 (fit_exT hv e)
  rw [samT_refl] at h6
  generalize (exT vs e).1 = t at h4 h5 h6
  generalize (exT vs e).2 = f at h4 h5
  generalize hl1 : exn e 2000 = l1 at h1
  generalize hl2 : gfold (fun v => lft v.ty) vs 2000 = l2 at h2
  clear hl1 hl2
  refine PC.enter 41 Try.func4 rfl (by decide) rfl rfl (s := [(0, exV e), (1, (V.sl (vs.map vaV) .ro))]) (by rfl) ?_
  rw [exV_eq e]
  refine wG Y4_CA EX ?_
  refine AR.callP h1 @exV_eq (And.intro (@exL_id) (And.intro (@vaL_id) (And.intro (@exV_id) @vaV_id))) ?_
  by_cases hA : l1 ≤ 0
  · refine goG Y4_CA hA ?_
    refine wG Y4_CA True.intro ?_
    refine AR.callP h3 True.intro (And.intro (@exL_id) (And.intro (@vaL_id) (And.intro (@exV_id) @vaV_id))) ?_
    refine goG Y4_CA True.intro ?_
    refine wG Y4_CA True.intro ?_
    exact Fin.oneP
  · refine goG Y4_CA hA ?_
    refine AR.callP h2 True.intro (And.intro (@exL_id) (And.intro (@vaL_id) (And.intro (@exV_id) @vaV_id))) ?_
    by_cases hB : l2 ≤ 0
    · refine goG Y4_CA hB ?_
      refine wG Y4_CA True.intro ?_
      refine AR.callP h3 True.intro (And.intro (@exL_id) (And.intro (@vaL_id) (And.intro (@exV_id) @vaV_id))) ?_
      refine goG Y4_CA True.intro ?_
      refine wG Y4_CA True.intro ?_
      exact Fin.oneP
    · refine goG Y4_CA hB ?_
      refine wG Y4_CA True.intro ?_
      refine AR.callP h4 @exV_eq (And.intro (@exL_id) (And.intro (@vaL_id) (And.intro (@exV_id) @vaV_id))) ?_
      rw [tyV_eq t]
      refine goG Y4_CA TY ?_
      refine wG Y4_CA TY ?_
      refine AR.callP h5 @exV_eq (And.intro (@exL_id) (And.intro (@vaL_id) (And.intro (@exV_id) @vaV_id))) ?_
      rw [tyV_eq t]
      refine goG Y4_CA TY ?_
      refine wG Y4_CA TY ?_
      refine AR.callP h6 @tyV_eq (And.intro (@exL_id) (And.intro (@vaL_id) (And.intro (@exV_id) @vaV_id))) ?_
      refine goG Y4_CA True.intro ?_
      refine AR.callP h3 True.intro (And.intro (@exL_id) (And.intro (@vaL_id) (And.intro (@exV_id) @vaV_id))) ?_
      refine goG Y4_CA True.intro ?_
      refine wG Y4_CA True.intro ?_
      exact Fin.oneP
end Go.Proofs.Ytfggemopnlffeaa

