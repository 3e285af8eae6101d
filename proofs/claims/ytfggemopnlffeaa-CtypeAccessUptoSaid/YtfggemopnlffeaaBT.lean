/- Walks: how many of a number of types, expressions are left. -/
import Derived.Test.YtfggemopnlffeaaHx
import Derived.Test.YtfggemopnlffeaaPm
import Derived.Test.YtfggemopnlffeaaBF
namespace Go.Proofs.Ytfggemopnlffeaa
set_option linter.unusedSimpArgs false
set_option linter.unusedVariables false
set_option linter.unnecessarySimpa false
open Go.RowKit
theorem pair_cond {m n : Nat} {g : Int} (h : (decide ((m : Int) < n) && decide (0 < g)) = true) : m < n ∧ 0 < g := by
  simp only [Bool.and_eq_true, decide_eq_true_eq] at h
  omega
theorem pair_stop {α : Type} {f : α → Int → Int} {l : List α} (hb : ∀ t ∈ l, ∀ n, 0 < n → 0 ≤ f t n ∧ f t n < n) {m : Nat} (hm : m ≤ l.length) {n : Int} (hn : 0 ≤ n) (h : (decide ((m : Int) < l.length) && decide (0 < gfold f (l.take m) n)) = false) : gfold f (l.take m) n = gfold f l n := by
  simp only [Bool.and_eq_false_iff, decide_eq_false_iff_not] at h
  rcases h with h | h
  · rw [List.take_of_length_le (by omega)]
  · exact (gfold_all hb hn h).symm
theorem c_left : ∀ (t : Ty), fit t → ∀ n : Int, 0 < n → n ≤ 4194304 → PC Try.prog 8 [tyV t, (.im (.int .i64 (n)))] (.im (.int .i64 (lft t n))) := by
  refine Ty.induct fun o k s c es fs hT hF => ?_
  intro hfit n hn hn2
  obtain ⟨hl1, hl2, hfE, hfF⟩ := fit_mk hfit
  have hw : IntKind.i64.wrap (n - 1) = n - 1 := wrap_in (by omega)
  rw [lft_mk]
  refine PC.enter 47 Try.func8 rfl (by decide) rfl rfl (s := [(0, tyV (.mk o k s c es fs)), (1, (.im (.int .i64 (n))))]) (by rfl) ?_
  simp only [tyV_mk]
  refine w8x hw ?_
  refine AWp.loop ?_
  refine ALp.cutP 1 [(1, (.im (.int .i64 (gfold lft (es.take (0)) (n - 1))))), (2, .pt 0 0), (5, (.im (.int .i64 ((((0 : Nat)) : Int)))))] [.box [.im (.int .i64 k), .im (.int .i64 s), .im (.int .i64 c), .sl (es.map tyV) .ro, .sl (fs.map fdV) .ro]] (And.intro (@exL_id) (And.intro (@vaL_id) (And.intro (@exV_id) @vaV_id))) ?_
  refine ALp.upto es.length (fun _ => True) (fun m => ⟨dn 47 [(1, (.im (.int .i64 (gfold lft (es.take (m)) (n - 1))))), (2, .pt 0 0), (5, (.im (.int .i64 ((((m : Nat)) : Int)))))], ofl [.box [.im (.int .i64 k), .im (.int .i64 s), .im (.int .i64 c), .sl (es.map tyV) .ro, .sl (fs.map fdV) .ro]]⟩) ?_ 0 (Nat.zero_le _) trivial
  intro m hm _ hnext
  refine w8x True.intro ?_
  refine AWp.condAB rfl rfl (fun hE => ?_) (fun hE => ?_)
  · obtain ⟨hlt, hp⟩ := pair_cond hE
    have hlt' : (m : Int) < (es.length : Int) := by omega
    have hm1 := wrap_succ hlt (by omega)
    have hb := gfold_bound (f := lft) (l := es.take m) (fun t _ => lft_bound t) (n - 1) (by omega)
    have hc := hT es[m] (List.getElem_mem hlt) (hfE _ (List.getElem_mem hlt)) _ hp (by omega)
    rw [← gfold_take hlt hp] at hc
    have hg := get_some hlt
    refine w8x (And.intro hlt' hg) ?_
    refine AR.callP hc @tyV_eq (And.intro (@exL_id) (And.intro (@vaL_id) (And.intro (@exV_id) @vaV_id))) ?_
    refine go8x True.intro ?_
    refine w8x hm1 ?_
    refine ALp.cutP 1 [(1, (.im (.int .i64 (gfold lft (es.take (m + 1)) (n - 1))))), (2, .pt 0 0), (5, (.im (.int .i64 ((((m + 1 : Nat)) : Int)))))] [.box [.im (.int .i64 k), .im (.int .i64 s), .im (.int .i64 c), .sl (es.map tyV) .ro, .sl (fs.map fdV) .ro]] (And.intro (@exL_id) (And.intro (@vaL_id) (And.intro (@exV_id) @vaV_id))) ?_
    exact hnext (m + 1) (by omega) (by omega) trivial
  rw [pair_stop (fun t _ => lft_bound t) hm (by omega) hE]
  clear hnext hE
  generalize hm0 : m = m0
  clear hm hm0
  have hb0 := gfold_bound (f := lft) (l := es) (fun t _ => lft_bound t) (n - 1) (by omega)
  refine wh8x True.intro ?_
  refine Blk'.here (Thn.n ?_)
  refine w8x True.intro ?_
  refine AWp.loop ?_
  refine ALp.cutP 1 [(1, (.im (.int .i64 (gfold lft (fs.take (0)) (gfold lft es (n - 1)))))), (2, .pt 0 0), (6, (.im (.int .i64 ((((0 : Nat)) : Int)))))] [.box [.im (.int .i64 k), .im (.int .i64 s), .im (.int .i64 c), .sl (es.map tyV) .ro, .sl (fs.map fdV) .ro]] (And.intro (@exL_id) (And.intro (@vaL_id) (And.intro (@exV_id) @vaV_id))) ?_
  refine ALp.upto fs.length (fun _ => True) (fun m => ⟨dn 47 [(1, (.im (.int .i64 (gfold lft (fs.take (m)) (gfold lft es (n - 1)))))), (2, .pt 0 0), (6, (.im (.int .i64 ((((m : Nat)) : Int)))))], ofl [.box [.im (.int .i64 k), .im (.int .i64 s), .im (.int .i64 c), .sl (es.map tyV) .ro, .sl (fs.map fdV) .ro]]⟩) ?_ 0 (Nat.zero_le _) trivial
  intro m hm _ hnext
  refine w8x True.intro ?_
  refine AWp.condAB rfl rfl (fun hE => ?_) (fun hE => ?_)
  · obtain ⟨hlt, hp⟩ := pair_cond hE
    have hlt' : (m : Int) < (fs.length : Int) := by omega
    have hm1 := wrap_succ hlt (by omega)
    have hb := gfold_bound (f := lft) (l := fs.take m) (fun t _ => lft_bound t) (gfold lft es (n - 1)) (by omega)
    have hc := hF fs[m] (List.getElem_mem hlt) (hfF _ (List.getElem_mem hlt)) _ hp (by omega)
    rw [← gfold_take hlt hp] at hc
    have hg := get_some hlt
    refine w8x (And.intro hlt' hg) ?_
    refine AR.callP hc @tyV_eq (And.intro (@exL_id) (And.intro (@vaL_id) (And.intro (@exV_id) @vaV_id))) ?_
    refine go8x True.intro ?_
    refine w8x hm1 ?_
    refine ALp.cutP 1 [(1, (.im (.int .i64 (gfold lft (fs.take (m + 1)) (gfold lft es (n - 1)))))), (2, .pt 0 0), (6, (.im (.int .i64 ((((m + 1 : Nat)) : Int)))))] [.box [.im (.int .i64 k), .im (.int .i64 s), .im (.int .i64 c), .sl (es.map tyV) .ro, .sl (fs.map fdV) .ro]] (And.intro (@exL_id) (And.intro (@vaL_id) (And.intro (@exV_id) @vaV_id))) ?_
    exact hnext (m + 1) (by omega) (by omega) trivial
  rw [pair_stop (fun t _ => lft_bound t) hm (by omega) hE]
  clear hnext hE
  refine w8x True.intro ?_
  exact Fin.oneP
theorem c_exprs : ∀ (t : Ex), fitE t → ∀ n : Int, 0 < n → n ≤ 4194304 → PC Try.prog 14 [exV t, (.im (.int .i64 (n)))] (.im (.int .i64 (exn t n))) := by
  refine Ex.induct fun o k s w l hL => ?_
  intro hfit n hn hn2
  obtain ⟨hl1, hfL⟩ := fitE_mk hfit
  have hw : IntKind.i64.wrap (n - 1) = n - 1 := wrap_in (by omega)
  rw [exn_mk]
  refine PC.enter 27 Try.func14 rfl (by decide) rfl rfl (s := [(0, exV (.mk o k s w l)), (1, (.im (.int .i64 (n))))]) (by rfl) ?_
  simp only [exV_mk]
  refine w14x hw ?_
  refine AWp.loop ?_
  refine ALp.cutP 1 [(1, (.im (.int .i64 (gfold exn (l.take (0)) (n - 1))))), (2, .pt 0 0), (5, (.im (.int .i64 ((((0 : Nat)) : Int)))))] [.box [.im (.int .i64 o), .im (.int .u32 k), .im (.string s), .im (.int .i64 w), .sl (l.map exV) .ro]] (And.intro (@exL_id) (And.intro (@vaL_id) (And.intro (@exV_id) @vaV_id))) ?_
  refine ALp.upto l.length (fun _ => True) (fun m => ⟨dn 27 [(1, (.im (.int .i64 (gfold exn (l.take (m)) (n - 1))))), (2, .pt 0 0), (5, (.im (.int .i64 ((((m : Nat)) : Int)))))], ofl [.box [.im (.int .i64 o), .im (.int .u32 k), .im (.string s), .im (.int .i64 w), .sl (l.map exV) .ro]]⟩) ?_ 0 (Nat.zero_le _) trivial
  intro m hm _ hnext
  refine w14x True.intro ?_
  refine AWp.condAB rfl rfl (fun hE => ?_) (fun hE => ?_)
  · obtain ⟨hlt, hp⟩ := pair_cond hE
    have hlt' : (m : Int) < (l.length : Int) := by omega
    have hm1 := wrap_succ hlt (by omega)
    have hb := gfold_bound (f := exn) (l := l.take m) (fun t _ => exn_bound t) (n - 1) (by omega)
    have hc := hL l[m] (List.getElem_mem hlt) (hfL _ (List.getElem_mem hlt)) _ hp (by omega)
    rw [← gfold_take hlt hp] at hc
    have hg := get_some hlt
    refine w14x (And.intro hlt' hg) ?_
    refine AR.callP hc @exV_eq (And.intro (@exL_id) (And.intro (@vaL_id) (And.intro (@exV_id) @vaV_id))) ?_
    refine go14x True.intro ?_
    refine w14x hm1 ?_
    refine ALp.cutP 1 [(1, (.im (.int .i64 (gfold exn (l.take (m + 1)) (n - 1))))), (2, .pt 0 0), (5, (.im (.int .i64 ((((m + 1 : Nat)) : Int)))))] [.box [.im (.int .i64 o), .im (.int .u32 k), .im (.string s), .im (.int .i64 w), .sl (l.map exV) .ro]] (And.intro (@exL_id) (And.intro (@vaL_id) (And.intro (@exV_id) @vaV_id))) ?_
    exact hnext (m + 1) (by omega) (by omega) trivial
  rw [pair_stop (fun t _ => exn_bound t) hm (by omega) hE]
  clear hnext hE
  refine w14x True.intro ?_
  exact Fin.oneP
theorem c_variables (vs : List Va) (hv : fitV vs) (n : Int) (hn : 0 ≤ n) (hn2 : n ≤ 4194304) : PC Try.prog 15 [V.sl (vs.map vaV) .ro, (.im (.int .i64 (n)))] (.im (.int .i64 (gfold (fun v => lft v.ty) vs n))) := by
  refine PC.enter 24 Try.func15 rfl (by decide) rfl rfl (s := [(0, V.sl (vs.map vaV) .ro), (1, (.im (.int .i64 (n))))]) (by rfl) ?_
  have hv1 := hv.1
  refine w15x True.intro ?_
  refine AWp.loop ?_
  refine ALp.cutP 0 [(0, V.sl (vs.map vaV) .ro), (1, (.im (.int .i64 (gfold (fun v => lft v.ty) (vs.take (0)) n)))), (5, (.im (.int .i64 ((((0 : Nat)) : Int)))))] [] (And.intro (@exL_id) (And.intro (@vaL_id) (And.intro (@exV_id) @vaV_id))) ?_
  refine ALp.upto vs.length (fun _ => True) (fun m => ⟨dn 24 [(0, V.sl (vs.map vaV) .ro), (1, (.im (.int .i64 (gfold (fun v => lft v.ty) (vs.take (m)) n)))), (5, (.im (.int .i64 ((((m : Nat)) : Int)))))], ofl []⟩) ?_ 0 (Nat.zero_le _) trivial
  intro m hm _ hnext
  refine w15x True.intro ?_
  refine AWp.condAB rfl rfl (fun hE => ?_) (fun hE => ?_)
  · obtain ⟨hlt, hp⟩ := pair_cond hE
    have hlt' : (m : Int) < (vs.length : Int) := by omega
    have hm1 := wrap_succ hlt (by omega)
    have hb := gfold_bound (f := fun v : Va => lft v.ty) (l := vs.take m) (fun t _ => lft_bound t.ty) n hn
    have hc := c_left vs[m].ty (hv.2 _ (List.getElem_mem hlt)) _ hp (by omega)
    rw [← gfold_take (f := fun v : Va => lft v.ty) hlt hp] at hc
    have hg := get_some hlt
    refine w15x (And.intro hlt' hg) ?_
    refine AR.callP hc @tyV_eq (And.intro (@exL_id) (And.intro (@vaL_id) (And.intro (@exV_id) @vaV_id))) ?_
    refine go15x True.intro ?_
    refine w15x hm1 ?_
    refine ALp.cutP 0 [(0, V.sl (vs.map vaV) .ro), (1, (.im (.int .i64 (gfold (fun v => lft v.ty) (vs.take (m + 1)) n)))), (5, (.im (.int .i64 ((((m + 1 : Nat)) : Int)))))] [] (And.intro (@exL_id) (And.intro (@vaL_id) (And.intro (@exV_id) @vaV_id))) ?_
    exact hnext (m + 1) (by omega) (by omega) trivial
  rw [pair_stop (fun t _ => lft_bound t.ty) hm hn hE]
  clear hnext hE
  refine w15x True.intro ?_
  exact Fin.oneP
end Go.Proofs.Ytfggemopnlffeaa

