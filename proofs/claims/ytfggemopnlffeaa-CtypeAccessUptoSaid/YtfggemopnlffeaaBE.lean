/- Walks: levels of an expression. -/
import Derived.Test.YtfggemopnlffeaaHw
import Derived.Test.YtfggemopnlffeaaBD
namespace Go.Proofs.Ytfggemopnlffeaa
set_option linter.unusedSimpArgs false
set_option linter.unusedVariables false
set_option linter.unnecessarySimpa false
open Go.RowKit
theorem any_not {α : Type} (l : List α) (p : α → Bool) : (!l.any fun x => !p x) = l.all p := by
  induction l with
  | nil => rfl
  | cons x l ih => simp only [List.any_cons, List.all_cons, Bool.not_or, Bool.not_not, ih]
theorem c_eshallow1 {x : Ex} {n : Int} (hn : I64 n) (hn1 : 1 ≤ n) {r : Bool} (h : PC Try.prog 68 [exV x, (.im (.int .i64 (n - 1)))] (.im (.bool (r)))) : DC Try.prog 102 [exV x, .pt 0 0] [.box [(.im (.int .i64 (n)))]] (.im (.bool (!r))) [.box [(.im (.int .i64 (n)))]] := by
  unfold I64 at hn
  have hw : IntKind.i64.wrap (n - 1) = n - 1 := wrap_in (by omega)
  refine DC.enter 9 Try.func102 rfl (by decide) rfl rfl (s := [(0, exV x), (1, .pt 0 0)]) (by rfl) ?_
  simp only [exV_eq]
  refine w102 hw ?_
  refine AR.callP h @exV_eq (And.intro (@exL_id) (And.intro (@vaL_id) (And.intro (@exV_id) @vaV_id))) ?_
  refine go102 True.intro ?_
  refine w102 True.intro ?_
  exact Fin.oneSP (And.intro (@exL_id) (And.intro (@vaL_id) (And.intro (@exV_id) @vaV_id)))
theorem c_eshallow : ∀ (t : Ex), fitE t → ∀ (n : Int), I64 n → PC Try.prog 68 [exV t, (.im (.int .i64 (n)))] (.im (.bool (esh t n))) := by
  refine Ex.induct fun o k s w l hE => ?_
  intro hfit n hn
  obtain ⟨hl1, hfE⟩ := fitE_mk hfit
  have hn' := hn
  unfold I64 at hn'
  refine PC.enter 14 Try.func68 rfl (by decide) rfl rfl (s := [(0, exV (.mk o k s w l)), (1, (.im (.int .i64 (n))))]) (by rfl) ?_
  simp only [exV_mk]
  rw [esh_mk]
  by_cases h1 : n ≥ 1
  · have e : decide (1 ≤ n) = true := by simp; omega
    have hc : ∀ t ∈ l, DC Try.prog 102 [exV t, .pt 0 0] [.box [(.im (.int .i64 (n)))]] (.im (.bool (!esh t (n - 1)))) [.box [(.im (.int .i64 (n)))]] := fun t ht => c_eshallow1 hn (by omega) (hE t ht (hfE t ht) (n - 1) (by unfold I64; omega))
    have hcc := c_containsE1 (gs := l) (F := 102) (cs := [(.im (.int .i64 (n)))]) (fun t => !esh t (n - 1)) (by simp [V.idsL, V.ids]) (by simp only [SR]) hl1 hc
    rw [e, Bool.true_and]
    refine w68 h1 ?_
    refine AR.callQP [1] hcc True.intro (And.intro (@exL_id) (And.intro (@vaL_id) (And.intro (@exV_id) @vaV_id))) (And.intro (@exV_ren) (And.intro (@exL_ren) (And.intro (@vaV_ren) @vaL_ren))) ?_
    refine go68 True.intro ?_
    rw [any_not]
    refine w68 True.intro ?_
    exact Fin.oneP
  · have e : decide (1 ≤ n) = false := by simp; omega
    rw [e, Bool.false_and]
    refine w68 h1 ?_
    exact Fin.oneP
theorem c_edeep : ∀ (t : Ex), fitE t → ∀ (n : Int), I64 n → PC Try.prog 76 [exV t, (.im (.int .i64 (n)))] (.im (.bool (!esh t n))) := by
  refine Ex.induct fun o k s w l hE => ?_
  intro hfit n hn
  obtain ⟨hl1, hfE⟩ := fitE_mk hfit
  have hn' := hn
  unfold I64 at hn'
  refine PC.enter 23 Try.func76 rfl (by decide) rfl rfl (s := [(0, exV (.mk o k s w l)), (1, (.im (.int .i64 (n))))]) (by rfl) ?_
  simp only [exV_mk]
  rw [esh_mk]
  by_cases h1 : n ≤ 0
  · have e : decide (1 ≤ n) = false := by simp; omega
    rw [e, Bool.false_and]
    refine w76 h1 ?_
    exact Fin.oneP
  have e : decide (1 ≤ n) = true := by simp; omega
  have hn1 : IntKind.i64.wrap (n - 1) = n - 1 := wrap_in (by omega)
  refine w76 h1 ?_
  refine AWp.loop ?_
  refine ALp.cutP 1 [(1, (.im (.int .i64 (n)))), (2, .pt 0 0), (4, .im (.bool false)), (5, (.im (.int .i64 ((((0 : Nat)) : Int)))))] [.box [.im (.int .i64 o), .im (.int .u32 k), .im (.string s), .im (.int .i64 w), .sl (l.map exV) .ro]] (And.intro (@exL_id) (And.intro (@vaL_id) (And.intro (@exV_id) @vaV_id))) ?_
  refine ALp.upto l.length (AllTo (fun t => esh t (n - 1)) l) (fun m => ⟨dn 23 [(1, (.im (.int .i64 (n)))), (2, .pt 0 0), (4, .im (.bool false)), (5, (.im (.int .i64 ((((m : Nat)) : Int)))))], ofl [.box [.im (.int .i64 o), .im (.int .u32 k), .im (.string s), .im (.int .i64 w), .sl (l.map exV) .ro]]⟩) ?_ 0 (Nat.zero_le _) (AllTo.zero _ _)
  intro m hm hI hnext
  by_cases hlt : m < l.length
  · have hlt' : (m : Int) < (l.length : Int) := by omega
    have hg := get_some hlt
    have hm1 := wrap_succ hlt (by omega)
    have hc := hE l[m] (List.getElem_mem hlt) (hfE _ (List.getElem_mem hlt)) (n - 1) (by unfold I64; omega)
    refine w76 (And.intro hlt' (And.intro hg (And.intro hn1 hm1))) ?_
    refine AR.callP hc @exV_eq (And.intro (@exL_id) (And.intro (@vaL_id) (And.intro (@exV_id) @vaV_id))) ?_
    by_cases hsh : esh l[m] (n - 1) = true
    · refine go76 hsh ?_
      refine w76 hm1 ?_
      refine ALp.cutP 1 [(1, (.im (.int .i64 (n)))), (2, .pt 0 0), (4, .im (.bool false)), (5, (.im (.int .i64 ((((m + 1 : Nat)) : Int)))))] [.box [.im (.int .i64 o), .im (.int .u32 k), .im (.string s), .im (.int .i64 w), .sl (l.map exV) .ro]] (And.intro (@exL_id) (And.intro (@vaL_id) (And.intro (@exV_id) @vaV_id))) ?_
      exact hnext (m + 1) (by omega) (by omega) (hI.succ hlt hsh)
    · have hsh : esh l[m] (n - 1) = false := by simpa using hsh
      refine go76 hsh ?_
      refine w76 hm1 ?_
      rw [not_all_of hlt hsh, Bool.and_false]
      exact Fin.oneP
  · have hall := hI.done (by omega)
    have hlt' : ¬ (m : Int) < (l.length : Int) := by omega
    clear hnext
    rw [hall, e]
    refine w76 hlt' ?_
    exact Fin.oneP
end Go.Proofs.Ytfggemopnlffeaa

