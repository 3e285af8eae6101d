/- Walks: how many of a number of expressions are left; equal expressions, the reference. -/
import Derived.Test.YtlbfgnpadggbgaaGreatDoorHv
import Derived.Test.YtlbfgnpadggbgaaGreatDoorE2
import Derived.Test.YtlbfgnpadggbgaaGreatDoorM7
namespace Go.Proofs.YtlbfgnpadggbgaaGreatDoor
set_option linter.unusedSimpArgs false
set_option linter.unusedVariables false
set_option linter.unnecessarySimpa false
open Go.RowKit
theorem pair_cond {m n : Nat} {g : Int} (h : (decide ((m : Int) < n) && decide (0 < g)) = true) : m < n ∧ 0 < g := by
  simp only [Bool.and_eq_true, decide_eq_true_eq] at h
  omega
theorem pair_stop {α : Type} {f : α → Int → Int} {l : List α} (hb : ∀ t ∈ l, ∀ n, 0 < n → 0 ≤ f t n ∧ f t n < n) {m : Nat} (hm : m ≤ l.length) {n : Int} (hn : 0 ≤ n) (h : (decide ((m : Int) < l.length) && decide (0 < gfold f (l.take m) n)) = false) : gfold f (l.take m) n = gfold f l n := by
  simp only [Bool.and_eq_false_iff, decide_eq_false_iff_not] at h
  rcases h with h | h
  · rw [List.take_of_length_le (by omega)]
  · exact (gfold_all hb hn h).symm
theorem Y4_E3 : type_of% (And.intro @F_ag_23 (And.intro @F_ag_25 (And.intro @F_el_23 (And.intro @F_fl_25_4 (And.intro @F_sz_23 (@F_sz_25)))))) := And.intro @F_ag_23 (And.intro @F_ag_25 (And.intro @F_el_23 (And.intro @F_fl_25_4 (And.intro @F_sz_23 (@F_sz_25)))))
theorem c_sizeE : ∀ (t : Ex), fitE t → ∀ n : Int, 0 < n → n ≤ 4194304 → PC Tryz.prog 4 [exV t, (.im (.int .i64 (n)))] (.im (.int .i64 (exn t n))) := by
  refine Ex.induct fun o k s w l hL => ?_
  intro hfit n hn hn2
  obtain ⟨hl1, hfL⟩ := fitE_mk hfit
  have hw : IntKind.i64.wrap (n - 1) = n - 1 := wrap_in (by omega)
  rw [exn_mk]
  refine PC.enter 27 Tryz.func4 rfl (by decide) rfl rfl (s := [(0, exV (.mk o k s w l)), (1, (.im (.int .i64 (n))))]) (by rfl) ?_
  simp only [exV_mk]
  refine wG Y4_E3 hw ?_
  refine AWp.loop ?_
  refine ALp.cutP 1 [(1, (.im (.int .i64 (gfold exn (l.take (0)) (n - 1))))), (2, .pt 0 0), (5, (.im (.int .i64 ((((0 : Nat)) : Int)))))] [.box [.im (.int .i64 o), .im (.int .u32 k), .im (.string s), .im (.int .i64 w), .sl (l.map exV) .ro]] (And.intro (@exL_id) (And.intro (@vaL_id) (And.intro (@exV_id) @vaV_id))) ?_
  refine ALp.upto l.length (fun _ => True) (fun m => ⟨dn 27 [(1, (.im (.int .i64 (gfold exn (l.take (m)) (n - 1))))), (2, .pt 0 0), (5, (.im (.int .i64 ((((m : Nat)) : Int)))))], ofl [.box [.im (.int .i64 o), .im (.int .u32 k), .im (.string s), .im (.int .i64 w), .sl (l.map exV) .ro]]⟩) ?_ 0 (Nat.zero_le _) trivial
  intro m hm _ hnext
  refine wG Y4_E3 @Int.natCast_nonneg ?_
  refine AWp.condAB rfl rfl (fun hE => ?_) (fun hE => ?_)
  · obtain ⟨hlt, hp⟩ := pair_cond hE
    have hlt' : (m : Int) < (l.length : Int) := by omega
    have hm1 := wrap_succ hlt (by omega)
    have hb := gfold_bound (f := exn) (l := l.take m) (fun t _ => exn_bound t) (n - 1) (by omega)
    have hc := hL l[m] (List.getElem_mem hlt) (hfL _ (List.getElem_mem hlt)) _ hp (by omega)
    rw [← gfold_take hlt hp] at hc
    have hg := get_some hlt
    refine wG Y4_E3 (And.intro hlt' (And.intro hg (And.intro (@Int.natCast_nonneg) (And.intro (@exV_firm) (And.intro (@exV_strip) (And.intro (@exV_live) (And.intro (@exV_size) (And.intro (@exV_isAg) (And.intro (@exV_cells) @List.getElem?_map.{0, 0}))))))))) ?_
    refine AR.callP hc @exV_eq (And.intro (@exL_id) (And.intro (@vaL_id) (And.intro (@exV_id) @vaV_id))) ?_
    refine goG Y4_E3 True.intro ?_
    refine wG Y4_E3 hm1 ?_
    refine ALp.cutP 1 [(1, (.im (.int .i64 (gfold exn (l.take (m + 1)) (n - 1))))), (2, .pt 0 0), (5, (.im (.int .i64 ((((m + 1 : Nat)) : Int)))))] [.box [.im (.int .i64 o), .im (.int .u32 k), .im (.string s), .im (.int .i64 w), .sl (l.map exV) .ro]] (And.intro (@exL_id) (And.intro (@vaL_id) (And.intro (@exV_id) @vaV_id))) ?_
    exact hnext (m + 1) (by omega) (by omega) trivial
  rw [pair_stop (fun t _ => exn_bound t) hm (by omega) hE]
  clear hnext hE
  refine wG Y4_E3 True.intro ?_
  exact Fin.oneP
theorem all2_ne {α β : Type} {p : α → β → Bool} {l : List α} {m : List β} (h : l.length ≠ m.length) : all2 p l m = false := by
  rw [← Bool.not_eq_true, all2_iff]
  exact fun k => h k.1
theorem all2_at {α β : Type} {p : α → β → Bool} {l : List α} {m : List β} {i : Nat} (h1 : i < l.length) (h2 : i < m.length) (h : p l[i] m[i] = false) : all2 p l m = false := by
  rw [← Bool.not_eq_true, all2_iff]
  exact fun k => by rw [k.2 i h1 h2] at h; cases h
/-- The first m members of the lists go together. -/
def to2 {α β : Type} (p : α → β → Bool) (l : List α) (k : List β) (m : Nat) : Prop := ∀ j (h1 : j < l.length) (h2 : j < k.length), j < m → p l[j] k[j] = true
theorem to2.zero {α β : Type} (p : α → β → Bool) (l : List α) (k : List β) : to2 p l k 0 := fun j _ _ h => absurd h (Nat.not_lt_zero j)
theorem to2.succ {α β : Type} {p : α → β → Bool} {l : List α} {k : List β} {m : Nat} (h : to2 p l k m) (h1 : m < l.length) (h2 : m < k.length) (hp : p l[m] k[m] = true) : to2 p l k (m + 1) := fun j j1 j2 hj => by
  rcases Nat.lt_succ_iff_lt_or_eq.1 hj with hj | rfl
  · exact h j j1 j2 hj
  · exact hp
theorem to2.all {α β : Type} {p : α → β → Bool} {l : List α} {k : List β} (h : to2 p l k l.length) (he : l.length = k.length) : all2 p l k = true := all2_iff.2 ⟨he, fun j j1 j2 => h j j1 j2 j1⟩
end Go.Proofs.YtlbfgnpadggbgaaGreatDoor
