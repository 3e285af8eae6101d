/- Walks: keywords. -/
import Derived.Test.YtjilcaemoebloaaDoorHv
import Derived.Test.YtjilcaemoebloaaDoorT3
import Derived.Test.YtjilcaemoebloaaDoorPm
namespace Go.Proofs.YtjilcaemoebloaaDoor
set_option linter.unusedSimpArgs false
set_option linter.unusedVariables false
set_option linter.unnecessarySimpa false
open Go.RowKit
theorem contains_one (t : Bs) (c : UInt8) : Lib.contains t [c] = t.contains c := by
  induction t with
  | nil => rfl
  | cons d t ih =>
    rw [contains_cons, ih, List.contains_cons]
    simp [List.isPrefixOf]
/-- The keywords, between blanks. -/
def ktxt : Bs := [32, 98, 114, 101, 97, 107, 32, 99, 97, 108, 108, 32, 99, 97, 115, 101, 32, 99, 111, 110, 116, 105, 110, 117, 101, 32, 100, 97, 116, 97, 32, 101, 108, 115, 101, 32, 101, 120, 101, 99, 32, 102, 117, 110, 99, 32, 103, 111, 116, 111, 32, 104, 97, 108, 116, 32, 105, 102, 32, 105, 110, 32, 108, 111, 111, 112, 32, 111, 117, 116, 32,
  114, 101, 116, 117, 114, 110, 32, 115, 119, 105, 116, 99, 104, 32, 118, 97, 114, 32, 119, 104, 105, 108, 101, 32, 119, 114, 105, 116, 101, 32, 108, 111, 97, 100, 49, 32, 108, 111, 97, 100, 50, 32, 108, 111, 97, 100, 52, 32, 115, 116, 111, 114, 101, 49, 32, 115, 116, 111, 114, 101, 50, 32, 115, 116, 111, 114, 101, 52, 32, 115, 101, 120, 116, 49, 32, 115, 101, 120, 116, 50, 32]
theorem tween_ktxt : tween ktxt = kwds := by kernel_rfl
theorem contains_ktxt {w : Bs} (h : w.contains 32 = false) : Lib.contains ktxt (32 :: (w ++ [32])) = isK w := by
  have hb : ∀ b ∈ w, b ≠ 32 := fun b hb e => by
    subst e
    rw [List.contains_iff_mem.2 hb] at h
    cases h
  rw [contains_word ktxt w hb, tween_ktxt]
  unfold isK
  rw [Bool.eq_iff_iff, List.any_eq_true, List.contains_iff_mem]
  constructor
  · rintro ⟨x, h1, h2⟩
    rw [beq_iff_eq] at h2
    exact h2 ▸ h1
  · exact fun h => ⟨w, h, beq_self_eq_true w⟩
theorem isK_blank {w : Bs} (h : w.contains 32 = true) : isK w = false := by
  rw [← Bool.not_eq_true, isK_mem]
  intro hm
  have := (show ∀ w ∈ kwds, w.contains 32 = false by decide +kernel) w hm
  rw [h] at this
  cases this

theorem c_Keyword (w : Bs) (hw : w.length ≤ 4194304) : PC Tryd.prog 20 [.im (.string ⟨(w).toArray⟩)] (.im (.bool (isK w))) := by
  refine PC.enter 16 Tryd.func20 rfl (by decide) rfl rfl (s := [(0, .im (.string ⟨(w).toArray⟩))]) (by rfl) ?_
  cases hn : (w == ([] : Bs)) with
  | true =>
    have e : isK w = false := by rw [beq_iff_eq] at hn; rw [hn]; decide
    rw [e]
    refine wG True.intro (And.intro BY hn) ?_
    exact Fin.oneP
  | false =>
  have q1 := c_contains ⟨w.toArray⟩ ⟨#[32]⟩ (by rw [bS_size]; omega)
  rw [show Lib.contains (ByteArray.mk w.toArray).data.toList (ByteArray.mk #[32]).data.toList = w.contains 32 from contains_one w 32] at q1
  cases b : w.contains 32 with
  | true =>
    rw [b] at q1
    rw [isK_blank b]
    refine wG True.intro (And.intro BY hn) ?_
    refine AR.callP q1 True.intro True.intro ?_
    refine goG True.intro BY ?_
    refine wG True.intro True.intro ?_
    exact Fin.oneP
  | false =>
  rw [b] at q1
  have hC := c_contains ⟨ktxt.toArray⟩ ⟨(32 :: (w ++ [32])).toArray⟩ (of_decide_eq_true (by kernel_rfl))
  rw [show Lib.contains (ByteArray.mk ktxt.toArray).data.toList (ByteArray.mk (32 :: (w ++ [32])).toArray).data.toList = isK w from contains_ktxt b] at hC
  have a1 : 1 + w.length ≤ 9223372036854775807 := by omega
  have a2 : w.length + 1 + 1 ≤ 9223372036854775807 := by omega
  generalize isK w = k at hC ⊢
  refine wG True.intro (And.intro BY hn) ?_
  refine AR.callP q1 True.intro True.intro ?_
  refine goG True.intro (And.intro BY (And.intro bS_append (And.intro a1 a2))) ?_
  refine AR.call hC rfl rfl (WkL.of_eq (by simp only [St.ev, V.ofVal, V.ofCell, V.size_im, getD_dn, look_cons, look_nil, Nat.reduceLT, Nat.reduceEqDiff, reduceIte, if_true, if_false, List.map_cons, List.map_nil, List.nil_append, List.append_nil, true_and]; exact congrArg (fun z => [V.im (Value.string z), _]) (by kernel_rfl))) (by first | rfl | simp only [List.length_cons, List.length_nil, Nat.reduceAdd, V.ids, V.idsL, idsA, entOk, List.all_cons, List.all_nil, Bool.and_self, Bool.and_true, Bool.true_and, ltB, noId, Nat.reduceLT, decide_true, Bool.true_eq_false, tyV_id, fdV_id, tyL_id, fdL_id]) ?_
  refine goG True.intro True.intro ?_
  refine wG True.intro True.intro ?_
  exact Fin.oneP
end Go.Proofs.YtjilcaemoebloaaDoor

