/- Walks: levels of a type. -/
import Derived.Test.YtfggemopnlffeaaHw
import Derived.Test.YtfggemopnlffeaaLe
namespace Go.Proofs.Ytfggemopnlffeaa
set_option linter.unusedSimpArgs false
set_option linter.unusedVariables false
set_option linter.unnecessarySimpa false
open Go.RowKit
set_option maxHeartbeats 400000 in
theorem c_shallow : ∀ (t : Ty), fit t → ∀ (n : Int), I64 n → PC Try.prog 44 [tyV t, (.im (.int .i64 (n)))] (.im (.bool (shal t n))) := by
  refine Ty.induct fun o k s c es fs hE hF => ?_
  intro hfit n hn
  unfold I64 at hn
  obtain ⟨hl1, hl2, hfE, hfF⟩ := fit_mk hfit
  refine PC.enter 38 Try.func44 rfl (by decide) rfl rfl (s := [(0, tyV (.mk o k s c es fs)), (1, (.im (.int .i64 (n))))]) (by rfl) ?_
  simp only [tyV_mk]
  by_cases h1 : n < 1
  · have hr : shal (.mk o k s c es fs) n = false := by
      rw [shal_mk]
      have : decide (1 ≤ n) = false := by simp; omega
      simp [this]
    rw [hr]
    refine w44 h1 ?_
    exact Fin.oneP
  · have hn1 : IntKind.i64.wrap (n - 1) = n - 1 := wrap_in (by omega)
    refine w44 h1 ?_
    refine AWp.loop ?_
    refine ALp.cutP 1 [(0, .ag [.im (.int .i64 k), .im (.int .i64 s), .im (.int .i64 c), .sl (es.map tyV) .ro, .sl (fs.map fdV) .ro]), (1, (.im (.int .i64 (n)))), (2, .pt 0 0), (4, .im (.bool false)), (12, .sl (es.map tyV) .ro), (13, (.im (.int .i64 (es.length)))), (14, (.im (.int .i64 (0))))] [.box [.im (.int .i64 k), .im (.int .i64 s), .im (.int .i64 c), .sl (es.map tyV) .ro, .sl (fs.map fdV) .ro]] True.intro ?_
    refine ALp.upto es.length (AllTo (fun t => shal t (n - 1)) es) (fun m => ⟨dn 38 [(0, .ag [.im (.int .i64 k), .im (.int .i64 s), .im (.int .i64 c), .sl (es.map tyV) .ro, .sl (fs.map fdV) .ro]), (1, (.im (.int .i64 (n)))), (2, .pt 0 0), (4, .im (.bool false)), (12, .sl (es.map tyV) .ro), (13, (.im (.int .i64 (es.length)))), (14, (.im (.int .i64 (m))))], ofl [.box [.im (.int .i64 k), .im (.int .i64 s), .im (.int .i64 c), .sl (es.map tyV) .ro, .sl (fs.map fdV) .ro]]⟩) ?_ 0 (Nat.zero_le _) (AllTo.zero _ _)
    intro m hm hI hnext
    by_cases hlt : m < es.length
    · have hlt' : (m : Int) < (es.length : Int) := by omega
      have hg := get_some hlt
      have hm1 := wrap_succ hlt (by omega)
      have hc := hE es[m] (List.getElem_mem hlt) (hfE _ (List.getElem_mem hlt)) (n - 1) (by unfold I64; omega)
      refine w44 (And.intro hlt' (And.intro hg (And.intro hn1 hm1))) ?_
      refine AR.callP hc @tyV_eq True.intro ?_
      by_cases hsh : shal es[m] (n - 1) = true
      · refine go44 hsh ?_
        refine w44 hm1 ?_
        refine ALp.cutP 1 [(0, .ag [.im (.int .i64 k), .im (.int .i64 s), .im (.int .i64 c), .sl (es.map tyV) .ro, .sl (fs.map fdV) .ro]), (1, (.im (.int .i64 (n)))), (2, .pt 0 0), (4, .im (.bool false)), (12, .sl (es.map tyV) .ro), (13, (.im (.int .i64 (es.length)))), (14, (.im (.int .i64 (((m + 1 : Nat) : Int)))))] [.box [.im (.int .i64 k), .im (.int .i64 s), .im (.int .i64 c), .sl (es.map tyV) .ro, .sl (fs.map fdV) .ro]] True.intro ?_
        exact hnext (m + 1) (by omega) (by omega) (hI.succ hlt hsh)
      · have hsh : shal es[m] (n - 1) = false := by simpa using hsh
        refine go44 hsh ?_
        refine w44 hm1 ?_
        rw [shal_mk, not_all_of hlt hsh]
        simp only [Bool.and_false, Bool.false_and]
        exact Fin.oneP
    · have hall1 := hI.done (by omega)
      have hlt' : ¬ (m : Int) < (es.length : Int) := by omega
      clear hnext hI hm hlt
      refine w44 hlt' ?_
      clear hlt'
      refine AWp.loop ?_
      refine ALp.cutP 1 [(0, .ag [.im (.int .i64 k), .im (.int .i64 s), .im (.int .i64 c), .sl (es.map tyV) .ro, .sl (fs.map fdV) .ro]), (1, (.im (.int .i64 (n)))), (2, .pt 0 0), (4, .im (.bool false)), (25, .sl (fs.map fdV) .ro), (26, (.im (.int .i64 (fs.length)))), (27, (.im (.int .i64 (0))))] [.box [.im (.int .i64 k), .im (.int .i64 s), .im (.int .i64 c), .sl (es.map tyV) .ro, .sl (fs.map fdV) .ro]] True.intro ?_
      refine ALp.upto fs.length (AllTo (fun t => shal t (n - 1)) fs) (fun m => ⟨dn 38 [(0, .ag [.im (.int .i64 k), .im (.int .i64 s), .im (.int .i64 c), .sl (es.map tyV) .ro, .sl (fs.map fdV) .ro]), (1, (.im (.int .i64 (n)))), (2, .pt 0 0), (4, .im (.bool false)), (25, .sl (fs.map fdV) .ro), (26, (.im (.int .i64 (fs.length)))), (27, (.im (.int .i64 (m))))], ofl [.box [.im (.int .i64 k), .im (.int .i64 s), .im (.int .i64 c), .sl (es.map tyV) .ro, .sl (fs.map fdV) .ro]]⟩) ?_ 0 (Nat.zero_le _) (AllTo.zero _ _)
      intro m hm hI hnext
      by_cases hlt : m < fs.length
      · have hlt' : (m : Int) < (fs.length : Int) := by omega
        have hg := get_some hlt
        have hm1 := wrap_succ hlt (by omega)
        have hc := hF fs[m] (List.getElem_mem hlt) (hfF _ (List.getElem_mem hlt)) (n - 1) (by unfold I64; omega)
        refine w44 (And.intro hlt' (And.intro hg (And.intro hn1 hm1))) ?_
        refine AR.callP hc @tyV_eq True.intro ?_
        by_cases hsh : shal fs[m] (n - 1) = true
        · refine go44 hsh ?_
          refine w44 hm1 ?_
          refine ALp.cutP 1 [(0, .ag [.im (.int .i64 k), .im (.int .i64 s), .im (.int .i64 c), .sl (es.map tyV) .ro, .sl (fs.map fdV) .ro]), (1, (.im (.int .i64 (n)))), (2, .pt 0 0), (4, .im (.bool false)), (25, .sl (fs.map fdV) .ro), (26, (.im (.int .i64 (fs.length)))), (27, (.im (.int .i64 (((m + 1 : Nat) : Int)))))] [.box [.im (.int .i64 k), .im (.int .i64 s), .im (.int .i64 c), .sl (es.map tyV) .ro, .sl (fs.map fdV) .ro]] True.intro ?_
          exact hnext (m + 1) (by omega) (by omega) (hI.succ hlt hsh)
        · have hsh : shal fs[m] (n - 1) = false := by simpa using hsh
          refine go44 hsh ?_
          refine w44 hm1 ?_
          rw [shal_mk, not_all_of hlt hsh]
          simp only [Bool.and_false]
          exact Fin.oneP
      · have hall2 := hI.done (by omega)
        have hlt' : ¬ (m : Int) < (fs.length : Int) := by omega
        clear hnext hI hm hlt
        refine w44 hlt' ?_
        rw [shal_mk, hall1, hall2]
        have : decide (1 ≤ n) = true := by simp; omega
        rw [this]
        simp only [Bool.and_self]
        exact Fin.oneP
set_option maxHeartbeats 400000 in
theorem c_isDeep : ∀ (t : Ty), fit t → ∀ (n : Int), I64 n → PC Try.prog 63 [tyV t, (.im (.int .i64 (n)))] (.im (.bool (!shal t n))) := by
  refine Ty.induct fun o k s c es fs hE hF => ?_
  intro hfit n hn
  unfold I64 at hn
  obtain ⟨hl1, hl2, hfE, hfF⟩ := fit_mk hfit
  refine PC.enter 40 Try.func63 rfl (by decide) rfl rfl (s := [(0, tyV (.mk o k s c es fs)), (1, (.im (.int .i64 (n))))]) (by rfl) ?_
  simp only [tyV_mk]
  by_cases h1 : n < 1
  · have hr : shal (.mk o k s c es fs) n = false := by
      rw [shal_mk]
      have : decide (1 ≤ n) = false := by simp; omega
      simp [this]
    rw [hr]
    refine w63 h1 ?_
    exact Fin.oneP
  · have hn1 : IntKind.i64.wrap (n - 1) = n - 1 := wrap_in (by omega)
    refine w63 h1 ?_
    refine AWp.loop ?_
    refine ALp.cutP 1 [(0, .ag [.im (.int .i64 k), .im (.int .i64 s), .im (.int .i64 c), .sl (es.map tyV) .ro, .sl (fs.map fdV) .ro]), (1, (.im (.int .i64 (n)))), (2, .pt 0 0), (4, .im (.bool false)), (5, (.im (.int .i64 (0))))] [.box [.im (.int .i64 k), .im (.int .i64 s), .im (.int .i64 c), .sl (es.map tyV) .ro, .sl (fs.map fdV) .ro]] True.intro ?_
    refine ALp.upto es.length (AllTo (fun t => shal t (n - 1)) es) (fun m => ⟨dn 40 [(0, .ag [.im (.int .i64 k), .im (.int .i64 s), .im (.int .i64 c), .sl (es.map tyV) .ro, .sl (fs.map fdV) .ro]), (1, (.im (.int .i64 (n)))), (2, .pt 0 0), (4, .im (.bool false)), (5, (.im (.int .i64 (m))))], ofl [.box [.im (.int .i64 k), .im (.int .i64 s), .im (.int .i64 c), .sl (es.map tyV) .ro, .sl (fs.map fdV) .ro]]⟩) ?_ 0 (Nat.zero_le _) (AllTo.zero _ _)
    intro m hm hI hnext
    by_cases hlt : m < es.length
    · have hlt' : (m : Int) < (es.length : Int) := by omega
      have hg := get_some hlt
      have hm1 := wrap_succ hlt (by omega)
      have hc := hE es[m] (List.getElem_mem hlt) (hfE _ (List.getElem_mem hlt)) (n - 1) (by unfold I64; omega)
      refine w63 (And.intro hlt' (And.intro hg (And.intro hn1 hm1))) ?_
      refine AR.callP hc True.intro True.intro ?_
      by_cases hsh : shal es[m] (n - 1) = true
      · refine go63 hsh ?_
        refine w63 hm1 ?_
        refine ALp.cutP 1 [(0, .ag [.im (.int .i64 k), .im (.int .i64 s), .im (.int .i64 c), .sl (es.map tyV) .ro, .sl (fs.map fdV) .ro]), (1, (.im (.int .i64 (n)))), (2, .pt 0 0), (4, .im (.bool false)), (5, (.im (.int .i64 (((m + 1 : Nat) : Int)))))] [.box [.im (.int .i64 k), .im (.int .i64 s), .im (.int .i64 c), .sl (es.map tyV) .ro, .sl (fs.map fdV) .ro]] True.intro ?_
        exact hnext (m + 1) (by omega) (by omega) (hI.succ hlt hsh)
      · have hsh : shal es[m] (n - 1) = false := by simpa using hsh
        refine go63 hsh ?_
        refine w63 hm1 ?_
        rw [shal_mk, not_all_of hlt hsh]
        simp only [Bool.and_false, Bool.false_and]
        exact Fin.oneP
    · have hall1 := hI.done (by omega)
      have hlt' : ¬ (m : Int) < (es.length : Int) := by omega
      clear hnext hI hm hlt
      refine w63 hlt' ?_
      clear hlt'
      refine AWp.loop ?_
      refine ALp.cutP 1 [(0, .ag [.im (.int .i64 k), .im (.int .i64 s), .im (.int .i64 c), .sl (es.map tyV) .ro, .sl (fs.map fdV) .ro]), (1, (.im (.int .i64 (n)))), (2, .pt 0 0), (4, .im (.bool false)), (6, (.im (.int .i64 (0))))] [.box [.im (.int .i64 k), .im (.int .i64 s), .im (.int .i64 c), .sl (es.map tyV) .ro, .sl (fs.map fdV) .ro]] True.intro ?_
      refine ALp.upto fs.length (AllTo (fun t => shal t (n - 1)) fs) (fun m => ⟨dn 40 [(0, .ag [.im (.int .i64 k), .im (.int .i64 s), .im (.int .i64 c), .sl (es.map tyV) .ro, .sl (fs.map fdV) .ro]), (1, (.im (.int .i64 (n)))), (2, .pt 0 0), (4, .im (.bool false)), (6, (.im (.int .i64 (m))))], ofl [.box [.im (.int .i64 k), .im (.int .i64 s), .im (.int .i64 c), .sl (es.map tyV) .ro, .sl (fs.map fdV) .ro]]⟩) ?_ 0 (Nat.zero_le _) (AllTo.zero _ _)
      intro m hm hI hnext
      by_cases hlt : m < fs.length
      · have hlt' : (m : Int) < (fs.length : Int) := by omega
        have hg := get_some hlt
        have hm1 := wrap_succ hlt (by omega)
        have hc := hF fs[m] (List.getElem_mem hlt) (hfF _ (List.getElem_mem hlt)) (n - 1) (by unfold I64; omega)
        refine w63 (And.intro hlt' (And.intro hg (And.intro hn1 hm1))) ?_
        refine AR.callP hc @tyV_eq True.intro ?_
        by_cases hsh : shal fs[m] (n - 1) = true
        · refine go63 hsh ?_
          refine w63 hm1 ?_
          refine ALp.cutP 1 [(0, .ag [.im (.int .i64 k), .im (.int .i64 s), .im (.int .i64 c), .sl (es.map tyV) .ro, .sl (fs.map fdV) .ro]), (1, (.im (.int .i64 (n)))), (2, .pt 0 0), (4, .im (.bool false)), (6, (.im (.int .i64 (((m + 1 : Nat) : Int)))))] [.box [.im (.int .i64 k), .im (.int .i64 s), .im (.int .i64 c), .sl (es.map tyV) .ro, .sl (fs.map fdV) .ro]] True.intro ?_
          exact hnext (m + 1) (by omega) (by omega) (hI.succ hlt hsh)
        · have hsh : shal fs[m] (n - 1) = false := by simpa using hsh
          refine go63 hsh ?_
          refine w63 hm1 ?_
          rw [shal_mk, not_all_of hlt hsh]
          simp only [Bool.and_false]
          exact Fin.oneP
      · have hall2 := hI.done (by omega)
        have hlt' : ¬ (m : Int) < (fs.length : Int) := by omega
        clear hnext hI hm hlt
        refine w63 hlt' ?_
        rw [shal_mk, hall1, hall2]
        have : decide (1 ≤ n) = true := by simp; omega
        rw [this]
        simp only [Bool.and_self]
        exact Fin.oneP
end Go.Proofs.Ytfggemopnlffeaa

