/- Walks: sizes of types. -/
import Derived.Test.YtfggemopnlffeaaHw
import Derived.Test.YtfggemopnlffeaaB1
namespace Go.Proofs.Ytfggemopnlffeaa
set_option linter.unusedSimpArgs false
set_option linter.unusedVariables false
set_option linter.unnecessarySimpa false
open Go.RowKit
theorem go_min (a b : Int) : (if b < a then b else a) = min a b := by omega
theorem go_max (a b : Int) : (if b > a then b else a) = max a b := by omega
def ends (fs : List Ty) (m : Nat) : Int := ((fs.take m).map fun f => f.off + siz f).foldl max 0
theorem ends_succ {fs : List Ty} {m : Nat} (h : m < fs.length) : ends fs (m + 1) = max (ends fs m) (fs[m].off + siz fs[m]) := by
  unfold ends
  rw [List.take_succ_eq_append_getElem h, List.map_append, List.foldl_append]
  rfl
theorem ends_all (fs : List Ty) : ends fs fs.length = (fs.map fun f => f.off + siz f).foldl max 0 := by
  unfold ends
  rw [List.take_length]
theorem ends_le {fs : List Ty} (h : ∀ i, (hi : i < fs.length) → 0 ≤ fs[i].off ∧ fs[i].off < 65536) (m : Nat) : 0 ≤ ends fs m ∧ ends fs m ≤ 131072 := by
  unfold ends
  refine ⟨foldl_max_ge _ _, foldl_max_le _ _ (fun x hx => ?_) _ (by omega)⟩
  obtain ⟨f, hf, rfl⟩ := List.mem_map.1 hx
  obtain ⟨i, hi, rfl⟩ := List.getElem_of_mem (List.mem_of_mem_take hf)
  have := h i hi
  have := siz_le fs[i]
  omega
set_option maxHeartbeats 400000 in
theorem c_size : ∀ (t : Ty), fit t → frm t = true → PC Try.prog 82 [tyV t] (.im (.int .i64 (siz t))) := by
  refine Ty.induct fun o k s c es fs hE hF => ?_
  intro hfit hfrm
  obtain ⟨hl1, hl2, hfE, hfF⟩ := fit_mk hfit
  obtain ⟨hb, hof, hfs, hes⟩ := frm_inv hfrm
  refine PC.enter 45 Try.func82 rfl (by decide) rfl rfl (s := [(0, tyV (.mk o k s c es fs))]) (by rfl) ?_
  simp only [tyV_mk]
  rw [siz_mk]
  rcases base_cases hb with h1 | h1 | h1 | h1 | h1
  · obtain ⟨h1, rfl, rfl, _, _⟩ := h1
    rcases h1 with rfl | rfl
    all_goals
      refine w82 True.intro ?_
      exact Fin.oneP
  · obtain ⟨h1, h2, rfl, _, _⟩ := h1
    have e : min s 65537 = s := by omega
    have hs : ¬ (65537 : Int) < s := by omega
    rcases h1 with rfl | rfl
    · refine w82 hs ?_
      simp only [Int.reduceBEq, Bool.true_or, Bool.or_true, if_true, e]
      exact Fin.oneP
    · refine w82 hs ?_
      simp only [Int.reduceBEq, Bool.true_or, Bool.or_true, if_true, e]
      exact Fin.oneP
  · obtain ⟨rfl, rfl, rfl, _, _⟩ := h1
    refine w82 True.intro ?_
    exact Fin.oneP
  · obtain ⟨rfl, rfl, h2, h3, h4, _⟩ := h1
    obtain ⟨x, rfl⟩ := List.length_eq_one_iff.1 h4
    have hc := hE x (by simp) (hfE x (by simp)) (hes x (by simp))
    have hx0 := siz_nonneg x (hes x (by simp))
    have hx1 := siz_le x
    have hw : IntKind.i64.wrap (c * siz x) = c * siz x := wrap_in (by
      have h5 : 0 ≤ c * siz x := Int.mul_nonneg (by omega) hx0
      have h6 : c * siz x ≤ 65536 * 65537 := Int.mul_le_mul h3 hx1 hx0 (by omega)
      omega)
    refine wd82 True.intro ?_
    refine AR.callP hc @tyV_eq True.intro ?_
    refine go82 hw ?_
    refine wd82 (And.intro hw go_min) ?_
    simp only [Int.reduceBEq, Bool.or_self, Bool.false_eq_true, if_false, if_true, List.map_cons, List.headD_cons]
    exact Fin.oneP
  · obtain ⟨rfl, rfl, rfl, _⟩ := h1
    have hoff : ∀ i, (hi : i < fs.length) → 0 ≤ fs[i].off ∧ fs[i].off < 65536 := fun i hi => fok_off hi (hof i hi)
    refine wd82 True.intro ?_
    refine AWp.loop ?_
    refine ALp.cutP 1 [(0, .ag [.im (.int .i64 5), .im (.int .i64 0), .im (.int .i64 0), .sl (es.map tyV) .ro, .sl (fs.map fdV) .ro]), (1, .pt 0 0), (2, (.im (.int .i64 (0)))), (3, (.im (.int .i64 (ends fs (0))))), (28, .sl (fs.map fdV) .ro), (29, (.im (.int .i64 (fs.length)))), (30, (.im (.int .i64 (((0 : Nat) : Int)))))] [.box [.im (.int .i64 5), .im (.int .i64 0), .im (.int .i64 0), .sl (es.map tyV) .ro, .sl (fs.map fdV) .ro]] True.intro ?_
    refine ALp.upto fs.length (fun _ => True) (fun m => ⟨dn 45 [(0, .ag [.im (.int .i64 5), .im (.int .i64 0), .im (.int .i64 0), .sl (es.map tyV) .ro, .sl (fs.map fdV) .ro]), (1, .pt 0 0), (2, (.im (.int .i64 (0)))), (3, (.im (.int .i64 (ends fs (m))))), (28, .sl (fs.map fdV) .ro), (29, (.im (.int .i64 (fs.length)))), (30, (.im (.int .i64 (((m : Nat) : Int)))))], ofl [.box [.im (.int .i64 5), .im (.int .i64 0), .im (.int .i64 0), .sl (es.map tyV) .ro, .sl (fs.map fdV) .ro]]⟩) ?_ 0 (Nat.zero_le _) trivial
    intro m hm _ hnext
    by_cases hlt : m < fs.length
    · have hlt' : (m : Int) < (fs.length : Int) := by omega
      have hg := get_some hlt
      have hm1 := wrap_succ hlt (by omega)
      have hc := hF fs[m] (List.getElem_mem hlt) (hfF _ (List.getElem_mem hlt)) (hfs _ (List.getElem_mem hlt))
      have ho := hoff m hlt
      have hx0 := siz_nonneg fs[m] (hfs _ (List.getElem_mem hlt))
      have hx1 := siz_le fs[m]
      have hw : IntKind.i64.wrap (fs[m].off + siz fs[m]) = fs[m].off + siz fs[m] := wrap_in (by omega)
      have he := (ends_succ hlt).symm
      refine wd82 (And.intro hlt' (And.intro hg hm1)) ?_
      refine AR.callP hc @tyV_eq True.intro ?_
      refine go82 (And.intro hw (And.intro go_max he)) ?_
      refine wd82 hm1 ?_
      refine ALp.cutP 1 [(0, .ag [.im (.int .i64 5), .im (.int .i64 0), .im (.int .i64 0), .sl (es.map tyV) .ro, .sl (fs.map fdV) .ro]), (1, .pt 0 0), (2, (.im (.int .i64 (0)))), (3, (.im (.int .i64 (ends fs (m + 1))))), (28, .sl (fs.map fdV) .ro), (29, (.im (.int .i64 (fs.length)))), (30, (.im (.int .i64 (((m + 1 : Nat) : Int)))))] [.box [.im (.int .i64 5), .im (.int .i64 0), .im (.int .i64 0), .sl (es.map tyV) .ro, .sl (fs.map fdV) .ro]] True.intro ?_
      exact hnext (m + 1) (by omega) (by omega) trivial
    · obtain rfl : m = fs.length := by omega
      have hlt' : ¬ (fs.length : Int) < (fs.length : Int) := by omega
      clear hnext
      refine wd82 (And.intro hlt' go_min) ?_
      simp only [Int.reduceBEq, Bool.or_self, Bool.false_eq_true, if_false, if_true, ← ends_all]
      exact Fin.oneP
set_option maxHeartbeats 400000 in
theorem c_sizeR : ∀ (t : Ty), fit t → frm t = true → PC Try.prog 99 [tyV t] (.im (.int .i64 (siz t))) := by
  refine Ty.induct fun o k s c es fs hE hF => ?_
  intro hfit hfrm
  obtain ⟨hl1, hl2, hfE, hfF⟩ := fit_mk hfit
  obtain ⟨hb, hof, hfs, hes⟩ := frm_inv hfrm
  refine PC.enter 51 Try.func99 rfl (by decide) rfl rfl (s := [(0, tyV (.mk o k s c es fs))]) (by rfl) ?_
  simp only [tyV_mk]
  rw [siz_mk]
  rcases base_cases hb with h1 | h1 | h1 | h1 | h1
  · obtain ⟨h1, rfl, rfl, _, _⟩ := h1
    rcases h1 with rfl | rfl
    all_goals
      refine w99 True.intro ?_
      exact Fin.oneP
  · obtain ⟨h1, h2, rfl, _, _⟩ := h1
    have e : min s 65537 = s := by omega
    have hs : ¬ (65537 : Int) < s := by omega
    rcases h1 with rfl | rfl
    · refine w99 hs ?_
      simp only [Int.reduceBEq, Bool.true_or, Bool.or_true, if_true, e]
      exact Fin.oneP
    · refine w99 hs ?_
      simp only [Int.reduceBEq, Bool.true_or, Bool.or_true, if_true, e]
      exact Fin.oneP
  · obtain ⟨rfl, rfl, rfl, _, _⟩ := h1
    refine w99 True.intro ?_
    exact Fin.oneP
  · obtain ⟨rfl, rfl, h2, h3, h4, _⟩ := h1
    obtain ⟨x, rfl⟩ := List.length_eq_one_iff.1 h4
    have hc := hE x (by simp) (hfE x (by simp)) (hes x (by simp))
    have hx0 := siz_nonneg x (hes x (by simp))
    have hx1 := siz_le x
    have hw : IntKind.i64.wrap (c * siz x) = c * siz x := wrap_in (by
      have h5 : 0 ≤ c * siz x := Int.mul_nonneg (by omega) hx0
      have h6 : c * siz x ≤ 65536 * 65537 := Int.mul_le_mul h3 hx1 hx0 (by omega)
      omega)
    refine wd99 True.intro ?_
    refine AR.callP hc @tyV_eq True.intro ?_
    refine go99 hw ?_
    refine wd99 (And.intro hw go_min) ?_
    simp only [Int.reduceBEq, Bool.or_self, Bool.false_eq_true, if_false, if_true, List.map_cons, List.headD_cons]
    exact Fin.oneP
  · obtain ⟨rfl, rfl, rfl, _⟩ := h1
    have hoff : ∀ i, (hi : i < fs.length) → 0 ≤ fs[i].off ∧ fs[i].off < 65536 := fun i hi => fok_off hi (hof i hi)
    refine wd99 True.intro ?_
    refine AWp.loop ?_
    refine ALp.cutP 1 [(0, .ag [.im (.int .i64 5), .im (.int .i64 0), .im (.int .i64 0), .sl (es.map tyV) .ro, .sl (fs.map fdV) .ro]), (1, .pt 0 0), (2, (.im (.int .i64 (0)))), (3, (.im (.int .i64 (ends fs (0))))), (4, (.im (.int .i64 (((0 : Nat) : Int)))))] [.box [.im (.int .i64 5), .im (.int .i64 0), .im (.int .i64 0), .sl (es.map tyV) .ro, .sl (fs.map fdV) .ro]] True.intro ?_
    refine ALp.upto fs.length (fun _ => True) (fun m => ⟨dn 51 [(0, .ag [.im (.int .i64 5), .im (.int .i64 0), .im (.int .i64 0), .sl (es.map tyV) .ro, .sl (fs.map fdV) .ro]), (1, .pt 0 0), (2, (.im (.int .i64 (0)))), (3, (.im (.int .i64 (ends fs (m))))), (4, (.im (.int .i64 (((m : Nat) : Int)))))], ofl [.box [.im (.int .i64 5), .im (.int .i64 0), .im (.int .i64 0), .sl (es.map tyV) .ro, .sl (fs.map fdV) .ro]]⟩) ?_ 0 (Nat.zero_le _) trivial
    intro m hm _ hnext
    by_cases hlt : m < fs.length
    · have hlt' : (m : Int) < (fs.length : Int) := by omega
      have hg := get_some hlt
      have hm1 := wrap_succ hlt (by omega)
      have hc := hF fs[m] (List.getElem_mem hlt) (hfF _ (List.getElem_mem hlt)) (hfs _ (List.getElem_mem hlt))
      have ho := hoff m hlt
      have hx0 := siz_nonneg fs[m] (hfs _ (List.getElem_mem hlt))
      have hx1 := siz_le fs[m]
      have hw : IntKind.i64.wrap (fs[m].off + siz fs[m]) = fs[m].off + siz fs[m] := wrap_in (by omega)
      have he := (ends_succ hlt).symm
      refine wd99 (And.intro hlt' (And.intro hg hm1)) ?_
      refine AR.callP hc @tyV_eq True.intro ?_
      refine go99 (And.intro hw (And.intro go_max he)) ?_
      refine wd99 hm1 ?_
      refine ALp.cutP 1 [(0, .ag [.im (.int .i64 5), .im (.int .i64 0), .im (.int .i64 0), .sl (es.map tyV) .ro, .sl (fs.map fdV) .ro]), (1, .pt 0 0), (2, (.im (.int .i64 (0)))), (3, (.im (.int .i64 (ends fs (m + 1))))), (4, (.im (.int .i64 (((m + 1 : Nat) : Int)))))] [.box [.im (.int .i64 5), .im (.int .i64 0), .im (.int .i64 0), .sl (es.map tyV) .ro, .sl (fs.map fdV) .ro]] True.intro ?_
      exact hnext (m + 1) (by omega) (by omega) trivial
    · obtain rfl : m = fs.length := by omega
      have hlt' : ¬ (fs.length : Int) < (fs.length : Int) := by omega
      clear hnext
      refine wd99 (And.intro hlt' go_min) ?_
      simp only [Int.reduceBEq, Bool.or_self, Bool.false_eq_true, if_false, if_true, ← ends_all]
      exact Fin.oneP
end Go.Proofs.Ytfggemopnlffeaa

