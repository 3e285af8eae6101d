/- Walks: the order of types. Walks: IndexFunc and ContainsFunc over expressions and variables. Walks: levels of an expression. -/
import Derived.Test.YtlbfgnpadggbgaaGreatDoorHv
import Derived.Test.YtlbfgnpadggbgaaGreatDoorJA
import Derived.Test.YtlbfgnpadggbgaaGreatDoorLe
import Derived.Test.YtlbfgnpadggbgaaGreatDoorPm
namespace Go.Proofs.YtlbfgnpadggbgaaGreatDoor
set_option linter.unusedSimpArgs false
set_option linter.unusedVariables false
set_option linter.unnecessarySimpa false
open Go.RowKit
/-- The place of the first that fits, or -1. -/
def idx {α : Type} (l : List α) (p : α → Bool) : Int := match l.findIdx? p with
  | some k => k
  | none => -1
theorem idx_none {α : Type} {l : List α} {p : α → Bool} (h : AllTo (fun x => !p x) l l.length) : idx l p = -1 := by
  unfold idx
  have : l.findIdx? p = none := by
    rw [List.findIdx?_eq_none_iff]
    intro x hx
    obtain ⟨j, hj, rfl⟩ := List.getElem_of_mem hx
    simpa using h j hj hj
  rw [this]
theorem idx_some {α : Type} {l : List α} {p : α → Bool} {m : Nat} (hm : m < l.length) (h : AllTo (fun x => !p x) l m) (hp : p l[m] = true) : idx l p = m := by
  unfold idx
  have : l.findIdx? p = some m := by
    rw [List.findIdx?_eq_some_iff_getElem]
    exact ⟨hm, hp, fun j hj => by simpa using h j (by omega) hj⟩
  rw [this]
theorem idx_any {α : Type} (l : List α) (p : α → Bool) : decide (idx l p ≥ 0) = l.any p := by
  unfold idx
  cases h : l.findIdx? p with
  | none =>
    rw [List.findIdx?_eq_none_iff] at h
    have : l.any p = false := by simpa using h
    rw [this]
    decide
  | some k =>
    rw [List.findIdx?_eq_some_iff_getElem] at h
    obtain ⟨hk, hp, _⟩ := h
    have : l.any p = true := List.any_eq_true.2 ⟨_, List.getElem_mem hk, hp⟩
    rw [this]
    simp
end Go.Proofs.YtlbfgnpadggbgaaGreatDoor
namespace Go.Proofs.YtlbfgnpadggbgaaGreatDoor
set_option linter.unusedSimpArgs false
set_option linter.unusedVariables false
set_option linter.unnecessarySimpa false
open Go.RowKit
theorem Y57_BD : type_of% (And.intro @F_ag_25 (And.intro @F_el_23 (@F_sz_25))) := And.intro @F_ag_25 (And.intro @F_el_23 (@F_sz_25))
theorem c_indexE0 {gs : List Ex} {F : FuncId} (p : Ex → Bool) (hl : gs.length ≤ 4194304) (hF : ∀ t ∈ gs, PC Tryz.prog F [exV t] (.im (.bool (p t)))) :
    PC Tryz.prog 57 [.sl (gs.map exV) .ro, .fn (.func F) [] []] (.im (.int .i64 (idx gs p))) := by
  refine PC.enter 19 Tryz.func57 rfl (by decide) rfl rfl (s := [(0, .sl (gs.map exV) .ro), (1, .fn (.func F) [] [])]) (by rfl) ?_
  refine wG Y57_BD True.intro ?_
  refine AWp.loop ?_
  refine ALp.cutP 0 [(0, .sl (gs.map exV) .ro), (1, .fn (.func F) [] []), (7, (.im (.int .i64 (gs.length)))), (8, (.im (.int .i64 ((((0 : Nat)) : Int)))))] [] (And.intro (@exL_id) (And.intro (@vaL_id) (And.intro (@exV_id) @vaV_id))) ?_
  refine ALp.upto gs.length (AllTo (fun x => !p x) gs) (fun m => ⟨dn 19 [(0, .sl (gs.map exV) .ro), (1, .fn (.func F) [] []), (7, (.im (.int .i64 (gs.length)))), (8, (.im (.int .i64 ((((m : Nat)) : Int)))))], ofl []⟩) ?_ 0 (Nat.zero_le _) (AllTo.zero _ _)
  intro m hm hI hnext
  by_cases hlt : m < gs.length
  · have hlt' : (m : Int) < (gs.length : Int) := by omega
    have hg := get_some hlt
    have hm1 := wrap_succ hlt (by omega)
    have hc := hF gs[m] (List.getElem_mem hlt)
    refine wG Y57_BD (And.intro (@exV_firm) (And.intro (@exV_strip) (And.intro (@exV_live) (And.intro (@exV_size) (And.intro (@exV_isAg) (And.intro (@exV_cells) (And.intro (@vaV_firm) (And.intro (@vaV_strip) (And.intro (@vaV_live) (And.intro (@vaV_size) (And.intro (@vaV_isAg) (And.intro (@vaV_cells) (And.intro (@List.getElem?_map.{0, 0}) (And.intro (@Int.natCast_nonneg) (And.intro hlt' (And.intro hg hm1)))))))))))))))) ?_
    by_cases b : p gs[m] = true
    · rw [b] at hc
      refine AR.callP hc @exV_eq (And.intro (@exL_id) (And.intro (@vaL_id) (And.intro (@exV_id) @vaV_id))) ?_
      refine goG Y57_BD True.intro ?_
      refine wG Y57_BD True.intro ?_
      rw [idx_some hlt hI b]
      exact Fin.oneP
    · have b : p gs[m] = false := by simpa using b
      rw [b] at hc
      refine AR.callP hc @exV_eq (And.intro (@exL_id) (And.intro (@vaL_id) (And.intro (@exV_id) @vaV_id))) ?_
      refine goG Y57_BD True.intro ?_
      refine wG Y57_BD hm1 ?_
      refine ALp.cutP 0 [(0, .sl (gs.map exV) .ro), (1, .fn (.func F) [] []), (7, (.im (.int .i64 (gs.length)))), (8, (.im (.int .i64 ((((m + 1 : Nat)) : Int)))))] [] (And.intro (@exL_id) (And.intro (@vaL_id) (And.intro (@exV_id) @vaV_id))) ?_
      exact hnext (m + 1) (by omega) (by omega) (hI.succ hlt (by simp [b]))
  · obtain rfl : m = gs.length := by omega
    have hlt' : ¬ (gs.length : Int) < (gs.length : Int) := by omega
    clear hnext hlt
    rw [idx_none hI]
    refine wG Y57_BD hlt' ?_
    exact Fin.oneP

theorem c_containsE0 {gs : List Ex} {F : FuncId} (p : Ex → Bool) (hl : gs.length ≤ 4194304) (hF : ∀ t ∈ gs, PC Tryz.prog F [exV t] (.im (.bool (p t)))) :
    PC Tryz.prog 28 [.sl (gs.map exV) .ro, .fn (.func F) [] []] (.im (.bool (gs.any p))) := by
  have h := c_indexE0 p hl hF
  refine PC.enter 9 Tryz.func28 rfl (by decide) rfl rfl (s := [(0, .sl (gs.map exV) .ro), (1, .fn (.func F) [] [])]) (by rfl) ?_
  refine wG True.intro True.intro ?_
  refine AR.callP h True.intro (And.intro (@exL_id) (And.intro (@vaL_id) (And.intro (@exV_id) @vaV_id))) ?_
  refine goG True.intro True.intro ?_
  rw [idx_any]
  refine wG True.intro True.intro ?_
  exact Fin.oneP
theorem c_indexE1 {gs : List Ex} {F : FuncId} {cs : List V} (p : Ex → Bool) (hcs : V.idsL (ltB 1) cs = true) (hr : V.renL (gOf [0]) cs = cs) (hl : gs.length ≤ 4194304) (hF : ∀ t ∈ gs, DC Tryz.prog F [exV t, .pt 0 0] [.box cs] (.im (.bool (p t))) [.box cs]) :
    DC Tryz.prog 57 [.sl (gs.map exV) .ro, .fn (.func F) [] [.pt 0 0]] [.box cs] (.im (.int .i64 (idx gs p))) [.box cs] := by
  refine DC.enter 19 Tryz.func57 rfl (by decide) rfl rfl (s := [(0, .sl (gs.map exV) .ro), (1, .fn (.func F) [] [.pt 0 0])]) (by rfl) ?_
  refine wG Y57_BD True.intro ?_
  refine AWp.loop ?_
  refine ALp.cutP 1 [(0, .sl (gs.map exV) .ro), (1, .fn (.func F) [] [.pt 0 0]), (7, (.im (.int .i64 (gs.length)))), (8, (.im (.int .i64 ((((0 : Nat)) : Int)))))] [.box cs] (And.intro (@exL_id) (And.intro (@vaL_id) (And.intro (@exV_id) (And.intro (@vaV_id) hcs)))) ?_
  refine ALp.upto gs.length (AllTo (fun x => !p x) gs) (fun m => ⟨dn 19 [(0, .sl (gs.map exV) .ro), (1, .fn (.func F) [] [.pt 0 0]), (7, (.im (.int .i64 (gs.length)))), (8, (.im (.int .i64 ((((m : Nat)) : Int)))))], ofl [.box cs]⟩) ?_ 0 (Nat.zero_le _) (AllTo.zero _ _)
  intro m hm hI hnext
  by_cases hlt : m < gs.length
  · have hlt' : (m : Int) < (gs.length : Int) := by omega
    have hg := get_some hlt
    have hm1 := wrap_succ hlt (by omega)
    have hc := hF gs[m] (List.getElem_mem hlt)
    refine wG Y57_BD (And.intro (@exV_firm) (And.intro (@exV_strip) (And.intro (@exV_live) (And.intro (@exV_size) (And.intro (@exV_isAg) (And.intro (@exV_cells) (And.intro (@vaV_firm) (And.intro (@vaV_strip) (And.intro (@vaV_live) (And.intro (@vaV_size) (And.intro (@vaV_isAg) (And.intro (@vaV_cells) (And.intro (@List.getElem?_map.{0, 0}) (And.intro (@Int.natCast_nonneg) (And.intro hlt' (And.intro hg hm1)))))))))))))))) ?_
    by_cases b : p gs[m] = true
    · rw [b] at hc
      refine AR.callQP [0] hc @exV_eq (And.intro (@exL_id) (And.intro (@vaL_id) (And.intro (@exV_id) (And.intro (@vaV_id) hcs)))) (And.intro (@exV_ren) (And.intro (@exL_ren) (And.intro (@vaV_ren) (And.intro (@vaL_ren) hr)))) ?_
      refine goG Y57_BD True.intro ?_
      refine wG Y57_BD True.intro ?_
      rw [idx_some hlt hI b]
      exact Fin.oneSP (And.intro (@exL_id) (And.intro (@vaL_id) (And.intro (@exV_id) (And.intro (@vaV_id) hcs))))
    · have b : p gs[m] = false := by simpa using b
      rw [b] at hc
      refine AR.callQP [0] hc @exV_eq (And.intro (@exL_id) (And.intro (@vaL_id) (And.intro (@exV_id) (And.intro (@vaV_id) hcs)))) (And.intro (@exV_ren) (And.intro (@exL_ren) (And.intro (@vaV_ren) (And.intro (@vaL_ren) hr)))) ?_
      refine goG Y57_BD True.intro ?_
      refine wG Y57_BD hm1 ?_
      refine ALp.cutP 1 [(0, .sl (gs.map exV) .ro), (1, .fn (.func F) [] [.pt 0 0]), (7, (.im (.int .i64 (gs.length)))), (8, (.im (.int .i64 ((((m + 1 : Nat)) : Int)))))] [.box cs] (And.intro (@exL_id) (And.intro (@vaL_id) (And.intro (@exV_id) (And.intro (@vaV_id) hcs)))) ?_
      exact hnext (m + 1) (by omega) (by omega) (hI.succ hlt (by simp [b]))
  · obtain rfl : m = gs.length := by omega
    have hlt' : ¬ (gs.length : Int) < (gs.length : Int) := by omega
    clear hnext hlt
    rw [idx_none hI]
    refine wG Y57_BD hlt' ?_
    exact Fin.oneSP (And.intro (@exL_id) (And.intro (@vaL_id) (And.intro (@exV_id) (And.intro (@vaV_id) hcs))))
theorem c_containsE1 {gs : List Ex} {F : FuncId} {cs : List V} (p : Ex → Bool) (hcs : V.idsL (ltB 1) cs = true) (hr : V.renL (gOf [0]) cs = cs) (hl : gs.length ≤ 4194304) (hF : ∀ t ∈ gs, DC Tryz.prog F [exV t, .pt 0 0] [.box cs] (.im (.bool (p t))) [.box cs]) :
    DC Tryz.prog 28 [.sl (gs.map exV) .ro, .fn (.func F) [] [.pt 0 0]] [.box cs] (.im (.bool (gs.any p))) [.box cs] := by
  have h := c_indexE1 p hcs hr hl hF
  refine DC.enter 9 Tryz.func28 rfl (by decide) rfl rfl (s := [(0, .sl (gs.map exV) .ro), (1, .fn (.func F) [] [.pt 0 0])]) (by rfl) ?_
  refine wG True.intro True.intro ?_
  refine AR.callQP [0] h True.intro (And.intro (@exL_id) (And.intro (@vaL_id) (And.intro (@exV_id) (And.intro (@vaV_id) hcs)))) (And.intro (@exV_ren) (And.intro (@exL_ren) (And.intro (@vaV_ren) (And.intro (@vaL_ren) hr)))) ?_
  refine goG True.intro True.intro ?_
  rw [idx_any]
  refine wG True.intro True.intro ?_
  exact Fin.oneSP (And.intro (@exL_id) (And.intro (@vaL_id) (And.intro (@exV_id) (And.intro (@vaV_id) hcs))))
theorem c_indexE2 {gs : List Ex} {F : FuncId} {cs ds : List V} (p : Ex → Bool) (hcs : V.idsL (ltB 2) cs = true) (hr : V.renL (gOf [0, 1]) cs = cs) (hds : V.idsL (ltB 2) ds = true) (hrs : V.renL (gOf [0, 1]) ds = ds) (hl : gs.length ≤ 4194304) (hF : ∀ t ∈ gs, DC Tryz.prog F [exV t, .pt 0 0] [.box cs, .box ds] (.im (.bool (p t))) [.box cs, .box ds]) :
    DC Tryz.prog 57 [.sl (gs.map exV) .ro, .fn (.func F) [] [.pt 0 0]] [.box cs, .box ds] (.im (.int .i64 (idx gs p))) [.box cs, .box ds] := by
  refine DC.enter 19 Tryz.func57 rfl (by decide) rfl rfl (s := [(0, .sl (gs.map exV) .ro), (1, .fn (.func F) [] [.pt 0 0])]) (by rfl) ?_
  refine wG Y57_BD True.intro ?_
  refine AWp.loop ?_
  refine ALp.cutP 2 [(0, .sl (gs.map exV) .ro), (1, .fn (.func F) [] [.pt 0 0]), (7, (.im (.int .i64 (gs.length)))), (8, (.im (.int .i64 ((((0 : Nat)) : Int)))))] [.box cs, .box ds] (And.intro (@exL_id) (And.intro (@vaL_id) (And.intro (@exV_id) (And.intro (@vaV_id) (And.intro hcs hds))))) ?_
  refine ALp.upto gs.length (AllTo (fun x => !p x) gs) (fun m => ⟨dn 19 [(0, .sl (gs.map exV) .ro), (1, .fn (.func F) [] [.pt 0 0]), (7, (.im (.int .i64 (gs.length)))), (8, (.im (.int .i64 ((((m : Nat)) : Int)))))], ofl [.box cs, .box ds]⟩) ?_ 0 (Nat.zero_le _) (AllTo.zero _ _)
  intro m hm hI hnext
  by_cases hlt : m < gs.length
  · have hlt' : (m : Int) < (gs.length : Int) := by omega
    have hg := get_some hlt
    have hm1 := wrap_succ hlt (by omega)
    have hc := hF gs[m] (List.getElem_mem hlt)
    refine wG Y57_BD (And.intro (@exV_firm) (And.intro (@exV_strip) (And.intro (@exV_live) (And.intro (@exV_size) (And.intro (@exV_isAg) (And.intro (@exV_cells) (And.intro (@vaV_firm) (And.intro (@vaV_strip) (And.intro (@vaV_live) (And.intro (@vaV_size) (And.intro (@vaV_isAg) (And.intro (@vaV_cells) (And.intro (@List.getElem?_map.{0, 0}) (And.intro (@Int.natCast_nonneg) (And.intro hlt' (And.intro hg hm1)))))))))))))))) ?_
    by_cases b : p gs[m] = true
    · rw [b] at hc
      refine AR.callQP [0, 1] hc @exV_eq (And.intro (@exL_id) (And.intro (@vaL_id) (And.intro (@exV_id) (And.intro (@vaV_id) (And.intro hcs hds))))) (And.intro (@exV_ren) (And.intro (@exL_ren) (And.intro (@vaV_ren) (And.intro (@vaL_ren) (And.intro hr hrs))))) ?_
      refine goG Y57_BD True.intro ?_
      refine wG Y57_BD True.intro ?_
      rw [idx_some hlt hI b]
      exact Fin.oneSP (And.intro (@exL_id) (And.intro (@vaL_id) (And.intro (@exV_id) (And.intro (@vaV_id) (And.intro hcs hds)))))
    · have b : p gs[m] = false := by simpa using b
      rw [b] at hc
      refine AR.callQP [0, 1] hc @exV_eq (And.intro (@exL_id) (And.intro (@vaL_id) (And.intro (@exV_id) (And.intro (@vaV_id) (And.intro hcs hds))))) (And.intro (@exV_ren) (And.intro (@exL_ren) (And.intro (@vaV_ren) (And.intro (@vaL_ren) (And.intro hr hrs))))) ?_
      refine goG Y57_BD True.intro ?_
      refine wG Y57_BD hm1 ?_
      refine ALp.cutP 2 [(0, .sl (gs.map exV) .ro), (1, .fn (.func F) [] [.pt 0 0]), (7, (.im (.int .i64 (gs.length)))), (8, (.im (.int .i64 ((((m + 1 : Nat)) : Int)))))] [.box cs, .box ds] (And.intro (@exL_id) (And.intro (@vaL_id) (And.intro (@exV_id) (And.intro (@vaV_id) (And.intro hcs hds))))) ?_
      exact hnext (m + 1) (by omega) (by omega) (hI.succ hlt (by simp [b]))
  · obtain rfl : m = gs.length := by omega
    have hlt' : ¬ (gs.length : Int) < (gs.length : Int) := by omega
    clear hnext hlt
    rw [idx_none hI]
    refine wG Y57_BD hlt' ?_
    exact Fin.oneSP (And.intro (@exL_id) (And.intro (@vaL_id) (And.intro (@exV_id) (And.intro (@vaV_id) (And.intro hcs hds)))))
theorem c_containsE2 {gs : List Ex} {F : FuncId} {cs ds : List V} (p : Ex → Bool) (hcs : V.idsL (ltB 2) cs = true) (hr : V.renL (gOf [0, 1]) cs = cs) (hds : V.idsL (ltB 2) ds = true) (hrs : V.renL (gOf [0, 1]) ds = ds) (hl : gs.length ≤ 4194304) (hF : ∀ t ∈ gs, DC Tryz.prog F [exV t, .pt 0 0] [.box cs, .box ds] (.im (.bool (p t))) [.box cs, .box ds]) :
    DC Tryz.prog 28 [.sl (gs.map exV) .ro, .fn (.func F) [] [.pt 0 0]] [.box cs, .box ds] (.im (.bool (gs.any p))) [.box cs, .box ds] := by
  have h := c_indexE2 p hcs hr hds hrs hl hF
  refine DC.enter 9 Tryz.func28 rfl (by decide) rfl rfl (s := [(0, .sl (gs.map exV) .ro), (1, .fn (.func F) [] [.pt 0 0])]) (by rfl) ?_
  refine wG True.intro True.intro ?_
  refine AR.callQP [0, 1] h True.intro (And.intro (@exL_id) (And.intro (@vaL_id) (And.intro (@exV_id) (And.intro (@vaV_id) (And.intro hcs hds))))) (And.intro (@exV_ren) (And.intro (@exL_ren) (And.intro (@vaV_ren) (And.intro (@vaL_ren) (And.intro hr hrs))))) ?_
  refine goG True.intro True.intro ?_
  rw [idx_any]
  refine wG True.intro True.intro ?_
  exact Fin.oneSP (And.intro (@exL_id) (And.intro (@vaL_id) (And.intro (@exV_id) (And.intro (@vaV_id) (And.intro hcs hds)))))
theorem Y59_BD : type_of% (And.intro @F_ag_66 (And.intro @F_el_26 (@F_sz_66))) := And.intro @F_ag_66 (And.intro @F_el_26 (@F_sz_66))
theorem c_indexV1 {gs : List Va} {F : FuncId} {cs : List V} (p : Va → Bool) (hcs : V.idsL (ltB 1) cs = true) (hr : V.renL (gOf [0]) cs = cs) (hl : gs.length ≤ 4194304) (hF : ∀ t ∈ gs, DC Tryz.prog F [vaV t, .pt 0 0] [.box cs] (.im (.bool (p t))) [.box cs]) :
    DC Tryz.prog 59 [.sl (gs.map vaV) .ro, .fn (.func F) [] [.pt 0 0]] [.box cs] (.im (.int .i64 (idx gs p))) [.box cs] := by
  refine DC.enter 19 Tryz.func59 rfl (by decide) rfl rfl (s := [(0, .sl (gs.map vaV) .ro), (1, .fn (.func F) [] [.pt 0 0])]) (by rfl) ?_
  refine wG Y59_BD True.intro ?_
  refine AWp.loop ?_
  refine ALp.cutP 1 [(0, .sl (gs.map vaV) .ro), (1, .fn (.func F) [] [.pt 0 0]), (7, (.im (.int .i64 (gs.length)))), (8, (.im (.int .i64 ((((0 : Nat)) : Int)))))] [.box cs] (And.intro (@exL_id) (And.intro (@vaL_id) (And.intro (@exV_id) (And.intro (@vaV_id) hcs)))) ?_
  refine ALp.upto gs.length (AllTo (fun x => !p x) gs) (fun m => ⟨dn 19 [(0, .sl (gs.map vaV) .ro), (1, .fn (.func F) [] [.pt 0 0]), (7, (.im (.int .i64 (gs.length)))), (8, (.im (.int .i64 ((((m : Nat)) : Int)))))], ofl [.box cs]⟩) ?_ 0 (Nat.zero_le _) (AllTo.zero _ _)
  intro m hm hI hnext
  by_cases hlt : m < gs.length
  · have hlt' : (m : Int) < (gs.length : Int) := by omega
    have hg := get_some hlt
    have hm1 := wrap_succ hlt (by omega)
    have hc := hF gs[m] (List.getElem_mem hlt)
    refine wG Y59_BD (And.intro (@exV_firm) (And.intro (@exV_strip) (And.intro (@exV_live) (And.intro (@exV_size) (And.intro (@exV_isAg) (And.intro (@exV_cells) (And.intro (@vaV_firm) (And.intro (@vaV_strip) (And.intro (@vaV_live) (And.intro (@vaV_size) (And.intro (@vaV_isAg) (And.intro (@vaV_cells) (And.intro (@List.getElem?_map.{0, 0}) (And.intro (@Int.natCast_nonneg) (And.intro hlt' (And.intro hg hm1)))))))))))))))) ?_
    by_cases b : p gs[m] = true
    · rw [b] at hc
      refine AR.callQP [0] hc @vaV_eq (And.intro (@exL_id) (And.intro (@vaL_id) (And.intro (@exV_id) (And.intro (@vaV_id) hcs)))) (And.intro (@exV_ren) (And.intro (@exL_ren) (And.intro (@vaV_ren) (And.intro (@vaL_ren) hr)))) ?_
      refine goG Y59_BD True.intro ?_
      refine wG Y59_BD True.intro ?_
      rw [idx_some hlt hI b]
      exact Fin.oneSP (And.intro (@exL_id) (And.intro (@vaL_id) (And.intro (@exV_id) (And.intro (@vaV_id) hcs))))
    · have b : p gs[m] = false := by simpa using b
      rw [b] at hc
      refine AR.callQP [0] hc @vaV_eq (And.intro (@exL_id) (And.intro (@vaL_id) (And.intro (@exV_id) (And.intro (@vaV_id) hcs)))) (And.intro (@exV_ren) (And.intro (@exL_ren) (And.intro (@vaV_ren) (And.intro (@vaL_ren) hr)))) ?_
      refine goG Y59_BD True.intro ?_
      refine wG Y59_BD hm1 ?_
      refine ALp.cutP 1 [(0, .sl (gs.map vaV) .ro), (1, .fn (.func F) [] [.pt 0 0]), (7, (.im (.int .i64 (gs.length)))), (8, (.im (.int .i64 ((((m + 1 : Nat)) : Int)))))] [.box cs] (And.intro (@exL_id) (And.intro (@vaL_id) (And.intro (@exV_id) (And.intro (@vaV_id) hcs)))) ?_
      exact hnext (m + 1) (by omega) (by omega) (hI.succ hlt (by simp [b]))
  · obtain rfl : m = gs.length := by omega
    have hlt' : ¬ (gs.length : Int) < (gs.length : Int) := by omega
    clear hnext hlt
    rw [idx_none hI]
    refine wG Y59_BD hlt' ?_
    exact Fin.oneSP (And.intro (@exL_id) (And.intro (@vaL_id) (And.intro (@exV_id) (And.intro (@vaV_id) hcs))))

theorem c_containsV1 {gs : List Va} {F : FuncId} {cs : List V} (p : Va → Bool) (hcs : V.idsL (ltB 1) cs = true) (hr : V.renL (gOf [0]) cs = cs) (hl : gs.length ≤ 4194304) (hF : ∀ t ∈ gs, DC Tryz.prog F [vaV t, .pt 0 0] [.box cs] (.im (.bool (p t))) [.box cs]) :
    DC Tryz.prog 34 [.sl (gs.map vaV) .ro, .fn (.func F) [] [.pt 0 0]] [.box cs] (.im (.bool (gs.any p))) [.box cs] := by
  have h := c_indexV1 p hcs hr hl hF
  refine DC.enter 9 Tryz.func34 rfl (by decide) rfl rfl (s := [(0, .sl (gs.map vaV) .ro), (1, .fn (.func F) [] [.pt 0 0])]) (by rfl) ?_
  refine wG True.intro True.intro ?_
  refine AR.callQP [0] h True.intro (And.intro (@exL_id) (And.intro (@vaL_id) (And.intro (@exV_id) (And.intro (@vaV_id) hcs)))) (And.intro (@exV_ren) (And.intro (@exL_ren) (And.intro (@vaV_ren) (And.intro (@vaL_ren) hr)))) ?_
  refine goG True.intro True.intro ?_
  rw [idx_any]
  refine wG True.intro True.intro ?_
  exact Fin.oneSP (And.intro (@exL_id) (And.intro (@vaL_id) (And.intro (@exV_id) (And.intro (@vaV_id) hcs))))
end Go.Proofs.YtlbfgnpadggbgaaGreatDoor
namespace Go.Proofs.YtlbfgnpadggbgaaGreatDoor
set_option linter.unusedSimpArgs false
set_option linter.unusedVariables false
set_option linter.unnecessarySimpa false
open Go.RowKit
theorem any_not {α : Type} (l : List α) (p : α → Bool) : (!l.any fun x => !p x) = l.all p := by
  induction l with
  | nil => rfl
  | cons x l ih => simp only [List.any_cons, List.all_cons, Bool.not_or, Bool.not_not, ih]
theorem Y29_BE : type_of% (And.intro @F_ag_25 (And.intro @F_ag_3 (And.intro @F_sz_25 (@F_sz_3)))) := And.intro @F_ag_25 (And.intro @F_ag_3 (And.intro @F_sz_25 (@F_sz_3)))
theorem c_eshallow1 {x : Ex} {n : Int} (hn : I64 n) (hn1 : 1 ≤ n) {r : Bool} (h : PC Tryz.prog 14 [exV x, (.im (.int .i64 (n - 1)))] (.im (.bool (r)))) : DC Tryz.prog 29 [exV x, .pt 0 0] [.box [(.im (.int .i64 (n)))]] (.im (.bool (!r))) [.box [(.im (.int .i64 (n)))]] := by
  unfold I64 at hn
  have hw : IntKind.i64.wrap (n - 1) = n - 1 := wrap_in (by omega)
  refine DC.enter 9 Tryz.func29 rfl (by decide) rfl rfl (s := [(0, exV x), (1, .pt 0 0)]) (by rfl) ?_
  simp only [exV_eq]
  refine wG Y29_BE hw ?_
  refine AR.callP h @exV_eq (And.intro (@exL_id) (And.intro (@vaL_id) (And.intro (@exV_id) @vaV_id))) ?_
  refine goG Y29_BE True.intro ?_
  refine wG Y29_BE True.intro ?_
  exact Fin.oneSP (And.intro (@exL_id) (And.intro (@vaL_id) (And.intro (@exV_id) @vaV_id)))
theorem Y14_BE : type_of% (And.intro @F_ag_23 (And.intro @F_ag_3 (And.intro @F_fl_25_4 (And.intro @F_sz_23 (@F_sz_3))))) := And.intro @F_ag_23 (And.intro @F_ag_3 (And.intro @F_fl_25_4 (And.intro @F_sz_23 (@F_sz_3))))
theorem c_eshallow : ∀ (t : Ex), fitE t → ∀ (n : Int), I64 n → PC Tryz.prog 14 [exV t, (.im (.int .i64 (n)))] (.im (.bool (esh t n))) := by
  refine Ex.induct fun o k s w l hE => ?_
  intro hfit n hn
  obtain ⟨hl1, hfE⟩ := fitE_mk hfit
  have hn' := hn
  unfold I64 at hn'
  refine PC.enter 14 Tryz.func14 rfl (by decide) rfl rfl (s := [(0, exV (.mk o k s w l)), (1, (.im (.int .i64 (n))))]) (by rfl) ?_
  simp only [exV_mk]
  rw [esh_mk]
  by_cases h1 : n ≥ 1
  · have e : decide (1 ≤ n) = true := by simp; omega
    have hc : ∀ t ∈ l, DC Tryz.prog 29 [exV t, .pt 0 0] [.box [(.im (.int .i64 (n)))]] (.im (.bool (!esh t (n - 1)))) [.box [(.im (.int .i64 (n)))]] := fun t ht => c_eshallow1 hn (by omega) (hE t ht (hfE t ht) (n - 1) (by unfold I64; omega))
    have hcc := c_containsE1 (gs := l) (F := 29) (cs := [(.im (.int .i64 (n)))]) (fun t => !esh t (n - 1)) (by simp [V.idsL, V.ids]) (by simp only [SR]) hl1 hc
    rw [e, Bool.true_and]
    refine wG Y14_BE h1 ?_
    refine AR.callQP [1] hcc True.intro (And.intro (@exL_id) (And.intro (@vaL_id) (And.intro (@exV_id) @vaV_id))) (And.intro (@exV_ren) (And.intro (@exL_ren) (And.intro (@vaV_ren) @vaL_ren))) ?_
    refine goG Y14_BE True.intro ?_
    rw [any_not]
    refine wG Y14_BE True.intro ?_
    exact Fin.oneP
  · have e : decide (1 ≤ n) = false := by simp; omega
    rw [e, Bool.false_and]
    refine wG Y14_BE h1 ?_
    exact Fin.oneP
theorem Y18_BE : type_of% (And.intro @F_ag_23 (And.intro @F_ag_25 (And.intro @F_el_23 (And.intro @F_fl_25_4 (And.intro @F_sz_23 (@F_sz_25)))))) := And.intro @F_ag_23 (And.intro @F_ag_25 (And.intro @F_el_23 (And.intro @F_fl_25_4 (And.intro @F_sz_23 (@F_sz_25)))))
theorem c_edeep : ∀ (t : Ex), fitE t → ∀ (n : Int), I64 n → PC Tryz.prog 18 [exV t, (.im (.int .i64 (n)))] (.im (.bool (!esh t n))) := by
  refine Ex.induct fun o k s w l hE => ?_
  intro hfit n hn
  obtain ⟨hl1, hfE⟩ := fitE_mk hfit
  have hn' := hn
  unfold I64 at hn'
  refine PC.enter 23 Tryz.func18 rfl (by decide) rfl rfl (s := [(0, exV (.mk o k s w l)), (1, (.im (.int .i64 (n))))]) (by rfl) ?_
  simp only [exV_mk]
  rw [esh_mk]
  by_cases h1 : n ≤ 0
  · have e : decide (1 ≤ n) = false := by simp; omega
    rw [e, Bool.false_and]
    refine wG Y18_BE h1 ?_
    exact Fin.oneP
  have e : decide (1 ≤ n) = true := by simp; omega
  have hn1 : IntKind.i64.wrap (n - 1) = n - 1 := wrap_in (by omega)
  refine wG Y18_BE h1 ?_
  refine AWp.loop ?_
  refine ALp.cutP 1 [(1, (.im (.int .i64 (n)))), (2, .pt 0 0), (4, .im (.bool false)), (5, (.im (.int .i64 ((((0 : Nat)) : Int)))))] [.box [.im (.int .i64 o), .im (.int .u32 k), .im (.string s), .im (.int .i64 w), .sl (l.map exV) .ro]] (And.intro (@exL_id) (And.intro (@vaL_id) (And.intro (@exV_id) @vaV_id))) ?_
  refine ALp.upto l.length (AllTo (fun t => esh t (n - 1)) l) (fun m => ⟨dn 23 [(1, (.im (.int .i64 (n)))), (2, .pt 0 0), (4, .im (.bool false)), (5, (.im (.int .i64 ((((m : Nat)) : Int)))))], ofl [.box [.im (.int .i64 o), .im (.int .u32 k), .im (.string s), .im (.int .i64 w), .sl (l.map exV) .ro]]⟩) ?_ 0 (Nat.zero_le _) (AllTo.zero _ _)
  intro m hm hI hnext
  by_cases hlt : m < l.length
  · have hlt' : (m : Int) < (l.length : Int) := by omega
    have hg := get_some hlt
    have hm1 := wrap_succ hlt (by omega)
    have hc := hE l[m] (List.getElem_mem hlt) (hfE _ (List.getElem_mem hlt)) (n - 1) (by unfold I64; omega)
    refine wG Y18_BE (And.intro (@exV_firm) (And.intro (@exV_strip) (And.intro (@exV_live) (And.intro (@exV_size) (And.intro (@exV_isAg) (And.intro (@exV_cells) (And.intro (@vaV_firm) (And.intro (@vaV_strip) (And.intro (@vaV_live) (And.intro (@vaV_size) (And.intro (@vaV_isAg) (And.intro (@vaV_cells) (And.intro (@List.getElem?_map.{0, 0}) (And.intro (@Int.natCast_nonneg) (And.intro hlt' (And.intro hg (And.intro hn1 hm1))))))))))))))))) ?_
    refine AR.callP hc @exV_eq (And.intro (@exL_id) (And.intro (@vaL_id) (And.intro (@exV_id) @vaV_id))) ?_
    by_cases hsh : esh l[m] (n - 1) = true
    · refine goG Y18_BE hsh ?_
      refine wG Y18_BE hm1 ?_
      refine ALp.cutP 1 [(1, (.im (.int .i64 (n)))), (2, .pt 0 0), (4, .im (.bool false)), (5, (.im (.int .i64 ((((m + 1 : Nat)) : Int)))))] [.box [.im (.int .i64 o), .im (.int .u32 k), .im (.string s), .im (.int .i64 w), .sl (l.map exV) .ro]] (And.intro (@exL_id) (And.intro (@vaL_id) (And.intro (@exV_id) @vaV_id))) ?_
      exact hnext (m + 1) (by omega) (by omega) (hI.succ hlt hsh)
    · have hsh : esh l[m] (n - 1) = false := by simpa using hsh
      refine goG Y18_BE hsh ?_
      refine wG Y18_BE hm1 ?_
      rw [not_all_of hlt hsh, Bool.and_false]
      exact Fin.oneP
  · have hall := hI.done (by omega)
    have hlt' : ¬ (m : Int) < (l.length : Int) := by omega
    clear hnext
    rw [hall, e]
    refine wG Y18_BE hlt' ?_
    exact Fin.oneP
end Go.Proofs.YtlbfgnpadggbgaaGreatDoor
