/- Walks: the order of types. -/
import Derived.Test.YtfggemopnlffeaaHw
import Derived.Test.YtfggemopnlffeaaB5
import Derived.Test.YtfggemopnlffeaaLe
import Derived.Test.YtfggemopnlffeaaPm
namespace Go.Proofs.Ytfggemopnlffeaa
set_option linter.unusedSimpArgs false
set_option linter.unusedVariables false
set_option linter.unnecessarySimpa false
open Go.RowKit
/-- The place of the first that fits, or -1. -/
def idx {α : Type} (l : List α) (p : α → Bool) : Int := match l.findIdx? p with
  | some k => k
  | none => -1
theorem idx_none {α : Type} {l : List α} {p : α → Bool} (h : AllTo (fun x => !p x) l l.length) : idx l p = -1 := by
  unfold idx
  have : l.findIdx? p = none := by
    rw [List.findIdx?_eq_none_iff]
    intro x hx
    obtain ⟨j, hj, rfl⟩ := List.getElem_of_mem hx
    simpa using h j hj hj
  rw [this]
theorem idx_some {α : Type} {l : List α} {p : α → Bool} {m : Nat} (hm : m < l.length) (h : AllTo (fun x => !p x) l m) (hp : p l[m] = true) : idx l p = m := by
  unfold idx
  have : l.findIdx? p = some m := by
    rw [List.findIdx?_eq_some_iff_getElem]
    exact ⟨hm, hp, fun j hj => by simpa using h j (by omega) hj⟩
  rw [this]
theorem idx_any {α : Type} (l : List α) (p : α → Bool) : decide (idx l p ≥ 0) = l.any p := by
  unfold idx
  cases h : l.findIdx? p with
  | none =>
    rw [List.findIdx?_eq_none_iff] at h
    have : l.any p = false := by simpa using h
    rw [this]
    decide
  | some k =>
    rw [List.findIdx?_eq_some_iff_getElem] at h
    obtain ⟨hk, hp, _⟩ := h
    have : l.any p = true := List.any_eq_true.2 ⟨_, List.getElem_mem hk, hp⟩
    rw [this]
    simp
theorem c_indexF {gs : List Ty} {F : FuncId} {cs : List V} (p : Ty → Bool) (hcs : V.idsL (ltB 1) cs = true) (hr : V.renL (gOf [0]) cs = cs) (hl : gs.length ≤ 4194304) (hF : ∀ t ∈ gs, DC Try.prog F [fdV t, .pt 0 0] [.box cs] (.im (.bool (p t))) [.box cs]) :
    DC Try.prog 112 [.sl (gs.map fdV) .ro, .fn (.func F) [] [.pt 0 0]] [.box cs] (.im (.int .i64 (idx gs p))) [.box cs] := by
  refine DC.enter 19 Try.func112 rfl (by decide) rfl rfl (s := [(0, .sl (gs.map fdV) .ro), (1, .fn (.func F) [] [.pt 0 0])]) (by rfl) ?_
  refine w112 True.intro ?_
  refine AWp.loop ?_
  refine ALp.cutP 1 [(0, .sl (gs.map fdV) .ro), (1, .fn (.func F) [] [.pt 0 0]), (7, (.im (.int .i64 (gs.length)))), (8, (.im (.int .i64 ((((0 : Nat)) : Int)))))] [.box cs] hcs ?_
  refine ALp.upto gs.length (AllTo (fun x => !p x) gs) (fun m => ⟨dn 19 [(0, .sl (gs.map fdV) .ro), (1, .fn (.func F) [] [.pt 0 0]), (7, (.im (.int .i64 (gs.length)))), (8, (.im (.int .i64 ((((m : Nat)) : Int)))))], ofl [.box cs]⟩) ?_ 0 (Nat.zero_le _) (AllTo.zero _ _)
  intro m hm hI hnext
  by_cases hlt : m < gs.length
  · have hlt' : (m : Int) < (gs.length : Int) := by omega
    have hg := get_some hlt
    have hm1 := wrap_succ hlt (by omega)
    have hc := hF gs[m] (List.getElem_mem hlt)
    refine w112 (And.intro hlt' (And.intro hg hm1)) ?_
    by_cases b : p gs[m] = true
    · rw [b] at hc
      refine AR.callQP [0] hc @fdV_eq hcs hr ?_
      refine go112 True.intro ?_
      refine w112 True.intro ?_
      rw [idx_some hlt hI b]
      exact Fin.oneSP hcs
    · have b : p gs[m] = false := by simpa using b
      rw [b] at hc
      refine AR.callQP [0] hc @fdV_eq hcs hr ?_
      refine go112 True.intro ?_
      refine w112 hm1 ?_
      refine ALp.cutP 1 [(0, .sl (gs.map fdV) .ro), (1, .fn (.func F) [] [.pt 0 0]), (7, (.im (.int .i64 (gs.length)))), (8, (.im (.int .i64 ((((m + 1 : Nat)) : Int)))))] [.box cs] hcs ?_
      exact hnext (m + 1) (by omega) (by omega) (hI.succ hlt (by simp [b]))
  · obtain rfl : m = gs.length := by omega
    have hlt' : ¬ (gs.length : Int) < (gs.length : Int) := by omega
    clear hnext hlt
    rw [idx_none hI]
    refine w112 hlt' ?_
    exact Fin.oneSP hcs
theorem c_containsF {gs : List Ty} {F : FuncId} {cs : List V} (p : Ty → Bool) (hcs : V.idsL (ltB 1) cs = true) (hr : V.renL (gOf [0]) cs = cs) (hl : gs.length ≤ 4194304) (hF : ∀ t ∈ gs, DC Try.prog F [fdV t, .pt 0 0] [.box cs] (.im (.bool (p t))) [.box cs]) :
    DC Try.prog 83 [.sl (gs.map fdV) .ro, .fn (.func F) [] [.pt 0 0]] [.box cs] (.im (.bool (gs.any p))) [.box cs] := by
  have h := c_indexF p hcs hr hl hF
  refine DC.enter 9 Try.func83 rfl (by decide) rfl rfl (s := [(0, .sl (gs.map fdV) .ro), (1, .fn (.func F) [] [.pt 0 0])]) (by rfl) ?_
  refine w83 True.intro ?_
  refine AR.callQP [0] h True.intro hcs hr ?_
  refine go83 True.intro ?_
  rw [idx_any]
  refine w83 True.intro ?_
  exact Fin.oneSP hcs
theorem c_sub1 {x g : Ty} (h : PC Try.prog 48 [tyV x, tyV g] (.im (.bool (subT x g)))) : DC Try.prog 84 [fdV x, .pt 0 0] [.box [.im (.int .i64 g.off), .im (.int .i64 g.kind), .im (.int .i64 g.size), .im (.int .i64 g.count), .sl (g.elem.map tyV) .ro, .sl (g.fields.map fdV) .ro]] (.im (.bool (x.off == g.off && subT x g))) [.box [.im (.int .i64 g.off), .im (.int .i64 g.kind), .im (.int .i64 g.size), .im (.int .i64 g.count), .sl (g.elem.map tyV) .ro, .sl (g.fields.map fdV) .ro]] := by
  refine DC.enter 16 Try.func84 rfl (by decide) rfl rfl (s := [(0, fdV x), (1, .pt 0 0)]) (by rfl) ?_
  simp only [fdV_eq]
  by_cases b : x.off = g.off
  · have e : (x.off == g.off) = true := by simpa using b
    rw [e, Bool.true_and]
    refine w84 b ?_
    refine AR.callP h @tyV_eq True.intro ?_
    refine go84 True.intro ?_
    refine w84 True.intro ?_
    exact Fin.oneSP True.intro
  · have e : (x.off == g.off) = false := by simpa using b
    rw [e, Bool.false_and]
    refine w84 b ?_
    exact Fin.oneSP True.intro
end Go.Proofs.Ytfggemopnlffeaa

