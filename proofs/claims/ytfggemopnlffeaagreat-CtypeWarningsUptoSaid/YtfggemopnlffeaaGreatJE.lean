import Derived.Test.YtfggemopnlffeaaGreatHv
import Derived.Test.YtfggemopnlffeaaGreatJB
import Derived.Test.YtfggemopnlffeaaGreatLe
namespace Go.Proofs.YtfggemopnlffeaaGreat
set_option linter.unusedSimpArgs false
set_option linter.unusedVariables false
set_option linter.unnecessarySimpa false
open Go.RowKit
theorem Y117_BD : type_of% (AI @F_ag_48 (AI @F_el_46 (@F_sz_48))) := AI @F_ag_48 (AI @F_el_46 (@F_sz_48))
theorem G117_BD : type_of% (AI (@exV_firm) (AI (@exV_strip) (AI (@exV_live) (AI (@exV_size) (AI (@exV_isAg) (AI (@exV_cells) (AI (@vaV_firm) (AI (@vaV_strip) (AI (@vaV_live) (AI (@vaV_size) (AI (@vaV_isAg) (AI (@vaV_cells) (AI (@List.getElem?_map.{0, 0}) @Int.natCast_nonneg))))))))))))) := (AI (@exV_firm) (AI (@exV_strip) (AI (@exV_live) (AI (@exV_size) (AI (@exV_isAg) (AI (@exV_cells) (AI (@vaV_firm) (AI (@vaV_strip) (AI (@vaV_live) (AI (@vaV_size) (AI (@vaV_isAg) (AI (@vaV_cells) (AI (@List.getElem?_map.{0, 0}) @Int.natCast_nonneg)))))))))))))
theorem c_indexE0 {gs : List Ex} {F : FuncId} (p : Ex → Bool) (hl : gs.length ≤ 4194304) (hF : ∀ t ∈ gs, PC Tryz.prog F [exV t] (.im (.bool (p t)))) :
    PC Tryz.prog 117 [.sl (gs.map exV) .ro, .fn (.func F) [] []] (.im (.int .i64 (idx gs p))) := by
  refine PC.enter 19 Tryz.func117 rfl (by decide) rfl rfl (s := [(0, .sl (gs.map exV) .ro), (1, .fn (.func F) [] [])]) (by rfl) ?_
  refine wG Y117_BD @G117_BD ?_
  refine AWp.loop ?_
  refine ALp.cutP 0 [(0, .sl (gs.map exV) .ro), (1, .fn (.func F) [] []), (7, (.im (.int .i64 (gs.length)))), (8, (.im (.int .i64 ((((0 : Nat)) : Int)))))] [] (AI (@exL_id) (AI (@vaL_id) (AI (@exV_id) @vaV_id))) ?_
  refine ALp.upto gs.length (AllTo (fun x => !p x) gs) (fun m => ⟨dn 19 [(0, .sl (gs.map exV) .ro), (1, .fn (.func F) [] []), (7, (.im (.int .i64 (gs.length)))), (8, (.im (.int .i64 ((((m : Nat)) : Int)))))], ofl []⟩) ?_ 0 (Nat.zero_le _) (AllTo.zero _ _)
  intro m hm hI hnext
  by_cases hlt : m < gs.length
  · have hlt' : (m : Int) < (gs.length : Int) := by omega
    have hg := get_some hlt
    have hm1 := wrap_succ hlt (by omega)
    have hc := hF gs[m] (List.getElem_mem hlt)
    refine wG Y117_BD (AI (@G117_BD) (AI hlt' (AI hg hm1))) ?_
    by_cases b : p gs[m] = true
    · rw [b] at hc
      refine AR.callP hc @exV_eq (AI (@exL_id) (AI (@vaL_id) (AI (@exV_id) @vaV_id))) ?_
      refine goG Y117_BD @G117_BD ?_
      refine wG Y117_BD @G117_BD ?_
      rw [idx_some hlt hI b]
      exact Fin.oneP
    · have b : p gs[m] = false := by simpa using b
      rw [b] at hc
      refine AR.callP hc @exV_eq (AI (@exL_id) (AI (@vaL_id) (AI (@exV_id) @vaV_id))) ?_
      refine goG Y117_BD @G117_BD ?_
      refine wG Y117_BD (AI (@G117_BD) hm1) ?_
      refine ALp.cutP 0 [(0, .sl (gs.map exV) .ro), (1, .fn (.func F) [] []), (7, (.im (.int .i64 (gs.length)))), (8, (.im (.int .i64 ((((m + 1 : Nat)) : Int)))))] [] (AI (@exL_id) (AI (@vaL_id) (AI (@exV_id) @vaV_id))) ?_
      exact hnext (m + 1) (by omega) (by omega) (hI.succ hlt (by simp [b]))
  · obtain rfl : m = gs.length := by omega
    have hlt' : ¬ (gs.length : Int) < (gs.length : Int) := by omega
    clear hnext hlt
    rw [idx_none hI]
    refine wG Y117_BD (AI (@G117_BD) hlt') ?_
    exact Fin.oneP
theorem c_containsE0 {gs : List Ex} {F : FuncId} (p : Ex → Bool) (hl : gs.length ≤ 4194304) (hF : ∀ t ∈ gs, PC Tryz.prog F [exV t] (.im (.bool (p t)))) :
    PC Tryz.prog 86 [.sl (gs.map exV) .ro, .fn (.func F) [] []] (.im (.bool (gs.any p))) := by
  have h := c_indexE0 p hl hF
  refine PC.enter 9 Tryz.func86 rfl (by decide) rfl rfl (s := [(0, .sl (gs.map exV) .ro), (1, .fn (.func F) [] [])]) (by rfl) ?_
  refine wG True.intro True.intro ?_
  refine AR.callP h True.intro (AI (@exL_id) (AI (@vaL_id) (AI (@exV_id) @vaV_id))) ?_
  refine goG True.intro True.intro ?_
  rw [idx_any]
  refine wG True.intro True.intro ?_
  exact Fin.oneP
theorem c_indexE1 {gs : List Ex} {F : FuncId} {cs : List V} (p : Ex → Bool) (hcs : V.idsL (ltB 1) cs = true) (hr : V.renL (gOf [0]) cs = cs) (hl : gs.length ≤ 4194304) (hF : ∀ t ∈ gs, DC Tryz.prog F [exV t, .pt 0 0] [.box cs] (.im (.bool (p t))) [.box cs]) :
    DC Tryz.prog 117 [.sl (gs.map exV) .ro, .fn (.func F) [] [.pt 0 0]] [.box cs] (.im (.int .i64 (idx gs p))) [.box cs] := by
  refine DC.enter 19 Tryz.func117 rfl (by decide) rfl rfl (s := [(0, .sl (gs.map exV) .ro), (1, .fn (.func F) [] [.pt 0 0])]) (by rfl) ?_
  refine wG Y117_BD @G117_BD ?_
  refine AWp.loop ?_
  refine ALp.cutP 1 [(0, .sl (gs.map exV) .ro), (1, .fn (.func F) [] [.pt 0 0]), (7, (.im (.int .i64 (gs.length)))), (8, (.im (.int .i64 ((((0 : Nat)) : Int)))))] [.box cs] (AI (@exL_id) (AI (@vaL_id) (AI (@exV_id) (AI (@vaV_id) hcs)))) ?_
  refine ALp.upto gs.length (AllTo (fun x => !p x) gs) (fun m => ⟨dn 19 [(0, .sl (gs.map exV) .ro), (1, .fn (.func F) [] [.pt 0 0]), (7, (.im (.int .i64 (gs.length)))), (8, (.im (.int .i64 ((((m : Nat)) : Int)))))], ofl [.box cs]⟩) ?_ 0 (Nat.zero_le _) (AllTo.zero _ _)
  intro m hm hI hnext
  by_cases hlt : m < gs.length
  · have hlt' : (m : Int) < (gs.length : Int) := by omega
    have hg := get_some hlt
    have hm1 := wrap_succ hlt (by omega)
    have hc := hF gs[m] (List.getElem_mem hlt)
    refine wG Y117_BD (AI (@G117_BD) (AI hlt' (AI hg hm1))) ?_
    by_cases b : p gs[m] = true
    · rw [b] at hc
      refine AR.callQP [0] hc @exV_eq (AI (@exL_id) (AI (@vaL_id) (AI (@exV_id) (AI (@vaV_id) hcs)))) (AI (@exV_ren) (AI (@exL_ren) (AI (@vaV_ren) (AI (@vaL_ren) hr)))) ?_
      refine goG Y117_BD @G117_BD ?_
      refine wG Y117_BD @G117_BD ?_
      rw [idx_some hlt hI b]
      exact Fin.oneSP (AI (@exL_id) (AI (@vaL_id) (AI (@exV_id) (AI (@vaV_id) hcs))))
    · have b : p gs[m] = false := by simpa using b
      rw [b] at hc
      refine AR.callQP [0] hc @exV_eq (AI (@exL_id) (AI (@vaL_id) (AI (@exV_id) (AI (@vaV_id) hcs)))) (AI (@exV_ren) (AI (@exL_ren) (AI (@vaV_ren) (AI (@vaL_ren) hr)))) ?_
      refine goG Y117_BD @G117_BD ?_
      refine wG Y117_BD (AI (@G117_BD) hm1) ?_
      refine ALp.cutP 1 [(0, .sl (gs.map exV) .ro), (1, .fn (.func F) [] [.pt 0 0]), (7, (.im (.int .i64 (gs.length)))), (8, (.im (.int .i64 ((((m + 1 : Nat)) : Int)))))] [.box cs] (AI (@exL_id) (AI (@vaL_id) (AI (@exV_id) (AI (@vaV_id) hcs)))) ?_
      exact hnext (m + 1) (by omega) (by omega) (hI.succ hlt (by simp [b]))
  · obtain rfl : m = gs.length := by omega
    have hlt' : ¬ (gs.length : Int) < (gs.length : Int) := by omega
    clear hnext hlt
    rw [idx_none hI]
    refine wG Y117_BD (AI (@G117_BD) hlt') ?_
    exact Fin.oneSP (AI (@exL_id) (AI (@vaL_id) (AI (@exV_id) (AI (@vaV_id) hcs))))
theorem c_containsE1 {gs : List Ex} {F : FuncId} {cs : List V} (p : Ex → Bool) (hcs : V.idsL (ltB 1) cs = true) (hr : V.renL (gOf [0]) cs = cs) (hl : gs.length ≤ 4194304) (hF : ∀ t ∈ gs, DC Tryz.prog F [exV t, .pt 0 0] [.box cs] (.im (.bool (p t))) [.box cs]) :
    DC Tryz.prog 86 [.sl (gs.map exV) .ro, .fn (.func F) [] [.pt 0 0]] [.box cs] (.im (.bool (gs.any p))) [.box cs] := by
  have h := c_indexE1 p hcs hr hl hF
  refine DC.enter 9 Tryz.func86 rfl (by decide) rfl rfl (s := [(0, .sl (gs.map exV) .ro), (1, .fn (.func F) [] [.pt 0 0])]) (by rfl) ?_
  refine wG True.intro True.intro ?_
  refine AR.callQP [0] h True.intro (AI (@exL_id) (AI (@vaL_id) (AI (@exV_id) (AI (@vaV_id) hcs)))) (AI (@exV_ren) (AI (@exL_ren) (AI (@vaV_ren) (AI (@vaL_ren) hr)))) ?_
  refine goG True.intro True.intro ?_
  rw [idx_any]
  refine wG True.intro True.intro ?_
  exact Fin.oneSP (AI (@exL_id) (AI (@vaL_id) (AI (@exV_id) (AI (@vaV_id) hcs))))
theorem c_indexE2 {gs : List Ex} {F : FuncId} {cs ds : List V} (p : Ex → Bool) (hcs : V.idsL (ltB 2) cs = true) (hr : V.renL (gOf [0, 1]) cs = cs) (hds : V.idsL (ltB 2) ds = true) (hrs : V.renL (gOf [0, 1]) ds = ds) (hl : gs.length ≤ 4194304) (hF : ∀ t ∈ gs, DC Tryz.prog F [exV t, .pt 0 0] [.box cs, .box ds] (.im (.bool (p t))) [.box cs, .box ds]) :
    DC Tryz.prog 117 [.sl (gs.map exV) .ro, .fn (.func F) [] [.pt 0 0]] [.box cs, .box ds] (.im (.int .i64 (idx gs p))) [.box cs, .box ds] := by
  refine DC.enter 19 Tryz.func117 rfl (by decide) rfl rfl (s := [(0, .sl (gs.map exV) .ro), (1, .fn (.func F) [] [.pt 0 0])]) (by rfl) ?_
  refine wG Y117_BD @G117_BD ?_
  refine AWp.loop ?_
  refine ALp.cutP 2 [(0, .sl (gs.map exV) .ro), (1, .fn (.func F) [] [.pt 0 0]), (7, (.im (.int .i64 (gs.length)))), (8, (.im (.int .i64 ((((0 : Nat)) : Int)))))] [.box cs, .box ds] (AI (@exL_id) (AI (@vaL_id) (AI (@exV_id) (AI (@vaV_id) (AI hcs hds))))) ?_
  refine ALp.upto gs.length (AllTo (fun x => !p x) gs) (fun m => ⟨dn 19 [(0, .sl (gs.map exV) .ro), (1, .fn (.func F) [] [.pt 0 0]), (7, (.im (.int .i64 (gs.length)))), (8, (.im (.int .i64 ((((m : Nat)) : Int)))))], ofl [.box cs, .box ds]⟩) ?_ 0 (Nat.zero_le _) (AllTo.zero _ _)
  intro m hm hI hnext
  by_cases hlt : m < gs.length
  · have hlt' : (m : Int) < (gs.length : Int) := by omega
    have hg := get_some hlt
    have hm1 := wrap_succ hlt (by omega)
    have hc := hF gs[m] (List.getElem_mem hlt)
    refine wG Y117_BD (AI (@G117_BD) (AI hlt' (AI hg hm1))) ?_
    by_cases b : p gs[m] = true
    · rw [b] at hc
      refine AR.callQP [0, 1] hc @exV_eq (AI (@exL_id) (AI (@vaL_id) (AI (@exV_id) (AI (@vaV_id) (AI hcs hds))))) (AI (@exV_ren) (AI (@exL_ren) (AI (@vaV_ren) (AI (@vaL_ren) (AI hr hrs))))) ?_
      refine goG Y117_BD @G117_BD ?_
      refine wG Y117_BD @G117_BD ?_
      rw [idx_some hlt hI b]
      exact Fin.oneSP (AI (@exL_id) (AI (@vaL_id) (AI (@exV_id) (AI (@vaV_id) (AI hcs hds)))))
    · have b : p gs[m] = false := by simpa using b
      rw [b] at hc
      refine AR.callQP [0, 1] hc @exV_eq (AI (@exL_id) (AI (@vaL_id) (AI (@exV_id) (AI (@vaV_id) (AI hcs hds))))) (AI (@exV_ren) (AI (@exL_ren) (AI (@vaV_ren) (AI (@vaL_ren) (AI hr hrs))))) ?_
      refine goG Y117_BD @G117_BD ?_
      refine wG Y117_BD (AI (@G117_BD) hm1) ?_
      refine ALp.cutP 2 [(0, .sl (gs.map exV) .ro), (1, .fn (.func F) [] [.pt 0 0]), (7, (.im (.int .i64 (gs.length)))), (8, (.im (.int .i64 ((((m + 1 : Nat)) : Int)))))] [.box cs, .box ds] (AI (@exL_id) (AI (@vaL_id) (AI (@exV_id) (AI (@vaV_id) (AI hcs hds))))) ?_
      exact hnext (m + 1) (by omega) (by omega) (hI.succ hlt (by simp [b]))
  · obtain rfl : m = gs.length := by omega
    have hlt' : ¬ (gs.length : Int) < (gs.length : Int) := by omega
    clear hnext hlt
    rw [idx_none hI]
    refine wG Y117_BD (AI (@G117_BD) hlt') ?_
    exact Fin.oneSP (AI (@exL_id) (AI (@vaL_id) (AI (@exV_id) (AI (@vaV_id) (AI hcs hds)))))
theorem c_containsE2 {gs : List Ex} {F : FuncId} {cs ds : List V} (p : Ex → Bool) (hcs : V.idsL (ltB 2) cs = true) (hr : V.renL (gOf [0, 1]) cs = cs) (hds : V.idsL (ltB 2) ds = true) (hrs : V.renL (gOf [0, 1]) ds = ds) (hl : gs.length ≤ 4194304) (hF : ∀ t ∈ gs, DC Tryz.prog F [exV t, .pt 0 0] [.box cs, .box ds] (.im (.bool (p t))) [.box cs, .box ds]) :
    DC Tryz.prog 86 [.sl (gs.map exV) .ro, .fn (.func F) [] [.pt 0 0]] [.box cs, .box ds] (.im (.bool (gs.any p))) [.box cs, .box ds] := by
  have h := c_indexE2 p hcs hr hds hrs hl hF
  refine DC.enter 9 Tryz.func86 rfl (by decide) rfl rfl (s := [(0, .sl (gs.map exV) .ro), (1, .fn (.func F) [] [.pt 0 0])]) (by rfl) ?_
  refine wG True.intro True.intro ?_
  refine AR.callQP [0, 1] h True.intro (AI (@exL_id) (AI (@vaL_id) (AI (@exV_id) (AI (@vaV_id) (AI hcs hds))))) (AI (@exV_ren) (AI (@exL_ren) (AI (@vaV_ren) (AI (@vaL_ren) (AI hr hrs))))) ?_
  refine goG True.intro True.intro ?_
  rw [idx_any]
  refine wG True.intro True.intro ?_
  exact Fin.oneSP (AI (@exL_id) (AI (@vaL_id) (AI (@exV_id) (AI (@vaV_id) (AI hcs hds)))))
theorem Y118_BD : type_of% (AI @F_ag_44 (AI @F_el_22 (@F_sz_44))) := AI @F_ag_44 (AI @F_el_22 (@F_sz_44))
theorem G118_BD : type_of% (AI (@exV_firm) (AI (@exV_strip) (AI (@exV_live) (AI (@exV_size) (AI (@exV_isAg) (AI (@exV_cells) (AI (@vaV_firm) (AI (@vaV_strip) (AI (@vaV_live) (AI (@vaV_size) (AI (@vaV_isAg) (AI (@vaV_cells) (AI (@List.getElem?_map.{0, 0}) @Int.natCast_nonneg))))))))))))) := (AI (@exV_firm) (AI (@exV_strip) (AI (@exV_live) (AI (@exV_size) (AI (@exV_isAg) (AI (@exV_cells) (AI (@vaV_firm) (AI (@vaV_strip) (AI (@vaV_live) (AI (@vaV_size) (AI (@vaV_isAg) (AI (@vaV_cells) (AI (@List.getElem?_map.{0, 0}) @Int.natCast_nonneg)))))))))))))
theorem c_indexV1 {gs : List Va} {F : FuncId} {cs : List V} (p : Va → Bool) (hcs : V.idsL (ltB 1) cs = true) (hr : V.renL (gOf [0]) cs = cs) (hl : gs.length ≤ 4194304) (hF : ∀ t ∈ gs, DC Tryz.prog F [vaV t, .pt 0 0] [.box cs] (.im (.bool (p t))) [.box cs]) :
    DC Tryz.prog 118 [.sl (gs.map vaV) .ro, .fn (.func F) [] [.pt 0 0]] [.box cs] (.im (.int .i64 (idx gs p))) [.box cs] := by
  refine DC.enter 19 Tryz.func118 rfl (by decide) rfl rfl (s := [(0, .sl (gs.map vaV) .ro), (1, .fn (.func F) [] [.pt 0 0])]) (by rfl) ?_
  refine wG Y118_BD @G118_BD ?_
  refine AWp.loop ?_
  refine ALp.cutP 1 [(0, .sl (gs.map vaV) .ro), (1, .fn (.func F) [] [.pt 0 0]), (7, (.im (.int .i64 (gs.length)))), (8, (.im (.int .i64 ((((0 : Nat)) : Int)))))] [.box cs] (AI (@exL_id) (AI (@vaL_id) (AI (@exV_id) (AI (@vaV_id) hcs)))) ?_
  refine ALp.upto gs.length (AllTo (fun x => !p x) gs) (fun m => ⟨dn 19 [(0, .sl (gs.map vaV) .ro), (1, .fn (.func F) [] [.pt 0 0]), (7, (.im (.int .i64 (gs.length)))), (8, (.im (.int .i64 ((((m : Nat)) : Int)))))], ofl [.box cs]⟩) ?_ 0 (Nat.zero_le _) (AllTo.zero _ _)
  intro m hm hI hnext
  by_cases hlt : m < gs.length
  · have hlt' : (m : Int) < (gs.length : Int) := by omega
    have hg := get_some hlt
    have hm1 := wrap_succ hlt (by omega)
    have hc := hF gs[m] (List.getElem_mem hlt)
    refine wG Y118_BD (AI (@G118_BD) (AI hlt' (AI hg hm1))) ?_
    by_cases b : p gs[m] = true
    · rw [b] at hc
      refine AR.callQP [0] hc @vaV_eq (AI (@exL_id) (AI (@vaL_id) (AI (@exV_id) (AI (@vaV_id) hcs)))) (AI (@exV_ren) (AI (@exL_ren) (AI (@vaV_ren) (AI (@vaL_ren) hr)))) ?_
      refine goG Y118_BD @G118_BD ?_
      refine wG Y118_BD @G118_BD ?_
      rw [idx_some hlt hI b]
      exact Fin.oneSP (AI (@exL_id) (AI (@vaL_id) (AI (@exV_id) (AI (@vaV_id) hcs))))
    · have b : p gs[m] = false := by simpa using b
      rw [b] at hc
      refine AR.callQP [0] hc @vaV_eq (AI (@exL_id) (AI (@vaL_id) (AI (@exV_id) (AI (@vaV_id) hcs)))) (AI (@exV_ren) (AI (@exL_ren) (AI (@vaV_ren) (AI (@vaL_ren) hr)))) ?_
      refine goG Y118_BD @G118_BD ?_
      refine wG Y118_BD (AI (@G118_BD) hm1) ?_
      refine ALp.cutP 1 [(0, .sl (gs.map vaV) .ro), (1, .fn (.func F) [] [.pt 0 0]), (7, (.im (.int .i64 (gs.length)))), (8, (.im (.int .i64 ((((m + 1 : Nat)) : Int)))))] [.box cs] (AI (@exL_id) (AI (@vaL_id) (AI (@exV_id) (AI (@vaV_id) hcs)))) ?_
      exact hnext (m + 1) (by omega) (by omega) (hI.succ hlt (by simp [b]))
  · obtain rfl : m = gs.length := by omega
    have hlt' : ¬ (gs.length : Int) < (gs.length : Int) := by omega
    clear hnext hlt
    rw [idx_none hI]
    refine wG Y118_BD (AI (@G118_BD) hlt') ?_
    exact Fin.oneSP (AI (@exL_id) (AI (@vaL_id) (AI (@exV_id) (AI (@vaV_id) hcs))))
theorem c_containsV1 {gs : List Va} {F : FuncId} {cs : List V} (p : Va → Bool) (hcs : V.idsL (ltB 1) cs = true) (hr : V.renL (gOf [0]) cs = cs) (hl : gs.length ≤ 4194304) (hF : ∀ t ∈ gs, DC Tryz.prog F [vaV t, .pt 0 0] [.box cs] (.im (.bool (p t))) [.box cs]) :
    DC Tryz.prog 91 [.sl (gs.map vaV) .ro, .fn (.func F) [] [.pt 0 0]] [.box cs] (.im (.bool (gs.any p))) [.box cs] := by
  have h := c_indexV1 p hcs hr hl hF
  refine DC.enter 9 Tryz.func91 rfl (by decide) rfl rfl (s := [(0, .sl (gs.map vaV) .ro), (1, .fn (.func F) [] [.pt 0 0])]) (by rfl) ?_
  refine wG True.intro True.intro ?_
  refine AR.callQP [0] h True.intro (AI (@exL_id) (AI (@vaL_id) (AI (@exV_id) (AI (@vaV_id) hcs)))) (AI (@exV_ren) (AI (@exL_ren) (AI (@vaV_ren) (AI (@vaL_ren) hr)))) ?_
  refine goG True.intro True.intro ?_
  rw [idx_any]
  refine wG True.intro True.intro ?_
  exact Fin.oneSP (AI (@exL_id) (AI (@vaL_id) (AI (@exV_id) (AI (@vaV_id) hcs))))
end Go.Proofs.YtfggemopnlffeaaGreat
namespace Go.Proofs.YtfggemopnlffeaaGreat
set_option linter.unusedSimpArgs false
set_option linter.unusedVariables false
set_option linter.unnecessarySimpa false
open Go.RowKit
theorem any_not {α : Type} (l : List α) (p : α → Bool) : (!l.any fun x => !p x) = l.all p := by
  induction l with
  | nil => rfl
  | cons x l ih => simp only [List.any_cons, List.all_cons, Bool.not_or, Bool.not_not, ih]
theorem Y87_BE : type_of% (AI @F_ag_3 (AI @F_ag_48 (AI @F_sz_3 (@F_sz_48)))) := AI @F_ag_3 (AI @F_ag_48 (AI @F_sz_3 (@F_sz_48)))
theorem c_eshallow1 {x : Ex} {n : Int} (hn : I64 n) (hn1 : 1 ≤ n) {r : Bool} (h : PC Tryz.prog 52 [exV x, (.im (.int .i64 (n - 1)))] (.im (.bool (r)))) : DC Tryz.prog 87 [exV x, .pt 0 0] [.box [(.im (.int .i64 (n)))]] (.im (.bool (!r))) [.box [(.im (.int .i64 (n)))]] := by
  unfold I64 at hn
  have hw : IntKind.i64.wrap (n - 1) = n - 1 := wrap_in (by omega)
  refine DC.enter 9 Tryz.func87 rfl (by decide) rfl rfl (s := [(0, exV x), (1, .pt 0 0)]) (by rfl) ?_
  simp only [exV_eq]
  refine wG Y87_BE hw ?_
  refine AR.callP h @exV_eq (AI (@exL_id) (AI (@vaL_id) (AI (@exV_id) @vaV_id))) ?_
  refine goG Y87_BE True.intro ?_
  refine wG Y87_BE True.intro ?_
  exact Fin.oneSP (AI (@exL_id) (AI (@vaL_id) (AI (@exV_id) @vaV_id)))
theorem Y52_BE : type_of% (AI @F_ag_3 (AI @F_ag_46 (AI @F_fl_48_4 (AI @F_sz_3 (@F_sz_46))))) := AI @F_ag_3 (AI @F_ag_46 (AI @F_fl_48_4 (AI @F_sz_3 (@F_sz_46))))
theorem c_eshallow : ∀ (t : Ex), fitE t → ∀ (n : Int), I64 n → PC Tryz.prog 52 [exV t, (.im (.int .i64 (n)))] (.im (.bool (esh t n))) := by
  refine Ex.induct fun o k s w l hE => ?_
  intro hfit n hn
  obtain ⟨hl1, hfE⟩ := fitE_mk hfit
  have hn' := hn
  unfold I64 at hn'
  refine PC.enter 14 Tryz.func52 rfl (by decide) rfl rfl (s := [(0, exV (.mk o k s w l)), (1, (.im (.int .i64 (n))))]) (by rfl) ?_
  simp only [exV_mk]
  rw [esh_mk]
  by_cases h1 : n ≥ 1
  · have e : decide (1 ≤ n) = true := by simp; omega
    have hc : ∀ t ∈ l, DC Tryz.prog 87 [exV t, .pt 0 0] [.box [(.im (.int .i64 (n)))]] (.im (.bool (!esh t (n - 1)))) [.box [(.im (.int .i64 (n)))]] := fun t ht => c_eshallow1 hn (by omega) (hE t ht (hfE t ht) (n - 1) (by unfold I64; omega))
    have hcc := c_containsE1 (gs := l) (F := 87) (cs := [(.im (.int .i64 (n)))]) (fun t => !esh t (n - 1)) (by simp [V.idsL, V.ids]) (by simp only [SR]) hl1 hc
    rw [e, Bool.true_and]
    refine wG Y52_BE h1 ?_
    refine AR.callQP [1] hcc True.intro (AI (@exL_id) (AI (@vaL_id) (AI (@exV_id) @vaV_id))) (AI (@exV_ren) (AI (@exL_ren) (AI (@vaV_ren) @vaL_ren))) ?_
    refine goG Y52_BE True.intro ?_
    rw [any_not]
    refine wG Y52_BE True.intro ?_
    exact Fin.oneP
  · have e : decide (1 ≤ n) = false := by simp; omega
    rw [e, Bool.false_and]
    refine wG Y52_BE h1 ?_
    exact Fin.oneP
theorem Y111_BE : type_of% (AI @F_ag_46 (AI @F_ag_48 (AI @F_el_46 (AI @F_fl_48_4 (AI @F_sz_46 (@F_sz_48)))))) := AI @F_ag_46 (AI @F_ag_48 (AI @F_el_46 (AI @F_fl_48_4 (AI @F_sz_46 (@F_sz_48)))))
theorem G111_BE : type_of% (AI (@exV_firm) (AI (@exV_strip) (AI (@exV_live) (AI (@exV_size) (AI (@exV_isAg) (AI (@exV_cells) (AI (@vaV_firm) (AI (@vaV_strip) (AI (@vaV_live) (AI (@vaV_size) (AI (@vaV_isAg) (AI (@vaV_cells) (AI (@List.getElem?_map.{0, 0}) @Int.natCast_nonneg))))))))))))) := (AI (@exV_firm) (AI (@exV_strip) (AI (@exV_live) (AI (@exV_size) (AI (@exV_isAg) (AI (@exV_cells) (AI (@vaV_firm) (AI (@vaV_strip) (AI (@vaV_live) (AI (@vaV_size) (AI (@vaV_isAg) (AI (@vaV_cells) (AI (@List.getElem?_map.{0, 0}) @Int.natCast_nonneg)))))))))))))
theorem c_edeep : ∀ (t : Ex), fitE t → ∀ (n : Int), I64 n → PC Tryz.prog 111 [exV t, (.im (.int .i64 (n)))] (.im (.bool (!esh t n))) := by
  refine Ex.induct fun o k s w l hE => ?_
  intro hfit n hn
  obtain ⟨hl1, hfE⟩ := fitE_mk hfit
  have hn' := hn
  unfold I64 at hn'
  refine PC.enter 23 Tryz.func111 rfl (by decide) rfl rfl (s := [(0, exV (.mk o k s w l)), (1, (.im (.int .i64 (n))))]) (by rfl) ?_
  simp only [exV_mk]
  rw [esh_mk]
  by_cases h1 : n ≤ 0
  · have e : decide (1 ≤ n) = false := by simp; omega
    rw [e, Bool.false_and]
    refine wG Y111_BE (AI (@G111_BE) h1) ?_
    exact Fin.oneP
  have e : decide (1 ≤ n) = true := by simp; omega
  have hn1 : IntKind.i64.wrap (n - 1) = n - 1 := wrap_in (by omega)
  refine wG Y111_BE (AI (@G111_BE) h1) ?_
  refine AWp.loop ?_
  refine ALp.cutP 1 [(1, (.im (.int .i64 (n)))), (2, .pt 0 0), (4, .im (.bool false)), (5, (.im (.int .i64 ((((0 : Nat)) : Int)))))] [.box [.im (.int .i64 o), .im (.int .u32 k), .im (.string s), .im (.int .i64 w), .sl (l.map exV) .ro]] (AI (@exL_id) (AI (@vaL_id) (AI (@exV_id) @vaV_id))) ?_
  refine ALp.upto l.length (AllTo (fun t => esh t (n - 1)) l) (fun m => ⟨dn 23 [(1, (.im (.int .i64 (n)))), (2, .pt 0 0), (4, .im (.bool false)), (5, (.im (.int .i64 ((((m : Nat)) : Int)))))], ofl [.box [.im (.int .i64 o), .im (.int .u32 k), .im (.string s), .im (.int .i64 w), .sl (l.map exV) .ro]]⟩) ?_ 0 (Nat.zero_le _) (AllTo.zero _ _)
  intro m hm hI hnext
  by_cases hlt : m < l.length
  · have hlt' : (m : Int) < (l.length : Int) := by omega
    have hg := get_some hlt
    have hm1 := wrap_succ hlt (by omega)
    have hc := hE l[m] (List.getElem_mem hlt) (hfE _ (List.getElem_mem hlt)) (n - 1) (by unfold I64; omega)
    refine wG Y111_BE (AI (@G111_BE) (AI hlt' (AI hg (AI hn1 hm1)))) ?_
    refine AR.callP hc @exV_eq (AI (@exL_id) (AI (@vaL_id) (AI (@exV_id) @vaV_id))) ?_
    by_cases hsh : esh l[m] (n - 1) = true
    · refine goG Y111_BE (AI (@G111_BE) hsh) ?_
      refine wG Y111_BE (AI (@G111_BE) hm1) ?_
      refine ALp.cutP 1 [(1, (.im (.int .i64 (n)))), (2, .pt 0 0), (4, .im (.bool false)), (5, (.im (.int .i64 ((((m + 1 : Nat)) : Int)))))] [.box [.im (.int .i64 o), .im (.int .u32 k), .im (.string s), .im (.int .i64 w), .sl (l.map exV) .ro]] (AI (@exL_id) (AI (@vaL_id) (AI (@exV_id) @vaV_id))) ?_
      exact hnext (m + 1) (by omega) (by omega) (hI.succ hlt hsh)
    · have hsh : esh l[m] (n - 1) = false := by simpa using hsh
      refine goG Y111_BE (AI (@G111_BE) hsh) ?_
      refine wG Y111_BE (AI (@G111_BE) hm1) ?_
      rw [not_all_of hlt hsh, Bool.and_false]
      exact Fin.oneP
  · have hall := hI.done (by omega)
    have hlt' : ¬ (m : Int) < (l.length : Int) := by omega
    clear hnext
    rw [hall, e]
    refine wG Y111_BE (AI (@G111_BE) hlt') ?_
    exact Fin.oneP
end Go.Proofs.YtfggemopnlffeaaGreat
