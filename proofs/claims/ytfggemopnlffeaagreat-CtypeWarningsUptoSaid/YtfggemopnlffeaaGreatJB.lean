import Derived.Test.YtfggemopnlffeaaGreatHv
import Derived.Test.YtfggemopnlffeaaGreatJA
import Derived.Test.YtfggemopnlffeaaGreatLe
import Derived.Test.YtfggemopnlffeaaGreatPm
namespace Go.Proofs.YtfggemopnlffeaaGreat
set_option linter.unusedSimpArgs false
set_option linter.unusedVariables false
set_option linter.unnecessarySimpa false
open Go.RowKit
def idx {α : Type} (l : List α) (p : α → Bool) : Int := match l.findIdx? p with
  | some k => k
  | none => -1
theorem idx_none {α : Type} {l : List α} {p : α → Bool} (h : AllTo (fun x => !p x) l l.length) : idx l p = -1 := by
  unfold idx
  have : l.findIdx? p = none := by
    rw [List.findIdx?_eq_none_iff]
    intro x hx
    obtain ⟨j, hj, rfl⟩ := List.getElem_of_mem hx
    simpa using h j hj hj
  rw [this]
theorem idx_some {α : Type} {l : List α} {p : α → Bool} {m : Nat} (hm : m < l.length) (h : AllTo (fun x => !p x) l m) (hp : p l[m] = true) : idx l p = m := by
  unfold idx
  have : l.findIdx? p = some m := by
    rw [List.findIdx?_eq_some_iff_getElem]
    exact ⟨hm, hp, fun j hj => by simpa using h j (by omega) hj⟩
  rw [this]
theorem idx_any {α : Type} (l : List α) (p : α → Bool) : decide (idx l p ≥ 0) = l.any p := by
  unfold idx
  cases h : l.findIdx? p with
  | none =>
    rw [List.findIdx?_eq_none_iff] at h
    have : l.any p = false := by simpa using h
    rw [this]
    decide
  | some k =>
    rw [List.findIdx?_eq_some_iff_getElem] at h
    obtain ⟨hk, hp, _⟩ := h
    have : l.any p = true := List.any_eq_true.2 ⟨_, List.getElem_mem hk, hp⟩
    rw [this]
    simp
theorem Y120_B6 : type_of% (AI @F_ag_64 (AI @F_el_39 (@F_sz_64))) := AI @F_ag_64 (AI @F_el_39 (@F_sz_64))
theorem G120_B6 : type_of% (AI (@tyV_firm) (AI (@fdV_firm) (AI (@tyV_strip) (AI (@fdV_strip) (AI (@tyV_live) (AI (@tyV_size) (AI (@tyV_isAg) (AI (@tyV_cells) (AI (@fdV_live) (AI (@fdV_size) (AI (@fdV_isAg) (AI (@fdV_cells) (AI (@List.getElem?_map.{0, 0}) @Int.natCast_nonneg))))))))))))) := (AI (@tyV_firm) (AI (@fdV_firm) (AI (@tyV_strip) (AI (@fdV_strip) (AI (@tyV_live) (AI (@tyV_size) (AI (@tyV_isAg) (AI (@tyV_cells) (AI (@fdV_live) (AI (@fdV_size) (AI (@fdV_isAg) (AI (@fdV_cells) (AI (@List.getElem?_map.{0, 0}) @Int.natCast_nonneg)))))))))))))
theorem c_indexF {gs : List Ty} {F : FuncId} {cs : List V} (p : Ty → Bool) (hcs : V.idsL (ltB 1) cs = true) (hr : V.renL (gOf [0]) cs = cs) (hl : gs.length ≤ 4194304) (hF : ∀ t ∈ gs, DC Tryz.prog F [fdV t, .pt 0 0] [.box cs] (.im (.bool (p t))) [.box cs]) :
    DC Tryz.prog 120 [.sl (gs.map fdV) .ro, .fn (.func F) [] [.pt 0 0]] [.box cs] (.im (.int .i64 (idx gs p))) [.box cs] := by
  refine DC.enter 19 Tryz.func120 rfl (by decide) rfl rfl (s := [(0, .sl (gs.map fdV) .ro), (1, .fn (.func F) [] [.pt 0 0])]) (by rfl) ?_
  refine wG Y120_B6 @G120_B6 ?_
  refine AWp.loop ?_
  refine ALp.cutP 1 [(0, .sl (gs.map fdV) .ro), (1, .fn (.func F) [] [.pt 0 0]), (7, (.im (.int .i64 (gs.length)))), (8, (.im (.int .i64 ((((0 : Nat)) : Int)))))] [.box cs] hcs ?_
  refine ALp.upto gs.length (AllTo (fun x => !p x) gs) (fun m => ⟨dn 19 [(0, .sl (gs.map fdV) .ro), (1, .fn (.func F) [] [.pt 0 0]), (7, (.im (.int .i64 (gs.length)))), (8, (.im (.int .i64 ((((m : Nat)) : Int)))))], ofl [.box cs]⟩) ?_ 0 (Nat.zero_le _) (AllTo.zero _ _)
  intro m hm hI hnext
  by_cases hlt : m < gs.length
  · have hlt' : (m : Int) < (gs.length : Int) := by omega
    have hg := get_some hlt
    have hm1 := wrap_succ hlt (by omega)
    have hc := hF gs[m] (List.getElem_mem hlt)
    refine wG Y120_B6 (AI (@G120_B6) (AI hlt' (AI hg hm1))) ?_
    by_cases b : p gs[m] = true
    · rw [b] at hc
      refine AR.callQP [0] hc @fdV_eq hcs hr ?_
      refine goG Y120_B6 @G120_B6 ?_
      refine wG Y120_B6 @G120_B6 ?_
      rw [idx_some hlt hI b]
      exact Fin.oneSP hcs
    · have b : p gs[m] = false := by simpa using b
      rw [b] at hc
      refine AR.callQP [0] hc @fdV_eq hcs hr ?_
      refine goG Y120_B6 @G120_B6 ?_
      refine wG Y120_B6 (AI (@G120_B6) hm1) ?_
      refine ALp.cutP 1 [(0, .sl (gs.map fdV) .ro), (1, .fn (.func F) [] [.pt 0 0]), (7, (.im (.int .i64 (gs.length)))), (8, (.im (.int .i64 ((((m + 1 : Nat)) : Int)))))] [.box cs] hcs ?_
      exact hnext (m + 1) (by omega) (by omega) (hI.succ hlt (by simp [b]))
  · obtain rfl : m = gs.length := by omega
    have hlt' : ¬ (gs.length : Int) < (gs.length : Int) := by omega
    clear hnext hlt
    rw [idx_none hI]
    refine wG Y120_B6 (AI (@G120_B6) hlt') ?_
    exact Fin.oneSP hcs
theorem c_containsF {gs : List Ty} {F : FuncId} {cs : List V} (p : Ty → Bool) (hcs : V.idsL (ltB 1) cs = true) (hr : V.renL (gOf [0]) cs = cs) (hl : gs.length ≤ 4194304) (hF : ∀ t ∈ gs, DC Tryz.prog F [fdV t, .pt 0 0] [.box cs] (.im (.bool (p t))) [.box cs]) :
    DC Tryz.prog 96 [.sl (gs.map fdV) .ro, .fn (.func F) [] [.pt 0 0]] [.box cs] (.im (.bool (gs.any p))) [.box cs] := by
  have h := c_indexF p hcs hr hl hF
  refine DC.enter 9 Tryz.func96 rfl (by decide) rfl rfl (s := [(0, .sl (gs.map fdV) .ro), (1, .fn (.func F) [] [.pt 0 0])]) (by rfl) ?_
  refine wG True.intro True.intro ?_
  refine AR.callQP [0] h True.intro hcs hr ?_
  refine goG True.intro True.intro ?_
  rw [idx_any]
  refine wG True.intro True.intro ?_
  exact Fin.oneSP hcs
theorem Y97_B6 : type_of% (AI @F_ag_3 (AI @F_ag_41 (AI @F_fl_64_0 (AI @F_fl_64_1 (AI @F_sz_3 (@F_sz_41)))))) := AI @F_ag_3 (AI @F_ag_41 (AI @F_fl_64_0 (AI @F_fl_64_1 (AI @F_sz_3 (@F_sz_41)))))
theorem c_sub1 {x g : Ty} (h : PC Tryz.prog 61 [tyV x, tyV g] (.im (.bool (subT x g)))) : DC Tryz.prog 97 [fdV x, .pt 0 0] [.box [.im (.int .i64 g.off), .im (.int .i64 g.kind), .im (.int .i64 g.size), .im (.int .i64 g.count), .sl (g.elem.map tyV) .ro, .sl (g.fields.map fdV) .ro]] (.im (.bool (x.off == g.off && subT x g))) [.box [.im (.int .i64 g.off), .im (.int .i64 g.kind), .im (.int .i64 g.size), .im (.int .i64 g.count), .sl (g.elem.map tyV) .ro, .sl (g.fields.map fdV) .ro]] := by
  refine DC.enter 16 Tryz.func97 rfl (by decide) rfl rfl (s := [(0, fdV x), (1, .pt 0 0)]) (by rfl) ?_
  simp only [fdV_eq]
  by_cases b : x.off = g.off
  · have e : (x.off == g.off) = true := by simpa using b
    rw [e, Bool.true_and]
    refine wG Y97_B6 b ?_
    refine AR.callP h @tyV_eq True.intro ?_
    refine goG Y97_B6 True.intro ?_
    refine wG Y97_B6 True.intro ?_
    exact Fin.oneSP True.intro
  · have e : (x.off == g.off) = false := by simpa using b
    rw [e, Bool.false_and]
    refine wG Y97_B6 b ?_
    exact Fin.oneSP True.intro
end Go.Proofs.YtfggemopnlffeaaGreat
namespace Go.Proofs.YtfggemopnlffeaaGreat
set_option linter.unusedSimpArgs false
set_option linter.unusedVariables false
set_option linter.unnecessarySimpa false
open Go.RowKit
theorem Y61_BA : type_of% (AI @F_ag_3 (AI @F_ag_38 (AI @F_ag_39 (AI @F_ag_41 (AI @F_ag_64 (AI @F_al_64 (AI @F_el_38 (AI @F_el_39 (AI @F_fl_41_0 (AI @F_fl_41_1 (AI @F_fl_41_2 (AI @F_fl_41_3 (AI @F_fl_41_4 (AI @F_sz_3 (AI @F_sz_38 (AI @F_sz_39 (AI @F_sz_41 (@F_sz_64)))))))))))))))))) := AI @F_ag_3 (AI @F_ag_38 (AI @F_ag_39 (AI @F_ag_41 (AI @F_ag_64 (AI @F_al_64 (AI @F_el_38 (AI @F_el_39 (AI @F_fl_41_0 (AI @F_fl_41_1 (AI @F_fl_41_2 (AI @F_fl_41_3 (AI @F_fl_41_4 (AI @F_sz_3 (AI @F_sz_38 (AI @F_sz_39 (AI @F_sz_41 (@F_sz_64)))))))))))))))))
theorem G61_BA : type_of% (AI (@tyV_firm) (AI (@fdV_firm) (AI (@tyV_strip) (AI (@fdV_strip) (AI (@tyV_live) (AI (@tyV_size) (AI (@tyV_isAg) (AI (@tyV_cells) (AI (@fdV_live) (AI (@fdV_size) (AI (@fdV_isAg) (AI (@fdV_cells) (AI (@List.getElem?_map.{0, 0}) @Int.natCast_nonneg))))))))))))) := (AI (@tyV_firm) (AI (@fdV_firm) (AI (@tyV_strip) (AI (@fdV_strip) (AI (@tyV_live) (AI (@tyV_size) (AI (@tyV_isAg) (AI (@tyV_cells) (AI (@fdV_live) (AI (@fdV_size) (AI (@fdV_isAg) (AI (@fdV_cells) (AI (@List.getElem?_map.{0, 0}) @Int.natCast_nonneg)))))))))))))
set_option maxHeartbeats 1000000 in
theorem c_sub : ∀ (b : Ty), fit b → frm b = true → ∀ (a : Ty), fit a → frm a = true → PC Tryz.prog 61 [tyV a, tyV b] (.im (.bool (subT a b))) := by
  refine Ty.induct fun o k s c es fs hE hF => ?_
  intro hfit hfrm a hfita hfrma
  obtain ⟨hl1, hl2, hfE, hfF⟩ := fit_mk hfit
  obtain ⟨hb, hof, hfs, hes⟩ := frm_inv hfrm
  obtain ⟨oa, ka, sa, ca, ea, fa⟩ := a
  obtain ⟨ha1, ha2, haE, haF⟩ := fit_mk hfita
  obtain ⟨hba, haof, hafs, haes⟩ := frm_inv hfrma
  refine PC.enter 74 Tryz.func61 rfl (by decide) rfl rfl (s := [(0, tyV (.mk oa ka sa ca ea fa)), (1, tyV (.mk o k s c es fs))]) (by rfl) ?_
  simp only [tyV_mk]
  rw [subT_mk2]
  by_cases h0 : ka = 0
  · subst h0
    simp only [Int.reduceBEq, Bool.true_or, if_true]
    refine wG Y61_BA @G61_BA ?_
    exact Fin.oneP
  by_cases h6 : k = 6
  · subst h6
    simp only [Int.reduceBEq, Bool.or_true, if_true]
    refine wG Y61_BA (AI (@G61_BA) h0) ?_
    exact Fin.oneP
  have e0 : (ka == 0 || k == 6) = false := by simp [h0, h6]
  rw [e0]
  simp only [Bool.false_eq_true, if_false]
  by_cases hk : ka = k
  case neg =>
    have e1 : (ka != k) = true := by simp [hk]
    rw [e1]
    simp only [if_true]
    refine wG Y61_BA (AI (@G61_BA) (AI h0 (AI h6 hk))) ?_
    exact Fin.oneP
  subst hk
  have e1 : (ka != ka) = false := by simp
  rw [e1]
  simp only [Bool.false_eq_true, if_false]
  rcases base_cases hb with h | h | h | h | h
  · omega
  · obtain ⟨h, _⟩ := h
    have e2 : (ka == 1 || ka == 2) = true := by rcases h with rfl | rfl <;> rfl
    rw [e2]
    simp only [if_true]
    by_cases hsz : sa = s
    · have e3 : (sa == s) = true := by simp [hsz]
      rw [e3]
      rcases h with rfl | rfl
      all_goals
        refine wG Y61_BA (AI (@G61_BA) hsz) ?_
        exact Fin.oneP
    · have e3 : (sa == s) = false := by simp [hsz]
      rw [e3]
      rcases h with rfl | rfl
      all_goals
        refine wG Y61_BA (AI (@G61_BA) hsz) ?_
        exact Fin.oneP
  · obtain ⟨rfl, _, _, h4, _⟩ := h
    have h4a : ea.length = 1 := by rcases base_cases hba with q | q | q | q | q <;> omega
    obtain ⟨x, rfl⟩ := List.length_eq_one_iff.1 h4
    obtain ⟨y, rfl⟩ := List.length_eq_one_iff.1 h4a
    simp only [Int.reduceBEq, Bool.or_false, Bool.false_eq_true, if_false, if_true, hd2]
    have hc := hE x (by simp) (hfE x (by simp)) (hes x (by simp)) y (haE y (by simp)) (haes y (by simp))
    refine wdG Y61_BA @G61_BA ?_
    refine AR.callP hc @tyV_eq True.intro ?_
    refine goG Y61_BA @G61_BA ?_
    refine wdG Y61_BA @G61_BA ?_
    exact Fin.oneP
  · obtain ⟨rfl, _, _, _, h4, _⟩ := h
    have h4a : ea.length = 1 := by rcases base_cases hba with q | q | q | q | q <;> omega
    obtain ⟨x, rfl⟩ := List.length_eq_one_iff.1 h4
    obtain ⟨y, rfl⟩ := List.length_eq_one_iff.1 h4a
    simp only [Int.reduceBEq, Bool.or_false, Bool.false_eq_true, if_false, if_true, hd2]
    by_cases hcc : ca ≥ c
    · have e3 : decide (c ≤ ca) = true := by simp; omega
      rw [e3, Bool.true_and]
      have hc := hE x (by simp) (hfE x (by simp)) (hes x (by simp)) y (haE y (by simp)) (haes y (by simp))
      refine wdG Y61_BA (AI (@G61_BA) hcc) ?_
      refine AR.callP hc @tyV_eq True.intro ?_
      refine goG Y61_BA @G61_BA ?_
      refine wdG Y61_BA @G61_BA ?_
      exact Fin.oneP
    · have e3 : decide (c ≤ ca) = false := by simp; omega
      rw [e3, Bool.false_and]
      refine wdG Y61_BA (AI (@G61_BA) hcc) ?_
      exact Fin.oneP
  · obtain ⟨rfl, _⟩ := h
    simp only [Int.reduceBEq, Bool.or_false, Bool.false_eq_true, if_false]
    refine wG Y61_BA @G61_BA ?_
    refine AWp.loop ?_
    refine ALp.cut 2 [(2, .pt 0 0), (3, .pt 1 0), (61, .sl (fs.map fdV) .ro), (62, (.im (.int .i64 (fs.length)))), (63, (.im (.int .i64 ((((0 : Nat)) : Int)))))] [.box [.im (.int .i64 5), .im (.int .i64 sa), .im (.int .i64 ca), .sl (ea.map tyV) .ro, .sl (fa.map fdV) .ro], .box [.im (.int .i64 5), .im (.int .i64 s), .im (.int .i64 c), .sl (es.map tyV) .ro, .sl (fs.map fdV) .ro]] ?_ rfl (by repeat (first | exact WkA.nil | refine WkA.cons (Wk.refl _) ?_)) (fun i hi => by first | exact absurd rfl hi) (by simp [idsA, V.ids, V.idsL, ltB, fdL_id]) (by simp [entOk, V.idsL, V.ids, tyL_id, fdL_id])
    refine ALp.upto fs.length (AllTo (fun f => fa.any fun x => x.off == f.off && subT x f) fs) (fun m => ⟨dn 74 [(2, .pt 0 0), (3, .pt 1 0), (61, .sl (fs.map fdV) .ro), (62, (.im (.int .i64 (fs.length)))), (63, (.im (.int .i64 ((((m : Nat)) : Int)))))], ofl [.box [.im (.int .i64 5), .im (.int .i64 sa), .im (.int .i64 ca), .sl (ea.map tyV) .ro, .sl (fa.map fdV) .ro], .box [.im (.int .i64 5), .im (.int .i64 s), .im (.int .i64 c), .sl (es.map tyV) .ro, .sl (fs.map fdV) .ro]]⟩) ?_ 0 (Nat.zero_le _) (AllTo.zero _ _)
    intro m hm hI hnext
    by_cases hlt : m < fs.length
    · have hlt' : (m : Int) < (fs.length : Int) := by omega
      have hg := get_some hlt
      have hm1 := wrap_succ hlt (by omega)
      have hc : ∀ x ∈ fa, DC Tryz.prog 97 [fdV x, .pt 0 0] [.box [.im (.int .i64 fs[m].off), .im (.int .i64 fs[m].kind), .im (.int .i64 fs[m].size), .im (.int .i64 fs[m].count), .sl (fs[m].elem.map tyV) .ro, .sl (fs[m].fields.map fdV) .ro]] (.im (.bool (x.off == fs[m].off && subT x fs[m]))) [.box [.im (.int .i64 fs[m].off), .im (.int .i64 fs[m].kind), .im (.int .i64 fs[m].size), .im (.int .i64 fs[m].count), .sl (fs[m].elem.map tyV) .ro, .sl (fs[m].fields.map fdV) .ro]] := fun x hx => c_sub1 (hF fs[m] (List.getElem_mem hlt) (hfF _ (List.getElem_mem hlt)) (hfs _ (List.getElem_mem hlt)) x (haF x hx) (hafs x hx))
      have hcc := c_containsF (gs := fa) (F := 97) (cs := [.im (.int .i64 fs[m].off), .im (.int .i64 fs[m].kind), .im (.int .i64 fs[m].size), .im (.int .i64 fs[m].count), .sl (fs[m].elem.map tyV) .ro, .sl (fs[m].fields.map fdV) .ro]) (fun x => x.off == fs[m].off && subT x fs[m]) (by simp [V.idsL, V.ids, tyL_id, fdL_id]) (by simp only [SR]) ha2 hc
      refine wG Y61_BA (AI (@G61_BA) (AI hlt' (AI hg hm1))) ?_
      cases b : fa.any (fun x => x.off == fs[m].off && subT x fs[m]) with
      | true =>
        rw [b] at hcc
        refine AR.callQP [2] hcc True.intro True.intro True.intro ?_
        refine goG Y61_BA @G61_BA ?_
        refine wG Y61_BA (AI (@G61_BA) hm1) ?_
        refine ALp.cutP 2 [(2, .pt 0 0), (3, .pt 1 0), (61, .sl (fs.map fdV) .ro), (62, (.im (.int .i64 (fs.length)))), (63, (.im (.int .i64 ((((m + 1 : Nat)) : Int)))))] [.box [.im (.int .i64 5), .im (.int .i64 sa), .im (.int .i64 ca), .sl (ea.map tyV) .ro, .sl (fa.map fdV) .ro], .box [.im (.int .i64 5), .im (.int .i64 s), .im (.int .i64 c), .sl (es.map tyV) .ro, .sl (fs.map fdV) .ro]] True.intro ?_
        exact hnext (m + 1) (by omega) (by omega) (hI.succ hlt b)
      | false =>
        rw [b] at hcc
        refine AR.callQP [2] hcc True.intro True.intro True.intro ?_
        refine goG Y61_BA @G61_BA ?_
        refine wG Y61_BA (AI (@G61_BA) hm1) ?_
        rw [not_all_of hlt b]
        exact Fin.oneP
    · have hall := hI.done (by omega)
      have hlt' : ¬ (m : Int) < (fs.length : Int) := by omega
      clear hnext
      rw [hall]
      refine wG Y61_BA (AI (@G61_BA) hlt') ?_
      exact Fin.oneP
end Go.Proofs.YtfggemopnlffeaaGreat
