import Derived.Test.YtfggemopnlffeaaGreatHv
import Derived.Test.YtfggemopnlffeaaGreatJM
namespace Go.Proofs.YtfggemopnlffeaaGreat
set_option linter.unusedSimpArgs false
set_option linter.unusedVariables false
set_option linter.unnecessarySimpa false
open Go.RowKit
theorem AR.callQ4 {P : Program} {N : Nat} {ops : Array Oper} {dr : Bool} {Q : St → Prop} {d : Option Tmp} {c : Operand} {args : Array Operand} {tys : Array TypeId} {ty : TypeId} {pos : String} {af : Array Edge} {g : Option (Nat × Bool)} {os : List Oper} {k : Nat} {s : List (Nat × V)} {l : List Ent}
    {acc : List (Nat × List Nat × List Nat)} {f : FuncId} {us vs xs xs' : List V} {r r' : V} {l0 : List Ent} {F E M : Prop} (js : List Nat) (h : DC P f xs l0 r l0) (fa : F) (fi : E) (fr : M)
    (n : AR P ops dr Q os (k + 1) ⟨dn N (putA s d r'), ofl l⟩ ((k, (renE js 0 l0).map Prod.fst, []) :: acc)) (hg : gd ops ⟨d, .call { callee := .value c, args := args, argTypes := tys }, ty, pos, af, g⟩ ⟨dn N s, ofl l⟩ = some true := by rfl) (hc : St.ev ⟨dn N s, ofl l⟩ c = .fn (.func f) us vs := by rfl)
    (hx : M → V.renL (gOf js) xs = xs' := by intro f; first | (simp only [SR, f]; done) | (simp only [SR, f]; with_reducible exact rfl)) (hr : M → V.ren (gOf js) r = r' := by intro f; first | (simp only [SR, f]; done) | (simp only [SR, f]; with_reducible exact rfl))
    (hw : F → WkL (us ++ args.toList.map (St.ev ⟨dn N s, ofl l⟩) ++ vs) xs' := by intro f; exact WkL.of_eq (by simp only [St.ev, V.ofVal, V.ofCell, V.size_im, getD_dn, look_cons, look_nil, Nat.reduceLT, Nat.reduceEqDiff, reduceIte, if_true, if_false, List.map_cons, List.map_nil, List.nil_append, List.cons_append, List.append_nil, f])) (hi : E → V.idsL (ltB js.length) xs = true := by intro f; first | rfl | simp only [List.length_cons, List.length_nil, Nat.reduceAdd, V.ids, V.idsL, idsA, entOk, List.all_cons, List.all_nil, Bool.and_self, Bool.and_true, Bool.true_and, ltB, noId, Nat.reduceLT, decide_true, Bool.true_eq_false, tyV_id, fdV_id, tyL_id, fdL_id, f])
    (hnd : decide js.Nodup = true := by rfl) (h0 : l0.length = js.length := by rfl) (he : E → l0.all (entOk (ltB js.length)) = true := by intro f; first | rfl | simp only [List.length_cons, List.length_nil, Nat.reduceAdd, V.ids, V.idsL, idsA, entOk, List.all_cons, List.all_nil, Bool.and_self, Bool.and_true, Bool.true_and, ltB, noId, Nat.reduceLT, decide_true, Bool.true_eq_false, tyV_id, fdV_id, tyL_id, fdL_id, f])
    (hl : M → ∀ p ∈ renE js 0 l0, ofl l p.1 = p.2 := by intro f p hp; simp only [renE, SR, Ent.ren, List.mem_cons, List.not_mem_nil, or_false, f] at hp; first | (rcases hp with rfl | rfl | rfl | rfl <;> rfl) | (rcases hp with rfl | rfl | rfl | rfl | rfl <;> rfl) | (rcases hp with rfl <;> rfl) | (rcases hp with rfl | rfl <;> rfl) | (rcases hp with rfl | rfl | rfl <;> rfl)) :
    AR P ops dr Q (⟨d, .call { callee := .value c, args := args, argTypes := tys }, ty, pos, af, g⟩ :: os) k ⟨dn N s, ofl l⟩ acc := AR.callQ js h hg hc (hx fr) (hr fr) (hw fa) (hi fi) hnd h0 (he fi) (hl fr) n
def chk1 (vs : List Va) (fs ls sn : List ByteArray) (p : Nd × Bool) : Int :=
  if !(p.1.e.all fun x => esh x 64) then 20 else if !stT p.1 then 2 else if !symT vs fs ls p.1 then 17 else if (p.1.kind == 10 || p.1.kind == 11) && !p.2 then 21 else if p.1.kind == 13 && sn.any (fun x => eqS p.1.name x) then 8 else 0
def nxt (sn : List ByteArray) (p : Nd × Bool) : List ByteArray := if p.1.kind == 13 then sn ++ [p.1.name] else sn
theorem stT_efm {s : Nd} (h : stT s = true) : ∀ x ∈ s.e, efm x = true := by
  unfold stT at h
  simp only [Bool.and_eq_true, List.all_eq_true] at h
  exact h.2
theorem Y71_CO : type_of% (AI @F_ag_29 (AI @F_ag_3 (AI @F_ag_4 (AI @F_ag_46 (AI @F_ag_59 (AI @F_ag_9 (AI @F_al_9 (AI @F_by_9 (AI @F_el_29 (AI @F_fl_102_3 (AI @F_fl_104_0 (AI @F_fl_104_1 (AI @F_fl_59_0 (AI @F_fl_59_2 (AI @F_fl_59_3 (AI @F_sz_29 (AI @F_sz_3 (AI @F_sz_4 (AI @F_sz_46 (AI @F_sz_59 (@F_sz_9))))))))))))))))))))) := AI @F_ag_29 (AI @F_ag_3 (AI @F_ag_4 (AI @F_ag_46 (AI @F_ag_59 (AI @F_ag_9 (AI @F_al_9 (AI @F_by_9 (AI @F_el_29 (AI @F_fl_102_3 (AI @F_fl_104_0 (AI @F_fl_104_1 (AI @F_fl_59_0 (AI @F_fl_59_2 (AI @F_fl_59_3 (AI @F_sz_29 (AI @F_sz_3 (AI @F_sz_4 (AI @F_sz_46 (AI @F_sz_59 (@F_sz_9))))))))))))))))))))
set_option maxHeartbeats 1000000 in
theorem c_checkS (vs : List Va) (hv : vs.length ≤ 4194304) (fs ls sn : List ByteArray) (hfs : fs.length ≤ 4194304) (hls : ls.length ≤ 4194304) (hsn : sn.length ≤ 4194304) (p : Nd × Bool) (hf : fitN p.1) :
    DC Tryz.prog 71 [.pt 0 0, plV p] [.box [(V.fn (.func 90) [] [.pt 1 0]), .sl (fs.map tsV) .ro, .sl (ls.map tsV) (.own 2), .sl ((sn).map tsV) (.own 3)], .box [(V.sl (vs.map vaV) .ro)], .tip 9 1 ls.length, .tip 9 1 (sn).length] (.im (.int .i64 (chk1 vs fs ls sn p))) [.box [(V.fn (.func 90) [] [.pt 1 0]), .sl (fs.map tsV) .ro, .sl (ls.map tsV) (.own 2), .sl ((if chk1 vs fs ls sn p = 0 then nxt sn p else sn).map tsV) (.own 3)], .box [(V.sl (vs.map vaV) .ro)], .tip 9 1 ls.length, .tip 9 1 (if chk1 vs fs ls sn p = 0 then nxt sn p else sn).length] := by
  obtain ⟨s, lp⟩ := p
  obtain ⟨hI, hsz, ⟨he1, he2⟩, h4, h5, h6, h7⟩ := fitN_inv hf
  have h1 := c_containsE0 (gs := s.e) (F := 105) (fun x => !esh x 64) he1 (fun t ht => c_check1 (c_eshallow t (he2 t ht) 64 (by decide)))
  rw [← List.not_all_eq_any_not] at h1
  have h2 := c_statement s hf
  have h5 := c_containsT sn hsn s.name
  unfold chk1
  simp only
  cases b1 : s.e.all fun x => esh x 64 with
  | false =>
    rw [b1] at h1
    simp only [Bool.not_false, if_true, show ¬ (20 : Int) = 0 by decide, if_false]
    refine DC.enter 62 Tryz.func71 rfl (by decide) rfl rfl (s := [(0, .pt 0 0), (1, plV (s, lp))]) (by rfl) ?_
    simp only [plV_eq]
    refine wG Y71_CO True.intro ?_
    refine AR.callP h1 True.intro (AI (@exL_id) (AI (@vaL_id) (AI (@exV_id) (AI (@vaV_id) (AI tsL_id (AI ndLs_id (AI nlVs_id ndV_id))))))) ?_
    refine goG Y71_CO True.intro ?_
    refine wG Y71_CO True.intro ?_
    exact Fin.oneSP (AI (@exL_id) (AI (@vaL_id) (AI (@exV_id) (AI (@vaV_id) (AI tsL_id (AI ndLs_id (AI nlVs_id ndV_id)))))))
  | true =>
  rw [b1] at h1
  simp only [Bool.not_true, Bool.false_eq_true, if_false]
  cases b2 : stT s with
  | false =>
    rw [b2] at h2
    simp only [Bool.not_false, if_true, show ¬ (2 : Int) = 0 by decide, if_false]
    refine DC.enter 62 Tryz.func71 rfl (by decide) rfl rfl (s := [(0, .pt 0 0), (1, plV (s, lp))]) (by rfl) ?_
    simp only [plV_eq]
    refine wG Y71_CO True.intro ?_
    refine AR.callP h1 True.intro (AI (@exL_id) (AI (@vaL_id) (AI (@exV_id) (AI (@vaV_id) (AI tsL_id (AI ndLs_id (AI nlVs_id ndV_id))))))) ?_
    refine goG Y71_CO True.intro ?_
    refine wG Y71_CO True.intro ?_
    refine AR.callP h2 ndV_eq (AI (@exL_id) (AI (@vaL_id) (AI (@exV_id) (AI (@vaV_id) (AI tsL_id (AI ndLs_id (AI nlVs_id ndV_id))))))) ?_
    refine goG Y71_CO True.intro ?_
    refine wG Y71_CO True.intro ?_
    exact Fin.oneSP (AI (@exL_id) (AI (@vaL_id) (AI (@exV_id) (AI (@vaV_id) (AI tsL_id (AI ndLs_id (AI nlVs_id ndV_id)))))))
  | true =>
  rw [b2] at h2
  simp only [Bool.not_true, Bool.false_eq_true, if_false]
  have h3 := c_symbols vs hv fs ls sn hfs hls s hf (stT_efm b2)
  cases b3 : symT vs fs ls s with
  | false =>
    rw [b3] at h3
    simp only [Bool.not_false, if_true, show ¬ (17 : Int) = 0 by decide, if_false]
    refine DC.enter 62 Tryz.func71 rfl (by decide) rfl rfl (s := [(0, .pt 0 0), (1, plV (s, lp))]) (by rfl) ?_
    simp only [plV_eq]
    refine wG Y71_CO True.intro ?_
    refine AR.callP h1 True.intro (AI (@exL_id) (AI (@vaL_id) (AI (@exV_id) (AI (@vaV_id) (AI tsL_id (AI ndLs_id (AI nlVs_id ndV_id))))))) ?_
    refine goG Y71_CO True.intro ?_
    refine wG Y71_CO True.intro ?_
    refine AR.callP h2 ndV_eq (AI (@exL_id) (AI (@vaL_id) (AI (@exV_id) (AI (@vaV_id) (AI tsL_id (AI ndLs_id (AI nlVs_id ndV_id))))))) ?_
    refine goG Y71_CO True.intro ?_
    refine wG Y71_CO True.intro ?_
    refine AR.callQ4 [0, 1, 2, 3] h3 ndV_eq (AI (@exL_id) (AI (@vaL_id) (AI (@exV_id) (AI (@vaV_id) (AI tsL_id (AI ndLs_id (AI nlVs_id ndV_id))))))) (AI (@exV_ren) (AI (@exL_ren) (AI (@vaV_ren) (AI (@vaL_ren) (AI tsL_ren (AI ndLs_ren (AI nlVs_ren ndV_ren))))))) ?_
    refine goG Y71_CO True.intro ?_
    refine wG Y71_CO True.intro ?_
    exact Fin.oneSP (AI (@exL_id) (AI (@vaL_id) (AI (@exV_id) (AI (@vaV_id) (AI tsL_id (AI ndLs_id (AI nlVs_id ndV_id)))))))
  | true =>
  rw [b3] at h3
  simp only [Bool.not_true, Bool.false_eq_true, if_false]
  by_cases k10 : s.kind = 10
  · have e13 : nxt sn (s, lp) = sn := by simp [nxt, k10]
    cases lp with
    | false =>
      rw [if_pos (by simp [k10])]
      simp only [show ¬ (21 : Int) = 0 by decide, if_false]
      refine DC.enter 62 Tryz.func71 rfl (by decide) rfl rfl (s := [(0, .pt 0 0), (1, plV (s, false))]) (by rfl) ?_
      simp only [plV_eq]
      refine wG Y71_CO True.intro ?_
      refine AR.callP h1 True.intro (AI (@exL_id) (AI (@vaL_id) (AI (@exV_id) (AI (@vaV_id) (AI tsL_id (AI ndLs_id (AI nlVs_id ndV_id))))))) ?_
      refine goG Y71_CO True.intro ?_
      refine wG Y71_CO True.intro ?_
      refine AR.callP h2 ndV_eq (AI (@exL_id) (AI (@vaL_id) (AI (@exV_id) (AI (@vaV_id) (AI tsL_id (AI ndLs_id (AI nlVs_id ndV_id))))))) ?_
      refine goG Y71_CO True.intro ?_
      refine wG Y71_CO True.intro ?_
      refine AR.callQ4 [0, 1, 2, 3] h3 ndV_eq (AI (@exL_id) (AI (@vaL_id) (AI (@exV_id) (AI (@vaV_id) (AI tsL_id (AI ndLs_id (AI nlVs_id ndV_id))))))) (AI (@exV_ren) (AI (@exL_ren) (AI (@vaV_ren) (AI (@vaL_ren) (AI tsL_ren (AI ndLs_ren (AI nlVs_ren ndV_ren))))))) ?_
      refine goG Y71_CO True.intro ?_
      refine wG Y71_CO k10 ?_
      exact Fin.oneSP (AI (@exL_id) (AI (@vaL_id) (AI (@exV_id) (AI (@vaV_id) (AI tsL_id (AI ndLs_id (AI nlVs_id ndV_id)))))))
    | true =>
      rw [if_neg (by simp), if_neg (by simp [k10])]
      simp only [if_true, e13]
      refine DC.enter 62 Tryz.func71 rfl (by decide) rfl rfl (s := [(0, .pt 0 0), (1, plV (s, true))]) (by rfl) ?_
      simp only [plV_eq]
      refine wG Y71_CO True.intro ?_
      refine AR.callP h1 True.intro (AI (@exL_id) (AI (@vaL_id) (AI (@exV_id) (AI (@vaV_id) (AI tsL_id (AI ndLs_id (AI nlVs_id ndV_id))))))) ?_
      refine goG Y71_CO True.intro ?_
      refine wG Y71_CO True.intro ?_
      refine AR.callP h2 ndV_eq (AI (@exL_id) (AI (@vaL_id) (AI (@exV_id) (AI (@vaV_id) (AI tsL_id (AI ndLs_id (AI nlVs_id ndV_id))))))) ?_
      refine goG Y71_CO True.intro ?_
      refine wG Y71_CO True.intro ?_
      refine AR.callQ4 [0, 1, 2, 3] h3 ndV_eq (AI (@exL_id) (AI (@vaL_id) (AI (@exV_id) (AI (@vaV_id) (AI tsL_id (AI ndLs_id (AI nlVs_id ndV_id))))))) (AI (@exV_ren) (AI (@exL_ren) (AI (@vaV_ren) (AI (@vaL_ren) (AI tsL_ren (AI ndLs_ren (AI nlVs_ren ndV_ren))))))) ?_
      refine goG Y71_CO True.intro ?_
      refine wG Y71_CO k10 ?_
      exact Fin.oneSP (AI (@exL_id) (AI (@vaL_id) (AI (@exV_id) (AI (@vaV_id) (AI tsL_id (AI ndLs_id (AI nlVs_id ndV_id)))))))
  by_cases k11 : s.kind = 11
  · have e13 : nxt sn (s, lp) = sn := by simp [nxt, k11]
    cases lp with
    | false =>
      rw [if_pos (by simp [k11])]
      simp only [show ¬ (21 : Int) = 0 by decide, if_false]
      refine DC.enter 62 Tryz.func71 rfl (by decide) rfl rfl (s := [(0, .pt 0 0), (1, plV (s, false))]) (by rfl) ?_
      simp only [plV_eq]
      refine wG Y71_CO True.intro ?_
      refine AR.callP h1 True.intro (AI (@exL_id) (AI (@vaL_id) (AI (@exV_id) (AI (@vaV_id) (AI tsL_id (AI ndLs_id (AI nlVs_id ndV_id))))))) ?_
      refine goG Y71_CO True.intro ?_
      refine wG Y71_CO True.intro ?_
      refine AR.callP h2 ndV_eq (AI (@exL_id) (AI (@vaL_id) (AI (@exV_id) (AI (@vaV_id) (AI tsL_id (AI ndLs_id (AI nlVs_id ndV_id))))))) ?_
      refine goG Y71_CO True.intro ?_
      refine wG Y71_CO True.intro ?_
      refine AR.callQ4 [0, 1, 2, 3] h3 ndV_eq (AI (@exL_id) (AI (@vaL_id) (AI (@exV_id) (AI (@vaV_id) (AI tsL_id (AI ndLs_id (AI nlVs_id ndV_id))))))) (AI (@exV_ren) (AI (@exL_ren) (AI (@vaV_ren) (AI (@vaL_ren) (AI tsL_ren (AI ndLs_ren (AI nlVs_ren ndV_ren))))))) ?_
      refine goG Y71_CO True.intro ?_
      refine wG Y71_CO (AI k10 k11) ?_
      exact Fin.oneSP (AI (@exL_id) (AI (@vaL_id) (AI (@exV_id) (AI (@vaV_id) (AI tsL_id (AI ndLs_id (AI nlVs_id ndV_id)))))))
    | true =>
      rw [if_neg (by simp), if_neg (by simp [k11])]
      simp only [if_true, e13]
      refine DC.enter 62 Tryz.func71 rfl (by decide) rfl rfl (s := [(0, .pt 0 0), (1, plV (s, true))]) (by rfl) ?_
      simp only [plV_eq]
      refine wG Y71_CO True.intro ?_
      refine AR.callP h1 True.intro (AI (@exL_id) (AI (@vaL_id) (AI (@exV_id) (AI (@vaV_id) (AI tsL_id (AI ndLs_id (AI nlVs_id ndV_id))))))) ?_
      refine goG Y71_CO True.intro ?_
      refine wG Y71_CO True.intro ?_
      refine AR.callP h2 ndV_eq (AI (@exL_id) (AI (@vaL_id) (AI (@exV_id) (AI (@vaV_id) (AI tsL_id (AI ndLs_id (AI nlVs_id ndV_id))))))) ?_
      refine goG Y71_CO True.intro ?_
      refine wG Y71_CO True.intro ?_
      refine AR.callQ4 [0, 1, 2, 3] h3 ndV_eq (AI (@exL_id) (AI (@vaL_id) (AI (@exV_id) (AI (@vaV_id) (AI tsL_id (AI ndLs_id (AI nlVs_id ndV_id))))))) (AI (@exV_ren) (AI (@exL_ren) (AI (@vaV_ren) (AI (@vaL_ren) (AI tsL_ren (AI ndLs_ren (AI nlVs_ren ndV_ren))))))) ?_
      refine goG Y71_CO True.intro ?_
      refine wG Y71_CO (AI k10 k11) ?_
      exact Fin.oneSP (AI (@exL_id) (AI (@vaL_id) (AI (@exV_id) (AI (@vaV_id) (AI tsL_id (AI ndLs_id (AI nlVs_id ndV_id)))))))
  rw [if_neg (by simp [k10, k11])]
  by_cases k13 : s.kind = 13
  case neg =>
    have e13 : nxt sn (s, lp) = sn := by simp [nxt, k13]
    rw [if_neg (by simp [k13])]
    simp only [if_true, e13]
    refine DC.enter 62 Tryz.func71 rfl (by decide) rfl rfl (s := [(0, .pt 0 0), (1, plV (s, lp))]) (by rfl) ?_
    simp only [plV_eq]
    refine wG Y71_CO True.intro ?_
    refine AR.callP h1 True.intro (AI (@exL_id) (AI (@vaL_id) (AI (@exV_id) (AI (@vaV_id) (AI tsL_id (AI ndLs_id (AI nlVs_id ndV_id))))))) ?_
    refine goG Y71_CO True.intro ?_
    refine wG Y71_CO True.intro ?_
    refine AR.callP h2 ndV_eq (AI (@exL_id) (AI (@vaL_id) (AI (@exV_id) (AI (@vaV_id) (AI tsL_id (AI ndLs_id (AI nlVs_id ndV_id))))))) ?_
    refine goG Y71_CO True.intro ?_
    refine wG Y71_CO True.intro ?_
    refine AR.callQ4 [0, 1, 2, 3] h3 ndV_eq (AI (@exL_id) (AI (@vaL_id) (AI (@exV_id) (AI (@vaV_id) (AI tsL_id (AI ndLs_id (AI nlVs_id ndV_id))))))) (AI (@exV_ren) (AI (@exL_ren) (AI (@vaV_ren) (AI (@vaL_ren) (AI tsL_ren (AI ndLs_ren (AI nlVs_ren ndV_ren))))))) ?_
    refine goG Y71_CO True.intro ?_
    refine wG Y71_CO (AI k10 (AI k11 k13)) ?_
    exact Fin.oneSP (AI (@exL_id) (AI (@vaL_id) (AI (@exV_id) (AI (@vaV_id) (AI tsL_id (AI ndLs_id (AI nlVs_id ndV_id)))))))
  have e13 : nxt sn (s, lp) = sn ++ [s.name] := by simp [nxt, k13]
  cases b4 : sn.any fun x => eqS s.name x with
  | true =>
    rw [b4] at h5
    rw [if_pos (by simp [k13])]
    simp only [show ¬ (8 : Int) = 0 by decide, if_false]
    refine DC.enter 62 Tryz.func71 rfl (by decide) rfl rfl (s := [(0, .pt 0 0), (1, plV (s, lp))]) (by rfl) ?_
    simp only [plV_eq]
    refine wG Y71_CO True.intro ?_
    refine AR.callP h1 True.intro (AI (@exL_id) (AI (@vaL_id) (AI (@exV_id) (AI (@vaV_id) (AI tsL_id (AI ndLs_id (AI nlVs_id ndV_id))))))) ?_
    refine goG Y71_CO True.intro ?_
    refine wG Y71_CO True.intro ?_
    refine AR.callP h2 ndV_eq (AI (@exL_id) (AI (@vaL_id) (AI (@exV_id) (AI (@vaV_id) (AI tsL_id (AI ndLs_id (AI nlVs_id ndV_id))))))) ?_
    refine goG Y71_CO True.intro ?_
    refine wG Y71_CO True.intro ?_
    refine AR.callQ4 [0, 1, 2, 3] h3 ndV_eq (AI (@exL_id) (AI (@vaL_id) (AI (@exV_id) (AI (@vaV_id) (AI tsL_id (AI ndLs_id (AI nlVs_id ndV_id))))))) (AI (@exV_ren) (AI (@exL_ren) (AI (@vaV_ren) (AI (@vaL_ren) (AI tsL_ren (AI ndLs_ren (AI nlVs_ren ndV_ren))))))) ?_
    refine goG Y71_CO True.intro ?_
    refine wdG Y71_CO (AI k10 (AI k11 k13)) ?_
    refine AR.callW h5 True.intro (AI (@exL_id) (AI (@vaL_id) (AI (@exV_id) (AI (@vaV_id) (AI tsL_id (AI ndLs_id (AI nlVs_id ndV_id))))))) ?_
    refine goG Y71_CO True.intro ?_
    refine wdG Y71_CO True.intro ?_
    exact Fin.oneSP (AI (@exL_id) (AI (@vaL_id) (AI (@exV_id) (AI (@vaV_id) (AI tsL_id (AI ndLs_id (AI nlVs_id ndV_id)))))))
  | false =>
    rw [b4] at h5
    rw [if_neg (by simp)]
    have hap : sn.map tsV ++ [.im (.string s.name)] = (sn ++ [s.name]).map tsV := by simp [tsV]
    have hln : sn.length + 1 = (sn ++ [s.name]).length := by simp
    have hA : (sn ++ [s.name]).length * 16 ≤ 140737488355328 := by simp; omega
    simp only [if_true, e13]
    generalize sn ++ [s.name] = sn' at hap hln hA ⊢
    refine DC.enter 62 Tryz.func71 rfl (by decide) rfl rfl (s := [(0, .pt 0 0), (1, plV (s, lp))]) (by rfl) ?_
    simp only [plV_eq]
    refine wG Y71_CO True.intro ?_
    refine AR.callP h1 True.intro (AI (@exL_id) (AI (@vaL_id) (AI (@exV_id) (AI (@vaV_id) (AI tsL_id (AI ndLs_id (AI nlVs_id ndV_id))))))) ?_
    refine goG Y71_CO True.intro ?_
    refine wG Y71_CO True.intro ?_
    refine AR.callP h2 ndV_eq (AI (@exL_id) (AI (@vaL_id) (AI (@exV_id) (AI (@vaV_id) (AI tsL_id (AI ndLs_id (AI nlVs_id ndV_id))))))) ?_
    refine goG Y71_CO True.intro ?_
    refine wG Y71_CO True.intro ?_
    refine AR.callQ4 [0, 1, 2, 3] h3 ndV_eq (AI (@exL_id) (AI (@vaL_id) (AI (@exV_id) (AI (@vaV_id) (AI tsL_id (AI ndLs_id (AI nlVs_id ndV_id))))))) (AI (@exV_ren) (AI (@exL_ren) (AI (@vaV_ren) (AI (@vaL_ren) (AI tsL_ren (AI ndLs_ren (AI nlVs_ren ndV_ren))))))) ?_
    refine goG Y71_CO True.intro ?_
    refine wdG Y71_CO (AI k10 (AI k11 k13)) ?_
    refine AR.callW h5 True.intro (AI (@exL_id) (AI (@vaL_id) (AI (@exV_id) (AI (@vaV_id) (AI tsL_id (AI ndLs_id (AI nlVs_id ndV_id))))))) ?_
    refine goG Y71_CO True.intro ?_
    refine wdG Y71_CO (AI hap (AI hln (AI hA @List.length_map.{0, 0}))) ?_
    exact Fin.oneSP (AI (@exL_id) (AI (@vaL_id) (AI (@exV_id) (AI (@vaV_id) (AI tsL_id (AI ndLs_id (AI nlVs_id ndV_id)))))))
end Go.Proofs.YtfggemopnlffeaaGreat
