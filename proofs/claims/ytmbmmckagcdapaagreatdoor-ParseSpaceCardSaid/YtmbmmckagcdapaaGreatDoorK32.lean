import Derived.Test.YtmbmmckagcdapaaGreatDoorK10
import Derived.Test.YtmbmmckagcdapaaGreatDoorK31
import Derived.Test.YtmbmmckagcdapaaGreatDoorK28
set_option linter.unusedSimpArgs false
set_option linter.unusedVariables false
set_option linter.unnecessarySimpa false
namespace Go.Proofs.YtmbmmckagcdapaaGreatDoor
open Go.RowKit
def symT (vs : List Va) (fs ls : List ByteArray) (s : Nd) : Bool := s.e.all (knw vs) && (if s.kind == 1 || s.kind == 3 then has vs s.name else if s.kind == 5 then fs.any (fun x => eqS s.name x) else if s.kind == 12 then ls.any (fun x => eqS s.name x) else true)
theorem Y164_CN : type_of% (AI @F_ag_3 (AI @F_ag_34 (AI @F_ag_44 (AI @F_ag_46 (AI @F_ag_84 (AI @F_ag_9 (AI @F_al_46 (AI @F_el_44 (AI @F_fl_162_0 (AI @F_fl_162_1 (AI @F_fl_162_2 (AI @F_fl_165_0 (AI @F_fl_165_2 (AI @F_fl_165_3 (AI @F_sz_3 (AI @F_sz_34 (AI @F_sz_44 (AI @F_sz_46 (AI @F_sz_84 (@F_sz_9)))))))))))))))))))) := AI @F_ag_3 (AI @F_ag_34 (AI @F_ag_44 (AI @F_ag_46 (AI @F_ag_84 (AI @F_ag_9 (AI @F_al_46 (AI @F_el_44 (AI @F_fl_162_0 (AI @F_fl_162_1 (AI @F_fl_162_2 (AI @F_fl_165_0 (AI @F_fl_165_2 (AI @F_fl_165_3 (AI @F_sz_3 (AI @F_sz_34 (AI @F_sz_44 (AI @F_sz_46 (AI @F_sz_84 (@F_sz_9)))))))))))))))))))
theorem c_symbols (vs : List Va) (hv : vs.length ≤ 4194304) (fs ls sn : List ByteArray) (hfs : fs.length ≤ 4194304) (hls : ls.length ≤ 4194304) (s : Nd) (hf : fitN s) (hfm : ∀ x ∈ s.e, efm x = true) : DC Tryz.prog 164 [.pt 0 0, ndV s] [.box [(V.fn (.func 154) [] [.pt 1 0]), .sl (fs.map tsV) .ro, .sl (ls.map tsV) (.own 2), .sl ((sn).map tsV) (.own 3)], .box [(V.sl (vs.map vaV) .ro)], .tip 9 1 ls.length, .tip 9 1 (sn).length] (.im (.bool (symT vs fs ls s))) [.box [(V.fn (.func 154) [] [.pt 1 0]), .sl (fs.map tsV) .ro, .sl (ls.map tsV) (.own 2), .sl ((sn).map tsV) (.own 3)], .box [(V.sl (vs.map vaV) .ro)], .tip 9 1 ls.length, .tip 9 1 (sn).length] := by
  obtain ⟨hI, hsz, ⟨he1, he2⟩, h4, h5, h6, h7⟩ := fitN_inv hf
  have h1 := c_among1 vs hv s.name
  have h2 := c_containsT fs hfs s.name
  have h3 := c_containsT ls hls s.name
  refine DC.enter 52 Tryz.func164 rfl (by decide) rfl rfl (s := [(0, .pt 0 0), (1, ndV s)]) (by rfl) ?_
  rw [ndV_eq s]
  refine wG Y164_CN True.intro ?_
  refine AWp.loop ?_
  refine ALp.cutP 5 [(0, .pt 0 0), (3, .pt 4 0), (4, (.im (.bool (false)))), (8, .sl (s.e.map exV) .ro), (9, (.im (.int .i64 (s.e.length)))), (10, (.im (.int .i64 ((((0 : Nat)) : Int)))))] [.box [(V.fn (.func 154) [] [.pt 1 0]), .sl (fs.map tsV) .ro, .sl (ls.map tsV) (.own 2), .sl ((sn).map tsV) (.own 3)], .box [(V.sl (vs.map vaV) .ro)], .tip 9 1 ls.length, .tip 9 1 (sn).length, .box [.im (.int .i64 (s).kind), .im (.int .i64 (s).width), .im (.string (s).name), .sl ((s).e.map exV) .ro, .sl ((s).l.map ndV) .ro, .sl ((s).el.map ndV) .ro, .sl ((s).cs.map nlV) .ro]] BN01 ?_
  refine ALp.upto s.e.length (AllTo (knw vs) s.e) (fun m => ⟨dn 52 [(0, .pt 0 0), (3, .pt 4 0), (4, (.im (.bool (false)))), (8, .sl (s.e.map exV) .ro), (9, (.im (.int .i64 (s.e.length)))), (10, (.im (.int .i64 ((((m : Nat)) : Int)))))], ofl [.box [(V.fn (.func 154) [] [.pt 1 0]), .sl (fs.map tsV) .ro, .sl (ls.map tsV) (.own 2), .sl ((sn).map tsV) (.own 3)], .box [(V.sl (vs.map vaV) .ro)], .tip 9 1 ls.length, .tip 9 1 (sn).length, .box [.im (.int .i64 (s).kind), .im (.int .i64 (s).width), .im (.string (s).name), .sl ((s).e.map exV) .ro, .sl ((s).l.map ndV) .ro, .sl ((s).el.map ndV) .ro, .sl ((s).cs.map nlV) .ro]]⟩) ?_ 0 (Nat.zero_le _) (AllTo.zero _ _)
  intro m hm hI hnext
  by_cases hlt : m < s.e.length
  · have hlt' : (m : Int) < (s.e.length : Int) := by omega
    have hm1 := wrap_succ hlt (by omega)
    have hg := get_some hlt; have hc := c_known vs hv s.e[m] (he2 _ (List.getElem_mem hlt)) (hfm _ (List.getElem_mem hlt)); refine wdG Y164_CN (AI hlt' (AI hg EX)) ?_; cases b : knw vs s.e[m] with
    | false =>
      rw [b] at hc; have hr : symT vs fs ls s = false := by unfold symT; rw [not_all_of hlt b, Bool.false_and]
      rw [hr]; refine AR.callQP [1] hc @exV_eq BN01 BN10 ?_; refine goG Y164_CN True.intro ?_; refine wdG Y164_CN True.intro ?_; exact Fin.oneSP BN01
    | true =>
      rw [b] at hc; refine AR.callQP [1] hc @exV_eq BN01 BN10 ?_; refine goG Y164_CN True.intro ?_; refine wdG Y164_CN hm1 ?_; refine ALp.cutP 5 [(0, .pt 0 0), (3, .pt 4 0), (4, (.im (.bool (false)))), (8, .sl (s.e.map exV) .ro), (9, (.im (.int .i64 (s.e.length)))), (10, (.im (.int .i64 ((((m + 1 : Nat)) : Int)))))] [.box [(V.fn (.func 154) [] [.pt 1 0]), .sl (fs.map tsV) .ro, .sl (ls.map tsV) (.own 2), .sl ((sn).map tsV) (.own 3)], .box [(V.sl (vs.map vaV) .ro)], .tip 9 1 ls.length, .tip 9 1 (sn).length, .box [.im (.int .i64 (s).kind), .im (.int .i64 (s).width), .im (.string (s).name), .sl ((s).e.map exV) .ro, .sl ((s).l.map ndV) .ro, .sl ((s).el.map ndV) .ro, .sl ((s).cs.map nlV) .ro]] BN01 ?_; exact hnext (m + 1) (by omega) (by omega) (hI.succ hlt b)
  obtain rfl : m = s.e.length := by omega
  clear hnext
  have hall : s.e.all (knw vs) = true := List.all_eq_true.2 fun x hx => by
    obtain ⟨j, hj, rfl⟩ := List.getElem_of_mem hx; exact hI j hj hj
  unfold symT
  rw [hall, Bool.true_and]
  by_cases k1 : s.kind = 1
  · rw [if_pos (by simp [k1])]
    refine wdG Y164_CN (AI (@Int.lt_irrefl) k1) ?_; refine AR.callQP [1] h1 True.intro BN01 BN10 ?_; refine goG Y164_CN True.intro ?_; refine wdG Y164_CN True.intro ?_; exact Fin.oneSP BN01
  by_cases k3 : s.kind = 3
  · rw [if_pos (by simp [k3])]
    refine wdG Y164_CN (AI (@Int.lt_irrefl) k3) ?_; refine AR.callQP [1] h1 True.intro BN01 BN10 ?_; refine goG Y164_CN True.intro ?_; refine wdG Y164_CN True.intro ?_; exact Fin.oneSP BN01
  rw [if_neg (by simp [k1, k3])]
  by_cases k5 : s.kind = 5
  · rw [if_pos (by simp [k5])]
    refine wdG Y164_CN (AI (@Int.lt_irrefl) k5) ?_; refine AR.callP h2 True.intro BN01 ?_; refine goG Y164_CN True.intro ?_; refine wdG Y164_CN True.intro ?_; exact Fin.oneSP BN01
  rw [if_neg (by simp [k5])]
  by_cases k12 : s.kind = 12
  · rw [if_pos (by simp [k12])]
    refine wdG Y164_CN (AI (@Int.lt_irrefl) k12) ?_; refine AR.callW h3 True.intro BN01 ?_; refine goG Y164_CN True.intro ?_; refine wdG Y164_CN True.intro ?_; exact Fin.oneSP BN01
  rw [if_neg (by simp [k12])]
  refine wdG Y164_CN (AI (@Int.lt_irrefl) (AI k1 (AI k3 (AI k5 k12)))) ?_
  exact Fin.oneSP BN01
theorem Y163_CN : type_of% (AI @F_ag_46 (@F_sz_46)) := AI @F_ag_46 (@F_sz_46)
theorem c_check1 {x : Ex} {r : Bool} (h : PC Tryz.prog 73 [exV x, (.im (.int .i64 (64)))] (.im (.bool (r)))) : PC Tryz.prog 163 [exV x] (.im (.bool (!r))) := by
  refine PC.enter 6 Tryz.func163 rfl (by decide) rfl rfl (s := [(0, exV x)]) (by rfl) ?_
  rw [exV_eq x] at h ⊢
  refine wG Y163_CN True.intro ?_
  refine AR.callP h True.intro BN01 ?_
  refine goG Y163_CN True.intro ?_
  refine wG Y163_CN True.intro ?_
  exact Fin.oneP
theorem AR.callQ4 {P : Program} {N : Nat} {ops : Array Oper} {dr : Bool} {Q : Exit → St → Prop} {d : Option Tmp} {c : Operand} {args : Array Operand} {tys : Array TypeId} {ty : TypeId} {pos : String} {af : Array Edge} {g : Option (Nat × Bool)} {os : List Oper} {k : Nat} {s : List (Nat × V)} {l : List Ent}
    {acc : List (Nat × List Nat × List Nat)} {f : FuncId} {us vs xs xs' : List V} {r r' : V} {l0 : List Ent} {F E M : Prop} (js : List Nat) (h : DC P f xs l0 r l0) (fa : F) (fi : E) (fr : M)
    (n : AR P ops dr Q os (k + 1) ⟨dn N (putA s d r'), ofl l⟩ ((k, (renE js 0 l0).map Prod.fst, []) :: acc)) (hg : gd ops ⟨d, .call { callee := .value c, args := args, argTypes := tys }, ty, pos, af, g⟩ ⟨dn N s, ofl l⟩ = some true := by rfl) (hc : St.ev ⟨dn N s, ofl l⟩ c = .fn (.func f) us vs := by rfl)
    (hx : M → V.renL (gOf js) xs = xs' := by intro f; first | (simp only [SR, f]; done) | (simp only [SR, f]; with_reducible exact rfl)) (hr : M → V.ren (gOf js) r = r' := by intro f; first | (simp only [SR, f]; done) | (simp only [SR, f]; with_reducible exact rfl))
    (hw : F → WkL (us ++ args.toList.map (St.ev ⟨dn N s, ofl l⟩) ++ vs) xs' := by intro f; exact WkL.of_eq (by simp only [St.ev, V.ofVal, V.ofCell, V.size_im, getD_dn, look_cons, look_nil, Nat.reduceLT, Nat.reduceEqDiff, reduceIte, if_true, if_false, List.map_cons, List.map_nil, List.nil_append, List.cons_append, List.append_nil, f])) (hi : E → V.idsL (ltB js.length) xs = true := by intro f; first | rfl | simp only [List.length_cons, List.length_nil, Nat.reduceAdd, V.ids, V.idsL, idsA, entOk, List.all_cons, List.all_nil, Bool.and_self, Bool.and_true, Bool.true_and, ltB, noId, Nat.reduceLT, decide_true, Bool.true_eq_false, tyV_id, fdV_id, tyL_id, fdL_id, f])
    (hnd : decide js.Nodup = true := by rfl) (h0 : l0.length = js.length := by rfl) (he : E → l0.all (entOk (ltB js.length)) = true := by intro f; first | rfl | simp only [List.length_cons, List.length_nil, Nat.reduceAdd, V.ids, V.idsL, idsA, entOk, List.all_cons, List.all_nil, Bool.and_self, Bool.and_true, Bool.true_and, ltB, noId, Nat.reduceLT, decide_true, Bool.true_eq_false, tyV_id, fdV_id, tyL_id, fdL_id, f])
    (hl : M → ∀ p ∈ renE js 0 l0, ofl l p.1 = p.2 := by intro f p hp; simp only [renE, SR, Ent.ren, List.mem_cons, List.not_mem_nil, or_false, f] at hp; first | (rcases hp with rfl | rfl | rfl | rfl <;> rfl) | (rcases hp with rfl | rfl | rfl | rfl | rfl <;> rfl) | (rcases hp with rfl <;> rfl) | (rcases hp with rfl | rfl <;> rfl) | (rcases hp with rfl | rfl | rfl <;> rfl)) :
    AR P ops dr Q (⟨d, .call { callee := .value c, args := args, argTypes := tys }, ty, pos, af, g⟩ :: os) k ⟨dn N s, ofl l⟩ acc := AR.callQ js h hg hc (hx fr) (hr fr) (hw fa) (hi fi) hnd h0 (he fi) (hl fr) n
def chk1 (vs : List Va) (fs ls sn : List ByteArray) (p : Nd × Bool) : Int :=
  if !(p.1.e.all fun x => esh x 64) then 20 else if !stT p.1 then 2 else if !symT vs fs ls p.1 then 17 else if (p.1.kind == 10 || p.1.kind == 11) && !p.2 then 21 else if p.1.kind == 13 && sn.any (fun x => eqS p.1.name x) then 8 else 0
def nxt (sn : List ByteArray) (p : Nd × Bool) : List ByteArray := if p.1.kind == 13 then sn ++ [p.1.name] else sn
theorem stT_efm {s : Nd} (h : stT s = true) : ∀ x ∈ s.e, efm x = true := by
  unfold stT at h
  simp only [Bool.and_eq_true, List.all_eq_true] at h
  exact h.2
theorem Y97_CO : type_of% (AI @F_ag_165 (AI @F_ag_3 (AI @F_ag_4 (AI @F_ag_44 (AI @F_ag_84 (AI @F_ag_9 (AI @F_al_9 (AI @F_by_9 (AI @F_el_84 (AI @F_fl_162_3 (AI @F_fl_165_0 (AI @F_fl_165_2 (AI @F_fl_165_3 (AI @F_fl_167_0 (AI @F_fl_167_1 (AI @F_sz_165 (AI @F_sz_3 (AI @F_sz_4 (AI @F_sz_44 (AI @F_sz_84 (@F_sz_9))))))))))))))))))))) := AI @F_ag_165 (AI @F_ag_3 (AI @F_ag_4 (AI @F_ag_44 (AI @F_ag_84 (AI @F_ag_9 (AI @F_al_9 (AI @F_by_9 (AI @F_el_84 (AI @F_fl_162_3 (AI @F_fl_165_0 (AI @F_fl_165_2 (AI @F_fl_165_3 (AI @F_fl_167_0 (AI @F_fl_167_1 (AI @F_sz_165 (AI @F_sz_3 (AI @F_sz_4 (AI @F_sz_44 (AI @F_sz_84 (@F_sz_9))))))))))))))))))))
set_option maxHeartbeats 1000000 in
theorem c_checkS (vs : List Va) (hv : vs.length ≤ 4194304) (fs ls sn : List ByteArray) (hfs : fs.length ≤ 4194304) (hls : ls.length ≤ 4194304) (hsn : sn.length ≤ 4194304) (p : Nd × Bool) (hf : fitN p.1) :
    DC Tryz.prog 97 [.pt 0 0, plV p] [.box [(V.fn (.func 154) [] [.pt 1 0]), .sl (fs.map tsV) .ro, .sl (ls.map tsV) (.own 2), .sl ((sn).map tsV) (.own 3)], .box [(V.sl (vs.map vaV) .ro)], .tip 9 1 ls.length, .tip 9 1 (sn).length] (.im (.int .i64 (chk1 vs fs ls sn p))) [.box [(V.fn (.func 154) [] [.pt 1 0]), .sl (fs.map tsV) .ro, .sl (ls.map tsV) (.own 2), .sl ((if chk1 vs fs ls sn p = 0 then nxt sn p else sn).map tsV) (.own 3)], .box [(V.sl (vs.map vaV) .ro)], .tip 9 1 ls.length, .tip 9 1 (if chk1 vs fs ls sn p = 0 then nxt sn p else sn).length] := by
  obtain ⟨s, lp⟩ := p
  obtain ⟨hI, hsz, ⟨he1, he2⟩, h4, h5, h6, h7⟩ := fitN_inv hf
  have h1 := c_containsE0 (gs := s.e) (F := 163) (fun x => !esh x 64) he1 (fun t ht => c_check1 (c_eshallow t (he2 t ht) 64 (by decide)))
  rw [← List.not_all_eq_any_not] at h1
  have h2 := c_statement s hf
  have h5 := c_containsT sn hsn s.name
  unfold chk1
  simp only
  cases b1 : s.e.all fun x => esh x 64 with
  | false =>
    rw [b1] at h1; simp only [Bool.not_false, if_true, show ¬ (20 : Int) = 0 by decide, if_false]
    refine DC.enter 62 Tryz.func97 rfl (by decide) rfl rfl (s := [(0, .pt 0 0), (1, plV (s, lp))]) (by rfl) ?_
    simp only [plV_eq]; refine wG Y97_CO True.intro ?_; refine AR.callP h1 True.intro BN01 ?_; refine goG Y97_CO True.intro ?_; refine wG Y97_CO True.intro ?_; exact Fin.oneSP BN01
  | true =>
  rw [b1] at h1
  simp only [Bool.not_true, Bool.false_eq_true, if_false]
  cases b2 : stT s with
  | false =>
    rw [b2] at h2; simp only [Bool.not_false, if_true, show ¬ (2 : Int) = 0 by decide, if_false]
    refine DC.enter 62 Tryz.func97 rfl (by decide) rfl rfl (s := [(0, .pt 0 0), (1, plV (s, lp))]) (by rfl) ?_
    simp only [plV_eq]; refine wG Y97_CO True.intro ?_; refine AR.callP h1 True.intro BN01 ?_; refine goG Y97_CO True.intro ?_; refine wG Y97_CO True.intro ?_; refine AR.callP h2 ndV_eq BN01 ?_; refine goG Y97_CO True.intro ?_; refine wG Y97_CO True.intro ?_; exact Fin.oneSP BN01
  | true =>
  rw [b2] at h2
  simp only [Bool.not_true, Bool.false_eq_true, if_false]
  have h3 := c_symbols vs hv fs ls sn hfs hls s hf (stT_efm b2)
  cases b3 : symT vs fs ls s with
  | false =>
    rw [b3] at h3; simp only [Bool.not_false, if_true, show ¬ (17 : Int) = 0 by decide, if_false]
    refine DC.enter 62 Tryz.func97 rfl (by decide) rfl rfl (s := [(0, .pt 0 0), (1, plV (s, lp))]) (by rfl) ?_
    simp only [plV_eq]; refine wG Y97_CO True.intro ?_; refine AR.callP h1 True.intro BN01 ?_; refine goG Y97_CO True.intro ?_; refine wG Y97_CO True.intro ?_; refine AR.callP h2 ndV_eq BN01 ?_; refine goG Y97_CO True.intro ?_; refine wG Y97_CO True.intro ?_; refine AR.callQ4 [0, 1, 2, 3] h3 ndV_eq BN01 BN06 ?_; refine goG Y97_CO True.intro ?_; refine wG Y97_CO True.intro ?_; exact Fin.oneSP BN01
  | true =>
  rw [b3] at h3
  simp only [Bool.not_true, Bool.false_eq_true, if_false]
  by_cases k10 : s.kind = 10
  · have e13 : nxt sn (s, lp) = sn := by simp [nxt, k10]
    cases lp with
    | false =>
      rw [if_pos (by simp [k10])]
      simp only [show ¬ (21 : Int) = 0 by decide, if_false]
      refine DC.enter 62 Tryz.func97 rfl (by decide) rfl rfl (s := [(0, .pt 0 0), (1, plV (s, false))]) (by rfl) ?_
      simp only [plV_eq]; refine wG Y97_CO True.intro ?_; refine AR.callP h1 True.intro BN01 ?_; refine goG Y97_CO True.intro ?_; refine wG Y97_CO True.intro ?_; refine AR.callP h2 ndV_eq BN01 ?_; refine goG Y97_CO True.intro ?_; refine wG Y97_CO True.intro ?_; refine AR.callQ4 [0, 1, 2, 3] h3 ndV_eq BN01 BN06 ?_; refine goG Y97_CO True.intro ?_; refine wG Y97_CO k10 ?_; exact Fin.oneSP BN01
    | true =>
      rw [if_neg (by simp), if_neg (by simp [k10])]
      simp only [if_true, e13]; refine DC.enter 62 Tryz.func97 rfl (by decide) rfl rfl (s := [(0, .pt 0 0), (1, plV (s, true))]) (by rfl) ?_
      simp only [plV_eq]; refine wG Y97_CO True.intro ?_; refine AR.callP h1 True.intro BN01 ?_; refine goG Y97_CO True.intro ?_; refine wG Y97_CO True.intro ?_; refine AR.callP h2 ndV_eq BN01 ?_; refine goG Y97_CO True.intro ?_; refine wG Y97_CO True.intro ?_; refine AR.callQ4 [0, 1, 2, 3] h3 ndV_eq BN01 BN06 ?_; refine goG Y97_CO True.intro ?_; refine wG Y97_CO k10 ?_; exact Fin.oneSP BN01
  by_cases k11 : s.kind = 11
  · have e13 : nxt sn (s, lp) = sn := by simp [nxt, k11]
    cases lp with
    | false =>
      rw [if_pos (by simp [k11])]
      simp only [show ¬ (21 : Int) = 0 by decide, if_false]
      refine DC.enter 62 Tryz.func97 rfl (by decide) rfl rfl (s := [(0, .pt 0 0), (1, plV (s, false))]) (by rfl) ?_
      simp only [plV_eq]; refine wG Y97_CO True.intro ?_; refine AR.callP h1 True.intro BN01 ?_; refine goG Y97_CO True.intro ?_; refine wG Y97_CO True.intro ?_; refine AR.callP h2 ndV_eq BN01 ?_; refine goG Y97_CO True.intro ?_; refine wG Y97_CO True.intro ?_; refine AR.callQ4 [0, 1, 2, 3] h3 ndV_eq BN01 BN06 ?_; refine goG Y97_CO True.intro ?_; refine wG Y97_CO (AI k10 k11) ?_; exact Fin.oneSP BN01
    | true =>
      rw [if_neg (by simp), if_neg (by simp [k11])]
      simp only [if_true, e13]; refine DC.enter 62 Tryz.func97 rfl (by decide) rfl rfl (s := [(0, .pt 0 0), (1, plV (s, true))]) (by rfl) ?_
      simp only [plV_eq]; refine wG Y97_CO True.intro ?_; refine AR.callP h1 True.intro BN01 ?_; refine goG Y97_CO True.intro ?_; refine wG Y97_CO True.intro ?_; refine AR.callP h2 ndV_eq BN01 ?_; refine goG Y97_CO True.intro ?_; refine wG Y97_CO True.intro ?_; refine AR.callQ4 [0, 1, 2, 3] h3 ndV_eq BN01 BN06 ?_; refine goG Y97_CO True.intro ?_; refine wG Y97_CO (AI k10 k11) ?_; exact Fin.oneSP BN01
  rw [if_neg (by simp [k10, k11])]
  by_cases k13 : s.kind = 13
  case neg =>
    have e13 : nxt sn (s, lp) = sn := by simp [nxt, k13]
    rw [if_neg (by simp [k13])]
    simp only [if_true, e13]; refine DC.enter 62 Tryz.func97 rfl (by decide) rfl rfl (s := [(0, .pt 0 0), (1, plV (s, lp))]) (by rfl) ?_
    simp only [plV_eq]; refine wG Y97_CO True.intro ?_; refine AR.callP h1 True.intro BN01 ?_; refine goG Y97_CO True.intro ?_; refine wG Y97_CO True.intro ?_; refine AR.callP h2 ndV_eq BN01 ?_; refine goG Y97_CO True.intro ?_; refine wG Y97_CO True.intro ?_; refine AR.callQ4 [0, 1, 2, 3] h3 ndV_eq BN01 BN06 ?_; refine goG Y97_CO True.intro ?_; refine wG Y97_CO (AI k10 (AI k11 k13)) ?_; exact Fin.oneSP BN01
  have e13 : nxt sn (s, lp) = sn ++ [s.name] := by simp [nxt, k13]
  cases b4 : sn.any fun x => eqS s.name x with
  | true =>
    rw [b4] at h5; rw [if_pos (by simp [k13])]
    simp only [show ¬ (8 : Int) = 0 by decide, if_false]
    refine DC.enter 62 Tryz.func97 rfl (by decide) rfl rfl (s := [(0, .pt 0 0), (1, plV (s, lp))]) (by rfl) ?_
    simp only [plV_eq]; refine wG Y97_CO True.intro ?_; refine AR.callP h1 True.intro BN01 ?_; refine goG Y97_CO True.intro ?_; refine wG Y97_CO True.intro ?_; refine AR.callP h2 ndV_eq BN01 ?_; refine goG Y97_CO True.intro ?_; refine wG Y97_CO True.intro ?_; refine AR.callQ4 [0, 1, 2, 3] h3 ndV_eq BN01 BN06 ?_; refine goG Y97_CO True.intro ?_; refine wdG Y97_CO (AI k10 (AI k11 k13)) ?_; refine AR.callW h5 True.intro BN01 ?_; refine goG Y97_CO True.intro ?_; refine wdG Y97_CO True.intro ?_; exact Fin.oneSP BN01
  | false =>
    rw [b4] at h5; rw [if_neg (by simp)]
    have hap : sn.map tsV ++ [.im (.string s.name)] = (sn ++ [s.name]).map tsV := by simp [tsV]
    have hln : sn.length + 1 = (sn ++ [s.name]).length := by simp
    have hA : (sn ++ [s.name]).length * 16 ≤ 140737488355328 := by simp; omega
    simp only [if_true, e13]; generalize sn ++ [s.name] = sn' at hap hln hA ⊢; refine DC.enter 62 Tryz.func97 rfl (by decide) rfl rfl (s := [(0, .pt 0 0), (1, plV (s, lp))]) (by rfl) ?_
    simp only [plV_eq]; refine wG Y97_CO True.intro ?_; refine AR.callP h1 True.intro BN01 ?_; refine goG Y97_CO True.intro ?_; refine wG Y97_CO True.intro ?_; refine AR.callP h2 ndV_eq BN01 ?_; refine goG Y97_CO True.intro ?_; refine wG Y97_CO True.intro ?_; refine AR.callQ4 [0, 1, 2, 3] h3 ndV_eq BN01 BN06 ?_; refine goG Y97_CO True.intro ?_; refine wdG Y97_CO (AI k10 (AI k11 k13)) ?_; refine AR.callW h5 True.intro BN01 ?_; refine goG Y97_CO True.intro ?_; refine wdG Y97_CO (AI hap (AI hln (AI hA @List.length_map.{0, 0}))) ?_; exact Fin.oneSP BN01
def labs (l : List (Nd × Bool)) : List ByteArray := l.flatMap fun p => if p.1.kind == 13 then [p.1.name] else []
theorem labs_step {l : List (Nd × Bool)} {m : Nat} (h : m < l.length) : labs (l.take (m + 1)) = if l[m].1.kind == 13 then labs (l.take m) ++ [l[m].1.name] else labs (l.take m) := by
  unfold labs
  rw [← flatMap_snoc _ h]
  split <;> simp
def runS (vs : List Va) (fs ls : List ByteArray) : List ByteArray → List (Nd × Bool) → Int
  | _, [] => 0
  | sn, p :: r => if chk1 vs fs ls sn p = 0 then runS vs fs ls (nxt sn p) r else chk1 vs fs ls sn p
theorem runS_cons (vs : List Va) (fs ls sn : List ByteArray) (p : Nd × Bool) (r : List (Nd × Bool)) : runS vs fs ls sn (p :: r) = if chk1 vs fs ls sn p = 0 then runS vs fs ls (nxt sn p) r else chk1 vs fs ls sn p := rfl
def seenS : List ByteArray → List (Nd × Bool) → List ByteArray
  | sn, [] => sn
  | sn, p :: r => seenS (nxt sn p) r
theorem seenS_append (sn : List ByteArray) (a b : List (Nd × Bool)) : seenS sn (a ++ b) = seenS (seenS sn a) b := by
  induction a generalizing sn with
  | nil => rfl
  | cons x a ih => exact ih _
theorem seenS_len (sn : List ByteArray) (l : List (Nd × Bool)) : (seenS sn l).length ≤ sn.length + l.length := by
  induction l generalizing sn with
  | nil => exact Nat.le_refl _
  | cons x l ih =>
    have := ih (nxt sn x); have h2 : (nxt sn x).length ≤ sn.length + 1 := by unfold nxt; split <;> simp
    simp only [seenS, List.length_cons]; omega
theorem labs_len (l : List (Nd × Bool)) : (labs l).length ≤ l.length := by
  induction l with
  | nil => exact Nat.le_refl _
  | cons x l ih =>
    unfold labs at ih ⊢; rw [List.flatMap_cons, List.length_append, List.length_cons]; have : (if x.1.kind == 13 then [x.1.name] else []).length ≤ 1 := by split <;> simp
    omega
theorem all_fit : ∀ (l : List Nd), fitNL l → ∀ lp, ∀ p ∈ allL l lp, fitN p.1 := by
  refine subs_induct fun l hl hf lp p hp => ?_
  obtain ⟨t, ht, hp⟩ := List.mem_flatMap.1 hp
  rw [allT_eq] at hp
  rcases List.mem_cons.1 hp with rfl | hp
  · exact hf.2 t ht
  · obtain ⟨c, hc, hp⟩ := List.mem_flatMap.1 hp
    exact hl t ht c hc ((fit_subs (hf.2 t ht)).2 c hc) _ p hp
def bodyE (gs : List Va) (f : Fun) (fs : List ByteArray) : Int :=
  if 256 < gs.length + f.vars.length then 6 else if vErr gs f.vars ≠ 0 then vErr gs f.vars else if 64 < dep f.body then 20 else if 1024 < cnt f.body then 6 else runS (gs ++ f.vars) fs (labs (allL f.body false)) [] (allL f.body false)
theorem plV_ren (g : Nat → Nat) (x : Nd × Bool) : V.ren g (plV x) = plV x := V.ren_id g _ (plV_id _ x)
theorem PL : type_of% (AI @plV_firm (AI @plV_strip (AI @plV_live (AI @plV_size (AI @plV_isAg (AI @plV_cells (AI @List.getElem?_map.{0, 0} @Int.natCast_nonneg))))))) :=
  AI @plV_firm (AI @plV_strip (AI @plV_live (AI @plV_size (AI @plV_isAg (AI @plV_cells (AI @List.getElem?_map.{0, 0} @Int.natCast_nonneg))))))
theorem Y45_CP : type_of% (AI @F_ag_165 (AI @F_ag_167 (AI @F_ag_23 (AI @F_ag_3 (AI @F_ag_35 (AI @F_ag_84 (AI @F_ag_9 (AI @F_al_162 (AI @F_al_167 (AI @F_al_23 (AI @F_al_9 (AI @F_by_9 (AI @F_el_157 (AI @F_el_215 (AI @F_el_23 (AI @F_el_84 (AI @F_fl_162_2 (AI @F_fl_165_0 (AI @F_fl_165_2 (AI @F_fl_167_0 (AI @F_fl_27_0 (AI @F_fl_37_1 (AI @F_fl_37_2 (AI @F_st_162 (AI @F_sz_165 (AI @F_sz_167 (AI @F_sz_23 (AI @F_sz_3 (AI @F_sz_35 (AI @F_sz_84 (AI @F_sz_9 (@F_sz_96)))))))))))))))))))))))))))))))) := AI @F_ag_165 (AI @F_ag_167 (AI @F_ag_23 (AI @F_ag_3 (AI @F_ag_35 (AI @F_ag_84 (AI @F_ag_9 (AI @F_al_162 (AI @F_al_167 (AI @F_al_23 (AI @F_al_9 (AI @F_by_9 (AI @F_el_157 (AI @F_el_215 (AI @F_el_23 (AI @F_el_84 (AI @F_fl_162_2 (AI @F_fl_165_0 (AI @F_fl_165_2 (AI @F_fl_167_0 (AI @F_fl_27_0 (AI @F_fl_37_1 (AI @F_fl_37_2 (AI @F_st_162 (AI @F_sz_165 (AI @F_sz_167 (AI @F_sz_23 (AI @F_sz_3 (AI @F_sz_35 (AI @F_sz_84 (AI @F_sz_9 (@F_sz_96)))))))))))))))))))))))))))))))
set_option maxHeartbeats 2000000 in
theorem c_body (u : Un) (f : Fun) (fs : List ByteArray) (hg : u.globals.length ≤ 2097152) (hv : f.vars.length ≤ 2097152) (hvn : fitVN f.vars) (hb : fitNL f.body) (hc : cnt f.body ≤ 4194304) (hfs : fs.length ≤ 4194304) :
    PC Tryz.prog 45 [unV u, fnV f, .sl (fs.map tsV) .ro] (.im (.int .i64 (bodyE u.globals f fs))) := by
  have h1 := c_variablesE u.globals f.vars (by omega) hvn
  have h2 := c_depth f.body hb hc
  have h3 := c_all f.body hb hc false
  have hlen := allL_len f.body false
  have hw : IntKind.i64.wrap ((u.globals.length : Int) + (f.vars.length : Int)) = (u.globals.length : Int) + (f.vars.length : Int) := wrap_in (by omega)
  unfold bodyE
  refine PC.enter 87 Tryz.func45 rfl (by decide) rfl rfl (s := [(0, unV u), (1, fnV f), (2, .sl (fs.map tsV) .ro)]) (by rfl) ?_
  simp only [unV_eq, fnV_eq]
  by_cases b1 : 256 < u.globals.length + f.vars.length
  · have b1' : (256 : Int) < (u.globals.length : Int) + (f.vars.length : Int) := by omega
    rw [if_pos b1]; refine wG Y45_CP (AI hw (AI b1' @List.length_map.{0, 0})) ?_; exact Fin.oneP
  have b1' : ¬ (256 : Int) < (u.globals.length : Int) + (f.vars.length : Int) := by omega
  rw [if_neg b1]
  refine wG Y45_CP (AI hw (AI b1' @List.length_map.{0, 0})) ?_
  refine AR.callP h1 True.intro BN05 ?_
  by_cases b2 : vErr u.globals f.vars = 0
  case neg =>
    rw [if_pos b2]; refine goG Y45_CP b2 ?_; refine wG Y45_CP b2 ?_; exact Fin.oneP
  rw [if_neg (by simp [b2])]
  rw [b2]
  refine goG Y45_CP True.intro ?_
  refine wG Y45_CP True.intro ?_
  refine AR.callP h2 True.intro BN05 ?_
  by_cases b3 : 64 < dep f.body
  · rw [if_pos b3]
    refine goG Y45_CP b3 ?_; refine wG Y45_CP b3 ?_; exact Fin.oneP
  rw [if_neg b3]
  refine goG Y45_CP b3 ?_
  refine wG Y45_CP b3 ?_
  refine AR.callP h3 True.intro BN05 ?_
  by_cases b4 : 1024 < cnt f.body
  · have b4' : (1024 : Int) < (cnt f.body : Int) := by omega
    rw [if_pos b4]; refine goG Y45_CP True.intro ?_; refine wG Y45_CP (AI b4' (AI (@List.length_map.{0, 0}) hlen)) ?_; exact Fin.oneP
  have b4' : ¬ (1024 : Int) < (cnt f.body : Int) := by omega
  rw [if_neg b4]
  refine goG Y45_CP True.intro ?_
  refine wG Y45_CP (AI b4' (AI (@List.length_map.{0, 0}) hlen)) ?_
  have h4 := c_concatV (xss := [u.globals.map vaV, f.vars.map vaV]) (by simp) (by
    intro xs hx; simp only [List.mem_cons, List.not_mem_nil, or_false] at hx; rcases hx with rfl | rfl
    · exact vaL_all _
    · exact vaL_all _) (by
    intro p xs hx; simp only [List.mem_cons, List.not_mem_nil, or_false] at hx; rcases hx with rfl | rfl
    · exact vaL_id _ _
    · exact vaL_id _ _) (by simp; omega)
  have e1 : [u.globals.map vaV, f.vars.map vaV].flatten = (u.globals ++ f.vars).map vaV := by simp
  rw [e1] at h4
  simp only [List.map_cons, List.map_nil] at h4
  have h5 := c_among (u.globals ++ f.vars)
  have hvs : (u.globals ++ f.vars).length ≤ 4194304 := by rw [List.length_append]; omega
  generalize u.globals ++ f.vars = vs at h4 h5 hvs ⊢
  have hfa := all_fit f.body hb false
  have hlb := labs_len (allL f.body false)
  generalize allL f.body false = its at h3 hlen hfa hlb ⊢
  refine AR.callW h4 True.intro BN05 ?_
  refine goG Y45_CP True.intro ?_
  refine AR.callSP [2] h5 True.intro BN05 (AI (@exV_ren) (AI (@exL_ren) (AI (@vaV_ren) (AI (@vaL_ren) (AI tsL_ren (AI ndLs_ren (AI nlVs_ren (AI ndV_ren plV_ren)))))))) ?_
  refine goG Y45_CP True.intro ?_
  refine wG Y45_CP @List.length_map.{0, 0} ?_
  rw [← hlen] at b4
  clear h1 h2 h3 h4 h5 hw b1 b1' b2 b3 b4' hlen hvn
  refine AWp.loop ?_
  refine ALp.ghostB 3 2 [(V.fn (.func 154) [] [.pt 2 0]), .sl (fs.map tsV) .ro, .sl [] .nl, .sl [] .nl] 9 1 ?_
  have hlbl : ∀ m, (labs (its.take m)).length ≤ its.length := fun m => by
    have := labs_len (its.take m); rw [List.length_take] at this; omega
  refine ALp.cutP 5 [(8, .sl (its.map plV) .ro), (9, .pt 3 0), (51, .sl (its.map plV) .ro), (52, (.im (.int .i64 (its.length)))), (53, (.im (.int .i64 ((((0 : Nat)) : Int)))))] [.box [.sl (u.globals.map vaV) .ro, .sl (u.data.map scV) .ro, .sl (u.funcs.map fnV) .ro], .box [.im (.string f.name), .sl (f.vars.map vaV) .ro, .sl (f.body.map ndV) .ro], .box [.sl (vs.map vaV) .ro], .box [(V.fn (.func 154) [] [.pt 2 0]), .sl (fs.map tsV) .ro, .sl ((labs (its.take (0))).map tsV) (.own 4), .sl [] .nl], .tip 9 1 (labs (its.take (0))).length] BN05 ?_
  refine ALp.upto its.length (fun _ => True) (fun m => ⟨dn 87 [(8, .sl (its.map plV) .ro), (9, .pt 3 0), (51, .sl (its.map plV) .ro), (52, (.im (.int .i64 (its.length)))), (53, (.im (.int .i64 ((((m : Nat)) : Int)))))], ofl [.box [.sl (u.globals.map vaV) .ro, .sl (u.data.map scV) .ro, .sl (u.funcs.map fnV) .ro], .box [.im (.string f.name), .sl (f.vars.map vaV) .ro, .sl (f.body.map ndV) .ro], .box [.sl (vs.map vaV) .ro], .box [(V.fn (.func 154) [] [.pt 2 0]), .sl (fs.map tsV) .ro, .sl ((labs (its.take (m))).map tsV) (.own 4), .sl [] .nl], .tip 9 1 (labs (its.take (m))).length]⟩) ?_ 0 (Nat.zero_le _) trivial
  intro m hm _ hnext
  by_cases hlt : m < its.length
  · have hlt' : (m : Int) < (its.length : Int) := by omega
    have hm1 := wrap_succ hlt (by omega)
    have hg := get_some hlt; have hst := labs_step hlt
    by_cases k13 : its[m].1.kind = 13
    · rw [if_pos (by simp [k13])] at hst
      have hap : (labs (its.take m)).map tsV ++ [.im (.string its[m].1.name)] = (labs (its.take (m + 1))).map tsV := by rw [hst]; simp [tsV]
      have hln : (labs (its.take m)).length + 1 = (labs (its.take (m + 1))).length := by rw [hst]; simp
      have hA : (labs (its.take (m + 1))).length * 16 ≤ 140737488355328 := by have := hlbl (m + 1); omega
      clear hst; refine wdG Y45_CP (AI hlt' (AI hg (AI k13 (AI hap (AI hln (AI hA (AI hm1 (AI (@List.length_map.{0, 0}) PL)))))))) ?_; refine ALp.cutP 5 [(8, .sl (its.map plV) .ro), (9, .pt 3 0), (51, .sl (its.map plV) .ro), (52, (.im (.int .i64 (its.length)))), (53, (.im (.int .i64 ((((m + 1 : Nat)) : Int)))))] [.box [.sl (u.globals.map vaV) .ro, .sl (u.data.map scV) .ro, .sl (u.funcs.map fnV) .ro], .box [.im (.string f.name), .sl (f.vars.map vaV) .ro, .sl (f.body.map ndV) .ro], .box [.sl (vs.map vaV) .ro], .box [(V.fn (.func 154) [] [.pt 2 0]), .sl (fs.map tsV) .ro, .sl ((labs (its.take (m + 1))).map tsV) (.own 4), .sl [] .nl], .tip 9 1 (labs (its.take (m + 1))).length] BN05 ?_; exact hnext (m + 1) (by omega) (by omega) trivial
    · rw [if_neg (by simp [k13])] at hst
      refine wdG Y45_CP (AI hlt' (AI hg (AI k13 (AI hm1 PL)))) ?_; rw [← hst]; refine ALp.cutP 5 [(8, .sl (its.map plV) .ro), (9, .pt 3 0), (51, .sl (its.map plV) .ro), (52, (.im (.int .i64 (its.length)))), (53, (.im (.int .i64 ((((m + 1 : Nat)) : Int)))))] [.box [.sl (u.globals.map vaV) .ro, .sl (u.data.map scV) .ro, .sl (u.funcs.map fnV) .ro], .box [.im (.string f.name), .sl (f.vars.map vaV) .ro, .sl (f.body.map ndV) .ro], .box [.sl (vs.map vaV) .ro], .box [(V.fn (.func 154) [] [.pt 2 0]), .sl (fs.map tsV) .ro, .sl ((labs (its.take (m + 1))).map tsV) (.own 4), .sl [] .nl], .tip 9 1 (labs (its.take (m + 1))).length] BN05 ?_; exact hnext (m + 1) (by omega) (by omega) trivial
  obtain rfl : m = its.length := by omega
  clear hnext hlbl
  rw [List.take_length]
  refine whG Y45_CP @Int.lt_irrefl ?_
  refine Blk'.here (Thn.n ?_)
  generalize labs its = ls at hlb ⊢
  refine wG Y45_CP @List.length_map.{0, 0} ?_
  refine AWp.loop ?_
  refine ALp.ghostB 3 3 [(V.fn (.func 154) [] [.pt 2 0]), .sl (fs.map tsV) .ro, .sl (ls.map tsV) (.own 4), .sl [] .nl] 9 1 ?_
  refine ALp.cutP 6 [(9, .pt 3 0), (74, .sl (its.map plV) .ro), (75, (.im (.int .i64 (its.length)))), (76, (.im (.int .i64 ((((0 : Nat)) : Int)))))] [.box [.sl (u.globals.map vaV) .ro, .sl (u.data.map scV) .ro, .sl (u.funcs.map fnV) .ro], .box [.im (.string f.name), .sl (f.vars.map vaV) .ro, .sl (f.body.map ndV) .ro], .box [.sl (vs.map vaV) .ro], .box [(V.fn (.func 154) [] [.pt 2 0]), .sl (fs.map tsV) .ro, .sl (ls.map tsV) (.own 4), .sl ((seenS [] (its.take (0))).map tsV) (.own 5)], .tip 9 1 ls.length, .tip 9 1 (seenS [] (its.take (0))).length] BN05 ?_
  refine ALp.upto its.length (fun m => runS vs fs ls (seenS [] (its.take m)) (its.drop m) = runS vs fs ls [] its) (fun m => ⟨dn 87 [(9, .pt 3 0), (74, .sl (its.map plV) .ro), (75, (.im (.int .i64 (its.length)))), (76, (.im (.int .i64 ((((m : Nat)) : Int)))))], ofl [.box [.sl (u.globals.map vaV) .ro, .sl (u.data.map scV) .ro, .sl (u.funcs.map fnV) .ro], .box [.im (.string f.name), .sl (f.vars.map vaV) .ro, .sl (f.body.map ndV) .ro], .box [.sl (vs.map vaV) .ro], .box [(V.fn (.func 154) [] [.pt 2 0]), .sl (fs.map tsV) .ro, .sl (ls.map tsV) (.own 4), .sl ((seenS [] (its.take (m))).map tsV) (.own 5)], .tip 9 1 ls.length, .tip 9 1 (seenS [] (its.take (m))).length]⟩) ?_ 0 (Nat.zero_le _) rfl
  intro m hm hV hnext
  rw [← hV]
  by_cases hlt : m < its.length
  · have hlt' : (m : Int) < (its.length : Int) := by omega
    have hm1 := wrap_succ hlt (by omega)
    have hg := get_some hlt; have hsl := seenS_len [] (its.take m); rw [List.length_take] at hsl; simp only [List.length_nil] at hsl
    have hsn : nxt (seenS [] (its.take m)) its[m] = seenS [] (its.take (m + 1)) := by
      rw [List.take_succ_eq_append_getElem hlt, seenS_append]; rfl
    have hc := c_checkS vs hvs fs ls (seenS [] (its.take m)) hfs (by omega) (by omega) its[m] (hfa _ (List.getElem_mem hlt))
    have hd : its.drop m = its[m] :: its.drop (m + 1) := List.drop_eq_getElem_cons hlt; rw [hd] at hV ⊢; rw [runS_cons] at hV ⊢
    by_cases b : chk1 vs fs ls (seenS [] (its.take m)) its[m] = 0
    · rw [if_pos b] at hV ⊢
      rw [b, if_pos rfl, hsn] at hc; rw [hsn] at hV ⊢; refine wG Y45_CP (AI hlt' (AI hg PL)) ?_; refine AR.callS [3, 2, 4, 5] hc rfl rfl (by first | (simp only [SR, exV_ren, exL_ren, vaV_ren, vaL_ren, tsL_ren, ndLs_ren, nlVs_ren, ndV_ren, plV_ren]; done) | (simp only [SR, exV_ren, exL_ren, vaV_ren, vaL_ren, tsL_ren, ndLs_ren, nlVs_ren, ndV_ren, plV_ren]; with_reducible exact rfl)) (by first | (simp only [SR, exV_ren, exL_ren, vaV_ren, vaL_ren, tsL_ren, ndLs_ren, nlVs_ren, ndV_ren, plV_ren]; done) | (simp only [SR, exV_ren, exL_ren, vaV_ren, vaL_ren, tsL_ren, ndLs_ren, nlVs_ren, ndV_ren, plV_ren]; with_reducible exact rfl)) (WkL.of_eq (by simp only [St.ev, V.ofVal, V.ofCell, V.size_im, getD_dn, look_cons, look_nil, Nat.reduceLT, Nat.reduceEqDiff, reduceIte, if_true, if_false, List.map_cons, List.map_nil, List.nil_append, List.cons_append, List.append_nil, plV_eq])) (by first | rfl | simp only [List.length_cons, List.length_nil, Nat.reduceAdd, V.ids, V.idsL, idsA, entOk, List.all_cons, List.all_nil, Bool.and_self, Bool.and_true, Bool.true_and, ltB, noId, Nat.reduceLT, decide_true, Bool.true_eq_false, tyV_id, fdV_id, tyL_id, fdL_id, exL_id, vaL_id, exV_id, vaV_id, tsL_id, ndLs_id, nlVs_id, ndV_id, plVs_id, plV_id, scL_id, fnL_id]) rfl rfl rfl (by first | rfl | simp only [List.length_cons, List.length_nil, Nat.reduceAdd, V.ids, V.idsL, idsA, entOk, List.all_cons, List.all_nil, Bool.and_self, Bool.and_true, Bool.true_and, ltB, noId, Nat.reduceLT, decide_true, Bool.true_eq_false, tyV_id, fdV_id, tyL_id, fdL_id, exL_id, vaL_id, exV_id, vaV_id, tsL_id, ndLs_id, nlVs_id, ndV_id, plVs_id, plV_id, scL_id, fnL_id]) (by intro p hp; simp only [renE, SR, Ent.ren, List.mem_cons, List.not_mem_nil, or_false, exV_ren, exL_ren, vaV_ren, vaL_ren, tsL_ren, ndLs_ren, nlVs_ren, ndV_ren, plV_ren] at hp; rcases hp with rfl | rfl | rfl | rfl <;> rfl) (by simp only [renE, Ent.ren, SR, exV_ren, exL_ren, vaV_ren, vaL_ren, tsL_ren, ndLs_ren, nlVs_ren, ndV_ren, plV_ren, wrl, putE, SC, SD, Nat.reduceBEq, Nat.reduceLT, Nat.reduceSub, Nat.reduceAdd, Nat.reduceMul, Nat.reduceLeDiff, Nat.reduceEqDiff, reduceCtorEq, Int.reduceLT, Int.reduceLE, Int.reduceEq, Int.reduceNe, Int.reduceBEq, Int.reduceBNe, Int.reduceAdd, Int.reduceSub, Int.reduceMul, Int.reduceToNat]; with_reducible exact rfl) ?_
      refine goG Y45_CP True.intro ?_; refine wG Y45_CP hm1 ?_; refine ALp.cutP 6 [(9, .pt 3 0), (74, .sl (its.map plV) .ro), (75, (.im (.int .i64 (its.length)))), (76, (.im (.int .i64 ((((m + 1 : Nat)) : Int)))))] [.box [.sl (u.globals.map vaV) .ro, .sl (u.data.map scV) .ro, .sl (u.funcs.map fnV) .ro], .box [.im (.string f.name), .sl (f.vars.map vaV) .ro, .sl (f.body.map ndV) .ro], .box [.sl (vs.map vaV) .ro], .box [(V.fn (.func 154) [] [.pt 2 0]), .sl (fs.map tsV) .ro, .sl (ls.map tsV) (.own 4), .sl ((seenS [] (its.take (m + 1))).map tsV) (.own 5)], .tip 9 1 ls.length, .tip 9 1 (seenS [] (its.take (m + 1))).length] BN05 ?_; rw [hV]; exact hnext (m + 1) (by omega) (by omega) hV
    · rw [if_neg b]
      rw [if_neg b] at hc; refine wG Y45_CP (AI hlt' (AI hg PL)) ?_; refine AR.callS [3, 2, 4, 5] hc rfl rfl (by first | (simp only [SR, exV_ren, exL_ren, vaV_ren, vaL_ren, tsL_ren, ndLs_ren, nlVs_ren, ndV_ren, plV_ren]; done) | (simp only [SR, exV_ren, exL_ren, vaV_ren, vaL_ren, tsL_ren, ndLs_ren, nlVs_ren, ndV_ren, plV_ren]; with_reducible exact rfl)) (by first | (simp only [SR, exV_ren, exL_ren, vaV_ren, vaL_ren, tsL_ren, ndLs_ren, nlVs_ren, ndV_ren, plV_ren]; done) | (simp only [SR, exV_ren, exL_ren, vaV_ren, vaL_ren, tsL_ren, ndLs_ren, nlVs_ren, ndV_ren, plV_ren]; with_reducible exact rfl)) (WkL.of_eq (by simp only [St.ev, V.ofVal, V.ofCell, V.size_im, getD_dn, look_cons, look_nil, Nat.reduceLT, Nat.reduceEqDiff, reduceIte, if_true, if_false, List.map_cons, List.map_nil, List.nil_append, List.cons_append, List.append_nil, plV_eq])) (by first | rfl | simp only [List.length_cons, List.length_nil, Nat.reduceAdd, V.ids, V.idsL, idsA, entOk, List.all_cons, List.all_nil, Bool.and_self, Bool.and_true, Bool.true_and, ltB, noId, Nat.reduceLT, decide_true, Bool.true_eq_false, tyV_id, fdV_id, tyL_id, fdL_id, exL_id, vaL_id, exV_id, vaV_id, tsL_id, ndLs_id, nlVs_id, ndV_id, plVs_id, plV_id, scL_id, fnL_id]) rfl rfl rfl (by first | rfl | simp only [List.length_cons, List.length_nil, Nat.reduceAdd, V.ids, V.idsL, idsA, entOk, List.all_cons, List.all_nil, Bool.and_self, Bool.and_true, Bool.true_and, ltB, noId, Nat.reduceLT, decide_true, Bool.true_eq_false, tyV_id, fdV_id, tyL_id, fdL_id, exL_id, vaL_id, exV_id, vaV_id, tsL_id, ndLs_id, nlVs_id, ndV_id, plVs_id, plV_id, scL_id, fnL_id]) (by intro p hp; simp only [renE, SR, Ent.ren, List.mem_cons, List.not_mem_nil, or_false, exV_ren, exL_ren, vaV_ren, vaL_ren, tsL_ren, ndLs_ren, nlVs_ren, ndV_ren, plV_ren] at hp; rcases hp with rfl | rfl | rfl | rfl <;> rfl) (by simp only [renE, Ent.ren, SR, exV_ren, exL_ren, vaV_ren, vaL_ren, tsL_ren, ndLs_ren, nlVs_ren, ndV_ren, plV_ren, wrl, putE, SC, SD, Nat.reduceBEq, Nat.reduceLT, Nat.reduceSub, Nat.reduceAdd, Nat.reduceMul, Nat.reduceLeDiff, Nat.reduceEqDiff, reduceCtorEq, Int.reduceLT, Int.reduceLE, Int.reduceEq, Int.reduceNe, Int.reduceBEq, Int.reduceBNe, Int.reduceAdd, Int.reduceSub, Int.reduceMul, Int.reduceToNat]; with_reducible exact rfl) ?_
      refine goG Y45_CP b ?_; refine wG Y45_CP b ?_; exact Fin.oneP
  obtain rfl : m = its.length := by omega
  clear hnext
  rw [List.drop_length]
  refine wG Y45_CP @Int.lt_irrefl ?_
  exact Fin.oneP
def fnE : List ByteArray → List Fun → Int
  | _, [] => 0
  | sn, f :: r => if !nameT f.name then 3 else if sn.any (fun x => eqS f.name x) then 8 else fnE (sn ++ [f.name]) r
theorem fnE_step {l : List Fun} {m : Nat} (h : m < l.length) : fnE ((l.take m).map Fun.name) (l.drop m) = if !nameT l[m].name then 3 else if ((l.take m).map Fun.name).any (fun x => eqS l[m].name x) then 8 else fnE ((l.take (m + 1)).map Fun.name) (l.drop (m + 1)) := by
  rw [List.drop_eq_getElem_cons h, fnE, List.take_succ_eq_append_getElem h, List.map_append]
  rfl
def bdE (gs : List Va) (fs : List ByteArray) : List Fun → Int
  | [] => 0
  | f :: r => if bodyE gs f fs = 0 then bdE gs fs r else bodyE gs f fs
def unE (u : Un) : Int :=
  if 256 < u.globals.length ∨ 16 < u.data.length ∨ 64 < u.funcs.length then 6 else if u.funcs.length = 0 then 17 else if vErr [] u.globals ≠ 0 then vErr [] u.globals else if dErr [] u.data ≠ 0 then dErr [] u.data
  else if fnE [] u.funcs ≠ 0 then fnE [] u.funcs else bdE u.globals (u.funcs.map Fun.name) u.funcs
structure fitFn (f : Fun) : Prop where
  vl : f.vars.length ≤ 2097152
  vn : fitVN f.vars
  bd : fitNL f.body
  ct : cnt f.body ≤ 4194304
  nm : f.name.size ≤ 9223372036854775807
structure fitU (u : Un) : Prop where
  gl : u.globals.length ≤ 2097152
  gn : fitVN u.globals
  dl : u.data.length ≤ 4194304
  dn : fitSec u.data
  fl : u.funcs.length ≤ 4194304
  fn : ∀ f ∈ u.funcs, fitFn f
theorem Y15_CQ : type_of% (AI @F_ag_23 (AI @F_ag_24 (AI @F_ag_25 (AI @F_ag_27 (AI @F_ag_37 (AI @F_ag_9 (AI @F_al_37 (AI @F_al_9 (AI @F_by_9 (AI @F_el_23 (AI @F_el_24 (AI @F_el_25 (AI @F_el_84 (AI @F_fl_27_0 (AI @F_fl_27_1 (AI @F_fl_27_2 (AI @F_fl_37_0 (AI @F_sz_23 (AI @F_sz_24 (AI @F_sz_25 (AI @F_sz_27 (AI @F_sz_37 (AI @F_sz_76 (AI @F_sz_9 (@F_sz_96))))))))))))))))))))))))) := AI @F_ag_23 (AI @F_ag_24 (AI @F_ag_25 (AI @F_ag_27 (AI @F_ag_37 (AI @F_ag_9 (AI @F_al_37 (AI @F_al_9 (AI @F_by_9 (AI @F_el_23 (AI @F_el_24 (AI @F_el_25 (AI @F_el_84 (AI @F_fl_27_0 (AI @F_fl_27_1 (AI @F_fl_27_2 (AI @F_fl_37_0 (AI @F_sz_23 (AI @F_sz_24 (AI @F_sz_25 (AI @F_sz_27 (AI @F_sz_37 (AI @F_sz_76 (AI @F_sz_9 (@F_sz_96))))))))))))))))))))))))
set_option maxHeartbeats 2000000 in
theorem c_CheckUnit (u : Un) (hu : fitU u) : PC Tryz.prog 15 [unV u] (.im (.int .i64 (unE u))) := by
  have h1 := c_variablesE [] u.globals (by have := hu.gl; simp; omega) hu.gn
  have h2 := c_data u.data hu.dl hu.dn
  have hgl := hu.gl
  have hfl := hu.fl
  unfold unE
  rw [List.map_nil] at h1
  refine PC.enter 79 Tryz.func15 rfl (by decide) rfl rfl (s := [(0, unV u)]) (by rfl) ?_
  simp only [unV_eq]
  refine wG Y15_CQ @List.length_map.{0, 0} ?_
  refine AWp.condAB rfl rfl (fun hE => ?_) (fun hE => ?_)
  · have q : 256 < u.globals.length ∨ 16 < u.data.length ∨ 64 < u.funcs.length := by
      simp only [Bool.or_eq_true, decide_eq_true_eq] at hE; omega
    rw [if_pos q]; refine wG Y15_CQ True.intro ?_; exact Fin.oneP
  have q : ¬ (256 < u.globals.length ∨ 16 < u.data.length ∨ 64 < u.funcs.length) := by
    simp only [Bool.or_eq_false_iff, decide_eq_false_iff_not] at hE; omega
  rw [if_neg q]
  by_cases b0 : u.funcs.length = 0
  · have b0' : (u.funcs.length : Int) = 0 := by omega
    rw [if_pos b0]; refine wG Y15_CQ (AI b0' @List.length_map.{0, 0}) ?_; exact Fin.oneP
  have b0' : ¬ (u.funcs.length : Int) = 0 := by omega
  rw [if_neg b0]
  refine wG Y15_CQ (AI b0' @List.length_map.{0, 0}) ?_
  refine AR.callW h1 True.intro BN04 ?_
  by_cases b1 : vErr [] u.globals = 0
  case neg =>
    rw [if_pos b1]; refine goG Y15_CQ b1 ?_; refine wG Y15_CQ b1 ?_; exact Fin.oneP
  rw [if_neg (by simp [b1]), b1]
  refine goG Y15_CQ True.intro ?_
  refine wG Y15_CQ True.intro ?_
  refine AR.callP h2 True.intro BN04 ?_
  by_cases b2 : dErr [] u.data = 0
  case neg =>
    rw [if_pos b2]; refine goG Y15_CQ b2 ?_; refine wG Y15_CQ b2 ?_; exact Fin.oneP
  rw [if_neg (by simp [b2]), b2]
  refine goG Y15_CQ True.intro ?_
  refine wG Y15_CQ @List.length_map.{0, 0} ?_
  refine AWp.loop ?_
  refine ALp.ghost 5 [] .nl 9 1 ?_
  refine ALp.cutP 2 [(1, .pt 0 0), (5, .sl (((u.funcs.take (0)).map Fun.name).map tsV) (.own 1)), (44, .sl (u.funcs.map fnV) .ro), (45, (.im (.int .i64 (u.funcs.length)))), (46, (.im (.int .i64 ((((0 : Nat)) : Int)))))] [.box [.sl (u.globals.map vaV) .ro, .sl (u.data.map scV) .ro, .sl (u.funcs.map fnV) .ro], .tip 9 1 ((u.funcs.take (0)).map Fun.name).length] BN04 ?_
  refine ALp.upto u.funcs.length (fun m => fnE ((u.funcs.take (m)).map Fun.name) (u.funcs.drop m) = fnE [] u.funcs) (fun m => ⟨dn 79 [(1, .pt 0 0), (5, .sl (((u.funcs.take (m)).map Fun.name).map tsV) (.own 1)), (44, .sl (u.funcs.map fnV) .ro), (45, (.im (.int .i64 (u.funcs.length)))), (46, (.im (.int .i64 ((((m : Nat)) : Int)))))], ofl [.box [.sl (u.globals.map vaV) .ro, .sl (u.data.map scV) .ro, .sl (u.funcs.map fnV) .ro], .tip 9 1 ((u.funcs.take (m)).map Fun.name).length]⟩) ?_ 0 (Nat.zero_le _) rfl
  intro m hm hV hnext
  by_cases hlt : m < u.funcs.length
  · have hlt' : (m : Int) < (u.funcs.length : Int) := by omega
    have hm1 := wrap_succ hlt (by omega)
    have hg := get_some hlt; have hf := hu.fn _ (List.getElem_mem hlt); have h3 := c_name u.funcs[m].name hf.nm; have hnl : ((u.funcs.take (m)).map Fun.name).length = m := by rw [List.length_map, List.length_take]; omega
    have h4 := c_containsT ((u.funcs.take (m)).map Fun.name) (by omega) u.funcs[m].name
    have hn2 := hnext (m + 1) (by omega) (by omega)
    rw [fnE_step hlt] at hV
    have hap : ((u.funcs.take (m)).map Fun.name).map tsV ++ [.im (.string u.funcs[m].name)] = ((u.funcs.take (m + 1)).map Fun.name).map tsV := by
      rw [List.map_map, List.map_map]; exact take_snoc (tsV ∘ Fun.name) hlt
    have hnl1 : ((u.funcs.take (m + 1)).map Fun.name).length = m + 1 := by rw [List.length_map, List.length_take]; omega
    have hln : ((u.funcs.take (m)).map Fun.name).length + 1 = ((u.funcs.take (m + 1)).map Fun.name).length := by omega
    have hA : ((u.funcs.take (m + 1)).map Fun.name).length * 16 ≤ 140737488355328 := by omega
    generalize ((u.funcs.take (m)).map Fun.name) = n0 at h4 hV hap hln ⊢; generalize ((u.funcs.take (m + 1)).map Fun.name) = n1 at hV hap hln hA hn2 ⊢; cases b3 : nameT u.funcs[m].name with
    | false =>
      rw [b3] at h3 hV; simp only [Bool.not_false, if_true] at hV; rw [← hV, if_pos (by decide)]
      refine wG Y15_CQ (AI hlt' (AI hg FU)) ?_; refine AR.callP h3 True.intro BN04 ?_; refine goG Y15_CQ True.intro ?_; refine wG Y15_CQ True.intro ?_; exact Fin.oneP
    | true =>
    rw [b3] at h3 hV; simp only [Bool.not_true, Bool.false_eq_true, if_false] at hV; cases b4 : n0.any fun x => eqS u.funcs[m].name x with
    | true =>
      rw [b4] at h4 hV; simp only [if_true] at hV; rw [← hV, if_pos (by decide)]
      refine wG Y15_CQ (AI hlt' (AI hg FU)) ?_; refine AR.callP h3 True.intro BN04 ?_; refine goG Y15_CQ True.intro ?_; refine wG Y15_CQ True.intro ?_; refine AR.callW h4 True.intro BN04 ?_; refine goG Y15_CQ True.intro ?_; refine wG Y15_CQ True.intro ?_; exact Fin.oneP
    | false =>
      rw [b4] at h4 hV; simp only [Bool.false_eq_true, if_false] at hV; refine wG Y15_CQ (AI hlt' (AI hg FU)) ?_; refine AR.callP h3 True.intro BN04 ?_; refine goG Y15_CQ True.intro ?_; refine wG Y15_CQ True.intro ?_; refine AR.callW h4 True.intro BN04 ?_; refine goG Y15_CQ True.intro ?_; refine wG Y15_CQ (AI hap (AI hln (AI hA (AI hm1 @List.length_map.{0, 0})))) ?_; refine ALp.cutP 2 [(1, .pt 0 0), (5, .sl (n1.map tsV) (.own 1)), (44, .sl (u.funcs.map fnV) .ro), (45, (.im (.int .i64 (u.funcs.length)))), (46, (.im (.int .i64 ((((m + 1 : Nat)) : Int)))))] [.box [.sl (u.globals.map vaV) .ro, .sl (u.data.map scV) .ro, .sl (u.funcs.map fnV) .ro], .tip 9 1 n1.length] BN04 ?_; exact hn2 hV
  obtain rfl : m = u.funcs.length := by omega
  clear hnext
  rw [List.take_length, List.drop_length] at hV
  have hV : fnE [] u.funcs = 0 := by rw [← hV]; cases u.funcs.map Fun.name <;> rfl
  rw [if_neg (by simp [hV]), List.take_length]
  have hfn : (u.funcs.map Fun.name).length ≤ 4194304 := by rw [List.length_map]; exact hfl
  generalize u.funcs.map Fun.name = fs at hfn ⊢
  refine whG Y15_CQ @Int.lt_irrefl ?_
  refine Blk'.here (Thn.n ?_)
  refine wG Y15_CQ @List.length_map.{0, 0} ?_
  refine AWp.loop ?_
  refine ALp.cutP 2 [(1, .pt 0 0), (5, .sl (fs.map tsV) (.own 1)), (65, .sl (u.funcs.map fnV) .ro), (66, (.im (.int .i64 (u.funcs.length)))), (67, (.im (.int .i64 ((((0 : Nat)) : Int)))))] [.box [.sl (u.globals.map vaV) .ro, .sl (u.data.map scV) .ro, .sl (u.funcs.map fnV) .ro], .tip 9 1 fs.length] BN04 ?_
  refine ALp.upto u.funcs.length (fun m => bdE u.globals fs (u.funcs.drop m) = bdE u.globals fs u.funcs) (fun m => ⟨dn 79 [(1, .pt 0 0), (5, .sl (fs.map tsV) (.own 1)), (65, .sl (u.funcs.map fnV) .ro), (66, (.im (.int .i64 (u.funcs.length)))), (67, (.im (.int .i64 ((((m : Nat)) : Int)))))], ofl [.box [.sl (u.globals.map vaV) .ro, .sl (u.data.map scV) .ro, .sl (u.funcs.map fnV) .ro], .tip 9 1 fs.length]⟩) ?_ 0 (Nat.zero_le _) rfl
  intro m hm hV hnext
  rw [← hV]
  by_cases hlt : m < u.funcs.length
  · have hlt' : (m : Int) < (u.funcs.length : Int) := by omega
    have hm1 := wrap_succ hlt (by omega)
    have hg := get_some hlt; have hf := hu.fn _ (List.getElem_mem hlt); have hb := c_body u u.funcs[m] fs hgl hf.vl hf.vn hf.bd hf.ct hfn; have hd : u.funcs.drop m = u.funcs[m] :: u.funcs.drop (m + 1) := List.drop_eq_getElem_cons hlt; rw [hd] at hV ⊢; have hs : bdE u.globals fs (u.funcs[m] :: u.funcs.drop (m + 1)) = if bodyE u.globals u.funcs[m] fs = 0 then bdE u.globals fs (u.funcs.drop (m + 1)) else bodyE u.globals u.funcs[m] fs := rfl
    rw [hs] at hV ⊢
    by_cases b : bodyE u.globals u.funcs[m] fs = 0
    · rw [if_pos b] at hV ⊢
      rw [b] at hb; refine wG Y15_CQ (AI hlt' (AI hg FU)) ?_; refine AR.callW hb (AI unV_eq fnV_eq) BN04 ?_; refine goG Y15_CQ True.intro ?_; refine wG Y15_CQ hm1 ?_; refine ALp.cutP 2 [(1, .pt 0 0), (5, .sl (fs.map tsV) (.own 1)), (65, .sl (u.funcs.map fnV) .ro), (66, (.im (.int .i64 (u.funcs.length)))), (67, (.im (.int .i64 ((((m + 1 : Nat)) : Int)))))] [.box [.sl (u.globals.map vaV) .ro, .sl (u.data.map scV) .ro, .sl (u.funcs.map fnV) .ro], .tip 9 1 fs.length] BN04 ?_; rw [hV]; exact hnext (m + 1) (by omega) (by omega) hV
    · rw [if_neg b]
      refine wG Y15_CQ (AI hlt' (AI hg FU)) ?_; refine AR.callW hb (AI unV_eq fnV_eq) BN04 ?_; refine goG Y15_CQ b ?_; refine wG Y15_CQ b ?_; exact Fin.oneP
  obtain rfl : m = u.funcs.length := by omega
  clear hnext
  rw [List.drop_length]
  refine wG Y15_CQ @Int.lt_irrefl ?_
  exact Fin.oneP
end Go.Proofs.YtmbmmckagcdapaaGreatDoor
