/- Walks: permitted accesses. -/
import Derived.Test.YtfggemopnlffeaaHw
import Derived.Test.YtfggemopnlffeaaBL
namespace Go.Proofs.Ytfggemopnlffeaa
set_option linter.unusedSimpArgs false
set_option linter.unusedVariables false
set_option linter.unnecessarySimpa false
open Go.RowKit
/-- May the load through e be of this width? -/
def prm (vs : List Va) (e : Ex) (w : Int) : Bool := !(thr e).2.2 || accT (tyOf vs (thr e).1) (thr e).2.1 w
theorem thr_I64 (e : Ex) : I64 (thr e).2.1 := by
  obtain ⟨o, n, s, w, l⟩ := e
  rw [thr_mk]
  have h0 : I64 0 := by decide
  split
  · exact h0
  · split
    · split
      · split
        · exact offT_I64 _ _
        · exact h0
      · exact h0
    · exact h0
/-- Every load in it is permitted. -/
def acs (vs : List Va) : Ex → Bool := Ex.para fun e r => (if e.op == 18 then (match e.l with | x :: _ => prm vs x e.width | [] => true) else true) && r.all id
theorem acs_mk (vs : List Va) (o n : Int) (s : ByteArray) (w : Int) (l : List Ex) : acs vs (.mk o n s w l) = ((if o == 18 then (match l with | x :: _ => prm vs x w | [] => true) else true) && l.all (acs vs)) := by
  unfold acs
  rw [Ex.para_mk]
  simp only [List.all_map]
  rfl
theorem efm_one {n : Int} {s : ByteArray} {w : Int} {l : List Ex} (h : efm (.mk 18 n s w l) = true) : ∃ a, l = [a] := by
  rw [efm_mk, Bool.and_eq_true] at h
  have h1 := h.1
  have h2 : l.length = 1 := by
    simp [ebase] at h1
    exact h1.2
  match l, h2 with
  | [a], _ => exact ⟨a, rfl⟩
theorem c_permitted (vs : List Va) (hv : fitV vs) (e : Ex) (hf : efm e = true) (w : Int) : PC Try.prog 73 [exV e, (.im (.int .i64 (w))), (V.sl (vs.map vaV) .ro)] (.im (.bool (prm vs e w))) := by
  have h1 := c_through e hf
  have hi := thr_I64 e
  unfold prm
  obtain ⟨⟨nm, off, ok⟩, ht⟩ : ∃ x, thr e = x := ⟨_, rfl⟩
  rw [ht] at h1 hi
  rw [ht]
  simp only at h1 hi
  have h2 := c_typeOf vs hv.1 nm
  have h3 := c_Access (tyOf vs nm) (fit_tyOf hv nm) off w hi
  refine PC.enter 26 Try.func73 rfl (by decide) rfl rfl (s := [(0, exV e), (1, (.im (.int .i64 (w)))), (2, (V.sl (vs.map vaV) .ro))]) (by rfl) ?_
  simp only [exV_eq]
  cases ok with
  | false =>
    refine w73 True.intro ?_
    refine AR.callP h1 @exV_eq (And.intro (@exL_id) (And.intro (@vaL_id) (And.intro (@exV_id) @vaV_id))) ?_
    refine go73 True.intro ?_
    refine w73 True.intro ?_
    exact Fin.oneP
  | true =>
    refine w73 True.intro ?_
    refine AR.callP h1 @exV_eq (And.intro (@exL_id) (And.intro (@vaL_id) (And.intro (@exV_id) @vaV_id))) ?_
    refine go73 True.intro ?_
    refine w73 True.intro ?_
    refine AR.callP h2 True.intro (And.intro (@exL_id) (And.intro (@vaL_id) (And.intro (@exV_id) @vaV_id))) ?_
    refine go73 True.intro ?_
    refine AR.callP h3 True.intro (And.intro (@exL_id) (And.intro (@vaL_id) (And.intro (@exV_id) @vaV_id))) ?_
    refine go73 True.intro ?_
    simp only [Bool.not_true, Bool.false_or]
    refine w73 True.intro ?_
    exact Fin.oneP
theorem c_permittedR (vs : List Va) (hv : fitV vs) (e : Ex) (hf : efm e = true) (w : Int) : PC Try.prog 79 [exV e, (.im (.int .i64 (w))), (V.sl (vs.map vaV) .ro)] (.im (.bool (prm vs e w))) := by
  have h1 := c_throughR e hf
  have hi := thr_I64 e
  unfold prm
  obtain ⟨⟨nm, off, ok⟩, ht⟩ : ∃ x, thr e = x := ⟨_, rfl⟩
  rw [ht] at h1 hi
  rw [ht]
  simp only at h1 hi
  have h2 := c_typeOfR vs hv.1 nm
  have h3 := c_AccessR (tyOf vs nm) (fit_tyOf hv nm) off w hi
  refine PC.enter 26 Try.func79 rfl (by decide) rfl rfl (s := [(0, exV e), (1, (.im (.int .i64 (w)))), (2, (V.sl (vs.map vaV) .ro))]) (by rfl) ?_
  simp only [exV_eq]
  cases ok with
  | false =>
    refine w79 True.intro ?_
    refine AR.callP h1 @exV_eq (And.intro (@exL_id) (And.intro (@vaL_id) (And.intro (@exV_id) @vaV_id))) ?_
    refine go79 True.intro ?_
    refine w79 True.intro ?_
    exact Fin.oneP
  | true =>
    refine w79 True.intro ?_
    refine AR.callP h1 @exV_eq (And.intro (@exL_id) (And.intro (@vaL_id) (And.intro (@exV_id) @vaV_id))) ?_
    refine go79 True.intro ?_
    refine w79 True.intro ?_
    refine AR.callP h2 True.intro (And.intro (@exL_id) (And.intro (@vaL_id) (And.intro (@exV_id) @vaV_id))) ?_
    refine go79 True.intro ?_
    refine AR.callP h3 True.intro (And.intro (@exL_id) (And.intro (@vaL_id) (And.intro (@exV_id) @vaV_id))) ?_
    refine go79 True.intro ?_
    simp only [Bool.not_true, Bool.false_or]
    refine w79 True.intro ?_
    exact Fin.oneP
theorem c_accessesR (vs : List Va) (hv : fitV vs) : ∀ (t : Ex), fitE t → efm t = true → PC Try.prog 42 [exV t, (V.sl (vs.map vaV) .ro)] (.im (.bool (acs vs t))) := by
  refine Ex.induct fun o n s w l hE => ?_
  intro hfit hf
  obtain ⟨hl1, hfE⟩ := fitE_mk hfit
  have hfl := hf
  rw [efm_mk, Bool.and_eq_true, List.all_eq_true] at hfl
  refine PC.enter 35 Try.func42 rfl (by decide) rfl rfl (s := [(0, exV (.mk o n s w l)), (1, (V.sl (vs.map vaV) .ro))]) (by rfl) ?_
  simp only [exV_mk]
  rw [acs_mk]
  by_cases ho : o = 18
  · subst ho
    obtain ⟨x, rfl⟩ := efm_one hf
    have hx := hE x (by simp) (hfE x (by simp)) (hfl.2 x (by simp))
    have hp := c_permittedR vs hv x (hfl.2 x (by simp)) w
    have hg0 : (List.map exV [x])[0]? = some (exV x) := rfl
    have hq : (if ((18 : Int) == 18) = true then (match [x] with | x :: _ => prm vs x w | [] => true) else true) = prm vs x w := rfl
    rw [hq]
    obtain ⟨L, hL⟩ : ∃ L, [x] = L := ⟨_, rfl⟩
    rw [hL] at hg0 hE hfE hfl hl1 ⊢
    cases b : prm vs x w with
    | false =>
      rw [b] at hp
      refine wd42 hg0 ?_
      refine AR.callP hp @exV_eq (And.intro (@exL_id) (And.intro (@vaL_id) (And.intro (@exV_id) @vaV_id))) ?_
      refine go42 True.intro ?_
      refine wd42 True.intro ?_
      rw [Bool.false_and]
      exact Fin.oneP
    | true =>
      rw [b] at hp
      refine wd42 hg0 ?_
      refine AR.callP hp @exV_eq (And.intro (@exL_id) (And.intro (@vaL_id) (And.intro (@exV_id) @vaV_id))) ?_
      refine go42 True.intro ?_
      refine wd42 True.intro ?_
      rw [Bool.true_and]
      clear hg0 hL hf hp
      refine AWp.loop ?_
      refine ALp.cutP 1 [(1, (V.sl (vs.map vaV) .ro)), (2, .pt 0 0), (4, .im (.bool false)), (5, (.im (.int .i64 ((((0 : Nat)) : Int)))))] [.box [.im (.int .i64 18), .im (.int .u32 n), .im (.string s), .im (.int .i64 w), .sl (L.map exV) .ro]] (And.intro (@exL_id) (And.intro (@vaL_id) (And.intro (@exV_id) @vaV_id))) ?_
      refine ALp.upto L.length (AllTo (acs vs) L) (fun m => ⟨dn 35 [(1, (V.sl (vs.map vaV) .ro)), (2, .pt 0 0), (4, .im (.bool false)), (5, (.im (.int .i64 ((((m : Nat)) : Int)))))], ofl [.box [.im (.int .i64 18), .im (.int .u32 n), .im (.string s), .im (.int .i64 w), .sl (L.map exV) .ro]]⟩) ?_ 0 (Nat.zero_le _) (AllTo.zero _ _)
      intro m hm hI hnext
      by_cases hlt : m < L.length
      · have hlt' : (m : Int) < (L.length : Int) := by omega
        have hg := get_some hlt
        have hm1 := wrap_succ hlt (by omega)
        have hc := hE L[m] (List.getElem_mem hlt) (hfE _ (List.getElem_mem hlt)) (hfl.2 _ (List.getElem_mem hlt))
        refine w42 (And.intro hlt' (And.intro hg hm1)) ?_
        cases b : acs vs L[m] with
        | true =>
          rw [b] at hc
          refine AR.callP hc @exV_eq (And.intro (@exL_id) (And.intro (@vaL_id) (And.intro (@exV_id) @vaV_id))) ?_
          refine go42 True.intro ?_
          refine w42 hm1 ?_
          refine ALp.cutP 1 [(1, (V.sl (vs.map vaV) .ro)), (2, .pt 0 0), (4, .im (.bool false)), (5, (.im (.int .i64 ((((m + 1 : Nat)) : Int)))))] [.box [.im (.int .i64 18), .im (.int .u32 n), .im (.string s), .im (.int .i64 w), .sl (L.map exV) .ro]] (And.intro (@exL_id) (And.intro (@vaL_id) (And.intro (@exV_id) @vaV_id))) ?_
          exact hnext (m + 1) (by omega) (by omega) (hI.succ hlt b)
        | false =>
          rw [b] at hc
          refine AR.callP hc @exV_eq (And.intro (@exL_id) (And.intro (@vaL_id) (And.intro (@exV_id) @vaV_id))) ?_
          refine go42 True.intro ?_
          refine w42 hm1 ?_
          rw [not_all_of hlt b]
          exact Fin.oneP
      · have hall := hI.done (by omega)
        have hlt' : ¬ (m : Int) < (L.length : Int) := by omega
        clear hnext
        rw [hall]
        refine w42 hlt' ?_
        exact Fin.oneP
  · have e : (o == 18) = false := by simp [ho]
    rw [e]
    simp only [Bool.false_eq_true, if_false, Bool.true_and]
    refine wd42 ho ?_
    refine AWp.loop ?_
    refine ALp.cutP 1 [(1, (V.sl (vs.map vaV) .ro)), (2, .pt 0 0), (4, .im (.bool false)), (5, (.im (.int .i64 ((((0 : Nat)) : Int)))))] [.box [.im (.int .i64 o), .im (.int .u32 n), .im (.string s), .im (.int .i64 w), .sl (l.map exV) .ro]] (And.intro (@exL_id) (And.intro (@vaL_id) (And.intro (@exV_id) @vaV_id))) ?_
    refine ALp.upto l.length (AllTo (acs vs) l) (fun m => ⟨dn 35 [(1, (V.sl (vs.map vaV) .ro)), (2, .pt 0 0), (4, .im (.bool false)), (5, (.im (.int .i64 ((((m : Nat)) : Int)))))], ofl [.box [.im (.int .i64 o), .im (.int .u32 n), .im (.string s), .im (.int .i64 w), .sl (l.map exV) .ro]]⟩) ?_ 0 (Nat.zero_le _) (AllTo.zero _ _)
    intro m hm hI hnext
    by_cases hlt : m < l.length
    · have hlt' : (m : Int) < (l.length : Int) := by omega
      have hg := get_some hlt
      have hm1 := wrap_succ hlt (by omega)
      have hc := hE l[m] (List.getElem_mem hlt) (hfE _ (List.getElem_mem hlt)) (hfl.2 _ (List.getElem_mem hlt))
      refine w42 (And.intro hlt' (And.intro hg hm1)) ?_
      cases b : acs vs l[m] with
      | true =>
        rw [b] at hc
        refine AR.callP hc @exV_eq (And.intro (@exL_id) (And.intro (@vaL_id) (And.intro (@exV_id) @vaV_id))) ?_
        refine go42 True.intro ?_
        refine w42 hm1 ?_
        refine ALp.cutP 1 [(1, (V.sl (vs.map vaV) .ro)), (2, .pt 0 0), (4, .im (.bool false)), (5, (.im (.int .i64 ((((m + 1 : Nat)) : Int)))))] [.box [.im (.int .i64 o), .im (.int .u32 n), .im (.string s), .im (.int .i64 w), .sl (l.map exV) .ro]] (And.intro (@exL_id) (And.intro (@vaL_id) (And.intro (@exV_id) @vaV_id))) ?_
        exact hnext (m + 1) (by omega) (by omega) (hI.succ hlt b)
      | false =>
        rw [b] at hc
        refine AR.callP hc @exV_eq (And.intro (@exL_id) (And.intro (@vaL_id) (And.intro (@exV_id) @vaV_id))) ?_
        refine go42 True.intro ?_
        refine w42 hm1 ?_
        rw [not_all_of hlt b]
        exact Fin.oneP
    · have hall := hI.done (by omega)
      have hlt' : ¬ (m : Int) < (l.length : Int) := by omega
      clear hnext
      rw [hall]
      refine w42 hlt' ?_
      exact Fin.oneP
end Go.Proofs.Ytfggemopnlffeaa

