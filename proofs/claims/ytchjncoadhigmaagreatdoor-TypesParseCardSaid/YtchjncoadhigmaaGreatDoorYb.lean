/- One rule more: a nil slice that lies in a box is given a token. Walks: merge. -/
import Derived.Test.YtchjncoadhigmaaGreatDoorHv
import Derived.Test.YtchjncoadhigmaaGreatDoorY3
import Derived.Test.YtchjncoadhigmaaGreatDoorY5
namespace Go.Proofs.YtchjncoadhigmaaGreatDoor
set_option linter.unusedSimpArgs false
set_option linter.unusedVariables false
set_option linter.unnecessarySimpa false
open Go.RowKit
theorem Sim.ghostO {B : Option Nat} {C : Cf} {a : Act} {N : Nat} {s : List (Nat × V)} {l : List Ent} {id j : Nat} {cs : List V} {e : TypeId} {z : Nat} (hS : Sim B C ⟨dn N s, ofl l⟩ a)
    (hi : l[id]? = some (.box cs)) (hj : cs[j]? = some (.sl [] .nl)) : ∃ D, Sim B D ⟨dn N s, ofl (l.set id (.box (cs.set j (.sl [] (.own l.length)))) ++ [.tip e z 0])⟩ a ∧ D.w = C.w ∧ Ev C D := by
  obtain ⟨hil, hi'⟩ := List.getElem?_eq_some_iff.1 hi
  obtain ⟨hjl, hj'⟩ := List.getElem?_eq_some_iff.1 hj
  have hf : C.st l.length = .free := by rw [hS.st]; exact ofl_end l
  have hE1 : Ev C (C.ghost l.length e z 0) := Ev.ghost hf
  have hO1 : Ok (C.ghost l.length e z 0) := hS.ok.ghost hf
  have hst1 : (C.ghost l.length e z 0).st = ofl (l ++ [.tip e z 0]) := by
    show upd C.st l.length (.tip e z 0) = _
    rw [hS.st]
    exact ofl_snoc l _
  have hbox : C.st id = .box cs := by rw [hS.st]; simp [ofl, List.getD, hi]
  have hset : ∀ i, ofl (l.set id (.box (cs.set j (.sl [] (.own l.length)))) ++ [.tip e z 0]) i = if i = id then .box (cs.set j (.sl [] (.own l.length))) else ofl (l ++ [.tip e z 0]) i := fun i => by
    unfold ofl
    by_cases h : i = id
    · subst h; simp [List.getD, List.getElem?_append, hil]
    · have h' : id ≠ i := fun q => h q.symm
      simp [List.getD, List.getElem?_append, List.getElem?_set, h, h']
  have hk : Kin (C.ghost l.length e z 0).st (ofl (l.set id (.box (cs.set j (.sl [] (.own l.length)))) ++ [.tip e z 0])) := fun i => by
    rw [hset, hst1]
    by_cases h : i = id
    · subst h
      exact .inr ⟨cs, _, by simp [ofl, List.getD, List.getElem?_append, hil, hi'], if_pos rfl⟩
    · exact .inl (if_neg h)
  refine ⟨(C.ghost l.length e z 0).wst _, ⟨rfl, hO1.wst hk fun i ds hd => ?_, (hS.defers.mono hE1).mono (Ev.wst hk), hS.size, fun t ht => ((hS.slot t ht).mono hE1).wst hk⟩, rfl, hE1.trans (Ev.wst hk)⟩
  rw [hset] at hd
  by_cases h : i = id
  · subst h
    rw [if_pos rfl] at hd
    cases hd
    obtain ⟨g, bs, t, h1, h2, h3, h4, h5⟩ := hS.ok.box i cs hbox
    have hne : i ≠ l.length := by omega
    refine ⟨g, bs, t, ?_, h2, by simpa using h3, fun q hq => h4 q (by simpa using hq), fun q hq => ?_⟩
    · show (if i = l.length then none else C.σ i) = some g
      rw [if_neg hne]; exact h1
    · have hq' : q < cs.length := by simpa using hq
      rw [List.getElem_set]
      have h6 := h5 q hq'
      by_cases hjq : j = q
      · subst hjq
        rw [if_pos rfl]
        rw [hj'] at h6
        exact (R.ghost (id := l.length) (e := e) (z := z) (.inr rfl) hf h6 (fun x hx => by cases hx)).wst hk
      · rw [if_neg hjq]
        exact (h6.mono hE1).wst hk
  · rw [if_neg h, ← hst1] at hd
    obtain ⟨g, bs, t, h1, h2, h3, h4, h5⟩ := hO1.box i ds hd
    exact ⟨g, bs, t, h1, h2, h3, h4, fun q hq => (h5 q hq).wst hk⟩
theorem ALp.ghostO {K : Option Nat → Prop} {P : Program} {st0 : Nat → Ent} {Q : Exit → St → Prop} {c : Code} {N : Nat} {s : List (Nat × V)} {l : List Ent} (id j : Nat) (cs : List V) (e : TypeId) (z : Nat)
    (h : ALp K P st0 c Q ⟨dn N s, ofl (l.set id (.box (cs.set j (.sl [] (.own l.length)))) ++ [.tip e z 0])⟩) (hi : l[id]? = some (.box cs) := by rfl) (hj : cs[j]? = some (.sl [] .nl) := by rfl) : ALp K P st0 c Q ⟨dn N s, ofl l⟩ := by
  intro C0 C a ro n hK h0 hE hS
  obtain ⟨D, h1, h2, h3⟩ := hS.ghostO (e := e) (z := z) hi hj
  have := h C0 D a ro n hK h0 (hE.trans h3) h1
  rw [h2] at this
  exact this

theorem slc (b : Ty) (lb : List Ty) : ((some (1 : Int)).getD 0 = 1) ∧ ((none : Option Int).getD ((lb.length + 1 : Nat) : Int) = ((lb.length + 1 : Nat) : Int)) ∧ ((1 : Int) ≤ ((lb.length + 1 : Nat) : Int)) ∧ (((lb.length + 1 : Nat) : Int) ≤ ((lb.length + 1 : Nat) : Int)) ∧ ((((lb.length + 1 : Nat) : Int)).toNat = lb.length + 1) ∧
    (List.take (lb.length + 1 - 1) (List.map fdV lb) = List.map fdV lb) ∧ (allS 6 (List.map fdV lb) = true) :=
  ⟨rfl, rfl, by omega, by omega, by omega, by rw [Nat.add_sub_cancel]; exact List.take_of_length_le (by simp), allS_fd lb⟩
theorem cmpI_lt {a b : Int} (h : a < b) : cmpI a b = -1 := if_pos h
theorem cmpI_gt {a b : Int} (h : b < a) : cmpI a b = 1 := by unfold cmpI; rw [if_neg (by omega), if_pos h]
theorem cmpI_eq {a b : Int} (h : a = b) : cmpI a b = 0 := by unfold cmpI; rw [if_neg (by omega), if_neg (by omega)]
theorem Y65_Yb : type_of% (And.intro @F_ag_23 (And.intro @F_ag_47 (And.intro @F_al_23 (And.intro @F_el_23 (And.intro @F_sz_23 (And.intro @F_sz_47 (@F_un_23))))))) := And.intro @F_ag_23 (And.intro @F_ag_47 (And.intro @F_al_23 (And.intro @F_el_23 (And.intro @F_sz_23 (And.intro @F_sz_47 (@F_un_23))))))
theorem c_merge : MergeC := by
  intro k f F fa fb hfa hfb h1 h2
  refine PC.enter 81 Tryz.func65 rfl (by decide) rfl rfl (s := [(0, .sl (fa.map fdV) .ro), (1, .sl (fb.map fdV) .ro), (2, .fn (.func 66) [] []), (3, .fn (.func F) [] [])]) (by rfl) ?_
  refine wG Y65_Yb True.intro ?_
  refine AWp.loop ?_
  refine ALp.ghostO 1 0 [.sl [] .nl] 47 6 ?_
  refine ALp.cutP 3 [(0, .sl (fa.map fdV) .ro), (1, .sl (fb.map fdV) .ro), (2, .fn (.func 66) [] []), (9, .pt 1 0), (10, .fn (.func 85) [] [.pt 0 0, .pt 1 0])] [.box [.fn (.func F) [] []], .box [.sl (([] : List Ty).map fdV) (.own 2)], .tip 47 6 ([] : List Ty).length] (And.intro (@tyV_id) (And.intro (@fdV_id) (And.intro (@tyL_id) @fdL_id))) ?_
  obtain ⟨all, hall⟩ : ∃ all, all = mrgP k f fa fb := ⟨_, rfl⟩
  rw [← hall]
  refine ALp.meas (α := List Ty × List Ty × List Ty) (fun p => ⟨dn 81 [(0, .sl (((p).1).map fdV) .ro), (1, .sl (((p).2.1).map fdV) .ro), (2, .fn (.func 66) [] []), (9, .pt 1 0), (10, .fn (.func 85) [] [.pt 0 0, .pt 1 0])], ofl [.box [.fn (.func F) [] []], .box [.sl ((p.2.2).map fdV) (.own 2)], .tip 47 6 (p.2.2).length]⟩) (fun p => (∀ x ∈ p.1, x ∈ fa) ∧ (∀ x ∈ p.2.1, x ∈ fb) ∧ p.1.length + p.2.1.length + p.2.2.length ≤ fa.length + fb.length ∧ p.2.2 ++ mrgP k f p.1 p.2.1 = all) (fun p => p.1.length + p.2.1.length) ?_ (fa, fb, []) ⟨fun x h => h, fun x h => h, by simp, by rw [hall]; simp⟩
  rintro ⟨la, lb, out⟩ ⟨ha, hb, ho, hI⟩ hnext
  simp only at ha hb ho hI hnext
  show AWpK _ _ _ _ _ ⟨dn 81 [(0, .sl ((la).map fdV) .ro), (1, .sl ((lb).map fdV) .ro), (2, .fn (.func 66) [] []), (9, .pt 1 0), (10, .fn (.func 85) [] [.pt 0 0, .pt 1 0])], ofl [.box [.fn (.func F) [] []], .box [.sl ((out).map fdV) (.own 2)], .tip 47 6 (out).length]⟩
  have i00 : ¬ (0 : Int) > 0 := by omega
  rcases la with _ | ⟨a, la⟩
  · rcases lb with _ | ⟨b, lb⟩
    · rw [mrgP_nn, List.append_nil] at hI
      subst hI
      refine wG Y65_Yb i00 ?_
      refine wG Y65_Yb True.intro ?_
      refine Fin.gen0 (rs := [.tmp 8]) rfl (by first | exact .inl rfl | exact .inr rfl) (finG Y65_Yb) ?_
      skip
      all_goals exact wkG (And.intro (@tyV_id) (And.intro (@fdV_id) (And.intro (@tyL_id) @fdL_id)))
    · rw [mrgP_nc, ← List.append_assoc] at hI
      have hb0 : ((lb.length + 1 : Nat) : Int) > 0 := by omega
      have hb1 : ¬ ((lb.length + 1 : Nat) : Int) = 0 := by omega
      have hsl := slc b lb
      have hc := c_take0 (F := F) b k b out (by simp only [List.length_nil, List.length_cons] at ho; omega) (h1 b (.inr (hb b (by simp))))
      obtain ⟨B, hB⟩ : ∃ B, B = out ++ if k = true then [b] else [] := ⟨_, rfl⟩
      rw [← hB] at hc
      have hBl : B.length ≤ out.length + 1 := by rw [hB]; split <;> simp
      rw [show lone k b = if k = true then [b] else [] from rfl, ← hB] at hI
      have hn := hnext ([], lb, B) (by simp only [List.length_nil, List.length_cons]; omega) ⟨(fun x h => ha x h), (fun x h => hb x (by simp [h])), by simp only [List.length_nil, List.length_cons] at ho ⊢; omega, hI⟩
      clear hnext
      refine wdG Y65_Yb (And.intro i00 (And.intro hb0 (And.intro hb1 (And.intro (@tyV_firm) (And.intro (@fdV_firm) (And.intro (@tyV_strip) (And.intro (@fdV_strip) (And.intro (@tyV_live) (And.intro (@tyV_size) (And.intro (@tyV_isAg) (And.intro (@tyV_cells) (And.intro (@fdV_live) (And.intro (@fdV_size) (And.intro (@fdV_isAg) (And.intro (@fdV_cells) (And.intro (@List.getElem?_map.{0, 0}) @Int.natCast_nonneg)))))))))))))))) ?_
      refine AR.callSP [0, 1, 2] hc @fdV_eq (And.intro (@tyV_id) (And.intro (@fdV_id) (And.intro (@tyL_id) @fdL_id))) (And.intro (@fdL_ren) (And.intro (@tyL_ren) (And.intro (@fdV_ren) @tyV_ren))) ?_
      refine goG Y65_Yb True.intro ?_
      refine wG Y65_Yb (And.intro (@tyV_firm) (And.intro (@fdV_firm) (And.intro (@tyV_strip) (And.intro (@fdV_strip) (And.intro (@tyV_live) (And.intro (@tyV_size) (And.intro (@tyV_isAg) (And.intro (@tyV_cells) (And.intro (@fdV_live) (And.intro (@fdV_size) (And.intro (@fdV_isAg) (And.intro (@fdV_cells) (And.intro (@List.getElem?_map.{0, 0}) (And.intro (@Int.natCast_nonneg) hsl)))))))))))))) ?_
      refine ALp.cutP 3 [(0, .sl (([] : List Ty).map fdV) .ro), (1, .sl ((lb).map fdV) .ro), (2, .fn (.func 66) [] []), (9, .pt 1 0), (10, .fn (.func 85) [] [.pt 0 0, .pt 1 0])] [.box [.fn (.func F) [] []], .box [.sl (B.map fdV) (.own 2)], .tip 47 6 B.length] (And.intro (@tyV_id) (And.intro (@fdV_id) (And.intro (@tyL_id) @fdL_id))) ?_
      exact hn
  · have ha0 : ((la.length + 1 : Nat) : Int) > 0 := by omega
    have ha1 : ¬ ((la.length + 1 : Nat) : Int) = 0 := by omega
    have hsa := slc a la
    rcases lb with _ | ⟨b, lb⟩
    · rw [mrgP_cn, ← List.append_assoc] at hI
      have hc := c_take0 (F := F) a k a out (by simp only [List.length_nil, List.length_cons] at ho; omega) (h1 a (.inl (ha a (by simp))))
      obtain ⟨B, hB⟩ : ∃ B, B = out ++ if k = true then [a] else [] := ⟨_, rfl⟩
      rw [← hB] at hc
      have hBl : B.length ≤ out.length + 1 := by rw [hB]; split <;> simp
      rw [show lone k a = if k = true then [a] else [] from rfl, ← hB] at hI
      have hn := hnext (la, [], B) (by simp only [List.length_nil, List.length_cons]; omega) ⟨(fun x h => ha x (by simp [h])), (fun x h => hb x h), by simp only [List.length_nil, List.length_cons] at ho ⊢; omega, hI⟩
      clear hnext
      refine wdG Y65_Yb (And.intro i00 (And.intro ha0 (And.intro ha1 (And.intro (@tyV_firm) (And.intro (@fdV_firm) (And.intro (@tyV_strip) (And.intro (@fdV_strip) (And.intro (@tyV_live) (And.intro (@tyV_size) (And.intro (@tyV_isAg) (And.intro (@tyV_cells) (And.intro (@fdV_live) (And.intro (@fdV_size) (And.intro (@fdV_isAg) (And.intro (@fdV_cells) (And.intro (@List.getElem?_map.{0, 0}) @Int.natCast_nonneg)))))))))))))))) ?_
      refine AR.callSP [0, 1, 2] hc @fdV_eq (And.intro (@tyV_id) (And.intro (@fdV_id) (And.intro (@tyL_id) @fdL_id))) (And.intro (@fdL_ren) (And.intro (@tyL_ren) (And.intro (@fdV_ren) @tyV_ren))) ?_
      refine goG Y65_Yb True.intro ?_
      refine wG Y65_Yb (And.intro (@tyV_firm) (And.intro (@fdV_firm) (And.intro (@tyV_strip) (And.intro (@fdV_strip) (And.intro (@tyV_live) (And.intro (@tyV_size) (And.intro (@tyV_isAg) (And.intro (@tyV_cells) (And.intro (@fdV_live) (And.intro (@fdV_size) (And.intro (@fdV_isAg) (And.intro (@fdV_cells) (And.intro (@List.getElem?_map.{0, 0}) (And.intro (@Int.natCast_nonneg) hsa)))))))))))))) ?_
      refine ALp.cutP 3 [(0, .sl ((la).map fdV) .ro), (1, .sl (([] : List Ty).map fdV) .ro), (2, .fn (.func 66) [] []), (9, .pt 1 0), (10, .fn (.func 85) [] [.pt 0 0, .pt 1 0])] [.box [.fn (.func F) [] []], .box [.sl (B.map fdV) (.own 2)], .tip 47 6 B.length] (And.intro (@tyV_id) (And.intro (@fdV_id) (And.intro (@tyL_id) @fdL_id))) ?_
      exact hn
    · have hb0 : ((lb.length + 1 : Nat) : Int) > 0 := by omega
      have hb1 : ¬ ((lb.length + 1 : Nat) : Int) = 0 := by omega
      have hsl := slc b lb
      have hcmp := c_byOff a b
      rw [mrgP_cc] at hI
      rcases Int.lt_trichotomy a.off b.off with hlt | heq | hgt
      · rw [if_pos hlt, ← List.append_assoc] at hI
        rw [cmpI_lt hlt] at hcmp
        have hc := c_take0 (F := F) a k a out (by simp only [List.length_nil, List.length_cons] at ho; omega) (h1 a (.inl (ha a (by simp))))
        obtain ⟨B, hB⟩ : ∃ B, B = out ++ if k = true then [a] else [] := ⟨_, rfl⟩
        rw [← hB] at hc
        have hBl : B.length ≤ out.length + 1 := by rw [hB]; split <;> simp
        rw [show lone k a = if k = true then [a] else [] from rfl, ← hB] at hI
        have hn := hnext (la, b :: lb, B) (by simp only [List.length_nil, List.length_cons]; omega) ⟨(fun x h => ha x (by simp [h])), (fun x h => hb x h), by simp only [List.length_nil, List.length_cons] at ho ⊢; omega, hI⟩
        clear hnext
        refine wdG Y65_Yb (And.intro i00 (And.intro ha0 (And.intro ha1 (And.intro hb0 (And.intro hb1 (And.intro (@tyV_firm) (And.intro (@fdV_firm) (And.intro (@tyV_strip) (And.intro (@fdV_strip) (And.intro (@tyV_live) (And.intro (@tyV_size) (And.intro (@tyV_isAg) (And.intro (@tyV_cells) (And.intro (@fdV_live) (And.intro (@fdV_size) (And.intro (@fdV_isAg) (And.intro (@fdV_cells) (And.intro (@List.getElem?_map.{0, 0}) @Int.natCast_nonneg)))))))))))))))))) ?_
        refine AR.callP hcmp @fdV_eq (And.intro (@tyV_id) (And.intro (@fdV_id) (And.intro (@tyL_id) @fdL_id))) ?_
        refine goG Y65_Yb (And.intro i00 (And.intro ha0 (And.intro ha1 (And.intro hb0 (And.intro hb1 (And.intro (@tyV_firm) (And.intro (@fdV_firm) (And.intro (@tyV_strip) (And.intro (@fdV_strip) (And.intro (@tyV_live) (And.intro (@tyV_size) (And.intro (@tyV_isAg) (And.intro (@tyV_cells) (And.intro (@fdV_live) (And.intro (@fdV_size) (And.intro (@fdV_isAg) (And.intro (@fdV_cells) (And.intro (@List.getElem?_map.{0, 0}) @Int.natCast_nonneg)))))))))))))))))) ?_
        refine wdG Y65_Yb (And.intro i00 (And.intro ha0 (And.intro ha1 (And.intro hb0 (And.intro hb1 (And.intro (@tyV_firm) (And.intro (@fdV_firm) (And.intro (@tyV_strip) (And.intro (@fdV_strip) (And.intro (@tyV_live) (And.intro (@tyV_size) (And.intro (@tyV_isAg) (And.intro (@tyV_cells) (And.intro (@fdV_live) (And.intro (@fdV_size) (And.intro (@fdV_isAg) (And.intro (@fdV_cells) (And.intro (@List.getElem?_map.{0, 0}) @Int.natCast_nonneg)))))))))))))))))) ?_
        refine AR.callSP [0, 1, 2] hc @fdV_eq (And.intro (@tyV_id) (And.intro (@fdV_id) (And.intro (@tyL_id) @fdL_id))) (And.intro (@fdL_ren) (And.intro (@tyL_ren) (And.intro (@fdV_ren) @tyV_ren))) ?_
        refine goG Y65_Yb True.intro ?_
        refine wG Y65_Yb (And.intro (@tyV_firm) (And.intro (@fdV_firm) (And.intro (@tyV_strip) (And.intro (@fdV_strip) (And.intro (@tyV_live) (And.intro (@tyV_size) (And.intro (@tyV_isAg) (And.intro (@tyV_cells) (And.intro (@fdV_live) (And.intro (@fdV_size) (And.intro (@fdV_isAg) (And.intro (@fdV_cells) (And.intro (@List.getElem?_map.{0, 0}) (And.intro (@Int.natCast_nonneg) hsa)))))))))))))) ?_
        refine ALp.cutP 3 [(0, .sl ((la).map fdV) .ro), (1, .sl ((b :: lb).map fdV) .ro), (2, .fn (.func 66) [] []), (9, .pt 1 0), (10, .fn (.func 85) [] [.pt 0 0, .pt 1 0])] [.box [.fn (.func F) [] []], .box [.sl (B.map fdV) (.own 2)], .tip 47 6 B.length] (And.intro (@tyV_id) (And.intro (@fdV_id) (And.intro (@tyL_id) @fdL_id))) ?_
        exact hn
      · rw [if_neg (by omega), if_neg (by omega)] at hI
        rw [cmpI_eq heq] at hcmp
        have hc := c_take1 (F := F) a b true ((f a b).at_ a.off) out (by simp only [List.length_nil, List.length_cons] at ho; omega) (h2 a (ha a (by simp)) b (hb b (by simp)))
        obtain ⟨B, hB⟩ : ∃ B, B = out ++ [(f a b).at_ a.off] := ⟨_, rfl⟩
        rw [if_pos rfl, ← hB] at hc
        have hBl : B.length = out.length + 1 := by rw [hB]; simp
        rw [List.append_cons, ← hB] at hI
        have hn := hnext (la, lb, B) (by simp only [List.length_nil, List.length_cons]; omega) ⟨(fun x h => ha x (by simp [h])), (fun x h => hb x (by simp [h])), by simp only [List.length_nil, List.length_cons] at ho ⊢; omega, hI⟩
        clear hnext
        refine wdG Y65_Yb (And.intro i00 (And.intro ha0 (And.intro ha1 (And.intro hb0 (And.intro hb1 (And.intro (@tyV_firm) (And.intro (@fdV_firm) (And.intro (@tyV_strip) (And.intro (@fdV_strip) (And.intro (@tyV_live) (And.intro (@tyV_size) (And.intro (@tyV_isAg) (And.intro (@tyV_cells) (And.intro (@fdV_live) (And.intro (@fdV_size) (And.intro (@fdV_isAg) (And.intro (@fdV_cells) (And.intro (@List.getElem?_map.{0, 0}) @Int.natCast_nonneg)))))))))))))))))) ?_
        refine AR.callP hcmp @fdV_eq (And.intro (@tyV_id) (And.intro (@fdV_id) (And.intro (@tyL_id) @fdL_id))) ?_
        refine goG Y65_Yb (And.intro i00 (And.intro ha0 (And.intro ha1 (And.intro hb0 (And.intro hb1 (And.intro (@tyV_firm) (And.intro (@fdV_firm) (And.intro (@tyV_strip) (And.intro (@fdV_strip) (And.intro (@tyV_live) (And.intro (@tyV_size) (And.intro (@tyV_isAg) (And.intro (@tyV_cells) (And.intro (@fdV_live) (And.intro (@fdV_size) (And.intro (@fdV_isAg) (And.intro (@fdV_cells) (And.intro (@List.getElem?_map.{0, 0}) @Int.natCast_nonneg)))))))))))))))))) ?_
        refine wdG Y65_Yb (And.intro i00 (And.intro ha0 (And.intro ha1 (And.intro hb0 (And.intro hb1 (And.intro (@tyV_firm) (And.intro (@fdV_firm) (And.intro (@tyV_strip) (And.intro (@fdV_strip) (And.intro (@tyV_live) (And.intro (@tyV_size) (And.intro (@tyV_isAg) (And.intro (@tyV_cells) (And.intro (@fdV_live) (And.intro (@fdV_size) (And.intro (@fdV_isAg) (And.intro (@fdV_cells) (And.intro (@List.getElem?_map.{0, 0}) @Int.natCast_nonneg)))))))))))))))))) ?_
        refine AR.callP hcmp @fdV_eq (And.intro (@tyV_id) (And.intro (@fdV_id) (And.intro (@tyL_id) @fdL_id))) ?_
        refine goG Y65_Yb (And.intro i00 (And.intro ha0 (And.intro ha1 (And.intro hb0 (And.intro hb1 (And.intro (@tyV_firm) (And.intro (@fdV_firm) (And.intro (@tyV_strip) (And.intro (@fdV_strip) (And.intro (@tyV_live) (And.intro (@tyV_size) (And.intro (@tyV_isAg) (And.intro (@tyV_cells) (And.intro (@fdV_live) (And.intro (@fdV_size) (And.intro (@fdV_isAg) (And.intro (@fdV_cells) (And.intro (@List.getElem?_map.{0, 0}) @Int.natCast_nonneg)))))))))))))))))) ?_
        refine wdG Y65_Yb (And.intro i00 (And.intro ha0 (And.intro ha1 (And.intro hb0 (And.intro hb1 (And.intro (@tyV_firm) (And.intro (@fdV_firm) (And.intro (@tyV_strip) (And.intro (@fdV_strip) (And.intro (@tyV_live) (And.intro (@tyV_size) (And.intro (@tyV_isAg) (And.intro (@tyV_cells) (And.intro (@fdV_live) (And.intro (@fdV_size) (And.intro (@fdV_isAg) (And.intro (@fdV_cells) (And.intro (@List.getElem?_map.{0, 0}) @Int.natCast_nonneg)))))))))))))))))) ?_
        refine AR.callSP [0, 1, 2] hc @fdV_eq (And.intro (@tyV_id) (And.intro (@fdV_id) (And.intro (@tyL_id) @fdL_id))) (And.intro (@fdL_ren) (And.intro (@tyL_ren) (And.intro (@fdV_ren) @tyV_ren))) ?_
        refine goG Y65_Yb True.intro ?_
        refine wdG Y65_Yb (And.intro (@tyV_firm) (And.intro (@fdV_firm) (And.intro (@tyV_strip) (And.intro (@fdV_strip) (And.intro (@tyV_live) (And.intro (@tyV_size) (And.intro (@tyV_isAg) (And.intro (@tyV_cells) (And.intro (@fdV_live) (And.intro (@fdV_size) (And.intro (@fdV_isAg) (And.intro (@fdV_cells) (And.intro (@List.getElem?_map.{0, 0}) (And.intro (@Int.natCast_nonneg) (And.intro hsa hsl))))))))))))))) ?_
        refine ALp.cutP 3 [(0, .sl ((la).map fdV) .ro), (1, .sl ((lb).map fdV) .ro), (2, .fn (.func 66) [] []), (9, .pt 1 0), (10, .fn (.func 85) [] [.pt 0 0, .pt 1 0])] [.box [.fn (.func F) [] []], .box [.sl (B.map fdV) (.own 2)], .tip 47 6 B.length] (And.intro (@tyV_id) (And.intro (@fdV_id) (And.intro (@tyL_id) @fdL_id))) ?_
        exact hn
      · rw [if_neg (by omega), if_pos hgt, ← List.append_assoc] at hI
        rw [cmpI_gt hgt] at hcmp
        have hc := c_take0 (F := F) b k b out (by simp only [List.length_nil, List.length_cons] at ho; omega) (h1 b (.inr (hb b (by simp))))
        obtain ⟨B, hB⟩ : ∃ B, B = out ++ if k = true then [b] else [] := ⟨_, rfl⟩
        rw [← hB] at hc
        have hBl : B.length ≤ out.length + 1 := by rw [hB]; split <;> simp
        rw [show lone k b = if k = true then [b] else [] from rfl, ← hB] at hI
        have hn := hnext (a :: la, lb, B) (by simp only [List.length_nil, List.length_cons]; omega) ⟨(fun x h => ha x h), (fun x h => hb x (by simp [h])), by simp only [List.length_nil, List.length_cons] at ho ⊢; omega, hI⟩
        clear hnext
        refine wdG Y65_Yb (And.intro i00 (And.intro ha0 (And.intro ha1 (And.intro hb0 (And.intro hb1 (And.intro (@tyV_firm) (And.intro (@fdV_firm) (And.intro (@tyV_strip) (And.intro (@fdV_strip) (And.intro (@tyV_live) (And.intro (@tyV_size) (And.intro (@tyV_isAg) (And.intro (@tyV_cells) (And.intro (@fdV_live) (And.intro (@fdV_size) (And.intro (@fdV_isAg) (And.intro (@fdV_cells) (And.intro (@List.getElem?_map.{0, 0}) @Int.natCast_nonneg)))))))))))))))))) ?_
        refine AR.callP hcmp @fdV_eq (And.intro (@tyV_id) (And.intro (@fdV_id) (And.intro (@tyL_id) @fdL_id))) ?_
        refine goG Y65_Yb (And.intro i00 (And.intro ha0 (And.intro ha1 (And.intro hb0 (And.intro hb1 (And.intro (@tyV_firm) (And.intro (@fdV_firm) (And.intro (@tyV_strip) (And.intro (@fdV_strip) (And.intro (@tyV_live) (And.intro (@tyV_size) (And.intro (@tyV_isAg) (And.intro (@tyV_cells) (And.intro (@fdV_live) (And.intro (@fdV_size) (And.intro (@fdV_isAg) (And.intro (@fdV_cells) (And.intro (@List.getElem?_map.{0, 0}) @Int.natCast_nonneg)))))))))))))))))) ?_
        refine wdG Y65_Yb (And.intro i00 (And.intro ha0 (And.intro ha1 (And.intro hb0 (And.intro hb1 (And.intro (@tyV_firm) (And.intro (@fdV_firm) (And.intro (@tyV_strip) (And.intro (@fdV_strip) (And.intro (@tyV_live) (And.intro (@tyV_size) (And.intro (@tyV_isAg) (And.intro (@tyV_cells) (And.intro (@fdV_live) (And.intro (@fdV_size) (And.intro (@fdV_isAg) (And.intro (@fdV_cells) (And.intro (@List.getElem?_map.{0, 0}) @Int.natCast_nonneg)))))))))))))))))) ?_
        refine AR.callP hcmp @fdV_eq (And.intro (@tyV_id) (And.intro (@fdV_id) (And.intro (@tyL_id) @fdL_id))) ?_
        refine goG Y65_Yb (And.intro i00 (And.intro ha0 (And.intro ha1 (And.intro hb0 (And.intro hb1 (And.intro (@tyV_firm) (And.intro (@fdV_firm) (And.intro (@tyV_strip) (And.intro (@fdV_strip) (And.intro (@tyV_live) (And.intro (@tyV_size) (And.intro (@tyV_isAg) (And.intro (@tyV_cells) (And.intro (@fdV_live) (And.intro (@fdV_size) (And.intro (@fdV_isAg) (And.intro (@fdV_cells) (And.intro (@List.getElem?_map.{0, 0}) @Int.natCast_nonneg)))))))))))))))))) ?_
        refine wdG Y65_Yb (And.intro i00 (And.intro ha0 (And.intro ha1 (And.intro hb0 (And.intro hb1 (And.intro (@tyV_firm) (And.intro (@fdV_firm) (And.intro (@tyV_strip) (And.intro (@fdV_strip) (And.intro (@tyV_live) (And.intro (@tyV_size) (And.intro (@tyV_isAg) (And.intro (@tyV_cells) (And.intro (@fdV_live) (And.intro (@fdV_size) (And.intro (@fdV_isAg) (And.intro (@fdV_cells) (And.intro (@List.getElem?_map.{0, 0}) @Int.natCast_nonneg)))))))))))))))))) ?_
        refine AR.callSP [0, 1, 2] hc @fdV_eq (And.intro (@tyV_id) (And.intro (@fdV_id) (And.intro (@tyL_id) @fdL_id))) (And.intro (@fdL_ren) (And.intro (@tyL_ren) (And.intro (@fdV_ren) @tyV_ren))) ?_
        refine goG Y65_Yb True.intro ?_
        refine wG Y65_Yb (And.intro (@tyV_firm) (And.intro (@fdV_firm) (And.intro (@tyV_strip) (And.intro (@fdV_strip) (And.intro (@tyV_live) (And.intro (@tyV_size) (And.intro (@tyV_isAg) (And.intro (@tyV_cells) (And.intro (@fdV_live) (And.intro (@fdV_size) (And.intro (@fdV_isAg) (And.intro (@fdV_cells) (And.intro (@List.getElem?_map.{0, 0}) (And.intro (@Int.natCast_nonneg) hsl)))))))))))))) ?_
        refine ALp.cutP 3 [(0, .sl ((a :: la).map fdV) .ro), (1, .sl ((lb).map fdV) .ro), (2, .fn (.func 66) [] []), (9, .pt 1 0), (10, .fn (.func 85) [] [.pt 0 0, .pt 1 0])] [.box [.fn (.func F) [] []], .box [.sl (B.map fdV) (.own 2)], .tip 47 6 B.length] (And.intro (@tyV_id) (And.intro (@fdV_id) (And.intro (@tyL_id) @fdL_id))) ?_
        exact hn
end Go.Proofs.YtchjncoadhigmaaGreatDoor

