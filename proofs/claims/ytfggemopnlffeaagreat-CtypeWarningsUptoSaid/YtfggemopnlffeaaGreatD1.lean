import Derived.Test.YtfggemopnlffeaaGreatHv
import Derived.Test.YtfggemopnlffeaaGreatCI
import Derived.Test.YtfggemopnlffeaaGreatBI
namespace Go.Proofs.YtfggemopnlffeaaGreat
set_option linter.unusedSimpArgs false
set_option linter.unusedVariables false
set_option linter.unnecessarySimpa false
open Go.RowKit
theorem Fin.four {P : Program} {fn : Func} {N : Nat} {s : List (Nat × V)} {l : List Ent} {e : Exit} {t0 t1 t2 t3 : Nat} {a b c d : V} (hr : fn.results = #[.tmp t0, .tmp t1, .tmp t2, .tmp t3] := by rfl) (he : e = .normal ∨ e = .ret := by first | exact .inl rfl | exact .inr rfl) (h0 : St.ev ⟨dn N s, ofl l⟩ (.tmp t0) = a := by rfl) (h1 : St.ev ⟨dn N s, ofl l⟩ (.tmp t1) = b := by rfl)
    (h2 : St.ev ⟨dn N s, ofl l⟩ (.tmp t2) = c := by rfl) (h3 : St.ev ⟨dn N s, ofl l⟩ (.tmp t3) = d := by rfl) (hi : (V.tu [a, b, c, d]).ids noId = true := by rfl) : Fin P fn stF (fun z st => z = .tu [a, b, c, d] ∧ st = stF) e ⟨dn N s, ofl l⟩ :=
  ⟨he, .tu [a, b, c, d], .tu [a, b, c, d], noId, .inr ⟨by simp [hr], _, rfl, by simp [hr], fun i hi hi' => by
    simp only [hr]
    match i, hi' with
    | 0, _ => exact resA_sound (r := .tmp t0) (congrArg some h0)
    | 1, _ => exact resA_sound (r := .tmp t1) (congrArg some h1)
    | 2, _ => exact resA_sound (r := .tmp t2) (congrArg some h2)
    | 3, _ => exact resA_sound (r := .tmp t3) (congrArg some h3)⟩, WkF.of (Wk.refl _) hi, fun i h => absurd rfl h, fun i cs _ h => (by cases h), rfl, rfl⟩
theorem GIX : strip true (.gi false .dead) = .gi false .dead ∧ strip false (.gi false .dead) = .dead := ⟨rfl, rfl⟩
def okK (k : Int) : Bool := decide (1 ≤ k) && decide (k ≤ 15)
theorem c_shape (k : Int) : PC Tryz.prog 127 [(.im (.int .i64 (k)))] (.tu [(.im (.int .i64 (nE k))), (.im (.bool (nmd k))), (.im (.bool (lst k))), (.im (.bool (okK k)))]) := by
  refine PC.enter 29 Tryz.func127 rfl (by decide) rfl rfl (s := [(0, (.im (.int .i64 (k))))]) (by rfl) ?_
  by_cases h1 : k = 1
  · subst h1
    rw [show nE 1 = 1 from rfl, show nmd 1 = true from rfl, show lst 1 = false from rfl, show okK 1 = true from rfl]
    refine wG True.intro True.intro ?_
    exact Fin.four
  by_cases h2 : k = 2
  · subst h2
    rw [show nE 2 = 2 from rfl, show nmd 2 = false from rfl, show lst 2 = false from rfl, show okK 2 = true from rfl]
    refine wG True.intro True.intro ?_
    exact Fin.four
  by_cases h3 : k = 3
  · subst h3
    rw [show nE 3 = 0 from rfl, show nmd 3 = true from rfl, show lst 3 = false from rfl, show okK 3 = true from rfl]
    refine wG True.intro True.intro ?_
    exact Fin.four
  by_cases h4 : k = 4
  · subst h4
    rw [show nE 4 = 1 from rfl, show nmd 4 = false from rfl, show lst 4 = false from rfl, show okK 4 = true from rfl]
    refine wG True.intro True.intro ?_
    exact Fin.four
  by_cases h5 : k = 5
  · subst h5
    rw [show nE 5 = 0 from rfl, show nmd 5 = true from rfl, show lst 5 = false from rfl, show okK 5 = true from rfl]
    refine wG True.intro True.intro ?_
    exact Fin.four
  by_cases h6 : k = 6
  · subst h6
    rw [show nE 6 = 1 from rfl, show nmd 6 = false from rfl, show lst 6 = true from rfl, show okK 6 = true from rfl]
    refine wG True.intro True.intro ?_
    exact Fin.four
  by_cases h7 : k = 7
  · subst h7
    rw [show nE 7 = 1 from rfl, show nmd 7 = false from rfl, show lst 7 = true from rfl, show okK 7 = true from rfl]
    refine wG True.intro True.intro ?_
    exact Fin.four
  by_cases h8 : k = 8
  · subst h8
    rw [show nE 8 = 0 from rfl, show nmd 8 = false from rfl, show lst 8 = true from rfl, show okK 8 = true from rfl]
    refine wG True.intro True.intro ?_
    exact Fin.four
  by_cases h9 : k = 9
  · subst h9
    rw [show nE 9 = 1 from rfl, show nmd 9 = false from rfl, show lst 9 = false from rfl, show okK 9 = true from rfl]
    refine wG True.intro True.intro ?_
    exact Fin.four
  by_cases h10 : k = 10
  · subst h10
    rw [show nE 10 = 0 from rfl, show nmd 10 = false from rfl, show lst 10 = false from rfl, show okK 10 = true from rfl]
    refine wG True.intro True.intro ?_
    exact Fin.four
  by_cases h11 : k = 11
  · subst h11
    rw [show nE 11 = 0 from rfl, show nmd 11 = false from rfl, show lst 11 = false from rfl, show okK 11 = true from rfl]
    refine wG True.intro True.intro ?_
    exact Fin.four
  by_cases h12 : k = 12
  · subst h12
    rw [show nE 12 = 0 from rfl, show nmd 12 = true from rfl, show lst 12 = false from rfl, show okK 12 = true from rfl]
    refine wG True.intro True.intro ?_
    exact Fin.four
  by_cases h13 : k = 13
  · subst h13
    rw [show nE 13 = 0 from rfl, show nmd 13 = true from rfl, show lst 13 = false from rfl, show okK 13 = true from rfl]
    refine wG True.intro True.intro ?_
    exact Fin.four
  by_cases h14 : k = 14
  · subst h14
    rw [show nE 14 = 0 from rfl, show nmd 14 = false from rfl, show lst 14 = false from rfl, show okK 14 = true from rfl]
    refine wG True.intro True.intro ?_
    exact Fin.four
  by_cases h15 : k = 15
  · subst h15
    rw [show nE 15 = 0 from rfl, show nmd 15 = false from rfl, show lst 15 = false from rfl, show okK 15 = true from rfl]
    refine wG True.intro True.intro ?_
    exact Fin.four
  rw [show nE k = 0 by simp [nE, h1, h2, h3, h4, h5, h6, h7, h8, h9, h10, h11, h12, h13, h14, h15], show nmd k = false by simp [nmd, h1, h2, h3, h4, h5, h6, h7, h8, h9, h10, h11, h12, h13, h14, h15], show lst k = false by simp [lst, h1, h2, h3, h4, h5, h6, h7, h8, h9, h10, h11, h12, h13, h14, h15], show okK k = false by simp [okK]; omega]
  refine wG True.intro (AI h1 (AI h2 (AI h3 (AI h4 (AI h5 (AI h6 (AI h7 (AI h8 (AI h9 (AI h10 (AI h11 (AI h12 (AI h13 (AI h14 h15)))))))))))))) ?_
  exact Fin.four
theorem Y112_D1 : type_of% (AI @F_ag_3 (AI @F_ag_35 (AI @F_ag_46 (AI @F_ag_48 (AI @F_ag_57 (AI @F_ag_9 (AI @F_el_35 (AI @F_el_46 (AI @F_el_57 (AI @F_fl_59_0 (AI @F_fl_59_1 (AI @F_fl_59_2 (AI @F_fl_59_3 (AI @F_fl_59_4 (AI @F_fl_59_5 (AI @F_fl_59_6 (AI @F_sz_3 (AI @F_sz_35 (AI @F_sz_46 (AI @F_sz_48 (AI @F_sz_57 (AI @F_sz_59 (@F_sz_9))))))))))))))))))))))) := AI @F_ag_3 (AI @F_ag_35 (AI @F_ag_46 (AI @F_ag_48 (AI @F_ag_57 (AI @F_ag_9 (AI @F_el_35 (AI @F_el_46 (AI @F_el_57 (AI @F_fl_59_0 (AI @F_fl_59_1 (AI @F_fl_59_2 (AI @F_fl_59_3 (AI @F_fl_59_4 (AI @F_fl_59_5 (AI @F_fl_59_6 (AI @F_sz_3 (AI @F_sz_35 (AI @F_sz_46 (AI @F_sz_48 (AI @F_sz_57 (AI @F_sz_59 (@F_sz_9))))))))))))))))))))))
set_option maxHeartbeats 2000000 in
theorem c_stmtR (s : Nd) (hf : fitN s) : PC Tryz.prog 112 [ndV s] (.im (.bool (stT s))) := by
  obtain ⟨hI, hsz, ⟨he1, he2⟩, h4, h5, h6, h7⟩ := fitN_inv hf
  have hn := c_NameR s.name hsz
  have hsh := c_shape s.kind
  clear h4 h5 h7 hI
  obtain ⟨k, w, n, e, l, el, cs⟩ := s
  rw [show stT (.mk k w n e l el cs) = (okK k && decide ((e.length : Int) = nE k) && (if nmd k then nameT n else eqS n ByteArray.empty) && (lst k || decide (l.length = 0)) && (k == 6 || decide (el.length = 0)) &&
    (if k == 2 then w == 1 || w == 2 || w == 4 else w == 0) && (if k == 9 then decide (1 ≤ cs.length) && decide (cs.length ≤ 64) else decide (cs.length = 0)) && e.all efm) from rfl]
  have hn : PC Tryz.prog 41 [.im (.string n)] (.im (.bool (nameT n))) := hn
  have hsh : PC Tryz.prog 127 [(.im (.int .i64 (k)))] (.tu [(.im (.int .i64 (nE k))), (.im (.bool (nmd k))), (.im (.bool (lst k))), (.im (.bool (okK k)))]) := hsh
  have he1 : e.length ≤ 4194304 := he1
  have he2 : ∀ x ∈ e, fitE x := he2
  obtain ⟨eb, heb⟩ : ∃ eb, (n.toList == ({ data := #[] } : ByteArray).toList) = eb := ⟨_, rfl⟩
  have heq : eqS n ByteArray.empty = eb := heb
  rw [heq]
  obtain ⟨A0, hA0⟩ : ∃ A0, (okK k && decide ((e.length : Int) = nE k) && (if nmd k then nameT n else eb) && (lst k || decide (l.length = 0)) && (k == 6 || decide (el.length = 0))) = A0 := ⟨_, rfl⟩
  rw [hA0]
  refine PC.enter 132 Tryz.func112 rfl (by decide) rfl rfl (s := [(0, ndV (.mk k w n e l el cs))]) (by rfl) ?_
  rw [ndV_mk]
  refine wG Y112_D1 True.intro ?_
  refine AR.callP hsh True.intro (AI ndV_id (AI ndLs_id (AI nlVs_id (AI nlV_id (AI (@exL_id) @exV_id))))) ?_
  generalize okK k = c at hA0 ⊢
  generalize nmd k = a at hA0 ⊢
  generalize lst k = b at hA0 ⊢
  generalize nE k = ne at hA0 ⊢
  clear hsh
  refine goG Y112_D1 True.intro ?_
  refine AR.end (Thn.n (AWp.seq ?_))
  refine AWp.tail (ι := PLift (A0 = true)) (fun i => ⟨dn 132 [(1, .pt 0 0), (2, (.im (.bool (false))))], ofl [.box [.im (.int .i64 (k)), .im (.int .i64 w), .im (.string n), .sl (e.map exV) .ro, .sl (l.map ndV) .ro, .sl (el.map ndV) .ro, .sl (cs.map nlV) .ro]]⟩) (fun i => ?_) (fun rest ht => ?_)
  · obtain ⟨hi⟩ := i
    rw [hi]
    clear hi hA0 hn heb heq
    simp only [Bool.true_and]
    obtain ⟨Wd, hWd⟩ : ∃ W, (if k == 2 then w == 1 || w == 2 || w == 4 else w == 0) = W := ⟨_, rfl⟩
    obtain ⟨Cd, hCd⟩ : ∃ W, (if k == 9 then decide (1 ≤ cs.length) && decide (cs.length ≤ 64) else decide (cs.length = 0)) = W := ⟨_, rfl⟩
    rw [hWd, hCd]
    refine wG Y112_D1 @List.length_map.{0, 0} ?_
    refine AWp.condAB rfl rfl (fun g0 => ?_) (fun g0 => ?_)
    · have he : Wd = false := by
        rw [← hWd]
        by_cases k2 : k = 2 <;> simp [k2] at g0 ⊢ <;> omega
      rw [he, Bool.false_and, Bool.false_and]
      refine wG Y112_D1 True.intro ?_
      exact Fin.oneP
    have he : Wd = true := by
      rw [← hWd]
      by_cases k2 : k = 2 <;> simp [k2] at g0 ⊢ <;> omega
    rw [he, Bool.true_and]
    clear g0 he hWd
    refine wG Y112_D1 @List.length_map.{0, 0} ?_
    refine AWp.condAB rfl rfl (fun g0 => ?_) (fun g0 => ?_)
    · have he : Cd = false := by
        rw [← hCd]
        by_cases k9 : k = 9 <;> simp [k9, -List.length_eq_zero_iff] at g0 ⊢ <;> omega
      rw [he, Bool.false_and]
      refine wG Y112_D1 True.intro ?_
      exact Fin.oneP
    have he : Cd = true := by
      rw [← hCd]
      by_cases k9 : k = 9 <;> simp [k9, -List.length_eq_zero_iff] at g0 ⊢ <;> omega
    rw [he, Bool.true_and]
    clear g0 he hCd
    refine wG Y112_D1 True.intro ?_
    refine AWp.loop ?_
    refine ALp.cutP 1 [(1, .pt 0 0), (2, (.im (.bool (false)))), (7, (.im (.int .i64 ((((0 : Nat)) : Int)))))] [.box [.im (.int .i64 (k)), .im (.int .i64 w), .im (.string n), .sl (e.map exV) .ro, .sl (l.map ndV) .ro, .sl (el.map ndV) .ro, .sl (cs.map nlV) .ro]] (AI ndV_id (AI ndLs_id (AI nlVs_id (AI nlV_id (AI (@exL_id) @exV_id))))) ?_
    refine ALp.upto e.length (AllTo efm e) (fun m => ⟨dn 132 [(1, .pt 0 0), (2, (.im (.bool (false)))), (7, (.im (.int .i64 ((((m : Nat)) : Int)))))], ofl [.box [.im (.int .i64 (k)), .im (.int .i64 w), .im (.string n), .sl (e.map exV) .ro, .sl (l.map ndV) .ro, .sl (el.map ndV) .ro, .sl (cs.map nlV) .ro]]⟩) ?_ 0 (Nat.zero_le _) (AllTo.zero _ _)
    intro m hm hI hnext
    by_cases hlt : m < e.length
    · have hlt' : (m : Int) < (e.length : Int) := by omega
      have hm1 := wrap_succ hlt (by omega)
      have hg := get_some hlt
      have hc := c_eformedR e[m] (he2 _ (List.getElem_mem hlt))
      refine wG Y112_D1 (AI hlt' (AI hg (AI (@List.length_map.{0, 0}) EX))) ?_
      cases b : efm e[m] with
      | true =>
        rw [b] at hc
        refine AR.callP hc @exV_eq (AI ndV_id (AI ndLs_id (AI nlVs_id (AI nlV_id (AI (@exL_id) @exV_id))))) ?_
        refine goG Y112_D1 True.intro ?_
        refine wG Y112_D1 hm1 ?_
        refine ALp.cutP 1 [(1, .pt 0 0), (2, (.im (.bool (false)))), (7, (.im (.int .i64 ((((m + 1 : Nat)) : Int)))))] [.box [.im (.int .i64 (k)), .im (.int .i64 w), .im (.string n), .sl (e.map exV) .ro, .sl (l.map ndV) .ro, .sl (el.map ndV) .ro, .sl (cs.map nlV) .ro]] (AI ndV_id (AI ndLs_id (AI nlVs_id (AI nlV_id (AI (@exL_id) @exV_id))))) ?_
        exact hnext (m + 1) (by omega) (by omega) (hI.succ hlt b)
      | false =>
        rw [b] at hc
        refine AR.callP hc @exV_eq (AI ndV_id (AI ndLs_id (AI nlVs_id (AI nlV_id (AI (@exL_id) @exV_id))))) ?_
        refine goG Y112_D1 True.intro ?_
        refine wG Y112_D1 True.intro ?_
        rw [not_all_of hlt b]
        exact Fin.oneP
    · have hall := hI.done (by omega)
      have hlt' : ¬ (m : Int) < (e.length : Int) := by omega
      clear hnext
      rw [hall]
      refine wG Y112_D1 (AI hlt' @List.length_map.{0, 0}) ?_
      exact Fin.oneP
  cases c with
  | false =>
    refine wG Y112_D1 @List.length_map.{0, 0} ?_
    rw [show A0 = false by rw [← hA0]; simp]
    simp only [Bool.false_and]
    exact Fin.oneP
  | true =>
  by_cases hlen : (e.length : Int) = ne
  case neg =>
    refine wG Y112_D1 (AI hlen @List.length_map.{0, 0}) ?_
    rw [show A0 = false by rw [← hA0]; simp [hlen]]
    simp only [Bool.false_and]
    exact Fin.oneP
  have hlen' := eq_true hlen
  have hab : (if a = true then nameT n else eb) = false → A0 = false := fun h => by rw [← hA0, h]; simp
  have hab' : (if a = true then nameT n else eb) = true → ((b || decide (l.length = 0)) && (k == 6 || decide (el.length = 0))) = A0 := fun h => by rw [← hA0, h]; simp [hlen]
  clear hA0
  cases a with
  | true =>
    generalize nameT n = nm at hn hab hab'
    cases nm with
    | false =>
      refine wG Y112_D1 (AI hlen' @List.length_map.{0, 0}) ?_
      refine AR.callP hn True.intro (AI ndV_id (AI ndLs_id (AI nlVs_id (AI nlV_id (AI (@exL_id) @exV_id))))) ?_
      refine goG Y112_D1 True.intro ?_
      refine wG Y112_D1 True.intro ?_
      rw [hab rfl]
      simp only [Bool.false_and]
      exact Fin.oneP
    | true =>
      have hA0 := hab' rfl
      clear hab hab'
      refine wG Y112_D1 (AI hlen' @List.length_map.{0, 0}) ?_
      refine AR.callP hn True.intro (AI ndV_id (AI ndLs_id (AI nlVs_id (AI nlV_id (AI (@exL_id) @exV_id))))) ?_
      refine goG Y112_D1 @List.length_map.{0, 0} ?_
      refine wG Y112_D1 True.intro ?_
      refine AWp.condAB rfl rfl (fun g0 => ?_) (fun g0 => ?_)
      · have he : A0 = false := by rw [← hA0]; cases b <;> by_cases k6 : k = 6 <;> simp [k6, -List.length_eq_zero_iff] at g0 ⊢ <;> omega
        rw [he]
        simp only [Bool.false_and]
        refine wG Y112_D1 True.intro ?_
        exact Fin.oneP
      have he : A0 = true := by rw [← hA0]; cases b <;> by_cases k6 : k = 6 <;> simp [k6, -List.length_eq_zero_iff] at g0 ⊢ <;> omega
      refine wG Y112_D1 True.intro ?_
      refine AWp.cutP 1 [(1, .pt 0 0), (2, (.im (.bool (false))))] [.box [.im (.int .i64 (k)), .im (.int .i64 w), .im (.string n), .sl (e.map exV) .ro, .sl (l.map ndV) .ro, .sl (el.map ndV) .ro, .sl (cs.map nlV) .ro]] (AI exL_id (AI ndLs_id nlVs_id)) ?_
      exact ht ⟨he⟩
  | false =>
    cases eb with
    | false =>
      refine wG Y112_D1 (AI hlen' (AI heb @List.length_map.{0, 0})) ?_
      rw [hab rfl]
      simp only [Bool.false_and]
      exact Fin.oneP
    | true =>
      have hA0 := hab' rfl
      clear hab hab'
      refine wG Y112_D1 (AI hlen' (AI heb (AI GIX @List.length_map.{0, 0}))) ?_
      refine AWp.condAB rfl rfl (fun g0 => ?_) (fun g0 => ?_)
      · have he : A0 = false := by rw [← hA0]; cases b <;> by_cases k6 : k = 6 <;> simp [k6, -List.length_eq_zero_iff] at g0 ⊢ <;> omega
        rw [he]
        simp only [Bool.false_and]
        refine wG Y112_D1 True.intro ?_
        exact Fin.oneP
      have he : A0 = true := by rw [← hA0]; cases b <;> by_cases k6 : k = 6 <;> simp [k6, -List.length_eq_zero_iff] at g0 ⊢ <;> omega
      refine wG Y112_D1 True.intro ?_
      refine AWp.cutP 1 [(1, .pt 0 0), (2, (.im (.bool (false))))] [.box [.im (.int .i64 (k)), .im (.int .i64 w), .im (.string n), .sl (e.map exV) .ro, .sl (l.map ndV) .ro, .sl (el.map ndV) .ro, .sl (cs.map nlV) .ro]] (AI exL_id (AI ndLs_id nlVs_id)) ?_
      exact ht ⟨he⟩
end Go.Proofs.YtfggemopnlffeaaGreat
