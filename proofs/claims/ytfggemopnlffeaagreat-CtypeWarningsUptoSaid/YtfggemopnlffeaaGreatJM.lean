import Derived.Test.YtfggemopnlffeaaGreatHv
import Derived.Test.YtfggemopnlffeaaGreatJL
import Derived.Test.YtfggemopnlffeaaGreatBJ
namespace Go.Proofs.YtfggemopnlffeaaGreat
set_option linter.unusedSimpArgs false
set_option linter.unusedVariables false
set_option linter.unnecessarySimpa false
open Go.RowKit
theorem Kin.not_box {st st' : Nat → Ent} (h : Kin st st') {i : Nat} (hn : ∀ cs, st i ≠ .box cs) : st' i = st i := by
  rcases h i with h1 | ⟨cs, _, h1, _⟩
  · exact h1
  · exact absurd h1 (hn cs)
theorem Kin.free {st st' : Nat → Ent} (h : Kin st st') {i : Nat} (hi : st' i ≠ .free) : st i ≠ .free := by
  rcases h i with h1 | ⟨cs, _, h1, _⟩
  · rwa [← h1]
  · rw [h1]; simp
theorem Ev.wst {C : Cf} {st : Nat → Ent} (h : Kin C.st st) : Ev C (C.wst st) where
  os := rfl
  tape := rfl
  output := rfl
  size := Nat.le_refl _
  av := rfl
  rd := fun a v hr => ⟨hr.1, Cf.wst_fix h hr.2⟩
  box := fun i cs hb => ⟨rfl, by
    rcases h i with h1 | ⟨_, cs', _, h1⟩
    · exact ⟨cs, h1.trans hb⟩
    · exact ⟨cs', h1⟩⟩
  tip := fun i e z n ht => ⟨n, (h.not_box fun cs hc => by rw [ht] at hc; cases hc).trans ht, Nat.le_refl _, fun _ => ⟨rfl, fun _ cur _ hc => ⟨cur, hc, rfl⟩⟩⟩
  itr := fun i s p hb => ⟨rfl, s, p, (h.not_box fun cs hc => by rw [hb] at hc; cases hc).trans hb⟩
  keep := fun _ _ _ => rfl
  fresh := fun i b hi hs => .inl ⟨h.free hi, hs⟩
theorem Ok.wst {C : Cf} {st : Nat → Ent} (hC : Ok C) (h : Kin C.st st) (hb : ∀ i cs, st i = .box cs → ∃ g bs t, C.σ i = some g ∧ C.w.heap[g]? = some (.cells bs t (0, 0)) ∧ cs.length ≤ bs.size ∧
    (∀ j, j < cs.length → (bs.getD j undef).oneCell' = true) ∧ ∀ j (hj : j < cs.length), R (C.wst st) cs[j] (bs.getD j undef)) : Ok (C.wst st) where
  box := hb
  tip := fun i e z n g ht hs => hC.tip i e z n g (by
    rcases h i with h1 | ⟨_, cs', _, h1⟩
    · exact h1.symm.trans ht
    · have ht : st i = _ := ht
      rw [h1] at ht; cases ht) hs
  iter := fun i s p ht => hC.iter i s p (by
    rcases h i with h1 | ⟨_, cs', _, h1⟩
    · exact h1.symm.trans ht
    · have ht : st i = _ := ht
      rw [h1] at ht; cases ht)
  inj := fun i j g hi hj => hC.inj i j g (h.free hi) (h.free hj)
  avl := hC.avl
  bav := fun i cs g o hc hs => by
    rcases h i with h1 | ⟨cs0, _, h0, _⟩
    · exact hC.bav i cs g o (h1.symm.trans hc) hs
    · exact hC.bav i cs0 g o h0 hs
  gl := hC.gl.mono (Ev.wst h)
theorem Sim.ghostB {B : Option Nat} {C : Cf} {a : Act} {N : Nat} {s : List (Nat × V)} {l : List Ent} {id j : Nat} {cs : List V} {e : TypeId} {z : Nat} (hS : Sim B C ⟨dn N s, ofl l⟩ a)
    (hi : l[id]? = some (.box cs)) (hj : cs[j]? = some (.sl [] .nl)) : ∃ D, Sim B D ⟨dn N s, ofl (l.set id (.box (cs.set j (.sl [] (.own l.length)))) ++ [.tip e z 0])⟩ a ∧ D.w = C.w ∧ Ev C D := by
  obtain ⟨hil, hi'⟩ := List.getElem?_eq_some_iff.1 hi
  obtain ⟨hjl, hj'⟩ := List.getElem?_eq_some_iff.1 hj
  have hf : C.st l.length = .free := by rw [hS.st]; exact ofl_end l
  have hE1 : Ev C (C.ghost l.length e z 0) := Ev.ghost hf
  have hO1 : Ok (C.ghost l.length e z 0) := hS.ok.ghost hf
  have hst1 : (C.ghost l.length e z 0).st = ofl (l ++ [.tip e z 0]) := by
    show upd C.st l.length (.tip e z 0) = _
    rw [hS.st]
    exact ofl_snoc l _
  have hbox : C.st id = .box cs := by rw [hS.st]; simp [ofl, List.getD, hi]
  have hset : ∀ i, ofl (l.set id (.box (cs.set j (.sl [] (.own l.length)))) ++ [.tip e z 0]) i = if i = id then .box (cs.set j (.sl [] (.own l.length))) else ofl (l ++ [.tip e z 0]) i := fun i => by
    unfold ofl
    by_cases h : i = id
    · subst h; simp [List.getD, List.getElem?_append, hil]
    · have h' : id ≠ i := fun q => h q.symm
      simp [List.getD, List.getElem?_append, List.getElem?_set, h, h']
  have hk : Kin (C.ghost l.length e z 0).st (ofl (l.set id (.box (cs.set j (.sl [] (.own l.length)))) ++ [.tip e z 0])) := fun i => by
    rw [hset, hst1]
    by_cases h : i = id
    · subst h
      exact .inr ⟨cs, _, by simp [ofl, List.getD, List.getElem?_append, hil, hi'], if_pos rfl⟩
    · exact .inl (if_neg h)
  refine ⟨(C.ghost l.length e z 0).wst _, ⟨rfl, hO1.wst hk fun i ds hd => ?_, (hS.defers.mono hE1).mono (Ev.wst hk), hS.size, fun t ht => ((hS.slot t ht).mono hE1).wst hk⟩, rfl, hE1.trans (Ev.wst hk)⟩
  rw [hset] at hd
  by_cases h : i = id
  · subst h
    rw [if_pos rfl] at hd
    cases hd
    obtain ⟨g, bs, t, h1, h2, h3, h4, h5⟩ := hS.ok.box i cs hbox
    have hne : i ≠ l.length := by omega
    refine ⟨g, bs, t, ?_, h2, by simpa using h3, fun q hq => h4 q (by simpa using hq), fun q hq => ?_⟩
    · show (if i = l.length then none else C.σ i) = some g
      rw [if_neg hne]; exact h1
    · have hq' : q < cs.length := by simpa using hq
      rw [List.getElem_set]
      have h6 := h5 q hq'
      by_cases hjq : j = q
      · subst hjq
        rw [if_pos rfl]
        rw [hj'] at h6
        exact (R.ghost (id := l.length) (e := e) (z := z) (.inr rfl) hf h6 (fun x hx => by cases hx)).wst hk
      · rw [if_neg hjq]
        exact (h6.mono hE1).wst hk
  · rw [if_neg h, ← hst1] at hd
    obtain ⟨g, bs, t, h1, h2, h3, h4, h5⟩ := hO1.box i ds hd
    exact ⟨g, bs, t, h1, h2, h3, h4, fun q hq => (h5 q hq).wst hk⟩
theorem ALp.ghostB {K : Option Nat → Prop} {P : Program} {st0 : Nat → Ent} {Q : Exit → St → Prop} {c : Code} {N : Nat} {s : List (Nat × V)} {l : List Ent} (id j : Nat) (cs : List V) (e : TypeId) (z : Nat)
    (h : ALp K P st0 c Q ⟨dn N s, ofl (l.set id (.box (cs.set j (.sl [] (.own l.length)))) ++ [.tip e z 0])⟩) (hi : l[id]? = some (.box cs) := by rfl) (hj : cs[j]? = some (.sl [] .nl) := by rfl) : ALp K P st0 c Q ⟨dn N s, ofl l⟩ := by
  intro C0 C a ro n hK h0 hE hS
  obtain ⟨D, h1, h2, h3⟩ := hS.ghostB (e := e) (z := z) hi hj
  have := h C0 D a ro n hK h0 (hE.trans h3) h1
  rw [h2] at this
  exact this
end Go.Proofs.YtfggemopnlffeaaGreat
namespace Go.Proofs.YtfggemopnlffeaaGreat
set_option linter.unusedSimpArgs false
set_option linter.unusedVariables false
set_option linter.unnecessarySimpa false
open Go.RowKit
def tsV (s : ByteArray) : V := .im (.string s)
theorem tsV_eq (s : ByteArray) : tsV s = .im (.string s) := rfl
theorem tsV_live (v : ByteArray) : (tsV v).live = true := rfl
theorem tsV_size (v : ByteArray) : (tsV v).size = 1 := rfl
theorem tsV_isAg (v : ByteArray) : (tsV v).isAg = false := rfl
theorem tsV_firm (v : ByteArray) : (tsV v).firm = true := rfl
theorem tsV_strip (g : Bool) (v : ByteArray) : strip g (tsV v) = tsV v := rfl
theorem tsV_cells (s : ByteArray) : (tsV s).cells = [.im (.string s)] := rfl
theorem tsV_id (p : Nat → Bool) (v : ByteArray) : (tsV v).ids p = true := rfl
theorem tsL_id (p : Nat → Bool) (l : List ByteArray) : V.idsL p (l.map tsV) = true := idsL_map (tsV_id p) l
theorem tsL_ren (g : Nat → Nat) (l : List ByteArray) : V.renL g (l.map tsV) = l.map tsV := V.renL_id g _ (tsL_id _ l)
theorem tsL_all (l : List ByteArray) : allZ 1 (l.map tsV) = true := by
  unfold allZ
  rw [List.all_map]
  exact List.all_eq_true.2 fun x _ => rfl
theorem TS : type_of% (AI @tsV_firm (AI @tsV_strip (AI @tsV_live (AI @tsV_size (AI @tsV_isAg (AI @tsV_cells (AI @tsV_eq (AI @List.getElem?_map.{0, 0} @Int.natCast_nonneg)))))))) :=
  AI @tsV_firm (AI @tsV_strip (AI @tsV_live (AI @tsV_size (AI @tsV_isAg (AI @tsV_cells (AI @tsV_eq (AI @List.getElem?_map.{0, 0} @Int.natCast_nonneg)))))))
theorem Y67_CM : type_of% (AI @F_ag_9 (AI @F_el_29 (@F_sz_9))) := AI @F_ag_9 (AI @F_el_29 (@F_sz_9))
theorem c_indexT (l : List ByteArray) (hl : l.length ≤ 4194304) (s : ByteArray) : PC Tryz.prog 67 [.sl (l.map tsV) .ro, .im (.string s)] (.im (.int .i64 (idx l fun x => eqS s x))) := by
  refine PC.enter 19 Tryz.func67 rfl (by decide) rfl rfl (s := [(0, .sl (l.map tsV) .ro), (1, .im (.string s))]) (by rfl) ?_
  refine wG Y67_CM @List.length_map.{0, 0} ?_
  refine AWp.loop ?_
  refine ALp.cutP 0 [(0, .sl (l.map tsV) .ro), (1, .im (.string s)), (7, (.im (.int .i64 (l.length)))), (8, (.im (.int .i64 ((((0 : Nat)) : Int)))))] [] (AI tsL_id (AI (@exL_id) (AI (@vaL_id) (AI (@exV_id) @vaV_id)))) ?_
  refine ALp.upto l.length (AllTo (fun x => !eqS s x) l) (fun m => ⟨dn 19 [(0, .sl (l.map tsV) .ro), (1, .im (.string s)), (7, (.im (.int .i64 (l.length)))), (8, (.im (.int .i64 ((((m : Nat)) : Int)))))], ofl []⟩) ?_ 0 (Nat.zero_le _) (AllTo.zero _ _)
  intro m hm hI hnext
  by_cases hlt : m < l.length
  · have hlt' : (m : Int) < (l.length : Int) := by omega
    have hm1 := wrap_succ hlt (by omega)
    have hg := get_some hlt
    cases b : eqS s l[m] with
    | true =>
      have b' : (s.toList == l[m].toList) = true := b
      rw [idx_some hlt hI b]
      refine wG Y67_CM (AI hlt' (AI hg (AI b' TS))) ?_
      exact Fin.oneP
    | false =>
      have b' : (s.toList == l[m].toList) = false := b
      refine wG Y67_CM (AI hlt' (AI hg (AI b' (AI hm1 TS)))) ?_
      refine ALp.cutP 0 [(0, .sl (l.map tsV) .ro), (1, .im (.string s)), (7, (.im (.int .i64 (l.length)))), (8, (.im (.int .i64 ((((m + 1 : Nat)) : Int)))))] [] (AI tsL_id (AI (@exL_id) (AI (@vaL_id) (AI (@exV_id) @vaV_id)))) ?_
      exact hnext (m + 1) (by omega) (by omega) (hI.succ hlt (by simp [b]))
  obtain rfl : m = l.length := by omega
  clear hnext
  rw [idx_none hI]
  refine wG Y67_CM @Int.lt_irrefl ?_
  exact Fin.oneP
theorem c_containsT (l : List ByteArray) (hl : l.length ≤ 4194304) (s : ByteArray) : PC Tryz.prog 37 [.sl (l.map tsV) .ro, .im (.string s)] (.im (.bool (l.any fun x => eqS s x))) := by
  have h := c_indexT l hl s
  refine PC.enter 9 Tryz.func37 rfl (by decide) rfl rfl (s := [(0, .sl (l.map tsV) .ro), (1, .im (.string s))]) (by rfl) ?_
  refine wG True.intro True.intro ?_
  refine AR.callP h True.intro (AI tsL_id (AI (@exL_id) (AI (@vaL_id) (AI (@exV_id) @vaV_id)))) ?_
  refine goG True.intro True.intro ?_
  rw [idx_any]
  refine wG True.intro True.intro ?_
  exact Fin.oneP
end Go.Proofs.YtfggemopnlffeaaGreat
namespace Go.Proofs.YtfggemopnlffeaaGreat
set_option linter.unusedSimpArgs false
set_option linter.unusedVariables false
set_option linter.unnecessarySimpa false
open Go.RowKit
def symT (vs : List Va) (fs ls : List ByteArray) (s : Nd) : Bool := s.e.all (knw vs) && (if s.kind == 1 || s.kind == 3 then has vs s.name else if s.kind == 5 then fs.any (fun x => eqS s.name x) else if s.kind == 12 then ls.any (fun x => eqS s.name x) else true)
theorem Y107_CN : type_of% (AI @F_ag_29 (AI @F_ag_3 (AI @F_ag_46 (AI @F_ag_48 (AI @F_ag_71 (AI @F_ag_9 (AI @F_al_48 (AI @F_el_46 (AI @F_fl_102_0 (AI @F_fl_102_1 (AI @F_fl_102_2 (AI @F_fl_59_0 (AI @F_fl_59_2 (AI @F_fl_59_3 (AI @F_sz_29 (AI @F_sz_3 (AI @F_sz_46 (AI @F_sz_48 (AI @F_sz_71 (@F_sz_9)))))))))))))))))))) := AI @F_ag_29 (AI @F_ag_3 (AI @F_ag_46 (AI @F_ag_48 (AI @F_ag_71 (AI @F_ag_9 (AI @F_al_48 (AI @F_el_46 (AI @F_fl_102_0 (AI @F_fl_102_1 (AI @F_fl_102_2 (AI @F_fl_59_0 (AI @F_fl_59_2 (AI @F_fl_59_3 (AI @F_sz_29 (AI @F_sz_3 (AI @F_sz_46 (AI @F_sz_48 (AI @F_sz_71 (@F_sz_9)))))))))))))))))))
theorem c_symbols (vs : List Va) (hv : vs.length ≤ 4194304) (fs ls sn : List ByteArray) (hfs : fs.length ≤ 4194304) (hls : ls.length ≤ 4194304) (s : Nd) (hf : fitN s) (hfm : ∀ x ∈ s.e, efm x = true) : DC Tryz.prog 107 [.pt 0 0, ndV s] [.box [(V.fn (.func 90) [] [.pt 1 0]), .sl (fs.map tsV) .ro, .sl (ls.map tsV) (.own 2), .sl ((sn).map tsV) (.own 3)], .box [(V.sl (vs.map vaV) .ro)], .tip 9 1 ls.length, .tip 9 1 (sn).length] (.im (.bool (symT vs fs ls s))) [.box [(V.fn (.func 90) [] [.pt 1 0]), .sl (fs.map tsV) .ro, .sl (ls.map tsV) (.own 2), .sl ((sn).map tsV) (.own 3)], .box [(V.sl (vs.map vaV) .ro)], .tip 9 1 ls.length, .tip 9 1 (sn).length] := by
  obtain ⟨hI, hsz, ⟨he1, he2⟩, h4, h5, h6, h7⟩ := fitN_inv hf
  have h1 := c_among1 vs hv s.name
  have h2 := c_containsT fs hfs s.name
  have h3 := c_containsT ls hls s.name
  refine DC.enter 52 Tryz.func107 rfl (by decide) rfl rfl (s := [(0, .pt 0 0), (1, ndV s)]) (by rfl) ?_
  rw [ndV_eq s]
  refine wG Y107_CN True.intro ?_
  refine AWp.loop ?_
  refine ALp.cutP 5 [(0, .pt 0 0), (3, .pt 4 0), (4, (.im (.bool (false)))), (8, .sl (s.e.map exV) .ro), (9, (.im (.int .i64 (s.e.length)))), (10, (.im (.int .i64 ((((0 : Nat)) : Int)))))] [.box [(V.fn (.func 90) [] [.pt 1 0]), .sl (fs.map tsV) .ro, .sl (ls.map tsV) (.own 2), .sl ((sn).map tsV) (.own 3)], .box [(V.sl (vs.map vaV) .ro)], .tip 9 1 ls.length, .tip 9 1 (sn).length, .box [.im (.int .i64 (s).kind), .im (.int .i64 (s).width), .im (.string (s).name), .sl ((s).e.map exV) .ro, .sl ((s).l.map ndV) .ro, .sl ((s).el.map ndV) .ro, .sl ((s).cs.map nlV) .ro]] (AI (@exL_id) (AI (@vaL_id) (AI (@exV_id) (AI (@vaV_id) (AI tsL_id (AI ndLs_id (AI nlVs_id ndV_id))))))) ?_
  refine ALp.upto s.e.length (AllTo (knw vs) s.e) (fun m => ⟨dn 52 [(0, .pt 0 0), (3, .pt 4 0), (4, (.im (.bool (false)))), (8, .sl (s.e.map exV) .ro), (9, (.im (.int .i64 (s.e.length)))), (10, (.im (.int .i64 ((((m : Nat)) : Int)))))], ofl [.box [(V.fn (.func 90) [] [.pt 1 0]), .sl (fs.map tsV) .ro, .sl (ls.map tsV) (.own 2), .sl ((sn).map tsV) (.own 3)], .box [(V.sl (vs.map vaV) .ro)], .tip 9 1 ls.length, .tip 9 1 (sn).length, .box [.im (.int .i64 (s).kind), .im (.int .i64 (s).width), .im (.string (s).name), .sl ((s).e.map exV) .ro, .sl ((s).l.map ndV) .ro, .sl ((s).el.map ndV) .ro, .sl ((s).cs.map nlV) .ro]]⟩) ?_ 0 (Nat.zero_le _) (AllTo.zero _ _)
  intro m hm hI hnext
  by_cases hlt : m < s.e.length
  · have hlt' : (m : Int) < (s.e.length : Int) := by omega
    have hm1 := wrap_succ hlt (by omega)
    have hg := get_some hlt
    have hc := c_known vs hv s.e[m] (he2 _ (List.getElem_mem hlt)) (hfm _ (List.getElem_mem hlt))
    refine wdG Y107_CN (AI hlt' (AI hg EX)) ?_
    cases b : knw vs s.e[m] with
    | false =>
      rw [b] at hc
      have hr : symT vs fs ls s = false := by unfold symT; rw [not_all_of hlt b, Bool.false_and]
      rw [hr]
      refine AR.callQP [1] hc @exV_eq (AI (@exL_id) (AI (@vaL_id) (AI (@exV_id) (AI (@vaV_id) (AI tsL_id (AI ndLs_id (AI nlVs_id ndV_id))))))) (AI (@exV_ren) (AI (@exL_ren) (AI (@vaV_ren) (AI (@vaL_ren) (AI tsL_ren (AI ndLs_ren nlVs_ren)))))) ?_
      refine goG Y107_CN True.intro ?_
      refine wdG Y107_CN True.intro ?_
      exact Fin.oneSP (AI (@exL_id) (AI (@vaL_id) (AI (@exV_id) (AI (@vaV_id) (AI tsL_id (AI ndLs_id (AI nlVs_id ndV_id)))))))
    | true =>
      rw [b] at hc
      refine AR.callQP [1] hc @exV_eq (AI (@exL_id) (AI (@vaL_id) (AI (@exV_id) (AI (@vaV_id) (AI tsL_id (AI ndLs_id (AI nlVs_id ndV_id))))))) (AI (@exV_ren) (AI (@exL_ren) (AI (@vaV_ren) (AI (@vaL_ren) (AI tsL_ren (AI ndLs_ren nlVs_ren)))))) ?_
      refine goG Y107_CN True.intro ?_
      refine wdG Y107_CN hm1 ?_
      refine ALp.cutP 5 [(0, .pt 0 0), (3, .pt 4 0), (4, (.im (.bool (false)))), (8, .sl (s.e.map exV) .ro), (9, (.im (.int .i64 (s.e.length)))), (10, (.im (.int .i64 ((((m + 1 : Nat)) : Int)))))] [.box [(V.fn (.func 90) [] [.pt 1 0]), .sl (fs.map tsV) .ro, .sl (ls.map tsV) (.own 2), .sl ((sn).map tsV) (.own 3)], .box [(V.sl (vs.map vaV) .ro)], .tip 9 1 ls.length, .tip 9 1 (sn).length, .box [.im (.int .i64 (s).kind), .im (.int .i64 (s).width), .im (.string (s).name), .sl ((s).e.map exV) .ro, .sl ((s).l.map ndV) .ro, .sl ((s).el.map ndV) .ro, .sl ((s).cs.map nlV) .ro]] (AI (@exL_id) (AI (@vaL_id) (AI (@exV_id) (AI (@vaV_id) (AI tsL_id (AI ndLs_id (AI nlVs_id ndV_id))))))) ?_
      exact hnext (m + 1) (by omega) (by omega) (hI.succ hlt b)
  obtain rfl : m = s.e.length := by omega
  clear hnext
  have hall : s.e.all (knw vs) = true := List.all_eq_true.2 fun x hx => by
    obtain ⟨j, hj, rfl⟩ := List.getElem_of_mem hx
    exact hI j hj hj
  unfold symT
  rw [hall, Bool.true_and]
  by_cases k1 : s.kind = 1
  · rw [if_pos (by simp [k1])]
    refine wdG Y107_CN (AI (@Int.lt_irrefl) k1) ?_
    refine AR.callQP [1] h1 True.intro (AI (@exL_id) (AI (@vaL_id) (AI (@exV_id) (AI (@vaV_id) (AI tsL_id (AI ndLs_id (AI nlVs_id ndV_id))))))) (AI (@exV_ren) (AI (@exL_ren) (AI (@vaV_ren) (AI (@vaL_ren) (AI tsL_ren (AI ndLs_ren nlVs_ren)))))) ?_
    refine goG Y107_CN True.intro ?_
    refine wdG Y107_CN True.intro ?_
    exact Fin.oneSP (AI (@exL_id) (AI (@vaL_id) (AI (@exV_id) (AI (@vaV_id) (AI tsL_id (AI ndLs_id (AI nlVs_id ndV_id)))))))
  by_cases k3 : s.kind = 3
  · rw [if_pos (by simp [k3])]
    refine wdG Y107_CN (AI (@Int.lt_irrefl) k3) ?_
    refine AR.callQP [1] h1 True.intro (AI (@exL_id) (AI (@vaL_id) (AI (@exV_id) (AI (@vaV_id) (AI tsL_id (AI ndLs_id (AI nlVs_id ndV_id))))))) (AI (@exV_ren) (AI (@exL_ren) (AI (@vaV_ren) (AI (@vaL_ren) (AI tsL_ren (AI ndLs_ren nlVs_ren)))))) ?_
    refine goG Y107_CN True.intro ?_
    refine wdG Y107_CN True.intro ?_
    exact Fin.oneSP (AI (@exL_id) (AI (@vaL_id) (AI (@exV_id) (AI (@vaV_id) (AI tsL_id (AI ndLs_id (AI nlVs_id ndV_id)))))))
  rw [if_neg (by simp [k1, k3])]
  by_cases k5 : s.kind = 5
  · rw [if_pos (by simp [k5])]
    refine wdG Y107_CN (AI (@Int.lt_irrefl) k5) ?_
    refine AR.callP h2 True.intro (AI (@exL_id) (AI (@vaL_id) (AI (@exV_id) (AI (@vaV_id) (AI tsL_id (AI ndLs_id (AI nlVs_id ndV_id))))))) ?_
    refine goG Y107_CN True.intro ?_
    refine wdG Y107_CN True.intro ?_
    exact Fin.oneSP (AI (@exL_id) (AI (@vaL_id) (AI (@exV_id) (AI (@vaV_id) (AI tsL_id (AI ndLs_id (AI nlVs_id ndV_id)))))))
  rw [if_neg (by simp [k5])]
  by_cases k12 : s.kind = 12
  · rw [if_pos (by simp [k12])]
    refine wdG Y107_CN (AI (@Int.lt_irrefl) k12) ?_
    refine AR.callW h3 True.intro (AI (@exL_id) (AI (@vaL_id) (AI (@exV_id) (AI (@vaV_id) (AI tsL_id (AI ndLs_id (AI nlVs_id ndV_id))))))) ?_
    refine goG Y107_CN True.intro ?_
    refine wdG Y107_CN True.intro ?_
    exact Fin.oneSP (AI (@exL_id) (AI (@vaL_id) (AI (@exV_id) (AI (@vaV_id) (AI tsL_id (AI ndLs_id (AI nlVs_id ndV_id)))))))
  rw [if_neg (by simp [k12])]
  refine wdG Y107_CN (AI (@Int.lt_irrefl) (AI k1 (AI k3 (AI k5 k12)))) ?_
  exact Fin.oneSP (AI (@exL_id) (AI (@vaL_id) (AI (@exV_id) (AI (@vaV_id) (AI tsL_id (AI ndLs_id (AI nlVs_id ndV_id)))))))
theorem Y105_CN : type_of% (AI @F_ag_48 (@F_sz_48)) := AI @F_ag_48 (@F_sz_48)
theorem c_check1 {x : Ex} {r : Bool} (h : PC Tryz.prog 52 [exV x, (.im (.int .i64 (64)))] (.im (.bool (r)))) : PC Tryz.prog 105 [exV x] (.im (.bool (!r))) := by
  refine PC.enter 6 Tryz.func105 rfl (by decide) rfl rfl (s := [(0, exV x)]) (by rfl) ?_
  rw [exV_eq x] at h ⊢
  refine wG Y105_CN True.intro ?_
  refine AR.callP h True.intro (AI (@exL_id) (AI (@vaL_id) (AI (@exV_id) (AI (@vaV_id) (AI tsL_id (AI ndLs_id (AI nlVs_id ndV_id))))))) ?_
  refine goG Y105_CN True.intro ?_
  refine wG Y105_CN True.intro ?_
  exact Fin.oneP
end Go.Proofs.YtfggemopnlffeaaGreat
