import Derived.Test.YtmbmmckagcdapaaGreatDoorJ14
import Derived.Test.YtmbmmckagcdapaaGreatDoorJ11
import Derived.Test.YtmbmmckagcdapaaGreatDoorJ30
import Derived.Test.YtmbmmckagcdapaaGreatDoorJ15
set_option linter.unusedSimpArgs false
set_option linter.unusedVariables false
set_option linter.unnecessarySimpa false
namespace Go.Proofs.YtmbmmckagcdapaaGreatDoor
open Go.RowKit
theorem Y160_CK : type_of% (AI @F_ag_76 (AI @F_el_24 (@F_sz_76))) := AI @F_ag_76 (AI @F_el_24 (@F_sz_76))
theorem c_indexS1 {gs : List Sec} {F : FuncId} {cs : List V} (p : Sec → Bool) (hcs : V.idsL (ltB 1) cs = true) (hr : V.renL (gOf [0]) cs = cs) (hl : gs.length ≤ 4194304) (hF : ∀ t ∈ gs, DC Tryz.prog F [scV t, .pt 0 0] [.box cs] (.im (.bool (p t))) [.box cs]) :
    DC Tryz.prog 160 [.sl (gs.map scV) .ro, .fn (.func F) [] [.pt 0 0]] [.box cs] (.im (.int .i64 (idx gs p))) [.box cs] := by
  refine DC.enter 19 Tryz.func160 rfl (by decide) rfl rfl (s := [(0, .sl (gs.map scV) .ro), (1, .fn (.func F) [] [.pt 0 0])]) (by rfl) ?_
  refine wG Y160_CK True.intro ?_
  refine AWp.loop ?_
  refine ALp.cutP 1 [(0, .sl (gs.map scV) .ro), (1, .fn (.func F) [] [.pt 0 0]), (7, (.im (.int .i64 (gs.length)))), (8, (.im (.int .i64 ((((0 : Nat)) : Int)))))] [.box cs] (AI scL_id (AI scV_id hcs)) ?_
  refine ALp.upto gs.length (AllTo (fun x => !p x) gs) (fun m => ⟨dn 19 [(0, .sl (gs.map scV) .ro), (1, .fn (.func F) [] [.pt 0 0]), (7, (.im (.int .i64 (gs.length)))), (8, (.im (.int .i64 ((((m : Nat)) : Int)))))], ofl [.box cs]⟩) ?_ 0 (Nat.zero_le _) (AllTo.zero _ _)
  intro m hm hI hnext
  by_cases hlt : m < gs.length
  · have hlt' : (m : Int) < (gs.length : Int) := by omega
    have hg := get_some hlt; have hm1 := wrap_succ hlt (by omega)
    have hc := hF gs[m] (List.getElem_mem hlt); refine wG Y160_CK (AI SCT (AI hlt' (AI hg hm1))) ?_
    by_cases b : p gs[m] = true
    · rw [b] at hc
      refine AR.callQP [0] hc scV_eq (AI scL_id (AI scV_id hcs)) (AI scV_ren (AI scL_ren hr)) ?_; refine goG Y160_CK True.intro ?_; refine wG Y160_CK True.intro ?_; rw [idx_some hlt hI b]; exact Fin.oneSP (AI scL_id (AI scV_id hcs))
    · have b : p gs[m] = false := by simpa using b
      rw [b] at hc; refine AR.callQP [0] hc scV_eq (AI scL_id (AI scV_id hcs)) (AI scV_ren (AI scL_ren hr)) ?_; refine goG Y160_CK True.intro ?_; refine wG Y160_CK hm1 ?_; refine ALp.cutP 1 [(0, .sl (gs.map scV) .ro), (1, .fn (.func F) [] [.pt 0 0]), (7, (.im (.int .i64 (gs.length)))), (8, (.im (.int .i64 ((((m + 1 : Nat)) : Int)))))] [.box cs] (AI scL_id (AI scV_id hcs)) ?_; exact hnext (m + 1) (by omega) (by omega) (hI.succ hlt (by simp [b]))
  · obtain rfl : m = gs.length := by omega
    have hlt' : ¬ (gs.length : Int) < (gs.length : Int) := by omega
    clear hnext hlt; rw [idx_none hI]; refine wG Y160_CK hlt' ?_; exact Fin.oneSP (AI scL_id (AI scV_id hcs))
theorem c_containsS1 {gs : List Sec} {F : FuncId} {cs : List V} (p : Sec → Bool) (hcs : V.idsL (ltB 1) cs = true) (hr : V.renL (gOf [0]) cs = cs) (hl : gs.length ≤ 4194304) (hF : ∀ t ∈ gs, DC Tryz.prog F [scV t, .pt 0 0] [.box cs] (.im (.bool (p t))) [.box cs]) :
    DC Tryz.prog 90 [.sl (gs.map scV) .ro, .fn (.func F) [] [.pt 0 0]] [.box cs] (.im (.bool (gs.any p))) [.box cs] := by
  have h := c_indexS1 p hcs hr hl hF
  refine DC.enter 9 Tryz.func90 rfl (by decide) rfl rfl (s := [(0, .sl (gs.map scV) .ro), (1, .fn (.func F) [] [.pt 0 0])]) (by rfl) ?_
  refine wG True.intro True.intro ?_
  refine AR.callQP [0] h True.intro (AI scL_id (AI scV_id hcs)) (AI scV_ren (AI scL_ren hr)) ?_
  refine goG True.intro True.intro ?_
  rw [idx_any]
  refine wG True.intro True.intro ?_
  exact Fin.oneSP (AI scL_id (AI scV_id hcs))
def dErr : List Sec → List Sec → Int
  | _, [] => 0
  | seen, d :: r => if !nameT d.name then 3 else if seen.any (fun x => eqS x.name d.name) then 8 else if 65536 < d.data.length then 6 else dErr (seen ++ [d]) r
theorem dErr_step {l : List Sec} {m : Nat} (h : m < l.length) : dErr (l.take m) (l.drop m) = if !nameT l[m].name then 3 else if (l.take m).any (fun x => eqS x.name l[m].name) then 8 else if 65536 < l[m].data.length then 6 else dErr (l.take (m + 1)) (l.drop (m + 1)) := by
  rw [List.drop_eq_getElem_cons h]
  rw [dErr, List.take_succ_eq_append_getElem h]
def fitSec (l : List Sec) : Prop := ∀ s ∈ l, s.name.size ≤ 9223372036854775807
theorem Y91_CK : type_of% (AI @F_ag_9 (AI @F_fl_76_0 (@F_sz_9))) := AI @F_ag_9 (AI @F_fl_76_0 (@F_sz_9))
theorem c_data1 (x d : Sec) : DC Tryz.prog 91 [scV x, .pt 0 0] [.box [.im (.string (d).name), .im (.int .u32 (d).addr), .sl ((d).data.map fun b => .im (.int .u8 b.toNat)) .ro, .im (.bool (d).wr), .im (.bool (d).exe)]] (.im (.bool (eqS x.name d.name))) [.box [.im (.string (d).name), .im (.int .u32 (d).addr), .sl ((d).data.map fun b => .im (.int .u8 b.toNat)) .ro, .im (.bool (d).wr), .im (.bool (d).exe)]] := by
  refine DC.enter 9 Tryz.func91 rfl (by decide) rfl rfl (s := [(0, scV x), (1, .pt 0 0)]) (by rfl) ?_
  simp only [scV_eq]
  refine wG Y91_CK True.intro ?_
  exact Fin.oneSP (AI scL_id (AI scV_id by_id))
theorem Y42_CK : type_of% (AI @F_ag_69 (AI @F_ag_76 (AI @F_ag_9 (AI @F_al_76 (AI @F_el_24 (AI @F_el_69 (AI @F_fl_76_0 (AI @F_fl_76_2 (AI @F_sz_5 (AI @F_sz_69 (AI @F_sz_76 (AI @F_sz_9 (@F_un_24))))))))))))) := AI @F_ag_69 (AI @F_ag_76 (AI @F_ag_9 (AI @F_al_76 (AI @F_el_24 (AI @F_el_69 (AI @F_fl_76_0 (AI @F_fl_76_2 (AI @F_sz_5 (AI @F_sz_69 (AI @F_sz_76 (AI @F_sz_9 (@F_un_24))))))))))))
theorem c_data (l : List Sec) (hl : l.length ≤ 4194304) (hf : fitSec l) : PC Tryz.prog 42 [.sl (l.map scV) .ro] (.im (.int .i64 (dErr [] l))) := by
  refine PC.enter 29 Tryz.func42 rfl (by decide) rfl rfl (s := [(0, .sl (l.map scV) .ro)]) (by rfl) ?_
  refine wG Y42_CK True.intro ?_
  refine AWp.loop ?_
  refine ALp.cutP 0 [(0, .sl (l.map scV) .ro), (5, .sl (l.map scV) .ro), (6, (.im (.int .i64 (l.length)))), (7, (.im (.int .i64 ((((0 : Nat)) : Int)))))] [] (AI scL_id (AI scV_id by_id)) ?_
  refine ALp.upto l.length (fun m => dErr (l.take m) (l.drop m) = dErr [] l) (fun m => ⟨dn 29 [(0, .sl (l.map scV) .ro), (5, .sl (l.map scV) .ro), (6, (.im (.int .i64 (l.length)))), (7, (.im (.int .i64 ((((m : Nat)) : Int)))))], ofl []⟩) ?_ 0 (Nat.zero_le _) rfl
  intro m hm hV hnext
  rw [← hV]
  by_cases hlt : m < l.length
  · have hlt' : (m : Int) < (l.length : Int) := by omega
    have hm1 := wrap_succ hlt (by omega)
    have hg := get_some hlt; have h1 := c_name l[m].name (hf _ (List.getElem_mem hlt)); have h2 := c_containsS1 (gs := l.take m) (F := 91) (fun x => eqS x.name l[m].name) (cs := [.im (.string l[m].name), .im (.int .u32 l[m].addr), .sl (l[m].data.map fun b => .im (.int .u8 b.toNat)) .ro, .im (.bool l[m].wr), .im (.bool l[m].exe)]) (by simp [V.idsL, V.ids, by_id]) (by simp only [SR, by_ren]) (by rw [List.length_take]; omega) (fun x _ => c_data1 x l[m])
    rw [dErr_step hlt]; rw [dErr_step hlt] at hV; have hn2 := hnext (m + 1) (by omega) (by omega)
    cases b1 : nameT l[m].name with
    | false =>
      rw [b1] at h1; simp only [Bool.not_false, if_true]; refine wG Y42_CK (AI hlt' (AI hg SCT)) ?_; refine AR.callP h1 True.intro (AI scL_id (AI scV_id by_id)) ?_; refine goG Y42_CK True.intro ?_; refine wG Y42_CK True.intro ?_; exact Fin.oneP
    | true =>
      rw [b1] at h1 hV; simp only [Bool.not_true, Bool.false_eq_true, if_false] at hV ⊢; refine wG Y42_CK (AI hlt' (AI hg SCT)) ?_; refine AR.callP h1 True.intro (AI scL_id (AI scV_id by_id)) ?_; refine goG Y42_CK True.intro ?_; have hmi : (m : Int) ≤ (l.length : Int) := by omega
      have hne : ¬ m = l.length := by omega
      have htk : (l.map scV).take m = (l.take m).map scV := List.map_take.symm; refine wG Y42_CK (AI hmi (AI hne (AI htk (AI scL_allS (AI scL_all GDS))))) ?_; cases b2 : (l.take m).any fun x => eqS x.name l[m].name with
      | true =>
        rw [b2] at h2; simp only [if_true]; refine AR.callQP [0] h2 True.intro (AI scL_id (AI scV_id by_id)) (AI scV_ren (AI scL_ren by_ren)) ?_; refine goG Y42_CK True.intro ?_; refine wG Y42_CK True.intro ?_; exact Fin.oneP
      | false =>
        rw [b2] at h2 hV; simp only [Bool.false_eq_true, if_false] at hV ⊢; refine AR.callQP [0] h2 True.intro (AI scL_id (AI scV_id by_id)) (AI scV_ren (AI scL_ren by_ren)) ?_; refine goG Y42_CK True.intro ?_
        by_cases b3 : 65536 < l[m].data.length
        · have b3' : (65536 : Int) < (l[m].data.length : Int) := by omega
          rw [if_pos b3]; refine wG Y42_CK (AI b3' @List.length_map.{0, 0}) ?_; exact Fin.oneP
        · have b3' : ¬ (65536 : Int) < (l[m].data.length : Int) := by omega
          rw [if_neg b3] at hV ⊢; refine wG Y42_CK (AI b3' (AI (@List.length_map.{0, 0}) hm1)) ?_; refine ALp.cutP 0 [(0, .sl (l.map scV) .ro), (5, .sl (l.map scV) .ro), (6, (.im (.int .i64 (l.length)))), (7, (.im (.int .i64 ((((m + 1 : Nat)) : Int)))))] [] (AI scL_id (AI scV_id by_id)) ?_; rw [hV]; exact hn2 hV
  obtain rfl : m = l.length := by omega
  clear hnext
  have e0 : dErr (l.take l.length) (l.drop l.length) = 0 := by rw [List.drop_length]; cases l.take l.length <;> rfl
  rw [e0]
  refine wG Y42_CK @Int.lt_irrefl ?_
  exact Fin.oneP
theorem Sim.ghostBO {B : Bd} {C : Cf} {a : Act} {N : Nat} {s : List (Nat × V)} {l : List Ent} {id j : Nat} {cs : List V} {e : TypeId} {z : Nat} (hS : Sim B C ⟨dn N s, ofl l⟩ a)
    (hi : l[id]? = some (.box cs)) (hj : cs[j]? = some (.sl [] .nl)) : ∃ D, Sim B D ⟨dn N s, ofl (l.set id (.box (cs.set j (.sl [] (.own l.length)))) ++ [.tip e z 0])⟩ a ∧ D.w = C.w ∧ Ev C D := by
  obtain ⟨hil, hi'⟩ := List.getElem?_eq_some_iff.1 hi
  obtain ⟨hjl, hj'⟩ := List.getElem?_eq_some_iff.1 hj
  have hf : C.st l.length = .free := by rw [hS.st]; exact ofl_end l
  have hE1 : Ev C (C.ghost l.length e z 0) := Ev.ghost hf
  have hO1 : Ok (C.ghost l.length e z 0) := hS.ok.ghost hf
  have hst1 : (C.ghost l.length e z 0).st = ofl (l ++ [.tip e z 0]) := by
    show upd C.st l.length (.tip e z 0) = _
    rw [hS.st]; exact ofl_snoc l _
  have hbox : C.st id = .box cs := by rw [hS.st]; simp [ofl, List.getD, hi]
  have hset : ∀ i, ofl (l.set id (.box (cs.set j (.sl [] (.own l.length)))) ++ [.tip e z 0]) i = if i = id then .box (cs.set j (.sl [] (.own l.length))) else ofl (l ++ [.tip e z 0]) i := fun i => by
    unfold ofl
    by_cases h : i = id
    · subst h; simp [List.getD, List.getElem?_append, hil]
    · have h' : id ≠ i := fun q => h q.symm
      simp [List.getD, List.getElem?_append, List.getElem?_set, h, h']
  have hk : Kin (C.ghost l.length e z 0).st (ofl (l.set id (.box (cs.set j (.sl [] (.own l.length)))) ++ [.tip e z 0])) := fun i => by
    rw [hset, hst1]
    by_cases h : i = id
    · subst h
      exact .inr ⟨cs, _, by simp [ofl, List.getD, List.getElem?_append, hil, hi'], if_pos rfl⟩
    · exact .inl (if_neg h)
  refine ⟨(C.ghost l.length e z 0).wst _, ⟨rfl, hO1.wst hk fun i ds hd => ?_, (hS.defers.mono hE1).mono (Ev.wst hk), hS.size, fun t ht => ((hS.slot t ht).mono hE1).wst hk⟩, rfl, hE1.trans (Ev.wst hk)⟩
  rw [hset] at hd
  by_cases h : i = id
  · subst h
    rw [if_pos rfl] at hd; cases hd
    obtain ⟨g, bs, t, h1, h2, h3, h4, h5⟩ := hS.ok.box i cs hbox; have hne : i ≠ l.length := by omega
    refine ⟨g, bs, t, ?_, h2, by simpa using h3, fun q hq => h4 q (by simpa using hq), fun q hq => ?_⟩
    · show (if i = l.length then none else C.σ i) = some g
      rw [if_neg hne]; exact h1
    · have hq' : q < cs.length := by simpa using hq
      rw [List.getElem_set]; have h6 := h5 q hq'
      by_cases hjq : j = q
      · subst hjq
        rw [if_pos rfl]; rw [hj'] at h6; exact (R.ghost (id := l.length) (e := e) (z := z) (.inr rfl) hf h6 (fun x hx => by cases hx)).wst hk
      · rw [if_neg hjq]
        exact (h6.mono hE1).wst hk
  · rw [if_neg h, ← hst1] at hd
    obtain ⟨g, bs, t, h1, h2, h3, h4, h5⟩ := hO1.box i ds hd; exact ⟨g, bs, t, h1, h2, h3, h4, fun q hq => (h5 q hq).wst hk⟩
theorem ALp.ghostB {K : Ro → Prop} {P : Program} {st0 : Nat → Ent} {Q : Exit → St → Prop} {c : Code} {N : Nat} {s : List (Nat × V)} {l : List Ent} (id j : Nat) (cs : List V) (e : TypeId) (z : Nat)
    (h : ALp K P st0 c Q ⟨dn N s, ofl (l.set id (.box (cs.set j (.sl [] (.own l.length)))) ++ [.tip e z 0])⟩) (hi : l[id]? = some (.box cs) := by rfl) (hj : cs[j]? = some (.sl [] .nl) := by rfl) : ALp K P st0 c Q ⟨dn N s, ofl l⟩ := by
  intro C0 C a ro n hK h0 hE hS
  obtain ⟨D, h1, h2, h3⟩ := hS.ghostBO (e := e) (z := z) hi hj
  have := h C0 D a ro n hK h0 (hE.trans h3) h1
  rw [h2] at this
  exact this
def tsV (s : ByteArray) : V := .im (.string s)
theorem tsV_eq (s : ByteArray) : tsV s = .im (.string s) := rfl
theorem tsV_live (v : ByteArray) : (tsV v).live = true := rfl
theorem tsV_size (v : ByteArray) : (tsV v).size = 1 := rfl
theorem tsV_isAg (v : ByteArray) : (tsV v).isAg = false := rfl
theorem tsV_firm (v : ByteArray) : (tsV v).firm = true := rfl
theorem tsV_strip (g : Bool) (v : ByteArray) : strip g (tsV v) = tsV v := rfl
theorem tsV_cells (s : ByteArray) : (tsV s).cells = [.im (.string s)] := rfl
theorem tsV_id (p : Nat → Bool) (v : ByteArray) : (tsV v).ids p = true := rfl
theorem tsL_id (p : Nat → Bool) (l : List ByteArray) : V.idsL p (l.map tsV) = true := idsL_map (tsV_id p) l
theorem tsL_ren (g : Nat → Nat) (l : List ByteArray) : V.renL g (l.map tsV) = l.map tsV := V.renL_id g _ (tsL_id _ l)
theorem TS : type_of% (AI @tsV_firm (AI @tsV_strip (AI @tsV_live (AI @tsV_size (AI @tsV_isAg (AI @tsV_cells (AI @tsV_eq (AI @List.getElem?_map.{0, 0} @Int.natCast_nonneg)))))))) :=
  AI @tsV_firm (AI @tsV_strip (AI @tsV_live (AI @tsV_size (AI @tsV_isAg (AI @tsV_cells (AI @tsV_eq (AI @List.getElem?_map.{0, 0} @Int.natCast_nonneg)))))))
theorem Y93_CM : type_of% (AI @F_ag_9 (AI @F_el_84 (@F_sz_9))) := AI @F_ag_9 (AI @F_el_84 (@F_sz_9))
theorem c_indexT (l : List ByteArray) (hl : l.length ≤ 4194304) (s : ByteArray) : PC Tryz.prog 93 [.sl (l.map tsV) .ro, .im (.string s)] (.im (.int .i64 (idx l fun x => eqS s x))) := by
  refine PC.enter 19 Tryz.func93 rfl (by decide) rfl rfl (s := [(0, .sl (l.map tsV) .ro), (1, .im (.string s))]) (by rfl) ?_
  refine wG Y93_CM @List.length_map.{0, 0} ?_
  refine AWp.loop ?_
  refine ALp.cutP 0 [(0, .sl (l.map tsV) .ro), (1, .im (.string s)), (7, (.im (.int .i64 (l.length)))), (8, (.im (.int .i64 ((((0 : Nat)) : Int)))))] [] (AI tsL_id (AI (@exL_id) (AI (@vaL_id) (AI (@exV_id) @vaV_id)))) ?_
  refine ALp.upto l.length (AllTo (fun x => !eqS s x) l) (fun m => ⟨dn 19 [(0, .sl (l.map tsV) .ro), (1, .im (.string s)), (7, (.im (.int .i64 (l.length)))), (8, (.im (.int .i64 ((((m : Nat)) : Int)))))], ofl []⟩) ?_ 0 (Nat.zero_le _) (AllTo.zero _ _)
  intro m hm hI hnext
  by_cases hlt : m < l.length
  · have hlt' : (m : Int) < (l.length : Int) := by omega
    have hm1 := wrap_succ hlt (by omega)
    have hg := get_some hlt; cases b : eqS s l[m] with
    | true =>
      have b' : (s.toList == l[m].toList) = true := b; rw [idx_some hlt hI b]; refine wG Y93_CM (AI hlt' (AI hg (AI b' TS))) ?_; exact Fin.oneP
    | false =>
      have b' : (s.toList == l[m].toList) = false := b; refine wG Y93_CM (AI hlt' (AI hg (AI b' (AI hm1 TS)))) ?_; refine ALp.cutP 0 [(0, .sl (l.map tsV) .ro), (1, .im (.string s)), (7, (.im (.int .i64 (l.length)))), (8, (.im (.int .i64 ((((m + 1 : Nat)) : Int)))))] [] (AI tsL_id (AI (@exL_id) (AI (@vaL_id) (AI (@exV_id) @vaV_id)))) ?_; exact hnext (m + 1) (by omega) (by omega) (hI.succ hlt (by simp [b]))
  obtain rfl : m = l.length := by omega
  clear hnext
  rw [idx_none hI]
  refine wG Y93_CM @Int.lt_irrefl ?_
  exact Fin.oneP
theorem c_containsT (l : List ByteArray) (hl : l.length ≤ 4194304) (s : ByteArray) : PC Tryz.prog 44 [.sl (l.map tsV) .ro, .im (.string s)] (.im (.bool (l.any fun x => eqS s x))) := by
  have h := c_indexT l hl s
  refine PC.enter 9 Tryz.func44 rfl (by decide) rfl rfl (s := [(0, .sl (l.map tsV) .ro), (1, .im (.string s))]) (by rfl) ?_
  refine wG True.intro True.intro ?_
  refine AR.callP h True.intro (AI tsL_id (AI (@exL_id) (AI (@vaL_id) (AI (@exV_id) @vaV_id)))) ?_
  refine goG True.intro True.intro ?_
  rw [idx_any]
  refine wG True.intro True.intro ?_
  exact Fin.oneP
theorem BN02 : type_of% (AI (@exL_id) (AI (@vaL_id) (AI (@exV_id) (AI (@vaV_id) (AI tsL_id (AI ndLs_id (AI nlVs_id ndV_id))))))) := (AI (@exL_id) (AI (@vaL_id) (AI (@exV_id) (AI (@vaV_id) (AI tsL_id (AI ndLs_id (AI nlVs_id ndV_id)))))))
theorem BN04 : type_of% (AI (@exL_id) (AI (@vaL_id) (AI (@exV_id) (AI (@vaV_id) (AI tsL_id (AI ndLs_id (AI nlVs_id (AI ndV_id (AI plVs_id (AI plV_id (AI scL_id (AI fnL_id (AI unV_id fnV_id))))))))))))) := (AI (@exL_id) (AI (@vaL_id) (AI (@exV_id) (AI (@vaV_id) (AI tsL_id (AI ndLs_id (AI nlVs_id (AI ndV_id (AI plVs_id (AI plV_id (AI scL_id (AI fnL_id (AI unV_id fnV_id)))))))))))))
theorem BN05 : type_of% (AI (@exL_id) (AI (@vaL_id) (AI (@exV_id) (AI (@vaV_id) (AI tsL_id (AI ndLs_id (AI nlVs_id (AI ndV_id (AI plVs_id (AI plV_id (AI scL_id fnL_id))))))))))) := (AI (@exL_id) (AI (@vaL_id) (AI (@exV_id) (AI (@vaV_id) (AI tsL_id (AI ndLs_id (AI nlVs_id (AI ndV_id (AI plVs_id (AI plV_id (AI scL_id fnL_id)))))))))))
theorem BN06 : type_of% (AI (@exV_ren) (AI (@exL_ren) (AI (@vaV_ren) (AI (@vaL_ren) (AI tsL_ren (AI ndLs_ren (AI nlVs_ren ndV_ren))))))) := (AI (@exV_ren) (AI (@exL_ren) (AI (@vaV_ren) (AI (@vaL_ren) (AI tsL_ren (AI ndLs_ren (AI nlVs_ren ndV_ren)))))))
theorem BN09 : type_of% (AI (@exV_ren) (AI (@exL_ren) (AI (@vaV_ren) (AI (@vaL_ren) (AI tsL_ren (AI ndLs_ren nlVs_ren)))))) := (AI (@exV_ren) (AI (@exL_ren) (AI (@vaV_ren) (AI (@vaL_ren) (AI tsL_ren (AI ndLs_ren nlVs_ren))))))
end Go.Proofs.YtmbmmckagcdapaaGreatDoor
