import Derived.Test.YtmbmmckagcdapaaGreatDoorK14
import Derived.Test.YtmbmmckagcdapaaGreatDoorK10
import Derived.Test.YtmbmmckagcdapaaGreatDoorK29
set_option linter.unusedSimpArgs false
set_option linter.unusedVariables false
set_option linter.unnecessarySimpa false
namespace Go.Proofs.YtmbmmckagcdapaaGreatDoor
open Go.RowKit
theorem Sim.ghostBO {B : Bd} {C : Cf} {a : Act} {N : Nat} {s : List (Nat × V)} {l : List Ent} {id j : Nat} {cs : List V} {e : TypeId} {z : Nat} (hS : Sim B C ⟨dn N s, ofl l⟩ a)
    (hi : l[id]? = some (.box cs)) (hj : cs[j]? = some (.sl [] .nl)) : ∃ D, Sim B D ⟨dn N s, ofl (l.set id (.box (cs.set j (.sl [] (.own l.length)))) ++ [.tip e z 0])⟩ a ∧ D.w = C.w ∧ Ev C D := by
  obtain ⟨hil, hi'⟩ := List.getElem?_eq_some_iff.1 hi
  obtain ⟨hjl, hj'⟩ := List.getElem?_eq_some_iff.1 hj
  have hf : C.st l.length = .free := by rw [hS.st]; exact ofl_end l
  have hE1 : Ev C (C.ghost l.length e z 0) := Ev.ghost hf
  have hO1 : Ok (C.ghost l.length e z 0) := hS.ok.ghost hf
  have hst1 : (C.ghost l.length e z 0).st = ofl (l ++ [.tip e z 0]) := by
    show upd C.st l.length (.tip e z 0) = _
    rw [hS.st]; exact ofl_snoc l _
  have hbox : C.st id = .box cs := by rw [hS.st]; simp [ofl, List.getD, hi]
  have hset : ∀ i, ofl (l.set id (.box (cs.set j (.sl [] (.own l.length)))) ++ [.tip e z 0]) i = if i = id then .box (cs.set j (.sl [] (.own l.length))) else ofl (l ++ [.tip e z 0]) i := fun i => by
    unfold ofl
    by_cases h : i = id
    · subst h; simp [List.getD, List.getElem?_append, hil]
    · have h' : id ≠ i := fun q => h q.symm
      simp [List.getD, List.getElem?_append, List.getElem?_set, h, h']
  have hk : Kin (C.ghost l.length e z 0).st (ofl (l.set id (.box (cs.set j (.sl [] (.own l.length)))) ++ [.tip e z 0])) := fun i => by
    rw [hset, hst1]
    by_cases h : i = id
    · subst h
      exact .inr ⟨cs, _, by simp [ofl, List.getD, List.getElem?_append, hil, hi'], if_pos rfl⟩
    · exact .inl (if_neg h)
  refine ⟨(C.ghost l.length e z 0).wst _, ⟨rfl, hO1.wst hk fun i ds hd => ?_, (hS.defers.mono hE1).mono (Ev.wst hk), hS.size, fun t ht => ((hS.slot t ht).mono hE1).wst hk⟩, rfl, hE1.trans (Ev.wst hk)⟩
  rw [hset] at hd
  by_cases h : i = id
  · subst h
    rw [if_pos rfl] at hd; cases hd
    obtain ⟨g, bs, t, h1, h2, h3, h4, h5⟩ := hS.ok.box i cs hbox; have hne : i ≠ l.length := by omega
    refine ⟨g, bs, t, ?_, h2, by simpa using h3, fun q hq => h4 q (by simpa using hq), fun q hq => ?_⟩
    · show (if i = l.length then none else C.σ i) = some g
      rw [if_neg hne]; exact h1
    · have hq' : q < cs.length := by simpa using hq
      rw [List.getElem_set]; have h6 := h5 q hq'
      by_cases hjq : j = q
      · subst hjq
        rw [if_pos rfl]; rw [hj'] at h6; exact (R.ghost (id := l.length) (e := e) (z := z) (.inr rfl) hf h6 (fun x hx => by cases hx)).wst hk
      · rw [if_neg hjq]
        exact (h6.mono hE1).wst hk
  · rw [if_neg h, ← hst1] at hd
    obtain ⟨g, bs, t, h1, h2, h3, h4, h5⟩ := hO1.box i ds hd; exact ⟨g, bs, t, h1, h2, h3, h4, fun q hq => (h5 q hq).wst hk⟩
theorem ALp.ghostB {K : Ro → Prop} {P : Program} {st0 : Nat → Ent} {Q : Exit → St → Prop} {c : Code} {N : Nat} {s : List (Nat × V)} {l : List Ent} (id j : Nat) (cs : List V) (e : TypeId) (z : Nat)
    (h : ALp K P st0 c Q ⟨dn N s, ofl (l.set id (.box (cs.set j (.sl [] (.own l.length)))) ++ [.tip e z 0])⟩) (hi : l[id]? = some (.box cs) := by rfl) (hj : cs[j]? = some (.sl [] .nl) := by rfl) : ALp K P st0 c Q ⟨dn N s, ofl l⟩ := by
  intro C0 C a ro n hK h0 hE hS
  obtain ⟨D, h1, h2, h3⟩ := hS.ghostBO (e := e) (z := z) hi hj
  have := h C0 D a ro n hK h0 (hE.trans h3) h1
  rw [h2] at this
  exact this
def tsV (s : ByteArray) : V := .im (.string s)
theorem tsV_eq (s : ByteArray) : tsV s = .im (.string s) := rfl
theorem tsV_live (v : ByteArray) : (tsV v).live = true := rfl
theorem tsV_size (v : ByteArray) : (tsV v).size = 1 := rfl
theorem tsV_isAg (v : ByteArray) : (tsV v).isAg = false := rfl
theorem tsV_firm (v : ByteArray) : (tsV v).firm = true := rfl
theorem tsV_strip (g : Bool) (v : ByteArray) : strip g (tsV v) = tsV v := rfl
theorem tsV_cells (s : ByteArray) : (tsV s).cells = [.im (.string s)] := rfl
theorem tsV_id (p : Nat → Bool) (v : ByteArray) : (tsV v).ids p = true := rfl
theorem tsL_id (p : Nat → Bool) (l : List ByteArray) : V.idsL p (l.map tsV) = true := idsL_map (tsV_id p) l
theorem tsL_ren (g : Nat → Nat) (l : List ByteArray) : V.renL g (l.map tsV) = l.map tsV := V.renL_id g _ (tsL_id _ l)
theorem TS : type_of% (AI @tsV_firm (AI @tsV_strip (AI @tsV_live (AI @tsV_size (AI @tsV_isAg (AI @tsV_cells (AI @tsV_eq (AI @List.getElem?_map.{0, 0} @Int.natCast_nonneg)))))))) :=
  AI @tsV_firm (AI @tsV_strip (AI @tsV_live (AI @tsV_size (AI @tsV_isAg (AI @tsV_cells (AI @tsV_eq (AI @List.getElem?_map.{0, 0} @Int.natCast_nonneg)))))))
theorem Y93_CM : type_of% (AI @F_ag_9 (AI @F_el_84 (@F_sz_9))) := AI @F_ag_9 (AI @F_el_84 (@F_sz_9))
theorem c_indexT (l : List ByteArray) (hl : l.length ≤ 4194304) (s : ByteArray) : PC Tryz.prog 93 [.sl (l.map tsV) .ro, .im (.string s)] (.im (.int .i64 (idx l fun x => eqS s x))) := by
  refine PC.enter 19 Tryz.func93 rfl (by decide) rfl rfl (s := [(0, .sl (l.map tsV) .ro), (1, .im (.string s))]) (by rfl) ?_
  refine wG Y93_CM @List.length_map.{0, 0} ?_
  refine AWp.loop ?_
  refine ALp.cutP 0 [(0, .sl (l.map tsV) .ro), (1, .im (.string s)), (7, (.im (.int .i64 (l.length)))), (8, (.im (.int .i64 ((((0 : Nat)) : Int)))))] [] (AI tsL_id (AI (@exL_id) (AI (@vaL_id) (AI (@exV_id) @vaV_id)))) ?_
  refine ALp.upto l.length (AllTo (fun x => !eqS s x) l) (fun m => ⟨dn 19 [(0, .sl (l.map tsV) .ro), (1, .im (.string s)), (7, (.im (.int .i64 (l.length)))), (8, (.im (.int .i64 ((((m : Nat)) : Int)))))], ofl []⟩) ?_ 0 (Nat.zero_le _) (AllTo.zero _ _)
  intro m hm hI hnext
  by_cases hlt : m < l.length
  · have hlt' : (m : Int) < (l.length : Int) := by omega
    have hm1 := wrap_succ hlt (by omega)
    have hg := get_some hlt; cases b : eqS s l[m] with
    | true =>
      have b' : (s.toList == l[m].toList) = true := b; rw [idx_some hlt hI b]; refine wG Y93_CM (AI hlt' (AI hg (AI b' TS))) ?_; exact Fin.oneP
    | false =>
      have b' : (s.toList == l[m].toList) = false := b; refine wG Y93_CM (AI hlt' (AI hg (AI b' (AI hm1 TS)))) ?_; refine ALp.cutP 0 [(0, .sl (l.map tsV) .ro), (1, .im (.string s)), (7, (.im (.int .i64 (l.length)))), (8, (.im (.int .i64 ((((m + 1 : Nat)) : Int)))))] [] (AI tsL_id (AI (@exL_id) (AI (@vaL_id) (AI (@exV_id) @vaV_id)))) ?_; exact hnext (m + 1) (by omega) (by omega) (hI.succ hlt (by simp [b]))
  obtain rfl : m = l.length := by omega
  clear hnext
  rw [idx_none hI]
  refine wG Y93_CM @Int.lt_irrefl ?_
  exact Fin.oneP
theorem c_containsT (l : List ByteArray) (hl : l.length ≤ 4194304) (s : ByteArray) : PC Tryz.prog 44 [.sl (l.map tsV) .ro, .im (.string s)] (.im (.bool (l.any fun x => eqS s x))) := by
  have h := c_indexT l hl s
  refine PC.enter 9 Tryz.func44 rfl (by decide) rfl rfl (s := [(0, .sl (l.map tsV) .ro), (1, .im (.string s))]) (by rfl) ?_
  refine wG True.intro True.intro ?_
  refine AR.callP h True.intro (AI tsL_id (AI (@exL_id) (AI (@vaL_id) (AI (@exV_id) @vaV_id)))) ?_
  refine goG True.intro True.intro ?_
  rw [idx_any]
  refine wG True.intro True.intro ?_
  exact Fin.oneP
theorem BN01 : type_of% (AI (@exL_id) (AI (@vaL_id) (AI (@exV_id) (AI (@vaV_id) (AI tsL_id (AI ndLs_id (AI nlVs_id ndV_id))))))) := (AI (@exL_id) (AI (@vaL_id) (AI (@exV_id) (AI (@vaV_id) (AI tsL_id (AI ndLs_id (AI nlVs_id ndV_id)))))))
theorem BN04 : type_of% (AI (@exL_id) (AI (@vaL_id) (AI (@exV_id) (AI (@vaV_id) (AI tsL_id (AI ndLs_id (AI nlVs_id (AI ndV_id (AI plVs_id (AI plV_id (AI scL_id (AI fnL_id (AI unV_id fnV_id))))))))))))) := (AI (@exL_id) (AI (@vaL_id) (AI (@exV_id) (AI (@vaV_id) (AI tsL_id (AI ndLs_id (AI nlVs_id (AI ndV_id (AI plVs_id (AI plV_id (AI scL_id (AI fnL_id (AI unV_id fnV_id)))))))))))))
theorem BN05 : type_of% (AI (@exL_id) (AI (@vaL_id) (AI (@exV_id) (AI (@vaV_id) (AI tsL_id (AI ndLs_id (AI nlVs_id (AI ndV_id (AI plVs_id (AI plV_id (AI scL_id fnL_id))))))))))) := (AI (@exL_id) (AI (@vaL_id) (AI (@exV_id) (AI (@vaV_id) (AI tsL_id (AI ndLs_id (AI nlVs_id (AI ndV_id (AI plVs_id (AI plV_id (AI scL_id fnL_id)))))))))))
theorem BN06 : type_of% (AI (@exV_ren) (AI (@exL_ren) (AI (@vaV_ren) (AI (@vaL_ren) (AI tsL_ren (AI ndLs_ren (AI nlVs_ren ndV_ren))))))) := (AI (@exV_ren) (AI (@exL_ren) (AI (@vaV_ren) (AI (@vaL_ren) (AI tsL_ren (AI ndLs_ren (AI nlVs_ren ndV_ren)))))))
theorem BN10 : type_of% (AI (@exV_ren) (AI (@exL_ren) (AI (@vaV_ren) (AI (@vaL_ren) (AI tsL_ren (AI ndLs_ren nlVs_ren)))))) := (AI (@exV_ren) (AI (@exL_ren) (AI (@vaV_ren) (AI (@vaL_ren) (AI tsL_ren (AI ndLs_ren nlVs_ren))))))
end Go.Proofs.YtmbmmckagcdapaaGreatDoor
