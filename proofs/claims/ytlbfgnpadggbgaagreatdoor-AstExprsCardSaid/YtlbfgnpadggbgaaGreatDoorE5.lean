/- Walks: the text of a statement without lists. -/
import Derived.Test.YtlbfgnpadggbgaaGreatDoorHv
import Derived.Test.YtlbfgnpadggbgaaGreatDoorE4
import Derived.Test.YtlbfgnpadggbgaaGreatDoorCI
namespace Go.Proofs.YtlbfgnpadggbgaaGreatDoor
set_option linter.unusedSimpArgs false
set_option linter.unusedVariables false
set_option linter.unnecessarySimpa false
open Go.RowKit
theorem c_j4 (a b c d r : Bs) (hr : a ++ (b ++ (c ++ d)) = r) (hlen : r.length ≤ 140737488355328) : PC Tryz.prog 40 [.sl [.im (.string ⟨(a).toArray⟩), .im (.string ⟨(b).toArray⟩), .im (.string ⟨(c).toArray⟩), .im (.string ⟨(d).toArray⟩)] .ro] (.im (.string ⟨(r).toArray⟩)) := c_jn [a, b, c, d] r (by simpa using hr) (by simp) hlen
theorem c_j7 (a b c d e f g r : Bs) (hr : a ++ (b ++ (c ++ (d ++ (e ++ (f ++ g))))) = r) (hlen : r.length ≤ 140737488355328) : PC Tryz.prog 40 [.sl [.im (.string ⟨(a).toArray⟩), .im (.string ⟨(b).toArray⟩), .im (.string ⟨(c).toArray⟩), .im (.string ⟨(d).toArray⟩), .im (.string ⟨(e).toArray⟩), .im (.string ⟨(f).toArray⟩), .im (.string ⟨(g).toArray⟩)] .ro] (.im (.string ⟨(r).toArray⟩)) := c_jn [a, b, c, d, e, f, g] r (by simpa using hr) (by simp) hlen
def exAt (l : List Ex) (i : Nat) : Bs := match l[i]? with
  | some x => txE x
  | none => []
/-- The text of a statement without lists. -/
def simT (t : Nd) : Bs :=
  if t.kind = 1 then t.name.data.toList ++ ([32, 61, 32] ++ (exAt t.e 0 ++ [59]))
  else if t.kind = 2 then [115, 116, 111, 114, 101] ++ (wB t.width ++ ([40] ++ (exAt t.e 0 ++ ([44, 32] ++ (exAt t.e 1 ++ [41, 59])))))
  else if t.kind = 3 then t.name.data.toList ++ [32, 61, 32, 105, 110, 59]
  else if t.kind = 4 then [111, 117, 116, 32] ++ (exAt t.e 0 ++ [59])
  else if t.kind = 5 then [99, 97, 108, 108, 32] ++ (t.name.data.toList ++ [59])
  else if t.kind = 12 then [103, 111, 116, 111, 32] ++ (t.name.data.toList ++ [59])
  else if t.kind = 13 then t.name.data.toList ++ [58]
  else if t.kind = 10 then [98, 114, 101, 97, 107, 59]
  else if t.kind = 11 then [99, 111, 110, 116, 105, 110, 117, 101, 59]
  else if t.kind = 14 then [114, 101, 116, 117, 114, 110, 59]
  else [104, 97, 108, 116, 59]
/-- What is known of a well-formed statement. -/
theorem stT_inv {t : Nd} (h : stT t = true) : (1 ≤ t.kind ∧ t.kind ≤ 15) ∧ (t.e.length : Int) = nE t.kind ∧ (∀ x ∈ t.e, efm x = true) ∧ (t.kind = 2 → t.width = 1 ∨ t.width = 2 ∨ t.width = 4) := by
  unfold stT at h
  simp only [Bool.and_eq_true, decide_eq_true_eq, List.all_eq_true] at h
  obtain ⟨⟨⟨⟨⟨⟨⟨⟨h1, h2⟩, h3⟩, h4⟩, h5⟩, h6⟩, h7⟩, h8⟩, h9⟩ := h
  refine ⟨⟨h1, h2⟩, h3, h9, fun hk => ?_⟩
  rw [hk] at h7
  simpa [or_assoc] using h7
theorem one_e {l : List Ex} (h : (l.length : Int) = 1) : ∃ a, l = [a] := by
  match l, h with
  | [a], _ => exact ⟨a, rfl⟩
  | [], h => simp at h
  | a :: b :: r, h => simp at h; omega
theorem two_e {l : List Ex} (h : (l.length : Int) = 2) : ∃ a b, l = [a, b] := by
  match l, h with
  | [a, b], _ => exact ⟨a, b, rfl⟩
  | [], h => simp at h
  | [a], h => simp at h
  | a :: b :: c :: r, h => simp at h; omega
theorem bS_n (s : ByteArray) : Value.string ⟨s.data.toList.toArray⟩ = Value.string s := rfl
theorem Y89_E5 : type_of% (And.intro @F_ag_23 (And.intro @F_ag_25 (And.intro @F_ag_3 (And.intro @F_ag_9 (And.intro @F_al_9 (And.intro @F_el_23 (And.intro @F_el_58 (And.intro @F_fl_38_0 (And.intro @F_fl_38_1 (And.intro @F_fl_38_2 (And.intro @F_fl_38_3 (And.intro @F_sz_23 (And.intro @F_sz_25 (And.intro @F_sz_3 (@F_sz_9))))))))))))))) := And.intro @F_ag_23 (And.intro @F_ag_25 (And.intro @F_ag_3 (And.intro @F_ag_9 (And.intro @F_al_9 (And.intro @F_el_23 (And.intro @F_el_58 (And.intro @F_fl_38_0 (And.intro @F_fl_38_1 (And.intro @F_fl_38_2 (And.intro @F_fl_38_3 (And.intro @F_sz_23 (And.intro @F_sz_25 (And.intro @F_sz_3 (@F_sz_9))))))))))))))
theorem c_simple1 (w : Int) (n : ByteArray) (e : List Ex) (l el : List Nd) (cs : List (List Nd)) (hf : fitN (.mk 1 w n e l el cs)) (hs : stT (.mk 1 w n e l el cs) = true) (hlen : (simT (.mk 1 w n e l el cs)).length ≤ 140737488355328) : PC Tryz.prog 89 [ndV (.mk 1 w n e l el cs)] (.im (.string ⟨(simT (.mk 1 w n e l el cs)).toArray⟩)) := by
  obtain ⟨_, h2, h3, h4⟩ := stT_inv hs
  obtain ⟨_, _, ⟨_, he⟩, _⟩ := fitN_inv hf
  simp only [Nd.kind, Nd.width, Nd.name, Nd.e] at h2 h3 h4 he
  obtain ⟨a, rfl⟩ := one_e h2
  have e1 : simT (.mk 1 w n [a] l el cs) = n.data.toList ++ ([32, 61, 32] ++ (txE a ++ [59])) := rfl
  rw [e1] at hlen ⊢
  have hl0 := hlen
  simp only [List.length_append] at hl0
  have qa := c_text a (he a (by simp)) (h3 a (by simp)) (by omega)
  have qj := c_j4 n.data.toList [32, 61, 32] (txE a) [59] _ rfl hlen
  rw [bS_n] at qj
  clear hlen e1
  refine PC.enter 72 Tryz.func89 rfl (by decide) rfl rfl (s := [(0, ndV (.mk 1 w n [a] l el cs))]) (by rfl) ?_
  simp only [ndV_mk]
  refine wdG Y89_E5 EX ?_
  refine AR.callP qa @exV_eq (And.intro ndV_id (And.intro ndLs_id (And.intro nlVs_id (And.intro nlV_id (And.intro (@exL_id) (And.intro (@exV_id) sL_id)))))) ?_
  refine goG Y89_E5 True.intro ?_
  refine AR.callW qj True.intro (And.intro ndV_id (And.intro ndLs_id (And.intro nlVs_id (And.intro nlV_id (And.intro (@exL_id) (And.intro (@exV_id) sL_id)))))) ?_
  refine goG Y89_E5 True.intro ?_
  refine wdG Y89_E5 True.intro ?_
  exact Fin.oneP
theorem c_simple2 (w : Int) (n : ByteArray) (e : List Ex) (l el : List Nd) (cs : List (List Nd)) (hf : fitN (.mk 2 w n e l el cs)) (hs : stT (.mk 2 w n e l el cs) = true) (hlen : (simT (.mk 2 w n e l el cs)).length ≤ 140737488355328) : PC Tryz.prog 89 [ndV (.mk 2 w n e l el cs)] (.im (.string ⟨(simT (.mk 2 w n e l el cs)).toArray⟩)) := by
  obtain ⟨_, h2, h3, h4⟩ := stT_inv hs
  obtain ⟨_, _, ⟨_, he⟩, _⟩ := fitN_inv hf
  simp only [Nd.kind, Nd.width, Nd.name, Nd.e] at h2 h3 h4 he
  obtain ⟨a, b, rfl⟩ := two_e h2
  have e1 : simT (.mk 2 w n [a, b] l el cs) = [115, 116, 111, 114, 101] ++ (wB w ++ ([40] ++ (txE a ++ ([44, 32] ++ (txE b ++ [41, 59]))))) := rfl
  rw [e1] at hlen ⊢
  have hl0 := hlen
  simp only [List.length_append] at hl0
  have qa := c_text a (he a (by simp)) (h3 a (by simp)) (by omega)
  have qb := c_text b (he b (by simp)) (h3 b (by simp)) (by omega)
  have h4 := h4 trivial
  have qw := c_Itoa w (by omega) (by omega)
  rw [itoa_w h4] at qw
  have qj := c_j7 [115, 116, 111, 114, 101] (wB w) [40] (txE a) [44, 32] (txE b) [41, 59] _ rfl hlen
  clear hlen e1
  refine PC.enter 72 Tryz.func89 rfl (by decide) rfl rfl (s := [(0, ndV (.mk 2 w n [a, b] l el cs))]) (by rfl) ?_
  simp only [ndV_mk]
  refine wdG Y89_E5 EX ?_
  refine AR.callP qw True.intro (And.intro ndV_id (And.intro ndLs_id (And.intro nlVs_id (And.intro nlV_id (And.intro (@exL_id) (And.intro (@exV_id) sL_id)))))) ?_
  refine goG Y89_E5 EX ?_
  refine AR.callP qa @exV_eq (And.intro ndV_id (And.intro ndLs_id (And.intro nlVs_id (And.intro nlV_id (And.intro (@exL_id) (And.intro (@exV_id) sL_id)))))) ?_
  refine goG Y89_E5 EX ?_
  refine AR.callP qb @exV_eq (And.intro ndV_id (And.intro ndLs_id (And.intro nlVs_id (And.intro nlV_id (And.intro (@exL_id) (And.intro (@exV_id) sL_id)))))) ?_
  refine goG Y89_E5 True.intro ?_
  refine AR.callW qj True.intro (And.intro ndV_id (And.intro ndLs_id (And.intro nlVs_id (And.intro nlV_id (And.intro (@exL_id) (And.intro (@exV_id) sL_id)))))) ?_
  refine goG Y89_E5 True.intro ?_
  refine wdG Y89_E5 True.intro ?_
  exact Fin.oneP
theorem c_simple3 (w : Int) (n : ByteArray) (e : List Ex) (l el : List Nd) (cs : List (List Nd)) (hf : fitN (.mk 3 w n e l el cs)) (hs : stT (.mk 3 w n e l el cs) = true) (hlen : (simT (.mk 3 w n e l el cs)).length ≤ 140737488355328) : PC Tryz.prog 89 [ndV (.mk 3 w n e l el cs)] (.im (.string ⟨(simT (.mk 3 w n e l el cs)).toArray⟩)) := by
  obtain ⟨_, h2, h3, h4⟩ := stT_inv hs
  obtain ⟨_, _, ⟨_, he⟩, _⟩ := fitN_inv hf
  simp only [Nd.kind, Nd.width, Nd.name, Nd.e] at h2 h3 h4 he
  have e1 : simT (.mk 3 w n e l el cs) = n.data.toList ++ [32, 61, 32, 105, 110, 59] := rfl
  rw [e1] at hlen ⊢
  have qj := c_j2 n.data.toList [32, 61, 32, 105, 110, 59] _ rfl hlen
  rw [bS_n] at qj
  clear hlen e1
  refine PC.enter 72 Tryz.func89 rfl (by decide) rfl rfl (s := [(0, ndV (.mk 3 w n e l el cs))]) (by rfl) ?_
  simp only [ndV_mk]
  refine wG Y89_E5 EX ?_
  refine AR.callW qj True.intro (And.intro ndV_id (And.intro ndLs_id (And.intro nlVs_id (And.intro nlV_id (And.intro (@exL_id) (And.intro (@exV_id) sL_id)))))) ?_
  refine goG Y89_E5 True.intro ?_
  refine wG Y89_E5 True.intro ?_
  exact Fin.oneP
theorem c_simple4 (w : Int) (n : ByteArray) (e : List Ex) (l el : List Nd) (cs : List (List Nd)) (hf : fitN (.mk 4 w n e l el cs)) (hs : stT (.mk 4 w n e l el cs) = true) (hlen : (simT (.mk 4 w n e l el cs)).length ≤ 140737488355328) : PC Tryz.prog 89 [ndV (.mk 4 w n e l el cs)] (.im (.string ⟨(simT (.mk 4 w n e l el cs)).toArray⟩)) := by
  obtain ⟨_, h2, h3, h4⟩ := stT_inv hs
  obtain ⟨_, _, ⟨_, he⟩, _⟩ := fitN_inv hf
  simp only [Nd.kind, Nd.width, Nd.name, Nd.e] at h2 h3 h4 he
  obtain ⟨a, rfl⟩ := one_e h2
  have e1 : simT (.mk 4 w n [a] l el cs) = [111, 117, 116, 32] ++ (txE a ++ [59]) := rfl
  rw [e1] at hlen ⊢
  have hl0 := hlen
  simp only [List.length_append] at hl0
  have qa := c_text a (he a (by simp)) (h3 a (by simp)) (by omega)
  have qj := c_j3 [111, 117, 116, 32] (txE a) [59] _ rfl hlen
  clear hlen e1
  refine PC.enter 72 Tryz.func89 rfl (by decide) rfl rfl (s := [(0, ndV (.mk 4 w n [a] l el cs))]) (by rfl) ?_
  simp only [ndV_mk]
  refine wG Y89_E5 EX ?_
  refine AR.callP qa @exV_eq (And.intro ndV_id (And.intro ndLs_id (And.intro nlVs_id (And.intro nlV_id (And.intro (@exL_id) (And.intro (@exV_id) sL_id)))))) ?_
  refine goG Y89_E5 True.intro ?_
  refine AR.callW qj True.intro (And.intro ndV_id (And.intro ndLs_id (And.intro nlVs_id (And.intro nlV_id (And.intro (@exL_id) (And.intro (@exV_id) sL_id)))))) ?_
  refine goG Y89_E5 True.intro ?_
  refine wG Y89_E5 True.intro ?_
  exact Fin.oneP
theorem c_simple5 (w : Int) (n : ByteArray) (e : List Ex) (l el : List Nd) (cs : List (List Nd)) (hf : fitN (.mk 5 w n e l el cs)) (hs : stT (.mk 5 w n e l el cs) = true) (hlen : (simT (.mk 5 w n e l el cs)).length ≤ 140737488355328) : PC Tryz.prog 89 [ndV (.mk 5 w n e l el cs)] (.im (.string ⟨(simT (.mk 5 w n e l el cs)).toArray⟩)) := by
  obtain ⟨_, h2, h3, h4⟩ := stT_inv hs
  obtain ⟨_, _, ⟨_, he⟩, _⟩ := fitN_inv hf
  simp only [Nd.kind, Nd.width, Nd.name, Nd.e] at h2 h3 h4 he
  have e1 : simT (.mk 5 w n e l el cs) = [99, 97, 108, 108, 32] ++ (n.data.toList ++ [59]) := rfl
  rw [e1] at hlen ⊢
  have qj := c_j3 [99, 97, 108, 108, 32] n.data.toList [59] _ rfl hlen
  rw [bS_n] at qj
  clear hlen e1
  refine PC.enter 72 Tryz.func89 rfl (by decide) rfl rfl (s := [(0, ndV (.mk 5 w n e l el cs))]) (by rfl) ?_
  simp only [ndV_mk]
  refine wG Y89_E5 EX ?_
  refine AR.callW qj True.intro (And.intro ndV_id (And.intro ndLs_id (And.intro nlVs_id (And.intro nlV_id (And.intro (@exL_id) (And.intro (@exV_id) sL_id)))))) ?_
  refine goG Y89_E5 True.intro ?_
  refine wG Y89_E5 True.intro ?_
  exact Fin.oneP
theorem c_simple12 (w : Int) (n : ByteArray) (e : List Ex) (l el : List Nd) (cs : List (List Nd)) (hf : fitN (.mk 12 w n e l el cs)) (hs : stT (.mk 12 w n e l el cs) = true) (hlen : (simT (.mk 12 w n e l el cs)).length ≤ 140737488355328) : PC Tryz.prog 89 [ndV (.mk 12 w n e l el cs)] (.im (.string ⟨(simT (.mk 12 w n e l el cs)).toArray⟩)) := by
  obtain ⟨_, h2, h3, h4⟩ := stT_inv hs
  obtain ⟨_, _, ⟨_, he⟩, _⟩ := fitN_inv hf
  simp only [Nd.kind, Nd.width, Nd.name, Nd.e] at h2 h3 h4 he
  have e1 : simT (.mk 12 w n e l el cs) = [103, 111, 116, 111, 32] ++ (n.data.toList ++ [59]) := rfl
  rw [e1] at hlen ⊢
  have qj := c_j3 [103, 111, 116, 111, 32] n.data.toList [59] _ rfl hlen
  rw [bS_n] at qj
  clear hlen e1
  refine PC.enter 72 Tryz.func89 rfl (by decide) rfl rfl (s := [(0, ndV (.mk 12 w n e l el cs))]) (by rfl) ?_
  simp only [ndV_mk]
  refine wG Y89_E5 EX ?_
  refine AR.callW qj True.intro (And.intro ndV_id (And.intro ndLs_id (And.intro nlVs_id (And.intro nlV_id (And.intro (@exL_id) (And.intro (@exV_id) sL_id)))))) ?_
  refine goG Y89_E5 True.intro ?_
  refine wG Y89_E5 True.intro ?_
  exact Fin.oneP
theorem c_simple13 (w : Int) (n : ByteArray) (e : List Ex) (l el : List Nd) (cs : List (List Nd)) (hf : fitN (.mk 13 w n e l el cs)) (hs : stT (.mk 13 w n e l el cs) = true) (hlen : (simT (.mk 13 w n e l el cs)).length ≤ 140737488355328) : PC Tryz.prog 89 [ndV (.mk 13 w n e l el cs)] (.im (.string ⟨(simT (.mk 13 w n e l el cs)).toArray⟩)) := by
  obtain ⟨_, h2, h3, h4⟩ := stT_inv hs
  obtain ⟨_, _, ⟨_, he⟩, _⟩ := fitN_inv hf
  simp only [Nd.kind, Nd.width, Nd.name, Nd.e] at h2 h3 h4 he
  have e1 : simT (.mk 13 w n e l el cs) = n.data.toList ++ [58] := rfl
  rw [e1] at hlen ⊢
  have qj := c_j2 n.data.toList [58] _ rfl hlen
  rw [bS_n] at qj
  clear hlen e1
  refine PC.enter 72 Tryz.func89 rfl (by decide) rfl rfl (s := [(0, ndV (.mk 13 w n e l el cs))]) (by rfl) ?_
  simp only [ndV_mk]
  refine wG Y89_E5 EX ?_
  refine AR.callW qj True.intro (And.intro ndV_id (And.intro ndLs_id (And.intro nlVs_id (And.intro nlV_id (And.intro (@exL_id) (And.intro (@exV_id) sL_id)))))) ?_
  refine goG Y89_E5 True.intro ?_
  refine wG Y89_E5 True.intro ?_
  exact Fin.oneP
theorem c_simple10 (w : Int) (n : ByteArray) (e : List Ex) (l el : List Nd) (cs : List (List Nd)) (hf : fitN (.mk 10 w n e l el cs)) (hs : stT (.mk 10 w n e l el cs) = true) (hlen : (simT (.mk 10 w n e l el cs)).length ≤ 140737488355328) : PC Tryz.prog 89 [ndV (.mk 10 w n e l el cs)] (.im (.string ⟨(simT (.mk 10 w n e l el cs)).toArray⟩)) := by
  obtain ⟨_, h2, h3, h4⟩ := stT_inv hs
  obtain ⟨_, _, ⟨_, he⟩, _⟩ := fitN_inv hf
  simp only [Nd.kind, Nd.width, Nd.name, Nd.e] at h2 h3 h4 he
  have e1 : simT (.mk 10 w n e l el cs) = [98, 114, 101, 97, 107, 59] := rfl
  rw [e1] at hlen ⊢
  clear hlen e1
  refine PC.enter 72 Tryz.func89 rfl (by decide) rfl rfl (s := [(0, ndV (.mk 10 w n e l el cs))]) (by rfl) ?_
  simp only [ndV_mk]
  refine wG Y89_E5 EX ?_
  exact Fin.oneP
theorem c_simple11 (w : Int) (n : ByteArray) (e : List Ex) (l el : List Nd) (cs : List (List Nd)) (hf : fitN (.mk 11 w n e l el cs)) (hs : stT (.mk 11 w n e l el cs) = true) (hlen : (simT (.mk 11 w n e l el cs)).length ≤ 140737488355328) : PC Tryz.prog 89 [ndV (.mk 11 w n e l el cs)] (.im (.string ⟨(simT (.mk 11 w n e l el cs)).toArray⟩)) := by
  obtain ⟨_, h2, h3, h4⟩ := stT_inv hs
  obtain ⟨_, _, ⟨_, he⟩, _⟩ := fitN_inv hf
  simp only [Nd.kind, Nd.width, Nd.name, Nd.e] at h2 h3 h4 he
  have e1 : simT (.mk 11 w n e l el cs) = [99, 111, 110, 116, 105, 110, 117, 101, 59] := rfl
  rw [e1] at hlen ⊢
  clear hlen e1
  refine PC.enter 72 Tryz.func89 rfl (by decide) rfl rfl (s := [(0, ndV (.mk 11 w n e l el cs))]) (by rfl) ?_
  simp only [ndV_mk]
  refine wG Y89_E5 EX ?_
  exact Fin.oneP
theorem c_simple14 (w : Int) (n : ByteArray) (e : List Ex) (l el : List Nd) (cs : List (List Nd)) (hf : fitN (.mk 14 w n e l el cs)) (hs : stT (.mk 14 w n e l el cs) = true) (hlen : (simT (.mk 14 w n e l el cs)).length ≤ 140737488355328) : PC Tryz.prog 89 [ndV (.mk 14 w n e l el cs)] (.im (.string ⟨(simT (.mk 14 w n e l el cs)).toArray⟩)) := by
  obtain ⟨_, h2, h3, h4⟩ := stT_inv hs
  obtain ⟨_, _, ⟨_, he⟩, _⟩ := fitN_inv hf
  simp only [Nd.kind, Nd.width, Nd.name, Nd.e] at h2 h3 h4 he
  have e1 : simT (.mk 14 w n e l el cs) = [114, 101, 116, 117, 114, 110, 59] := rfl
  rw [e1] at hlen ⊢
  clear hlen e1
  refine PC.enter 72 Tryz.func89 rfl (by decide) rfl rfl (s := [(0, ndV (.mk 14 w n e l el cs))]) (by rfl) ?_
  simp only [ndV_mk]
  refine wG Y89_E5 EX ?_
  exact Fin.oneP
theorem c_simple15 (w : Int) (n : ByteArray) (e : List Ex) (l el : List Nd) (cs : List (List Nd)) (hf : fitN (.mk 15 w n e l el cs)) (hs : stT (.mk 15 w n e l el cs) = true) (hlen : (simT (.mk 15 w n e l el cs)).length ≤ 140737488355328) : PC Tryz.prog 89 [ndV (.mk 15 w n e l el cs)] (.im (.string ⟨(simT (.mk 15 w n e l el cs)).toArray⟩)) := by
  obtain ⟨_, h2, h3, h4⟩ := stT_inv hs
  obtain ⟨_, _, ⟨_, he⟩, _⟩ := fitN_inv hf
  simp only [Nd.kind, Nd.width, Nd.name, Nd.e] at h2 h3 h4 he
  have e1 : simT (.mk 15 w n e l el cs) = [104, 97, 108, 116, 59] := rfl
  rw [e1] at hlen ⊢
  clear hlen e1
  refine PC.enter 72 Tryz.func89 rfl (by decide) rfl rfl (s := [(0, ndV (.mk 15 w n e l el cs))]) (by rfl) ?_
  simp only [ndV_mk]
  refine wG Y89_E5 EX ?_
  exact Fin.oneP
theorem c_simple (t : Nd) (hf : fitN t) (hs : stT t = true) (hk : t.kind ≠ 6 ∧ t.kind ≠ 7 ∧ t.kind ≠ 8 ∧ t.kind ≠ 9) (hlen : (simT t).length ≤ 140737488355328) : PC Tryz.prog 89 [ndV t] (.im (.string ⟨(simT t).toArray⟩)) := by
  obtain ⟨h1, _⟩ := stT_inv hs
  obtain ⟨k, w, n, e, l, el, cs⟩ := t
  simp only [Nd.kind] at h1 hk
  have : k = 1 ∨ k = 2 ∨ k = 3 ∨ k = 4 ∨ k = 5 ∨ k = 12 ∨ k = 13 ∨ k = 10 ∨ k = 11 ∨ k = 14 ∨ k = 15 := by omega
  rcases this with rfl | rfl | rfl | rfl | rfl | rfl | rfl | rfl | rfl | rfl | rfl
  · exact c_simple1 w n e l el cs hf hs hlen
  · exact c_simple2 w n e l el cs hf hs hlen
  · exact c_simple3 w n e l el cs hf hs hlen
  · exact c_simple4 w n e l el cs hf hs hlen
  · exact c_simple5 w n e l el cs hf hs hlen
  · exact c_simple12 w n e l el cs hf hs hlen
  · exact c_simple13 w n e l el cs hf hs hlen
  · exact c_simple10 w n e l el cs hf hs hlen
  · exact c_simple11 w n e l el cs hf hs hlen
  · exact c_simple14 w n e l el cs hf hs hlen
  · exact c_simple15 w n e l el cs hf hs hlen
end Go.Proofs.YtlbfgnpadggbgaaGreatDoor

