/- Walks: statements are written. Walks: is there a text of a function; a function is written. -/
import Derived.Test.YtlbfgnpadggbgaaGreatDoorHv
import Derived.Test.YtlbfgnpadggbgaaGreatDoorE5
import Derived.Test.YtlbfgnpadggbgaaGreatDoorNe
import Derived.Test.YtlbfgnpadggbgaaGreatDoorM4
namespace Go.Proofs.YtlbfgnpadggbgaaGreatDoor
set_option linter.unusedSimpArgs false
set_option linter.unusedVariables false
set_option linter.unnecessarySimpa false
open Go.RowKit
/-- A contract that asks nothing of a slice but its elements holds of a full one. -/
theorem DC.full2 {P : Program} {f : FuncId} {x : V} {es : List V} {l l' : List Ent} {r : V} (h : DC P f [x, .sl es .ro] l r l') : DC P f [x, .sl es .full] l r l' :=
  ⟨h.1, fun C vs hst hC hsz hR => h.2 C vs hst hC hsz fun i hi => match i, hi with
    | 0, _ => hR 0 (by simp)
    | 1, _ => Wk.ro _ _ C _ (hR 1 (by simp))⟩
theorem c_line1 (b x r : Bs) (k : Nat) (hr : b ++ lnT k x = r) (hlen : r.length ≤ 140737488355328) : DC Tryz.prog 52 [.pt 0 0, .sl [.im (.string ⟨(x).toArray⟩)] .full] [.box [.nb 0 PQ, .sl ((b).map byB) (.mine 1), (.im (.int .i64 ((k : Int))))], .tip 5 1 (b).length] (.tu []) [.box [.nb 0 PQ, .sl ((r).map byB) (.mine 1), (.im (.int .i64 ((k : Int))))], .tip 5 1 (r).length] := by
  subst hr
  exact DC.full2 <| c_line b [x] x (by simp) k (by simp) hlen
theorem c_line3 (b x y z r : Bs) (k : Nat) (hr : b ++ lnT k (x ++ (y ++ z)) = r) (hlen : r.length ≤ 140737488355328) : DC Tryz.prog 52 [.pt 0 0, .sl [.im (.string ⟨(x).toArray⟩), .im (.string ⟨(y).toArray⟩), .im (.string ⟨(z).toArray⟩)] .full] [.box [.nb 0 PQ, .sl ((b).map byB) (.mine 1), (.im (.int .i64 ((k : Int))))], .tip 5 1 (b).length] (.tu []) [.box [.nb 0 PQ, .sl ((r).map byB) (.mine 1), (.im (.int .i64 ((k : Int))))], .tip 5 1 (r).length] := by
  subst hr
  exact DC.full2 <| c_line b [x, y, z] (x ++ (y ++ z)) (by simp) k (by simp) hlen
/-- The text of a case. -/
def caT (k : Nat) (p : List (Nat → Bs) × Nat) : Bs := lnT (k + 1) ([99, 97, 115, 101, 32] ++ (Lib.itoa p.2 ++ [32, 123])) ++ ((p.1.map fun f => f (k + 2)).flatten ++ lnT (k + 1) [125])
/-- The text of a statement at a level, given the texts of those in it. -/
def ndN (t : Nd) (r1 r2 : List (Nat → Bs)) (r3 : List (List (Nat → Bs))) (k : Nat) : Bs :=
  if t.kind = 6 then lnT k ([105, 102, 32] ++ (exAt t.e 0 ++ [32, 123])) ++ ((r1.map fun f => f (k + 1)).flatten ++ ((if r2.length = 0 then [] else lnT k [125, 32, 101, 108, 115, 101, 32, 123] ++ (r2.map fun f => f (k + 1)).flatten) ++ lnT k [125]))
  else if t.kind = 7 then lnT k ([119, 104, 105, 108, 101, 32] ++ (exAt t.e 0 ++ [32, 123])) ++ ((r1.map fun f => f (k + 1)).flatten ++ lnT k [125])
  else if t.kind = 8 then lnT k [108, 111, 111, 112, 32, 123] ++ ((r1.map fun f => f (k + 1)).flatten ++ lnT k [125])
  else if t.kind = 9 then lnT k ([115, 119, 105, 116, 99, 104, 32] ++ (exAt t.e 0 ++ [32, 123])) ++ ((r3.zipIdx.map (caT k)).flatten ++ lnT k [125])
  else lnT k (simT t)
def ndT : Nd → Nat → Bs := Nd.para ndN
theorem ndT_mk (k w : Int) (n : ByteArray) (e : List Ex) (l el : List Nd) (cs : List (List Nd)) : ndT (.mk k w n e l el cs) = ndN (.mk k w n e l el cs) (l.map ndT) (el.map ndT) (cs.map (List.map ndT)) := by
  unfold ndT
  rw [Nd.para_mk]
/-- The text of a list of statements at a level. -/
def lsT (l : List Nd) (k : Nat) : Bs := (l.map fun t => ndT t k).flatten
theorem lsT_map (l : List Nd) (k : Nat) : ((l.map ndT).map fun f => f k).flatten = lsT l k := by
  unfold lsT
  rw [List.map_map]
  rfl
theorem lsT_take {l : List Nd} {m k : Nat} (h : m < l.length) : lsT (l.take (m + 1)) k = lsT (l.take m) k ++ ndT l[m] k := by
  unfold lsT
  rw [List.take_succ_eq_append_getElem h, List.map_append, List.flatten_append]
  simp
theorem lsT_le {l : List Nd} {m k : Nat} : (lsT (l.take m) k).length ≤ (lsT l k).length := by
  have : lsT l k = lsT (l.take m) k ++ lsT (l.drop m) k := by
    unfold lsT
    rw [← List.flatten_append, ← List.map_append, List.take_append_drop]
  rw [this, List.length_append]
  omega
theorem Y54_E6 : type_of% (And.intro @F_ag_3 (And.intro @F_ag_38 (And.intro @F_al_38 (And.intro @F_el_35 (And.intro @F_fl_55_1 (And.intro @F_sz_3 (@F_sz_38))))))) := And.intro @F_ag_3 (And.intro @F_ag_38 (And.intro @F_al_38 (And.intro @F_el_35 (And.intro @F_fl_55_1 (And.intro @F_sz_3 (@F_sz_38))))))
theorem c_nested (l : List Nd) (k : Nat) (b : Bs) (hl : l.length ≤ 4194304) (hk : k ≤ 4194304) (hlen : (b ++ lsT l (k + 1)).length ≤ 140737488355328)
    (h : ∀ t ∈ l, ∀ c : Bs, (c ++ ndT t (k + 1)).length ≤ 140737488355328 → DC Tryz.prog 75 [.pt 0 0, ndV t] [.box [.nb 0 PQ, .sl ((c).map byB) (.mine 1), (.im (.int .i64 (((k + 1 : Nat) : Int))))], .tip 5 1 (c).length] (.tu []) [.box [.nb 0 PQ, .sl (((c ++ ndT t (k + 1))).map byB) (.mine 1), (.im (.int .i64 (((k + 1 : Nat) : Int))))], .tip 5 1 ((c ++ ndT t (k + 1))).length]) :
    DC Tryz.prog 54 [.pt 0 0, .sl (l.map ndV) .ro] [.box [.nb 0 PQ, .sl ((b).map byB) (.mine 1), (.im (.int .i64 ((k : Int))))], .tip 5 1 (b).length] (.tu []) [.box [.nb 0 PQ, .sl (((b ++ lsT l (k + 1))).map byB) (.mine 1), (.im (.int .i64 ((k : Int))))], .tip 5 1 ((b ++ lsT l (k + 1))).length] := by
  have hw1 : IntKind.i64.wrap ((k : Int) + 1) = ((k + 1 : Nat) : Int) := by rw [wrap_in (by omega)]; omega
  have hw2 : IntKind.i64.wrap (((k + 1 : Nat) : Int) - 1) = (k : Int) := by rw [wrap_in (by omega)]; omega
  obtain ⟨Bf, hBf⟩ : ∃ Bf : Nat → Bs, ∀ m, Bf m = b ++ lsT (l.take m) (k + 1) := ⟨_, fun _ => rfl⟩
  have h0 : Bf 0 = b := by rw [hBf]; simp [lsT]
  have hend : Bf l.length = b ++ lsT l (k + 1) := by rw [hBf, List.take_length]
  rw [← hend, ← h0]
  refine DC.enter 30 Tryz.func54 rfl (by decide) rfl rfl (s := [(0, .pt 0 0), (1, .sl (l.map ndV) .ro)]) (by rfl) ?_
  refine wG Y54_E6 hw1 ?_
  refine AWp.loop ?_
  refine ALp.cutP 2 [(0, .pt 0 0), (6, .pt 0 0), (13, .sl (l.map ndV) .ro), (14, (.im (.int .i64 (l.length)))), (15, (.im (.int .i64 ((((0 : Nat)) : Int)))))] [.box [.nb 0 PQ, .sl (((Bf 0)).map byB) (.mine 1), (.im (.int .i64 (((k + 1 : Nat) : Int))))], .tip 5 1 ((Bf 0)).length] (And.intro ndV_id (And.intro ndLs_id (And.intro nlVs_id (And.intro nlV_id (And.intro (@exL_id) (And.intro (@exV_id) (And.intro sL_id byL_id))))))) ?_
  refine ALp.upto l.length (fun _ => True) (fun m => ⟨dn 30 [(0, .pt 0 0), (6, .pt 0 0), (13, .sl (l.map ndV) .ro), (14, (.im (.int .i64 (l.length)))), (15, (.im (.int .i64 ((((m : Nat)) : Int)))))], ofl [.box [.nb 0 PQ, .sl (((Bf m)).map byB) (.mine 1), (.im (.int .i64 (((k + 1 : Nat) : Int))))], .tip 5 1 ((Bf m)).length]⟩) ?_ 0 (Nat.zero_le _) trivial
  intro m hm _ hnext
  by_cases hlt : m < l.length
  · have hlt' : (m : Int) < (l.length : Int) := by omega
    have hm1 := wrap_succ hlt (by omega)
    have hg := get_some hlt
    have hle := lsT_le (l := l) (m := m + 1) (k := k + 1)
    have hc := h l[m] (List.getElem_mem hlt) (b ++ lsT (l.take m) (k + 1)) (by
      rw [List.append_assoc, ← lsT_take hlt, List.length_append]
      rw [List.length_append] at hlen
      omega)
    rw [List.append_assoc, ← lsT_take hlt, ← hBf, ← hBf] at hc
    refine wG Y54_E6 (And.intro ND (And.intro hlt' hg)) ?_
    refine AR.callSP [0, 1] hc ndV_eq (And.intro ndV_id (And.intro ndLs_id (And.intro nlVs_id (And.intro nlV_id (And.intro (@exL_id) (And.intro (@exV_id) (And.intro sL_id byL_id))))))) (And.intro ndV_ren (And.intro ndLs_ren (And.intro nlVs_ren (And.intro (@exV_ren) (And.intro (@exL_ren) (And.intro sL_ren (And.intro byL_ren nb_ren))))))) ?_
    refine goG Y54_E6 True.intro ?_
    refine wG Y54_E6 hm1 ?_
    refine ALp.cutP 2 [(0, .pt 0 0), (6, .pt 0 0), (13, .sl (l.map ndV) .ro), (14, (.im (.int .i64 (l.length)))), (15, (.im (.int .i64 ((((m + 1 : Nat)) : Int)))))] [.box [.nb 0 PQ, .sl (((Bf (m + 1))).map byB) (.mine 1), (.im (.int .i64 (((k + 1 : Nat) : Int))))], .tip 5 1 ((Bf (m + 1))).length] (And.intro ndV_id (And.intro ndLs_id (And.intro nlVs_id (And.intro nlV_id (And.intro (@exL_id) (And.intro (@exV_id) (And.intro sL_id byL_id))))))) ?_
    exact hnext (m + 1) (by omega) (by omega) trivial
  obtain rfl : m = l.length := by omega
  clear hnext h
  refine wG Y54_E6 (And.intro (@Int.lt_irrefl) hw2) ?_
  refine Fin.gen (rs := []) rfl (by first | exact .inl rfl | exact .inr rfl) (finG Y54_E6) ?_ rfl (idG (And.intro ndV_id (And.intro ndLs_id (And.intro nlVs_id (And.intro nlV_id (And.intro (@exL_id) (And.intro (@exV_id) (And.intro sL_id byL_id))))))))
  all_goals exact wkG (And.intro ndV_id (And.intro ndLs_id (And.intro nlVs_id (And.intro nlV_id (And.intro (@exL_id) (And.intro (@exV_id) (And.intro sL_id byL_id)))))))
theorem Y75_E6 : type_of% (And.intro @F_ag_23 (And.intro @F_ag_25 (And.intro @F_ag_3 (And.intro @F_ag_35 (And.intro @F_ag_36 (And.intro @F_ag_38 (And.intro @F_al_9 (And.intro @F_el_23 (And.intro @F_el_35 (And.intro @F_el_36 (And.intro @F_el_58 (And.intro @F_fl_38_0 (And.intro @F_fl_38_3 (And.intro @F_fl_38_4 (And.intro @F_fl_38_5 (And.intro @F_fl_38_6 (And.intro @F_fl_55_1 (And.intro @F_sz_23 (And.intro @F_sz_25 (And.intro @F_sz_3 (And.intro @F_sz_35 (And.intro @F_sz_36 (And.intro @F_sz_38 (@F_sz_9)))))))))))))))))))))))) := And.intro @F_ag_23 (And.intro @F_ag_25 (And.intro @F_ag_3 (And.intro @F_ag_35 (And.intro @F_ag_36 (And.intro @F_ag_38 (And.intro @F_al_9 (And.intro @F_el_23 (And.intro @F_el_35 (And.intro @F_el_36 (And.intro @F_el_58 (And.intro @F_fl_38_0 (And.intro @F_fl_38_3 (And.intro @F_fl_38_4 (And.intro @F_fl_38_5 (And.intro @F_fl_38_6 (And.intro @F_fl_55_1 (And.intro @F_sz_23 (And.intro @F_sz_25 (And.intro @F_sz_3 (And.intro @F_sz_35 (And.intro @F_sz_36 (And.intro @F_sz_38 (@F_sz_9)))))))))))))))))))))))
theorem c_stmtD (t : Nd) (k : Nat) (b : Bs) (hf : fitN t) (hs : stT t = true) (h6 : t.kind ≠ 6) (h7 : t.kind ≠ 7) (h8 : t.kind ≠ 8) (h9 : t.kind ≠ 9) (hlen : (b ++ ndT t k).length ≤ 140737488355328) :
    DC Tryz.prog 75 [.pt 0 0, ndV t] [.box [.nb 0 PQ, .sl ((b).map byB) (.mine 1), (.im (.int .i64 ((k : Int))))], .tip 5 1 (b).length] (.tu []) [.box [.nb 0 PQ, .sl (((b ++ ndT t k)).map byB) (.mine 1), (.im (.int .i64 ((k : Int))))], .tip 5 1 ((b ++ ndT t k)).length] := by
  have he : ndT t k = lnT k (simT t) := by
    obtain ⟨o, w, n, e, l, el, cs⟩ := t
    rw [ndT_mk]
    unfold ndN
    rw [if_neg h6, if_neg h7, if_neg h8, if_neg h9]
  rw [he] at hlen ⊢
  have hl0 := hlen
  unfold lnT at hl0
  simp only [List.length_append] at hl0
  have q := c_simple t hf hs ⟨h6, h7, h8, h9⟩ (by omega)
  obtain ⟨B, hB⟩ : ∃ B, B = b ++ lnT k (simT t) := ⟨_, rfl⟩
  rw [← hB] at hlen
  have ql := c_line1 b (simT t) B k hB.symm hlen
  rw [← hB]
  generalize simT t = s at q ql
  refine DC.enter 112 Tryz.func75 rfl (by decide) rfl rfl (s := [(0, .pt 0 0), (1, ndV t)]) (by rfl) ?_
  refine wG Y75_E6 (And.intro ND (And.intro h6 (And.intro h7 (And.intro h8 h9)))) ?_
  refine AR.callP q ndV_eq (And.intro ndV_id (And.intro ndLs_id (And.intro nlVs_id (And.intro nlV_id (And.intro (@exL_id) (And.intro (@exV_id) (And.intro sL_id byL_id))))))) ?_
  refine goG Y75_E6 True.intro ?_
  refine AR.callSP [0, 1] ql True.intro (And.intro ndV_id (And.intro ndLs_id (And.intro nlVs_id (And.intro nlV_id (And.intro (@exL_id) (And.intro (@exV_id) (And.intro sL_id byL_id))))))) (And.intro ndV_ren (And.intro ndLs_ren (And.intro nlVs_ren (And.intro (@exV_ren) (And.intro (@exL_ren) (And.intro sL_ren (And.intro byL_ren nb_ren))))))) ?_
  refine goG Y75_E6 True.intro ?_
  refine wG Y75_E6 True.intro ?_
  refine Fin.gen (rs := []) rfl (by first | exact .inl rfl | exact .inr rfl) (finG Y75_E6) ?_ rfl (idG (And.intro ndV_id (And.intro ndLs_id (And.intro nlVs_id (And.intro nlV_id (And.intro (@exL_id) (And.intro (@exV_id) (And.intro sL_id byL_id))))))))
  all_goals exact wkG (And.intro ndV_id (And.intro ndLs_id (And.intro nlVs_id (And.intro nlV_id (And.intro (@exL_id) (And.intro (@exV_id) (And.intro sL_id byL_id)))))))
end Go.Proofs.YtlbfgnpadggbgaaGreatDoor
namespace Go.Proofs.YtlbfgnpadggbgaaGreatDoor
set_option linter.unusedSimpArgs false
set_option linter.unusedVariables false
set_option linter.unnecessarySimpa false
open Go.RowKit
theorem fnV_eq (f : Fun) : fnV f = .ag [.im (.string f.name), .sl (f.vars.map vaV) .ro, .sl (f.body.map ndV) .ro] := rfl
theorem Y50_E7 : type_of% (And.intro @F_ag_25 (@F_sz_25)) := And.intro @F_ag_25 (@F_sz_25)
theorem c_prt1 (x : Ex) (hx : fitE x) : PC Tryz.prog 50 [exV x] (.im (.bool (!esh x 64))) := by
  have h := c_eshallow x hx 64 (by unfold I64; omega)
  refine PC.enter 6 Tryz.func50 rfl (by decide) rfl rfl (s := [(0, exV x)]) (by rfl) ?_
  refine wG Y50_E7 EX ?_
  refine AR.callP h @exV_eq (And.intro ndV_id (And.intro ndLs_id (And.intro nlVs_id (And.intro nlV_id (And.intro (@exL_id) (And.intro (@exV_id) (And.intro sL_id (And.intro byL_id (And.intro plV_id (And.intro plVs_id (And.intro (@vaL_id) @vaV_id))))))))))) ?_
  refine goG Y50_E7 True.intro ?_
  refine wG Y50_E7 True.intro ?_
  exact Fin.oneP
theorem Y23_E7 : type_of% (And.intro @F_ag_23 (And.intro @F_ag_26 (And.intro @F_ag_35 (And.intro @F_ag_38 (And.intro @F_ag_63 (And.intro @F_ag_66 (And.intro @F_ag_85 (And.intro @F_ag_9 (And.intro @F_al_66 (And.intro @F_al_85 (And.intro @F_el_26 (And.intro @F_el_82 (And.intro @F_fl_38_3 (And.intro @F_fl_40_0 (And.intro @F_fl_40_1 (And.intro @F_fl_40_2 (And.intro @F_fl_66_0 (And.intro @F_fl_66_1 (And.intro @F_fl_85_0 (And.intro @F_sz_23 (And.intro @F_sz_26 (And.intro @F_sz_35 (And.intro @F_sz_38 (And.intro @F_sz_63 (And.intro @F_sz_66 (And.intro @F_sz_85 (@F_sz_9))))))))))))))))))))))))))) := And.intro @F_ag_23 (And.intro @F_ag_26 (And.intro @F_ag_35 (And.intro @F_ag_38 (And.intro @F_ag_63 (And.intro @F_ag_66 (And.intro @F_ag_85 (And.intro @F_ag_9 (And.intro @F_al_66 (And.intro @F_al_85 (And.intro @F_el_26 (And.intro @F_el_82 (And.intro @F_fl_38_3 (And.intro @F_fl_40_0 (And.intro @F_fl_40_1 (And.intro @F_fl_40_2 (And.intro @F_fl_66_0 (And.intro @F_fl_66_1 (And.intro @F_fl_85_0 (And.intro @F_sz_23 (And.intro @F_sz_26 (And.intro @F_sz_35 (And.intro @F_sz_38 (And.intro @F_sz_63 (And.intro @F_sz_66 (And.intro @F_sz_85 (@F_sz_9))))))))))))))))))))))))))
theorem c_printable0 (f : Fun) (hv : f.vars = []) (hn : nameT f.name = true) (hsz : f.name.size ≤ 9223372036854775807) (hf : fitNL f.body) (hc : cnt f.body ≤ 4194304) (hd : dep f.body ≤ 64) (hA : ∀ p ∈ allL f.body false, fitN p.1 ∧ stT p.1 = true ∧ ∀ x ∈ p.1.e, esh x 64 = true) :
    PC Tryz.prog 23 [fnV f] (.im (.bool (true))) := by
  have qn := c_name f.name hsz
  rw [hn] at qn
  have qd := c_depth f.body hf hc
  have qa := c_all f.body hf hc false
  have hAl := allL_len f.body false
  have hd' : ¬ dep f.body > 64 := by omega
  generalize allL f.body false = L at qa hA hAl
  rw [fnV_eq]
  rw [hv]
  refine PC.enter 58 Tryz.func23 rfl (by decide) rfl rfl (s := [(0, .ag [.im (.string f.name), .sl (([] : List Va).map vaV) .ro, .sl (f.body.map ndV) .ro])]) (by rfl) ?_
  simp only [List.map_nil]
  refine wG Y23_E7 True.intro ?_
  refine AWp.scope ?_
  refine wG Y23_E7 True.intro ?_
  refine AR.callP qn True.intro (And.intro ndV_id (And.intro ndLs_id (And.intro nlVs_id (And.intro nlV_id (And.intro (@exL_id) (And.intro (@exV_id) (And.intro sL_id (And.intro byL_id (And.intro plV_id (And.intro plVs_id (And.intro (@vaL_id) @vaV_id))))))))))) ?_
  refine goG Y23_E7 True.intro ?_
  refine AR.callP qd True.intro (And.intro ndV_id (And.intro ndLs_id (And.intro nlVs_id (And.intro nlV_id (And.intro (@exL_id) (And.intro (@exV_id) (And.intro sL_id (And.intro byL_id (And.intro plV_id (And.intro plVs_id (And.intro (@vaL_id) @vaV_id))))))))))) ?_
  refine goG Y23_E7 hd' ?_
  refine wG Y23_E7 True.intro ?_
  refine AWp.loop ?_
  refine ALp.round ?_
  refine wG Y23_E7 True.intro ?_
  refine AWp.label ?_
  refine Thn.n ?_
  refine wG Y23_E7 True.intro ?_
  refine AR.callP qa True.intro (And.intro ndV_id (And.intro ndLs_id (And.intro nlVs_id (And.intro nlV_id (And.intro (@exL_id) (And.intro (@exV_id) (And.intro sL_id (And.intro byL_id (And.intro plV_id (And.intro plVs_id (And.intro (@vaL_id) @vaV_id))))))))))) ?_
  refine goG Y23_E7 @List.length_map.{0, 0} ?_
  refine wG Y23_E7 True.intro ?_
  refine AWp.loop ?_
  refine ALp.cutP 1 [(1, .pt 0 0), (2, (.im (.bool (false)))), (5, (.im (.bool (true)))), (39, .sl (L.map plV) .ro), (40, (.im (.int .i64 (L.length)))), (41, (.im (.int .i64 ((((0 : Nat)) : Int)))))] [.box [.im (.string f.name), .sl [] .ro, .sl (f.body.map ndV) .ro]] (And.intro ndV_id (And.intro ndLs_id (And.intro nlVs_id (And.intro nlV_id (And.intro (@exL_id) (And.intro (@exV_id) (And.intro sL_id (And.intro byL_id (And.intro plV_id (And.intro plVs_id (And.intro (@vaL_id) @vaV_id))))))))))) ?_
  refine ALp.upto L.length (fun _ => True) (fun m => ⟨dn 58 [(1, .pt 0 0), (2, (.im (.bool (false)))), (5, (.im (.bool (true)))), (39, .sl (L.map plV) .ro), (40, (.im (.int .i64 (L.length)))), (41, (.im (.int .i64 ((((m : Nat)) : Int)))))], ofl [.box [.im (.string f.name), .sl [] .ro, .sl (f.body.map ndV) .ro]]⟩) ?_ 0 (Nat.zero_le _) trivial
  intro m hm _ hnext
  by_cases hlt : m < L.length
  · have hlt' : (m : Int) < (L.length : Int) := by omega
    have hm1 := wrap_succ hlt (by omega)
    have hg := get_some hlt
    obtain ⟨p1, p2, p3⟩ := hA L[m] (List.getElem_mem hlt)
    generalize L[m] = p at hg p1 p2 p3
    have hfe := (fitN_inv p1).2.2.1
    have qe := c_containsE0 (gs := p.1.e) (F := 50) (fun x => !esh x 64) hfe.1 (fun x hx => c_prt1 x (hfe.2 x hx))
    have hany : (p.1.e.any fun x => !esh x 64) = false := by
      rw [← Bool.not_eq_true, List.any_eq_true]
      rintro ⟨x, hx, h⟩
      rw [p3 x hx] at h
      cases h
    rw [hany] at qe
    have qs := c_statement p.1 p1
    rw [p2] at qs
    refine wG Y23_E7 (And.intro hlt' (And.intro hg (And.intro plV_firm (And.intro plV_strip (And.intro plV_live (And.intro plV_size (And.intro plV_isAg (And.intro plV_cells (And.intro (@List.getElem?_map.{0, 0}) @Int.natCast_nonneg))))))))) ?_
    refine AR.callP qe True.intro (And.intro ndV_id (And.intro ndLs_id (And.intro nlVs_id (And.intro nlV_id (And.intro (@exL_id) (And.intro (@exV_id) (And.intro sL_id (And.intro byL_id (And.intro plV_id (And.intro plVs_id (And.intro (@vaL_id) @vaV_id))))))))))) ?_
    refine goG Y23_E7 True.intro ?_
    refine wG Y23_E7 True.intro ?_
    refine AR.callP qs ndV_eq (And.intro ndV_id (And.intro ndLs_id (And.intro nlVs_id (And.intro nlV_id (And.intro (@exL_id) (And.intro (@exV_id) (And.intro sL_id (And.intro byL_id (And.intro plV_id (And.intro plVs_id (And.intro (@vaL_id) @vaV_id))))))))))) ?_
    refine goG Y23_E7 True.intro ?_
    refine wG Y23_E7 hm1 ?_
    refine ALp.cutP 1 [(1, .pt 0 0), (2, (.im (.bool (false)))), (5, (.im (.bool (true)))), (39, .sl (L.map plV) .ro), (40, (.im (.int .i64 (L.length)))), (41, (.im (.int .i64 ((((m + 1 : Nat)) : Int)))))] [.box [.im (.string f.name), .sl [] .ro, .sl (f.body.map ndV) .ro]] (And.intro ndV_id (And.intro ndLs_id (And.intro nlVs_id (And.intro nlV_id (And.intro (@exL_id) (And.intro (@exV_id) (And.intro sL_id (And.intro byL_id (And.intro plV_id (And.intro plVs_id (And.intro (@vaL_id) @vaV_id))))))))))) ?_
    exact hnext (m + 1) (by omega) (by omega) trivial
  obtain rfl : m = L.length := by omega
  clear hnext
  refine wG Y23_E7 @Int.lt_irrefl ?_
  exact Fin.oneP
theorem Y53_E7 : type_of% (And.intro @F_ag_63 (And.intro @F_ag_66 (And.intro @F_ag_9 (And.intro @F_al_66 (And.intro @F_al_9 (And.intro @F_el_26 (And.intro @F_el_58 (And.intro @F_fl_66_0 (And.intro @F_fl_66_1 (And.intro @F_sz_63 (And.intro @F_sz_66 (@F_sz_9)))))))))))) := And.intro @F_ag_63 (And.intro @F_ag_66 (And.intro @F_ag_9 (And.intro @F_al_66 (And.intro @F_al_9 (And.intro @F_el_26 (And.intro @F_el_58 (And.intro @F_fl_66_0 (And.intro @F_fl_66_1 (And.intro @F_sz_63 (And.intro @F_sz_66 (@F_sz_9)))))))))))
theorem c_vars0 (k : Nat) (b : Bs) : DC Tryz.prog 53 [.pt 0 0, .sl [] .ro] [.box [.nb 0 PQ, .sl ((b).map byB) (.mine 1), (.im (.int .i64 ((k : Int))))], .tip 5 1 (b).length] (.tu []) [.box [.nb 0 PQ, .sl ((b).map byB) (.mine 1), (.im (.int .i64 ((k : Int))))], .tip 5 1 (b).length] := by
  refine DC.enter 21 Tryz.func53 rfl (by decide) rfl rfl (s := [(0, .pt 0 0), (1, .sl [] .ro)]) (by rfl) ?_
  refine wG Y53_E7 True.intro ?_
  refine AWp.loop ?_
  refine ALp.round ?_
  refine wG Y53_E7 True.intro ?_
  refine Fin.gen (rs := []) rfl (by first | exact .inl rfl | exact .inr rfl) (finG Y53_E7) ?_ rfl (idG (And.intro ndV_id (And.intro ndLs_id (And.intro nlVs_id (And.intro nlV_id (And.intro (@exL_id) (And.intro (@exV_id) (And.intro sL_id (And.intro byL_id (And.intro plV_id (And.intro plVs_id (And.intro (@vaL_id) @vaV_id))))))))))))
  all_goals exact wkG (And.intro ndV_id (And.intro ndLs_id (And.intro nlVs_id (And.intro nlV_id (And.intro (@exL_id) (And.intro (@exV_id) (And.intro sL_id (And.intro byL_id (And.intro plV_id (And.intro plVs_id (And.intro (@vaL_id) @vaV_id)))))))))))
theorem Y24_E7 : type_of% (And.intro @F_ag_26 (And.intro @F_ag_3 (And.intro @F_ag_35 (And.intro @F_ag_9 (And.intro @F_al_9 (And.intro @F_el_58 (And.intro @F_fl_40_0 (And.intro @F_fl_40_1 (And.intro @F_fl_40_2 (And.intro @F_fl_55_1 (And.intro @F_sz_26 (And.intro @F_sz_3 (And.intro @F_sz_35 (@F_sz_9)))))))))))))) := And.intro @F_ag_26 (And.intro @F_ag_3 (And.intro @F_ag_35 (And.intro @F_ag_9 (And.intro @F_al_9 (And.intro @F_el_58 (And.intro @F_fl_40_0 (And.intro @F_fl_40_1 (And.intro @F_fl_40_2 (And.intro @F_fl_55_1 (And.intro @F_sz_26 (And.intro @F_sz_3 (And.intro @F_sz_35 (@F_sz_9)))))))))))))
theorem c_function (f : Fun) (k : Nat) (hk : k ≤ 4194304) (b b1 b2 b3 b4 : Bs) (h1 : b ++ lnT k ([102, 117, 110, 99, 32] ++ (f.name.data.toList ++ [32, 123])) = b1) (hl1 : b1.length ≤ 140737488355328)
    (hv : DC Tryz.prog 53 [.pt 0 0, .sl (f.vars.map vaV) .ro] [.box [.nb 0 PQ, .sl ((b1).map byB) (.mine 1), (.im (.int .i64 (((k + 1 : Nat) : Int))))], .tip 5 1 (b1).length] (.tu []) [.box [.nb 0 PQ, .sl ((b2).map byB) (.mine 1), (.im (.int .i64 (((k + 1 : Nat) : Int))))], .tip 5 1 (b2).length])
    (hn : DC Tryz.prog 54 [.pt 0 0, .sl (f.body.map ndV) .ro] [.box [.nb 0 PQ, .sl ((b2).map byB) (.mine 1), (.im (.int .i64 ((k : Int))))], .tip 5 1 (b2).length] (.tu []) [.box [.nb 0 PQ, .sl ((b3).map byB) (.mine 1), (.im (.int .i64 ((k : Int))))], .tip 5 1 (b3).length])
    (h4 : b3 ++ lnT k [125] = b4) (hl4 : b4.length ≤ 140737488355328) :
    DC Tryz.prog 24 [.pt 0 0, fnV f] [.box [.nb 0 PQ, .sl ((b).map byB) (.mine 1), (.im (.int .i64 ((k : Int))))], .tip 5 1 (b).length] (.tu []) [.box [.nb 0 PQ, .sl ((b4).map byB) (.mine 1), (.im (.int .i64 ((k : Int))))], .tip 5 1 (b4).length] := by
  have hw1 : IntKind.i64.wrap ((k : Int) + 1) = ((k + 1 : Nat) : Int) := by rw [wrap_in (by omega)]; omega
  have hw2 : IntKind.i64.wrap (((k + 1 : Nat) : Int) - 1) = (k : Int) := by rw [wrap_in (by omega)]; omega
  have q1 := c_line3 b [102, 117, 110, 99, 32] f.name.data.toList [32, 123] b1 k h1 hl1
  rw [bS_n] at q1
  have q4 := c_line1 b3 [125] b4 k h4 hl4
  rw [fnV_eq]
  refine DC.enter 34 Tryz.func24 rfl (by decide) rfl rfl (s := [(0, .pt 0 0), (1, .ag [.im (.string f.name), .sl (f.vars.map vaV) .ro, .sl (f.body.map ndV) .ro])]) (by rfl) ?_
  refine wG Y24_E7 True.intro ?_
  refine AR.callSP [0, 1] q1 True.intro (And.intro ndV_id (And.intro ndLs_id (And.intro nlVs_id (And.intro nlV_id (And.intro (@exL_id) (And.intro (@exV_id) (And.intro sL_id (And.intro byL_id (And.intro plV_id (And.intro plVs_id (And.intro (@vaL_id) @vaV_id))))))))))) (And.intro ndV_ren (And.intro ndLs_ren (And.intro nlVs_ren (And.intro (@exV_ren) (And.intro (@exL_ren) (And.intro sL_ren (And.intro byL_ren (And.intro nb_ren (And.intro (@vaV_ren) @vaL_ren))))))))) ?_
  refine goG Y24_E7 True.intro ?_
  refine wG Y24_E7 hw1 ?_
  refine AR.callSP [0, 1] hv True.intro (And.intro ndV_id (And.intro ndLs_id (And.intro nlVs_id (And.intro nlV_id (And.intro (@exL_id) (And.intro (@exV_id) (And.intro sL_id (And.intro byL_id (And.intro plV_id (And.intro plVs_id (And.intro (@vaL_id) @vaV_id))))))))))) (And.intro ndV_ren (And.intro ndLs_ren (And.intro nlVs_ren (And.intro (@exV_ren) (And.intro (@exL_ren) (And.intro sL_ren (And.intro byL_ren (And.intro nb_ren (And.intro (@vaV_ren) @vaL_ren))))))))) ?_
  refine goG Y24_E7 True.intro ?_
  refine wG Y24_E7 hw2 ?_
  refine AR.callSP [0, 1] hn True.intro (And.intro ndV_id (And.intro ndLs_id (And.intro nlVs_id (And.intro nlV_id (And.intro (@exL_id) (And.intro (@exV_id) (And.intro sL_id (And.intro byL_id (And.intro plV_id (And.intro plVs_id (And.intro (@vaL_id) @vaV_id))))))))))) (And.intro ndV_ren (And.intro ndLs_ren (And.intro nlVs_ren (And.intro (@exV_ren) (And.intro (@exL_ren) (And.intro sL_ren (And.intro byL_ren (And.intro nb_ren (And.intro (@vaV_ren) @vaL_ren))))))))) ?_
  refine goG Y24_E7 True.intro ?_
  refine wG Y24_E7 True.intro ?_
  refine AR.callSP [0, 1] q4 True.intro (And.intro ndV_id (And.intro ndLs_id (And.intro nlVs_id (And.intro nlV_id (And.intro (@exL_id) (And.intro (@exV_id) (And.intro sL_id (And.intro byL_id (And.intro plV_id (And.intro plVs_id (And.intro (@vaL_id) @vaV_id))))))))))) (And.intro ndV_ren (And.intro ndLs_ren (And.intro nlVs_ren (And.intro (@exV_ren) (And.intro (@exL_ren) (And.intro sL_ren (And.intro byL_ren (And.intro nb_ren (And.intro (@vaV_ren) @vaL_ren))))))))) ?_
  refine goG Y24_E7 True.intro ?_
  refine wG Y24_E7 True.intro ?_
  refine Fin.gen (rs := []) rfl (by first | exact .inl rfl | exact .inr rfl) (finG Y24_E7) ?_ rfl (idG (And.intro ndV_id (And.intro ndLs_id (And.intro nlVs_id (And.intro nlV_id (And.intro (@exL_id) (And.intro (@exV_id) (And.intro sL_id (And.intro byL_id (And.intro plV_id (And.intro plVs_id (And.intro (@vaL_id) @vaV_id))))))))))))
  all_goals exact wkG (And.intro ndV_id (And.intro ndLs_id (And.intro nlVs_id (And.intro nlV_id (And.intro (@exL_id) (And.intro (@exV_id) (And.intro sL_id (And.intro byL_id (And.intro plV_id (And.intro plVs_id (And.intro (@vaL_id) @vaV_id)))))))))))
end Go.Proofs.YtlbfgnpadggbgaaGreatDoor
