/- Walks: the text of a function; the example of the chapter. Walks: the example of the chapter. -/
import Derived.Test.YtlbfgnpadggbgaaGreatDoorHv
import Derived.Test.YtlbfgnpadggbgaaGreatDoorME
import Derived.Test.YtlbfgnpadggbgaaGreatDoorE8
namespace Go.Proofs.YtlbfgnpadggbgaaGreatDoor
set_option linter.unusedSimpArgs false
set_option linter.unusedVariables false
set_option linter.unnecessarySimpa false
open Go.RowKit
theorem PQ_ok : PQ % 1000000 = 55 ∧ PQ / 1000000 = 1 := by decide
theorem Y12_E9 : type_of% (And.intro @F_ag_40 (And.intro @F_ag_53 (And.intro @F_al_55 (And.intro @F_fl_55_0 (And.intro @F_st_55 (And.intro @F_sz_40 (@F_sz_53))))))) := And.intro @F_ag_40 (And.intro @F_ag_53 (And.intro @F_al_55 (And.intro @F_fl_55_0 (And.intro @F_st_55 (And.intro @F_sz_40 (@F_sz_53))))))
theorem c_PrintFunc0 (f : Fun) (T : Bs) (hT : T ≠ []) (hp : PC Tryz.prog 23 [fnV f] (.im (.bool (true)))) (hfun : DC Tryz.prog 24 [.pt 0 0, fnV f] [.box [.nb 0 PQ, .sl ((([] : Bs)).map byB) (.mine 1), (.im (.int .i64 (((0 : Nat) : Int))))], .tip 5 1 (([] : Bs)).length] (.tu []) [.box [.nb 0 PQ, .sl ((T).map byB) (.mine 1), (.im (.int .i64 (((0 : Nat) : Int))))], .tip 5 1 (T).length]) :
    PC Tryz.prog 12 [fnV f] (.im (.string ⟨(T).toArray⟩)) := by
  have hs := c_StringA ⟨T.toArray⟩ (.im (.int .i64 (((0 : Nat) : Int)))) (by rw [bS_size]; intro e; exact hT (List.length_eq_zero_iff.1 e))
  rw [byV_bS, bS_size] at hs
  rw [fnV_eq] at hp hfun ⊢
  refine PC.enter 16 Tryz.func12 rfl (by decide) rfl rfl (s := [(0, .ag [.im (.string f.name), .sl (f.vars.map vaV) .ro, .sl (f.body.map ndV) .ro])]) (by rfl) ?_
  refine wG Y12_E9 True.intro ?_
  refine AR.callP hp True.intro (And.intro ndV_id (And.intro ndLs_id (And.intro nlVs_id (And.intro nlV_id (And.intro (@exL_id) (And.intro (@exV_id) (And.intro sL_id (And.intro byL_id (And.intro plV_id (And.intro plVs_id (And.intro (@vaL_id) @vaV_id))))))))))) ?_
  refine goG Y12_E9 True.intro ?_
  repeat (with_reducible first | refine AWp.seq ?_ | refine AR.end ?_ | refine Thn.n ?_ | refine AWp.skip ?_)
  with_reducible apply AWp.condAF
  case ht => rfl
  case hc => rfl
  repeat (with_reducible first | refine AWp.seq ?_ | refine AR.end ?_ | refine Thn.n ?_ | refine AWp.skip ?_)
  refine AWp.region ?_
  refine AR.one rfl (by simp only [↓accU_f, ↓reduceIte, SA, SB, SC, SD, Y12_E9, valG, fpsG, evO, evB, evA, evA1, nilK, eqF, eqC, apOk, intOf, slB, slK,  gd, St.ev, putA, ofl, wrl, putE, V.ofVal, V.ofCell, bin2, un1, seg, fillV, partsOk, Value.oneCell', Nat.reduceBEq, Nat.reduceLT, Nat.reduceSub, Nat.reduceAdd, Nat.reduceMul, Nat.reduceLeDiff, Nat.reduceEqDiff, reduceCtorEq, Int.reduceLT, Int.reduceLE, Int.reduceEq, Int.reduceNe, Int.reduceBEq, Int.reduceBNe, Int.reduceAdd, Int.reduceSub, Int.reduceMul, Int.reduceToNat]; with_reducible exact rfl) (by simp only [↓accU_f, ↓reduceIte, SA, SB, SC, SD, Y12_E9, valG, fpsG, evO, evB, evA, evA1, nilK, eqF, eqC, apOk, intOf, slB, slK,  gd, St.ev, putA, ofl, wrl, putE, V.ofVal, V.ofCell, bin2, un1, seg, fillV, partsOk, Value.oneCell', Nat.reduceBEq, Nat.reduceLT, Nat.reduceSub, Nat.reduceAdd, Nat.reduceMul, Nat.reduceLeDiff, Nat.reduceEqDiff, reduceCtorEq, Int.reduceLT, Int.reduceLE, Int.reduceEq, Int.reduceNe, Int.reduceBEq, Int.reduceBNe, Int.reduceAdd, Int.reduceSub, Int.reduceMul, Int.reduceToNat]; with_reducible exact rfl) (by simp only [↓accU_f, ↓reduceIte, SA, SB, SC, SD, Y12_E9, valG, fpsG, evO, evB, evA, evA1, nilK, eqF, eqC, apOk, intOf, slB, slK,  gd, St.ev, putA, ofl, wrl, putE, V.ofVal, V.ofCell, bin2, un1, seg, fillV, partsOk, Value.oneCell', Nat.reduceBEq, Nat.reduceLT, Nat.reduceSub, Nat.reduceAdd, Nat.reduceMul, Nat.reduceLeDiff, Nat.reduceEqDiff, reduceCtorEq, Int.reduceLT, Int.reduceLE, Int.reduceEq, Int.reduceNe, Int.reduceBEq, Int.reduceBNe, Int.reduceAdd, Int.reduceSub, Int.reduceMul, Int.reduceToNat]; with_reducible exact rfl) ?_
  refine AR.boxC (q := PQ) PQ_ok rfl ?_
  refine goG Y12_E9 True.intro ?_
  repeat (with_reducible first | refine AWp.seq ?_ | refine AR.end ?_ | refine Thn.n ?_ | refine AWp.skip ?_)
  refine AWp.ghostB 1 1 [.nb 1 PQ, .sl [] .nl, (.im (.int .i64 (0)))] 5 1 ?_
  simp only [List.set_cons_succ, List.set_cons_zero, List.cons_append, List.nil_append, List.length_cons, List.length_nil, Nat.reduceAdd]
  rw [show (([] : Bs).map byB) = [] from rfl, show ([] : Bs).length = 0 from rfl, show ((0 : Nat) : Int) = 0 from rfl] at hfun
  rw [show ((0 : Nat) : Int) = 0 from rfl] at hs
  refine wG Y12_E9 True.intro ?_
  refine AR.callSP [1, 2] hfun True.intro (And.intro ndV_id (And.intro ndLs_id (And.intro nlVs_id (And.intro nlV_id (And.intro (@exL_id) (And.intro (@exV_id) (And.intro sL_id (And.intro byL_id (And.intro plV_id (And.intro plVs_id (And.intro (@vaL_id) @vaV_id))))))))))) (And.intro ndV_ren (And.intro ndLs_ren (And.intro nlVs_ren (And.intro (@exV_ren) (And.intro (@exL_ren) (And.intro sL_ren (And.intro byL_ren (And.intro nb_ren (And.intro (@vaV_ren) @vaL_ren))))))))) ?_
  refine goG Y12_E9 True.intro ?_
  refine wG Y12_E9 True.intro ?_
  refine AR.callSP [1, 2] hs True.intro (And.intro ndV_id (And.intro ndLs_id (And.intro nlVs_id (And.intro nlV_id (And.intro (@exL_id) (And.intro (@exV_id) (And.intro sL_id (And.intro byL_id (And.intro plV_id (And.intro plVs_id (And.intro (@vaL_id) @vaV_id))))))))))) (And.intro ndV_ren (And.intro ndLs_ren (And.intro nlVs_ren (And.intro (@exV_ren) (And.intro (@exL_ren) (And.intro sL_ren (And.intro byL_ren (And.intro nb_ren (And.intro (@vaV_ren) @vaL_ren))))))))) ?_
  refine goG Y12_E9 True.intro ?_
  refine wG Y12_E9 True.intro ?_
  refine Fin.gen0 (rs := [.tmp 2]) rfl (by first | exact .inl rfl | exact .inr rfl) (finG Y12_E9) ?_
  all_goals exact wkG (And.intro ndV_id (And.intro ndLs_id (And.intro nlVs_id (And.intro nlV_id (And.intro (@exL_id) (And.intro (@exV_id) (And.intro sL_id (And.intro byL_id (And.intro plV_id (And.intro plVs_id (And.intro (@vaL_id) @vaV_id)))))))))))
end Go.Proofs.YtlbfgnpadggbgaaGreatDoor
namespace Go.Proofs.YtlbfgnpadggbgaaGreatDoor
set_option linter.unusedSimpArgs false
set_option linter.unusedVariables false
set_option linter.unnecessarySimpa false
open Go.RowKit
def nmE (s : Bs) : Ex := .mk 2 0 ⟨s.toArray⟩ 0 []
def coE (n : Int) : Ex := .mk 1 n ByteArray.empty 0 []
def twE (o : Int) (a b : Ex) : Ex := .mk o 0 ByteArray.empty 0 [a, b]
def ngE (a : Ex) : Ex := .mk 17 0 ByteArray.empty 0 [a]
/-- The expression of the example: (r0 - 1) * 10 - -r1. -/
def x0E : Ex := twE 4 (twE 5 (twE 4 (nmE [114, 48]) (coE 1)) (coE 10)) (ngE (nmE [114, 49]))
/-- What the function of the example puts out: r0 + 1. -/
def x1E : Ex := twE 3 (nmE [114, 48]) (coE 1)
def n0 : Nd := .mk 4 0 ByteArray.empty [x1E] [] [] []
def f0 : Fun := ⟨⟨#[109, 97, 105, 110]⟩, [], [n0]⟩
def x0T : Bs := [40, 114, 48, 32, 45, 32, 49, 41, 32, 42, 32, 48, 120, 97, 32, 45, 32, 45, 114, 49]
def f0T : Bs := [102, 117, 110, 99, 32, 109, 97, 105, 110, 32, 123, 10, 32, 32, 111, 117, 116, 32, 114, 48, 32, 43, 32, 49, 59, 10, 125, 10]
theorem x0_fit : fitE x0E := by unfold fitE; kernel_rfl
theorem x0_text : prE x0E = x0T := by decide +kernel
theorem c_x0 : PC Tryz.prog 8 [exV x0E] (.im (.string ⟨(x0T).toArray⟩)) := by
  have h := c_PrintExpr x0E x0_fit (by rw [x0_text]; decide)
  rwa [x0_text] at h
theorem n0_fit : fitN n0 := by unfold fitN; kernel_rfl
theorem f0_fit : fitNL f0.body := ⟨by decide, fun t ht => by
  obtain rfl : t = n0 := List.mem_singleton.1 ht
  exact n0_fit⟩
theorem n0_st : stT n0 = true := by decide +kernel
theorem f0_prt : PC Tryz.prog 23 [fnV f0] (.im (.bool (true))) := by
  refine c_printable0 f0 rfl (by decide +kernel) (by decide) f0_fit (by decide +kernel) (by decide +kernel) fun p hp => ?_
  obtain rfl : p = (n0, false) := by
    have : allL f0.body false = [(n0, false)] := rfl
    rw [this] at hp
    exact List.mem_singleton.1 hp
  exact ⟨n0_fit, n0_st, fun x hx => by
    obtain rfl : x = x1E := List.mem_singleton.1 hx
    decide +kernel⟩
def f0a : Bs := [102, 117, 110, 99, 32, 109, 97, 105, 110, 32, 123, 10]
def f0b : Bs := [102, 117, 110, 99, 32, 109, 97, 105, 110, 32, 123, 10, 32, 32, 111, 117, 116, 32, 114, 48, 32, 43, 32, 49, 59, 10]
theorem f0_ls : f0a ++ lsT f0.body (0 + 1) = f0b := by decide +kernel
theorem c_f0 : PC Tryz.prog 12 [fnV f0] (.im (.string ⟨(f0T).toArray⟩)) := by
  refine c_PrintFunc0 f0 f0T (by decide) f0_prt ?_
  have hn := c_nested f0.body 0 f0a (by decide) (by decide) (by rw [f0_ls]; decide) fun t ht c hc => by
    obtain rfl : t = n0 := List.mem_singleton.1 ht
    exact c_stmtD n0 (0 + 1) c n0_fit n0_st (by decide) (by decide) (by decide) (by decide) hc
  rw [f0_ls] at hn
  exact c_function f0 0 (by decide) [] f0a f0a f0b f0T (by decide +kernel) (by decide) (c_vars0 (0 + 1) f0a) hn (by decide +kernel) (by decide)
theorem Y11_EA : type_of% (And.intro @F_ag_25 (And.intro @F_al_25 (And.intro @F_st_25 (@F_sz_25)))) := And.intro @F_ag_25 (And.intro @F_al_25 (And.intro @F_st_25 (@F_sz_25)))
theorem c_nm (s : ByteArray) : PC Tryz.prog 11 [.im (.string s)] (exV (.mk 2 0 s 0 [])) := by
  refine PC.enter 5 Tryz.func11 rfl (by decide) rfl rfl (s := [(0, .im (.string s))]) (by rfl) ?_
  refine wG Y11_EA True.intro ?_
  refine Fin.gen0 (rs := [.cell 2 25]) rfl (by first | exact .inl rfl | exact .inr rfl) (finG Y11_EA) ?_
  simp only [exV_mk, List.map_nil]
  all_goals exact wkG (And.intro ndV_id (And.intro ndLs_id (And.intro nlVs_id (And.intro nlV_id (And.intro (@exL_id) (And.intro (@exV_id) (And.intro sL_id (And.intro byL_id (And.intro plV_id (And.intro plVs_id (And.intro (@vaL_id) @vaV_id)))))))))))
theorem Y10_EA : type_of% (And.intro @F_ag_25 (And.intro @F_al_25 (And.intro @F_el_23 (And.intro @F_st_25 (@F_sz_25))))) := And.intro @F_ag_25 (And.intro @F_al_25 (And.intro @F_el_23 (And.intro @F_st_25 (@F_sz_25))))
theorem c_two (o : Int) (a b : Ex) : PC Tryz.prog 10 [(.im (.int .i64 (o))), exV a, exV b] (exV (twE o a b)) := by
  unfold twE
  refine PC.enter 12 Tryz.func10 rfl (by decide) rfl rfl (s := [(0, (.im (.int .i64 (o)))), (1, exV a), (2, exV b)]) (by rfl) ?_
  refine wG Y10_EA EX ?_
  refine Fin.gen0 (rs := [.cell 6 25]) rfl (by first | exact .inl rfl | exact .inr rfl) (finG Y10_EA) ?_
  simp only [exV_mk, List.map_nil, List.map_cons, exV_eq a, exV_eq b]
  all_goals exact wkG (And.intro ndV_id (And.intro ndLs_id (And.intro nlVs_id (And.intro nlV_id (And.intro (@exL_id) (And.intro (@exV_id) (And.intro sL_id (And.intro byL_id (And.intro plV_id (And.intro plVs_id (And.intro (@vaL_id) @vaV_id)))))))))))
theorem Y5_EA : type_of% (And.intro @F_ag_25 (And.intro @F_ag_40 (And.intro @F_al_25 (And.intro @F_al_38 (And.intro @F_al_40 (And.intro @F_el_23 (And.intro @F_el_26 (And.intro @F_el_35 (And.intro @F_st_25 (And.intro @F_st_38 (And.intro @F_st_40 (And.intro @F_sz_25 (And.intro @F_sz_38 (And.intro @F_sz_40 (@F_sz_66))))))))))))))) := And.intro @F_ag_25 (And.intro @F_ag_40 (And.intro @F_al_25 (And.intro @F_al_38 (And.intro @F_al_40 (And.intro @F_el_23 (And.intro @F_el_26 (And.intro @F_el_35 (And.intro @F_st_25 (And.intro @F_st_38 (And.intro @F_st_40 (And.intro @F_sz_25 (And.intro @F_sz_38 (And.intro @F_sz_40 (@F_sz_66))))))))))))))
theorem c_ex38 : PC Tryz.prog 5 [] (.im (.bool (true))) := by
  have qa := c_nm ⟨#[114, 48]⟩
  have qb := c_two 4 (nmE [114, 48]) (coE 1)
  have qc := c_two 5 (twE 4 (nmE [114, 48]) (coE 1)) (coE 10)
  have qd := c_nm ⟨#[114, 49]⟩
  have qe := c_two 4 (twE 5 (twE 4 (nmE [114, 48]) (coE 1)) (coE 10)) (ngE (nmE [114, 49]))
  have qf := c_two 3 (nmE [114, 48]) (coE 1)
  have qx := c_x0
  have qy := c_f0
  have qg := c_Globals
  have hx2 : (x0T == [40, 114, 48, 32, 45, 32, 49, 41, 32, 42, 32, 48, 120, 97, 32, 45, 32, 45, 114, 49]) = true := rfl
  have hy2 : (f0T == [102, 117, 110, 99, 32, 109, 97, 105, 110, 32, 123, 10, 32, 32, 111, 117, 116, 32, 114, 48, 32, 43, 32, 49, 59, 10, 125, 10]) = true := rfl
  have hg : (gbN.map gbV).length = 12 := rfl
  generalize gbN.map gbV = G at qg hg
  have hx : f0 = ⟨⟨#[109, 97, 105, 110]⟩, [], [.mk 4 0 ByteArray.empty [x1E] [] [] []]⟩ := rfl
  rw [hx] at qy
  clear hx
  unfold x0E at qx
  unfold x1E at qy
  rw [show Ex.mk 2 0 ⟨#[114, 48]⟩ 0 [] = nmE [114, 48] from rfl] at qa
  rw [show Ex.mk 2 0 ⟨#[114, 49]⟩ 0 [] = nmE [114, 49] from rfl] at qd
  generalize nmE [114, 48] = e1 at *
  generalize nmE [114, 49] = e2 at *
  generalize twE 4 e1 (coE 1) = t1 at *
  generalize twE 5 t1 (coE 10) = t2 at *
  generalize twE 4 t2 (ngE e2) = t3 at *
  generalize twE 3 e1 (coE 1) = t4 at *
  unfold coE at qb qc qf
  unfold ngE at qe
  simp only [exV_mk, List.map_nil, List.map_cons] at qb qc qe qf
  rw [fnV_eq] at qy
  simp only [List.map_nil, List.map_cons, ndV_mk] at qy
  refine PC.enter 32 Tryz.func5 rfl (by decide) rfl rfl (s := []) (by rfl) ?_
  refine wG Y5_EA EX ?_
  refine AR.callP qa True.intro (And.intro ndV_id (And.intro ndLs_id (And.intro nlVs_id (And.intro nlV_id (And.intro (@exL_id) (And.intro (@exV_id) (And.intro sL_id (And.intro byL_id (And.intro plV_id (And.intro plVs_id (And.intro (@vaL_id) @vaV_id))))))))))) ?_
  refine goG Y5_EA EX ?_
  refine AR.callW qb @exV_eq (And.intro ndV_id (And.intro ndLs_id (And.intro nlVs_id (And.intro nlV_id (And.intro (@exL_id) (And.intro (@exV_id) (And.intro sL_id (And.intro byL_id (And.intro plV_id (And.intro plVs_id (And.intro (@vaL_id) @vaV_id))))))))))) ?_
  refine goG Y5_EA EX ?_
  refine AR.callW qc @exV_eq (And.intro ndV_id (And.intro ndLs_id (And.intro nlVs_id (And.intro nlV_id (And.intro (@exL_id) (And.intro (@exV_id) (And.intro sL_id (And.intro byL_id (And.intro plV_id (And.intro plVs_id (And.intro (@vaL_id) @vaV_id))))))))))) ?_
  refine goG Y5_EA EX ?_
  refine AR.callP qd True.intro (And.intro ndV_id (And.intro ndLs_id (And.intro nlVs_id (And.intro nlV_id (And.intro (@exL_id) (And.intro (@exV_id) (And.intro sL_id (And.intro byL_id (And.intro plV_id (And.intro plVs_id (And.intro (@vaL_id) @vaV_id))))))))))) ?_
  refine goG Y5_EA EX ?_
  refine AR.callW qe @exV_eq (And.intro ndV_id (And.intro ndLs_id (And.intro nlVs_id (And.intro nlV_id (And.intro (@exL_id) (And.intro (@exV_id) (And.intro sL_id (And.intro byL_id (And.intro plV_id (And.intro plVs_id (And.intro (@vaL_id) @vaV_id))))))))))) ?_
  refine goG Y5_EA EX ?_
  refine wG Y5_EA EX ?_
  refine AR.callP qa True.intro (And.intro ndV_id (And.intro ndLs_id (And.intro nlVs_id (And.intro nlV_id (And.intro (@exL_id) (And.intro (@exV_id) (And.intro sL_id (And.intro byL_id (And.intro plV_id (And.intro plVs_id (And.intro (@vaL_id) @vaV_id))))))))))) ?_
  refine goG Y5_EA EX ?_
  refine AR.callW qf @exV_eq (And.intro ndV_id (And.intro ndLs_id (And.intro nlVs_id (And.intro nlV_id (And.intro (@exL_id) (And.intro (@exV_id) (And.intro sL_id (And.intro byL_id (And.intro plV_id (And.intro plVs_id (And.intro (@vaL_id) @vaV_id))))))))))) ?_
  refine goG Y5_EA EX ?_
  refine wG Y5_EA EX ?_
  refine AR.callP qx @exV_eq (And.intro ndV_id (And.intro ndLs_id (And.intro nlVs_id (And.intro nlV_id (And.intro (@exL_id) (And.intro (@exV_id) (And.intro sL_id (And.intro byL_id (And.intro plV_id (And.intro plVs_id (And.intro (@vaL_id) @vaV_id))))))))))) ?_
  refine goG Y5_EA (And.intro BY (And.intro EX hx2)) ?_
  refine AR.callW qy @exV_eq (And.intro ndV_id (And.intro ndLs_id (And.intro nlVs_id (And.intro nlV_id (And.intro (@exL_id) (And.intro (@exV_id) (And.intro sL_id (And.intro byL_id (And.intro plV_id (And.intro plVs_id (And.intro (@vaL_id) @vaV_id))))))))))) ?_
  refine goG Y5_EA (And.intro BY hy2) ?_
  refine AR.callP qg True.intro (And.intro ndV_id (And.intro ndLs_id (And.intro nlVs_id (And.intro nlV_id (And.intro (@exL_id) (And.intro (@exV_id) (And.intro sL_id (And.intro byL_id (And.intro plV_id (And.intro plVs_id (And.intro (@vaL_id) @vaV_id))))))))))) ?_
  refine goG Y5_EA (And.intro (@List.length_map.{0, 0}) hg) ?_
  refine wG Y5_EA True.intro ?_
  exact Fin.oneP
end Go.Proofs.YtlbfgnpadggbgaaGreatDoor
