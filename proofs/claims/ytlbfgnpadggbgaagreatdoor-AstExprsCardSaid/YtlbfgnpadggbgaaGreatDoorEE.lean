/- Walks: the text of an expression, the reference. -/
import Derived.Test.YtlbfgnpadggbgaaGreatDoorHv
import Derived.Test.YtlbfgnpadggbgaaGreatDoorE2
import Derived.Test.YtlbfgnpadggbgaaGreatDoorBI
namespace Go.Proofs.YtlbfgnpadggbgaaGreatDoor
set_option linter.unusedSimpArgs false
set_option linter.unusedVariables false
set_option linter.unnecessarySimpa false
open Go.RowKit
theorem dig_hexR {n : Nat} (h : n < 16) : (([48, 49, 50, 51, 52, 53, 54, 55, 56, 57, 97, 98, 99, 100, 101, 102] : Bs).drop n).take 1 = [hexD n] := by
  have : ∀ n < 16, (([48, 49, 50, 51, 52, 53, 54, 55, 56, 57, 97, 98, 99, 100, 101, 102] : Bs).drop n).take 1 = [hexD n] := by decide
  exact this n h
theorem Y65_EE : type_of% (@F_un_9) := @F_un_9
theorem c_digitR (n : Nat) (hn : n < 16) : PC Tryz.prog 65 [.im (.int .u32 ((n : Int)))] (.im (.string ⟨([hexD n]).toArray⟩)) := by
  have hd := dig_hexR hn
  have wr : IntKind.u32.wrap ((n : Int) + 1) = ((n + 1 : Nat) : Int) := by rw [IntWalk.u32_in _ (by omega)]; omega
  have le1 : (n : Int) ≤ ((n + 1 : Nat) : Int) := by omega
  have le2 : ((n + 1 : Nat) : Int) ≤ 16 := by omega
  have sb : n + 1 - n = 1 := by omega
  refine PC.enter 7 Tryz.func65 rfl (by decide) rfl rfl (s := [(0, .im (.int .u32 ((n : Int))))]) (by rfl) ?_
  refine wG Y65_EE (And.intro BY (And.intro GDS (And.intro wr (And.intro le1 (And.intro le2 (And.intro sb hd)))))) ?_
  exact Fin.oneP
theorem Y43_EE : type_of% (And.intro @F_al_5 (And.intro @F_el_51 (And.intro @F_in_3 (And.intro @F_in_5 (And.intro @F_in_51 (And.intro @F_in_9 (And.intro @F_sz_5 (And.intro @F_un_3 (And.intro @F_un_5 (And.intro @F_un_51 (@F_un_9))))))))))) := And.intro @F_al_5 (And.intro @F_el_51 (And.intro @F_in_3 (And.intro @F_in_5 (And.intro @F_in_51 (And.intro @F_in_9 (And.intro @F_sz_5 (And.intro @F_un_3 (And.intro @F_un_5 (And.intro @F_un_51 (@F_un_9))))))))))
theorem c_decR (n : Nat) (hn : n ≤ 9) : PC Tryz.prog 43 [(.im (.int .i64 ((n : Int))))] (.im (.string ⟨([hexD n]).toArray⟩)) := by
  have h1 : ¬ (n : Int) ≥ 10 := by omega
  have hw : IntKind.u8.wrap (48 + (n : Int)) = ((hexD n).toNat : Int) := by
    have : ∀ n < 10, IntKind.u8.wrap (48 + ((n : Nat) : Int)) = ((hexD n).toNat : Int) := by decide
    exact this n (by omega)
  have hw0 : IntKind.i64.wrap (48 + (n : Int)) = 48 + (n : Int) := wrap_in (by omega)
  have hb : bytesOf [V.im (.int .u8 ((hexD n).toNat : Int))] = some [hexD n] := bytesOf_map [hexD n]
  have hap : ByteArray.mk #[hexD n] ++ ByteArray.mk #[] = ByteArray.mk #[hexD n] := bS_append [hexD n] []
  refine PC.enter 23 Tryz.func43 rfl (by decide) rfl rfl (s := [(0, (.im (.int .i64 ((n : Int)))))]) (by rfl) ?_
  refine wG Y43_EE True.intro ?_
  refine AWp.loop ?_
  refine ALp.round ?_
  refine wG Y43_EE (And.intro BY (And.intro h1 (And.intro hw (And.intro hw0 (And.intro hb hap))))) ?_
  exact Fin.oneP

theorem c_hexR (n : Nat) (hn : n < 4294967296) : PC Tryz.prog 44 [.im (.int .u32 ((n : Int)))] (.im (.string ⟨(48 :: 120 :: hexS n).toArray⟩)) := by
  have q1 := c_digitR (n % 16) (by omega)
  have hlen : (hexS n).length ≤ 8 := by
    have := hexG_len 7 (n + 1) n (by omega) (by omega)
    unfold hexS
    omega
  have tm0 : (n : Int).tmod 16 = ((n % 16 : Nat) : Int) := by rw [Int.tmod_eq_emod_of_nonneg (by omega)]; omega
  refine PC.enter 18 Tryz.func44 rfl (by decide) rfl rfl (s := [(0, .im (.int .u32 ((n : Int))))]) (by rfl) ?_
  refine wG True.intro tm0 ?_
  refine AR.callP q1 True.intro (And.intro byL_id (And.intro (@exL_id) (And.intro (@exV_id) sL_id))) ?_
  refine goG True.intro True.intro ?_
  refine wG True.intro True.intro ?_
  refine AWp.loop ?_
  suffices H : ∀ (f m : Nat) (s : Bs), m < f → m < 4294967296 → hexS n = (if m < 16 then [] else hexS (m / 16)) ++ s → ALp _ _ _ _ _ ⟨dn 18 [(0, .im (.int .u32 (((m : Nat) : Int)))), (3, .im (.string ⟨(s).toArray⟩))], ofl []⟩ by
    refine ALp.cutP 0 [(0, .im (.int .u32 (((n : Nat) : Int)))), (3, .im (.string ⟨([hexD (n % 16)]).toArray⟩))] [] (And.intro byL_id (And.intro (@exL_id) (And.intro (@exV_id) sL_id))) ?_
    refine H (n + 1) n _ (by omega) hn ?_
    by_cases h16 : n < 16
    · rw [if_pos h16, hexS_lt h16, Nat.mod_eq_of_lt h16]; rfl
    · rw [if_neg h16, hexS_ge h16]
  intro f
  induction f with
  | zero => intro m s h; omega
  | succ f ih =>
  intro m s hf hm hx
  refine ALp.round ?_
  by_cases h16 : m < 16
  · have e1 : ¬ (m : Int) ≥ 16 := by omega
    rw [if_pos h16, List.nil_append] at hx
    rw [hx]
    rw [hx] at hlen
    have hsz : 2 + s.length ≤ 9223372036854775807 := by omega
    have hap : ByteArray.mk #[48, 120] ++ ByteArray.mk s.toArray = ByteArray.mk (48 :: 120 :: s).toArray := bS_append [48, 120] s
    clear ih
    refine wG True.intro (And.intro BY (And.intro e1 (And.intro hap hsz))) ?_
    exact Fin.oneP
  · have e1 : (m : Int) ≥ 16 := by omega
    rw [if_neg h16] at hx
    have hx2 : hexS n = (if m / 16 < 16 then [] else hexS (m / 16 / 16)) ++ (hexD (m / 16 % 16) :: s) := by
      rw [hx]
      by_cases h2 : m / 16 < 16
      · rw [if_pos h2, hexS_lt h2, Nat.mod_eq_of_lt h2]; rfl
      · rw [if_neg h2, hexS_ge h2, List.append_assoc]; rfl
    have hI := ih (m / 16) (hexD (m / 16 % 16) :: s) (by omega) (by omega) hx2
    rw [hx2] at hlen
    simp only [List.length_append, List.length_cons] at hlen
    have q2 := c_digitR (m / 16 % 16) (by omega)
    have td : (m : Int).tdiv 16 = ((m / 16 : Nat) : Int) := by rw [Int.tdiv_eq_ediv_of_nonneg (by omega)]; omega
    have wd : IntKind.u32.wrap ((m / 16 : Nat) : Int) = ((m / 16 : Nat) : Int) := IntWalk.u32_in _ (by omega)
    have tm : ((m / 16 : Nat) : Int).tmod 16 = ((m / 16 % 16 : Nat) : Int) := by rw [Int.tmod_eq_emod_of_nonneg (by omega)]; omega
    have hap : ByteArray.mk [hexD (m / 16 % 16)].toArray ++ ByteArray.mk s.toArray = ByteArray.mk (hexD (m / 16 % 16) :: s).toArray := bS_append [hexD (m / 16 % 16)] s
    have hsz : 1 + s.length ≤ 9223372036854775807 := by omega
    clear ih hx hx2
    refine wG True.intro (And.intro e1 (And.intro td (And.intro wd tm))) ?_
    refine AR.callP q2 True.intro (And.intro byL_id (And.intro (@exL_id) (And.intro (@exV_id) sL_id))) ?_
    refine goG True.intro (And.intro BY (And.intro hap hsz)) ?_
    refine wG True.intro True.intro ?_
    refine ALp.cutP 0 [(0, .im (.int .u32 (((m / 16 : Nat) : Int)))), (3, .im (.string ⟨(hexD (m / 16 % 16) :: s).toArray⟩))] [] (And.intro byL_id (And.intro (@exL_id) (And.intro (@exV_id) sL_id))) ?_
    exact hI

theorem c_symbolR3 : PC Tryz.prog 46 [(.im (.int .i64 (3)))] (.tu [.im (.string ⟨([43]).toArray⟩), (.im (.int .i64 (7)))]) := by
  refine PC.enter 29 Tryz.func46 rfl (by decide) rfl rfl (s := [(0, (.im (.int .i64 (3))))]) (by rfl) ?_
  refine wG True.intro True.intro ?_
  refine Fin.gen0 (rs := [.tmp 2, .tmp 3]) rfl (by first | exact .inl rfl | exact .inr rfl) (finG True.intro) ?_
  all_goals exact wkG (And.intro byL_id (And.intro (@exL_id) (And.intro (@exV_id) sL_id)))
theorem c_symbolR4 : PC Tryz.prog 46 [(.im (.int .i64 (4)))] (.tu [.im (.string ⟨([45]).toArray⟩), (.im (.int .i64 (7)))]) := by
  refine PC.enter 29 Tryz.func46 rfl (by decide) rfl rfl (s := [(0, (.im (.int .i64 (4))))]) (by rfl) ?_
  refine wG True.intro True.intro ?_
  refine Fin.gen0 (rs := [.tmp 2, .tmp 3]) rfl (by first | exact .inl rfl | exact .inr rfl) (finG True.intro) ?_
  all_goals exact wkG (And.intro byL_id (And.intro (@exL_id) (And.intro (@exV_id) sL_id)))
theorem c_symbolR5 : PC Tryz.prog 46 [(.im (.int .i64 (5)))] (.tu [.im (.string ⟨([42]).toArray⟩), (.im (.int .i64 (8)))]) := by
  refine PC.enter 29 Tryz.func46 rfl (by decide) rfl rfl (s := [(0, (.im (.int .i64 (5))))]) (by rfl) ?_
  refine wG True.intro True.intro ?_
  refine Fin.gen0 (rs := [.tmp 2, .tmp 3]) rfl (by first | exact .inl rfl | exact .inr rfl) (finG True.intro) ?_
  all_goals exact wkG (And.intro byL_id (And.intro (@exL_id) (And.intro (@exV_id) sL_id)))
theorem c_symbolR6 : PC Tryz.prog 46 [(.im (.int .i64 (6)))] (.tu [.im (.string ⟨([38]).toArray⟩), (.im (.int .i64 (3)))]) := by
  refine PC.enter 29 Tryz.func46 rfl (by decide) rfl rfl (s := [(0, (.im (.int .i64 (6))))]) (by rfl) ?_
  refine wG True.intro True.intro ?_
  refine Fin.gen0 (rs := [.tmp 2, .tmp 3]) rfl (by first | exact .inl rfl | exact .inr rfl) (finG True.intro) ?_
  all_goals exact wkG (And.intro byL_id (And.intro (@exL_id) (And.intro (@exV_id) sL_id)))
theorem c_symbolR7 : PC Tryz.prog 46 [(.im (.int .i64 (7)))] (.tu [.im (.string ⟨([124]).toArray⟩), (.im (.int .i64 (1)))]) := by
  refine PC.enter 29 Tryz.func46 rfl (by decide) rfl rfl (s := [(0, (.im (.int .i64 (7))))]) (by rfl) ?_
  refine wG True.intro True.intro ?_
  refine Fin.gen0 (rs := [.tmp 2, .tmp 3]) rfl (by first | exact .inl rfl | exact .inr rfl) (finG True.intro) ?_
  all_goals exact wkG (And.intro byL_id (And.intro (@exL_id) (And.intro (@exV_id) sL_id)))
theorem c_symbolR8 : PC Tryz.prog 46 [(.im (.int .i64 (8)))] (.tu [.im (.string ⟨([94]).toArray⟩), (.im (.int .i64 (2)))]) := by
  refine PC.enter 29 Tryz.func46 rfl (by decide) rfl rfl (s := [(0, (.im (.int .i64 (8))))]) (by rfl) ?_
  refine wG True.intro True.intro ?_
  refine Fin.gen0 (rs := [.tmp 2, .tmp 3]) rfl (by first | exact .inl rfl | exact .inr rfl) (finG True.intro) ?_
  all_goals exact wkG (And.intro byL_id (And.intro (@exL_id) (And.intro (@exV_id) sL_id)))
theorem c_symbolR9 : PC Tryz.prog 46 [(.im (.int .i64 (9)))] (.tu [.im (.string ⟨([60, 60]).toArray⟩), (.im (.int .i64 (6)))]) := by
  refine PC.enter 29 Tryz.func46 rfl (by decide) rfl rfl (s := [(0, (.im (.int .i64 (9))))]) (by rfl) ?_
  refine wG True.intro True.intro ?_
  refine Fin.gen0 (rs := [.tmp 2, .tmp 3]) rfl (by first | exact .inl rfl | exact .inr rfl) (finG True.intro) ?_
  all_goals exact wkG (And.intro byL_id (And.intro (@exL_id) (And.intro (@exV_id) sL_id)))
theorem c_symbolR10 : PC Tryz.prog 46 [(.im (.int .i64 (10)))] (.tu [.im (.string ⟨([62, 62]).toArray⟩), (.im (.int .i64 (6)))]) := by
  refine PC.enter 29 Tryz.func46 rfl (by decide) rfl rfl (s := [(0, (.im (.int .i64 (10))))]) (by rfl) ?_
  refine wG True.intro True.intro ?_
  refine Fin.gen0 (rs := [.tmp 2, .tmp 3]) rfl (by first | exact .inl rfl | exact .inr rfl) (finG True.intro) ?_
  all_goals exact wkG (And.intro byL_id (And.intro (@exL_id) (And.intro (@exV_id) sL_id)))
theorem c_symbolR11 : PC Tryz.prog 46 [(.im (.int .i64 (11)))] (.tu [.im (.string ⟨([62, 62, 115]).toArray⟩), (.im (.int .i64 (6)))]) := by
  refine PC.enter 29 Tryz.func46 rfl (by decide) rfl rfl (s := [(0, (.im (.int .i64 (11))))]) (by rfl) ?_
  refine wG True.intro True.intro ?_
  refine Fin.gen0 (rs := [.tmp 2, .tmp 3]) rfl (by first | exact .inl rfl | exact .inr rfl) (finG True.intro) ?_
  all_goals exact wkG (And.intro byL_id (And.intro (@exL_id) (And.intro (@exV_id) sL_id)))
theorem c_symbolR12 : PC Tryz.prog 46 [(.im (.int .i64 (12)))] (.tu [.im (.string ⟨([61, 61]).toArray⟩), (.im (.int .i64 (4)))]) := by
  refine PC.enter 29 Tryz.func46 rfl (by decide) rfl rfl (s := [(0, (.im (.int .i64 (12))))]) (by rfl) ?_
  refine wG True.intro True.intro ?_
  refine Fin.gen0 (rs := [.tmp 2, .tmp 3]) rfl (by first | exact .inl rfl | exact .inr rfl) (finG True.intro) ?_
  all_goals exact wkG (And.intro byL_id (And.intro (@exL_id) (And.intro (@exV_id) sL_id)))
theorem c_symbolR13 : PC Tryz.prog 46 [(.im (.int .i64 (13)))] (.tu [.im (.string ⟨([33, 61]).toArray⟩), (.im (.int .i64 (4)))]) := by
  refine PC.enter 29 Tryz.func46 rfl (by decide) rfl rfl (s := [(0, (.im (.int .i64 (13))))]) (by rfl) ?_
  refine wG True.intro True.intro ?_
  refine Fin.gen0 (rs := [.tmp 2, .tmp 3]) rfl (by first | exact .inl rfl | exact .inr rfl) (finG True.intro) ?_
  all_goals exact wkG (And.intro byL_id (And.intro (@exL_id) (And.intro (@exV_id) sL_id)))
theorem c_symbolR14 : PC Tryz.prog 46 [(.im (.int .i64 (14)))] (.tu [.im (.string ⟨([60, 115]).toArray⟩), (.im (.int .i64 (5)))]) := by
  refine PC.enter 29 Tryz.func46 rfl (by decide) rfl rfl (s := [(0, (.im (.int .i64 (14))))]) (by rfl) ?_
  refine wG True.intro True.intro ?_
  refine Fin.gen0 (rs := [.tmp 2, .tmp 3]) rfl (by first | exact .inl rfl | exact .inr rfl) (finG True.intro) ?_
  all_goals exact wkG (And.intro byL_id (And.intro (@exL_id) (And.intro (@exV_id) sL_id)))
theorem c_symbolR15 : PC Tryz.prog 46 [(.im (.int .i64 (15)))] (.tu [.im (.string ⟨([60]).toArray⟩), (.im (.int .i64 (5)))]) := by
  refine PC.enter 29 Tryz.func46 rfl (by decide) rfl rfl (s := [(0, (.im (.int .i64 (15))))]) (by rfl) ?_
  refine wG True.intro True.intro ?_
  refine Fin.gen0 (rs := [.tmp 2, .tmp 3]) rfl (by first | exact .inl rfl | exact .inr rfl) (finG True.intro) ?_
  all_goals exact wkG (And.intro byL_id (And.intro (@exL_id) (And.intro (@exV_id) sL_id)))
theorem c_symbolR (o : Int) (ho : 3 ≤ o ∧ o ≤ 15) : PC Tryz.prog 46 [(.im (.int .i64 (o)))] (.tu [.im (.string ⟨(symB o).toArray⟩), (.im (.int .i64 ((stO o : Int))))]) := by
  have : o = 3 ∨ o = 4 ∨ o = 5 ∨ o = 6 ∨ o = 7 ∨ o = 8 ∨ o = 9 ∨ o = 10 ∨ o = 11 ∨ o = 12 ∨ o = 13 ∨ o = 14 ∨ o = 15 := by omega
  rcases this with rfl | rfl | rfl | rfl | rfl | rfl | rfl | rfl | rfl | rfl | rfl | rfl | rfl
  · exact c_symbolR3
  · exact c_symbolR4
  · exact c_symbolR5
  · exact c_symbolR6
  · exact c_symbolR7
  · exact c_symbolR8
  · exact c_symbolR9
  · exact c_symbolR10
  · exact c_symbolR11
  · exact c_symbolR12
  · exact c_symbolR13
  · exact c_symbolR14
  · exact c_symbolR15
theorem Y66_EE : type_of% (And.intro @F_ag_3 (And.intro @F_fl_25_0 (@F_sz_3))) := And.intro @F_ag_3 (And.intro @F_fl_25_0 (@F_sz_3))
theorem c_strengthR (o n : Int) (s : ByteArray) (w : Int) (l : List Ex) : PC Tryz.prog 66 [exV (.mk o n s w l)] (.im (.int .i64 ((strE o : Int)))) := by
  refine PC.enter 28 Tryz.func66 rfl (by decide) rfl rfl (s := [(0, exV (.mk o n s w l))]) (by rfl) ?_
  simp only [exV_mk]
  by_cases h1 : 3 ≤ o ∧ o ≤ 15
  · have q := c_symbolR o h1
    have e1 : o ≥ 3 := h1.1
    have e2 : o ≤ 15 := h1.2
    rw [show strE o = stO o from if_pos h1]
    refine wG Y66_EE (And.intro e1 e2) ?_
    refine AR.callP q True.intro (And.intro byL_id (And.intro (@exL_id) (And.intro (@exV_id) sL_id))) ?_
    refine goG Y66_EE True.intro ?_
    refine wG Y66_EE True.intro ?_
    exact Fin.oneP
  have hs : strE o = if o = 16 ∨ o = 17 then 9 else 10 := if_neg h1
  have hb : (decide (o ≥ 3) && decide (o ≤ 15)) = false := by simp; omega
  rw [hs]
  by_cases h3 : o = 16
  · subst h3
    refine wG Y66_EE True.intro ?_
    exact Fin.oneP
  by_cases h4 : o = 17
  · subst h4
    refine wG Y66_EE True.intro ?_
    exact Fin.oneP
  rw [if_neg (by omega)]
  by_cases e1 : o ≥ 3
  · have e2 : ¬ o ≤ 15 := by omega
    refine wG Y66_EE (And.intro e1 (And.intro e2 (And.intro h3 h4))) ?_
    exact Fin.oneP
  · refine wG Y66_EE (And.intro e1 (And.intro h3 h4)) ?_
    exact Fin.oneP
theorem Y45_EE : type_of% (And.intro @F_ag_25 (@F_sz_25)) := And.intro @F_ag_25 (@F_sz_25)
theorem c_operandR (e : Ex) (need : Nat) (hn : need ≤ 10) (hlen : (opdT e.op (txE e) need).length ≤ 140737488355328) (q : PC Tryz.prog 22 [exV e] (.im (.string ⟨(txE e).toArray⟩))) : PC Tryz.prog 45 [exV e, (.im (.int .i64 ((need : Int))))] (.im (.string ⟨(opdT e.op (txE e) need).toArray⟩)) := by
  have qs : PC Tryz.prog 66 [exV e] (.im (.int .i64 ((strE e.op : Int)))) := by
    obtain ⟨o, n, s, w, l⟩ := e
    exact c_strengthR o n s w l
  by_cases h : strE e.op < need
  · have h1 : (strE e.op : Int) < (need : Int) := by omega
    have he : opdT e.op (txE e) need = 40 :: (txE e ++ [41]) := if_pos h
    rw [he] at hlen ⊢
    generalize txE e = s at hlen q ⊢
    simp only [List.length_cons, List.length_append, List.length_nil] at hlen
    have a1 : ByteArray.mk #[40] ++ ByteArray.mk s.toArray = ByteArray.mk (40 :: s).toArray := bS_append [40] s
    have a2 : ByteArray.mk (40 :: s).toArray ++ ByteArray.mk #[41] = ByteArray.mk (40 :: (s ++ [41])).toArray := bS_append (40 :: s) [41]
    have l1 : 1 + s.length ≤ 9223372036854775807 := by omega
    have l2 : s.length + 1 + 1 ≤ 9223372036854775807 := by omega
    refine PC.enter 15 Tryz.func45 rfl (by decide) rfl rfl (s := [(0, exV e), (1, (.im (.int .i64 ((need : Int)))))]) (by rfl) ?_
    refine wG Y45_EE (And.intro (@exV_firm) (And.intro (@exV_strip) (And.intro (@exV_live) (And.intro (@exV_size) (And.intro (@exV_isAg) (And.intro (@exV_cells) (And.intro (@List.getElem?_map.{0, 0}) @Int.natCast_nonneg))))))) ?_
    refine AR.callP qs @exV_eq (And.intro byL_id (And.intro (@exL_id) (And.intro (@exV_id) sL_id))) ?_
    refine goG Y45_EE (And.intro (@exV_firm) (And.intro (@exV_strip) (And.intro (@exV_live) (And.intro (@exV_size) (And.intro (@exV_isAg) (And.intro (@exV_cells) (And.intro (@List.getElem?_map.{0, 0}) (And.intro (@Int.natCast_nonneg) h1)))))))) ?_
    refine wG Y45_EE (And.intro (@exV_firm) (And.intro (@exV_strip) (And.intro (@exV_live) (And.intro (@exV_size) (And.intro (@exV_isAg) (And.intro (@exV_cells) (And.intro (@List.getElem?_map.{0, 0}) (And.intro (@Int.natCast_nonneg) h1)))))))) ?_
    refine AR.callP q @exV_eq (And.intro byL_id (And.intro (@exL_id) (And.intro (@exV_id) sL_id))) ?_
    refine goG Y45_EE (And.intro BY (And.intro a1 (And.intro a2 (And.intro l1 (And.intro l2 @List.length_cons.{0}))))) ?_
    refine wG Y45_EE True.intro ?_
    exact Fin.oneP
  · have h1 : ¬ (strE e.op : Int) < (need : Int) := by omega
    have he : opdT e.op (txE e) need = txE e := if_neg h
    rw [he] at hlen ⊢
    refine PC.enter 15 Tryz.func45 rfl (by decide) rfl rfl (s := [(0, exV e), (1, (.im (.int .i64 ((need : Int)))))]) (by rfl) ?_
    refine wG Y45_EE (And.intro (@exV_firm) (And.intro (@exV_strip) (And.intro (@exV_live) (And.intro (@exV_size) (And.intro (@exV_isAg) (And.intro (@exV_cells) (And.intro (@List.getElem?_map.{0, 0}) @Int.natCast_nonneg))))))) ?_
    refine AR.callP qs @exV_eq (And.intro byL_id (And.intro (@exL_id) (And.intro (@exV_id) sL_id))) ?_
    refine goG Y45_EE (And.intro (@exV_firm) (And.intro (@exV_strip) (And.intro (@exV_live) (And.intro (@exV_size) (And.intro (@exV_isAg) (And.intro (@exV_cells) (And.intro (@List.getElem?_map.{0, 0}) (And.intro (@Int.natCast_nonneg) h1)))))))) ?_
    refine wG Y45_EE (And.intro (@exV_firm) (And.intro (@exV_strip) (And.intro (@exV_live) (And.intro (@exV_size) (And.intro (@exV_isAg) (And.intro (@exV_cells) (And.intro (@List.getElem?_map.{0, 0}) (And.intro (@Int.natCast_nonneg) h1)))))))) ?_
    refine AR.callP q @exV_eq (And.intro byL_id (And.intro (@exL_id) (And.intro (@exV_id) sL_id))) ?_
    refine goG Y45_EE True.intro ?_
    refine wG Y45_EE True.intro ?_
    exact Fin.oneP
theorem Y22_EE : type_of% (And.intro @F_ag_22 (And.intro @F_ag_23 (And.intro @F_ag_25 (And.intro @F_ag_3 (And.intro @F_ag_9 (And.intro @F_el_23 (And.intro @F_fl_25_0 (And.intro @F_fl_25_1 (And.intro @F_fl_25_2 (And.intro @F_fl_25_3 (And.intro @F_fl_25_4 (And.intro @F_in_22 (And.intro @F_in_3 (And.intro @F_sz_22 (And.intro @F_sz_23 (And.intro @F_sz_25 (And.intro @F_sz_3 (And.intro @F_sz_9 (And.intro @F_un_22 (@F_un_3)))))))))))))))))))) := And.intro @F_ag_22 (And.intro @F_ag_23 (And.intro @F_ag_25 (And.intro @F_ag_3 (And.intro @F_ag_9 (And.intro @F_el_23 (And.intro @F_fl_25_0 (And.intro @F_fl_25_1 (And.intro @F_fl_25_2 (And.intro @F_fl_25_3 (And.intro @F_fl_25_4 (And.intro @F_in_22 (And.intro @F_in_3 (And.intro @F_sz_22 (And.intro @F_sz_23 (And.intro @F_sz_25 (And.intro @F_sz_3 (And.intro @F_sz_9 (And.intro @F_un_22 (@F_un_3)))))))))))))))))))
set_option maxHeartbeats 2000000 in
theorem c_textR : ∀ (e : Ex), fitE e → efm e = true → (txE e).length ≤ 140737488355328 → PC Tryz.prog 22 [exV e] (.im (.string ⟨(txE e).toArray⟩)) := by
  refine Ex.induct fun o n s w l hE => ?_
  intro hfit hf hlen
  obtain ⟨hl1, hfE⟩ := fitE_mk hfit
  obtain ⟨_, hn, _⟩ := fitE_num hfit
  rw [efm_mk, Bool.and_eq_true] at hf
  obtain ⟨hb, hl⟩ := hf
  have IH := fun t ht => hE t ht (hfE t ht) (List.all_eq_true.1 hl t ht)
  clear hE hl hfE
  obtain ⟨n, rfl⟩ : ∃ m : Nat, n = m := ⟨n.toNat, by omega⟩
  rw [txE_mk] at hlen ⊢
  rcases ebase_inv hb with ⟨rfl, _, _, h4⟩ | ⟨rfl, h1, _, _, h4⟩ | ⟨ho, _, _, _, h4⟩ | ⟨ho, _, _, _, h4⟩ | ⟨rfl, _, _, h3, h4⟩ | ⟨rfl, _, _, h3, h4⟩
  · rw [show txN 1 (n : Int) s.data.toList w l (l.map txE) = numS n from rfl]
    by_cases h9 : n ≤ 9
    · have h9' : (n : Int) ≤ 9 := by omega
      have q := c_decR n h9
      rw [show [hexD n] = numS n from (if_pos h9).symm] at q
      have hw : IntKind.i64.wrap (n : Int) = n := wrap_in (by omega)
      refine PC.enter 91 Tryz.func22 rfl (by decide) rfl rfl (s := [(0, exV (.mk 1 (n : Int) s w l))]) (by rfl) ?_
      simp only [exV_mk]
      refine wG Y22_EE (And.intro h9' hw) ?_
      refine AR.callP q True.intro (And.intro byL_id (And.intro (@exL_id) (And.intro (@exV_id) sL_id))) ?_
      refine goG Y22_EE True.intro ?_
      refine wG Y22_EE True.intro ?_
      exact Fin.oneP
    · have h9' : ¬ (n : Int) ≤ 9 := by omega
      have q := c_hexR n (by omega)
      rw [show numS n = 48 :: 120 :: hexS n from if_neg h9]
      refine PC.enter 91 Tryz.func22 rfl (by decide) rfl rfl (s := [(0, exV (.mk 1 (n : Int) s w l))]) (by rfl) ?_
      simp only [exV_mk]
      refine wG Y22_EE h9' ?_
      refine AR.callP q True.intro (And.intro byL_id (And.intro (@exL_id) (And.intro (@exV_id) sL_id))) ?_
      refine goG Y22_EE True.intro ?_
      refine wG Y22_EE True.intro ?_
      exact Fin.oneP
  · rw [show txN 2 (n : Int) s.data.toList w l (l.map txE) = s.data.toList from rfl, show ByteArray.mk s.data.toList.toArray = s from rfl]
    refine PC.enter 91 Tryz.func22 rfl (by decide) rfl rfl (s := [(0, exV (.mk 2 (n : Int) s w l))]) (by rfl) ?_
    simp only [exV_mk]
    refine wG Y22_EE True.intro ?_
    exact Fin.oneP
  · obtain ⟨a, b, rfl⟩ : ∃ a b, l = [a, b] := by
      match l, h4 with
      | [a, b], _ => exact ⟨a, b, rfl⟩
    have e1 : txN o (n : Int) s.data.toList w [a, b] ([a, b].map txE) = opdT a.op (txE a) (stO o) ++ 32 :: (symB o ++ 32 :: opdT b.op (txE b) (stO o + 1)) := by
      unfold txN
      rw [if_neg (by omega), if_neg (by omega), if_neg (by omega), if_neg (by omega), if_neg (by omega), if_neg (by omega)]
      rfl
    rw [e1] at hlen ⊢
    obtain ⟨_, _, q3, _⟩ := symB_ok ho
    simp only [List.length_append, List.length_cons] at hlen
    have la := opdT_len a.op (txE a) (stO o)
    have lb := opdT_len b.op (txE b) (stO o + 1)
    have qa := c_operandR a (stO o) (by omega) (by omega) (IH a (by simp) (by omega))
    have qb := c_operandR b (stO o + 1) (by omega) (by omega) (IH b (by simp) (by omega))
    have qo := c_symbolR o ho
    have hw : IntKind.i64.wrap ((stO o : Int) + 1) = ((stO o + 1 : Nat) : Int) := by rw [wrap_in (by omega)]; omega
    have n1 : ¬ o = 1 := by omega
    have n2 : ¬ o = 2 := by omega
    have n3 : ¬ o = 18 := by omega
    have n4 : ¬ o = 19 := by omega
    have n5 : ¬ o = 16 := by omega
    have n6 : ¬ o = 17 := by omega
    clear IH e1 la lb
    generalize opdT a.op (txE a) (stO o) = p at *
    generalize opdT b.op (txE b) (stO o + 1) = q at *
    generalize hy : symB o = y at *
    obtain ⟨B1, hB1⟩ : ∃ B1, B1 = p ++ ([32] : Bs) := ⟨_, rfl⟩
    have a1 : ByteArray.mk (p).toArray ++ ByteArray.mk (([32] : Bs)).toArray = ByteArray.mk B1.toArray := by rw [hB1]; exact bS_append _ _
    have z1 : B1.length = p.length + 1 := by rw [hB1, List.length_append]; try rfl
    have l1 : p.length + 1 ≤ 9223372036854775807 := by omega
    obtain ⟨B2, hB2⟩ : ∃ B2, B2 = B1 ++ y := ⟨_, rfl⟩
    have a2 : ByteArray.mk (B1).toArray ++ ByteArray.mk (y).toArray = ByteArray.mk B2.toArray := by rw [hB2]; exact bS_append _ _
    have z2 : B2.length = B1.length + y.length := by rw [hB2, List.length_append]; try rfl
    have l2 : B1.length + y.length ≤ 9223372036854775807 := by omega
    obtain ⟨B3, hB3⟩ : ∃ B3, B3 = B2 ++ ([32] : Bs) := ⟨_, rfl⟩
    have a3 : ByteArray.mk (B2).toArray ++ ByteArray.mk (([32] : Bs)).toArray = ByteArray.mk B3.toArray := by rw [hB3]; exact bS_append _ _
    have z3 : B3.length = B2.length + 1 := by rw [hB3, List.length_append]; try rfl
    have l3 : B2.length + 1 ≤ 9223372036854775807 := by omega
    obtain ⟨B4, hB4⟩ : ∃ B4, B4 = B3 ++ q := ⟨_, rfl⟩
    have a4 : ByteArray.mk (B3).toArray ++ ByteArray.mk (q).toArray = ByteArray.mk B4.toArray := by rw [hB4]; exact bS_append _ _
    have z4 : B4.length = B3.length + q.length := by rw [hB4, List.length_append]; try rfl
    have l4 : B3.length + q.length ≤ 9223372036854775807 := by omega
    have hR : p ++ 32 :: (y ++ 32 :: q) = B4 := by rw [hB4, hB3, hB2, hB1]; simp
    rw [hR]
    refine PC.enter 91 Tryz.func22 rfl (by decide) rfl rfl (s := [(0, exV (.mk o (n : Int) s w [a, b]))]) (by rfl) ?_
    simp only [exV_mk]
    refine wG Y22_EE (And.intro n1 (And.intro n2 (And.intro n3 (And.intro n4 (And.intro n5 n6))))) ?_
    refine AR.callP qo True.intro (And.intro byL_id (And.intro (@exL_id) (And.intro (@exV_id) sL_id))) ?_
    refine goG Y22_EE True.intro ?_
    refine wdG Y22_EE (And.intro (@exV_firm) (And.intro (@exV_strip) (And.intro (@exV_live) (And.intro (@exV_size) (And.intro (@exV_isAg) (And.intro (@exV_cells) (And.intro (@List.getElem?_map.{0, 0}) @Int.natCast_nonneg))))))) ?_
    refine AR.callP qa @exV_eq (And.intro byL_id (And.intro (@exL_id) (And.intro (@exV_id) sL_id))) ?_
    refine goG Y22_EE (And.intro (@exV_firm) (And.intro (@exV_strip) (And.intro (@exV_live) (And.intro (@exV_size) (And.intro (@exV_isAg) (And.intro (@exV_cells) (And.intro (@List.getElem?_map.{0, 0}) (And.intro (@Int.natCast_nonneg) (And.intro hw (And.intro BY (And.intro a1 (And.intro l1 (And.intro a2 (And.intro l2 (And.intro a3 (And.intro l3 (And.intro a4 l4))))))))))))))))) ?_
    refine AR.callP qb @exV_eq (And.intro byL_id (And.intro (@exL_id) (And.intro (@exV_id) sL_id))) ?_
    refine goG Y22_EE (And.intro BY (And.intro a1 (And.intro l1 (And.intro a2 (And.intro l2 (And.intro a3 (And.intro l3 (And.intro a4 l4)))))))) ?_
    refine wdG Y22_EE True.intro ?_
    exact Fin.oneP
  · obtain ⟨a, rfl⟩ : ∃ a, l = [a] := by
      match l, h4 with
      | [a], _ => exact ⟨a, rfl⟩
    rcases ho with rfl | rfl
    · have e1 : txN 16 (n : Int) s.data.toList w [a] ([a].map txE) = 33 :: opdT a.op (txE a) 9 := rfl
      rw [e1] at hlen ⊢
      simp only [List.length_cons] at hlen
      have la := opdT_len a.op (txE a) 9
      have qa := c_operandR a 9 (by omega) (by omega) (IH a (by simp) (by omega))
      rw [show ((9 : Nat) : Int) = 9 from rfl] at qa
      generalize opdT a.op (txE a) 9 = p at *
      have a1 : ByteArray.mk #[33] ++ ByteArray.mk p.toArray = ByteArray.mk (33 :: p).toArray := bS_append [33] p
      have l1 : 1 + p.length ≤ 9223372036854775807 := by omega
      refine PC.enter 91 Tryz.func22 rfl (by decide) rfl rfl (s := [(0, exV (.mk 16 (n : Int) s w [a]))]) (by rfl) ?_
      simp only [exV_mk]
      refine wG Y22_EE (And.intro (@exV_firm) (And.intro (@exV_strip) (And.intro (@exV_live) (And.intro (@exV_size) (And.intro (@exV_isAg) (And.intro (@exV_cells) (And.intro (@List.getElem?_map.{0, 0}) @Int.natCast_nonneg))))))) ?_
      refine AR.callP qa @exV_eq (And.intro byL_id (And.intro (@exL_id) (And.intro (@exV_id) sL_id))) ?_
      refine goG Y22_EE (And.intro BY (And.intro a1 l1)) ?_
      refine wG Y22_EE True.intro ?_
      exact Fin.oneP
    · have e1 : txN 17 (n : Int) s.data.toList w [a] ([a].map txE) = 45 :: opdT a.op (txE a) 9 := rfl
      rw [e1] at hlen ⊢
      simp only [List.length_cons] at hlen
      have la := opdT_len a.op (txE a) 9
      have qa := c_operandR a 9 (by omega) (by omega) (IH a (by simp) (by omega))
      rw [show ((9 : Nat) : Int) = 9 from rfl] at qa
      generalize opdT a.op (txE a) 9 = p at *
      have a1 : ByteArray.mk #[45] ++ ByteArray.mk p.toArray = ByteArray.mk (45 :: p).toArray := bS_append [45] p
      have l1 : 1 + p.length ≤ 9223372036854775807 := by omega
      refine PC.enter 91 Tryz.func22 rfl (by decide) rfl rfl (s := [(0, exV (.mk 17 (n : Int) s w [a]))]) (by rfl) ?_
      simp only [exV_mk]
      refine wG Y22_EE (And.intro (@exV_firm) (And.intro (@exV_strip) (And.intro (@exV_live) (And.intro (@exV_size) (And.intro (@exV_isAg) (And.intro (@exV_cells) (And.intro (@List.getElem?_map.{0, 0}) @Int.natCast_nonneg))))))) ?_
      refine AR.callP qa @exV_eq (And.intro byL_id (And.intro (@exL_id) (And.intro (@exV_id) sL_id))) ?_
      refine goG Y22_EE (And.intro BY (And.intro a1 l1)) ?_
      refine wG Y22_EE True.intro ?_
      exact Fin.oneP
  · obtain ⟨a, rfl⟩ : ∃ a, l = [a] := by
      match l, h4 with
      | [a], _ => exact ⟨a, rfl⟩
    have e1 : txN 18 (n : Int) s.data.toList w [a] ([a].map txE) = [108, 111, 97, 100] ++ (wB w ++ ([40] ++ (txE a ++ [41]))) := rfl
    rw [e1] at hlen ⊢
    simp only [List.length_append] at hlen
    have qa := IH a (by simp) (by omega)
    have qi := c_decR w.toNat (by omega)
    rw [show ((w.toNat : Nat) : Int) = w by omega, show [hexD w.toNat] = wB w by rcases h3 with rfl | rfl | rfl <;> rfl] at qi
    have ld : (wB w).length = 1 := rfl
    clear IH e1
    generalize txE a = x at *
    generalize wB w = d at *
    obtain ⟨B1, hB1⟩ : ∃ B1, B1 = ([108, 111, 97, 100] : Bs) ++ d := ⟨_, rfl⟩
    have a1 : ByteArray.mk (([108, 111, 97, 100] : Bs)).toArray ++ ByteArray.mk (d).toArray = ByteArray.mk B1.toArray := by rw [hB1]; exact bS_append _ _
    have z1 : B1.length = 4 + 1 := by rw [hB1, List.length_append, ld]; rfl
    have l1 : 4 + 1 ≤ 9223372036854775807 := by omega
    obtain ⟨B2, hB2⟩ : ∃ B2, B2 = B1 ++ ([40] : Bs) := ⟨_, rfl⟩
    have a2 : ByteArray.mk (B1).toArray ++ ByteArray.mk (([40] : Bs)).toArray = ByteArray.mk B2.toArray := by rw [hB2]; exact bS_append _ _
    have z2 : B2.length = B1.length + 1 := by rw [hB2, List.length_append]; try rfl
    have l2 : B1.length + 1 ≤ 9223372036854775807 := by omega
    obtain ⟨B3, hB3⟩ : ∃ B3, B3 = B2 ++ x := ⟨_, rfl⟩
    have a3 : ByteArray.mk (B2).toArray ++ ByteArray.mk (x).toArray = ByteArray.mk B3.toArray := by rw [hB3]; exact bS_append _ _
    have z3 : B3.length = B2.length + x.length := by rw [hB3, List.length_append]; try rfl
    have l3 : B2.length + x.length ≤ 9223372036854775807 := by omega
    obtain ⟨B4, hB4⟩ : ∃ B4, B4 = B3 ++ ([41] : Bs) := ⟨_, rfl⟩
    have a4 : ByteArray.mk (B3).toArray ++ ByteArray.mk (([41] : Bs)).toArray = ByteArray.mk B4.toArray := by rw [hB4]; exact bS_append _ _
    have z4 : B4.length = B3.length + 1 := by rw [hB4, List.length_append]; try rfl
    have l4 : B3.length + 1 ≤ 9223372036854775807 := by omega
    have hR : [108, 111, 97, 100] ++ (d ++ ([40] ++ (x ++ [41]))) = B4 := by rw [hB4, hB3, hB2, hB1]; simp
    rw [hR]
    refine PC.enter 91 Tryz.func22 rfl (by decide) rfl rfl (s := [(0, exV (.mk 18 (n : Int) s w [a]))]) (by rfl) ?_
    simp only [exV_mk]
    refine wdG Y22_EE (And.intro (@exV_firm) (And.intro (@exV_strip) (And.intro (@exV_live) (And.intro (@exV_size) (And.intro (@exV_isAg) (And.intro (@exV_cells) (And.intro (@List.getElem?_map.{0, 0}) @Int.natCast_nonneg))))))) ?_
    refine AR.callP qi True.intro (And.intro byL_id (And.intro (@exL_id) (And.intro (@exV_id) sL_id))) ?_
    refine goG Y22_EE (And.intro (@exV_firm) (And.intro (@exV_strip) (And.intro (@exV_live) (And.intro (@exV_size) (And.intro (@exV_isAg) (And.intro (@exV_cells) (And.intro (@List.getElem?_map.{0, 0}) (And.intro (@Int.natCast_nonneg) (And.intro BY (And.intro ld (And.intro a1 (And.intro l1 (And.intro a2 (And.intro l2 (And.intro a3 (And.intro l3 (And.intro a4 l4))))))))))))))))) ?_
    refine AR.callP qa @exV_eq (And.intro byL_id (And.intro (@exL_id) (And.intro (@exV_id) sL_id))) ?_
    refine goG Y22_EE (And.intro BY (And.intro ld (And.intro a1 (And.intro l1 (And.intro a2 (And.intro l2 (And.intro a3 (And.intro l3 (And.intro a4 l4))))))))) ?_
    refine wdG Y22_EE True.intro ?_
    exact Fin.oneP
  · obtain ⟨a, rfl⟩ : ∃ a, l = [a] := by
      match l, h4 with
      | [a], _ => exact ⟨a, rfl⟩
    have e1 : txN 19 (n : Int) s.data.toList w [a] ([a].map txE) = [115, 101, 120, 116] ++ (wB w ++ ([40] ++ (txE a ++ [41]))) := rfl
    rw [e1] at hlen ⊢
    simp only [List.length_append] at hlen
    have qa := IH a (by simp) (by omega)
    have qi := c_decR w.toNat (by omega)
    rw [show ((w.toNat : Nat) : Int) = w by omega, show [hexD w.toNat] = wB w by rcases (show w = 1 ∨ w = 2 ∨ w = 4 by omega) with rfl | rfl | rfl <;> rfl] at qi
    have ld : (wB w).length = 1 := rfl
    clear IH e1
    generalize txE a = x at *
    generalize wB w = d at *
    obtain ⟨B1, hB1⟩ : ∃ B1, B1 = ([115, 101, 120, 116] : Bs) ++ d := ⟨_, rfl⟩
    have a1 : ByteArray.mk (([115, 101, 120, 116] : Bs)).toArray ++ ByteArray.mk (d).toArray = ByteArray.mk B1.toArray := by rw [hB1]; exact bS_append _ _
    have z1 : B1.length = 4 + 1 := by rw [hB1, List.length_append, ld]; rfl
    have l1 : 4 + 1 ≤ 9223372036854775807 := by omega
    obtain ⟨B2, hB2⟩ : ∃ B2, B2 = B1 ++ ([40] : Bs) := ⟨_, rfl⟩
    have a2 : ByteArray.mk (B1).toArray ++ ByteArray.mk (([40] : Bs)).toArray = ByteArray.mk B2.toArray := by rw [hB2]; exact bS_append _ _
    have z2 : B2.length = B1.length + 1 := by rw [hB2, List.length_append]; try rfl
    have l2 : B1.length + 1 ≤ 9223372036854775807 := by omega
    obtain ⟨B3, hB3⟩ : ∃ B3, B3 = B2 ++ x := ⟨_, rfl⟩
    have a3 : ByteArray.mk (B2).toArray ++ ByteArray.mk (x).toArray = ByteArray.mk B3.toArray := by rw [hB3]; exact bS_append _ _
    have z3 : B3.length = B2.length + x.length := by rw [hB3, List.length_append]; try rfl
    have l3 : B2.length + x.length ≤ 9223372036854775807 := by omega
    obtain ⟨B4, hB4⟩ : ∃ B4, B4 = B3 ++ ([41] : Bs) := ⟨_, rfl⟩
    have a4 : ByteArray.mk (B3).toArray ++ ByteArray.mk (([41] : Bs)).toArray = ByteArray.mk B4.toArray := by rw [hB4]; exact bS_append _ _
    have z4 : B4.length = B3.length + 1 := by rw [hB4, List.length_append]; try rfl
    have l4 : B3.length + 1 ≤ 9223372036854775807 := by omega
    have hR : [115, 101, 120, 116] ++ (d ++ ([40] ++ (x ++ [41]))) = B4 := by rw [hB4, hB3, hB2, hB1]; simp
    rw [hR]
    refine PC.enter 91 Tryz.func22 rfl (by decide) rfl rfl (s := [(0, exV (.mk 19 (n : Int) s w [a]))]) (by rfl) ?_
    simp only [exV_mk]
    refine wdG Y22_EE (And.intro (@exV_firm) (And.intro (@exV_strip) (And.intro (@exV_live) (And.intro (@exV_size) (And.intro (@exV_isAg) (And.intro (@exV_cells) (And.intro (@List.getElem?_map.{0, 0}) @Int.natCast_nonneg))))))) ?_
    refine AR.callP qi True.intro (And.intro byL_id (And.intro (@exL_id) (And.intro (@exV_id) sL_id))) ?_
    refine goG Y22_EE (And.intro (@exV_firm) (And.intro (@exV_strip) (And.intro (@exV_live) (And.intro (@exV_size) (And.intro (@exV_isAg) (And.intro (@exV_cells) (And.intro (@List.getElem?_map.{0, 0}) (And.intro (@Int.natCast_nonneg) (And.intro BY (And.intro ld (And.intro a1 (And.intro l1 (And.intro a2 (And.intro l2 (And.intro a3 (And.intro l3 (And.intro a4 l4))))))))))))))))) ?_
    refine AR.callP qa @exV_eq (And.intro byL_id (And.intro (@exL_id) (And.intro (@exV_id) sL_id))) ?_
    refine goG Y22_EE (And.intro BY (And.intro ld (And.intro a1 (And.intro l1 (And.intro a2 (And.intro l2 (And.intro a3 (And.intro l3 (And.intro a4 l4))))))))) ?_
    refine wdG Y22_EE True.intro ?_
    exact Fin.oneP
theorem Y9_EE : type_of% (And.intro @F_ag_25 (@F_sz_25)) := And.intro @F_ag_25 (@F_sz_25)
theorem c_PrintExprR (e : Ex) (hfit : fitE e) (hlen : (prE e).length ≤ 140737488355328) : PC Tryz.prog 9 [exV e] (.im (.string ⟨(prE e).toArray⟩)) := by
  have q1 := c_edeep e hfit 64 (by unfold I64; omega)
  unfold prE at hlen ⊢
  cases h1 : esh e 64 with
  | false =>
    rw [h1] at q1
    refine PC.enter 12 Tryz.func9 rfl (by decide) rfl rfl (s := [(0, exV e)]) (by rfl) ?_
    refine wG Y9_EE (And.intro (@exV_firm) (And.intro (@exV_strip) (And.intro (@exV_live) (And.intro (@exV_size) (And.intro (@exV_isAg) (And.intro (@exV_cells) (And.intro (@List.getElem?_map.{0, 0}) @Int.natCast_nonneg))))))) ?_
    refine AR.callP q1 @exV_eq (And.intro byL_id (And.intro (@exL_id) (And.intro (@exV_id) sL_id))) ?_
    refine goG Y9_EE True.intro ?_
    refine wG Y9_EE True.intro ?_
    exact Fin.oneP
  | true =>
    rw [h1] at q1 hlen
    have q2 := c_eformedR e hfit
    cases h2 : efm e with
    | false =>
      rw [h2] at q2
      refine PC.enter 12 Tryz.func9 rfl (by decide) rfl rfl (s := [(0, exV e)]) (by rfl) ?_
      refine wG Y9_EE (And.intro (@exV_firm) (And.intro (@exV_strip) (And.intro (@exV_live) (And.intro (@exV_size) (And.intro (@exV_isAg) (And.intro (@exV_cells) (And.intro (@List.getElem?_map.{0, 0}) @Int.natCast_nonneg))))))) ?_
      refine AR.callP q1 @exV_eq (And.intro byL_id (And.intro (@exL_id) (And.intro (@exV_id) sL_id))) ?_
      refine goG Y9_EE (And.intro (@exV_firm) (And.intro (@exV_strip) (And.intro (@exV_live) (And.intro (@exV_size) (And.intro (@exV_isAg) (And.intro (@exV_cells) (And.intro (@List.getElem?_map.{0, 0}) @Int.natCast_nonneg))))))) ?_
      refine AR.callP q2 @exV_eq (And.intro byL_id (And.intro (@exL_id) (And.intro (@exV_id) sL_id))) ?_
      refine goG Y9_EE True.intro ?_
      refine wG Y9_EE True.intro ?_
      exact Fin.oneP
    | true =>
      rw [h2] at q2 hlen
      have q3 := c_textR e hfit h2 hlen
      refine PC.enter 12 Tryz.func9 rfl (by decide) rfl rfl (s := [(0, exV e)]) (by rfl) ?_
      refine wG Y9_EE (And.intro (@exV_firm) (And.intro (@exV_strip) (And.intro (@exV_live) (And.intro (@exV_size) (And.intro (@exV_isAg) (And.intro (@exV_cells) (And.intro (@List.getElem?_map.{0, 0}) @Int.natCast_nonneg))))))) ?_
      refine AR.callP q1 @exV_eq (And.intro byL_id (And.intro (@exL_id) (And.intro (@exV_id) sL_id))) ?_
      refine goG Y9_EE (And.intro (@exV_firm) (And.intro (@exV_strip) (And.intro (@exV_live) (And.intro (@exV_size) (And.intro (@exV_isAg) (And.intro (@exV_cells) (And.intro (@List.getElem?_map.{0, 0}) @Int.natCast_nonneg))))))) ?_
      refine AR.callP q2 @exV_eq (And.intro byL_id (And.intro (@exL_id) (And.intro (@exV_id) sL_id))) ?_
      refine goG Y9_EE True.intro ?_
      refine wG Y9_EE (And.intro (@exV_firm) (And.intro (@exV_strip) (And.intro (@exV_live) (And.intro (@exV_size) (And.intro (@exV_isAg) (And.intro (@exV_cells) (And.intro (@List.getElem?_map.{0, 0}) @Int.natCast_nonneg))))))) ?_
      refine AR.callP q3 @exV_eq (And.intro byL_id (And.intro (@exL_id) (And.intro (@exV_id) sL_id))) ?_
      refine goG Y9_EE True.intro ?_
      refine wG Y9_EE True.intro ?_
      exact Fin.oneP
end Go.Proofs.YtlbfgnpadggbgaaGreatDoor

