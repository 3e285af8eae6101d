/- Walks of the reference: read, entries, Load. -/
import Derived.Test.YtianekkfehoedaaGreatDoorHv
import Derived.Test.YtianekkfehoedaaGreatDoorRc
import Derived.Test.YtianekkfehoedaaGreatDoorEf
namespace Go.Proofs.YtianekkfehoedaaGreatDoor
set_option linter.unusedSimpArgs false
set_option linter.unusedVariables false
set_option linter.unnecessarySimpa false
open Go.RowKit
theorem Y29_Ru : type_of% (And.intro @F_ag_5 (And.intro @F_el_22 (And.intro @F_in_3 (And.intro @F_in_5 (And.intro @F_sz_5 (And.intro @F_un_3 (@F_un_5))))))) := And.intro @F_ag_5 (And.intro @F_el_22 (And.intro @F_in_3 (And.intro @F_in_5 (And.intro @F_sz_5 (And.intro @F_un_3 (@F_un_5))))))
theorem rd_succ {b : Bs} {j m : Nat} {c : UInt8} (h : b[j]? = some c) : rdB b j (m + 1) = 256 * rdB b (j + 1) m + c.toNat := by
  obtain ⟨hj, rfl⟩ := List.getElem?_eq_some_iff.1 h
  unfold rdB
  rw [List.drop_eq_getElem_cons hj, List.take_succ_cons, vaB]
  omega
theorem c_rd (b : Bs) (a w : Nat) (hw : w ≤ 4) (h : a + w ≤ b.length) (hb : b.length ≤ 140737488355328) : PC Tryz.prog 29 [.sl (b.map byB) .ro, (.im (.int .i64 (((a : Nat) : Int)))), (.im (.int .i64 (((w : Nat) : Int))))] (.im (.int .i64 (((rdB b a w : Nat) : Int)))) := by
  have h1 : IntKind.i64.wrap (((w : Nat) : Int) - 1) = ((w : Nat) : Int) - 1 := wrap_in (by omega)
  have h0 : rdB b (a + (w - 0)) 0 = 0 := by unfold rdB; rw [List.take_zero]; rfl
  refine PC.enter 26 Tryz.func29 rfl (by decide) rfl rfl (s := [(0, .sl (b.map byB) .ro), (1, (.im (.int .i64 (((a : Nat) : Int))))), (2, (.im (.int .i64 (((w : Nat) : Int)))))]) (by rfl) ?_
  refine wG Y29_Ru h1 ?_
  refine AWp.loop ?_
  suffices H : ALp _ _ _ _ _ ⟨dn 26 [(0, .sl (b.map byB) .ro), (1, (.im (.int .i64 (((a : Nat) : Int))))), (2, (.im (.int .i64 (((w : Nat) : Int))))), (7, (.im (.int .i64 (((rdB b (a + (w - (0))) (0) : Nat) : Int))))), (8, (.im (.int .i64 (((w : Nat) : Int) - 1 - (((0 : Nat)) : Int)))))], ofl []⟩ by
    rw [h0] at H
    rw [show ((w : Nat) : Int) - 1 - (((0 : Nat)) : Int) = ((w : Nat) : Int) - 1 by omega] at H
    refine ALp.cutP 0 [(0, .sl (b.map byB) .ro), (1, (.im (.int .i64 (((a : Nat) : Int))))), (2, (.im (.int .i64 (((w : Nat) : Int))))), (7, (.im (.int .i64 (0)))), (8, (.im (.int .i64 (((w : Nat) : Int) - 1))))] [] (And.intro enV_id (And.intro enL_id (And.intro byL_id (And.intro lsV_id (And.intro lsL_id @tyV_id))))) ?_
    exact H
  refine ALp.upto w (fun _ => True) (fun m => ⟨dn 26 [(0, .sl (b.map byB) .ro), (1, (.im (.int .i64 (((a : Nat) : Int))))), (2, (.im (.int .i64 (((w : Nat) : Int))))), (7, (.im (.int .i64 (((rdB b (a + (w - (m))) (m) : Nat) : Int))))), (8, (.im (.int .i64 (((w : Nat) : Int) - 1 - (((m : Nat)) : Int)))))], ofl []⟩) ?_ 0 (Nat.zero_le _) trivial
  intro m hm _ hnext
  by_cases hlt : m < w
  · have hlt' : (0 : Int) ≤ ((w : Nat) : Int) - 1 - ((m : Nat) : Int) := by omega
    have hj : a + (w - (m + 1)) < b.length := by omega
    have hg : b[a + (w - (m + 1))]? = some b[a + (w - (m + 1))] := List.getElem?_eq_getElem hj
    have hs := rd_succ (m := m) hg
    have hc := b[a + (w - (m + 1))].toNat_lt
    rw [show a + (w - (m + 1)) + 1 = a + (w - m) by omega] at hs
    have hn := hnext (m + 1) (by omega) (by omega) trivial
    clear hnext
    rw [hs] at hn
    have hl := rdB_lt b (a + (w - m)) m
    have hp : 256 ^ m ≤ 256 ^ 3 := Nat.pow_le_pow_right (by decide) (by omega)
    rw [show (256 : Nat) ^ 3 = 16777216 from rfl] at hp
    have hi : IntKind.i64.wrap (((a : Nat) : Int) + (((w : Nat) : Int) - 1 - ((m : Nat) : Int))) = ((a + (w - (m + 1)) : Nat) : Int) := by rw [wrap_in (by omega)]; omega
    have hd : IntKind.i64.wrap (((w : Nat) : Int) - 1 - ((m : Nat) : Int) - 1) = ((w : Nat) : Int) - 1 - ((m + 1 : Nat) : Int) := by rw [wrap_in (by omega)]; omega
    generalize b[a + (w - (m + 1))] = c at hg hs hc hn
    generalize rdB b (a + (w - m)) m = r at hs hn hl
    have h2 : IntKind.i64.wrap (256 * ((r : Nat) : Int)) = ((256 * r : Nat) : Int) := by rw [wrap_in (by omega)]; omega
    have h3 : IntKind.i64.wrap (((256 * r : Nat) : Int) + ((c.toNat : Nat) : Int)) = ((256 * r + c.toNat : Nat) : Int) := by rw [wrap_in (by omega)]; omega
    have hw2 : IntKind.i64.wrap ((c.toNat : Nat) : Int) = ((c.toNat : Nat) : Int) := wrap_in (by omega)
    refine wG Y29_Ru (And.intro hlt' (And.intro h2 (And.intro hi (And.intro byB_eq (And.intro BAT (And.intro hg (And.intro hw2 (And.intro h3 hd)))))))) ?_
    refine ALp.cutP 0 [(0, .sl (b.map byB) .ro), (1, (.im (.int .i64 (((a : Nat) : Int))))), (2, (.im (.int .i64 (((w : Nat) : Int))))), (7, (.im (.int .i64 (((256 * r + c.toNat : Nat) : Int))))), (8, (.im (.int .i64 (((w : Nat) : Int) - 1 - ((m + 1 : Nat) : Int)))))] [] (And.intro enV_id (And.intro enL_id (And.intro byL_id (And.intro lsV_id (And.intro lsL_id @tyV_id))))) ?_
    exact hn
  · obtain rfl : m = w := by omega
    have hlt' : ¬ (0 : Int) ≤ ((m : Nat) : Int) - 1 - ((m : Nat) : Int) := by omega
    clear hnext hlt
    rw [show a + (m - m) = a by omega]
    refine wG Y29_Ru hlt' ?_
    exact Fin.oneP
theorem Y27_Ru : type_of% (And.intro @F_al_46 (And.intro @F_by_46 (And.intro @F_el_22 (And.intro @F_el_28 (And.intro @F_in_22 (And.intro @F_in_3 (And.intro @F_in_44 (And.intro @F_in_9 (And.intro @F_st_46 (And.intro @F_sz_46 (And.intro @F_sz_5 (And.intro @F_un_22 (And.intro @F_un_3 (And.intro @F_un_44 (And.intro @F_un_5 (@F_un_9)))))))))))))))) := And.intro @F_al_46 (And.intro @F_by_46 (And.intro @F_el_22 (And.intro @F_el_28 (And.intro @F_in_22 (And.intro @F_in_3 (And.intro @F_in_44 (And.intro @F_in_9 (And.intro @F_st_46 (And.intro @F_sz_46 (And.intro @F_sz_5 (And.intro @F_un_22 (And.intro @F_un_3 (And.intro @F_un_44 (And.intro @F_un_5 (@F_un_9)))))))))))))))
structure EI (b : Bs) (N : Nat) (x : Nat × Nat × List En) : Prop where
  m : x.1 ≤ N
  l : x.2.2.length = x.1
  a : x.2.1 ≤ b.length
  e : lsN b (N - x.1) x.2.2 x.2.1 false = lsN b N [] 6 false
set_option maxHeartbeats 4000000 in
theorem c_ent0 (b : Bs) (hb : b.length ≤ 1000) (h0 : b.length < 6 ∨ (lsN b (rdB b 4 2) [] 6 false).2.2 = true) : PC Tryz.prog 27 [.sl (b.map byB) .ro] (.tu [.sl [] .nl, (.im (.int .i64 (0))), (.im (.bool (false)))]) := by
  refine PC.enter 77 Tryz.func27 rfl (by decide) rfl rfl (s := [(0, .sl (b.map byB) .ro)]) (by rfl) ?_
  by_cases h6 : b.length < 6
  · have h6' : ((b.length : Nat) : Int) < 6 := by omega
    refine wG Y27_Ru (And.intro h6' @List.length_map.{0, 0}) ?_
    refine Fin.gen0 (rs := [.tmp 2, .tmp 3, .tmp 4]) rfl (by first | exact .inl rfl | exact .inr rfl) (finG Y27_Ru) ?_
    skip
    all_goals exact wkG (And.intro enV_id (And.intro enL_id (And.intro byL_id (And.intro lsV_id (And.intro lsL_id @tyV_id)))))
  have h : (lsN b (rdB b 4 2) [] 6 false).2.2 = true := h0.resolve_left h6
  have h6' : ¬ ((b.length : Nat) : Int) < 6 := by omega
  have hN := rdB_lt b 4 2
  have r0 : PC Tryz.prog 29 [.sl (b.map byB) .ro, (.im (.int .i64 (4))), (.im (.int .i64 (2)))] (.im (.int .i64 (((rdB b 4 2 : Nat) : Int)))) := c_rd b 4 2 (by decide) (by omega) (by omega)
  generalize rdB b 4 2 = N at *
  rw [show (256 : Nat) ^ 2 = 65536 from rfl] at hN
  refine wG Y27_Ru (And.intro h6' @List.length_map.{0, 0}) ?_
  refine AR.callP r0 True.intro (And.intro enV_id (And.intro enL_id (And.intro byL_id (And.intro lsV_id (And.intro lsL_id @tyV_id))))) ?_
  refine goG Y27_Ru True.intro ?_
  refine wG Y27_Ru True.intro ?_
  refine AWp.loop ?_
  refine ALp.cutP 0 [(0, .sl (b.map byB) .ro), (5, .sl [] .nl), (6, (.im (.int .i64 (6)))), (7, (.im (.int .i64 (((N : Nat) : Int))))), (8, (.im (.int .i64 (0))))] [] (And.intro enV_id (And.intro enL_id (And.intro byL_id (And.intro lsV_id (And.intro lsL_id @tyV_id))))) ?_
  refine ALp.ghost 5 [] .nl 46 4 ?_
  suffices H : ∀ x : Nat × Nat × List En, EI b N x → ALp _ _ _ _ _ ⟨dn 77 [(0, .sl (b.map byB) .ro), (5, .sl ((x).2.2.map enV) (.own 0)), (6, (.im (.int .i64 ((((x).2.1 : Nat) : Int))))), (7, (.im (.int .i64 (((N : Nat) : Int))))), (8, (.im (.int .i64 ((((x).1 : Nat) : Int)))))], ofl [.tip 46 4 (x).2.2.length]⟩ by
    exact H (0, 6, []) ⟨Nat.zero_le _, rfl, by dsimp only; omega, rfl⟩
  refine ALp.meas (α := Nat × Nat × List En) (fun x => ⟨dn 77 [(0, .sl (b.map byB) .ro), (5, .sl ((x).2.2.map enV) (.own 0)), (6, (.im (.int .i64 ((((x).2.1 : Nat) : Int))))), (7, (.im (.int .i64 (((N : Nat) : Int))))), (8, (.im (.int .i64 ((((x).1 : Nat) : Int)))))], ofl [.tip 46 4 (x).2.2.length]⟩) (EI b N) (fun x => N - x.1) ?_
  rintro ⟨m, a, acc⟩ ⟨h1, h2, h3, h4⟩ hnext
  dsimp only at h1 h2 h3 h4
  by_cases hlt : m < N
  · have hlt' : ((m : Nat) : Int) < ((N : Nat) : Int) := by omega
    have w1 : IntKind.i64.wrap ((b.length : Int) - (a : Int)) = ((b.length - a : Nat) : Int) := by rw [wrap_in (by omega)]; omega
    by_cases h9 : b.length - a < 9
    · have h9' : ((b.length - a : Nat) : Int) < 9 := by omega
      clear hnext
      refine wdG Y27_Ru (And.intro hlt' (And.intro w1 (And.intro h9' @List.length_map.{0, 0}))) ?_
      refine Fin.gen0 (rs := [.tmp 2, .tmp 3, .tmp 4]) rfl (by first | exact .inl rfl | exact .inr rfl) (finG Y27_Ru) ?_
      skip
      all_goals exact wkG (And.intro enV_id (And.intro enL_id (And.intro byL_id (And.intro lsV_id (And.intro lsL_id @tyV_id)))))
    have h9' : ¬ ((b.length - a : Nat) : Int) < 9 := by omega
    have w2 : IntKind.i64.wrap (((b.length - a : Nat) : Int) - 9) = ((b.length - a - 9 : Nat) : Int) := by rw [wrap_in (by omega)]; omega
    have w3 : IntKind.i64.wrap (((a : Nat) : Int) + 7) = ((a + 7 : Nat) : Int) := by rw [wrap_in (by omega)]; omega
    have r7 : PC Tryz.prog 29 [.sl (b.map byB) .ro, (.im (.int .i64 (((a + 7 : Nat) : Int)))), (.im (.int .i64 (2)))] (.im (.int .i64 (((rdB b (a + 7) 2 : Nat) : Int)))) := c_rd b (a + 7) 2 (by decide) (by omega) (by omega)
    obtain ⟨z, hz⟩ : ∃ z, rdB b (a + 7) 2 = z := ⟨_, rfl⟩
    rw [hz] at r7
    by_cases hz9 : b.length - a - 9 < z
    · have hz9' : ((b.length - a - 9 : Nat) : Int) < ((z : Nat) : Int) := by omega
      clear hnext
      refine wdG Y27_Ru (And.intro hlt' (And.intro w1 (And.intro h9' (And.intro w2 (And.intro w3 @List.length_map.{0, 0}))))) ?_
      refine AR.callP r7 True.intro (And.intro enV_id (And.intro enL_id (And.intro byL_id (And.intro lsV_id (And.intro lsL_id @tyV_id))))) ?_
      refine goG Y27_Ru hz9' ?_
      refine wdG Y27_Ru True.intro ?_
      refine Fin.gen0 (rs := [.tmp 2, .tmp 3, .tmp 4]) rfl (by first | exact .inl rfl | exact .inr rfl) (finG Y27_Ru) ?_
      skip
      all_goals exact wkG (And.intro enV_id (And.intro enL_id (And.intro byL_id (And.intro lsV_id (And.intro lsL_id @tyV_id)))))
    have hz9' : ¬ ((b.length - a - 9 : Nat) : Int) < ((z : Nat) : Int) := by omega
    rw [show N - m = N - (m + 1) + 1 by omega, ls_ok (by omega), hz] at h4
    have hn := hnext (m + 1, a + 9 + z, acc ++ [enR b a]) (by simp; omega) ⟨by dsimp only; omega, by simp; omega, by dsimp only; omega, h4⟩
    clear hnext h4
    have q1 : PC Tryz.prog 29 [.sl (b.map byB) .ro, (.im (.int .i64 (((a : Nat) : Int)))), (.im (.int .i64 (1)))] (.im (.int .i64 (((rdB b a 1 : Nat) : Int)))) := c_rd b a 1 (by decide) (by omega) (by omega)
    have q2 : PC Tryz.prog 29 [.sl (b.map byB) .ro, (.im (.int .i64 (((a + 1 : Nat) : Int)))), (.im (.int .i64 (4)))] (.im (.int .i64 (((rdB b (a + 1) 4 : Nat) : Int)))) := c_rd b (a + 1) 4 (by decide) (by omega) (by omega)
    have q3 : PC Tryz.prog 29 [.sl (b.map byB) .ro, (.im (.int .i64 (((a + 5 : Nat) : Int)))), (.im (.int .i64 (2)))] (.im (.int .i64 (((rdB b (a + 5) 2 : Nat) : Int)))) := c_rd b (a + 5) 2 (by decide) (by omega) (by omega)
    have hd := rdB_lt b (a + 1) 4
    rw [show (256 : Nat) ^ 4 = 4294967296 from rfl] at hd
    have ht := take_by b (a + 9) z
    have hE : enR b a = ⟨((rdB b a 1 : Nat) : Int), ((rdB b (a + 5) 2 : Nat) : Int), ((rdB b (a + 1) 4 : Nat) : Int), (b.drop (a + 9)).take z⟩ := by unfold enR; rw [hz]
    have hA : acc.map enV ++ [enV (enR b a)] = (acc ++ [enR b a]).map enV := by rw [List.map_append]; rfl
    have hln : acc.length + 1 = (acc ++ [enR b a]).length := by simp
    have hcap : (acc.length + 1) * 40 ≤ 140737488355328 := by omega
    generalize acc ++ [enR b a] = acc2 at hn hA hln
    rw [hE, enV_eq] at hA
    dsimp only at hA
    clear hE
    generalize rdB b a 1 = k at *
    generalize rdB b (a + 1) 4 = d at *
    generalize rdB b (a + 5) 2 = v at *
    generalize (b.drop (a + 9)).take z = tx at *
    have u1 : IntKind.i64.wrap (((a : Nat) : Int) + 1) = ((a + 1 : Nat) : Int) := by rw [wrap_in (by omega)]; omega
    have u5 : IntKind.i64.wrap (((a : Nat) : Int) + 5) = ((a + 5 : Nat) : Int) := by rw [wrap_in (by omega)]; omega
    have u9 : IntKind.i64.wrap (((a : Nat) : Int) + 9) = ((a + 9 : Nat) : Int) := by rw [wrap_in (by omega)]; omega
    have uz : IntKind.i64.wrap (((a + 9 : Nat) : Int) + ((z : Nat) : Int)) = ((a + 9 + z : Nat) : Int) := by rw [wrap_in (by omega)]; omega
    have ud : IntKind.u32.wrap ((d : Nat) : Int) = ((d : Nat) : Int) := by rw [IntKind.wrap_u32]; omega
    have g1 : ((a + 9 : Nat) : Int) ≤ ((a + 9 + z : Nat) : Int) := by omega
    have g2 : ((a + 9 + z : Nat) : Int) ≤ (b.length : Int) := by omega
    have hm1 := wrap_succ (m := m) (N := 140737488355328) (by omega) (by decide)
    refine wdG Y27_Ru (And.intro hlt' (And.intro w1 (And.intro h9' (And.intro w2 (And.intro w3 @List.length_map.{0, 0}))))) ?_
    refine AR.callP r7 True.intro (And.intro enV_id (And.intro enL_id (And.intro byL_id (And.intro lsV_id (And.intro lsL_id @tyV_id))))) ?_
    refine goG Y27_Ru hz9' ?_
    refine wdG Y27_Ru w3 ?_
    refine AR.callP r7 True.intro (And.intro enV_id (And.intro enL_id (And.intro byL_id (And.intro lsV_id (And.intro lsL_id @tyV_id))))) ?_
    refine goG Y27_Ru True.intro ?_
    refine wdG Y27_Ru True.intro ?_
    refine AR.callP q1 True.intro (And.intro enV_id (And.intro enL_id (And.intro byL_id (And.intro lsV_id (And.intro lsL_id @tyV_id))))) ?_
    refine goG Y27_Ru u1 ?_
    refine AR.callP q2 True.intro (And.intro enV_id (And.intro enL_id (And.intro byL_id (And.intro lsV_id (And.intro lsL_id @tyV_id))))) ?_
    refine goG Y27_Ru (And.intro ud u5) ?_
    refine AR.callP q3 True.intro (And.intro enV_id (And.intro enL_id (And.intro byL_id (And.intro lsV_id (And.intro lsL_id @tyV_id))))) ?_
    refine goG Y27_Ru (And.intro u9 (And.intro uz (And.intro GDS (And.intro g1 (And.intro g2 (And.intro ht (And.intro byL_allS (And.intro (@List.length_map.{0, 0}) (And.intro BAT (And.intro bA_mk (And.intro hA (And.intro hcap enL_all)))))))))))) ?_
    rw [hln]
    refine wdG Y27_Ru (And.intro u9 (And.intro uz hm1)) ?_
    refine ALp.cutP 1 [(0, .sl (b.map byB) .ro), (5, .sl ((((m + 1, a + 9 + z, acc2) : Nat × Nat × List En)).2.2.map enV) (.own 0)), (6, (.im (.int .i64 ((((((m + 1, a + 9 + z, acc2) : Nat × Nat × List En)).2.1 : Nat) : Int))))), (7, (.im (.int .i64 (((N : Nat) : Int))))), (8, (.im (.int .i64 ((((((m + 1, a + 9 + z, acc2) : Nat × Nat × List En)).1 : Nat) : Int)))))] [.tip 46 4 (((m + 1, a + 9 + z, acc2) : Nat × Nat × List En)).2.2.length] (And.intro enV_id (And.intro enL_id (And.intro byL_id (And.intro lsV_id (And.intro lsL_id @tyV_id))))) ?_
    exact hn
  · obtain rfl : m = N := by omega
    have hlt' : ¬ ((m : Nat) : Int) < ((m : Nat) : Int) := by omega
    clear hnext hlt
    rw [Nat.sub_self, lsN] at h4
    rw [← h4] at h
    cases h
set_option maxHeartbeats 4000000 in
theorem c_ent1 (b : Bs) (hb : b.length ≤ 1000) (h6 : 6 ≤ b.length) (h : (lsN b (rdB b 4 2) [] 6 false).2.2 = false) : PC Tryz.prog 27 [.sl (b.map byB) .ro] (.tu [.sl ((lsN b (rdB b 4 2) [] 6 false).1.map enV) .ro, (.im (.int .i64 ((((lsN b (rdB b 4 2) [] 6 false).2.1 : Nat) : Int)))), (.im (.bool (decide (2 ≤ b.length - (lsN b (rdB b 4 2) [] 6 false).2.1))))]) := by
  refine PC.enter 77 Tryz.func27 rfl (by decide) rfl rfl (s := [(0, .sl (b.map byB) .ro)]) (by rfl) ?_
  have h6' : ¬ ((b.length : Nat) : Int) < 6 := by omega
  have hN := rdB_lt b 4 2
  have r0 : PC Tryz.prog 29 [.sl (b.map byB) .ro, (.im (.int .i64 (4))), (.im (.int .i64 (2)))] (.im (.int .i64 (((rdB b 4 2 : Nat) : Int)))) := c_rd b 4 2 (by decide) (by omega) (by omega)
  generalize rdB b 4 2 = N at *
  rw [show (256 : Nat) ^ 2 = 65536 from rfl] at hN
  refine wG Y27_Ru (And.intro h6' @List.length_map.{0, 0}) ?_
  refine AR.callP r0 True.intro (And.intro enV_id (And.intro enL_id (And.intro byL_id (And.intro lsV_id (And.intro lsL_id @tyV_id))))) ?_
  refine goG Y27_Ru True.intro ?_
  refine wG Y27_Ru True.intro ?_
  refine AWp.loop ?_
  refine ALp.cutP 0 [(0, .sl (b.map byB) .ro), (5, .sl [] .nl), (6, (.im (.int .i64 (6)))), (7, (.im (.int .i64 (((N : Nat) : Int))))), (8, (.im (.int .i64 (0))))] [] (And.intro enV_id (And.intro enL_id (And.intro byL_id (And.intro lsV_id (And.intro lsL_id @tyV_id))))) ?_
  refine ALp.ghost 5 [] .nl 46 4 ?_
  suffices H : ∀ x : Nat × Nat × List En, EI b N x → ALp _ _ _ _ _ ⟨dn 77 [(0, .sl (b.map byB) .ro), (5, .sl ((x).2.2.map enV) (.own 0)), (6, (.im (.int .i64 ((((x).2.1 : Nat) : Int))))), (7, (.im (.int .i64 (((N : Nat) : Int))))), (8, (.im (.int .i64 ((((x).1 : Nat) : Int)))))], ofl [.tip 46 4 (x).2.2.length]⟩ by
    exact H (0, 6, []) ⟨Nat.zero_le _, rfl, by dsimp only; omega, rfl⟩
  refine ALp.meas (α := Nat × Nat × List En) (fun x => ⟨dn 77 [(0, .sl (b.map byB) .ro), (5, .sl ((x).2.2.map enV) (.own 0)), (6, (.im (.int .i64 ((((x).2.1 : Nat) : Int))))), (7, (.im (.int .i64 (((N : Nat) : Int))))), (8, (.im (.int .i64 ((((x).1 : Nat) : Int)))))], ofl [.tip 46 4 (x).2.2.length]⟩) (EI b N) (fun x => N - x.1) ?_
  rintro ⟨m, a, acc⟩ ⟨h1, h2, h3, h4⟩ hnext
  dsimp only at h1 h2 h3 h4
  by_cases hlt : m < N
  · have hlt' : ((m : Nat) : Int) < ((N : Nat) : Int) := by omega
    have w1 : IntKind.i64.wrap ((b.length : Int) - (a : Int)) = ((b.length - a : Nat) : Int) := by rw [wrap_in (by omega)]; omega
    by_cases h9 : b.length - a < 9
    · exfalso
      rw [show N - m = N - (m + 1) + 1 by omega] at h4
      have h5 := ls_bad (b := b) (n := N - (m + 1)) (acc := acc) (a := a) (.inl h9)
      rw [h4, h] at h5
      cases h5
    have h9' : ¬ ((b.length - a : Nat) : Int) < 9 := by omega
    have w2 : IntKind.i64.wrap (((b.length - a : Nat) : Int) - 9) = ((b.length - a - 9 : Nat) : Int) := by rw [wrap_in (by omega)]; omega
    have w3 : IntKind.i64.wrap (((a : Nat) : Int) + 7) = ((a + 7 : Nat) : Int) := by rw [wrap_in (by omega)]; omega
    have r7 : PC Tryz.prog 29 [.sl (b.map byB) .ro, (.im (.int .i64 (((a + 7 : Nat) : Int)))), (.im (.int .i64 (2)))] (.im (.int .i64 (((rdB b (a + 7) 2 : Nat) : Int)))) := c_rd b (a + 7) 2 (by decide) (by omega) (by omega)
    obtain ⟨z, hz⟩ : ∃ z, rdB b (a + 7) 2 = z := ⟨_, rfl⟩
    rw [hz] at r7
    by_cases hz9 : b.length - a - 9 < z
    · exfalso
      rw [show N - m = N - (m + 1) + 1 by omega] at h4
      have h5 := ls_bad (b := b) (n := N - (m + 1)) (acc := acc) (a := a) (.inr (by omega))
      rw [h4, h] at h5
      cases h5
    have hz9' : ¬ ((b.length - a - 9 : Nat) : Int) < ((z : Nat) : Int) := by omega
    rw [show N - m = N - (m + 1) + 1 by omega, ls_ok (by omega), hz] at h4
    have hn := hnext (m + 1, a + 9 + z, acc ++ [enR b a]) (by simp; omega) ⟨by dsimp only; omega, by simp; omega, by dsimp only; omega, h4⟩
    clear hnext h4
    have q1 : PC Tryz.prog 29 [.sl (b.map byB) .ro, (.im (.int .i64 (((a : Nat) : Int)))), (.im (.int .i64 (1)))] (.im (.int .i64 (((rdB b a 1 : Nat) : Int)))) := c_rd b a 1 (by decide) (by omega) (by omega)
    have q2 : PC Tryz.prog 29 [.sl (b.map byB) .ro, (.im (.int .i64 (((a + 1 : Nat) : Int)))), (.im (.int .i64 (4)))] (.im (.int .i64 (((rdB b (a + 1) 4 : Nat) : Int)))) := c_rd b (a + 1) 4 (by decide) (by omega) (by omega)
    have q3 : PC Tryz.prog 29 [.sl (b.map byB) .ro, (.im (.int .i64 (((a + 5 : Nat) : Int)))), (.im (.int .i64 (2)))] (.im (.int .i64 (((rdB b (a + 5) 2 : Nat) : Int)))) := c_rd b (a + 5) 2 (by decide) (by omega) (by omega)
    have hd := rdB_lt b (a + 1) 4
    rw [show (256 : Nat) ^ 4 = 4294967296 from rfl] at hd
    have ht := take_by b (a + 9) z
    have hE : enR b a = ⟨((rdB b a 1 : Nat) : Int), ((rdB b (a + 5) 2 : Nat) : Int), ((rdB b (a + 1) 4 : Nat) : Int), (b.drop (a + 9)).take z⟩ := by unfold enR; rw [hz]
    have hA : acc.map enV ++ [enV (enR b a)] = (acc ++ [enR b a]).map enV := by rw [List.map_append]; rfl
    have hln : acc.length + 1 = (acc ++ [enR b a]).length := by simp
    have hcap : (acc.length + 1) * 40 ≤ 140737488355328 := by omega
    generalize acc ++ [enR b a] = acc2 at hn hA hln
    rw [hE, enV_eq] at hA
    dsimp only at hA
    clear hE
    generalize rdB b a 1 = k at *
    generalize rdB b (a + 1) 4 = d at *
    generalize rdB b (a + 5) 2 = v at *
    generalize (b.drop (a + 9)).take z = tx at *
    have u1 : IntKind.i64.wrap (((a : Nat) : Int) + 1) = ((a + 1 : Nat) : Int) := by rw [wrap_in (by omega)]; omega
    have u5 : IntKind.i64.wrap (((a : Nat) : Int) + 5) = ((a + 5 : Nat) : Int) := by rw [wrap_in (by omega)]; omega
    have u9 : IntKind.i64.wrap (((a : Nat) : Int) + 9) = ((a + 9 : Nat) : Int) := by rw [wrap_in (by omega)]; omega
    have uz : IntKind.i64.wrap (((a + 9 : Nat) : Int) + ((z : Nat) : Int)) = ((a + 9 + z : Nat) : Int) := by rw [wrap_in (by omega)]; omega
    have ud : IntKind.u32.wrap ((d : Nat) : Int) = ((d : Nat) : Int) := by rw [IntKind.wrap_u32]; omega
    have g1 : ((a + 9 : Nat) : Int) ≤ ((a + 9 + z : Nat) : Int) := by omega
    have g2 : ((a + 9 + z : Nat) : Int) ≤ (b.length : Int) := by omega
    have hm1 := wrap_succ (m := m) (N := 140737488355328) (by omega) (by decide)
    refine wdG Y27_Ru (And.intro hlt' (And.intro w1 (And.intro h9' (And.intro w2 (And.intro w3 @List.length_map.{0, 0}))))) ?_
    refine AR.callP r7 True.intro (And.intro enV_id (And.intro enL_id (And.intro byL_id (And.intro lsV_id (And.intro lsL_id @tyV_id))))) ?_
    refine goG Y27_Ru hz9' ?_
    refine wdG Y27_Ru w3 ?_
    refine AR.callP r7 True.intro (And.intro enV_id (And.intro enL_id (And.intro byL_id (And.intro lsV_id (And.intro lsL_id @tyV_id))))) ?_
    refine goG Y27_Ru True.intro ?_
    refine wdG Y27_Ru True.intro ?_
    refine AR.callP q1 True.intro (And.intro enV_id (And.intro enL_id (And.intro byL_id (And.intro lsV_id (And.intro lsL_id @tyV_id))))) ?_
    refine goG Y27_Ru u1 ?_
    refine AR.callP q2 True.intro (And.intro enV_id (And.intro enL_id (And.intro byL_id (And.intro lsV_id (And.intro lsL_id @tyV_id))))) ?_
    refine goG Y27_Ru (And.intro ud u5) ?_
    refine AR.callP q3 True.intro (And.intro enV_id (And.intro enL_id (And.intro byL_id (And.intro lsV_id (And.intro lsL_id @tyV_id))))) ?_
    refine goG Y27_Ru (And.intro u9 (And.intro uz (And.intro GDS (And.intro g1 (And.intro g2 (And.intro ht (And.intro byL_allS (And.intro (@List.length_map.{0, 0}) (And.intro BAT (And.intro bA_mk (And.intro hA (And.intro hcap enL_all)))))))))))) ?_
    rw [hln]
    refine wdG Y27_Ru (And.intro u9 (And.intro uz hm1)) ?_
    refine ALp.cutP 1 [(0, .sl (b.map byB) .ro), (5, .sl ((((m + 1, a + 9 + z, acc2) : Nat × Nat × List En)).2.2.map enV) (.own 0)), (6, (.im (.int .i64 ((((((m + 1, a + 9 + z, acc2) : Nat × Nat × List En)).2.1 : Nat) : Int))))), (7, (.im (.int .i64 (((N : Nat) : Int))))), (8, (.im (.int .i64 ((((((m + 1, a + 9 + z, acc2) : Nat × Nat × List En)).1 : Nat) : Int)))))] [.tip 46 4 (((m + 1, a + 9 + z, acc2) : Nat × Nat × List En)).2.2.length] (And.intro enV_id (And.intro enL_id (And.intro byL_id (And.intro lsV_id (And.intro lsL_id @tyV_id))))) ?_
    exact hn
  · obtain rfl : m = N := by omega
    have hlt' : ¬ ((m : Nat) : Int) < ((m : Nat) : Int) := by omega
    clear hnext hlt
    rw [Nat.sub_self, lsN] at h4
    rw [← h4] at h ⊢
    dsimp only
    have w1 : IntKind.i64.wrap ((b.length : Int) - (a : Int)) = ((b.length - a : Nat) : Int) := by rw [wrap_in (by omega)]; omega
    have hge : (((b.length - a : Nat) : Int) ≥ 2) = (2 ≤ b.length - a) := propext (by omega)
    refine wG Y27_Ru (And.intro hlt' (And.intro w1 (And.intro hge @List.length_map.{0, 0}))) ?_
    refine Fin.gen0 (rs := [.tmp 2, .tmp 3, .tmp 4]) rfl (by first | exact .inl rfl | exact .inr rfl) (finG Y27_Ru) ?_
    skip
    all_goals exact wkG (And.intro enV_id (And.intro enL_id (And.intro byL_id (And.intro lsV_id (And.intro lsL_id @tyV_id)))))
end Go.Proofs.YtianekkfehoedaaGreatDoor
