/- Walks of the reference: Load. -/
import Derived.Test.YtianekkfehoedaaGreatDoorHv
import Derived.Test.YtianekkfehoedaaGreatDoorRu
import Derived.Test.YtianekkfehoedaaGreatDoorZf
namespace Go.Proofs.YtianekkfehoedaaGreatDoor
set_option linter.unusedSimpArgs false
set_option linter.unusedVariables false
set_option linter.unnecessarySimpa false
open Go.RowKit
theorem enc_text : ∀ {l : List En} {e : En}, e ∈ l → e.text.length ≤ (encL l).length
  | x :: l, e, h => by
    rw [encL, List.length_append]
    rcases List.mem_cons.1 h with rfl | h
    · unfold encE; simp only [List.length_append]; omega
    · have := enc_text h; omega
def ldV (R : Int × List En) : V := if R.1 = 0 then .ag [(.im (.bool (true))), .sl (R.2.map enV) .ro, .sl [] .ro, .sl [] .ro] else .ag [(.im (.bool (false))), .sl [] .nl, .sl [] .nl, .sl [] .nl]
theorem ascB_drop {l : List En} {m : Nat} {x y : En} (hx : l[m]? = some x) (hy : l[m + 1]? = some y) : ascB (l.drop m) = (ltE x y && ascB (l.drop (m + 1))) := by
  obtain ⟨h1, rfl⟩ := List.getElem?_eq_some_iff.1 hx
  obtain ⟨h2, rfl⟩ := List.getElem?_eq_some_iff.1 hy
  rw [List.drop_eq_getElem_cons h1, List.drop_eq_getElem_cons h2]
  rfl
theorem ascB_end {l : List En} {m : Nat} (h : l.length ≤ m + 1) : ascB (l.drop m) = true := by
  have h2 : (l.drop m).length ≤ 1 := by simp; omega
  match hd : l.drop m, h2 with
  | [], _ => rfl
  | [_], _ => rfl
theorem ldF_drop {l : List En} {m : Nat} {e : En} (h : l[m]? = some e) (acc : List En) : ldF acc (l.drop m) = if eErr acc e = 0 then ldF (eWith acc e) (l.drop (m + 1)) else (eErr acc e, []) := by
  obtain ⟨h1, rfl⟩ := List.getElem?_eq_some_iff.1 h
  rw [List.drop_eq_getElem_cons h1, ldF]
theorem take_by0 (b : Bs) (n : Nat) : List.take n (b.map byB) = (b.take n).map byB := List.map_take.symm
theorem Y7_Rv : type_of% (And.intro @F_ag_28 (And.intro @F_ag_31 (And.intro @F_ag_46 (And.intro @F_al_31 (And.intro @F_el_22 (And.intro @F_el_28 (And.intro @F_fl_31_1 (And.intro @F_in_22 (And.intro @F_in_9 (And.intro @F_st_31 (And.intro @F_sz_28 (And.intro @F_sz_31 (And.intro @F_sz_46 (And.intro @F_sz_5 (And.intro @F_un_22 (And.intro @F_un_5 (@F_un_9))))))))))))))))) := And.intro @F_ag_28 (And.intro @F_ag_31 (And.intro @F_ag_46 (And.intro @F_al_31 (And.intro @F_el_22 (And.intro @F_el_28 (And.intro @F_fl_31_1 (And.intro @F_in_22 (And.intro @F_in_9 (And.intro @F_st_31 (And.intro @F_sz_28 (And.intro @F_sz_31 (And.intro @F_sz_46 (And.intro @F_sz_5 (And.intro @F_un_22 (And.intro @F_un_5 (@F_un_9))))))))))))))))
structure LI (l : List En) (R : Int × List En) (x : Nat × List En) : Prop where
  m : x.1 ≤ l.length
  asc : AscE x.2
  len : x.2.length ≤ 1024
  e : R = ldF x.2 (l.drop x.1)
set_option maxHeartbeats 4000000 in
theorem c_LoadR (b : Bs) (hb : b.length ≤ 1000) : PC Tryz.prog 7 [.sl (b.map byB) .ro] (.tu [ldV (ldN b), (.im (.int .i64 ((ldN b).1)))]) := by
  obtain ⟨R, hR⟩ : ∃ R, R = ldN b := ⟨_, rfl⟩
  rw [← hR]
  rw [ldN_eq] at hR
  refine PC.enter 87 Tryz.func7 rfl (by decide) rfl rfl (s := [(0, .sl (b.map byB) .ro)]) (by rfl) ?_
  by_cases h6 : b.length < 6 ∨ (lsN b (rdB b 4 2) [] 6 false).2.2 = true
  · have q := c_ent0 b hb h6
    rw [if_pos (by rcases h6 with h | h; exact .inl h; exact .inr (.inl h))] at hR
    rw [hR, show ldV (5, []) = .ag [(.im (.bool (false))), .sl [] .nl, .sl [] .nl, .sl [] .nl] from if_neg (by decide)]
    refine wG Y7_Rv True.intro ?_
    refine AR.callP q True.intro (And.intro enV_id (And.intro enL_id (And.intro byL_id (And.intro lsV_id (And.intro lsL_id @tyV_id))))) ?_
    refine goG Y7_Rv True.intro ?_
    refine wG Y7_Rv True.intro ?_
    refine Fin.gen0 (rs := [.cell 2 31, .tmp 3]) rfl (by first | exact .inl rfl | exact .inr rfl) (finG Y7_Rv) ?_
    skip
    all_goals exact wkG (And.intro enV_id (And.intro enL_id (And.intro byL_id (And.intro lsV_id (And.intro lsL_id @tyV_id)))))
  rw [not_or] at h6
  obtain ⟨h6, hw⟩ := h6
  have hw : (lsN b (rdB b 4 2) [] 6 false).2.2 = false := by simpa using hw
  have q := c_ent1 b hb (by omega) hw
  obtain ⟨l0, k1, k2, k3, k4, k5, k6⟩ := ls_inv (b := b) (acc := []) (a := 6) (by omega) hw
  have hN := rdB_lt b 4 2
  rw [show (256 : Nat) ^ 2 = 65536 from rfl] at hN
  rw [List.nil_append] at k1
  generalize lsN b (rdB b 4 2) [] 6 false = LS at *
  obtain ⟨l, at_, w⟩ := LS
  dsimp only at hw q k1 k3 hR
  subst k1 hw
  have hat : at_ ≤ b.length := by omega
  have htx : ∀ e ∈ l, e.text.length ≤ 1000 := fun e he => by have := enc_text he; omega
  have hll : l.length ≤ 65536 := by omega
  clear k2 k3 k4 k5 k6 hN
  by_cases h2 : b.length - at_ < 2
  · rw [if_pos (.inr (.inr h2))] at hR
    rw [hR, show ldV (5, []) = .ag [(.im (.bool (false))), .sl [] .nl, .sl [] .nl, .sl [] .nl] from if_neg (by decide)]
    rw [show decide (2 ≤ b.length - at_) = false by simp; omega] at q
    refine wG Y7_Rv True.intro ?_
    refine AR.callP q True.intro (And.intro enV_id (And.intro enL_id (And.intro byL_id (And.intro lsV_id (And.intro lsL_id @tyV_id))))) ?_
    refine goG Y7_Rv True.intro ?_
    refine wG Y7_Rv True.intro ?_
    refine Fin.gen0 (rs := [.cell 2 31, .tmp 3]) rfl (by first | exact .inl rfl | exact .inr rfl) (finG Y7_Rv) ?_
    skip
    all_goals exact wkG (And.intro enV_id (And.intro enL_id (And.intro byL_id (And.intro lsV_id (And.intro lsL_id @tyV_id)))))
  rw [if_neg (by simp; omega)] at hR
  rw [show decide (2 ≤ b.length - at_) = true by simp; omega] at q
  have he : ((bA (b.take 4)).toList == (bA [68, 67, 80, 49]).toList) = (b.take 4 == magicB) := bA_eq _ _
  have ht4 := take_by0 b 4
  have hta := take_by0 b at_
  have g4 : (4 : Int) ≤ (b.length : Int) := by omega
  have t4 : Int.toNat 4 = 4 := rfl
  have z4 : (0 : Int) ≤ 4 := by decide
  have gat : ((at_ : Nat) : Int) ≤ (b.length : Int) := by omega
  have g0 : (0 : Int) ≤ ((at_ : Nat) : Int) := by omega
  have wa : IntKind.i64.wrap (((at_ : Nat) : Int) + 2) = ((at_ + 2 : Nat) : Int) := by rw [wrap_in (by omega)]; omega
  generalize b.take 4 = b4 at *
  by_cases hm : b4 = magicB
  case neg =>
    rw [if_pos (.inl hm)] at hR
    rw [show (b4 == magicB) = false by simpa using hm] at he
    rw [hR, show ldV (4, []) = .ag [(.im (.bool (false))), .sl [] .nl, .sl [] .nl, .sl [] .nl] from if_neg (by decide)]
    by_cases hn : at_ + 2 = b.length
    · rw [hn] at wa
      refine wG Y7_Rv True.intro ?_
      refine AR.callP q True.intro (And.intro enV_id (And.intro enL_id (And.intro byL_id (And.intro lsV_id (And.intro lsL_id @tyV_id))))) ?_
      refine goG Y7_Rv True.intro ?_
      refine wG Y7_Rv (And.intro GDS (And.intro z4 (And.intro t4 (And.intro g4 (And.intro ht4 (And.intro byL_allS (And.intro BAT (And.intro bA_mk (And.intro he (And.intro (@List.length_map.{0, 0}) (And.intro wa (And.intro (@Bool.not_false) (And.intro (@Bool.true_eq_false) @Bool.not_true))))))))))))) ?_
      refine Fin.gen0 (rs := [.cell 2 31, .tmp 3]) rfl (by first | exact .inl rfl | exact .inr rfl) (finG Y7_Rv) ?_
      skip
      all_goals exact wkG (And.intro enV_id (And.intro enL_id (And.intro byL_id (And.intro lsV_id (And.intro lsL_id @tyV_id)))))
    · have hn' : ¬ ((b.length : Nat) : Int) = ((at_ + 2 : Nat) : Int) := by omega
      refine wG Y7_Rv True.intro ?_
      refine AR.callP q True.intro (And.intro enV_id (And.intro enL_id (And.intro byL_id (And.intro lsV_id (And.intro lsL_id @tyV_id))))) ?_
      refine goG Y7_Rv True.intro ?_
      refine wG Y7_Rv (And.intro GDS (And.intro z4 (And.intro t4 (And.intro g4 (And.intro ht4 (And.intro byL_allS (And.intro BAT (And.intro bA_mk (And.intro he (And.intro (@List.length_map.{0, 0}) (And.intro wa (And.intro hn' (And.intro (@Bool.not_false) (And.intro (@Bool.true_eq_false) @Bool.not_true)))))))))))))) ?_
      refine Fin.gen0 (rs := [.cell 2 31, .tmp 3]) rfl (by first | exact .inl rfl | exact .inr rfl) (finG Y7_Rv) ?_
      skip
      all_goals exact wkG (And.intro enV_id (And.intro enL_id (And.intro byL_id (And.intro lsV_id (And.intro lsL_id @tyV_id)))))
  rw [show (b4 == magicB) = true by simpa using hm] at he
  by_cases hn : at_ + 2 = b.length
  case neg =>
    rw [if_pos (.inr (.inr (.inl hn)))] at hR
    have hn' : ¬ ((b.length : Nat) : Int) = ((at_ + 2 : Nat) : Int) := by omega
    rw [hR, show ldV (4, []) = .ag [(.im (.bool (false))), .sl [] .nl, .sl [] .nl, .sl [] .nl] from if_neg (by decide)]
    refine wG Y7_Rv True.intro ?_
    refine AR.callP q True.intro (And.intro enV_id (And.intro enL_id (And.intro byL_id (And.intro lsV_id (And.intro lsL_id @tyV_id))))) ?_
    refine goG Y7_Rv True.intro ?_
    refine wG Y7_Rv (And.intro GDS (And.intro z4 (And.intro t4 (And.intro g4 (And.intro ht4 (And.intro byL_allS (And.intro BAT (And.intro bA_mk (And.intro he (And.intro (@List.length_map.{0, 0}) (And.intro wa hn'))))))))))) ?_
    refine Fin.gen0 (rs := [.cell 2 31, .tmp 3]) rfl (by first | exact .inl rfl | exact .inr rfl) (finG Y7_Rv) ?_
    skip
    all_goals exact wkG (And.intro enV_id (And.intro enL_id (And.intro byL_id (And.intro lsV_id (And.intro lsL_id @tyV_id)))))
  rw [hn] at wa
  have q2 := c_sumR (b.take at_) (by simp; omega)
  have q3 : PC Tryz.prog 29 [.sl (b.map byB) .ro, (.im (.int .i64 (((at_ : Nat) : Int)))), (.im (.int .i64 (2)))] (.im (.int .i64 (((rdB b at_ 2 : Nat) : Int)))) := c_rd b at_ 2 (by decide) (by omega) (by omega)
  generalize sumB (b.take at_) = su at *
  generalize b.take at_ = bt at *
  generalize rdB b at_ 2 = rn at *
  by_cases hs : rn = su
  case neg =>
    rw [if_pos (.inr (.inl hs))] at hR
    have hs' : ¬ ((su : Nat) : Int) = ((rn : Nat) : Int) := by omega
    rw [hR, show ldV (4, []) = .ag [(.im (.bool (false))), .sl [] .nl, .sl [] .nl, .sl [] .nl] from if_neg (by decide)]
    refine wG Y7_Rv True.intro ?_
    refine AR.callP q True.intro (And.intro enV_id (And.intro enL_id (And.intro byL_id (And.intro lsV_id (And.intro lsL_id @tyV_id))))) ?_
    refine goG Y7_Rv True.intro ?_
    refine wG Y7_Rv (And.intro GDS (And.intro z4 (And.intro t4 (And.intro g4 (And.intro ht4 (And.intro byL_allS (And.intro BAT (And.intro bA_mk (And.intro he (And.intro (@List.length_map.{0, 0}) (And.intro wa (And.intro g0 (And.intro gat (And.intro hta @ite_ro)))))))))))))) ?_
    refine AR.callP q2 True.intro (And.intro enV_id (And.intro enL_id (And.intro byL_id (And.intro lsV_id (And.intro lsL_id @tyV_id))))) ?_
    refine goG Y7_Rv True.intro ?_
    refine AR.callP q3 True.intro (And.intro enV_id (And.intro enL_id (And.intro byL_id (And.intro lsV_id (And.intro lsL_id @tyV_id))))) ?_
    refine goG Y7_Rv hs' ?_
    refine wG Y7_Rv True.intro ?_
    refine Fin.gen0 (rs := [.cell 2 31, .tmp 3]) rfl (by first | exact .inl rfl | exact .inr rfl) (finG Y7_Rv) ?_
    skip
    all_goals exact wkG (And.intro enV_id (And.intro enL_id (And.intro byL_id (And.intro lsV_id (And.intro lsL_id @tyV_id)))))
  replace hR : R = if ascB l = false then (4, []) else ldF [] l := by
    rw [hR]
    simp only [hm, hn, hs, ne_eq, not_true_eq_false, false_or]
  subst hs
  refine wG Y7_Rv True.intro ?_
  refine AR.callP q True.intro (And.intro enV_id (And.intro enL_id (And.intro byL_id (And.intro lsV_id (And.intro lsL_id @tyV_id))))) ?_
  refine goG Y7_Rv True.intro ?_
  refine wG Y7_Rv (And.intro GDS (And.intro z4 (And.intro t4 (And.intro g4 (And.intro ht4 (And.intro byL_allS (And.intro BAT (And.intro bA_mk (And.intro he (And.intro (@List.length_map.{0, 0}) (And.intro wa (And.intro g0 (And.intro gat (And.intro hta @ite_ro)))))))))))))) ?_
  refine AR.callP q2 True.intro (And.intro enV_id (And.intro enL_id (And.intro byL_id (And.intro lsV_id (And.intro lsL_id @tyV_id))))) ?_
  refine goG Y7_Rv True.intro ?_
  refine AR.callP q3 True.intro (And.intro enV_id (And.intro enL_id (And.intro byL_id (And.intro lsV_id (And.intro lsL_id @tyV_id))))) ?_
  refine goG Y7_Rv True.intro ?_
  refine wG Y7_Rv True.intro ?_
  refine AWp.loop ?_
  refine ALp.cutP 1 [(2, .pt 0 0), (4, .sl (l.map enV) .ro), (7, (.im (.int .i64 (1))))] [.box [(.im (.bool (false))), .sl [] .nl, .sl [] .nl, .sl [] .nl]] (And.intro enV_id (And.intro enL_id (And.intro byL_id (And.intro lsV_id (And.intro lsL_id @tyV_id))))) ?_
  suffices H : ∀ m : Nat, ascB (l.drop m) = ascB l → ALp _ _ _ _ _ ⟨dn 87 [(2, .pt 0 0), (4, .sl (l.map enV) .ro), (7, (.im (.int .i64 ((((m + 1 : Nat)) : Int)))))], ofl [.box [(.im (.bool (false))), .sl [] .nl, .sl [] .nl, .sl [] .nl]]⟩ by
    exact H 0 rfl
  refine ALp.meas (α := Nat) (fun m => ⟨dn 87 [(2, .pt 0 0), (4, .sl (l.map enV) .ro), (7, (.im (.int .i64 ((((m + 1 : Nat)) : Int)))))], ofl [.box [(.im (.bool (false))), .sl [] .nl, .sl [] .nl, .sl [] .nl]]⟩) (fun m => ascB (l.drop m) = ascB l) (fun m => l.length - m) ?_
  rintro m h1 hnext
  by_cases hlt : m + 1 < l.length
  · have hlt' : ((m + 1 : Nat) : Int) < (l.length : Int) := by omega
    have hg1 := get_some (l := l) (m := m) (by omega)
    have hg2 := get_some hlt
    have hm0 : IntKind.i64.wrap (((m + 1 : Nat) : Int) - 1) = ((m : Nat) : Int) := by rw [wrap_in (by omega)]; omega
    have hm1 := wrap_succ hlt (by omega)
    rw [ascB_drop (List.getElem?_eq_getElem (by omega)) (List.getElem?_eq_getElem hlt)] at h1
    have qb := c_before l[m] l[m + 1]
    generalize l[m + 1] = y at hg2 h1 qb
    generalize l[m] = x at hg1 h1 qb
    cases hlt2 : ltE x y with
    | false =>
      rw [hlt2] at qb
      rw [hlt2, Bool.false_and] at h1
      rw [if_pos h1.symm] at hR
      rw [hR, show ldV (4, []) = .ag [(.im (.bool (false))), .sl [] .nl, .sl [] .nl, .sl [] .nl] from if_neg (by decide)]
      clear hnext
      refine wdG Y7_Rv (And.intro hlt' (And.intro (@List.length_map.{0, 0}) (And.intro hm0 (And.intro ENT (And.intro hg1 hg2))))) ?_
      refine AR.callP qb enV_eq (And.intro enV_id (And.intro enL_id (And.intro byL_id (And.intro lsV_id (And.intro lsL_id @tyV_id))))) ?_
      refine goG Y7_Rv True.intro ?_
      refine wdG Y7_Rv True.intro ?_
      refine Fin.gen0 (rs := [.cell 2 31, .tmp 3]) rfl (by first | exact .inl rfl | exact .inr rfl) (finG Y7_Rv) ?_
      skip
      all_goals exact wkG (And.intro enV_id (And.intro enL_id (And.intro byL_id (And.intro lsV_id (And.intro lsL_id @tyV_id)))))
    | true =>
      rw [hlt2] at qb
      rw [hlt2, Bool.true_and] at h1
      have hn := hnext (m + 1) (by omega) h1
      clear hnext
      refine wdG Y7_Rv (And.intro hlt' (And.intro (@List.length_map.{0, 0}) (And.intro hm0 (And.intro ENT (And.intro hg1 hg2))))) ?_
      refine AR.callP qb enV_eq (And.intro enV_id (And.intro enL_id (And.intro byL_id (And.intro lsV_id (And.intro lsL_id @tyV_id))))) ?_
      refine goG Y7_Rv True.intro ?_
      refine wdG Y7_Rv hm1 ?_
      refine ALp.cutP 1 [(2, .pt 0 0), (4, .sl (l.map enV) .ro), (7, (.im (.int .i64 ((((m + 1 + 1 : Nat)) : Int)))))] [.box [(.im (.bool (false))), .sl [] .nl, .sl [] .nl, .sl [] .nl]] (And.intro enV_id (And.intro enL_id (And.intro byL_id (And.intro lsV_id (And.intro lsL_id @tyV_id))))) ?_
      exact hn
  have hlt' : ¬ ((m + 1 : Nat) : Int) < (l.length : Int) := by omega
  rw [ascB_end (by omega)] at h1
  rw [if_neg (by rw [← h1]; decide)] at hR
  clear hnext
  have qn := c_NewR
  refine wG Y7_Rv (And.intro hlt' @List.length_map.{0, 0}) ?_
  refine AR.callP qn True.intro (And.intro enV_id (And.intro enL_id (And.intro byL_id (And.intro lsV_id (And.intro lsL_id @tyV_id))))) ?_
  refine goG Y7_Rv True.intro ?_
  refine wG Y7_Rv True.intro ?_
  refine AWp.loop ?_
  refine ALp.cutP 2 [(2, .pt 0 0), (4, .sl (l.map enV) .ro), (8, .pt 1 0), (9, (.im (.int .i64 ((((((0, []) : Nat × List En)).1 : Nat) : Int)))))] [.box [(.im (.bool (false))), .sl [] .nl, .sl [] .nl, .sl [] .nl], .box [(.im (.bool (true))), .sl ((((0, []) : Nat × List En)).2.map enV) .ro, .sl [] .ro, .sl [] .ro]] (And.intro enV_id (And.intro enL_id (And.intro byL_id (And.intro lsV_id (And.intro lsL_id @tyV_id))))) ?_
  suffices H : ∀ x : Nat × List En, LI l R x → ALp _ _ _ _ _ ⟨dn 87 [(2, .pt 0 0), (4, .sl (l.map enV) .ro), (8, .pt 1 0), (9, (.im (.int .i64 ((((x).1 : Nat) : Int)))))], ofl [.box [(.im (.bool (false))), .sl [] .nl, .sl [] .nl, .sl [] .nl], .box [(.im (.bool (true))), .sl ((x).2.map enV) .ro, .sl [] .ro, .sl [] .ro]]⟩ by
    exact H (0, []) ⟨Nat.zero_le _, List.Pairwise.nil, Nat.zero_le _, hR⟩
  clear hR
  refine ALp.meas (α := Nat × List En) (fun x => ⟨dn 87 [(2, .pt 0 0), (4, .sl (l.map enV) .ro), (8, .pt 1 0), (9, (.im (.int .i64 ((((x).1 : Nat) : Int)))))], ofl [.box [(.im (.bool (false))), .sl [] .nl, .sl [] .nl, .sl [] .nl], .box [(.im (.bool (true))), .sl ((x).2.map enV) .ro, .sl [] .ro, .sl [] .ro]]⟩) (LI l R) (fun x => l.length - x.1) ?_
  rintro ⟨m, acc⟩ ⟨h1, h2, h3, h4⟩ hnext
  dsimp only at h1 h2 h3 h4
  by_cases hlt : m < l.length
  · have hlt' : ((m : Nat) : Int) < (l.length : Int) := by omega
    have hg := get_some hlt
    have hm1 := wrap_succ hlt (by omega)
    rw [ldF_drop (List.getElem?_eq_getElem hlt)] at h4
    have hte := htx l[m] (List.getElem_mem hlt)
    generalize l[m] = e at hg h4 hte
    have q4 := c_accR acc e h2 (by omega) (by omega)
    have q5 := c_withR acc e h2 (by omega)
    by_cases hE : eErr acc e = 0
    · rw [if_pos hE] at h4
      rw [hE] at q4
      have hn := hnext (m + 1, eWith acc e) (by simp; omega) ⟨by simp; omega, asc_eWith h2 e, len_eWith h3 hE, h4⟩
      clear hnext h4
      generalize eWith acc e = w at q5 hn
      refine wdG Y7_Rv (And.intro hlt' (And.intro (@List.length_map.{0, 0}) (And.intro ENT hg))) ?_
      refine AR.callP q4 enV_eq (And.intro enV_id (And.intro enL_id (And.intro byL_id (And.intro lsV_id (And.intro lsL_id @tyV_id))))) ?_
      refine goG Y7_Rv True.intro ?_
      refine wdG Y7_Rv (And.intro ENT hg) ?_
      refine AR.callP q5 enV_eq (And.intro enV_id (And.intro enL_id (And.intro byL_id (And.intro lsV_id (And.intro lsL_id @tyV_id))))) ?_
      refine goG Y7_Rv True.intro ?_
      refine wdG Y7_Rv hm1 ?_
      refine ALp.cutP 2 [(2, .pt 0 0), (4, .sl (l.map enV) .ro), (8, .pt 1 0), (9, (.im (.int .i64 ((((((m + 1, w) : Nat × List En)).1 : Nat) : Int)))))] [.box [(.im (.bool (false))), .sl [] .nl, .sl [] .nl, .sl [] .nl], .box [(.im (.bool (true))), .sl ((((m + 1, w) : Nat × List En)).2.map enV) .ro, .sl [] .ro, .sl [] .ro]] (And.intro enV_id (And.intro enL_id (And.intro byL_id (And.intro lsV_id (And.intro lsL_id @tyV_id))))) ?_
      exact hn
    · rw [if_neg hE] at h4
      rw [h4, show ldV (eErr acc e, []) = .ag [(.im (.bool (false))), .sl [] .nl, .sl [] .nl, .sl [] .nl] from if_neg hE]
      clear hnext h4
      generalize eErr acc e = ee at hE q4
      refine wdG Y7_Rv (And.intro hlt' (And.intro (@List.length_map.{0, 0}) (And.intro ENT hg))) ?_
      refine AR.callP q4 enV_eq (And.intro enV_id (And.intro enL_id (And.intro byL_id (And.intro lsV_id (And.intro lsL_id @tyV_id))))) ?_
      refine goG Y7_Rv hE ?_
      refine wdG Y7_Rv hE ?_
      refine Fin.gen0 (rs := [.cell 2 31, .tmp 3]) rfl (by first | exact .inl rfl | exact .inr rfl) (finG Y7_Rv) ?_
      skip
      all_goals exact wkG (And.intro enV_id (And.intro enL_id (And.intro byL_id (And.intro lsV_id (And.intro lsL_id @tyV_id)))))
  · obtain rfl : m = l.length := by omega
    have hlt' : ¬ ((l.length : Nat) : Int) < (l.length : Int) := by omega
    rw [List.drop_length, ldF] at h4
    rw [h4, show ldV (0, acc) = .ag [(.im (.bool (true))), .sl (acc.map enV) .ro, .sl [] .ro, .sl [] .ro] from if_pos rfl]
    clear hnext h4 hlt
    refine wdG Y7_Rv (And.intro hlt' @List.length_map.{0, 0}) ?_
    refine Fin.gen0 (rs := [.cell 2 31, .tmp 3]) rfl (by first | exact .inl rfl | exact .inr rfl) (finG Y7_Rv) ?_
    skip
    all_goals exact wkG (And.intro enV_id (And.intro enL_id (And.intro byL_id (And.intro lsV_id (And.intro lsL_id @tyV_id)))))
end Go.Proofs.YtianekkfehoedaaGreatDoor
