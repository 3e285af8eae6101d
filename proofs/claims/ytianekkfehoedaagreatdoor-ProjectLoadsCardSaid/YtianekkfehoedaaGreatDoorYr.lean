/- Walks: the reference's reader of types; the law TypesParse. -/
import Derived.Test.YtianekkfehoedaaGreatDoorHv
import Derived.Test.YtianekkfehoedaaGreatDoorYz
import Derived.Test.YtianekkfehoedaaGreatDoorYq
namespace Go.Proofs.YtianekkfehoedaaGreatDoor
set_option linter.unusedSimpArgs false
set_option linter.unusedVariables false
set_option linter.unnecessarySimpa false
open Go.RowKit
theorem Y100_Yr : type_of% (And.intro @F_ag_100 (And.intro @F_al_100 (And.intro @F_st_100 (@F_sz_100)))) := And.intro @F_ag_100 (And.intro @F_al_100 (And.intro @F_st_100 (@F_sz_100)))
theorem c_IntR3 (n : Int) : PC Tryz.prog 100 [(.im (.int .i64 (n)))] (tyV (.mk 0 1 n 0 [] [])) := by
  refine PC.enter 5 Tryz.func100 rfl (by decide) rfl rfl (s := [(0, (.im (.int .i64 (n))))]) (by rfl) ?_
  refine wG Y100_Yr True.intro ?_
  refine Fin.gen0 (rs := [.cell 2 100]) rfl (by first | exact .inl rfl | exact .inr rfl) (finG Y100_Yr) ?_
  simp only [tyV_mk, List.map_nil]
  all_goals exact wkG (And.intro (@tyV_id) (And.intro (@fdV_id) (And.intro (@tyL_id) (And.intro (@fdL_id) byV_id))))
theorem Y101_Yr : type_of% (And.intro @F_ag_100 (And.intro @F_al_100 (And.intro @F_st_100 (@F_sz_100)))) := And.intro @F_ag_100 (And.intro @F_al_100 (And.intro @F_st_100 (@F_sz_100)))
theorem c_UintR3 (n : Int) : PC Tryz.prog 101 [(.im (.int .i64 (n)))] (tyV (.mk 0 2 n 0 [] [])) := by
  refine PC.enter 5 Tryz.func101 rfl (by decide) rfl rfl (s := [(0, (.im (.int .i64 (n))))]) (by rfl) ?_
  refine wG Y101_Yr True.intro ?_
  refine Fin.gen0 (rs := [.cell 2 100]) rfl (by first | exact .inl rfl | exact .inr rfl) (finG Y101_Yr) ?_
  simp only [tyV_mk, List.map_nil]
  all_goals exact wkG (And.intro (@tyV_id) (And.intro (@fdV_id) (And.intro (@tyL_id) (And.intro (@fdL_id) byV_id))))
/-- Where the reference stands behind what it read. -/
def posI (l : Bs) (o : Option Bs) : Int := match o with
  | some r => ((l.length - r.length : Nat) : Int)
  | none => -1
theorem wdP_at {l : Bs} {m : Nat} (hm : m < wdL.length) (h : ∀ j, (hj : j < wdL.length) → j < m → wdL[j].1.isPrefixOf l = false) (hp : wdL[m].1.isPrefixOf l = true) : wdP l = (wdL[m].2, some (l.drop wdL[m].1.length)) := by
  have : wdL.find? (fun p => p.1.isPrefixOf l) = some wdL[m] := by
    rw [List.find?_eq_some_iff_getElem]
    exact ⟨hp, m, hm, rfl, fun j hj => by rw [h j (by omega) hj]; rfl⟩
  unfold wdP
  rw [this]
theorem wdP_no {l : Bs} (h : ∀ j, (hj : j < wdL.length) → wdL[j].1.isPrefixOf l = false) : wdP l = (tz, none) := by
  have : wdL.find? (fun p => p.1.isPrefixOf l) = none := by
    rw [List.find?_eq_none]
    intro x hx
    obtain ⟨j, hj, rfl⟩ := List.getElem_of_mem hx
    rw [h j hj]
    decide
  unfold wdP
  rw [this]
def wV (p : Bs × Ty) : V := .im (.string (bA p.1))
def wT (p : Bs × Ty) : V := tyV p.2
theorem wV_eq (p : Bs × Ty) : wV p = .im (.string (bA p.1)) := rfl
theorem wT_eq (p : Bs × Ty) : wT p = tyV p.2 := rfl
theorem wk_nl {k s c : Int} : Wk (.ag [(.im (.int .i64 (k))), (.im (.int .i64 (s))), (.im (.int .i64 (c))), .sl [] .nl, .sl [] .nl]) (.ag [(.im (.int .i64 (k))), (.im (.int .i64 (s))), (.im (.int .i64 (c))), .sl [] .ro, .sl [] .ro]) := Wk.agL (.cons (Wk.refl _) (.cons (Wk.refl _) (.cons (Wk.refl _) (.cons (Wk.ro _ _) (.cons (Wk.ro _ _) .nil)))))
theorem wk_all : Wk (.sl [.ag [(.im (.int .i64 (0))), (.im (.int .i64 (0))), (.im (.int .i64 (0))), .sl [] .nl, .sl [] .nl], .ag [(.im (.int .i64 (6))), (.im (.int .i64 (0))), (.im (.int .i64 (0))), .sl [] .nl, .sl [] .nl], .ag [(.im (.int .i64 (1))), (.im (.int .i64 (1))), (.im (.int .i64 (0))), .sl [] .ro, .sl [] .ro], .ag [(.im (.int .i64 (1))), (.im (.int .i64 (2))), (.im (.int .i64 (0))), .sl [] .ro, .sl [] .ro], .ag [(.im (.int .i64 (1))), (.im (.int .i64 (4))), (.im (.int .i64 (0))), .sl [] .ro, .sl [] .ro], .ag [(.im (.int .i64 (2))), (.im (.int .i64 (1))), (.im (.int .i64 (0))), .sl [] .ro, .sl [] .ro], .ag [(.im (.int .i64 (2))), (.im (.int .i64 (2))), (.im (.int .i64 (0))), .sl [] .ro, .sl [] .ro], .ag [(.im (.int .i64 (2))), (.im (.int .i64 (4))), (.im (.int .i64 (0))), .sl [] .ro, .sl [] .ro]] .full) (.sl (wdL.map wT) .ro) := by
  have e : ∀ k s : Int, wT ([], .mk 0 k s 0 [] []) = .ag [(.im (.int .i64 (k))), (.im (.int .i64 (s))), (.im (.int .i64 (0))), .sl [] .ro, .sl [] .ro] := fun k s => by unfold wT; rw [tyV_mk]; rfl
  have e2 : wdL.map wT = [wT ([], .mk 0 0 0 0 [] []), wT ([], .mk 0 6 0 0 [] []), wT ([], .mk 0 1 1 0 [] []), wT ([], .mk 0 1 2 0 [] []), wT ([], .mk 0 1 4 0 [] []), wT ([], .mk 0 2 1 0 [] []), wT ([], .mk 0 2 2 0 [] []), wT ([], .mk 0 2 4 0 [] [])] := rfl
  rw [e2]
  simp only [e]
  exact Wk.slL (.cons wk_nl rfl (.cons wk_nl rfl (.cons (Wk.refl _) rfl (.cons (Wk.refl _) rfl (.cons (Wk.refl _) rfl (.cons (Wk.refl _) rfl (.cons (Wk.refl _) rfl (.cons (Wk.refl _) rfl .nil))))))))
theorem wT_ids2 (s : ByteArray) (i : Int) : idsA (ltB 1) [(0, .im (.string s)), (1, (.im (.int .i64 (i)))), (4, .pt 0 0), (6, .sl (wdL.map wV) .ro), (7, .sl (wdL.map wT) .ro), (8, (.im (.int .i64 (((0 : Nat) : Int)))))] = true := by
  have e : ∀ (b : Nat → Bool) p, (wT p).ids b = true := fun b p => tyV_id _ _
  have e2 : ∀ (b : Nat → Bool) p, (wV p).ids b = true := fun b p => rfl
  simp only [idsA, List.all_cons, List.all_nil, V.ids, wdL, List.map_cons, List.map_nil, V.idsL, e, e2, Bool.and_self]
  rfl
theorem Y92_Yr : type_of% (And.intro @F_ag_100 (And.intro @F_ag_9 (And.intro @F_al_100 (And.intro @F_al_9 (And.intro @F_el_135 (And.intro @F_el_97 (And.intro @F_st_100 (And.intro @F_sz_100 (And.intro @F_sz_9 (@F_un_9)))))))))) := And.intro @F_ag_100 (And.intro @F_ag_9 (And.intro @F_al_100 (And.intro @F_al_9 (And.intro @F_el_135 (And.intro @F_el_97 (And.intro @F_st_100 (And.intro @F_sz_100 (And.intro @F_sz_9 (@F_un_9)))))))))
set_option maxHeartbeats 4000000 in
theorem c_wordR (l : Bs) (i : Nat) (hi : i ≤ l.length) (hl : l.length ≤ 65536) : PC Tryz.prog 92 [.im (.string (bA l)), (.im (.int .i64 ((i : Int))))] (.tu [tyV (wdP (l.drop i)).1, (.im (.int .i64 (posI l (wdP (l.drop i)).2)))]) := by
  have i1 := c_IntR3 1
  have i2 := c_IntR3 2
  have i4 := c_IntR3 4
  have u1 := c_UintR3 1
  have u2 := c_UintR3 2
  have u4 := c_UintR3 4
  simp only [tyV_mk, List.map_nil] at i1 i2 i4 u1 u2 u4
  refine PC.enter 44 Tryz.func92 rfl (by decide) rfl rfl (s := [(0, .im (.string (bA l))), (1, (.im (.int .i64 ((i : Int)))))]) (by rfl) ?_
  refine wG Y92_Yr True.intro ?_
  refine AR.callP i1 True.intro (And.intro (@tyV_id) (And.intro (@fdV_id) (And.intro (@tyL_id) (And.intro (@fdL_id) byV_id)))) ?_
  refine goG Y92_Yr True.intro ?_
  refine AR.callP i2 True.intro (And.intro (@tyV_id) (And.intro (@fdV_id) (And.intro (@tyL_id) (And.intro (@fdL_id) byV_id)))) ?_
  refine goG Y92_Yr True.intro ?_
  refine AR.callP i4 True.intro (And.intro (@tyV_id) (And.intro (@fdV_id) (And.intro (@tyL_id) (And.intro (@fdL_id) byV_id)))) ?_
  refine goG Y92_Yr True.intro ?_
  refine AR.callP u1 True.intro (And.intro (@tyV_id) (And.intro (@fdV_id) (And.intro (@tyL_id) (And.intro (@fdL_id) byV_id)))) ?_
  refine goG Y92_Yr True.intro ?_
  refine AR.callP u2 True.intro (And.intro (@tyV_id) (And.intro (@fdV_id) (And.intro (@tyL_id) (And.intro (@fdL_id) byV_id)))) ?_
  refine goG Y92_Yr True.intro ?_
  refine AR.callP u4 True.intro (And.intro (@tyV_id) (And.intro (@fdV_id) (And.intro (@tyL_id) (And.intro (@fdL_id) byV_id)))) ?_
  refine goG Y92_Yr True.intro ?_
  refine wG Y92_Yr True.intro ?_
  refine AWp.loop ?_
  refine ALp.cutP 1 [(0, .im (.string (bA l))), (1, (.im (.int .i64 ((i : Int))))), (4, .pt 0 0), (6, .sl (wdL.map wV) .ro), (7, .sl (wdL.map wT) .ro), (8, (.im (.int .i64 (((0 : Nat) : Int)))))] [.box [(.im (.int .i64 (0))), (.im (.int .i64 (0))), (.im (.int .i64 (0))), .sl [] .nl, .sl [] .nl]] trivial (hs := fun _ => wT_ids2 _ _) (hw := .cons (Wk.refl _) (.cons (Wk.refl _) (.cons (Wk.refl _) (.cons (Wk.ro _ _) (.cons wk_all (.cons (Wk.refl _) .nil)))))) ?_
  refine ALp.upto 8 (fun m => ∀ j, (hj : j < wdL.length) → j < m → wdL[j].1.isPrefixOf (l.drop i) = false) (fun m => ⟨dn 44 [(0, .im (.string (bA l))), (1, (.im (.int .i64 ((i : Int))))), (4, .pt 0 0), (6, .sl (wdL.map wV) .ro), (7, .sl (wdL.map wT) .ro), (8, (.im (.int .i64 ((((m : Nat)) : Int)))))], ofl [.box [(.im (.int .i64 (0))), (.im (.int .i64 (0))), (.im (.int .i64 (0))), .sl [] .nl, .sl [] .nl]]⟩) ?_ 0 (Nat.zero_le _) (fun j _ hj => absurd hj (Nat.not_lt_zero _))
  intro m hm hI hnext
  have hwl : ((wdL.length : Nat) : Int) = 8 := rfl
  by_cases hlt : m < 8
  · have hlw : m < wdL.length := hlt
    have hlt' : (m : Int) < 8 := by omega
    have h0 : (0 : Int) ≤ (m : Int) := by omega
    have hg := get_some hlw
    have hm1 := wrap_succ (m := m) (N := 8) (by omega) (by decide)
    have hh := c_has (bA wdL[m].1) wdL[m].1 l i rfl hi hl
    refine wG Y92_Yr (And.intro (@tyV_firm) (And.intro (@fdV_firm) (And.intro (@tyV_strip) (And.intro (@fdV_strip) (And.intro (@tyV_live) (And.intro (@tyV_size) (And.intro (@tyV_isAg) (And.intro (@tyV_cells) (And.intro (@fdV_live) (And.intro (@fdV_size) (And.intro (@fdV_isAg) (And.intro (@fdV_cells) (And.intro (@List.getElem?_map.{0, 0}) (And.intro (@Int.natCast_nonneg) (And.intro hlt' (And.intro h0 (And.intro hg (And.intro (@List.length_map.{0, 0}) (And.intro hwl wV_eq))))))))))))))))))) ?_
    cases hp : wdL[m].1.isPrefixOf (l.drop i) with
    | false =>
      rw [hp] at hh
      have hn := hnext (m + 1) (by omega) hlt (fun j hj hjm => by
        by_cases e : j = m
        · subst e; exact hp
        · exact hI j hj (by omega))
      clear hnext
      refine AR.callP hh True.intro (And.intro (@tyV_id) (And.intro (@fdV_id) (And.intro (@tyL_id) (And.intro (@fdL_id) byV_id)))) ?_
      refine goG Y92_Yr True.intro ?_
      refine wG Y92_Yr hm1 ?_
      refine ALp.cutP 1 [(0, .im (.string (bA l))), (1, (.im (.int .i64 ((i : Int))))), (4, .pt 0 0), (6, .sl (wdL.map wV) .ro), (7, .sl (wdL.map wT) .ro), (8, (.im (.int .i64 ((((m + 1 : Nat)) : Int)))))] [.box [(.im (.int .i64 (0))), (.im (.int .i64 (0))), (.im (.int .i64 (0))), .sl [] .nl, .sl [] .nl]] (And.intro (@tyV_id) (And.intro (@fdV_id) (And.intro (@tyL_id) (And.intro (@fdL_id) byV_id)))) ?_
      exact hn
    | true =>
      rw [hp] at hh
      rw [wdP_at hlw hI hp]
      clear hnext
      have hk := prefix_le hp
      rw [List.length_drop] at hk
      have hpos : posI l (some ((l.drop i).drop wdL[m].1.length)) = ((i + wdL[m].1.length : Nat) : Int) := by
        show ((l.length - ((l.drop i).drop wdL[m].1.length).length : Nat) : Int) = _
        rw [List.length_drop, List.length_drop]
        omega
      have hw : IntKind.i64.wrap ((i : Int) + ((bA wdL[m].1).size : Int)) = ((i + wdL[m].1.length : Nat) : Int) := by
        rw [bA_size]
        exact wr2 (by omega) (by omega)
      rw [hpos, tyV_eq wdL[m].2]
      refine AR.callP hh True.intro (And.intro (@tyV_id) (And.intro (@fdV_id) (And.intro (@tyL_id) (And.intro (@fdL_id) byV_id)))) ?_
      refine goG Y92_Yr True.intro ?_
      refine wdG Y92_Yr (And.intro (@tyV_firm) (And.intro (@fdV_firm) (And.intro (@tyV_strip) (And.intro (@fdV_strip) (And.intro (@tyV_live) (And.intro (@tyV_size) (And.intro (@tyV_isAg) (And.intro (@tyV_cells) (And.intro (@fdV_live) (And.intro (@fdV_size) (And.intro (@fdV_isAg) (And.intro (@fdV_cells) (And.intro (@List.getElem?_map.{0, 0}) (And.intro (@Int.natCast_nonneg) (And.intro h0 (And.intro hg (And.intro wV_eq (And.intro wT_eq (And.intro (@List.length_map.{0, 0}) hw))))))))))))))))))) ?_
      refine Fin.gen0 (rs := [.cell 4 100, .tmp 5]) rfl (by first | exact .inl rfl | exact .inr rfl) (finG Y92_Yr) ?_
      skip
      all_goals exact wkG (And.intro (@tyV_id) (And.intro (@fdV_id) (And.intro (@tyL_id) (And.intro (@fdL_id) byV_id))))
  · obtain rfl : m = 8 := by omega
    have hlt' : ¬ (8 : Int) < 8 := by decide
    clear hnext
    rw [wdP_no fun j hj => hI j hj hj, tyV_eq tz]
    refine wG Y92_Yr (And.intro hlt' (And.intro (@List.length_map.{0, 0}) hwl)) ?_
    refine Fin.gen0 (rs := [.cell 4 100, .tmp 5]) rfl (by first | exact .inl rfl | exact .inr rfl) (finG Y92_Yr) ?_
    skip
    all_goals exact wkG (And.intro (@tyV_id) (And.intro (@fdV_id) (And.intro (@tyL_id) (And.intro (@fdL_id) byV_id))))
/-- The contract of the reference's read, at m steps. -/
def ReadR (l : Bs) (m : Nat) : Prop := ∀ i : Nat, i ≤ l.length → l.length - i + 1 ≤ m → PC Tryz.prog 76 [.im (.string (bA l)), (.im (.int .i64 ((i : Int))))] (.tu [tyV ((rfn m).1 (l.drop i)).1, (.im (.int .i64 (posI l ((rfn m).1 (l.drop i)).2)))])
def stR (m : Nat) (l : Bs) : Ty × Option Bs := if [125].isPrefixOf l then (.mk 0 5 0 0 [] [], some (l.drop 1)) else (rfn m).2 [] l
def StrR (l : Bs) (m : Nat) : Prop := ∀ i : Nat, i ≤ l.length → l.length - i + 1 ≤ m → PC Tryz.prog 91 [.im (.string (bA l)), (.im (.int .i64 ((i : Int))))] (.tu [tyV (stR m (l.drop i)).1, (.im (.int .i64 (posI l (stR m (l.drop i)).2)))])
theorem posI_drop {l : Bs} {e : Nat} (he : e ≤ l.length) : posI l (some (l.drop e)) = (e : Int) := by
  show ((l.length - (l.drop e).length : Nat) : Int) = _
  rw [List.length_drop]
  omega
theorem rf_pos {l : Bs} {i m : Nat} {t : Ty} {r : Bs} (hi : i ≤ l.length) (h : (rfn m).1 (l.drop i) = (t, some r)) : ∃ e : Nat, i < e ∧ e ≤ l.length ∧ r = l.drop e := by
  obtain ⟨p, hp, hn⟩ := (rfn_len m).1 _ _ _ h
  have h1 := congrArg List.length hp
  rw [List.length_drop, List.length_append] at h1
  have h2 := List.length_pos_iff.2 hn
  refine ⟨i + p.length, by omega, by omega, ?_⟩
  rw [← List.drop_drop, hp, List.drop_left]
theorem Y91_Yr : type_of% (And.intro @F_ag_100 (And.intro @F_ag_98 (And.intro @F_al_100 (And.intro @F_al_132 (And.intro @F_by_132 (And.intro @F_el_98 (And.intro @F_fl_100_4 (And.intro @F_st_100 (And.intro @F_st_132 (And.intro @F_sz_100 (And.intro @F_sz_132 (And.intro @F_sz_98 (@F_un_9))))))))))))) := And.intro @F_ag_100 (And.intro @F_ag_98 (And.intro @F_al_100 (And.intro @F_al_132 (And.intro @F_by_132 (And.intro @F_el_98 (And.intro @F_fl_100_4 (And.intro @F_st_100 (And.intro @F_st_132 (And.intro @F_sz_100 (And.intro @F_sz_132 (And.intro @F_sz_98 (@F_un_9))))))))))))
set_option maxHeartbeats 8000000 in
theorem c_structR (l : Bs) (hl : l.length ≤ 65536) (f : Nat) (hf : f ≤ 70000) (hR : ∀ m, m < f → ReadR l m) : StrR l f := by
  intro i0 hi0 hfu
  have hh0 := c_has ⟨#[125]⟩ [125] l i0 rfl hi0 hl
  unfold stR
  refine PC.enter 69 Tryz.func91 rfl (by decide) rfl rfl (s := [(0, .im (.string (bA l))), (1, (.im (.int .i64 ((i0 : Int)))))]) (by rfl) ?_
  cases hp : [125].isPrefixOf (l.drop i0) with
  | true =>
    rw [hp] at hh0
    have hk := prefix_le hp
    rw [List.length_drop] at hk
    have hk : 1 ≤ l.length - i0 := hk
    have hm1 := wrap_succ (m := i0) (N := 70000) (by omega) (by decide)
    simp only [if_true]
    rw [List.drop_drop, posI_drop (by omega), tyV_mk, List.map_nil, List.map_nil]
    refine wG Y91_Yr True.intro ?_
    refine AR.callP hh0 True.intro (And.intro (@tyV_id) (And.intro (@fdV_id) (And.intro (@tyL_id) (And.intro (@fdL_id) byV_id)))) ?_
    refine goG Y91_Yr True.intro ?_
    refine wG Y91_Yr hm1 ?_
    refine Fin.gen0 (rs := [.cell 4 100, .tmp 5]) rfl (by first | exact .inl rfl | exact .inr rfl) (finG Y91_Yr) ?_
    skip
    all_goals exact wkG (And.intro (@tyV_id) (And.intro (@fdV_id) (And.intro (@tyL_id) (And.intro (@fdL_id) byV_id))))
  | false =>
    rw [hp] at hh0
    simp only [Bool.false_eq_true, if_false]
    refine wG Y91_Yr True.intro ?_
    refine AR.callP hh0 True.intro (And.intro (@tyV_id) (And.intro (@fdV_id) (And.intro (@tyL_id) (And.intro (@fdL_id) byV_id)))) ?_
    refine goG Y91_Yr True.intro ?_
    refine wG Y91_Yr True.intro ?_
    refine AWp.loop ?_
    refine ALp.ghostO 1 4 [(.im (.int .i64 (5))), (.im (.int .i64 (0))), (.im (.int .i64 (0))), .sl [] .nl, .sl [] .nl] 132 6 ?_
    obtain ⟨res, hres⟩ : ∃ res, res = (rfn f).2 [] (l.drop i0) := ⟨_, rfl⟩
    rw [← hres]
    refine ALp.cutP 3 [(0, .im (.string (bA l))), (1, (.im (.int .i64 (((i0 : Nat) : Int))))), (4, .pt 0 0), (6, .pt 1 0)] [.box [(.im (.int .i64 (0))), (.im (.int .i64 (0))), (.im (.int .i64 (0))), .sl [] .nl, .sl [] .nl], .box [(.im (.int .i64 (5))), (.im (.int .i64 (0))), (.im (.int .i64 (0))), .sl [] .nl, .sl (([] : List Ty).map fdV) (.own 2)], .tip 132 6 ([] : List Ty).length] (And.intro (@tyV_id) (And.intro (@fdV_id) (And.intro (@tyL_id) (And.intro (@fdL_id) byV_id)))) ?_
    refine ALp.meas (α := Nat × List Ty × Nat) (fun p => ⟨dn 69 [(0, .im (.string (bA l))), (1, (.im (.int .i64 (((p.2.2 : Nat) : Int))))), (4, .pt 0 0), (6, .pt 1 0)], ofl [.box [(.im (.int .i64 (0))), (.im (.int .i64 (0))), (.im (.int .i64 (0))), .sl [] .nl, .sl [] .nl], .box [(.im (.int .i64 (5))), (.im (.int .i64 (0))), (.im (.int .i64 (0))), .sl [] .nl, .sl (p.2.1.map fdV) (.own 2)], .tip 132 6 p.2.1.length]⟩)
      (fun p => p.1 ≤ f ∧ p.2.2 ≤ l.length ∧ l.length - p.2.2 + 1 ≤ p.1 ∧ p.2.1.length + p.1 ≤ f ∧ (rfn p.1).2 p.2.1 (l.drop p.2.2) = res) (fun p => p.1) ?_ (f, [], i0) ⟨Nat.le_refl _, hi0, hfu, by simp, hres.symm⟩
    rintro ⟨m, out, i⟩ ⟨hm, hi, hF, hol, hI⟩ hnext
    simp only at hm hi hF hol hI hnext
    show AWpK _ _ _ _ _ ⟨dn 69 [(0, .im (.string (bA l))), (1, (.im (.int .i64 (((i : Nat) : Int))))), (4, .pt 0 0), (6, .pt 1 0)], ofl [.box [(.im (.int .i64 (0))), (.im (.int .i64 (0))), (.im (.int .i64 (0))), .sl [] .nl, .sl [] .nl], .box [(.im (.int .i64 (5))), (.im (.int .i64 (0))), (.im (.int .i64 (0))), .sl [] .nl, .sl (out.map fdV) (.own 2)], .tip 132 6 out.length]⟩
    obtain ⟨m, rfl⟩ : ∃ k, m = k + 1 := ⟨m - 1, by omega⟩
    have hI : rfF (rfn m).1 (rfn m).2 out (l.drop i) = res := hI
    have hle : (i : Int) ≤ ((bA l).size : Int) := by rw [bA_size]; omega
    have h1 := c_numberR l i hi hl
    have hdl := digs_le (l.drop i)
    rw [List.length_drop] at hdl
    unfold nuR at h1
    unfold rfF at hI
    cases hnn : noNum (l.drop i) with
    | true =>
      rw [hnn, if_pos rfl] at h1
      rw [hnn, if_pos rfl] at hI
      rw [← hI, tyV_eq tz]
      refine wG Y91_Yr hle ?_
      refine AR.callP h1 True.intro (And.intro (@tyV_id) (And.intro (@fdV_id) (And.intro (@tyL_id) (And.intro (@fdL_id) byV_id)))) ?_
      refine goG Y91_Yr True.intro ?_
      refine wG Y91_Yr True.intro ?_
      refine Fin.gen0 (rs := [.cell 4 100, .tmp 5]) rfl (by first | exact .inl rfl | exact .inr rfl) (finG Y91_Yr) ?_
      skip
      all_goals exact wkG (And.intro (@tyV_id) (And.intro (@fdV_id) (And.intro (@tyL_id) (And.intro (@fdL_id) byV_id))))
    | false =>
      rw [hnn, if_neg (by decide)] at h1
      rw [hnn, if_neg Bool.false_ne_true] at hI
      obtain ⟨hd0, hd6, _⟩ := noNum_inv hnn
      generalize hnv : numV ((l.drop i).take (digs (l.drop i))) = nv at h1 hI
      generalize hdg : digs (l.drop i) = d at h1 hI hdl hd0
      simp only at h1
      rw [List.drop_drop] at hI
      have he : i + d ≤ l.length := by omega
      have hneg : ¬ ((i + d : Nat) : Int) < 0 := by omega
      have h2 := c_has ⟨#[58, 32]⟩ [58, 32] l (i + d) rfl he hl
      cases hp2 : [58, 32].isPrefixOf (l.drop (i + d)) with
      | false =>
        rw [hp2] at h2
        rw [hp2, if_neg Bool.false_ne_true] at hI
        rw [← hI, tyV_eq tz]
        refine wG Y91_Yr hle ?_
        refine AR.callP h1 True.intro (And.intro (@tyV_id) (And.intro (@fdV_id) (And.intro (@tyL_id) (And.intro (@fdL_id) byV_id)))) ?_
        refine goG Y91_Yr hneg ?_
        refine wG Y91_Yr hneg ?_
        refine AR.callP h2 True.intro (And.intro (@tyV_id) (And.intro (@fdV_id) (And.intro (@tyL_id) (And.intro (@fdL_id) byV_id)))) ?_
        refine goG Y91_Yr True.intro ?_
        refine wG Y91_Yr True.intro ?_
        refine Fin.gen0 (rs := [.cell 4 100, .tmp 5]) rfl (by first | exact .inl rfl | exact .inr rfl) (finG Y91_Yr) ?_
        skip
        all_goals exact wkG (And.intro (@tyV_id) (And.intro (@fdV_id) (And.intro (@tyL_id) (And.intro (@fdL_id) byV_id))))
      | true =>
        rw [hp2] at h2
        rw [hp2, if_pos rfl, List.drop_drop] at hI
        have hk := prefix_le hp2
        rw [List.length_drop] at hk
        have hk : 2 ≤ l.length - (i + d) := hk
        have hw2 : IntKind.i64.wrap (((i + d : Nat) : Int) + 2) = ((i + d + 2 : Nat) : Int) := wr2 (m := i + d) (n := 2) (by omega) (by decide)
        have h3 := hR m (by omega) (i + d + 2) (by omega) (by omega)
        have hpos := fun t r (h : (rfn m).1 (l.drop (i + d + 2)) = (t, some r)) => rf_pos (by omega) h
        generalize (rfn m).1 (l.drop (i + d + 2)) = q at h3 hI hpos
        obtain ⟨t, o⟩ := q
        cases o with
        | none =>
          have h3 : PC Tryz.prog 76 [.im (.string (bA l)), (.im (.int .i64 (((i + d + 2 : Nat) : Int))))] (.tu [tyV t, (.im (.int .i64 (-1)))]) := h3
          rw [tyV_eq t] at h3
          simp only at hI
          rw [← hI, tyV_eq tz]
          refine wG Y91_Yr hle ?_
          refine AR.callP h1 True.intro (And.intro (@tyV_id) (And.intro (@fdV_id) (And.intro (@tyL_id) (And.intro (@fdL_id) byV_id)))) ?_
          refine goG Y91_Yr hneg ?_
          refine wG Y91_Yr hneg ?_
          refine AR.callP h2 True.intro (And.intro (@tyV_id) (And.intro (@fdV_id) (And.intro (@tyL_id) (And.intro (@fdL_id) byV_id)))) ?_
          refine goG Y91_Yr True.intro ?_
          refine wG Y91_Yr hw2 ?_
          refine AR.callP h3 True.intro (And.intro (@tyV_id) (And.intro (@fdV_id) (And.intro (@tyL_id) (And.intro (@fdL_id) byV_id)))) ?_
          refine goG Y91_Yr (And.intro (@tyV_firm) (And.intro (@fdV_firm) (And.intro (@tyV_strip) (And.intro (@fdV_strip) (And.intro (@tyV_live) (And.intro (@tyV_size) (And.intro (@tyV_isAg) (And.intro (@tyV_cells) (And.intro (@fdV_live) (And.intro (@fdV_size) (And.intro (@fdV_isAg) (And.intro (@fdV_cells) (And.intro (@List.getElem?_map.{0, 0}) @Int.natCast_nonneg))))))))))))) ?_
          refine wG Y91_Yr (And.intro (@tyV_firm) (And.intro (@fdV_firm) (And.intro (@tyV_strip) (And.intro (@fdV_strip) (And.intro (@tyV_live) (And.intro (@tyV_size) (And.intro (@tyV_isAg) (And.intro (@tyV_cells) (And.intro (@fdV_live) (And.intro (@fdV_size) (And.intro (@fdV_isAg) (And.intro (@fdV_cells) (And.intro (@List.getElem?_map.{0, 0}) @Int.natCast_nonneg))))))))))))) ?_
          refine Fin.gen0 (rs := [.cell 4 100, .tmp 5]) rfl (by first | exact .inl rfl | exact .inr rfl) (finG Y91_Yr) ?_
          skip
          all_goals exact wkG (And.intro (@tyV_id) (And.intro (@fdV_id) (And.intro (@tyL_id) (And.intro (@fdL_id) byV_id))))
        | some r =>
          obtain ⟨e, he1, he2, rfl⟩ := hpos t r rfl
          have h3 : PC Tryz.prog 76 [.im (.string (bA l)), (.im (.int .i64 (((i + d + 2 : Nat) : Int))))] (.tu [tyV t, (.im (.int .i64 ((e : Int))))]) := by
            have h3 := h3
            simp only at h3
            rw [posI_drop he2] at h3
            exact h3
          rw [tyV_eq t] at h3
          simp only at hI
          have hne : ¬ (e : Int) < 0 := by omega
          obtain ⟨B, hB⟩ : ∃ B, B = out ++ [t.at_ nv] := ⟨_, rfl⟩
          have hAs : out.map fdV ++ [V.ag [.im (.int .i64 nv), .im (.int .i64 t.kind), .im (.int .i64 t.size), .im (.int .i64 t.count), .sl (t.elem.map tyV) .ro, .sl (t.fields.map fdV) .ro]] = B.map fdV := by rw [hB, List.map_append, List.map_singleton, fdV_eq]; rfl
          have hAl : out.length + 1 = B.length := by rw [hB]; simp
          have hbl : B.length * 80 ≤ 140737488355328 := by omega
          rw [← hB] at hI
          have h4 := c_has ⟨#[125]⟩ [125] l e rfl he2 hl
          cases hp4 : [125].isPrefixOf (l.drop e) with
          | true =>
            rw [hp4] at h4
            rw [hp4, if_pos rfl, List.drop_drop] at hI
            have hk4 := prefix_le hp4
            rw [List.length_drop] at hk4
            have hk4 : 1 ≤ l.length - e := hk4
            have hm1 := wrap_succ (m := e) (N := 70000) (by omega) (by decide)
            rw [← hI, posI_drop (by omega), tyV_mk, List.map_nil]
            refine wG Y91_Yr hle ?_
            refine AR.callP h1 True.intro (And.intro (@tyV_id) (And.intro (@fdV_id) (And.intro (@tyL_id) (And.intro (@fdL_id) byV_id)))) ?_
            refine goG Y91_Yr hneg ?_
            refine wG Y91_Yr hneg ?_
            refine AR.callP h2 True.intro (And.intro (@tyV_id) (And.intro (@fdV_id) (And.intro (@tyL_id) (And.intro (@fdL_id) byV_id)))) ?_
            refine goG Y91_Yr True.intro ?_
            refine wG Y91_Yr hw2 ?_
            refine AR.callP h3 True.intro (And.intro (@tyV_id) (And.intro (@fdV_id) (And.intro (@tyL_id) (And.intro (@fdL_id) byV_id)))) ?_
            refine goG Y91_Yr (And.intro (@tyV_firm) (And.intro (@fdV_firm) (And.intro (@tyV_strip) (And.intro (@fdV_strip) (And.intro (@tyV_live) (And.intro (@tyV_size) (And.intro (@tyV_isAg) (And.intro (@tyV_cells) (And.intro (@fdV_live) (And.intro (@fdV_size) (And.intro (@fdV_isAg) (And.intro (@fdV_cells) (And.intro (@List.getElem?_map.{0, 0}) @Int.natCast_nonneg))))))))))))) ?_
            refine wG Y91_Yr (And.intro (@tyV_firm) (And.intro (@fdV_firm) (And.intro (@tyV_strip) (And.intro (@fdV_strip) (And.intro (@tyV_live) (And.intro (@tyV_size) (And.intro (@tyV_isAg) (And.intro (@tyV_cells) (And.intro (@fdV_live) (And.intro (@fdV_size) (And.intro (@fdV_isAg) (And.intro (@fdV_cells) (And.intro (@List.getElem?_map.{0, 0}) (And.intro (@Int.natCast_nonneg) (And.intro hne (And.intro hAs (And.intro hAl (And.intro hbl (And.intro allZ_fd @List.length_map.{0, 0}))))))))))))))))))) ?_
            refine AR.callP h4 True.intro (And.intro (@tyV_id) (And.intro (@fdV_id) (And.intro (@tyL_id) (And.intro (@fdL_id) byV_id)))) ?_
            refine goG Y91_Yr True.intro ?_
            refine wG Y91_Yr hm1 ?_
            refine Fin.gen0 (rs := [.cell 4 100, .tmp 5]) rfl (by first | exact .inl rfl | exact .inr rfl) (finG Y91_Yr) ?_
            skip
            all_goals exact wkG (And.intro (@tyV_id) (And.intro (@fdV_id) (And.intro (@tyL_id) (And.intro (@fdL_id) byV_id))))
          | false =>
            rw [hp4] at h4
            rw [hp4, if_neg Bool.false_ne_true] at hI
            have h5 := c_has ⟨#[44, 32]⟩ [44, 32] l e rfl he2 hl
            cases hp5 : [44, 32].isPrefixOf (l.drop e) with
            | false =>
              rw [hp5] at h5
              rw [hp5, if_neg Bool.false_ne_true] at hI
              rw [← hI, tyV_eq tz]
              refine wG Y91_Yr hle ?_
              refine AR.callP h1 True.intro (And.intro (@tyV_id) (And.intro (@fdV_id) (And.intro (@tyL_id) (And.intro (@fdL_id) byV_id)))) ?_
              refine goG Y91_Yr hneg ?_
              refine wG Y91_Yr hneg ?_
              refine AR.callP h2 True.intro (And.intro (@tyV_id) (And.intro (@fdV_id) (And.intro (@tyL_id) (And.intro (@fdL_id) byV_id)))) ?_
              refine goG Y91_Yr True.intro ?_
              refine wG Y91_Yr hw2 ?_
              refine AR.callP h3 True.intro (And.intro (@tyV_id) (And.intro (@fdV_id) (And.intro (@tyL_id) (And.intro (@fdL_id) byV_id)))) ?_
              refine goG Y91_Yr (And.intro (@tyV_firm) (And.intro (@fdV_firm) (And.intro (@tyV_strip) (And.intro (@fdV_strip) (And.intro (@tyV_live) (And.intro (@tyV_size) (And.intro (@tyV_isAg) (And.intro (@tyV_cells) (And.intro (@fdV_live) (And.intro (@fdV_size) (And.intro (@fdV_isAg) (And.intro (@fdV_cells) (And.intro (@List.getElem?_map.{0, 0}) @Int.natCast_nonneg))))))))))))) ?_
              refine wG Y91_Yr (And.intro (@tyV_firm) (And.intro (@fdV_firm) (And.intro (@tyV_strip) (And.intro (@fdV_strip) (And.intro (@tyV_live) (And.intro (@tyV_size) (And.intro (@tyV_isAg) (And.intro (@tyV_cells) (And.intro (@fdV_live) (And.intro (@fdV_size) (And.intro (@fdV_isAg) (And.intro (@fdV_cells) (And.intro (@List.getElem?_map.{0, 0}) (And.intro (@Int.natCast_nonneg) (And.intro hne (And.intro hAs (And.intro hAl (And.intro hbl (And.intro allZ_fd @List.length_map.{0, 0}))))))))))))))))))) ?_
              refine AR.callP h4 True.intro (And.intro (@tyV_id) (And.intro (@fdV_id) (And.intro (@tyL_id) (And.intro (@fdL_id) byV_id)))) ?_
              refine goG Y91_Yr True.intro ?_
              refine wG Y91_Yr True.intro ?_
              refine AR.callP h5 True.intro (And.intro (@tyV_id) (And.intro (@fdV_id) (And.intro (@tyL_id) (And.intro (@fdL_id) byV_id)))) ?_
              refine goG Y91_Yr True.intro ?_
              refine wG Y91_Yr True.intro ?_
              refine Fin.gen0 (rs := [.cell 4 100, .tmp 5]) rfl (by first | exact .inl rfl | exact .inr rfl) (finG Y91_Yr) ?_
              skip
              all_goals exact wkG (And.intro (@tyV_id) (And.intro (@fdV_id) (And.intro (@tyL_id) (And.intro (@fdL_id) byV_id))))
            | true =>
              rw [hp5] at h5
              rw [hp5, if_pos rfl, List.drop_drop] at hI
              have hk5 := prefix_le hp5
              rw [List.length_drop] at hk5
              have hk5 : 2 ≤ l.length - e := hk5
              have hw5 : IntKind.i64.wrap ((e : Int) + 2) = ((e + 2 : Nat) : Int) := wr2 (m := e) (n := 2) (by omega) (by decide)
              have hn := hnext (m, B, e + 2) (by simp only; omega) ⟨by simp only; omega, by simp only; omega, by simp only; omega, by simp only; omega, hI⟩
              clear hnext
              refine wG Y91_Yr hle ?_
              refine AR.callP h1 True.intro (And.intro (@tyV_id) (And.intro (@fdV_id) (And.intro (@tyL_id) (And.intro (@fdL_id) byV_id)))) ?_
              refine goG Y91_Yr hneg ?_
              refine wG Y91_Yr hneg ?_
              refine AR.callP h2 True.intro (And.intro (@tyV_id) (And.intro (@fdV_id) (And.intro (@tyL_id) (And.intro (@fdL_id) byV_id)))) ?_
              refine goG Y91_Yr True.intro ?_
              refine wG Y91_Yr hw2 ?_
              refine AR.callP h3 True.intro (And.intro (@tyV_id) (And.intro (@fdV_id) (And.intro (@tyL_id) (And.intro (@fdL_id) byV_id)))) ?_
              refine goG Y91_Yr (And.intro (@tyV_firm) (And.intro (@fdV_firm) (And.intro (@tyV_strip) (And.intro (@fdV_strip) (And.intro (@tyV_live) (And.intro (@tyV_size) (And.intro (@tyV_isAg) (And.intro (@tyV_cells) (And.intro (@fdV_live) (And.intro (@fdV_size) (And.intro (@fdV_isAg) (And.intro (@fdV_cells) (And.intro (@List.getElem?_map.{0, 0}) @Int.natCast_nonneg))))))))))))) ?_
              refine wG Y91_Yr (And.intro (@tyV_firm) (And.intro (@fdV_firm) (And.intro (@tyV_strip) (And.intro (@fdV_strip) (And.intro (@tyV_live) (And.intro (@tyV_size) (And.intro (@tyV_isAg) (And.intro (@tyV_cells) (And.intro (@fdV_live) (And.intro (@fdV_size) (And.intro (@fdV_isAg) (And.intro (@fdV_cells) (And.intro (@List.getElem?_map.{0, 0}) (And.intro (@Int.natCast_nonneg) (And.intro hne (And.intro hAs (And.intro hAl (And.intro hbl (And.intro allZ_fd @List.length_map.{0, 0}))))))))))))))))))) ?_
              refine AR.callP h4 True.intro (And.intro (@tyV_id) (And.intro (@fdV_id) (And.intro (@tyL_id) (And.intro (@fdL_id) byV_id)))) ?_
              refine goG Y91_Yr True.intro ?_
              refine wG Y91_Yr True.intro ?_
              refine AR.callP h5 True.intro (And.intro (@tyV_id) (And.intro (@fdV_id) (And.intro (@tyL_id) (And.intro (@fdL_id) byV_id)))) ?_
              refine goG Y91_Yr True.intro ?_
              refine wG Y91_Yr hw5 ?_
              refine ALp.cutP 3 [(0, .im (.string (bA l))), (1, (.im (.int .i64 (((e + 2 : Nat) : Int))))), (4, .pt 0 0), (6, .pt 1 0)] [.box [(.im (.int .i64 (0))), (.im (.int .i64 (0))), (.im (.int .i64 (0))), .sl [] .nl, .sl [] .nl], .box [(.im (.int .i64 (5))), (.im (.int .i64 (0))), (.im (.int .i64 (0))), .sl [] .nl, .sl (B.map fdV) (.own 2)], .tip 132 6 B.length] (And.intro (@tyV_id) (And.intro (@fdV_id) (And.intro (@tyL_id) (And.intro (@fdL_id) byV_id)))) ?_
              exact hn
theorem Y76_Yr : type_of% (And.intro @F_ag_100 (And.intro @F_al_100 (And.intro @F_st_100 (@F_sz_100)))) := And.intro @F_ag_100 (And.intro @F_al_100 (And.intro @F_st_100 (@F_sz_100)))
set_option maxHeartbeats 8000000 in
theorem c_readR (l : Bs) (hl : l.length ≤ 65536) : ∀ m, m ≤ 70000 → ReadR l m := by
  intro m
  induction m using Nat.strongRecOn with
  | _ m ih =>
  intro hm i hi hfu
  obtain ⟨m, rfl⟩ : ∃ k, m = k + 1 := ⟨m - 1, by omega⟩
  have hS : StrR l m := c_structR l hl m (by omega) fun j hj => ih j (by omega) (by omega)
  show PC _ _ _ (.tu [tyV (rfS (rfn m).1 (rfn m).2 (l.drop i)).1, (.im (.int .i64 (posI l (rfS (rfn m).1 (rfn m).2 (l.drop i)).2)))])
  unfold rfS
  have a1 := c_has ⟨#[42]⟩ [42] l i rfl hi hl
  have a2 := c_has ⟨#[91]⟩ [91] l i rfl hi hl
  have a3 := c_has ⟨#[123]⟩ [123] l i rfl hi hl
  rw [List.drop_drop]
  refine PC.enter 69 Tryz.func76 rfl (by decide) rfl rfl (s := [(0, .im (.string (bA l))), (1, (.im (.int .i64 ((i : Int)))))]) (by rfl) ?_
  cases h1 : [42].isPrefixOf (l.drop i) with
  | true =>
    rw [h1] at a1
    have hk := prefix_le h1
    rw [List.length_drop] at hk
    have hk : 1 ≤ l.length - i := hk
    have hm1 := wrap_succ (m := i) (N := 70000) (by omega) (by decide)
    have h3 := ih m (by omega) (by omega) (i + 1) (by omega) (by omega)
    rw [if_pos rfl]
    generalize (rfn m).1 (l.drop (i + 1)) = q at h3 ⊢
    obtain ⟨t, o⟩ := q
    simp only at h3 ⊢
    generalize posI l o = z at h3 ⊢
    have hp := c_PtrR t
    rw [tyV_eq t] at h3
    simp only [tyV_mk, List.map_cons, List.map_nil] at hp ⊢
    refine wG Y76_Yr True.intro ?_
    refine AR.callP a1 True.intro (And.intro (@tyV_id) (And.intro (@fdV_id) (And.intro (@tyL_id) (And.intro (@fdL_id) byV_id)))) ?_
    refine goG Y76_Yr True.intro ?_
    refine wG Y76_Yr hm1 ?_
    refine AR.callP h3 True.intro (And.intro (@tyV_id) (And.intro (@fdV_id) (And.intro (@tyL_id) (And.intro (@fdL_id) byV_id)))) ?_
    refine goG Y76_Yr (And.intro (@tyV_firm) (And.intro (@fdV_firm) (And.intro (@tyV_strip) (And.intro (@fdV_strip) (And.intro (@tyV_live) (And.intro (@tyV_size) (And.intro (@tyV_isAg) (And.intro (@tyV_cells) (And.intro (@fdV_live) (And.intro (@fdV_size) (And.intro (@fdV_isAg) (And.intro (@fdV_cells) (And.intro (@List.getElem?_map.{0, 0}) @Int.natCast_nonneg))))))))))))) ?_
    refine wG Y76_Yr (And.intro (@tyV_firm) (And.intro (@fdV_firm) (And.intro (@tyV_strip) (And.intro (@fdV_strip) (And.intro (@tyV_live) (And.intro (@tyV_size) (And.intro (@tyV_isAg) (And.intro (@tyV_cells) (And.intro (@fdV_live) (And.intro (@fdV_size) (And.intro (@fdV_isAg) (And.intro (@fdV_cells) (And.intro (@List.getElem?_map.{0, 0}) @Int.natCast_nonneg))))))))))))) ?_
    refine AR.callP hp @tyV_eq (And.intro (@tyV_id) (And.intro (@fdV_id) (And.intro (@tyL_id) (And.intro (@fdL_id) byV_id)))) ?_
    refine goG Y76_Yr (And.intro (@tyV_firm) (And.intro (@fdV_firm) (And.intro (@tyV_strip) (And.intro (@fdV_strip) (And.intro (@tyV_live) (And.intro (@tyV_size) (And.intro (@tyV_isAg) (And.intro (@tyV_cells) (And.intro (@fdV_live) (And.intro (@fdV_size) (And.intro (@fdV_isAg) (And.intro (@fdV_cells) (And.intro (@List.getElem?_map.{0, 0}) @Int.natCast_nonneg))))))))))))) ?_
    refine wG Y76_Yr (And.intro (@tyV_firm) (And.intro (@fdV_firm) (And.intro (@tyV_strip) (And.intro (@fdV_strip) (And.intro (@tyV_live) (And.intro (@tyV_size) (And.intro (@tyV_isAg) (And.intro (@tyV_cells) (And.intro (@fdV_live) (And.intro (@fdV_size) (And.intro (@fdV_isAg) (And.intro (@fdV_cells) (And.intro (@List.getElem?_map.{0, 0}) @Int.natCast_nonneg))))))))))))) ?_
    refine Fin.gen0 (rs := [.cell 4 100, .tmp 5]) rfl (by first | exact .inl rfl | exact .inr rfl) (finG Y76_Yr) ?_
    skip
    all_goals exact wkG (And.intro (@tyV_id) (And.intro (@fdV_id) (And.intro (@tyL_id) (And.intro (@fdL_id) byV_id))))
  | false =>
  rw [h1] at a1
  rw [if_neg Bool.false_ne_true]
  cases h2 : [91].isPrefixOf (l.drop i) with
  | true =>
    rw [h2] at a2
    have hk := prefix_le h2
    rw [List.length_drop] at hk
    have hk : 1 ≤ l.length - i := hk
    have hm1 := wrap_succ (m := i) (N := 70000) (by omega) (by decide)
    rw [if_pos rfl]
    have n1 := c_numberR l (i + 1) (by omega) hl
    have hdl := digs_le (l.drop (i + 1))
    rw [List.length_drop] at hdl
    unfold nuR at n1
    cases hnn : noNum (l.drop (i + 1)) with
    | true =>
      rw [hnn, if_pos rfl] at n1
      rw [if_pos rfl, tyV_eq tz]
      refine wG Y76_Yr True.intro ?_
      refine AR.callP a1 True.intro (And.intro (@tyV_id) (And.intro (@fdV_id) (And.intro (@tyL_id) (And.intro (@fdL_id) byV_id)))) ?_
      refine goG Y76_Yr True.intro ?_
      refine wG Y76_Yr True.intro ?_
      refine AR.callP a2 True.intro (And.intro (@tyV_id) (And.intro (@fdV_id) (And.intro (@tyL_id) (And.intro (@fdL_id) byV_id)))) ?_
      refine goG Y76_Yr True.intro ?_
      refine wG Y76_Yr hm1 ?_
      refine AR.callP n1 True.intro (And.intro (@tyV_id) (And.intro (@fdV_id) (And.intro (@tyL_id) (And.intro (@fdL_id) byV_id)))) ?_
      refine goG Y76_Yr True.intro ?_
      refine wG Y76_Yr True.intro ?_
      refine Fin.gen0 (rs := [.cell 4 100, .tmp 5]) rfl (by first | exact .inl rfl | exact .inr rfl) (finG Y76_Yr) ?_
      skip
      all_goals exact wkG (And.intro (@tyV_id) (And.intro (@fdV_id) (And.intro (@tyL_id) (And.intro (@fdL_id) byV_id))))
    | false =>
      rw [hnn, if_neg (by decide)] at n1
      rw [if_neg Bool.false_ne_true]
      generalize hnv : numV ((l.drop (i + 1)).take (digs (l.drop (i + 1)))) = nv at n1 ⊢
      generalize hdg : digs (l.drop (i + 1)) = d at n1 hdl ⊢
      simp only at n1
      rw [List.drop_drop]
      have he : i + 1 + d ≤ l.length := by omega
      have hneg : ¬ ((i + 1 + d : Nat) : Int) < 0 := by omega
      have a4 := c_has ⟨#[93]⟩ [93] l (i + 1 + d) rfl he hl
      cases h4 : [93].isPrefixOf (l.drop (i + 1 + d)) with
      | false =>
        rw [h4] at a4
        rw [if_neg Bool.false_ne_true, tyV_eq tz]
        refine wG Y76_Yr True.intro ?_
        refine AR.callP a1 True.intro (And.intro (@tyV_id) (And.intro (@fdV_id) (And.intro (@tyL_id) (And.intro (@fdL_id) byV_id)))) ?_
        refine goG Y76_Yr True.intro ?_
        refine wG Y76_Yr True.intro ?_
        refine AR.callP a2 True.intro (And.intro (@tyV_id) (And.intro (@fdV_id) (And.intro (@tyL_id) (And.intro (@fdL_id) byV_id)))) ?_
        refine goG Y76_Yr True.intro ?_
        refine wG Y76_Yr hm1 ?_
        refine AR.callP n1 True.intro (And.intro (@tyV_id) (And.intro (@fdV_id) (And.intro (@tyL_id) (And.intro (@fdL_id) byV_id)))) ?_
        refine goG Y76_Yr hneg ?_
        refine wG Y76_Yr hneg ?_
        refine AR.callP a4 True.intro (And.intro (@tyV_id) (And.intro (@fdV_id) (And.intro (@tyL_id) (And.intro (@fdL_id) byV_id)))) ?_
        refine goG Y76_Yr True.intro ?_
        refine wG Y76_Yr True.intro ?_
        refine Fin.gen0 (rs := [.cell 4 100, .tmp 5]) rfl (by first | exact .inl rfl | exact .inr rfl) (finG Y76_Yr) ?_
        skip
        all_goals exact wkG (And.intro (@tyV_id) (And.intro (@fdV_id) (And.intro (@tyL_id) (And.intro (@fdL_id) byV_id))))
      | true =>
        rw [h4] at a4
        have hk4 := prefix_le h4
        rw [List.length_drop] at hk4
        have hk4 : 1 ≤ l.length - (i + 1 + d) := hk4
        have hm2 := wrap_succ (m := i + 1 + d) (N := 70000) (by omega) (by decide)
        rw [if_pos rfl, List.drop_drop]
        have h3 := ih m (by omega) (by omega) (i + 1 + d + 1) (by omega) (by omega)
        generalize (rfn m).1 (l.drop (i + 1 + d + 1)) = q at h3 ⊢
        obtain ⟨t, o⟩ := q
        simp only at h3 ⊢
        generalize posI l o = z at h3 ⊢
        have hp := c_ArrayR t nv
        rw [tyV_eq t] at h3
        simp only [tyV_mk, List.map_cons, List.map_nil] at hp ⊢
        refine wG Y76_Yr True.intro ?_
        refine AR.callP a1 True.intro (And.intro (@tyV_id) (And.intro (@fdV_id) (And.intro (@tyL_id) (And.intro (@fdL_id) byV_id)))) ?_
        refine goG Y76_Yr True.intro ?_
        refine wG Y76_Yr True.intro ?_
        refine AR.callP a2 True.intro (And.intro (@tyV_id) (And.intro (@fdV_id) (And.intro (@tyL_id) (And.intro (@fdL_id) byV_id)))) ?_
        refine goG Y76_Yr True.intro ?_
        refine wG Y76_Yr hm1 ?_
        refine AR.callP n1 True.intro (And.intro (@tyV_id) (And.intro (@fdV_id) (And.intro (@tyL_id) (And.intro (@fdL_id) byV_id)))) ?_
        refine goG Y76_Yr hneg ?_
        refine wG Y76_Yr hneg ?_
        refine AR.callP a4 True.intro (And.intro (@tyV_id) (And.intro (@fdV_id) (And.intro (@tyL_id) (And.intro (@fdL_id) byV_id)))) ?_
        refine goG Y76_Yr True.intro ?_
        refine wG Y76_Yr hm2 ?_
        refine AR.callP h3 True.intro (And.intro (@tyV_id) (And.intro (@fdV_id) (And.intro (@tyL_id) (And.intro (@fdL_id) byV_id)))) ?_
        refine goG Y76_Yr (And.intro (@tyV_firm) (And.intro (@fdV_firm) (And.intro (@tyV_strip) (And.intro (@fdV_strip) (And.intro (@tyV_live) (And.intro (@tyV_size) (And.intro (@tyV_isAg) (And.intro (@tyV_cells) (And.intro (@fdV_live) (And.intro (@fdV_size) (And.intro (@fdV_isAg) (And.intro (@fdV_cells) (And.intro (@List.getElem?_map.{0, 0}) @Int.natCast_nonneg))))))))))))) ?_
        refine wG Y76_Yr (And.intro (@tyV_firm) (And.intro (@fdV_firm) (And.intro (@tyV_strip) (And.intro (@fdV_strip) (And.intro (@tyV_live) (And.intro (@tyV_size) (And.intro (@tyV_isAg) (And.intro (@tyV_cells) (And.intro (@fdV_live) (And.intro (@fdV_size) (And.intro (@fdV_isAg) (And.intro (@fdV_cells) (And.intro (@List.getElem?_map.{0, 0}) @Int.natCast_nonneg))))))))))))) ?_
        refine AR.callP hp @tyV_eq (And.intro (@tyV_id) (And.intro (@fdV_id) (And.intro (@tyL_id) (And.intro (@fdL_id) byV_id)))) ?_
        refine goG Y76_Yr (And.intro (@tyV_firm) (And.intro (@fdV_firm) (And.intro (@tyV_strip) (And.intro (@fdV_strip) (And.intro (@tyV_live) (And.intro (@tyV_size) (And.intro (@tyV_isAg) (And.intro (@tyV_cells) (And.intro (@fdV_live) (And.intro (@fdV_size) (And.intro (@fdV_isAg) (And.intro (@fdV_cells) (And.intro (@List.getElem?_map.{0, 0}) @Int.natCast_nonneg))))))))))))) ?_
        refine wG Y76_Yr (And.intro (@tyV_firm) (And.intro (@fdV_firm) (And.intro (@tyV_strip) (And.intro (@fdV_strip) (And.intro (@tyV_live) (And.intro (@tyV_size) (And.intro (@tyV_isAg) (And.intro (@tyV_cells) (And.intro (@fdV_live) (And.intro (@fdV_size) (And.intro (@fdV_isAg) (And.intro (@fdV_cells) (And.intro (@List.getElem?_map.{0, 0}) @Int.natCast_nonneg))))))))))))) ?_
        refine Fin.gen0 (rs := [.cell 4 100, .tmp 5]) rfl (by first | exact .inl rfl | exact .inr rfl) (finG Y76_Yr) ?_
        skip
        all_goals exact wkG (And.intro (@tyV_id) (And.intro (@fdV_id) (And.intro (@tyL_id) (And.intro (@fdL_id) byV_id))))
  | false =>
  rw [h2] at a2
  rw [if_neg Bool.false_ne_true]
  cases h5 : [123].isPrefixOf (l.drop i) with
  | true =>
    rw [h5] at a3
    have hk := prefix_le h5
    rw [List.length_drop] at hk
    have hk : 1 ≤ l.length - i := hk
    have hm1 := wrap_succ (m := i) (N := 70000) (by omega) (by decide)
    have h3 := hS (i + 1) (by omega) (by omega)
    rw [if_pos rfl]
    have e : (if [125].isPrefixOf (l.drop (i + 1)) = true then ((.mk 0 5 0 0 [] [], some ((l.drop (i + 1)).drop 1)) : Ty × Option Bs) else (rfn m).2 [] (l.drop (i + 1))) = stR m (l.drop (i + 1)) := rfl
    rw [e]
    clear e
    generalize stR m (l.drop (i + 1)) = q at h3 ⊢
    obtain ⟨t, o⟩ := q
    simp only at h3 ⊢
    generalize posI l o = z at h3 ⊢
    rw [tyV_eq t] at h3 ⊢
    refine wG Y76_Yr True.intro ?_
    refine AR.callP a1 True.intro (And.intro (@tyV_id) (And.intro (@fdV_id) (And.intro (@tyL_id) (And.intro (@fdL_id) byV_id)))) ?_
    refine goG Y76_Yr True.intro ?_
    refine wG Y76_Yr True.intro ?_
    refine AR.callP a2 True.intro (And.intro (@tyV_id) (And.intro (@fdV_id) (And.intro (@tyL_id) (And.intro (@fdL_id) byV_id)))) ?_
    refine goG Y76_Yr True.intro ?_
    refine wG Y76_Yr True.intro ?_
    refine AR.callP a3 True.intro (And.intro (@tyV_id) (And.intro (@fdV_id) (And.intro (@tyL_id) (And.intro (@fdL_id) byV_id)))) ?_
    refine goG Y76_Yr True.intro ?_
    refine wG Y76_Yr hm1 ?_
    refine AR.callP h3 True.intro (And.intro (@tyV_id) (And.intro (@fdV_id) (And.intro (@tyL_id) (And.intro (@fdL_id) byV_id)))) ?_
    refine goG Y76_Yr (And.intro (@tyV_firm) (And.intro (@fdV_firm) (And.intro (@tyV_strip) (And.intro (@fdV_strip) (And.intro (@tyV_live) (And.intro (@tyV_size) (And.intro (@tyV_isAg) (And.intro (@tyV_cells) (And.intro (@fdV_live) (And.intro (@fdV_size) (And.intro (@fdV_isAg) (And.intro (@fdV_cells) (And.intro (@List.getElem?_map.{0, 0}) @Int.natCast_nonneg))))))))))))) ?_
    refine wG Y76_Yr (And.intro (@tyV_firm) (And.intro (@fdV_firm) (And.intro (@tyV_strip) (And.intro (@fdV_strip) (And.intro (@tyV_live) (And.intro (@tyV_size) (And.intro (@tyV_isAg) (And.intro (@tyV_cells) (And.intro (@fdV_live) (And.intro (@fdV_size) (And.intro (@fdV_isAg) (And.intro (@fdV_cells) (And.intro (@List.getElem?_map.{0, 0}) @Int.natCast_nonneg))))))))))))) ?_
    refine Fin.gen0 (rs := [.cell 4 100, .tmp 5]) rfl (by first | exact .inl rfl | exact .inr rfl) (finG Y76_Yr) ?_
    skip
    all_goals exact wkG (And.intro (@tyV_id) (And.intro (@fdV_id) (And.intro (@tyL_id) (And.intro (@fdL_id) byV_id))))
  | false =>
    rw [h5] at a3
    rw [if_neg Bool.false_ne_true]
    have h3 := c_wordR l i hi hl
    generalize wdP (l.drop i) = q at h3 ⊢
    obtain ⟨t, o⟩ := q
    simp only at h3 ⊢
    generalize posI l o = z at h3 ⊢
    rw [tyV_eq t] at h3 ⊢
    refine wG Y76_Yr True.intro ?_
    refine AR.callP a1 True.intro (And.intro (@tyV_id) (And.intro (@fdV_id) (And.intro (@tyL_id) (And.intro (@fdL_id) byV_id)))) ?_
    refine goG Y76_Yr True.intro ?_
    refine wG Y76_Yr True.intro ?_
    refine AR.callP a2 True.intro (And.intro (@tyV_id) (And.intro (@fdV_id) (And.intro (@tyL_id) (And.intro (@fdL_id) byV_id)))) ?_
    refine goG Y76_Yr True.intro ?_
    refine wG Y76_Yr True.intro ?_
    refine AR.callP a3 True.intro (And.intro (@tyV_id) (And.intro (@fdV_id) (And.intro (@tyL_id) (And.intro (@fdL_id) byV_id)))) ?_
    refine goG Y76_Yr True.intro ?_
    refine wG Y76_Yr True.intro ?_
    refine AR.callP h3 True.intro (And.intro (@tyV_id) (And.intro (@fdV_id) (And.intro (@tyL_id) (And.intro (@fdL_id) byV_id)))) ?_
    refine goG Y76_Yr (And.intro (@tyV_firm) (And.intro (@fdV_firm) (And.intro (@tyV_strip) (And.intro (@fdV_strip) (And.intro (@tyV_live) (And.intro (@tyV_size) (And.intro (@tyV_isAg) (And.intro (@tyV_cells) (And.intro (@fdV_live) (And.intro (@fdV_size) (And.intro (@fdV_isAg) (And.intro (@fdV_cells) (And.intro (@List.getElem?_map.{0, 0}) @Int.natCast_nonneg))))))))))))) ?_
    refine wG Y76_Yr (And.intro (@tyV_firm) (And.intro (@fdV_firm) (And.intro (@tyV_strip) (And.intro (@fdV_strip) (And.intro (@tyV_live) (And.intro (@tyV_size) (And.intro (@tyV_isAg) (And.intro (@tyV_cells) (And.intro (@fdV_live) (And.intro (@fdV_size) (And.intro (@fdV_isAg) (And.intro (@fdV_cells) (And.intro (@List.getElem?_map.{0, 0}) @Int.natCast_nonneg))))))))))))) ?_
    refine Fin.gen0 (rs := [.cell 4 100, .tmp 5]) rfl (by first | exact .inl rfl | exact .inr rfl) (finG Y76_Yr) ?_
    skip
    all_goals exact wkG (And.intro (@tyV_id) (And.intro (@fdV_id) (And.intro (@tyL_id) (And.intro (@fdL_id) byV_id))))
theorem Y69_Yr : type_of% (And.intro @F_ag_100 (And.intro @F_al_100 (And.intro @F_st_100 (And.intro @F_sz_100 (@F_un_9))))) := And.intro @F_ag_100 (And.intro @F_al_100 (And.intro @F_st_100 (And.intro @F_sz_100 (@F_un_9))))
set_option maxHeartbeats 4000000 in
theorem c_ParseR (l : Bs) (hl : l.length ≤ 65536) : PC Tryz.prog 69 [.im (.string (bA l))] (.tu [tyV (psT l).1, (.im (.int .i64 ((psT l).2)))]) := by
  rw [psT_ref l hl]
  have h1 : ¬ ((bA l).size : Int) > 65536 := by rw [bA_size]; omega
  have hr := c_readR l hl (l.length + 2) (by omega) 0 (Nat.zero_le _) (by omega)
  have hpos := fun t r (h : (rfn (l.length + 2)).1 (l.drop 0) = (t, some r)) => rf_pos (Nat.zero_le _) h
  have hfit : ∀ t r, (rfn (l.length + 2)).1 (l.drop 0) = (t, some r) → fit t := by
    intro t r h
    rw [List.drop_zero] at h
    obtain ⟨b1, b2⟩ := (rd_back (l.length + 2) (by omega)).1 l
    cases hb : ((rdn (l.length + 2)).1 l false).2.2 with
    | true =>
      have := b2 hb
      rw [h] at this
      cases this
    | false =>
      have := (b1 hb).2
      rw [h] at this
      have e := (Prod.mk.inj this).1
      rw [e]
      exact ((rdn_len (l.length + 2) (by omega)).1 l false).2.2
  rw [List.drop_zero] at hr hpos hfit
  refine PC.enter 28 Tryz.func69 rfl (by decide) rfl rfl (s := [(0, .im (.string (bA l)))]) (by rfl) ?_
  generalize (rfn (l.length + 2)).1 l = q at hr hpos hfit ⊢
  obtain ⟨t, o⟩ := q
  cases o with
  | none =>
    have hr : PC Tryz.prog 76 [.im (.string (bA l)), (.im (.int .i64 (0)))] (.tu [tyV t, (.im (.int .i64 (-1)))]) := hr
    have hne : ¬ (-1 : Int) = ((bA l).size : Int) := by omega
    simp only
    rw [tyV_eq t] at hr
    rw [tyV_eq tz]
    refine wG Y69_Yr h1 ?_
    refine AR.callP hr True.intro (And.intro (@tyV_id) (And.intro (@fdV_id) (And.intro (@tyL_id) (And.intro (@fdL_id) byV_id)))) ?_
    refine goG Y69_Yr (And.intro (@tyV_firm) (And.intro (@fdV_firm) (And.intro (@tyV_strip) (And.intro (@fdV_strip) (And.intro (@tyV_live) (And.intro (@tyV_size) (And.intro (@tyV_isAg) (And.intro (@tyV_cells) (And.intro (@fdV_live) (And.intro (@fdV_size) (And.intro (@fdV_isAg) (And.intro (@fdV_cells) (And.intro (@List.getElem?_map.{0, 0}) @Int.natCast_nonneg))))))))))))) ?_
    refine wG Y69_Yr hne ?_
    refine Fin.gen0 (rs := [.cell 2 100, .tmp 3]) rfl (by first | exact .inl rfl | exact .inr rfl) (finG Y69_Yr) ?_
    skip
    all_goals exact wkG (And.intro (@tyV_id) (And.intro (@fdV_id) (And.intro (@tyL_id) (And.intro (@fdL_id) byV_id))))
  | some r =>
    obtain ⟨e, he1, he2, rfl⟩ := hpos t r rfl
    have hr : PC Tryz.prog 76 [.im (.string (bA l)), (.im (.int .i64 (0)))] (.tu [tyV t, (.im (.int .i64 ((e : Int))))]) := by
      have hr := hr
      simp only at hr
      rw [posI_drop he2] at hr
      exact hr
    rw [tyV_eq t] at hr
    have hc := c_checkR t (hfit t _ rfl)
    by_cases hel : e = l.length
    · have heq : ((e : Int) = ((bA l).size : Int)) = True := eq_true (by rw [bA_size]; omega)
      have hd : l.drop e = [] := List.drop_eq_nil_iff.2 (by omega)
      rw [hd]
      simp only
      by_cases hk : chk t = 0
      · rw [if_neg (by simpa using hk)]
        simp only
        rw [tyV_eq t]
        refine wG Y69_Yr h1 ?_
        refine AR.callP hr True.intro (And.intro (@tyV_id) (And.intro (@fdV_id) (And.intro (@tyL_id) (And.intro (@fdL_id) byV_id)))) ?_
        refine goG Y69_Yr (And.intro (@tyV_firm) (And.intro (@fdV_firm) (And.intro (@tyV_strip) (And.intro (@fdV_strip) (And.intro (@tyV_live) (And.intro (@tyV_size) (And.intro (@tyV_isAg) (And.intro (@tyV_cells) (And.intro (@fdV_live) (And.intro (@fdV_size) (And.intro (@fdV_isAg) (And.intro (@fdV_cells) (And.intro (@List.getElem?_map.{0, 0}) @Int.natCast_nonneg))))))))))))) ?_
        refine wG Y69_Yr (And.intro heq (And.intro (@tyV_firm) (And.intro (@fdV_firm) (And.intro (@tyV_strip) (And.intro (@fdV_strip) (And.intro (@tyV_live) (And.intro (@tyV_size) (And.intro (@tyV_isAg) (And.intro (@tyV_cells) (And.intro (@fdV_live) (And.intro (@fdV_size) (And.intro (@fdV_isAg) (And.intro (@fdV_cells) (And.intro (@List.getElem?_map.{0, 0}) @Int.natCast_nonneg)))))))))))))) ?_
        refine AR.callP hc @tyV_eq (And.intro (@tyV_id) (And.intro (@fdV_id) (And.intro (@tyL_id) (And.intro (@fdL_id) byV_id)))) ?_
        refine goG Y69_Yr hk ?_
        refine wG Y69_Yr (And.intro hk (And.intro (@tyV_firm) (And.intro (@fdV_firm) (And.intro (@tyV_strip) (And.intro (@fdV_strip) (And.intro (@tyV_live) (And.intro (@tyV_size) (And.intro (@tyV_isAg) (And.intro (@tyV_cells) (And.intro (@fdV_live) (And.intro (@fdV_size) (And.intro (@fdV_isAg) (And.intro (@fdV_cells) (And.intro (@List.getElem?_map.{0, 0}) @Int.natCast_nonneg)))))))))))))) ?_
        refine Fin.gen0 (rs := [.cell 2 100, .tmp 3]) rfl (by first | exact .inl rfl | exact .inr rfl) (finG Y69_Yr) ?_
        skip
        all_goals exact wkG (And.intro (@tyV_id) (And.intro (@fdV_id) (And.intro (@tyL_id) (And.intro (@fdL_id) byV_id))))
      · rw [if_pos hk]
        simp only
        rw [tyV_eq tz]
        refine wG Y69_Yr h1 ?_
        refine AR.callP hr True.intro (And.intro (@tyV_id) (And.intro (@fdV_id) (And.intro (@tyL_id) (And.intro (@fdL_id) byV_id)))) ?_
        refine goG Y69_Yr (And.intro (@tyV_firm) (And.intro (@fdV_firm) (And.intro (@tyV_strip) (And.intro (@fdV_strip) (And.intro (@tyV_live) (And.intro (@tyV_size) (And.intro (@tyV_isAg) (And.intro (@tyV_cells) (And.intro (@fdV_live) (And.intro (@fdV_size) (And.intro (@fdV_isAg) (And.intro (@fdV_cells) (And.intro (@List.getElem?_map.{0, 0}) @Int.natCast_nonneg))))))))))))) ?_
        refine wG Y69_Yr (And.intro heq (And.intro (@tyV_firm) (And.intro (@fdV_firm) (And.intro (@tyV_strip) (And.intro (@fdV_strip) (And.intro (@tyV_live) (And.intro (@tyV_size) (And.intro (@tyV_isAg) (And.intro (@tyV_cells) (And.intro (@fdV_live) (And.intro (@fdV_size) (And.intro (@fdV_isAg) (And.intro (@fdV_cells) (And.intro (@List.getElem?_map.{0, 0}) @Int.natCast_nonneg)))))))))))))) ?_
        refine AR.callP hc @tyV_eq (And.intro (@tyV_id) (And.intro (@fdV_id) (And.intro (@tyL_id) (And.intro (@fdL_id) byV_id)))) ?_
        refine goG Y69_Yr hk ?_
        refine wG Y69_Yr (And.intro hk (And.intro (@tyV_firm) (And.intro (@fdV_firm) (And.intro (@tyV_strip) (And.intro (@fdV_strip) (And.intro (@tyV_live) (And.intro (@tyV_size) (And.intro (@tyV_isAg) (And.intro (@tyV_cells) (And.intro (@fdV_live) (And.intro (@fdV_size) (And.intro (@fdV_isAg) (And.intro (@fdV_cells) (And.intro (@List.getElem?_map.{0, 0}) @Int.natCast_nonneg)))))))))))))) ?_
        refine Fin.gen0 (rs := [.cell 2 100, .tmp 3]) rfl (by first | exact .inl rfl | exact .inr rfl) (finG Y69_Yr) ?_
        skip
        all_goals exact wkG (And.intro (@tyV_id) (And.intro (@fdV_id) (And.intro (@tyL_id) (And.intro (@fdL_id) byV_id))))
    · have hne : ¬ (e : Int) = ((bA l).size : Int) := by rw [bA_size]; omega
      obtain ⟨x, y, hd⟩ : ∃ x y, l.drop e = x :: y := by
        cases hd : l.drop e with
        | nil => exact absurd (List.drop_eq_nil_iff.1 hd) (by omega)
        | cons x y => exact ⟨x, y, rfl⟩
      rw [hd]
      simp only
      rw [tyV_eq tz]
      refine wG Y69_Yr h1 ?_
      refine AR.callP hr True.intro (And.intro (@tyV_id) (And.intro (@fdV_id) (And.intro (@tyL_id) (And.intro (@fdL_id) byV_id)))) ?_
      refine goG Y69_Yr (And.intro (@tyV_firm) (And.intro (@fdV_firm) (And.intro (@tyV_strip) (And.intro (@fdV_strip) (And.intro (@tyV_live) (And.intro (@tyV_size) (And.intro (@tyV_isAg) (And.intro (@tyV_cells) (And.intro (@fdV_live) (And.intro (@fdV_size) (And.intro (@fdV_isAg) (And.intro (@fdV_cells) (And.intro (@List.getElem?_map.{0, 0}) @Int.natCast_nonneg))))))))))))) ?_
      refine wG Y69_Yr hne ?_
      refine Fin.gen0 (rs := [.cell 2 100, .tmp 3]) rfl (by first | exact .inl rfl | exact .inr rfl) (finG Y69_Yr) ?_
      skip
      all_goals exact wkG (And.intro (@tyV_id) (And.intro (@fdV_id) (And.intro (@tyL_id) (And.intro (@fdL_id) byV_id))))
end Go.Proofs.YtianekkfehoedaaGreatDoor
