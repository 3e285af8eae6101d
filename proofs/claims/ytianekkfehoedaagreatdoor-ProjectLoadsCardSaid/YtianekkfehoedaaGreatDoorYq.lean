/- Walks: the reference's reader of types. -/
import Derived.Test.YtianekkfehoedaaGreatDoorHv
import Derived.Test.YtianekkfehoedaaGreatDoorYg
import Derived.Test.YtianekkfehoedaaGreatDoorPw
namespace Go.Proofs.YtianekkfehoedaaGreatDoor
set_option linter.unusedSimpArgs false
set_option linter.unusedVariables false
set_option linter.unnecessarySimpa false
open Go.RowKit
theorem pre_take {p l : Bs} : p.isPrefixOf l = (l.take p.length == p) := by
  cases h : p.isPrefixOf l with
  | true =>
    obtain ⟨r, rfl, _⟩ := pre_app h
    simp
  | false =>
    symm
    rw [beq_eq_false_iff_ne]
    intro e
    have h2 := pre_of p (l.drop p.length)
    have e2 : p ++ l.drop p.length = l := by
      conv => lhs; lhs; rw [← e]
      exact List.take_append_drop _ _
    rw [e2, h] at h2
    cases h2
theorem bA_inj {a b : Bs} (h : bA a = bA b) : a = b := by rw [← bA_list a, h, bA_list]
theorem bA_eq (a b : Bs) : ((bA a).toList == (bA b).toList) = (a == b) := by
  cases h : (a == b) with
  | true =>
    rw [eq_of_beq h]
    exact (eqS_iff _ _).2 rfl
  | false => exact eqS_f.2 fun e => by rw [bA_inj e] at h; simp at h
theorem wr2 {m n : Nat} (h : m ≤ 70000) (hn : n ≤ 70000) : IntKind.i64.wrap ((m : Int) + (n : Int)) = ((m + n : Nat) : Int) := by
  rw [wrap_in (by omega)]
  omega
/-- The bytes i to j. -/
theorem slmid (l : Bs) (i j : Nat) (h : i ≤ j) (hj : j ≤ l.length) : ((some (i : Int)).getD 0 = (i : Int)) ∧ ((some (j : Int)).getD ((bA l).size : Int) = (j : Int)) ∧ (0 : Int) ≤ (i : Int) ∧ ((i : Int) ≤ (j : Int)) ∧ ((j : Int) ≤ ((bA l).size : Int)) ∧ ((i : Int).toNat = i) ∧ ((j : Int).toNat = j) ∧ ((bA l).extract i j = bA ((l.take j).drop i)) :=
  ⟨rfl, rfl, by omega, by omega, by rw [bA_size]; omega, by omega, by omega, bA_ext l i j⟩
theorem tk_dr (l : Bs) (i n : Nat) : (l.take (i + n)).drop i = (l.drop i).take n := by rw [List.drop_take]; congr 1; omega
theorem Y87_Yq : type_of% (@F_un_9) := @F_un_9
theorem c_has (s : ByteArray) (p l : Bs) (i : Nat) (hs : s = bA p) (hi : i ≤ l.length) (hl : l.length ≤ 65536) : PC Tryz.prog 87 [.im (.string (bA l)), (.im (.int .i64 ((i : Int)))), .im (.string s)] (.im (.bool (p.isPrefixOf (l.drop i)))) := by
  have hsz : s.size = p.length := by rw [hs, bA_size]
  have hlz : (bA l).size = l.length := bA_size l
  have hsub : IntKind.i64.wrap (((bA l).size : Int) - (i : Int)) = ((l.length - i : Nat) : Int) := by rw [wrap_in (by omega), hlz]; omega
  refine PC.enter 25 Tryz.func87 rfl (by decide) rfl rfl (s := [(0, .im (.string (bA l))), (1, (.im (.int .i64 ((i : Int))))), (2, .im (.string s))]) (by rfl) ?_

  by_cases hle : p.length ≤ l.length - i
  · have h1 : ((p.length : Nat) : Int) ≤ ((l.length - i : Nat) : Int) := by omega
    have hw := wr2 (m := i) (n := p.length) (by omega) (by omega)
    have hm := slmid l i (i + p.length) (by omega) (by omega)
    rw [tk_dr] at hm
    have he := bA_eq ((l.drop i).take p.length) p
    rw [← hs, ← pre_take] at he
    refine wG Y87_Yq (And.intro hsub (And.intro hsz (And.intro h1 (And.intro hw (And.intro hm he))))) ?_
    exact Fin.oneP
  · have h1 : ¬ ((p.length : Nat) : Int) ≤ ((l.length - i : Nat) : Int) := by omega
    have hf : p.isPrefixOf (l.drop i) = false := by
      cases h : p.isPrefixOf (l.drop i) with
      | false => rfl
      | true =>
        have := prefix_le h
        rw [List.length_drop] at this
        omega
    rw [hf]
    refine wG Y87_Yq (And.intro hsub (And.intro hsz h1)) ?_
    exact Fin.oneP
/-- What the reference's number answers. -/
def nuR (l : Bs) (i : Nat) : Int × Int := if noNum (l.drop i) then (0, -1) else (numV ((l.drop i).take (digs (l.drop i))), ((i + digs (l.drop i) : Nat) : Int))
theorem conv_u8 {c : UInt8} (h : isDig c = true) : IntKind.u8.wrap ((c.toNat : Int) - 48) = ((c.toNat - 48 : Nat) : Int) ∧ IntKind.i64.wrap ((c.toNat - 48 : Nat) : Int) = ((c.toNat - 48 : Nat) : Int) := by
  unfold isDig at h
  simp only [Bool.and_eq_true, decide_eq_true_eq] at h
  exact ⟨by rw [IntWalk.u8_in _ (by omega)]; omega, wrap_in (by omega)⟩
theorem Y89_Yq : type_of% (And.intro @F_in_3 (And.intro @F_in_5 (And.intro @F_un_3 (And.intro @F_un_5 (@F_un_9))))) := And.intro @F_in_3 (And.intro @F_in_5 (And.intro @F_un_3 (And.intro @F_un_5 (@F_un_9))))
set_option maxHeartbeats 4000000 in
theorem c_numberR (l : Bs) (i : Nat) (hi : i ≤ l.length) (hl : l.length ≤ 65536) : PC Tryz.prog 89 [.im (.string (bA l)), (.im (.int .i64 ((i : Int))))] (.tu [(.im (.int .i64 ((nuR l i).1))), (.im (.int .i64 ((nuR l i).2)))]) := by
  have hlz : (bA l).size = l.length := bA_size l
  have hdl := digs_le (l.drop i)
  have hdl2 : digs (l.drop i) ≤ l.length - i := by rw [List.length_drop] at hdl; exact hdl
  have h7 : IntKind.i64.wrap ((i : Int) + 7) = ((i + 7 : Nat) : Int) := wr2 (m := i) (n := 7) (by omega) (by decide)
  have h6 : IntKind.i64.wrap ((i : Int) + 6) = ((i + 6 : Nat) : Int) := wr2 (m := i) (n := 6) (by omega) (by decide)
  have h1 : IntKind.i64.wrap ((i : Int) + 1) = ((i + 1 : Nat) : Int) := wr2 (m := i) (n := 1) (by omega) (by decide)
  refine PC.enter 64 Tryz.func89 rfl (by decide) rfl rfl (s := [(0, .im (.string (bA l))), (1, (.im (.int .i64 ((i : Int)))))]) (by rfl) ?_

  refine wG Y89_Yq True.intro ?_
  refine AWp.loop ?_
  refine ALp.cutP 0 [(0, .im (.string (bA l))), (1, (.im (.int .i64 ((i : Int))))), (6, (.im (.int .i64 ((((((0, 0) : Nat × Nat)).2 : Nat) : Int))))), (7, (.im (.int .i64 (((i + (((0, 0) : Nat × Nat)).1 : Nat) : Int)))))] [] (And.intro (@tyV_id) (And.intro (@fdV_id) (And.intro (@tyL_id) (And.intro (@fdL_id) byV_id)))) ?_
  refine ALp.meas (α := Nat × Nat) (fun p => ⟨dn 64 [(0, .im (.string (bA l))), (1, (.im (.int .i64 ((i : Int))))), (6, (.im (.int .i64 ((((p).2 : Nat) : Int))))), (7, (.im (.int .i64 (((i + (p).1 : Nat) : Int)))))], ofl []⟩) (fun p => p.1 ≤ digs (l.drop i) ∧ p.1 ≤ 7 ∧ Lib.decFrom 0 ((l.drop i).take p.1) = some p.2) (fun p => 7 - p.1) ?_ (0, 0) ⟨Nat.zero_le _, Nat.zero_le _, rfl⟩
  rintro ⟨k, v⟩ ⟨hk, hk7, hv⟩ hnext
  simp only at hk hk7 hv hnext
  show AWpK _ _ _ _ _ ⟨dn 64 [(0, .im (.string (bA l))), (1, (.im (.int .i64 ((i : Int))))), (6, (.im (.int .i64 (((v : Nat) : Int))))), (7, (.im (.int .i64 (((i + k : Nat) : Int)))))], ofl []⟩
  have hget : ∀ j, (bA l)[i + j]? = (l.drop i)[j]? := fun j => by rw [bA_get, List.getElem?_drop]
  have h0 : (0 : Int) ≤ ((i + k : Nat) : Int) := by omega
  have hvb : v ≤ 10000000 := by
    have := decFrom_lt _ _ _ hv
    have h10 : (0 + 1) * 10 ^ ((l.drop i).take k).length ≤ 10000000 := by
      rw [Nat.zero_add, Nat.one_mul]
      exact Nat.le_trans (Nat.pow_le_pow_right (by decide) (by rw [List.length_take]; omega)) (by decide : 10 ^ 7 ≤ 10000000)
    omega
  by_cases hlt : k < digs (l.drop i) ∧ k < 7
  · obtain ⟨hlt1, hlt2⟩ := hlt
    obtain ⟨c, hc, hd⟩ := digs_at hlt1
    have hb := (hget k).trans hc
    have hd1 := (dig_t hd).1
    have hd2 := (dig_t hd).2
    have ha : ((i + k : Nat) : Int) < ((bA l).size : Int) := by rw [hlz]; omega
    have ha7 : ((i + k : Nat) : Int) < ((i + 7 : Nat) : Int) := by omega
    have hcv := conv_u8 hd
    obtain ⟨d, g1, g2, g3⟩ := dig_back hd
    have hdv : c.toNat - 48 = d := by rw [← g3, dig_nat g1]; omega
    rw [hdv] at hcv
    have hst := Lib.decFrom_take (l.drop i) k 0 v c d hv hc g2
    have hmul : IntKind.i64.wrap (10 * (v : Int)) = ((10 * v : Nat) : Int) := by rw [wrap_in (by omega)]; omega
    have hadd : IntKind.i64.wrap (((10 * v : Nat) : Int) + (d : Int)) = ((v * 10 + d : Nat) : Int) := by rw [wrap_in (by omega)]; omega
    have hm1 := wrap_succ (m := i + k) (N := 70000) (by omega) (by decide)
    have hn := hnext (k + 1, v * 10 + d) (by simp only; omega) ⟨by simp only; omega, by simp only; omega, hst⟩
    clear hnext
    refine wG Y89_Yq (And.intro h0 (And.intro ha (And.intro h7 (And.intro ha7 (And.intro hb (And.intro hd1 (And.intro hd2 (And.intro hcv (And.intro hmul (And.intro hadd hm1)))))))))) ?_
    refine ALp.cutP 0 [(0, .im (.string (bA l))), (1, (.im (.int .i64 ((i : Int))))), (6, (.im (.int .i64 ((((((k + 1, v * 10 + d) : Nat × Nat)).2 : Nat) : Int))))), (7, (.im (.int .i64 (((i + (((k + 1, v * 10 + d) : Nat × Nat)).1 : Nat) : Int)))))] [] (And.intro (@tyV_id) (And.intro (@fdV_id) (And.intro (@tyL_id) (And.intro (@fdL_id) byV_id)))) ?_
    exact hn
  · clear hnext
    obtain ⟨D, hD⟩ : ∃ D, D = digs (l.drop i) := ⟨_, rfl⟩
    by_cases h77 : k = 7
    · subst h77
      have hgt : ((i + 7 : Nat) : Int) > ((i + 6 : Nat) : Int) := by omega
      have hne : ¬ ((i + 7 : Nat) : Int) = (i : Int) := by omega
      have e : noNum (l.drop i) = true := by unfold noNum; rw [← hD]; simp; omega
      have er : nuR l i = (0, -1) := by unfold nuR; rw [if_pos e]
      rw [er]
      by_cases ha : i + 7 < l.length
      · have ha1 : ((i + 7 : Nat) : Int) < ((bA l).size : Int) := by rw [hlz]; omega
        have ha2 : ¬ ((i + 7 : Nat) : Int) < ((i + 7 : Nat) : Int) := by omega
        refine wG Y89_Yq (And.intro h0 (And.intro ha1 (And.intro h7 (And.intro ha2 (And.intro hne (And.intro h6 hgt)))))) ?_
        refine Fin.gen0 (rs := [.tmp 4, .tmp 5]) rfl (by first | exact .inl rfl | exact .inr rfl) (finG Y89_Yq) ?_
        skip
        all_goals exact wkG (And.intro (@tyV_id) (And.intro (@fdV_id) (And.intro (@tyL_id) (And.intro (@fdL_id) byV_id))))
      · have ha1 : ¬ ((i + 7 : Nat) : Int) < ((bA l).size : Int) := by rw [hlz]; omega
        refine wG Y89_Yq (And.intro h0 (And.intro ha1 (And.intro hne (And.intro h6 hgt)))) ?_
        refine Fin.gen0 (rs := [.tmp 4, .tmp 5]) rfl (by first | exact .inl rfl | exact .inr rfl) (finG Y89_Yq) ?_
        skip
        all_goals exact wkG (And.intro (@tyV_id) (And.intro (@fdV_id) (And.intro (@tyL_id) (And.intro (@fdL_id) byV_id))))
    have hkD : k = D := by omega
    subst hkD
    have hgood : ¬ noNum (l.drop i) = true → nuR l i = (((v : Nat) : Int), ((i + k : Nat) : Int)) := fun e => by
      unfold nuR
      rw [if_neg e, ← hD]
      congr 1
      have e := eq_false_of_ne_true e
      obtain ⟨a1, _, _⟩ := noNum_inv e
      have hne : (l.drop i).take k ≠ [] := by
        intro e
        have := congrArg List.length e
        rw [List.length_take, List.length_nil] at this
        omega
      obtain ⟨n, e1, e2⟩ := numV_nat (l := (l.drop i).take k) (fun b hb => digs_all (l := l.drop i) (by rw [← hD]; exact hb)) hne
      rw [e2]
      rw [hv] at e1
      cases e1
      rfl
    have ha7 : ((i + k : Nat) : Int) < ((i + 7 : Nat) : Int) := by omega
    by_cases hle : k < l.length - i
    · have ha1 : ((i + k : Nat) : Int) < ((bA l).size : Int) := by rw [hlz]; omega
      have hle' : digs (l.drop i) < (l.drop i).length := by rw [List.length_drop]; omega
      have hb := (hget k).trans (List.getElem?_eq_getElem (by omega : k < (l.drop i).length))
      have hd := digs_end (l := l.drop i) (b := (l.drop i)[k]'(by omega)) (by rw [← hD]; exact List.getElem?_eq_getElem _)
      generalize (l.drop i)[k]'(by omega) = cx at hb hd
      rcases dig_f hd with hd1 | ⟨hd1, hd2⟩
      · by_cases z0 : k = 0
        · have hz : (((i + k : Nat) : Int) = (i : Int)) = True := eq_true (by omega)
          have e : noNum (l.drop i) = true := by unfold noNum; rw [← hD]; simp [z0]
          have er : nuR l i = (0, -1) := by unfold nuR; rw [if_pos e]
          rw [er]
          refine wG Y89_Yq (And.intro h0 (And.intro ha1 (And.intro h7 (And.intro ha7 (And.intro hb (And.intro hd1 hz)))))) ?_
          refine Fin.gen0 (rs := [.tmp 4, .tmp 5]) rfl (by first | exact .inl rfl | exact .inr rfl) (finG Y89_Yq) ?_
          skip
          all_goals exact wkG (And.intro (@tyV_id) (And.intro (@fdV_id) (And.intro (@tyL_id) (And.intro (@fdL_id) byV_id))))
        have hz : ¬ ((i + k : Nat) : Int) = (i : Int) := by omega
        have hs : ¬ ((i + k : Nat) : Int) > ((i + 6 : Nat) : Int) := by omega
        obtain ⟨c0, hc0, _⟩ := digs_at (l := l.drop i) (n := 0) (by omega)
        have hb0 : (bA l)[i]? = some c0 := (hget 0).trans hc0
        have hi0 : (0 : Int) ≤ (i : Int) := by omega
        have hh : (l.drop i).headD 0 = c0 := by
          cases hq : l.drop i with
          | nil => rw [hq] at hc0; simp at hc0
          | cons x r => rw [hq] at hc0; simpa using hc0
        by_cases z1 : 1 < k
        · have ho : ((i + k : Nat) : Int) > ((i + 1 : Nat) : Int) := by omega
          by_cases z2 : c0 = 48
          · have e : noNum (l.drop i) = true := by unfold noNum; rw [hh, z2, ← hD]; simp [z1]
            have h48 : (c0.toNat : Int) = 48 := by rw [z2]; rfl
            have er : nuR l i = (0, -1) := by unfold nuR; rw [if_pos e]
            rw [er]
            refine wG Y89_Yq (And.intro h0 (And.intro ha1 (And.intro h7 (And.intro ha7 (And.intro hb (And.intro hd1 (And.intro hz (And.intro h6 (And.intro hs (And.intro hi0 (And.intro hb0 (And.intro h48 (And.intro h1 ho))))))))))))) ?_
            refine Fin.gen0 (rs := [.tmp 4, .tmp 5]) rfl (by first | exact .inl rfl | exact .inr rfl) (finG Y89_Yq) ?_
            skip
            all_goals exact wkG (And.intro (@tyV_id) (And.intro (@fdV_id) (And.intro (@tyL_id) (And.intro (@fdL_id) byV_id))))
          · have e : ¬ noNum (l.drop i) = true := by unfold noNum; rw [hh, ← hD]; simp [z0, z2]; omega
            have h48 : ¬ (c0.toNat : Int) = 48 := fun h => z2 (by
              have h : c0.toNat = 48 := by omega
              exact UInt8.toNat_inj.1 h)
            have er : nuR l i = (((v : Nat) : Int), ((i + k : Nat) : Int)) := hgood e
            rw [er]
            refine wG Y89_Yq (And.intro h0 (And.intro ha1 (And.intro h7 (And.intro ha7 (And.intro hb (And.intro hd1 (And.intro hz (And.intro h6 (And.intro hs (And.intro hi0 (And.intro hb0 h48))))))))))) ?_
            refine Fin.gen0 (rs := [.tmp 4, .tmp 5]) rfl (by first | exact .inl rfl | exact .inr rfl) (finG Y89_Yq) ?_
            skip
            all_goals exact wkG (And.intro (@tyV_id) (And.intro (@fdV_id) (And.intro (@tyL_id) (And.intro (@fdL_id) byV_id))))
        · have ho : ¬ ((i + k : Nat) : Int) > ((i + 1 : Nat) : Int) := by omega
          have e : ¬ noNum (l.drop i) = true := by unfold noNum; rw [← hD]; simp [z0, z1]; omega
          have er : nuR l i = (((v : Nat) : Int), ((i + k : Nat) : Int)) := hgood e
          rw [er]
          by_cases z2 : c0 = 48
          · have h48 : (c0.toNat : Int) = 48 := by rw [z2]; rfl
            refine wG Y89_Yq (And.intro h0 (And.intro ha1 (And.intro h7 (And.intro ha7 (And.intro hb (And.intro hd1 (And.intro hz (And.intro h6 (And.intro hs (And.intro hi0 (And.intro hb0 (And.intro h48 (And.intro h1 ho))))))))))))) ?_
            refine Fin.gen0 (rs := [.tmp 4, .tmp 5]) rfl (by first | exact .inl rfl | exact .inr rfl) (finG Y89_Yq) ?_
            skip
            all_goals exact wkG (And.intro (@tyV_id) (And.intro (@fdV_id) (And.intro (@tyL_id) (And.intro (@fdL_id) byV_id))))
          · have h48 : ¬ (c0.toNat : Int) = 48 := fun h => z2 (by
              have h : c0.toNat = 48 := by omega
              exact UInt8.toNat_inj.1 h)
            refine wG Y89_Yq (And.intro h0 (And.intro ha1 (And.intro h7 (And.intro ha7 (And.intro hb (And.intro hd1 (And.intro hz (And.intro h6 (And.intro hs (And.intro hi0 (And.intro hb0 h48))))))))))) ?_
            refine Fin.gen0 (rs := [.tmp 4, .tmp 5]) rfl (by first | exact .inl rfl | exact .inr rfl) (finG Y89_Yq) ?_
            skip
            all_goals exact wkG (And.intro (@tyV_id) (And.intro (@fdV_id) (And.intro (@tyL_id) (And.intro (@fdL_id) byV_id))))
      · by_cases z0 : k = 0
        · have hz : (((i + k : Nat) : Int) = (i : Int)) = True := eq_true (by omega)
          have e : noNum (l.drop i) = true := by unfold noNum; rw [← hD]; simp [z0]
          have er : nuR l i = (0, -1) := by unfold nuR; rw [if_pos e]
          rw [er]
          refine wG Y89_Yq (And.intro h0 (And.intro ha1 (And.intro h7 (And.intro ha7 (And.intro hb (And.intro hd1 (And.intro hd2 hz))))))) ?_
          refine Fin.gen0 (rs := [.tmp 4, .tmp 5]) rfl (by first | exact .inl rfl | exact .inr rfl) (finG Y89_Yq) ?_
          skip
          all_goals exact wkG (And.intro (@tyV_id) (And.intro (@fdV_id) (And.intro (@tyL_id) (And.intro (@fdL_id) byV_id))))
        have hz : ¬ ((i + k : Nat) : Int) = (i : Int) := by omega
        have hs : ¬ ((i + k : Nat) : Int) > ((i + 6 : Nat) : Int) := by omega
        obtain ⟨c0, hc0, _⟩ := digs_at (l := l.drop i) (n := 0) (by omega)
        have hb0 : (bA l)[i]? = some c0 := (hget 0).trans hc0
        have hi0 : (0 : Int) ≤ (i : Int) := by omega
        have hh : (l.drop i).headD 0 = c0 := by
          cases hq : l.drop i with
          | nil => rw [hq] at hc0; simp at hc0
          | cons x r => rw [hq] at hc0; simpa using hc0
        by_cases z1 : 1 < k
        · have ho : ((i + k : Nat) : Int) > ((i + 1 : Nat) : Int) := by omega
          by_cases z2 : c0 = 48
          · have e : noNum (l.drop i) = true := by unfold noNum; rw [hh, z2, ← hD]; simp [z1]
            have h48 : (c0.toNat : Int) = 48 := by rw [z2]; rfl
            have er : nuR l i = (0, -1) := by unfold nuR; rw [if_pos e]
            rw [er]
            refine wG Y89_Yq (And.intro h0 (And.intro ha1 (And.intro h7 (And.intro ha7 (And.intro hb (And.intro hd1 (And.intro hd2 (And.intro hz (And.intro h6 (And.intro hs (And.intro hi0 (And.intro hb0 (And.intro h48 (And.intro h1 ho)))))))))))))) ?_
            refine Fin.gen0 (rs := [.tmp 4, .tmp 5]) rfl (by first | exact .inl rfl | exact .inr rfl) (finG Y89_Yq) ?_
            skip
            all_goals exact wkG (And.intro (@tyV_id) (And.intro (@fdV_id) (And.intro (@tyL_id) (And.intro (@fdL_id) byV_id))))
          · have e : ¬ noNum (l.drop i) = true := by unfold noNum; rw [hh, ← hD]; simp [z0, z2]; omega
            have h48 : ¬ (c0.toNat : Int) = 48 := fun h => z2 (by
              have h : c0.toNat = 48 := by omega
              exact UInt8.toNat_inj.1 h)
            have er : nuR l i = (((v : Nat) : Int), ((i + k : Nat) : Int)) := hgood e
            rw [er]
            refine wG Y89_Yq (And.intro h0 (And.intro ha1 (And.intro h7 (And.intro ha7 (And.intro hb (And.intro hd1 (And.intro hd2 (And.intro hz (And.intro h6 (And.intro hs (And.intro hi0 (And.intro hb0 h48)))))))))))) ?_
            refine Fin.gen0 (rs := [.tmp 4, .tmp 5]) rfl (by first | exact .inl rfl | exact .inr rfl) (finG Y89_Yq) ?_
            skip
            all_goals exact wkG (And.intro (@tyV_id) (And.intro (@fdV_id) (And.intro (@tyL_id) (And.intro (@fdL_id) byV_id))))
        · have ho : ¬ ((i + k : Nat) : Int) > ((i + 1 : Nat) : Int) := by omega
          have e : ¬ noNum (l.drop i) = true := by unfold noNum; rw [← hD]; simp [z0, z1]; omega
          have er : nuR l i = (((v : Nat) : Int), ((i + k : Nat) : Int)) := hgood e
          rw [er]
          by_cases z2 : c0 = 48
          · have h48 : (c0.toNat : Int) = 48 := by rw [z2]; rfl
            refine wG Y89_Yq (And.intro h0 (And.intro ha1 (And.intro h7 (And.intro ha7 (And.intro hb (And.intro hd1 (And.intro hd2 (And.intro hz (And.intro h6 (And.intro hs (And.intro hi0 (And.intro hb0 (And.intro h48 (And.intro h1 ho)))))))))))))) ?_
            refine Fin.gen0 (rs := [.tmp 4, .tmp 5]) rfl (by first | exact .inl rfl | exact .inr rfl) (finG Y89_Yq) ?_
            skip
            all_goals exact wkG (And.intro (@tyV_id) (And.intro (@fdV_id) (And.intro (@tyL_id) (And.intro (@fdL_id) byV_id))))
          · have h48 : ¬ (c0.toNat : Int) = 48 := fun h => z2 (by
              have h : c0.toNat = 48 := by omega
              exact UInt8.toNat_inj.1 h)
            refine wG Y89_Yq (And.intro h0 (And.intro ha1 (And.intro h7 (And.intro ha7 (And.intro hb (And.intro hd1 (And.intro hd2 (And.intro hz (And.intro h6 (And.intro hs (And.intro hi0 (And.intro hb0 h48)))))))))))) ?_
            refine Fin.gen0 (rs := [.tmp 4, .tmp 5]) rfl (by first | exact .inl rfl | exact .inr rfl) (finG Y89_Yq) ?_
            skip
            all_goals exact wkG (And.intro (@tyV_id) (And.intro (@fdV_id) (And.intro (@tyL_id) (And.intro (@fdL_id) byV_id))))
    · have ha1 : ¬ ((i + k : Nat) : Int) < ((bA l).size : Int) := by rw [hlz]; omega
      by_cases z0 : k = 0
      · have hz : (((i + k : Nat) : Int) = (i : Int)) = True := eq_true (by omega)
        have e : noNum (l.drop i) = true := by unfold noNum; rw [← hD]; simp [z0]
        have er : nuR l i = (0, -1) := by unfold nuR; rw [if_pos e]
        rw [er]
        refine wG Y89_Yq (And.intro h0 (And.intro ha1 hz)) ?_
        refine Fin.gen0 (rs := [.tmp 4, .tmp 5]) rfl (by first | exact .inl rfl | exact .inr rfl) (finG Y89_Yq) ?_
        skip
        all_goals exact wkG (And.intro (@tyV_id) (And.intro (@fdV_id) (And.intro (@tyL_id) (And.intro (@fdL_id) byV_id))))
      have hz : ¬ ((i + k : Nat) : Int) = (i : Int) := by omega
      have hs : ¬ ((i + k : Nat) : Int) > ((i + 6 : Nat) : Int) := by omega
      obtain ⟨c0, hc0, _⟩ := digs_at (l := l.drop i) (n := 0) (by omega)
      have hb0 : (bA l)[i]? = some c0 := (hget 0).trans hc0
      have hi0 : (0 : Int) ≤ (i : Int) := by omega
      have hh : (l.drop i).headD 0 = c0 := by
        cases hq : l.drop i with
        | nil => rw [hq] at hc0; simp at hc0
        | cons x r => rw [hq] at hc0; simpa using hc0
      by_cases z1 : 1 < k
      · have ho : ((i + k : Nat) : Int) > ((i + 1 : Nat) : Int) := by omega
        by_cases z2 : c0 = 48
        · have e : noNum (l.drop i) = true := by unfold noNum; rw [hh, z2, ← hD]; simp [z1]
          have h48 : (c0.toNat : Int) = 48 := by rw [z2]; rfl
          have er : nuR l i = (0, -1) := by unfold nuR; rw [if_pos e]
          rw [er]
          refine wG Y89_Yq (And.intro h0 (And.intro ha1 (And.intro hz (And.intro h6 (And.intro hs (And.intro hi0 (And.intro hb0 (And.intro h48 (And.intro h1 ho))))))))) ?_
          refine Fin.gen0 (rs := [.tmp 4, .tmp 5]) rfl (by first | exact .inl rfl | exact .inr rfl) (finG Y89_Yq) ?_
          skip
          all_goals exact wkG (And.intro (@tyV_id) (And.intro (@fdV_id) (And.intro (@tyL_id) (And.intro (@fdL_id) byV_id))))
        · have e : ¬ noNum (l.drop i) = true := by unfold noNum; rw [hh, ← hD]; simp [z0, z2]; omega
          have h48 : ¬ (c0.toNat : Int) = 48 := fun h => z2 (by
            have h : c0.toNat = 48 := by omega
            exact UInt8.toNat_inj.1 h)
          have er : nuR l i = (((v : Nat) : Int), ((i + k : Nat) : Int)) := hgood e
          rw [er]
          refine wG Y89_Yq (And.intro h0 (And.intro ha1 (And.intro hz (And.intro h6 (And.intro hs (And.intro hi0 (And.intro hb0 h48))))))) ?_
          refine Fin.gen0 (rs := [.tmp 4, .tmp 5]) rfl (by first | exact .inl rfl | exact .inr rfl) (finG Y89_Yq) ?_
          skip
          all_goals exact wkG (And.intro (@tyV_id) (And.intro (@fdV_id) (And.intro (@tyL_id) (And.intro (@fdL_id) byV_id))))
      · have ho : ¬ ((i + k : Nat) : Int) > ((i + 1 : Nat) : Int) := by omega
        have e : ¬ noNum (l.drop i) = true := by unfold noNum; rw [← hD]; simp [z0, z1]; omega
        have er : nuR l i = (((v : Nat) : Int), ((i + k : Nat) : Int)) := hgood e
        rw [er]
        by_cases z2 : c0 = 48
        · have h48 : (c0.toNat : Int) = 48 := by rw [z2]; rfl
          refine wG Y89_Yq (And.intro h0 (And.intro ha1 (And.intro hz (And.intro h6 (And.intro hs (And.intro hi0 (And.intro hb0 (And.intro h48 (And.intro h1 ho))))))))) ?_
          refine Fin.gen0 (rs := [.tmp 4, .tmp 5]) rfl (by first | exact .inl rfl | exact .inr rfl) (finG Y89_Yq) ?_
          skip
          all_goals exact wkG (And.intro (@tyV_id) (And.intro (@fdV_id) (And.intro (@tyL_id) (And.intro (@fdL_id) byV_id))))
        · have h48 : ¬ (c0.toNat : Int) = 48 := fun h => z2 (by
            have h : c0.toNat = 48 := by omega
            exact UInt8.toNat_inj.1 h)
          refine wG Y89_Yq (And.intro h0 (And.intro ha1 (And.intro hz (And.intro h6 (And.intro hs (And.intro hi0 (And.intro hb0 h48))))))) ?_
          refine Fin.gen0 (rs := [.tmp 4, .tmp 5]) rfl (by first | exact .inl rfl | exact .inr rfl) (finG Y89_Yq) ?_
          skip
          all_goals exact wkG (And.intro (@tyV_id) (And.intro (@fdV_id) (And.intro (@tyL_id) (And.intro (@fdL_id) byV_id))))
end Go.Proofs.YtianekkfehoedaaGreatDoor
