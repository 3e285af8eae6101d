/- Walks: the text of a type is read. -/
import Derived.Test.YtianekkfehoedaaGreatDoorHv
import Derived.Test.YtianekkfehoedaaGreatDoorZ0
import Derived.Test.YtianekkfehoedaaGreatDoorKA
namespace Go.Proofs.YtianekkfehoedaaGreatDoor
set_option linter.unusedSimpArgs false
set_option linter.unusedVariables false
set_option linter.unnecessarySimpa false
open Go.RowKit
theorem hasPre (s : ByteArray) (l p : Bs) (hs : s = bA p) : Lib.hasPrefix (bA l).data.toList s.data.toList = p.isPrefixOf l := by rw [hs, bA_list, bA_list]; rfl
theorem prefix_le {p l : Bs} (h : p.isPrefixOf l = true) : p.length ≤ l.length := (List.isPrefixOf_iff_prefix.1 h).length_le
theorem bA_ext (l : Bs) (i j : Nat) : (bA l).extract i j = bA ((l.take j).drop i) := by
  apply ByteArray.ext
  rw [ByteArray.data_extract]
  simp [bA, List.extract_eq_take_drop, List.drop_take]
/-- What is behind n bytes. -/
theorem sldr (l : Bs) (n : Nat) (h : n ≤ l.length) : ((some (n : Int)).getD 0 = (n : Int)) ∧ ((none : Option Int).getD ((bA l).size : Int) = ((bA l).size : Int)) ∧ (0 : Int) ≤ (n : Int) ∧ ((n : Int) ≤ ((bA l).size : Int)) ∧ (((bA l).size : Int) ≤ ((bA l).size : Int)) ∧ ((n : Int).toNat = n) ∧ (((bA l).size : Int).toNat = (bA l).size) ∧ ((bA l).extract n (bA l).size = bA (l.drop n)) :=
  ⟨rfl, rfl, by omega, by rw [bA_size]; omega, by omega, by omega, by omega, by rw [bA_ext, bA_size, List.take_of_length_le (Nat.le_refl _)]⟩
/-- The first n bytes. -/
theorem sltk (l : Bs) (n : Nat) (h : n ≤ l.length) : ((some (n : Int)).getD ((bA l).size : Int) = (n : Int)) ∧ ((none : Option Int).getD 0 = 0) ∧ ((0 : Int) ≤ (n : Int)) ∧ ((n : Int) ≤ ((bA l).size : Int)) ∧ ((n : Int).toNat = n) ∧ ((bA l).extract 0 n = bA (l.take n)) :=
  ⟨rfl, rfl, by omega, by rw [bA_size]; omega, by omega, by rw [bA_ext, List.drop_zero]⟩
theorem Y78_Ye : type_of% (And.intro @F_ag_9 (And.intro @F_fl_110_0 (And.intro @F_sz_9 (@F_un_9)))) := And.intro @F_ag_9 (And.intro @F_fl_110_0 (And.intro @F_sz_9 (@F_un_9)))
theorem c_accept (s : ByteArray) (p l : Bs) (b : Bool) (hs : s = bA p) : DC Tryz.prog 78 [.pt 0 0, .im (.string s)] [.box [.im (.string (bA l)), (.im (.bool (b)))]] (.im (.bool (p.isPrefixOf l))) [.box [.im (.string (bA (accP p l))), (.im (.bool (b)))]] := by
  have h := c_HasPrefix (bA l) s
  rw [hasPre s l p hs] at h
  unfold accP
  refine DC.enter 22 Tryz.func78 rfl (by decide) rfl rfl (s := [(0, .pt 0 0), (1, .im (.string s))]) (by rfl) ?_
  cases hp : p.isPrefixOf l with
  | false =>
    rw [hp] at h
    rw [if_neg (by decide)]
    refine wG Y78_Ye True.intro ?_
    refine AR.callP h True.intro (And.intro (@tyV_id) (And.intro (@fdV_id) (And.intro (@tyL_id) (And.intro (@fdL_id) byV_id)))) ?_
    refine goG Y78_Ye True.intro ?_
    refine wG Y78_Ye True.intro ?_
    refine Fin.gen (rs := [.tmp 4]) rfl (by first | exact .inl rfl | exact .inr rfl) (finG Y78_Ye) ?_ rfl (idG (And.intro (@tyV_id) (And.intro (@fdV_id) (And.intro (@tyL_id) (And.intro (@fdL_id) byV_id)))))
    all_goals exact wkG (And.intro (@tyV_id) (And.intro (@fdV_id) (And.intro (@tyL_id) (And.intro (@fdL_id) byV_id))))
  | true =>
    rw [hp] at h
    rw [if_pos rfl]
    refine wG Y78_Ye True.intro ?_
    have hd := sldr l p.length (prefix_le hp)
    have hsz : s.size = p.length := by rw [hs, bA_size]
    refine AR.callP h True.intro (And.intro (@tyV_id) (And.intro (@fdV_id) (And.intro (@tyL_id) (And.intro (@fdL_id) byV_id)))) ?_
    refine goG Y78_Ye True.intro ?_
    refine wG Y78_Ye (And.intro hsz hd) ?_
    refine Fin.gen (rs := [.tmp 4]) rfl (by first | exact .inl rfl | exact .inr rfl) (finG Y78_Ye) ?_ rfl (idG (And.intro (@tyV_id) (And.intro (@fdV_id) (And.intro (@tyL_id) (And.intro (@fdL_id) byV_id)))))
    all_goals exact wkG (And.intro (@tyV_id) (And.intro (@fdV_id) (And.intro (@tyL_id) (And.intro (@fdL_id) byV_id))))
theorem Y80_Ye : type_of% (And.intro @F_ag_4 (And.intro @F_fl_110_1 (@F_sz_4))) := And.intro @F_ag_4 (And.intro @F_fl_110_1 (@F_sz_4))
theorem c_need (s : ByteArray) (p l : Bs) (b : Bool) (hs : s = bA p) : DC Tryz.prog 80 [.pt 0 0, .im (.string s)] [.box [.im (.string (bA l)), (.im (.bool (b)))]] (.tu []) [.box [.im (.string (bA (needP p l b).1)), (.im (.bool ((needP p l b).2)))]] := by
  have h := c_accept s p l b hs
  show DC _ _ _ _ _ [.box [.im (.string (bA (accP p l))), (.im (.bool (b || !p.isPrefixOf l)))]]
  refine DC.enter 11 Tryz.func80 rfl (by decide) rfl rfl (s := [(0, .pt 0 0), (1, .im (.string s))]) (by rfl) ?_
  cases hp : p.isPrefixOf l with
  | false =>
    rw [hp] at h
    rw [Bool.not_false, Bool.or_true]
    refine wG Y80_Ye True.intro ?_
    refine AR.callSP [0] h True.intro (And.intro (@tyV_id) (And.intro (@fdV_id) (And.intro (@tyL_id) (And.intro (@fdL_id) byV_id)))) (And.intro (@fdL_ren) (And.intro (@tyL_ren) (And.intro (@fdV_ren) (And.intro (@tyV_ren) (And.intro byV_ren nb_ren))))) ?_
    refine goG Y80_Ye True.intro ?_
    refine wG Y80_Ye True.intro ?_
    refine Fin.gen (rs := []) rfl (by first | exact .inl rfl | exact .inr rfl) (finG Y80_Ye) ?_ rfl (idG (And.intro (@tyV_id) (And.intro (@fdV_id) (And.intro (@tyL_id) (And.intro (@fdL_id) byV_id)))))
    all_goals exact wkG (And.intro (@tyV_id) (And.intro (@fdV_id) (And.intro (@tyL_id) (And.intro (@fdL_id) byV_id))))
  | true =>
    rw [hp] at h
    rw [Bool.not_true, Bool.or_false]
    refine wG Y80_Ye True.intro ?_
    refine AR.callSP [0] h True.intro (And.intro (@tyV_id) (And.intro (@fdV_id) (And.intro (@tyL_id) (And.intro (@fdL_id) byV_id)))) (And.intro (@fdL_ren) (And.intro (@tyL_ren) (And.intro (@fdV_ren) (And.intro (@tyV_ren) (And.intro byV_ren nb_ren))))) ?_
    refine goG Y80_Ye True.intro ?_
    refine wG Y80_Ye True.intro ?_
    refine Fin.gen (rs := []) rfl (by first | exact .inl rfl | exact .inr rfl) (finG Y80_Ye) ?_ rfl (idG (And.intro (@tyV_id) (And.intro (@fdV_id) (And.intro (@tyL_id) (And.intro (@fdL_id) byV_id)))))
    all_goals exact wkG (And.intro (@tyV_id) (And.intro (@fdV_id) (And.intro (@tyL_id) (And.intro (@fdL_id) byV_id))))
theorem bA_get (l : Bs) (m : Nat) : (bA l)[m]? = l[m]? := by
  by_cases h : m < l.length
  · have h' : m < (bA l).size := by rw [bA_size]; exact h
    rw [getElem?_pos (bA l) m h', List.getElem?_eq_getElem h]
    rfl
  · have h' : ¬ m < (bA l).size := by rw [bA_size]; exact h
    rw [getElem?_neg (bA l) m h', List.getElem?_eq_none (by omega)]
theorem dig_t {c : UInt8} (h : isDig c = true) : (c.toNat : Int) ≥ 48 ∧ (c.toNat : Int) ≤ 57 := by
  unfold isDig at h
  simp only [Bool.and_eq_true, decide_eq_true_eq] at h
  omega
theorem dig_f {c : UInt8} (h : isDig c = false) : ¬ (c.toNat : Int) ≥ 48 ∨ ((c.toNat : Int) ≥ 48 ∧ ¬ (c.toNat : Int) ≤ 57) := by
  unfold isDig at h
  simp only [Bool.and_eq_false_iff, decide_eq_false_iff_not] at h
  omega
theorem Y79_Ye : type_of% (And.intro @F_ag_4 (And.intro @F_ag_9 (And.intro @F_fl_110_0 (And.intro @F_fl_110_1 (And.intro @F_sz_4 (And.intro @F_sz_9 (@F_un_9))))))) := And.intro @F_ag_4 (And.intro @F_ag_9 (And.intro @F_fl_110_0 (And.intro @F_fl_110_1 (And.intro @F_sz_4 (And.intro @F_sz_9 (@F_un_9))))))
set_option maxHeartbeats 4000000 in
theorem c_number (l : Bs) (b : Bool) (hl : l.length ≤ 65536) : DC Tryz.prog 79 [.pt 0 0] [.box [.im (.string (bA l)), (.im (.bool (b)))]] (.im (.int .i64 ((numP l b).1))) [.box [.im (.string (bA (numP l b).2.1)), (.im (.bool ((numP l b).2.2)))]] := by
  have hdl := digs_le l
  refine DC.enter 74 Tryz.func79 rfl (by decide) rfl rfl (s := [(0, .pt 0 0)]) (by rfl) ?_
  refine wG Y79_Ye True.intro ?_
  refine AWp.loop ?_
  refine ALp.cutP 1 [(0, .pt 0 0), (3, (.im (.int .i64 ((((0 : Nat)) : Int)))))] [.box [.im (.string (bA l)), (.im (.bool (b)))]] (And.intro (@tyV_id) (And.intro (@fdV_id) (And.intro (@tyL_id) (And.intro (@fdL_id) byV_id)))) ?_
  refine ALp.upto (digs l) (fun _ => True) (fun m => ⟨dn 74 [(0, .pt 0 0), (3, (.im (.int .i64 ((((m : Nat)) : Int)))))], ofl [.box [.im (.string (bA l)), (.im (.bool (b)))]]⟩) ?_ 0 (Nat.zero_le _) trivial
  intro m hm _ hnext
  by_cases hlt : m < digs l
  · have hlt' : (m : Int) < ((bA l).size : Int) := by rw [bA_size]; omega
    obtain ⟨c, hc, hd⟩ := digs_at hlt
    have hn := hnext (m + 1) (by omega) (by omega) trivial
    clear hnext
    have h0 : (0 : Int) ≤ (m : Int) := by omega
    have hb := (bA_get l m).trans hc
    have hd1 := (dig_t hd).1
    have hd2 := (dig_t hd).2
    have hm1 := wrap_succ (m := m) (N := 65536) (by omega) (by decide)
    refine wG Y79_Ye (And.intro hlt' (And.intro h0 (And.intro hb (And.intro hd1 (And.intro hd2 hm1))))) ?_
    refine ALp.cutP 1 [(0, .pt 0 0), (3, (.im (.int .i64 ((((m + 1 : Nat)) : Int)))))] [.box [.im (.string (bA l)), (.im (.bool (b)))]] (And.intro (@tyV_id) (And.intro (@fdV_id) (And.intro (@tyL_id) (And.intro (@fdL_id) byV_id)))) ?_
    exact hn
  · obtain rfl : m = digs l := by omega
    clear hnext
    have h0 : (0 : Int) ≤ (digs l : Int) := by omega
    by_cases hle : digs l < l.length
    · have hlt' : (digs l : Int) < ((bA l).size : Int) := by rw [bA_size]; omega
      have hb := (bA_get l (digs l)).trans (List.getElem?_eq_getElem hle)
      have hd := digs_end (List.getElem?_eq_getElem hle)
      rcases dig_f hd with hd1 | ⟨hd1, hd2⟩
      · refine wG Y79_Ye (And.intro hlt' (And.intro h0 (And.intro hb hd1))) ?_
        by_cases z0 : digs l = 0
        · have e : noNum l = true := by unfold noNum; simp [z0]
          have hz : ((digs l : Nat) : Int) = 0 := by omega
          unfold numP
          rw [if_pos e]
          refine wG Y79_Ye hz ?_
          refine Fin.gen (rs := [.tmp 2]) rfl (by first | exact .inl rfl | exact .inr rfl) (finG Y79_Ye) ?_ rfl (idG (And.intro (@tyV_id) (And.intro (@fdV_id) (And.intro (@tyL_id) (And.intro (@fdL_id) byV_id)))))
          all_goals exact wkG (And.intro (@tyV_id) (And.intro (@fdV_id) (And.intro (@tyL_id) (And.intro (@fdL_id) byV_id))))
        have hz : ¬ ((digs l : Nat) : Int) = 0 := by omega
        by_cases z6 : 6 < digs l
        · have e : noNum l = true := by unfold noNum; simp [z6]
          have hs : ((digs l : Nat) : Int) > 6 := by omega
          unfold numP
          rw [if_pos e]
          refine wG Y79_Ye (And.intro hz hs) ?_
          refine Fin.gen (rs := [.tmp 2]) rfl (by first | exact .inl rfl | exact .inr rfl) (finG Y79_Ye) ?_ rfl (idG (And.intro (@tyV_id) (And.intro (@fdV_id) (And.intro (@tyL_id) (And.intro (@fdL_id) byV_id)))))
          all_goals exact wkG (And.intro (@tyV_id) (And.intro (@fdV_id) (And.intro (@tyL_id) (And.intro (@fdL_id) byV_id))))
        have hs : ¬ ((digs l : Nat) : Int) > 6 := by omega
        have hrd := sltk l (digs l) hdl
        have hdr := sldr l (digs l) hdl
        have hne : l.take (digs l) ≠ [] := by
          intro e
          have := congrArg List.length e
          rw [List.length_take, List.length_nil] at this
          omega
        obtain ⟨ha, hp⟩ := numV_eq (l := l.take (digs l)) (fun b hb => digs_all hb) hne
        have hA := c_Atoi (bA (l.take (digs l))) (numV (l.take (digs l))) (by rw [bA_size, List.length_take]; omega) (by rw [bA_list]; exact ha)
        by_cases z1 : 1 < digs l
        · have ho : ((digs l : Nat) : Int) > 1 := by omega
          obtain ⟨c0, hc0, _⟩ := digs_at (l := l) (n := 0) (by omega)
          have hb0 := (bA_get l 0).trans hc0
          have hh : l.headD 0 = c0 := by
            cases l with
            | nil => simp at hc0
            | cons x r => simpa using hc0
          by_cases z2 : c0 = 48
          · have e : noNum l = true := by unfold noNum; rw [hh, z2]; simp [z1]
            have h48 : (c0.toNat : Int) = 48 := by rw [z2]; rfl
            unfold numP
            rw [if_pos e]
            refine wG Y79_Ye (And.intro hz (And.intro hs (And.intro ho (And.intro hb0 h48)))) ?_
            refine Fin.gen (rs := [.tmp 2]) rfl (by first | exact .inl rfl | exact .inr rfl) (finG Y79_Ye) ?_ rfl (idG (And.intro (@tyV_id) (And.intro (@fdV_id) (And.intro (@tyL_id) (And.intro (@fdL_id) byV_id)))))
            all_goals exact wkG (And.intro (@tyV_id) (And.intro (@fdV_id) (And.intro (@tyL_id) (And.intro (@fdL_id) byV_id))))
          · have e : ¬ noNum l = true := by unfold noNum; rw [hh]; simp [z0, z6, z2]
            have h48 : ¬ (c0.toNat : Int) = 48 := fun h => z2 (by
              have h : c0.toNat = 48 := by omega
              exact UInt8.toNat_inj.1 h)
            unfold numP
            rw [if_neg e]
            refine wG Y79_Ye (And.intro hz (And.intro hs (And.intro ho (And.intro hb0 (And.intro h48 hrd))))) ?_
            refine AR.callP hA True.intro (And.intro (@tyV_id) (And.intro (@fdV_id) (And.intro (@tyL_id) (And.intro (@fdL_id) byV_id)))) ?_
            refine goG Y79_Ye True.intro ?_
            refine wG Y79_Ye hdr ?_
            refine Fin.gen (rs := [.tmp 2]) rfl (by first | exact .inl rfl | exact .inr rfl) (finG Y79_Ye) ?_ rfl (idG (And.intro (@tyV_id) (And.intro (@fdV_id) (And.intro (@tyL_id) (And.intro (@fdL_id) byV_id)))))
            all_goals exact wkG (And.intro (@tyV_id) (And.intro (@fdV_id) (And.intro (@tyL_id) (And.intro (@fdL_id) byV_id))))
        · have ho : ¬ ((digs l : Nat) : Int) > 1 := by omega
          have e : ¬ noNum l = true := by unfold noNum; simp [z0, z6, z1]
          unfold numP
          rw [if_neg e]
          refine wG Y79_Ye (And.intro hz (And.intro hs (And.intro ho hrd))) ?_
          refine AR.callP hA True.intro (And.intro (@tyV_id) (And.intro (@fdV_id) (And.intro (@tyL_id) (And.intro (@fdL_id) byV_id)))) ?_
          refine goG Y79_Ye True.intro ?_
          refine wG Y79_Ye hdr ?_
          refine Fin.gen (rs := [.tmp 2]) rfl (by first | exact .inl rfl | exact .inr rfl) (finG Y79_Ye) ?_ rfl (idG (And.intro (@tyV_id) (And.intro (@fdV_id) (And.intro (@tyL_id) (And.intro (@fdL_id) byV_id)))))
          all_goals exact wkG (And.intro (@tyV_id) (And.intro (@fdV_id) (And.intro (@tyL_id) (And.intro (@fdL_id) byV_id))))
      · refine wG Y79_Ye (And.intro hlt' (And.intro h0 (And.intro hb (And.intro hd1 hd2)))) ?_
        by_cases z0 : digs l = 0
        · have e : noNum l = true := by unfold noNum; simp [z0]
          have hz : ((digs l : Nat) : Int) = 0 := by omega
          unfold numP
          rw [if_pos e]
          refine wG Y79_Ye hz ?_
          refine Fin.gen (rs := [.tmp 2]) rfl (by first | exact .inl rfl | exact .inr rfl) (finG Y79_Ye) ?_ rfl (idG (And.intro (@tyV_id) (And.intro (@fdV_id) (And.intro (@tyL_id) (And.intro (@fdL_id) byV_id)))))
          all_goals exact wkG (And.intro (@tyV_id) (And.intro (@fdV_id) (And.intro (@tyL_id) (And.intro (@fdL_id) byV_id))))
        have hz : ¬ ((digs l : Nat) : Int) = 0 := by omega
        by_cases z6 : 6 < digs l
        · have e : noNum l = true := by unfold noNum; simp [z6]
          have hs : ((digs l : Nat) : Int) > 6 := by omega
          unfold numP
          rw [if_pos e]
          refine wG Y79_Ye (And.intro hz hs) ?_
          refine Fin.gen (rs := [.tmp 2]) rfl (by first | exact .inl rfl | exact .inr rfl) (finG Y79_Ye) ?_ rfl (idG (And.intro (@tyV_id) (And.intro (@fdV_id) (And.intro (@tyL_id) (And.intro (@fdL_id) byV_id)))))
          all_goals exact wkG (And.intro (@tyV_id) (And.intro (@fdV_id) (And.intro (@tyL_id) (And.intro (@fdL_id) byV_id))))
        have hs : ¬ ((digs l : Nat) : Int) > 6 := by omega
        have hrd := sltk l (digs l) hdl
        have hdr := sldr l (digs l) hdl
        have hne : l.take (digs l) ≠ [] := by
          intro e
          have := congrArg List.length e
          rw [List.length_take, List.length_nil] at this
          omega
        obtain ⟨ha, hp⟩ := numV_eq (l := l.take (digs l)) (fun b hb => digs_all hb) hne
        have hA := c_Atoi (bA (l.take (digs l))) (numV (l.take (digs l))) (by rw [bA_size, List.length_take]; omega) (by rw [bA_list]; exact ha)
        by_cases z1 : 1 < digs l
        · have ho : ((digs l : Nat) : Int) > 1 := by omega
          obtain ⟨c0, hc0, _⟩ := digs_at (l := l) (n := 0) (by omega)
          have hb0 := (bA_get l 0).trans hc0
          have hh : l.headD 0 = c0 := by
            cases l with
            | nil => simp at hc0
            | cons x r => simpa using hc0
          by_cases z2 : c0 = 48
          · have e : noNum l = true := by unfold noNum; rw [hh, z2]; simp [z1]
            have h48 : (c0.toNat : Int) = 48 := by rw [z2]; rfl
            unfold numP
            rw [if_pos e]
            refine wG Y79_Ye (And.intro hz (And.intro hs (And.intro ho (And.intro hb0 h48)))) ?_
            refine Fin.gen (rs := [.tmp 2]) rfl (by first | exact .inl rfl | exact .inr rfl) (finG Y79_Ye) ?_ rfl (idG (And.intro (@tyV_id) (And.intro (@fdV_id) (And.intro (@tyL_id) (And.intro (@fdL_id) byV_id)))))
            all_goals exact wkG (And.intro (@tyV_id) (And.intro (@fdV_id) (And.intro (@tyL_id) (And.intro (@fdL_id) byV_id))))
          · have e : ¬ noNum l = true := by unfold noNum; rw [hh]; simp [z0, z6, z2]
            have h48 : ¬ (c0.toNat : Int) = 48 := fun h => z2 (by
              have h : c0.toNat = 48 := by omega
              exact UInt8.toNat_inj.1 h)
            unfold numP
            rw [if_neg e]
            refine wG Y79_Ye (And.intro hz (And.intro hs (And.intro ho (And.intro hb0 (And.intro h48 hrd))))) ?_
            refine AR.callP hA True.intro (And.intro (@tyV_id) (And.intro (@fdV_id) (And.intro (@tyL_id) (And.intro (@fdL_id) byV_id)))) ?_
            refine goG Y79_Ye True.intro ?_
            refine wG Y79_Ye hdr ?_
            refine Fin.gen (rs := [.tmp 2]) rfl (by first | exact .inl rfl | exact .inr rfl) (finG Y79_Ye) ?_ rfl (idG (And.intro (@tyV_id) (And.intro (@fdV_id) (And.intro (@tyL_id) (And.intro (@fdL_id) byV_id)))))
            all_goals exact wkG (And.intro (@tyV_id) (And.intro (@fdV_id) (And.intro (@tyL_id) (And.intro (@fdL_id) byV_id))))
        · have ho : ¬ ((digs l : Nat) : Int) > 1 := by omega
          have e : ¬ noNum l = true := by unfold noNum; simp [z0, z6, z1]
          unfold numP
          rw [if_neg e]
          refine wG Y79_Ye (And.intro hz (And.intro hs (And.intro ho hrd))) ?_
          refine AR.callP hA True.intro (And.intro (@tyV_id) (And.intro (@fdV_id) (And.intro (@tyL_id) (And.intro (@fdL_id) byV_id)))) ?_
          refine goG Y79_Ye True.intro ?_
          refine wG Y79_Ye hdr ?_
          refine Fin.gen (rs := [.tmp 2]) rfl (by first | exact .inl rfl | exact .inr rfl) (finG Y79_Ye) ?_ rfl (idG (And.intro (@tyV_id) (And.intro (@fdV_id) (And.intro (@tyL_id) (And.intro (@fdL_id) byV_id)))))
          all_goals exact wkG (And.intro (@tyV_id) (And.intro (@fdV_id) (And.intro (@tyL_id) (And.intro (@fdL_id) byV_id))))
    · have hlt' : ¬ (digs l : Int) < ((bA l).size : Int) := by rw [bA_size]; omega
      refine wG Y79_Ye (And.intro hlt' h0) ?_
      by_cases z0 : digs l = 0
      · have e : noNum l = true := by unfold noNum; simp [z0]
        have hz : ((digs l : Nat) : Int) = 0 := by omega
        unfold numP
        rw [if_pos e]
        refine wG Y79_Ye hz ?_
        refine Fin.gen (rs := [.tmp 2]) rfl (by first | exact .inl rfl | exact .inr rfl) (finG Y79_Ye) ?_ rfl (idG (And.intro (@tyV_id) (And.intro (@fdV_id) (And.intro (@tyL_id) (And.intro (@fdL_id) byV_id)))))
        all_goals exact wkG (And.intro (@tyV_id) (And.intro (@fdV_id) (And.intro (@tyL_id) (And.intro (@fdL_id) byV_id))))
      have hz : ¬ ((digs l : Nat) : Int) = 0 := by omega
      by_cases z6 : 6 < digs l
      · have e : noNum l = true := by unfold noNum; simp [z6]
        have hs : ((digs l : Nat) : Int) > 6 := by omega
        unfold numP
        rw [if_pos e]
        refine wG Y79_Ye (And.intro hz hs) ?_
        refine Fin.gen (rs := [.tmp 2]) rfl (by first | exact .inl rfl | exact .inr rfl) (finG Y79_Ye) ?_ rfl (idG (And.intro (@tyV_id) (And.intro (@fdV_id) (And.intro (@tyL_id) (And.intro (@fdL_id) byV_id)))))
        all_goals exact wkG (And.intro (@tyV_id) (And.intro (@fdV_id) (And.intro (@tyL_id) (And.intro (@fdL_id) byV_id))))
      have hs : ¬ ((digs l : Nat) : Int) > 6 := by omega
      have hrd := sltk l (digs l) hdl
      have hdr := sldr l (digs l) hdl
      have hne : l.take (digs l) ≠ [] := by
        intro e
        have := congrArg List.length e
        rw [List.length_take, List.length_nil] at this
        omega
      obtain ⟨ha, hp⟩ := numV_eq (l := l.take (digs l)) (fun b hb => digs_all hb) hne
      have hA := c_Atoi (bA (l.take (digs l))) (numV (l.take (digs l))) (by rw [bA_size, List.length_take]; omega) (by rw [bA_list]; exact ha)
      by_cases z1 : 1 < digs l
      · have ho : ((digs l : Nat) : Int) > 1 := by omega
        obtain ⟨c0, hc0, _⟩ := digs_at (l := l) (n := 0) (by omega)
        have hb0 := (bA_get l 0).trans hc0
        have hh : l.headD 0 = c0 := by
          cases l with
          | nil => simp at hc0
          | cons x r => simpa using hc0
        by_cases z2 : c0 = 48
        · have e : noNum l = true := by unfold noNum; rw [hh, z2]; simp [z1]
          have h48 : (c0.toNat : Int) = 48 := by rw [z2]; rfl
          unfold numP
          rw [if_pos e]
          refine wG Y79_Ye (And.intro hz (And.intro hs (And.intro ho (And.intro hb0 h48)))) ?_
          refine Fin.gen (rs := [.tmp 2]) rfl (by first | exact .inl rfl | exact .inr rfl) (finG Y79_Ye) ?_ rfl (idG (And.intro (@tyV_id) (And.intro (@fdV_id) (And.intro (@tyL_id) (And.intro (@fdL_id) byV_id)))))
          all_goals exact wkG (And.intro (@tyV_id) (And.intro (@fdV_id) (And.intro (@tyL_id) (And.intro (@fdL_id) byV_id))))
        · have e : ¬ noNum l = true := by unfold noNum; rw [hh]; simp [z0, z6, z2]
          have h48 : ¬ (c0.toNat : Int) = 48 := fun h => z2 (by
            have h : c0.toNat = 48 := by omega
            exact UInt8.toNat_inj.1 h)
          unfold numP
          rw [if_neg e]
          refine wG Y79_Ye (And.intro hz (And.intro hs (And.intro ho (And.intro hb0 (And.intro h48 hrd))))) ?_
          refine AR.callP hA True.intro (And.intro (@tyV_id) (And.intro (@fdV_id) (And.intro (@tyL_id) (And.intro (@fdL_id) byV_id)))) ?_
          refine goG Y79_Ye True.intro ?_
          refine wG Y79_Ye hdr ?_
          refine Fin.gen (rs := [.tmp 2]) rfl (by first | exact .inl rfl | exact .inr rfl) (finG Y79_Ye) ?_ rfl (idG (And.intro (@tyV_id) (And.intro (@fdV_id) (And.intro (@tyL_id) (And.intro (@fdL_id) byV_id)))))
          all_goals exact wkG (And.intro (@tyV_id) (And.intro (@fdV_id) (And.intro (@tyL_id) (And.intro (@fdL_id) byV_id))))
      · have ho : ¬ ((digs l : Nat) : Int) > 1 := by omega
        have e : ¬ noNum l = true := by unfold noNum; simp [z0, z6, z1]
        unfold numP
        rw [if_neg e]
        refine wG Y79_Ye (And.intro hz (And.intro hs (And.intro ho hrd))) ?_
        refine AR.callP hA True.intro (And.intro (@tyV_id) (And.intro (@fdV_id) (And.intro (@tyL_id) (And.intro (@fdL_id) byV_id)))) ?_
        refine goG Y79_Ye True.intro ?_
        refine wG Y79_Ye hdr ?_
        refine Fin.gen (rs := [.tmp 2]) rfl (by first | exact .inl rfl | exact .inr rfl) (finG Y79_Ye) ?_ rfl (idG (And.intro (@tyV_id) (And.intro (@fdV_id) (And.intro (@tyL_id) (And.intro (@fdL_id) byV_id)))))
        all_goals exact wkG (And.intro (@tyV_id) (And.intro (@fdV_id) (And.intro (@tyL_id) (And.intro (@fdL_id) byV_id))))
theorem Y82_Ye : type_of% (And.intro @F_ag_100 (And.intro @F_ag_3 (And.intro @F_ag_4 (And.intro @F_al_100 (And.intro @F_al_3 (And.intro @F_el_105 (And.intro @F_fl_110_1 (And.intro @F_st_100 (And.intro @F_sz_100 (And.intro @F_sz_3 (@F_sz_4))))))))))) := And.intro @F_ag_100 (And.intro @F_ag_3 (And.intro @F_ag_4 (And.intro @F_al_100 (And.intro @F_al_3 (And.intro @F_el_105 (And.intro @F_fl_110_1 (And.intro @F_st_100 (And.intro @F_sz_100 (And.intro @F_sz_3 (@F_sz_4))))))))))
theorem itoa_8 : Lib.itoa 8 = [56] := by simp [Lib.itoa, Lib.decDigits]
theorem itoa_16 : Lib.itoa 16 = [49, 54] := by simp [Lib.itoa, Lib.decDigits]
theorem itoa_32 : Lib.itoa 32 = [51, 50] := by simp [Lib.itoa, Lib.decDigits]
theorem w8 : IntKind.i64.wrap 8 = 8 ∧ IntKind.i64.wrap 16 = 16 ∧ IntKind.i64.wrap 32 = 32 ∧ IntKind.i64.wrap (0 + 1) = 1 ∧ IntKind.i64.wrap (1 + 1) = 2 ∧ IntKind.i64.wrap (2 + 1) = 3 ∧ IntKind.i64.wrap 1 = 1 ∧ IntKind.i64.wrap 2 = 2 ∧ IntKind.i64.wrap 3 = 3 := by decide
set_option maxHeartbeats 4000000 in
theorem c_integer (l : Bs) (b : Bool) : DC Tryz.prog 82 [.pt 0 0] [.box [.im (.string (bA l)), (.im (.bool (b)))]] (tyV (intP l b).1) [.box [.im (.string (bA (intP l b).2.1)), (.im (.bool ((intP l b).2.2)))]] := by
  have i8 := c_Itoa 8 (by decide) (by decide)
  have i16 := c_Itoa 16 (by decide) (by decide)
  have i32 := c_Itoa 32 (by decide) (by decide)
  rw [itoa_8] at i8
  rw [itoa_16] at i16
  rw [itoa_32] at i32
  have hu := c_accept ⟨#[117]⟩ [117] l b rfl
  obtain ⟨l1, hl1⟩ : ∃ l1, l1 = accP [117] l := ⟨_, rfl⟩
  obtain ⟨l2, hl2⟩ : ∃ l2, l2 = accP [105, 110, 116] l1 := ⟨_, rfl⟩
  obtain ⟨b2, hb2⟩ : ∃ b2, b2 = (b || ![105, 110, 116].isPrefixOf l1) := ⟨_, rfl⟩
  have hi : DC Tryz.prog 80 [.pt 0 0, .im (.string ⟨#[105, 110, 116]⟩)] [.box [.im (.string (bA l1)), (.im (.bool (b)))]] (.tu []) [.box [.im (.string (bA l2)), (.im (.bool (b2)))]] := by
    rw [hl2, hb2]
    exact c_need ⟨#[105, 110, 116]⟩ [105, 110, 116] l1 b rfl
  have h8 := c_accept ⟨[56].toArray⟩ [56] l2 b2 rfl
  have h16 := c_accept ⟨[49, 54].toArray⟩ [49, 54] l2 b2 rfl
  have h32 := c_accept ⟨[51, 50].toArray⟩ [51, 50] l2 b2 rfl
  have e : intP l b = if [56].isPrefixOf l2 then (.mk 0 (if [117].isPrefixOf l then 2 else 1) 1 0 [] [], accP [56] l2, b2) else if [49, 54].isPrefixOf l2 then (.mk 0 (if [117].isPrefixOf l then 2 else 1) 2 0 [] [], accP [49, 54] l2, b2)
      else if [51, 50].isPrefixOf l2 then (.mk 0 (if [117].isPrefixOf l then 2 else 1) 4 0 [] [], accP [51, 50] l2, b2) else (tz, l2, true) := by rw [hb2, hl2, hl1]; rfl
  rw [e]
  clear e
  rw [← hl1] at hu
  refine DC.enter 29 Tryz.func82 rfl (by decide) rfl rfl (s := [(0, .pt 0 0)]) (by rfl) ?_
  have a8 : [56].isPrefixOf l2 = false → accP [56] l2 = l2 := fun h => by unfold accP; rw [h]; rfl
  have a16 : [49, 54].isPrefixOf l2 = false → accP [49, 54] l2 = l2 := fun h => by unfold accP; rw [h]; rfl
  have a32 : [51, 50].isPrefixOf l2 = false → accP [51, 50] l2 = l2 := fun h => by unfold accP; rw [h]; rfl
  cases hk : [117].isPrefixOf l with
  | true =>
    rw [hk] at hu
    refine wG Y82_Ye True.intro ?_
    refine AR.callSP [0] hu True.intro (And.intro (@tyV_id) (And.intro (@fdV_id) (And.intro (@tyL_id) (And.intro (@fdL_id) byV_id)))) (And.intro (@fdL_ren) (And.intro (@tyL_ren) (And.intro (@fdV_ren) (And.intro (@tyV_ren) (And.intro byV_ren nb_ren))))) ?_
    refine goG Y82_Ye True.intro ?_
    refine wG Y82_Ye True.intro ?_
    refine AR.callSP [0] hi True.intro (And.intro (@tyV_id) (And.intro (@fdV_id) (And.intro (@tyL_id) (And.intro (@fdL_id) byV_id)))) (And.intro (@fdL_ren) (And.intro (@tyL_ren) (And.intro (@fdV_ren) (And.intro (@tyV_ren) (And.intro byV_ren nb_ren))))) ?_
    refine goG Y82_Ye True.intro ?_
    refine wG Y82_Ye True.intro ?_
    refine AWp.loop ?_
    refine ALp.round ?_
    refine wG Y82_Ye w8 ?_
    refine AR.callP i8 True.intro (And.intro (@tyV_id) (And.intro (@fdV_id) (And.intro (@tyL_id) (And.intro (@fdL_id) byV_id)))) ?_
    refine goG Y82_Ye True.intro ?_
    cases q8 : [56].isPrefixOf l2 with
    | true =>
      rw [q8] at h8
      rw [if_pos rfl]
      refine AR.callSP [0] h8 True.intro (And.intro (@tyV_id) (And.intro (@fdV_id) (And.intro (@tyL_id) (And.intro (@fdL_id) byV_id)))) (And.intro (@fdL_ren) (And.intro (@tyL_ren) (And.intro (@fdV_ren) (And.intro (@tyV_ren) (And.intro byV_ren nb_ren))))) ?_
      refine goG Y82_Ye True.intro ?_
      refine wG Y82_Ye True.intro ?_
      refine Fin.gen (rs := [.cell 2 100]) rfl (by first | exact .inl rfl | exact .inr rfl) (finG Y82_Ye) ?_ rfl (idG (And.intro (@tyV_id) (And.intro (@fdV_id) (And.intro (@tyL_id) (And.intro (@fdL_id) byV_id)))))
      all_goals exact wkG (And.intro (@tyV_id) (And.intro (@fdV_id) (And.intro (@tyL_id) (And.intro (@fdL_id) byV_id))))
    | false =>
    rw [q8, a8 q8] at h8
    refine AR.callSP [0] h8 True.intro (And.intro (@tyV_id) (And.intro (@fdV_id) (And.intro (@tyL_id) (And.intro (@fdL_id) byV_id)))) (And.intro (@fdL_ren) (And.intro (@tyL_ren) (And.intro (@fdV_ren) (And.intro (@tyV_ren) (And.intro byV_ren nb_ren))))) ?_
    refine goG Y82_Ye True.intro ?_
    refine wG Y82_Ye w8 ?_
    refine ALp.round ?_
    refine wG Y82_Ye w8 ?_
    refine AR.callP i16 True.intro (And.intro (@tyV_id) (And.intro (@fdV_id) (And.intro (@tyL_id) (And.intro (@fdL_id) byV_id)))) ?_
    refine goG Y82_Ye True.intro ?_
    cases q16 : [49, 54].isPrefixOf l2 with
    | true =>
      rw [q16] at h16
      rw [if_neg (by decide), if_pos rfl]
      refine AR.callSP [0] h16 True.intro (And.intro (@tyV_id) (And.intro (@fdV_id) (And.intro (@tyL_id) (And.intro (@fdL_id) byV_id)))) (And.intro (@fdL_ren) (And.intro (@tyL_ren) (And.intro (@fdV_ren) (And.intro (@tyV_ren) (And.intro byV_ren nb_ren))))) ?_
      refine goG Y82_Ye True.intro ?_
      refine wG Y82_Ye True.intro ?_
      refine Fin.gen (rs := [.cell 2 100]) rfl (by first | exact .inl rfl | exact .inr rfl) (finG Y82_Ye) ?_ rfl (idG (And.intro (@tyV_id) (And.intro (@fdV_id) (And.intro (@tyL_id) (And.intro (@fdL_id) byV_id)))))
      all_goals exact wkG (And.intro (@tyV_id) (And.intro (@fdV_id) (And.intro (@tyL_id) (And.intro (@fdL_id) byV_id))))
    | false =>
    rw [q16, a16 q16] at h16
    refine AR.callSP [0] h16 True.intro (And.intro (@tyV_id) (And.intro (@fdV_id) (And.intro (@tyL_id) (And.intro (@fdL_id) byV_id)))) (And.intro (@fdL_ren) (And.intro (@tyL_ren) (And.intro (@fdV_ren) (And.intro (@tyV_ren) (And.intro byV_ren nb_ren))))) ?_
    refine goG Y82_Ye True.intro ?_
    refine wG Y82_Ye w8 ?_
    refine ALp.round ?_
    refine wG Y82_Ye w8 ?_
    refine AR.callP i32 True.intro (And.intro (@tyV_id) (And.intro (@fdV_id) (And.intro (@tyL_id) (And.intro (@fdL_id) byV_id)))) ?_
    refine goG Y82_Ye True.intro ?_
    cases q32 : [51, 50].isPrefixOf l2 with
    | true =>
      rw [q32] at h32
      rw [if_neg (by decide), if_neg (by decide), if_pos rfl]
      refine AR.callSP [0] h32 True.intro (And.intro (@tyV_id) (And.intro (@fdV_id) (And.intro (@tyL_id) (And.intro (@fdL_id) byV_id)))) (And.intro (@fdL_ren) (And.intro (@tyL_ren) (And.intro (@fdV_ren) (And.intro (@tyV_ren) (And.intro byV_ren nb_ren))))) ?_
      refine goG Y82_Ye True.intro ?_
      refine wG Y82_Ye True.intro ?_
      refine Fin.gen (rs := [.cell 2 100]) rfl (by first | exact .inl rfl | exact .inr rfl) (finG Y82_Ye) ?_ rfl (idG (And.intro (@tyV_id) (And.intro (@fdV_id) (And.intro (@tyL_id) (And.intro (@fdL_id) byV_id)))))
      all_goals exact wkG (And.intro (@tyV_id) (And.intro (@fdV_id) (And.intro (@tyL_id) (And.intro (@fdL_id) byV_id))))
    | false =>
    rw [q32, a32 q32] at h32
    refine AR.callSP [0] h32 True.intro (And.intro (@tyV_id) (And.intro (@fdV_id) (And.intro (@tyL_id) (And.intro (@fdL_id) byV_id)))) (And.intro (@fdL_ren) (And.intro (@tyL_ren) (And.intro (@fdV_ren) (And.intro (@tyV_ren) (And.intro byV_ren nb_ren))))) ?_
    refine goG Y82_Ye True.intro ?_
    refine wG Y82_Ye w8 ?_
    refine ALp.round ?_
    refine wG Y82_Ye w8 ?_
    rw [if_neg (by decide), if_neg (by decide), if_neg (by decide)]
    refine Fin.gen (rs := [.cell 2 100]) rfl (by first | exact .inl rfl | exact .inr rfl) (finG Y82_Ye) ?_ rfl (idG (And.intro (@tyV_id) (And.intro (@fdV_id) (And.intro (@tyL_id) (And.intro (@fdL_id) byV_id)))))
    all_goals exact wkG (And.intro (@tyV_id) (And.intro (@fdV_id) (And.intro (@tyL_id) (And.intro (@fdL_id) byV_id))))
  | false =>
    rw [hk] at hu
    refine wG Y82_Ye True.intro ?_
    refine AR.callSP [0] hu True.intro (And.intro (@tyV_id) (And.intro (@fdV_id) (And.intro (@tyL_id) (And.intro (@fdL_id) byV_id)))) (And.intro (@fdL_ren) (And.intro (@tyL_ren) (And.intro (@fdV_ren) (And.intro (@tyV_ren) (And.intro byV_ren nb_ren))))) ?_
    refine goG Y82_Ye True.intro ?_
    refine wG Y82_Ye True.intro ?_
    refine AR.callSP [0] hi True.intro (And.intro (@tyV_id) (And.intro (@fdV_id) (And.intro (@tyL_id) (And.intro (@fdL_id) byV_id)))) (And.intro (@fdL_ren) (And.intro (@tyL_ren) (And.intro (@fdV_ren) (And.intro (@tyV_ren) (And.intro byV_ren nb_ren))))) ?_
    refine goG Y82_Ye True.intro ?_
    refine wG Y82_Ye True.intro ?_
    refine AWp.loop ?_
    refine ALp.round ?_
    refine wG Y82_Ye w8 ?_
    refine AR.callP i8 True.intro (And.intro (@tyV_id) (And.intro (@fdV_id) (And.intro (@tyL_id) (And.intro (@fdL_id) byV_id)))) ?_
    refine goG Y82_Ye True.intro ?_
    cases q8 : [56].isPrefixOf l2 with
    | true =>
      rw [q8] at h8
      rw [if_pos rfl]
      refine AR.callSP [0] h8 True.intro (And.intro (@tyV_id) (And.intro (@fdV_id) (And.intro (@tyL_id) (And.intro (@fdL_id) byV_id)))) (And.intro (@fdL_ren) (And.intro (@tyL_ren) (And.intro (@fdV_ren) (And.intro (@tyV_ren) (And.intro byV_ren nb_ren))))) ?_
      refine goG Y82_Ye True.intro ?_
      refine wG Y82_Ye True.intro ?_
      refine Fin.gen (rs := [.cell 2 100]) rfl (by first | exact .inl rfl | exact .inr rfl) (finG Y82_Ye) ?_ rfl (idG (And.intro (@tyV_id) (And.intro (@fdV_id) (And.intro (@tyL_id) (And.intro (@fdL_id) byV_id)))))
      all_goals exact wkG (And.intro (@tyV_id) (And.intro (@fdV_id) (And.intro (@tyL_id) (And.intro (@fdL_id) byV_id))))
    | false =>
    rw [q8, a8 q8] at h8
    refine AR.callSP [0] h8 True.intro (And.intro (@tyV_id) (And.intro (@fdV_id) (And.intro (@tyL_id) (And.intro (@fdL_id) byV_id)))) (And.intro (@fdL_ren) (And.intro (@tyL_ren) (And.intro (@fdV_ren) (And.intro (@tyV_ren) (And.intro byV_ren nb_ren))))) ?_
    refine goG Y82_Ye True.intro ?_
    refine wG Y82_Ye w8 ?_
    refine ALp.round ?_
    refine wG Y82_Ye w8 ?_
    refine AR.callP i16 True.intro (And.intro (@tyV_id) (And.intro (@fdV_id) (And.intro (@tyL_id) (And.intro (@fdL_id) byV_id)))) ?_
    refine goG Y82_Ye True.intro ?_
    cases q16 : [49, 54].isPrefixOf l2 with
    | true =>
      rw [q16] at h16
      rw [if_neg (by decide), if_pos rfl]
      refine AR.callSP [0] h16 True.intro (And.intro (@tyV_id) (And.intro (@fdV_id) (And.intro (@tyL_id) (And.intro (@fdL_id) byV_id)))) (And.intro (@fdL_ren) (And.intro (@tyL_ren) (And.intro (@fdV_ren) (And.intro (@tyV_ren) (And.intro byV_ren nb_ren))))) ?_
      refine goG Y82_Ye True.intro ?_
      refine wG Y82_Ye True.intro ?_
      refine Fin.gen (rs := [.cell 2 100]) rfl (by first | exact .inl rfl | exact .inr rfl) (finG Y82_Ye) ?_ rfl (idG (And.intro (@tyV_id) (And.intro (@fdV_id) (And.intro (@tyL_id) (And.intro (@fdL_id) byV_id)))))
      all_goals exact wkG (And.intro (@tyV_id) (And.intro (@fdV_id) (And.intro (@tyL_id) (And.intro (@fdL_id) byV_id))))
    | false =>
    rw [q16, a16 q16] at h16
    refine AR.callSP [0] h16 True.intro (And.intro (@tyV_id) (And.intro (@fdV_id) (And.intro (@tyL_id) (And.intro (@fdL_id) byV_id)))) (And.intro (@fdL_ren) (And.intro (@tyL_ren) (And.intro (@fdV_ren) (And.intro (@tyV_ren) (And.intro byV_ren nb_ren))))) ?_
    refine goG Y82_Ye True.intro ?_
    refine wG Y82_Ye w8 ?_
    refine ALp.round ?_
    refine wG Y82_Ye w8 ?_
    refine AR.callP i32 True.intro (And.intro (@tyV_id) (And.intro (@fdV_id) (And.intro (@tyL_id) (And.intro (@fdL_id) byV_id)))) ?_
    refine goG Y82_Ye True.intro ?_
    cases q32 : [51, 50].isPrefixOf l2 with
    | true =>
      rw [q32] at h32
      rw [if_neg (by decide), if_neg (by decide), if_pos rfl]
      refine AR.callSP [0] h32 True.intro (And.intro (@tyV_id) (And.intro (@fdV_id) (And.intro (@tyL_id) (And.intro (@fdL_id) byV_id)))) (And.intro (@fdL_ren) (And.intro (@tyL_ren) (And.intro (@fdV_ren) (And.intro (@tyV_ren) (And.intro byV_ren nb_ren))))) ?_
      refine goG Y82_Ye True.intro ?_
      refine wG Y82_Ye True.intro ?_
      refine Fin.gen (rs := [.cell 2 100]) rfl (by first | exact .inl rfl | exact .inr rfl) (finG Y82_Ye) ?_ rfl (idG (And.intro (@tyV_id) (And.intro (@fdV_id) (And.intro (@tyL_id) (And.intro (@fdL_id) byV_id)))))
      all_goals exact wkG (And.intro (@tyV_id) (And.intro (@fdV_id) (And.intro (@tyL_id) (And.intro (@fdL_id) byV_id))))
    | false =>
    rw [q32, a32 q32] at h32
    refine AR.callSP [0] h32 True.intro (And.intro (@tyV_id) (And.intro (@fdV_id) (And.intro (@tyL_id) (And.intro (@fdL_id) byV_id)))) (And.intro (@fdL_ren) (And.intro (@tyL_ren) (And.intro (@fdV_ren) (And.intro (@tyV_ren) (And.intro byV_ren nb_ren))))) ?_
    refine goG Y82_Ye True.intro ?_
    refine wG Y82_Ye w8 ?_
    refine ALp.round ?_
    refine wG Y82_Ye w8 ?_
    rw [if_neg (by decide), if_neg (by decide), if_neg (by decide)]
    refine Fin.gen (rs := [.cell 2 100]) rfl (by first | exact .inl rfl | exact .inr rfl) (finG Y82_Ye) ?_ rfl (idG (And.intro (@tyV_id) (And.intro (@fdV_id) (And.intro (@tyL_id) (And.intro (@fdL_id) byV_id)))))
    all_goals exact wkG (And.intro (@tyV_id) (And.intro (@fdV_id) (And.intro (@tyL_id) (And.intro (@fdL_id) byV_id))))
end Go.Proofs.YtianekkfehoedaaGreatDoor
