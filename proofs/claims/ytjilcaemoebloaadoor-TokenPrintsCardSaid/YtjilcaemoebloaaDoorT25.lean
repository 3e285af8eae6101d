/- Walks: numbers and strings of the reference. -/
import Derived.Test.YtjilcaemoebloaaDoorHv
import Derived.Test.YtjilcaemoebloaaDoorT24
namespace Go.Proofs.YtjilcaemoebloaaDoor
set_option linter.unusedSimpArgs false
set_option linter.unusedVariables false
set_option linter.unnecessarySimpa false
open Go.RowKit
/-- What hex gives: digits are put ahead until the number is used up and there are enough of them. -/
def hx : Nat → Nat → Nat → Bs → Bs
  | 0, _, _, s => s
  | f + 1, n, d, s => if 0 < n ∨ s.length < d then hx f (n / 16) d (hexD (n % 16) :: s) else s
theorem hx_more : ∀ (f n : Nat) (s : Bs), n < f → 1 ≤ s.length → hx f n 1 s = if n = 0 then s else hexS n ++ s
  | 0, n, s, h, _ => by omega
  | f + 1, n, s, h, hs => by
    rw [hx]
    by_cases h0 : n = 0
    · rw [if_pos h0, if_neg (by omega)]
    · rw [if_neg h0, if_pos (by omega), hx_more f (n / 16) _ (by omega) (by simp)]
      by_cases h16 : n < 16
      · rw [if_pos (by omega), hexS_lt h16, Nat.mod_eq_of_lt h16]
        rfl
      · rw [if_neg (by omega), hexS_ge h16, List.append_assoc]
        rfl
theorem hx_1 (n : Nat) : hx (n + 3) n 1 [] = hexS n := by
  rw [hx, if_pos (.inr (by decide)), hx_more (n + 2) (n / 16) _ (by omega) (by simp)]
  by_cases h16 : n < 16
  · rw [if_pos (by omega), hexS_lt h16, Nat.mod_eq_of_lt h16]
  · rw [if_neg (by omega), hexS_ge h16]
theorem hx_2 (c : UInt8) : hx (c.toNat + 3) c.toNat 2 [] = [hexD (c.toNat / 16), hexD (c.toNat % 16)] :=
  of_decide_eq_true (u8_all (fun c => decide (hx (c.toNat + 3) c.toNat 2 [] = [hexD (c.toNat / 16), hexD (c.toNat % 16)])) (by decide +kernel) c)
theorem hx_len : ∀ (f n d : Nat) (s : Bs), (hx f n d s).length ≤ f + s.length
  | 0, n, d, s => by simp [hx]
  | f + 1, n, d, s => by
    rw [hx]
    split
    · have := hx_len f (n / 16) d (hexD (n % 16) :: s)
      rw [List.length_cons] at this
      omega
    · omega
theorem dig_hex {n : Nat} (h : n < 16) : (([48, 49, 50, 51, 52, 53, 54, 55, 56, 57, 97, 98, 99, 100, 101, 102] : Bs).drop n).take 1 = [hexD n] := by
  have : ∀ n < 16, (([48, 49, 50, 51, 52, 53, 54, 55, 56, 57, 97, 98, 99, 100, 101, 102] : Bs).drop n).take 1 = [hexD n] := by decide
  exact this n h
theorem Y51_T25 : type_of% (@F_un_9) := @F_un_9
set_option maxHeartbeats 1000000 in
theorem c_hex (n d : Nat) (hn : n < 4294967296) (hd : d ≤ 2) : PC Tryd.prog 51 [.im (.int .u32 ((n : Int))), (.im (.int .i64 ((d : Int))))] (.im (.string ⟨(hx (n + 3) n d []).toArray⟩)) := by
  refine PC.enter 25 Tryd.func51 rfl (by decide) rfl rfl (s := [(0, .im (.int .u32 ((n : Int)))), (1, (.im (.int .i64 ((d : Int)))))]) (by rfl) ?_
  refine wG Y51_T25 True.intro ?_
  refine AWp.loop ?_
  obtain ⟨R, hR⟩ : ∃ R, R = hx (n + 3) n d [] := ⟨_, rfl⟩
  rw [← hR]
  suffices H : ∀ (f m : Nat) (s : Bs), m < 4294967296 → m + (d - s.length) < f → s.length ≤ 10 → m < 16 ^ (10 - s.length) → R = hx f m d s → ALp _ _ _ _ _ ⟨dn 25 [(0, .im (.int .u32 (((m : Nat) : Int)))), (1, (.im (.int .i64 ((d : Int))))), (5, .im (.string ⟨(s).toArray⟩))], ofl []⟩ by
    refine ALp.cutP 0 [(0, .im (.int .u32 (((n : Nat) : Int)))), (1, (.im (.int .i64 ((d : Int))))), (5, .im (.string ⟨([]).toArray⟩))] [] byL_id ?_
    exact H (n + 3) n [] hn (by simp; omega) (by simp) (Nat.lt_of_lt_of_le hn (by decide)) hR
  intro f
  induction f with
  | zero => intro m s _ h; omega
  | succ f ih =>
  intro m s hm hf hs hpw hx0
  refine ALp.round ?_
  rw [hx] at hx0
  by_cases h0 : 0 < m ∨ s.length < d
  case neg =>
    have e1 : ¬ (m : Int) > 0 := by omega
    have e2 : ¬ (s.length : Int) < (d : Int) := by omega
    rw [if_neg h0] at hx0
    rw [hx0]
    clear ih hR
    refine wG Y51_T25 (And.intro BY (And.intro e1 e2)) ?_
    exact Fin.oneP
  rw [if_pos h0] at hx0
  have hs9 : s.length ≤ 9 := by
    rcases Nat.lt_or_ge s.length 10 with h | h
    · omega
    · rw [show 10 - s.length = 0 by omega] at hpw
      omega
  have hI := ih (m / 16) (hexD (m % 16) :: s) (by omega) (by rw [List.length_cons]; omega) (by rw [List.length_cons]; omega) (by
    rw [List.length_cons, show 10 - s.length = (10 - (s.length + 1)) + 1 by omega, Nat.pow_succ] at *
    omega) hx0
  clear ih
  have hap : ByteArray.mk [hexD (m % 16)].toArray ++ ByteArray.mk s.toArray = ByteArray.mk (hexD (m % 16) :: s).toArray := bS_append [hexD (m % 16)] s
  have hsz : (ByteArray.mk [hexD (m % 16)].toArray).size + (ByteArray.mk s.toArray).size ≤ 9223372036854775807 := by
    rw [bS_size, bS_size, List.length_singleton]
    omega
  have hszL : 1 + s.length ≤ 9223372036854775807 := by omega
  have hdg := dig_hex (show m % 16 < 16 by omega)
  have tm : (m : Int).tmod 16 = ((m % 16 : Nat) : Int) := by rw [Int.tmod_eq_emod_of_nonneg (by omega)]; omega
  have td : (m : Int).tdiv 16 = ((m / 16 : Nat) : Int) := by rw [Int.tdiv_eq_ediv_of_nonneg (by omega)]; omega
  have wd : IntKind.u32.wrap ((m / 16 : Nat) : Int) = ((m / 16 : Nat) : Int) := IntWalk.u32_in _ (by omega)
  have wr : IntKind.u32.wrap (((m % 16 : Nat) : Int) + 1) = ((m % 16 + 1 : Nat) : Int) := by rw [IntWalk.u32_in _ (by omega)]; omega
  have le1 : ((m % 16 : Nat) : Int) ≤ ((m % 16 + 1 : Nat) : Int) := by omega
  have le2 : ((m % 16 + 1 : Nat) : Int) ≤ 16 := by omega
  have sb : m % 16 + 1 - m % 16 = 1 := by omega
  by_cases h1 : 0 < m
  · have e1 : (m : Int) > 0 := by omega
    refine wG Y51_T25 (And.intro BY (And.intro GDS (And.intro e1 (And.intro tm (And.intro td (And.intro wd (And.intro wr (And.intro le1 (And.intro le2 (And.intro sb (And.intro hap (And.intro hsz (And.intro hszL hdg))))))))))))) ?_
    refine ALp.cutP 0 [(0, .im (.int .u32 (((m / 16 : Nat) : Int)))), (1, (.im (.int .i64 ((d : Int))))), (5, .im (.string ⟨(hexD (m % 16) :: s).toArray⟩))] [] byL_id ?_
    exact hI
  · have e1 : ¬ (m : Int) > 0 := by omega
    have e2 : (s.length : Int) < (d : Int) := by omega
    refine wG Y51_T25 (And.intro BY (And.intro GDS (And.intro e1 (And.intro e2 (And.intro tm (And.intro td (And.intro wd (And.intro wr (And.intro le1 (And.intro le2 (And.intro sb (And.intro hap (And.intro hsz (And.intro hszL hdg)))))))))))))) ?_
    refine ALp.cutP 0 [(0, .im (.int .u32 (((m / 16 : Nat) : Int)))), (1, (.im (.int .i64 ((d : Int))))), (5, .im (.string ⟨(hexD (m % 16) :: s).toArray⟩))] [] byL_id ?_
    exact hI
theorem Y52_T25 : type_of% (And.intro @F_in_28 (And.intro @F_in_5 (And.intro @F_un_28 (And.intro @F_un_5 (@F_un_9))))) := And.intro @F_in_28 (And.intro @F_in_5 (And.intro @F_un_28 (And.intro @F_un_5 (@F_un_9))))
set_option maxHeartbeats 2000000 in
theorem c_QuoteR (s : Bs) (hs : s.length ≤ 4194304) : PC Tryd.prog 52 [.im (.string ⟨(s).toArray⟩)] (.im (.string ⟨(quoS s).toArray⟩)) := by
  refine PC.enter 52 Tryd.func52 rfl (by decide) rfl rfl (s := [(0, .im (.string ⟨(s).toArray⟩))]) (by rfl) ?_
  refine wG Y52_T25 True.intro ?_
  refine AWp.loop ?_
  suffices H : ∀ (k m : Nat) (A : Bs), s.length - m = k → m ≤ s.length → A = 34 :: (s.take m).flatMap escC → ALp _ _ _ _ _ ⟨dn 52 [(0, .im (.string ⟨(s).toArray⟩)), (3, .im (.string ⟨(A).toArray⟩)), (4, (.im (.int .i64 ((((m : Nat)) : Int)))))], ofl []⟩ by
    refine ALp.cutP 0 [(0, .im (.string ⟨(s).toArray⟩)), (3, .im (.string ⟨([34]).toArray⟩)), (4, (.im (.int .i64 ((((0 : Nat)) : Int)))))] [] byL_id ?_
    exact H _ 0 [34] rfl (Nat.zero_le _) (by simp)
  intro k
  induction k using Nat.strongRecOn with
  | _ k ih =>
  intro m A hk hml hA
  have hAl : A.length ≤ 1 + 4 * m := by
    rw [hA]
    have h2 := flat_len (s.take m)
    rw [List.length_take] at h2
    rw [List.length_cons]
    omega
  refine ALp.round ?_
  by_cases hlt : m < s.length
  case neg =>
    obtain rfl : m = s.length := by omega
    have hn : ¬ (s.length : Int) < (s.length : Int) := by omega
    have hB : quoS s = A ++ [34] := by rw [hA, List.take_length]; rfl
    have hap : ByteArray.mk A.toArray ++ ByteArray.mk #[34] = ByteArray.mk (A ++ [34]).toArray := bS_append A [34]
    have hsz : (ByteArray.mk A.toArray).size + (ByteArray.mk #[34]).size ≤ 9223372036854775807 := by
      rw [bS_size, bS_size, List.length_singleton]
      omega
    have hszL : A.length + 1 ≤ 9223372036854775807 := by omega
    rw [hB]
    clear ih
    refine wG Y52_T25 (And.intro BY (And.intro hn (And.intro hap hszL))) ?_
    exact Fin.oneP
  have hlt' : (m : Int) < (s.length : Int) := by omega
  have hw1 := wrap_succ hlt (by omega)
  have hg : s[m]? = some s[m] := List.getElem?_eq_getElem hlt
  have hst : s.take (m + 1) = s.take m ++ [s[m]] := List.take_succ_eq_append_getElem hlt
  have hone : (s.drop m).take 1 = [s[m]] := by rw [List.drop_eq_getElem_cons hlt]; rfl
  have le1 : (m : Int) ≤ ((m + 1 : Nat) : Int) := by omega
  have le2 : ((m + 1 : Nat) : Int) ≤ (s.length : Int) := by omega
  have sb : m + 1 - m = 1 := by omega
  obtain ⟨B, hB⟩ : ∃ B, B = A ++ escC s[m] := ⟨_, rfl⟩
  have hI := ih (s.length - (m + 1)) (by omega) (m + 1) B rfl (by omega) (by rw [hB, hA, hst, List.flatMap_append]; simp)
  clear ih hst
  generalize s[m] = c at hg hB hone
  by_cases h34 : c.toNat = 34 ∨ c.toNat = 92
  · rw [show escC c = [92, c] from if_pos h34] at hB
    have hap : ByteArray.mk A.toArray ++ ByteArray.mk #[92] = ByteArray.mk (A ++ [92]).toArray := bS_append A [92]
    have hap2 : ByteArray.mk (A ++ [92]).toArray ++ ByteArray.mk #[c] = ByteArray.mk B.toArray := by rw [hB]; exact (bS_append (A ++ [92]) [c]).trans (by simp)
    have hsz : (ByteArray.mk A.toArray).size + (ByteArray.mk #[92]).size ≤ 9223372036854775807 := by
      rw [bS_size, bS_size, List.length_singleton]
      omega
    have hsz2 : (ByteArray.mk (A ++ [92]).toArray).size + (ByteArray.mk #[c]).size ≤ 9223372036854775807 := by
      rw [bS_size, bS_size, List.length_singleton, List.length_append, List.length_singleton]
      omega
    have hszL : A.length + 1 ≤ 9223372036854775807 := by omega
    have hszM : A.length + 1 + 1 ≤ 9223372036854775807 := by omega
    clear hA hB
    by_cases h1 : c.toNat = 34
    · have e1 : (c.toNat : Int) = 34 := by omega
      refine wG Y52_T25 (And.intro BY (And.intro GDS (And.intro hlt' (And.intro hg (And.intro e1 (And.intro hone (And.intro le1 (And.intro le2 (And.intro sb (And.intro hap (And.intro hap2 (And.intro hszL (And.intro hszM hw1))))))))))))) ?_
      refine ALp.cutP 0 [(0, .im (.string ⟨(s).toArray⟩)), (3, .im (.string ⟨(B).toArray⟩)), (4, (.im (.int .i64 ((((m + 1 : Nat)) : Int)))))] [] byL_id ?_
      exact hI
    · have e1 : ¬ (c.toNat : Int) = 34 := by omega
      have e2 : (c.toNat : Int) = 92 := by omega
      refine wG Y52_T25 (And.intro BY (And.intro GDS (And.intro hlt' (And.intro hg (And.intro e1 (And.intro e2 (And.intro hone (And.intro le1 (And.intro le2 (And.intro sb (And.intro hap (And.intro hap2 (And.intro hszL (And.intro hszM hw1)))))))))))))) ?_
      refine ALp.cutP 0 [(0, .im (.string ⟨(s).toArray⟩)), (3, .im (.string ⟨(B).toArray⟩)), (4, (.im (.int .i64 ((((m + 1 : Nat)) : Int)))))] [] byL_id ?_
      exact hI
  rw [show escC c = if c.toNat < 32 ∨ 126 < c.toNat then [92, 120, hexD (c.toNat / 16), hexD (c.toNat % 16)] else [c] from if_neg h34] at hB
  have e1 : ¬ (c.toNat : Int) = 34 := by omega
  have e2 : ¬ (c.toNat : Int) = 92 := by omega
  by_cases h32 : c.toNat < 32 ∨ 126 < c.toNat
  · rw [if_pos h32] at hB
    have hap : ByteArray.mk A.toArray ++ ByteArray.mk #[92, 120] = ByteArray.mk (A ++ [92, 120]).toArray := bS_append A [92, 120]
    have hap2 : ByteArray.mk (A ++ [92, 120]).toArray ++ ByteArray.mk [hexD (c.toNat / 16), hexD (c.toNat % 16)].toArray = ByteArray.mk B.toArray := by rw [hB]; exact (bS_append (A ++ [92, 120]) [hexD (c.toNat / 16), hexD (c.toNat % 16)]).trans (by simp)
    have hsz : (ByteArray.mk A.toArray).size + (ByteArray.mk #[92, 120]).size ≤ 9223372036854775807 := by
      rw [bS_size, bS_size, show ([92, 120] : Bs).length = 2 from rfl]
      omega
    have hsz2 : (ByteArray.mk (A ++ [92, 120]).toArray).size + (ByteArray.mk [hexD (c.toNat / 16), hexD (c.toNat % 16)].toArray).size ≤ 9223372036854775807 := by
      rw [bS_size, bS_size, List.length_append, show ([92, 120] : Bs).length = 2 from rfl, show ([hexD (c.toNat / 16), hexD (c.toNat % 16)] : Bs).length = 2 from rfl]
      omega
    have hszL : A.length + 2 ≤ 9223372036854775807 := by omega
    have hcl := c.toNat_lt
    have qh : PC Tryd.prog 51 [.im (.int .u32 ((c.toNat : Int))), (.im (.int .i64 (2)))] (.im (.string ⟨([hexD (c.toNat / 16), hexD (c.toNat % 16)]).toArray⟩)) := by
      have q := c_hex c.toNat 2 (by omega) (by decide)
      rw [hx_2 c] at q
      exact q
    have hwr : IntKind.u32.wrap (c.toNat : Int) = (c.toNat : Int) := IntWalk.u32_in _ (by omega)
    clear hA hB
    by_cases h1 : c.toNat < 32
    · have e3 : (c.toNat : Int) < 32 := by omega
      refine wG Y52_T25 (And.intro BY (And.intro GDS (And.intro hlt' (And.intro hg (And.intro e1 (And.intro e2 (And.intro e3 (And.intro hap (And.intro hszL hwr))))))))) ?_
      refine AR.callP qh True.intro byL_id ?_
      refine goG Y52_T25 (And.intro hap2 hsz2) ?_
      refine wG Y52_T25 hw1 ?_
      refine ALp.cutP 0 [(0, .im (.string ⟨(s).toArray⟩)), (3, .im (.string ⟨(B).toArray⟩)), (4, (.im (.int .i64 ((((m + 1 : Nat)) : Int)))))] [] byL_id ?_
      exact hI
    · have e3 : ¬ (c.toNat : Int) < 32 := by omega
      have e4 : (c.toNat : Int) > 126 := by omega
      refine wG Y52_T25 (And.intro BY (And.intro GDS (And.intro hlt' (And.intro hg (And.intro e1 (And.intro e2 (And.intro e3 (And.intro e4 (And.intro hap (And.intro hszL hwr)))))))))) ?_
      refine AR.callP qh True.intro byL_id ?_
      refine goG Y52_T25 (And.intro hap2 hsz2) ?_
      refine wG Y52_T25 hw1 ?_
      refine ALp.cutP 0 [(0, .im (.string ⟨(s).toArray⟩)), (3, .im (.string ⟨(B).toArray⟩)), (4, (.im (.int .i64 ((((m + 1 : Nat)) : Int)))))] [] byL_id ?_
      exact hI
  rw [if_neg h32] at hB
  have hap : ByteArray.mk A.toArray ++ ByteArray.mk #[c] = ByteArray.mk B.toArray := by rw [hB]; exact bS_append A [c]
  have hsz : (ByteArray.mk A.toArray).size + (ByteArray.mk #[c]).size ≤ 9223372036854775807 := by
    rw [bS_size, bS_size, List.length_singleton]
    omega
  have e3 : ¬ (c.toNat : Int) < 32 := by omega
  have e4 : ¬ (c.toNat : Int) > 126 := by omega
  have hszL : A.length + 1 ≤ 9223372036854775807 := by omega
  clear hA hB
  refine wG Y52_T25 (And.intro BY (And.intro GDS (And.intro hlt' (And.intro hg (And.intro e1 (And.intro e2 (And.intro e3 (And.intro e4 (And.intro hone (And.intro le1 (And.intro le2 (And.intro sb (And.intro hap (And.intro hszL hw1)))))))))))))) ?_
  refine ALp.cutP 0 [(0, .im (.string ⟨(s).toArray⟩)), (3, .im (.string ⟨(B).toArray⟩)), (4, (.im (.int .i64 ((((m + 1 : Nat)) : Int)))))] [] byL_id ?_
  exact hI
end Go.Proofs.YtjilcaemoebloaaDoor

