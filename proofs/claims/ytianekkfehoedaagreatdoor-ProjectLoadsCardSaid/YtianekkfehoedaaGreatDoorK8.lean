/- Walks: put, sum. Walks: the reader of an encoding: take, number. Walks: the reader of an encoding: list; is a list in order. -/
import Derived.Test.YtianekkfehoedaaGreatDoorHv
import Derived.Test.YtianekkfehoedaaGreatDoorK7
import Derived.Test.YtianekkfehoedaaGreatDoorK5
namespace Go.Proofs.YtianekkfehoedaaGreatDoor
set_option linter.unusedSimpArgs false
set_option linter.unusedVariables false
set_option linter.unnecessarySimpa false
open Go.RowKit
theorem leB_succ : ∀ (w n : Nat), leB n (w + 1) = leB n w ++ [UInt8.ofNat (n / 256 ^ w % 256)]
  | 0, n => by simp [leB]
  | w + 1, n => by
    rw [show leB n (w + 1 + 1) = UInt8.ofNat (n % 256) :: leB (n / 256) (w + 1) from rfl, leB_succ w (n / 256), show leB n (w + 1) = UInt8.ofNat (n % 256) :: leB (n / 256) w from rfl, List.cons_append, Nat.div_div_eq_div_mul, Nat.pow_succ, Nat.mul_comm 256]
theorem wrap_u8 (m : Nat) : IntKind.u8.wrap (m : Int) = (((UInt8.ofNat (m % 256)).toNat : Nat) : Int) := by
  rw [IntKind.wrap_u8, UInt8.toNat_ofNat']
  omega
theorem shr8 (m : Nat) : ((m : Nat) : Int).fdiv (2 ^ min 8 IntKind.u32.bits) = ((m / 256 : Nat) : Int) := by
  rw [show (2 : Int) ^ min 8 IntKind.u32.bits = 256 by decide, Int.fdiv_eq_ediv_of_nonneg _ (by decide)]
  omega
theorem by_snoc (x : Bs) (c : UInt8) : x.map byB ++ [.im (.int .u8 c.toNat)] = (x ++ [c]).map byB := by rw [List.map_append]; rfl
theorem Y35_Zb : type_of% (And.intro @F_al_5 (And.intro @F_by_5 (And.intro @F_el_22 (And.intro @F_in_44 (And.intro @F_in_5 (And.intro @F_sz_5 (And.intro @F_un_44 (@F_un_5)))))))) := And.intro @F_al_5 (And.intro @F_by_5 (And.intro @F_el_22 (And.intro @F_in_44 (And.intro @F_in_5 (And.intro @F_sz_5 (And.intro @F_un_44 (@F_un_5)))))))
theorem I1_Zb : type_of% (And.intro enV_id (And.intro enL_id (And.intro byL_id (And.intro lsV_id (And.intro lsL_id (And.intro (@tyV_id) flE_id)))))) := (And.intro enV_id (And.intro enL_id (And.intro byL_id (And.intro lsV_id (And.intro lsL_id (And.intro (@tyV_id) flE_id))))))
theorem c_put (b : Bs) (n w : Nat) (hb : b.length + w ≤ 140737488355328) : DC Tryz.prog 35 [.sl ((b).map byB) (.mine 0), (.im (.int .u32 ((n : Int)))), (.im (.int .i64 ((w : Int))))] [.tip 5 1 b.length] (.sl ((b ++ leB n w).map byB) (.mine 0)) [.tip 5 1 (b ++ leB n w).length] := by
  refine DC.enter 19 Tryz.func35 rfl (by decide) rfl rfl (s := [(0, .sl ((b).map byB) (.mine 0)), (1, (.im (.int .u32 ((n : Int))))), (2, (.im (.int .i64 ((w : Int)))))]) (by rfl) ?_
  refine wG Y35_Zb True.intro ?_
  refine AWp.loop ?_
  suffices H : ALp _ _ _ _ _ ⟨dn 19 [(0, .sl ((b ++ leB n (0)).map byB) (.mine 0)), (1, (.im (.int .u32 (((n / 256 ^ (0) : Nat) : Int))))), (7, (.im (.int .i64 ((w : Int))))), (8, (.im (.int .i64 ((((0 : Nat)) : Int)))))], ofl [.tip 5 1 (b ++ leB n (0)).length]⟩ by
    simp only [leB, List.append_nil, Nat.pow_zero, Nat.div_one] at H
    refine ALp.cutP 1 [(0, .sl ((b).map byB) (.mine 0)), (1, (.im (.int .u32 ((n : Int))))), (7, (.im (.int .i64 ((w : Int))))), (8, (.im (.int .i64 (0))))] [.tip 5 1 b.length] I1_Zb ?_
    exact H
  refine ALp.upto w (fun _ => True) (fun m => ⟨dn 19 [(0, .sl ((b ++ leB n (m)).map byB) (.mine 0)), (1, (.im (.int .u32 (((n / 256 ^ (m) : Nat) : Int))))), (7, (.im (.int .i64 ((w : Int))))), (8, (.im (.int .i64 ((((m : Nat)) : Int)))))], ofl [.tip 5 1 (b ++ leB n (m)).length]⟩) ?_ 0 (Nat.zero_le _) trivial
  intro m hm _ hnext
  by_cases hlt : m < w
  · have hlt' : (m : Int) < (w : Int) := by omega
    have hm1 := wrap_succ (m := m) (N := 140737488355328) (by omega) (by decide)
    have h8 := wrap_u8 (n / 256 ^ m)
    have hs := leB_succ m n
    have hsh := shr8 (n / 256 ^ m)
    rw [Nat.div_div_eq_div_mul, ← Nat.pow_succ] at hsh
    have hn := hnext (m + 1) (by omega) (by omega) trivial
    clear hnext
    rw [hs] at hn
    rw [← List.append_assoc] at hn
    have hl0 : (b ++ leB n m).length = b.length + m := by simp [leB_len]
    generalize hx : b ++ leB n m = x at hn hl0
    generalize UInt8.ofNat (n / 256 ^ m % 256) = c at h8 hn
    have hB := by_snoc x c
    have hcap : (x.length + 1) * 1 ≤ 140737488355328 := by omega
    have hln : x.length + 1 = (x ++ [c]).length := by simp
    refine wG Y35_Zb (And.intro hlt' (And.intro h8 (And.intro hB (And.intro hcap (And.intro (@List.length_map.{0, 0}) (And.intro byL_all (And.intro hsh hm1))))))) ?_
    rw [hln]
    refine ALp.cutP 1 [(0, .sl ((x ++ [c]).map byB) (.mine 0)), (1, (.im (.int .u32 (((n / 256 ^ (m + 1) : Nat) : Int))))), (7, (.im (.int .i64 ((w : Int))))), (8, (.im (.int .i64 (((m + 1 : Nat) : Int)))))] [.tip 5 1 (x ++ [c]).length] I1_Zb ?_
    exact hn
  · obtain rfl : m = w := by omega
    have hlt' : ¬ (m : Int) < (m : Int) := by omega
    clear hnext hlt
    generalize b ++ leB n m = x
    refine wG Y35_Zb hlt' ?_
    refine Fin.gen (rs := [.tmp 6]) rfl (by first | exact .inl rfl | exact .inr rfl) (finG Y35_Zb) ?_ rfl (idG I1_Zb)
    skip
    all_goals exact wkG I1_Zb
theorem Y24_Zb : type_of% (And.intro @F_ag_5 (And.intro @F_el_22 (And.intro @F_in_44 (And.intro @F_in_5 (And.intro @F_sz_5 (And.intro @F_un_44 (@F_un_5))))))) := And.intro @F_ag_5 (And.intro @F_el_22 (And.intro @F_in_44 (And.intro @F_in_5 (And.intro @F_sz_5 (And.intro @F_un_44 (@F_un_5))))))
/-- The sum of the first bytes, as the machine has it. -/
def smB (b : Bs) (m : Nat) : Nat := ((b.take m).foldl (fun n c => n + c.toNat) 0) % 4294967296
theorem smB_succ {b : Bs} {m : Nat} {c : UInt8} (h : b[m]? = some c) : IntKind.u32.wrap (((smB b m : Nat) : Int) + ((c.toNat : Nat) : Int)) = ((smB b (m + 1) : Nat) : Int) := by
  obtain ⟨hm, rfl⟩ := List.getElem?_eq_some_iff.1 h
  unfold smB
  rw [List.take_succ_eq_append_getElem hm, List.foldl_append, List.foldl_cons, List.foldl_nil, IntKind.wrap_u32]
  omega
theorem and_ffff (x : Nat) (hx : x < 4294967296) : IntKind.u32.wrap ((BitVec.ofInt IntKind.u32.bits (x : Int) &&& BitVec.ofInt IntKind.u32.bits 65535).toNat : Int) = ((x % 65536 : Nat) : Int) := by
  have h1 : (BitVec.ofInt IntKind.u32.bits (x : Int) &&& BitVec.ofInt IntKind.u32.bits 65535).toNat = x % 65536 := by
    rw [BitVec.toNat_and]
    have e1 : (BitVec.ofInt IntKind.u32.bits (x : Int)).toNat = x := by
      show (BitVec.ofInt 32 (x : Int)).toNat = x
      rw [BitVec.toNat_ofInt]; omega
    have e2 : (BitVec.ofInt IntKind.u32.bits 65535).toNat = 2 ^ 16 - 1 := by decide
    rw [e1, e2, Nat.and_two_pow_sub_one_eq_mod]
  rw [h1, IntKind.wrap_u32]
  omega
theorem c_sum (b : Bs) (hb : b.length ≤ 140737488355328) : PC Tryz.prog 24 [.sl (b.map byB) .ro] (.im (.int .u32 (((sumB b : Nat) : Int)))) := by
  refine PC.enter 19 Tryz.func24 rfl (by decide) rfl rfl (s := [(0, .sl (b.map byB) .ro)]) (by rfl) ?_
  refine wG Y24_Zb @List.length_map.{0, 0} ?_
  refine AWp.loop ?_
  refine ALp.cutP 0 [(3, (.im (.int .u32 (((smB b (0) : Nat) : Int))))), (6, .sl (b.map byB) .ro), (7, (.im (.int .i64 (b.length)))), (8, (.im (.int .i64 ((((0 : Nat)) : Int)))))] [] I1_Zb ?_
  refine ALp.upto b.length (fun _ => True) (fun m => ⟨dn 19 [(3, (.im (.int .u32 (((smB b (m) : Nat) : Int))))), (6, .sl (b.map byB) .ro), (7, (.im (.int .i64 (b.length)))), (8, (.im (.int .i64 ((((m : Nat)) : Int)))))], ofl []⟩) ?_ 0 (Nat.zero_le _) trivial
  intro m hm _ hnext
  by_cases hlt : m < b.length
  · have hlt' : (m : Int) < (b.length : Int) := by omega
    have hg : b[m]? = some b[m] := List.getElem?_eq_getElem hlt
    have hm1 := wrap_succ (m := m) (N := 140737488355328) (by omega) (by decide)
    have hs := smB_succ hg
    have hc := b[m].toNat_lt
    have hw : IntKind.u32.wrap ((b[m].toNat : Nat) : Int) = ((b[m].toNat : Nat) : Int) := by rw [IntKind.wrap_u32]; omega
    generalize b[m] = c at hg hs hw
    have hn := hnext (m + 1) (by omega) (by omega) trivial
    clear hnext
    refine wG Y24_Zb (And.intro hlt' (And.intro byB_eq (And.intro byB_firm (And.intro byB_strip (And.intro byB_live (And.intro byB_size (And.intro byB_isAg (And.intro byB_cells (And.intro (@List.getElem?_map.{0, 0}) (And.intro (@Int.natCast_nonneg) (And.intro hg (And.intro hw (And.intro hs hm1))))))))))))) ?_
    refine ALp.cutP 0 [(3, (.im (.int .u32 (((smB b (m + 1) : Nat) : Int))))), (6, .sl (b.map byB) .ro), (7, (.im (.int .i64 (b.length)))), (8, (.im (.int .i64 ((((m + 1 : Nat)) : Int)))))] [] I1_Zb ?_
    exact hn
  · obtain rfl : m = b.length := by omega
    have hlt' : ¬ (b.length : Int) < (b.length : Int) := by omega
    clear hnext hlt
    have ha := and_ffff (smB b b.length) (Nat.mod_lt _ (by decide))
    have hq : smB b b.length % 65536 = sumB b := by
      unfold smB sumB
      rw [List.take_length]; omega
    rw [hq] at ha
    refine wG Y24_Zb (And.intro hlt' ha) ?_
    exact Fin.oneP
end Go.Proofs.YtianekkfehoedaaGreatDoor
namespace Go.Proofs.YtianekkfehoedaaGreatDoor
set_option linter.unusedSimpArgs false
set_option linter.unusedVariables false
set_option linter.unnecessarySimpa false
open Go.RowKit
theorem rep_by (n : Nat) : List.replicate n (V.im (.int .u8 0)) = (List.replicate n (0 : UInt8)).map byB := by rw [List.map_replicate]; rfl
theorem take_by (b : Bs) (a n : Nat) : List.take (a + n - a) (List.drop a (b.map byB)) = ((b.drop a).take n).map byB := by rw [Nat.add_sub_cancel_left, ← List.map_drop, ← List.map_take]
theorem Y21_Zd : type_of% (And.intro @F_ag_22 (And.intro @F_ag_3 (And.intro @F_ag_4 (And.intro @F_al_5 (And.intro @F_el_22 (And.intro @F_fl_56_0 (And.intro @F_fl_56_1 (And.intro @F_fl_56_2 (And.intro @F_sz_22 (And.intro @F_sz_3 (And.intro @F_sz_4 (And.intro @F_sz_5 (@F_un_22))))))))))))) := And.intro @F_ag_22 (And.intro @F_ag_3 (And.intro @F_ag_4 (And.intro @F_al_5 (And.intro @F_el_22 (And.intro @F_fl_56_0 (And.intro @F_fl_56_1 (And.intro @F_fl_56_2 (And.intro @F_sz_22 (And.intro @F_sz_3 (And.intro @F_sz_4 (And.intro @F_sz_5 (@F_un_22))))))))))))
theorem I1_Zd : type_of% (And.intro enV_id (And.intro enL_id (And.intro byL_id (And.intro lsV_id (And.intro lsL_id (And.intro (@tyV_id) flE_id)))))) := (And.intro enV_id (And.intro enL_id (And.intro byL_id (And.intro lsV_id (And.intro lsL_id (And.intro (@tyV_id) flE_id))))))
theorem N1_Zd : type_of% (And.intro enV_ren (And.intro enL_ren (And.intro byL_ren (And.intro lsV_ren (And.intro lsL_ren flE_ren))))) := (And.intro enV_ren (And.intro enL_ren (And.intro byL_ren (And.intro lsV_ren (And.intro lsL_ren flE_ren)))))
theorem c_take (b : Bs) (n a : Nat) (s : Bool) (hb : b.length ≤ 140737488355328) (hn : n ≤ 65535) (ha : a ≤ b.length) : DC Tryz.prog 21 [.pt 0 0, (.im (.int .i64 ((n : Int))))] [.box [.sl (b.map byB) .ro, (.im (.int .i64 (((((a, s)).1 : Nat) : Int)))), (.im (.bool (((a, s)).2)))]] (.sl ((tkN b n a s).1.map byB) .ro) [.box [.sl (b.map byB) .ro, (.im (.int .i64 (((((tkN b n a s).2).1 : Nat) : Int)))), (.im (.bool (((tkN b n a s).2).2)))]] := by
  have w1 : IntKind.i64.wrap ((b.length : Int) - (a : Int)) = ((b.length - a : Nat) : Int) := by rw [wrap_in (by omega)]; omega
  have w2 : IntKind.i64.wrap ((a : Int) + (n : Int)) = ((a + n : Nat) : Int) := by rw [wrap_in (by omega)]; omega
  have w3 : IntKind.i64.wrap (((a + n : Nat) : Int) - (n : Int)) = ((a : Nat) : Int) := by rw [wrap_in (by omega)]; omega
  unfold tkN
  by_cases h : s = true ∨ b.length - a < n
  · rw [if_pos h]
    simp only
    refine DC.enter 51 Tryz.func21 rfl (by decide) rfl rfl (s := [(0, .pt 0 0), (1, (.im (.int .i64 ((n : Int)))))]) (by rfl) ?_
    cases s with
    | true =>
      refine wdG Y21_Zd True.intro ?_
      refine AR.make (n := n) (b := 1) (c := .im (.int .u8 0)) rfl rfl F_el_22 F_sz_5 F_al_5 rfl F_by_5 (by omega) (by omega) (rep_by n) ?_
      refine goG Y21_Zd True.intro ?_
      refine wG Y21_Zd True.intro ?_
      refine Fin.gen (rs := [.tmp 4]) rfl (by first | exact .inl rfl | exact .inr rfl) (finG Y21_Zd) ?_ rfl (idG I1_Zd)
      skip
      all_goals exact wkG I1_Zd
    | false =>
      have hlt : ((b.length - a : Nat) : Int) < (n : Int) := by
        rcases h with h | h
        · cases h
        · omega
      refine wdG Y21_Zd (And.intro w1 (And.intro hlt @List.length_map.{0, 0})) ?_
      refine AR.make (n := n) (b := 1) (c := .im (.int .u8 0)) rfl rfl F_el_22 F_sz_5 F_al_5 rfl F_by_5 (by omega) (by omega) (rep_by n) ?_
      refine goG Y21_Zd True.intro ?_
      refine wG Y21_Zd True.intro ?_
      refine Fin.gen (rs := [.tmp 4]) rfl (by first | exact .inl rfl | exact .inr rfl) (finG Y21_Zd) ?_ rfl (idG I1_Zd)
      skip
      all_goals exact wkG I1_Zd
  · rw [if_neg h]
    rw [not_or] at h
    obtain ⟨h1, h2⟩ := h
    obtain rfl : s = false := by simpa using h1
    have hlt : ¬ ((b.length - a : Nat) : Int) < (n : Int) := by omega
    have ht := take_by b a n
    have g1 : ((a : Nat) : Int) ≤ ((a + n : Nat) : Int) := by omega
    have g2 : ((a + n : Nat) : Int) ≤ (b.length : Int) := by omega
    simp only
    generalize (b.drop a).take n = x at ht ⊢
    refine DC.enter 51 Tryz.func21 rfl (by decide) rfl rfl (s := [(0, .pt 0 0), (1, (.im (.int .i64 ((n : Int)))))]) (by rfl) ?_
    refine wdG Y21_Zd (And.intro w1 (And.intro w2 (And.intro w3 (And.intro hlt (And.intro (@List.length_map.{0, 0}) (And.intro GDS (And.intro g1 (And.intro g2 (And.intro ht byL_allS))))))))) ?_
    refine Fin.gen (rs := [.tmp 4]) rfl (by first | exact .inl rfl | exact .inr rfl) (finG Y21_Zd) ?_ rfl (idG I1_Zd)
    skip
    all_goals exact wkG I1_Zd
theorem vaB_snoc : ∀ (x : Bs) (c : UInt8), vaB (x ++ [c]) = vaB x + c.toNat * 256 ^ x.length
  | [], c => by simp [vaB]
  | d :: x, c => by
    simp only [List.cons_append, vaB, vaB_snoc x c, List.length_cons, Nat.pow_succ]
    have : c.toNat * (256 ^ x.length * 256) = 256 * (c.toNat * 256 ^ x.length) := by rw [Nat.mul_comm (256 ^ x.length) 256, Nat.mul_left_comm]
    omega
theorem vaB_or {x : Bs} {m : Nat} {c : UInt8} (h : x[m]? = some c) (hx : x.length ≤ 4) : IntKind.u32.wrap ((BitVec.ofInt IntKind.u32.bits ((vaB (x.take m) : Nat) : Int) ||| BitVec.ofInt IntKind.u32.bits (IntKind.u32.wrap (((c.toNat : Nat) : Int) * 2 ^ min (8 * m) IntKind.u32.bits))).toNat : Int) = ((vaB (x.take (m + 1)) : Nat) : Int) := by
  obtain ⟨hm, rfl⟩ := List.getElem?_eq_some_iff.1 h
  have hl : (x.take m).length = m := by simp; omega
  have h1 := vaB_lt (x.take m)
  rw [hl] at h1
  rw [List.take_succ_eq_append_getElem hm, vaB_snoc, hl]
  generalize vaB (x.take m) = v at h1 ⊢
  have hc := x[m].toNat_lt
  generalize x[m].toNat = c at hc ⊢
  have hp : (256 : Nat) ^ m = 2 ^ (8 * m) := by rw [Nat.pow_mul]
  have hmin : min (8 * m) IntKind.u32.bits = 8 * m := by
    show min (8 * m) 32 = 8 * m
    omega
  rw [hmin]
  have hv : v < 2 ^ (8 * m) := by rw [← hp]; exact h1
  have hlt : c * 256 ^ m + v < 4294967296 := by
    have h3 : m = 0 ∨ m = 1 ∨ m = 2 ∨ m = 3 := by omega
    rcases h3 with rfl | rfl | rfl | rfl <;> simp at h1 ⊢ <;> omega
  have e1 : IntKind.u32.wrap (((c : Nat) : Int) * 2 ^ (8 * m)) = ((c * 2 ^ (8 * m) : Nat) : Int) := by
    rw [IntKind.wrap_u32, ← hp]
    have : ((c : Nat) : Int) * 2 ^ (8 * m) = ((c * 256 ^ m : Nat) : Int) := by rw [hp]; push_cast; rfl
    rw [this]
    omega
  rw [e1]
  have e2 : ∀ y : Nat, y < 4294967296 → (BitVec.ofInt IntKind.u32.bits (y : Int)).toNat = y := fun y hy => by
    show (BitVec.ofInt 32 (y : Int)).toNat = y
    rw [BitVec.toNat_ofInt]; omega
  rw [hp] at hlt ⊢
  rw [BitVec.toNat_or, e2 _ (by omega), e2 _ (by omega)]
  have e3 : v ||| c * 2 ^ (8 * m) = c * 2 ^ (8 * m) + v := by
    rw [Nat.or_comm, ← Nat.shiftLeft_eq, Nat.shiftLeft_add_eq_or_of_lt hv]
  rw [e3, IntKind.wrap_u32]
  omega
theorem Y23_Zd : type_of% (And.intro @F_ag_5 (And.intro @F_el_22 (And.intro @F_in_44 (And.intro @F_in_5 (And.intro @F_sz_5 (And.intro @F_un_44 (@F_un_5))))))) := And.intro @F_ag_5 (And.intro @F_el_22 (And.intro @F_in_44 (And.intro @F_in_5 (And.intro @F_sz_5 (And.intro @F_un_44 (@F_un_5))))))
theorem c_numR (b : Bs) (w a : Nat) (s : Bool) (hb : b.length ≤ 140737488355328) (hw : w ≤ 4) (ha : a ≤ b.length) : DC Tryz.prog 23 [.pt 0 0, (.im (.int .i64 ((w : Int))))] [.box [.sl (b.map byB) .ro, (.im (.int .i64 (((((a, s)).1 : Nat) : Int)))), (.im (.bool (((a, s)).2)))]] (.im (.int .u32 ((((nuN b w a s).1 : Nat) : Int)))) [.box [.sl (b.map byB) .ro, (.im (.int .i64 (((((nuN b w a s).2).1 : Nat) : Int)))), (.im (.bool (((nuN b w a s).2).2)))]] := by
  have q := c_take b w a s hb (by omega) ha
  have hl := tkN_len b w a s
  unfold nuN
  simp only
  generalize (tkN b w a s).2 = z at q ⊢
  generalize (tkN b w a s).1 = x at q hl ⊢
  refine DC.enter 26 Tryz.func23 rfl (by decide) rfl rfl (s := [(0, .pt 0 0), (1, (.im (.int .i64 ((w : Int)))))]) (by rfl) ?_
  refine wG Y23_Zd True.intro ?_
  refine AR.callSP [0] q True.intro I1_Zd N1_Zd ?_
  refine goG Y23_Zd @List.length_map.{0, 0} ?_
  refine wG Y23_Zd True.intro ?_
  refine AWp.loop ?_
  suffices H : ALp _ _ _ _ _ ⟨dn 26 [(5, (.im (.int .u32 (((vaB (x.take (0)) : Nat) : Int))))), (10, .sl (x.map byB) .ro), (11, (.im (.int .i64 (x.length)))), (12, (.im (.int .i64 ((((0 : Nat)) : Int)))))], ofl [.box [.sl (b.map byB) .ro, (.im (.int .i64 ((((z).1 : Nat) : Int)))), (.im (.bool ((z).2)))]]⟩ by
    refine ALp.cutP 1 [(5, (.im (.int .u32 (0)))), (10, .sl (x.map byB) .ro), (11, (.im (.int .i64 (x.length)))), (12, (.im (.int .i64 (0))))] [.box [.sl (b.map byB) .ro, (.im (.int .i64 ((((z).1 : Nat) : Int)))), (.im (.bool ((z).2)))]] I1_Zd ?_
    exact H
  refine ALp.upto x.length (fun _ => True) (fun m => ⟨dn 26 [(5, (.im (.int .u32 (((vaB (x.take (m)) : Nat) : Int))))), (10, .sl (x.map byB) .ro), (11, (.im (.int .i64 (x.length)))), (12, (.im (.int .i64 ((((m : Nat)) : Int)))))], ofl [.box [.sl (b.map byB) .ro, (.im (.int .i64 ((((z).1 : Nat) : Int)))), (.im (.bool ((z).2)))]]⟩) ?_ 0 (Nat.zero_le _) trivial
  intro m hm _ hnext
  by_cases hlt : m < x.length
  · have hlt' : (m : Int) < (x.length : Int) := by omega
    have hg : x[m]? = some x[m] := List.getElem?_eq_getElem hlt
    have hm1 := wrap_succ (m := m) (N := 140737488355328) (by omega) (by decide)
    have ho := vaB_or hg (by omega)
    have hc := x[m].toNat_lt
    have hcw : IntKind.u32.wrap ((x[m].toNat : Nat) : Int) = ((x[m].toNat : Nat) : Int) := by rw [IntKind.wrap_u32]; omega
    have h8 : IntKind.i64.wrap (8 * (m : Int)) = ((8 * m : Nat) : Int) := by rw [wrap_in (by omega)]; omega
    have h80 : (((8 * m : Nat) : Int) < 0) = False := eq_false (by omega)
    generalize x[m] = c at hg ho hcw
    have hn := hnext (m + 1) (by omega) (by omega) trivial
    clear hnext
    refine wG Y23_Zd (And.intro hlt' (And.intro byB_eq (And.intro BAT (And.intro hg (And.intro hcw (And.intro h8 (And.intro h80 (And.intro ho hm1)))))))) ?_
    refine ALp.cutP 1 [(5, (.im (.int .u32 (((vaB (x.take (m + 1)) : Nat) : Int))))), (10, .sl (x.map byB) .ro), (11, (.im (.int .i64 (x.length)))), (12, (.im (.int .i64 ((((m + 1 : Nat)) : Int)))))] [.box [.sl (b.map byB) .ro, (.im (.int .i64 ((((z).1 : Nat) : Int)))), (.im (.bool ((z).2)))]] I1_Zd ?_
    exact hn
  · obtain rfl : m = x.length := by omega
    have hlt' : ¬ (x.length : Int) < (x.length : Int) := by omega
    have ht := List.take_length (l := x)
    clear hnext hlt
    refine wG Y23_Zd (And.intro hlt' ht) ?_
    refine Fin.gen (rs := [.tmp 4]) rfl (by first | exact .inl rfl | exact .inr rfl) (finG Y23_Zd) ?_ rfl (idG I1_Zd)
    skip
    all_goals exact wkG I1_Zd
end Go.Proofs.YtianekkfehoedaaGreatDoor
namespace Go.Proofs.YtianekkfehoedaaGreatDoor
set_option linter.unusedSimpArgs false
set_option linter.unusedVariables false
set_option linter.unnecessarySimpa false
open Go.RowKit
theorem nuN_lt (b : Bs) (w a : Nat) (s : Bool) : (nuN b w a s).1 < 256 ^ w := by
  have := vaB_lt (tkN b w a s).1
  rw [tkN_len] at this
  exact this
theorem nuN_le (b : Bs) (w a : Nat) (s : Bool) (h : a ≤ b.length) : (nuN b w a s).2.1 ≤ b.length := (tkN_le b w a s h).2
theorem Y22_Ze : type_of% (And.intro @F_ag_4 (And.intro @F_ag_46 (And.intro @F_ag_9 (And.intro @F_al_46 (And.intro @F_by_46 (And.intro @F_el_22 (And.intro @F_el_28 (And.intro @F_fl_46_3 (And.intro @F_fl_56_2 (And.intro @F_in_22 (And.intro @F_in_3 (And.intro @F_in_44 (And.intro @F_in_9 (And.intro @F_st_46 (And.intro @F_sz_4 (And.intro @F_sz_46 (And.intro @F_sz_9 (And.intro @F_un_22 (And.intro @F_un_3 (And.intro @F_un_44 (And.intro @F_un_5 (@F_un_9)))))))))))))))))))))) := And.intro @F_ag_4 (And.intro @F_ag_46 (And.intro @F_ag_9 (And.intro @F_al_46 (And.intro @F_by_46 (And.intro @F_el_22 (And.intro @F_el_28 (And.intro @F_fl_46_3 (And.intro @F_fl_56_2 (And.intro @F_in_22 (And.intro @F_in_3 (And.intro @F_in_44 (And.intro @F_in_9 (And.intro @F_st_46 (And.intro @F_sz_4 (And.intro @F_sz_46 (And.intro @F_sz_9 (And.intro @F_un_22 (And.intro @F_un_3 (And.intro @F_un_44 (And.intro @F_un_5 (@F_un_9)))))))))))))))))))))
theorem I1_Ze : type_of% (And.intro enV_id (And.intro enL_id (And.intro byL_id (And.intro lsV_id (And.intro lsL_id (And.intro (@tyV_id) flE_id)))))) := (And.intro enV_id (And.intro enL_id (And.intro byL_id (And.intro lsV_id (And.intro lsL_id (And.intro (@tyV_id) flE_id))))))
theorem N1_Ze : type_of% (And.intro enV_ren (And.intro enL_ren (And.intro byL_ren (And.intro lsV_ren (And.intro lsL_ren flE_ren))))) := (And.intro enV_ren (And.intro enL_ren (And.intro byL_ren (And.intro lsV_ren (And.intro lsL_ren flE_ren)))))
theorem c_list (b : Bs) (a : Nat) (s : Bool) (hb : b.length ≤ 140737488355328) (ha : a ≤ b.length) : DC Tryz.prog 22 [.pt 0 0] [.box [.sl (b.map byB) .ro, (.im (.int .i64 (((((a, s)).1 : Nat) : Int)))), (.im (.bool (((a, s)).2)))]] (.sl ((lsN b (nuN b 2 a s).1 [] (nuN b 2 a s).2.1 (nuN b 2 a s).2.2).1.map enV) .ro) [.box [.sl (b.map byB) .ro, (.im (.int .i64 (((((lsN b (nuN b 2 a s).1 [] (nuN b 2 a s).2.1 (nuN b 2 a s).2.2).2).1 : Nat) : Int)))), (.im (.bool (((lsN b (nuN b 2 a s).1 [] (nuN b 2 a s).2.1 (nuN b 2 a s).2.2).2).2)))]] := by
  have q := c_numR b 2 a s hb (by omega) ha
  have hc := nuN_lt b 2 a s
  have ha2 := nuN_le b 2 a s ha
  generalize (nuN b 2 a s).1 = c at q hc ⊢
  generalize (nuN b 2 a s).2 = z at q ha2 ⊢
  refine DC.enter 40 Tryz.func22 rfl (by decide) rfl rfl (s := [(0, .pt 0 0)]) (by rfl) ?_
  refine wG Y22_Ze True.intro ?_
  refine AR.callSP [0] q @Int.cast_ofNat_Int I1_Ze N1_Ze ?_
  refine goG Y22_Ze True.intro ?_
  refine wG Y22_Ze True.intro ?_
  refine AWp.loop ?_
  refine ALp.cutP 1 [(0, .pt 0 0), (3, .sl [] .nl), (4, (.im (.int .u32 (((c : Nat) : Int)))))] [.box [.sl (b.map byB) .ro, (.im (.int .i64 ((((z).1 : Nat) : Int)))), (.im (.bool ((z).2)))]] I1_Ze ?_
  refine ALp.ghost 3 [] .nl 46 4 ?_
  suffices H : ∀ x : Nat × List En × Nat × Bool, x.1 + x.2.1.length ≤ 65535 ∧ x.2.2.1 ≤ b.length ∧ lsN b c [] z.1 z.2 = lsN b x.1 x.2.1 x.2.2.1 x.2.2.2 → ALp _ _ _ _ _ ⟨dn 40 [(0, .pt 0 0), (3, .sl ((x).2.1.map enV) (.own 1)), (4, (.im (.int .u32 ((((x).1 : Nat) : Int)))))], ofl [.box [.sl (b.map byB) .ro, (.im (.int .i64 (((((x).2.2).1 : Nat) : Int)))), (.im (.bool (((x).2.2).2)))], .tip 46 4 (x).2.1.length]⟩ by
    exact H (c, [], z) ⟨by simp; omega, ha2, rfl⟩
  refine ALp.meas (α := Nat × List En × Nat × Bool) (fun x => ⟨dn 40 [(0, .pt 0 0), (3, .sl ((x).2.1.map enV) (.own 1)), (4, (.im (.int .u32 ((((x).1 : Nat) : Int)))))], ofl [.box [.sl (b.map byB) .ro, (.im (.int .i64 (((((x).2.2).1 : Nat) : Int)))), (.im (.bool (((x).2.2).2)))], .tip 46 4 (x).2.1.length]⟩) (fun x => x.1 + x.2.1.length ≤ 65535 ∧ x.2.2.1 ≤ b.length ∧ lsN b c [] z.1 z.2 = lsN b x.1 x.2.1 x.2.2.1 x.2.2.2) (fun x => x.1) ?_
  rintro ⟨n, acc, a', s'⟩ ⟨h1, h2, h3⟩ hnext
  simp only at h1 h2 h3
  clear q
  cases n with
  | zero =>
    have hz : ¬ ((0 : Nat) : Int) > 0 := by decide
    rw [h3]
    rw [lsN]
    clear h3
    refine wdG Y22_Ze @Int.natCast_zero ?_
    refine Fin.gen (rs := [.tmp 2]) rfl (by first | exact .inl rfl | exact .inr rfl) (finG Y22_Ze) ?_ rfl (idG I1_Ze)
    skip
    all_goals exact wkG I1_Ze
  | succ n =>
    have hz : ((n + 1 : Nat) : Int) > 0 := by omega
    cases s' with
    | true =>
      rw [lsN, if_pos rfl] at h3
      rw [h3]
      clear h3
      refine wdG Y22_Ze hz ?_
      refine Fin.gen (rs := [.tmp 2]) rfl (by first | exact .inl rfl | exact .inr rfl) (finG Y22_Ze) ?_ rfl (idG I1_Ze)
      skip
      all_goals exact wkG I1_Ze
    | false =>
      rw [lsN, if_neg (by decide)] at h3
      have q1 := c_numR b 1 a' false hb (by omega) h2
      have b1 := nuN_le b 1 a' false h2
      have c1 := nuN_lt b 1 a' false
      obtain ⟨X, hE⟩ : ∃ X, X = enN b a' false := ⟨_, rfl⟩
      rw [← hE] at h3
      unfold enN at hE
      simp only at hE
      generalize nuN b 1 a' false = r1 at q1 b1 c1 hE
      have q2 := c_numR b 4 r1.2.1 r1.2.2 hb (by omega) b1
      have b2 := nuN_le b 4 r1.2.1 r1.2.2 b1
      generalize nuN b 4 r1.2.1 r1.2.2 = r2 at q2 b2 hE
      have q3 := c_numR b 2 r2.2.1 r2.2.2 hb (by omega) b2
      have b3 := nuN_le b 2 r2.2.1 r2.2.2 b2
      have c3 := nuN_lt b 2 r2.2.1 r2.2.2
      generalize nuN b 2 r2.2.1 r2.2.2 = r3 at q3 b3 c3 hE
      have q4 := c_numR b 2 r3.2.1 r3.2.2 hb (by omega) b3
      have b4 := nuN_le b 2 r3.2.1 r3.2.2 b3
      have c4 := nuN_lt b 2 r3.2.1 r3.2.2
      generalize nuN b 2 r3.2.1 r3.2.2 = r4 at q4 b4 c4 hE
      have q5 := c_take b r4.1 r4.2.1 r4.2.2 hb (by omega) b4
      have b5 := (tkN_le b r4.1 r4.2.1 r4.2.2 b4).2
      generalize tkN b r4.1 r4.2.1 r4.2.2 = r5 at q5 b5 hE
      subst hE
      simp only at h3
      have hn := hnext (n, acc ++ [⟨(r1.1 : Int), (r3.1 : Int), (r2.1 : Int), r5.1⟩], r5.2) (by simp) ⟨by simp; omega, b5, h3⟩
      clear hnext h3
      have w1 : IntKind.i64.wrap ((r1.1 : Nat) : Int) = ((r1.1 : Nat) : Int) := wrap_in (by omega)
      have w3 : IntKind.i64.wrap ((r3.1 : Nat) : Int) = ((r3.1 : Nat) : Int) := wrap_in (by omega)
      have w4 : IntKind.i64.wrap ((r4.1 : Nat) : Int) = ((r4.1 : Nat) : Int) := wrap_in (by omega)
      have wn : IntKind.u32.wrap (((n + 1 : Nat) : Int) - 1) = ((n : Nat) : Int) := by rw [IntKind.wrap_u32]; omega
      have hA : acc.map enV ++ [.ag [(.im (.int .i64 (((r1.1 : Nat) : Int)))), (.im (.int .i64 (((r3.1 : Nat) : Int)))), (.im (.int .u32 (((r2.1 : Nat) : Int)))), (.im (.string (bA (r5.1))))]] = (acc ++ [(⟨(r1.1 : Int), (r3.1 : Int), (r2.1 : Int), r5.1⟩ : En)]).map enV := by rw [List.map_append]; rfl
      have hcap : (acc.length + 1) * 40 ≤ 140737488355328 := by omega
      have hln : acc.length + 1 = (acc ++ [(⟨(r1.1 : Int), (r3.1 : Int), (r2.1 : Int), r5.1⟩ : En)]).length := by simp
      generalize acc ++ [(⟨(r1.1 : Int), (r3.1 : Int), (r2.1 : Int), r5.1⟩ : En)] = acc2 at hA hln hn
      refine wdG Y22_Ze hz ?_
      refine AR.callSP [0] q1 @Int.cast_ofNat_Int I1_Ze N1_Ze ?_
      refine goG Y22_Ze w1 ?_
      refine AR.callSP [0] q2 @Int.cast_ofNat_Int I1_Ze N1_Ze ?_
      refine goG Y22_Ze True.intro ?_
      refine AR.callSP [0] q3 @Int.cast_ofNat_Int I1_Ze N1_Ze ?_
      refine goG Y22_Ze w3 ?_
      refine wG Y22_Ze True.intro ?_
      refine AR.callSP [0] q4 @Int.cast_ofNat_Int I1_Ze N1_Ze ?_
      refine goG Y22_Ze w4 ?_
      refine AR.callSP [0] q5 True.intro I1_Ze N1_Ze ?_
      refine goG Y22_Ze (And.intro BAT bA_mk) ?_
      refine wG Y22_Ze (And.intro hA (And.intro hcap (And.intro (@List.length_map.{0, 0}) (And.intro enL_all wn)))) ?_
      rw [hln]
      refine ALp.cutP 2 [(0, .pt 0 0), (3, .sl ((((n, acc2, r5.2) : Nat × List En × Nat × Bool)).2.1.map enV) (.own 1)), (4, (.im (.int .u32 ((((((n, acc2, r5.2) : Nat × List En × Nat × Bool)).1 : Nat) : Int)))))] [.box [.sl (b.map byB) .ro, (.im (.int .i64 (((((((n, acc2, r5.2) : Nat × List En × Nat × Bool)).2.2).1 : Nat) : Int)))), (.im (.bool (((((n, acc2, r5.2) : Nat × List En × Nat × Bool)).2.2).2)))], .tip 46 4 (((n, acc2, r5.2) : Nat × List En × Nat × Bool)).2.1.length] I1_Ze ?_
      exact hn
theorem ascB_at : ∀ {l : List En} {m : Nat} (h1 : 0 < m) (h2 : m < l.length), ascB (l.drop (m - 1)) = (ltE l[m - 1] l[m] && ascB (l.drop m))
  | l, m, h1, h2 => by
    have e1 : l.drop (m - 1) = l[m - 1] :: l[m] :: l.drop (m + 1) := by
      rw [List.drop_eq_getElem_cons (by omega), show m - 1 + 1 = m by omega, List.drop_eq_getElem_cons h2]
    rw [e1, ascB, List.drop_eq_getElem_cons h2]
theorem Y25_Ze : type_of% (And.intro @F_ag_46 (And.intro @F_el_28 (@F_sz_46))) := And.intro @F_ag_46 (And.intro @F_el_28 (@F_sz_46))
theorem c_ascending (l : List En) (hl : l.length ≤ 4194304) : PC Tryz.prog 25 [.sl (l.map enV) .ro] (.im (.bool (ascB l))) := by
  refine PC.enter 21 Tryz.func25 rfl (by decide) rfl rfl (s := [(0, .sl (l.map enV) .ro)]) (by rfl) ?_
  refine wG Y25_Ze True.intro ?_
  refine AWp.loop ?_
  refine ALp.cutP 0 [(0, .sl (l.map enV) .ro), (3, (.im (.int .i64 ((((1 : Nat)) : Int)))))] [] I1_Ze ?_
  refine ALp.meas (α := Nat) (fun m => ⟨dn 21 [(0, .sl (l.map enV) .ro), (3, (.im (.int .i64 ((((m : Nat)) : Int)))))], ofl []⟩) (fun m => 1 ≤ m ∧ (m ≤ l.length ∨ m = 1) ∧ ascB l = ascB (l.drop (m - 1))) (fun m => l.length + 1 - m) ?_ 1 ⟨Nat.le_refl _, .inr rfl, rfl⟩
  rintro m ⟨h1, h2, h3⟩ hnext
  by_cases hlt : m < l.length
  · have hlt' : (m : Int) < (l.length : Int) := by omega
    have g1 := List.getElem?_eq_getElem (l := l) (i := m - 1) (by omega)
    have g2 := List.getElem?_eq_getElem (l := l) (i := m) hlt
    have w1 : IntKind.i64.wrap ((m : Int) - 1) = ((m - 1 : Nat) : Int) := by rw [wrap_in (by omega)]; omega
    have hm1 := wrap_succ (m := m) (N := 4194304) (by omega) (by omega)
    have hc := c_cmpE l[m - 1] l[m]
    have hneg := cmpE_neg l[m - 1] l[m]
    rw [ascB_at h1 hlt] at h3
    generalize cmpE l[m - 1] l[m] = c at hc hneg
    have hn := hnext (m + 1)
    clear hnext
    by_cases hk : ltE l[m - 1] l[m] = true
    · rw [hk, Bool.true_and] at h3
      have hge : ¬ c ≥ 0 := by have := hneg.2 hk; omega
      have hn := hn (by omega) ⟨by omega, .inl (by omega), by rw [h3, Nat.add_sub_cancel]⟩
      refine wdG Y25_Ze (And.intro hlt' (And.intro ENT (And.intro w1 (And.intro g1 g2)))) ?_
      refine AR.callP hc enV_eq I1_Ze ?_
      refine goG Y25_Ze hge ?_
      refine wdG Y25_Ze hm1 ?_
      refine ALp.cutP 0 [(0, .sl (l.map enV) .ro), (3, (.im (.int .i64 ((((m + 1 : Nat)) : Int)))))] [] I1_Ze ?_
      exact hn
    · have hk : ltE l[m - 1] l[m] = false := by simpa using hk
      rw [hk, Bool.false_and] at h3
      rw [h3]
      have hge : c ≥ 0 := by
        have : ¬ c < 0 := fun hx => by rw [hneg.1 hx] at hk; cases hk
        omega
      refine wdG Y25_Ze (And.intro hlt' (And.intro ENT (And.intro w1 (And.intro g1 g2)))) ?_
      refine AR.callP hc enV_eq I1_Ze ?_
      refine goG Y25_Ze hge ?_
      refine wdG Y25_Ze True.intro ?_
      exact Fin.oneP
  · have hlt' : ¬ (m : Int) < (l.length : Int) := by omega
    have : ascB (l.drop (m - 1)) = true := by
      match h : l.drop (m - 1) with
      | [] => rfl
      | [_] => rfl
      | a :: b :: r =>
        have := congrArg List.length h
        simp at this
        omega
    rw [h3, this]
    refine wdG Y25_Ze hlt' ?_
    exact Fin.oneP
end Go.Proofs.YtianekkfehoedaaGreatDoor
