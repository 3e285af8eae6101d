import Derived.Test.YtmbmmckagcdapaaGreatDoorJ11
import Derived.Test.YtmbmmckagcdapaaGreatDoorJ26
import Derived.Test.YtmbmmckagcdapaaGreatDoorJ15
import Derived.Test.YtmbmmckagcdapaaGreatDoorJ20
import Derived.Test.YtmbmmckagcdapaaGreatDoorJ10
import Derived.Test.YtmbmmckagcdapaaGreatDoorJ17
import Derived.Test.YtmbmmckagcdapaaGreatDoorJ27
import Derived.Lib.SmallJoins
import Derived.Test.YtmbmmckagcdapaaGreatDoorJ08
import Derived.Test.YtmbmmckagcdapaaGreatDoorJ31
import Derived.KernelRfl
import Derived.Test.YtmbmmckagcdapaaGreatDoorJ18
set_option linter.unusedSimpArgs false
set_option linter.unusedVariables false
set_option linter.unnecessarySimpa false
namespace Go.Proofs.YtmbmmckagcdapaaGreatDoor
open Go.RowKit
def scnR (s : Bs) : List Tk × Int := if 65536 < s.length then ([], 6) else ((scnB s).1, if (scnB s).2 then 0 else 3)
theorem Y28_T13 : type_of% (AI @F_ag_122 (AI @F_ag_3 (AI @F_ag_52 (AI @F_ag_9 (AI @F_al_120 (AI @F_al_122 (AI @F_by_122 (AI @F_el_52 (AI @F_fl_120_0 (AI @F_fl_120_1 (AI @F_fl_120_2 (AI @F_fl_120_3 (AI @F_fl_122_3 (AI @F_fl_122_4 (AI @F_st_120 (AI @F_st_122 (AI @F_sz_122 (AI @F_sz_3 (AI @F_sz_52 (AI @F_sz_9 (@F_un_9))))))))))))))))))))) := AI @F_ag_122 (AI @F_ag_3 (AI @F_ag_52 (AI @F_ag_9 (AI @F_al_120 (AI @F_al_122 (AI @F_by_122 (AI @F_el_52 (AI @F_fl_120_0 (AI @F_fl_120_1 (AI @F_fl_120_2 (AI @F_fl_120_3 (AI @F_fl_122_3 (AI @F_fl_122_4 (AI @F_st_120 (AI @F_st_122 (AI @F_sz_122 (AI @F_sz_3 (AI @F_sz_52 (AI @F_sz_9 (@F_un_9))))))))))))))))))))
set_option maxHeartbeats 2000000 in
theorem c_Scan (s : Bs) (hs : s.length ≤ 4194304) : PC Tryz.prog 28 [.im (.string ⟨(s).toArray⟩)] (.tu [.sl ((scnR s).1.map tkV) .ro, .im (.int .i64 (scnR s).2)]) := by
  by_cases hbig : 65536 < s.length
  · have hb : (s.length : Int) > 65536 := by omega
    rw [show scnR s = ([], 6) from if_pos hbig]
    refine PC.enter 73 Tryz.func28 rfl (by decide) rfl rfl (s := [(0, .im (.string ⟨(s).toArray⟩))]) (by rfl) ?_
    refine wG Y28_T13 (AI BY (AI bS_size hb)) ?_; refine Fin.gen0 (rs := [.tmp 2, .tmp 3]) rfl (by first | exact .inl rfl | exact .inr rfl) (finG Y28_T13) ?_
    all_goals exact wkG (AI tkL_id (AI tkV_id byL_id))
  have hb : ¬ (s.length : Int) > 65536 := by omega
  rw [show scnR s = ((scnB s).1, if (scnB s).2 then 0 else 3) from if_neg hbig]
  refine PC.enter 73 Tryz.func28 rfl (by decide) rfl rfl (s := [(0, .im (.string ⟨(s).toArray⟩))]) (by rfl) ?_
  refine AWp.seq ?_
  refine AWp.tail (fun _ : Unit => ⟨dn 73 [(0, .im (.string ⟨(s).toArray⟩)), (2, .sl [] .nl), (3, .im (.int .i64 0))], ofl []⟩) (fun _ => ?_) (fun rest ht => ?_)
  case refine_2 =>
    refine wG Y28_T13 True.intro ?_; refine AWp.cutP 0 [(0, .im (.string ⟨(s).toArray⟩)), (2, .sl [] .nl), (3, .im (.int .i64 0))] [] (AI tkL_id (AI tkV_id (AI byL_id True.intro))) ?_; exact ht ()
  refine AWp.seq ?_
  refine AWp.tail (fun _ : Unit => ⟨dn 73 [(0, .im (.string ⟨(s).toArray⟩)), (2, .sl [] .nl), (3, .im (.int .i64 0))], ofl []⟩) (fun _ => ?_) (fun rest ht => ?_)
  case refine_2 =>
    refine wG Y28_T13 (AI BY (AI bS_size hb)) ?_; refine AWp.cutP 0 [(0, .im (.string ⟨(s).toArray⟩)), (2, .sl [] .nl), (3, .im (.int .i64 0))] [] (AI tkL_id (AI tkV_id (AI byL_id True.intro))) ?_; exact ht ()
  refine AWp.seq ?_
  refine AWp.tail (fun _ : Unit => ⟨dn 73 [(0, .im (.string ⟨(s).toArray⟩)), (2, .sl [] .nl), (3, .im (.int .i64 0)), (4, .pt 0 0)], ofl [.box [.im (.string ⟨(s).toArray⟩), (.im (.int .i64 (1))), (.im (.int .i64 (1))), .sl [] .nl]]⟩) (fun _ => ?_) (fun rest ht => ?_)
  case refine_2 =>
    refine wG Y28_T13 BY ?_; refine AWp.cutP 1 [(0, .im (.string ⟨(s).toArray⟩)), (2, .sl [] .nl), (3, .im (.int .i64 0)), (4, .pt 0 0)] [.box [.im (.string ⟨(s).toArray⟩), (.im (.int .i64 (1))), (.im (.int .i64 (1))), .sl [] .nl]] (AI tkL_id (AI tkV_id (AI byL_id True.intro))) ?_; exact ht ()
  refine AWp.ghostB 0 3 [.im (.string ⟨(s).toArray⟩), (.im (.int .i64 (1))), (.im (.int .i64 (1))), .sl [] .nl] 122 5 ?_
  have qb := c_blank s (1, 1) [] (by decide) (by decide) hs
  refine wG Y28_T13 True.intro ?_
  refine AR.callSP [0, 1] qb True.intro (AI tkL_id (AI tkV_id byL_id)) (AI tkV_ren (AI tkL_ren byL_ren)) ?_
  refine goG Y28_T13 True.intro ?_
  refine wG Y28_T13 True.intro ?_
  refine AWp.loop ?_
  suffices H : ∀ (k f : Nat) (x : Bs) (q : Int × Int) (ts : List Tk), x.length = k → x.length < f → skpG false x = x → scnB s = (ts ++ (scnN f x q).1, (scnN f x q).2) → ts.length + x.length ≤ s.length →
      (x = s.drop (s.length - x.length)) → (q = advs (1, 1) (s.take (s.length - x.length))) → ALp _ _ _ _ _ ⟨dn 73 [(0, .im (.string ⟨(s).toArray⟩)), (4, .pt 0 0)], ofl [.box [.im (.string ⟨(x).toArray⟩), (.im (.int .i64 (q.1))), (.im (.int .i64 (q.2))), .sl (ts.map tkV) (.mine 1)], .tip 122 5 ts.length]⟩ by
    refine ALp.cutP 2 [(0, .im (.string ⟨(s).toArray⟩)), (4, .pt 0 0)] [.box [.im (.string ⟨(skpG false s).toArray⟩), (.im (.int .i64 ((skq s (1, 1)).1))), (.im (.int .i64 ((skq s (1, 1)).2))), .sl (([] : List Tk).map tkV) (.mine 1)], .tip 122 5 ([] : List Tk).length] (AI tkL_id (AI tkV_id byL_id)) ?_; exact H _ (s.length + 1) _ _ [] rfl (by have := skp_le false s; omega) (skp_idem s false) (by rw [List.nil_append, ← scnN_skp]; rfl) (by have := skp_le false s; simp; exact this) (List.suffix_iff_eq_drop.1 (skp_suf s false)) rfl
  intro k
  induction k using Nat.strongRecOn with
  | _ k ih =>
  intro f x q ts hk hf hx hE hts hq1 hq2
  refine ALp.round ?_
  cases x with
  | nil =>
    have e0 : (([] : Bs) == []) = true := rfl; rw [scnN_nil, List.append_nil] at hE; rw [hE]; clear ih; refine wG Y28_T13 (AI BY e0) ?_; refine Fin.gen0 (rs := [.tmp 2, .tmp 3]) rfl (by first | exact .inl rfl | exact .inr rfl) (finG Y28_T13) ?_
    all_goals exact wkG (AI tkL_id (AI tkV_id byL_id))
  | cons c r =>
  have e0 : ((c :: r) == ([] : Bs)) = false := rfl
  have hxl : (c :: r).length ≤ 4194304 := by omega
  have qn := c_next (c :: r) q ts hxl (by simp)
  cases f with
  | zero => omega
  | succ f =>
  have hN := scnN_no (f := f) hx (by simp)
  have hY := scnN_ok (f := f) hx (by simp)
  have hlen := nxtR_len (s := c :: r) (by simp)
  generalize nxtR (c :: r) = v at qn hN hY hlen
  obtain ⟨tk, n, b⟩ := v
  have hal : ts.length + 1 ≤ 140737488355328 := by rw [List.length_cons] at hts; omega
  cases b with
  | false =>
    rw [hN rfl q] at hE; rw [hE]; obtain ⟨B, hB⟩ : ∃ B, B = ts ++ [(⟨6, [], 0, q.1, q.2⟩ : Tk)] := ⟨_, rfl⟩
    have hAs : ts.map tkV ++ [V.ag [.im (.int .i64 6), .im (.string ByteArray.empty), .im (.int .u32 0), .im (.int .i64 q.1), .im (.int .i64 q.2)]] = B.map tkV := by rw [hB, List.map_append]; rfl
    have hAl : ts.length + 1 = B.length := by rw [hB]; simp
    have hbl : B.length * 48 ≤ 140737488355328 := by rw [List.length_cons] at hts; omega
    simp only [← hB]; clear ih hN hY hlen; refine wG Y28_T13 (AI BY e0) ?_; refine AR.callQP [0, 1] qn True.intro (AI tkL_id (AI tkV_id byL_id)) (AI tkV_ren (AI tkL_ren byL_ren)) ?_; refine goG Y28_T13 TKT ?_; refine wG Y28_T13 TKT ?_; refine wdG Y28_T13 (AI BY (AI GDS (AI TKT (AI hAs (AI hAl (AI hbl @List.length_map.{0, 0})))))) ?_; refine Fin.gen0 (rs := [.tmp 2, .tmp 3]) rfl (by first | exact .inl rfl | exact .inr rfl) (finG Y28_T13) ?_
    all_goals exact wkG (AI tkL_id (AI tkV_id byL_id))
  | true =>
    rw [hY rfl q] at hE; have hn := hlen rfl; clear hN hY hlen; simp only at hn hE; obtain ⟨B, hB⟩ : ∃ B, B = ts ++ [tk.at_ q] := ⟨_, rfl⟩
    have hAs : ts.map tkV ++ [V.ag [.im (.int .i64 tk.kind), .im (.string ⟨tk.text.toArray⟩), .im (.int .u32 tk.n), .im (.int .i64 q.1), .im (.int .i64 q.2)]] = B.map tkV := by rw [hB, List.map_append]; rfl
    have hAl : ts.length + 1 = B.length := by rw [hB]; simp
    have hbl : B.length * 48 ≤ 140737488355328 := by rw [List.length_cons] at hts; omega
    obtain ⟨a, ha⟩ : ∃ a, a = s.length - (c :: r).length := ⟨_, rfl⟩
    rw [← ha] at hq1 hq2; have hal2 : a + (c :: r).length = s.length := by omega
    have hbq := advs_bound (s.take a) (1, 1) (by decide) (by decide)
    rw [← hq2, List.length_take] at hbq; have hs1 := c_skip (c :: r) q B n hn.2 (by omega) (by omega) hxl
    have hq3 : advs q ((c :: r).take n) = advs (1, 1) (s.take (a + n)) := by rw [hq2, hq1]; exact advs_more (1, 1) s a n
    have hx3 : (c :: r).drop n = s.drop (a + n) := by rw [hq1, List.drop_drop]
    have hbq2 := advs_bound (s.take (a + n)) (1, 1) (by decide) (by decide)
    rw [List.length_take] at hbq2; rw [hq3] at hs1 hE; rw [hx3] at hs1 hE; have hyl : (s.drop (a + n)).length = s.length - (a + n) := List.length_drop; have hs2 := c_blank (s.drop (a + n)) (advs (1, 1) (s.take (a + n))) B (by omega) (by omega) (by omega)
    have hle := skp_le false (s.drop (a + n))
    have hq4 : skq (s.drop (a + n)) (advs (1, 1) (s.take (a + n))) = advs (1, 1) (s.take (s.length - (skpG false (s.drop (a + n))).length)) := by
      unfold skq; rw [advs_more, hyl, show a + n + (s.length - (a + n) - (skpG false (s.drop (a + n))).length) = s.length - (skpG false (s.drop (a + n))).length by omega]
    have hE2 : scnB s = (B ++ (scnN f (skpG false (s.drop (a + n))) (skq (s.drop (a + n)) (advs (1, 1) (s.take (a + n))))).1, (scnN f (skpG false (s.drop (a + n))) (skq (s.drop (a + n)) (advs (1, 1) (s.take (a + n))))).2) := by
      rw [← scnN_skp, hE, hB, List.append_assoc]; rfl
    have hrec := ih (skpG false (s.drop (a + n))).length (by omega) f _ _ B rfl (by omega) (skp_idem _ false) hE2 (by omega) (List.suffix_iff_eq_drop.1 ((skp_suf _ false).trans (List.drop_suffix _ _))) hq4
    clear ih hE hE2 hq4 hle hyl hbq hbq2 hq3 hx3 hq1 hq2 hts; generalize skq (s.drop (a + n)) (advs (1, 1) (s.take (a + n))) = q4 at hs2 hrec; generalize skpG false (s.drop (a + n)) = x4 at hs2 hrec; generalize advs (1, 1) (s.take (a + n)) = q3 at hs1 hs2; generalize s.drop (a + n) = x3 at hs1 hs2; refine wG Y28_T13 (AI BY e0) ?_; refine AR.callQP [0, 1] qn True.intro (AI tkL_id (AI tkV_id byL_id)) (AI tkV_ren (AI tkL_ren byL_ren)) ?_; refine goG Y28_T13 TKT ?_; refine wG Y28_T13 TKT ?_; refine wdG Y28_T13 (AI BY (AI GDS (AI TKT (AI hAs (AI hAl (AI hbl @List.length_map.{0, 0})))))) ?_; refine AR.callSP [0, 1] hs1 True.intro (AI tkL_id (AI tkV_id byL_id)) (AI tkV_ren (AI tkL_ren byL_ren)) ?_; refine goG Y28_T13 True.intro ?_; refine wG Y28_T13 True.intro ?_; refine AR.callSP [0, 1] hs2 True.intro (AI tkL_id (AI tkV_id byL_id)) (AI tkV_ren (AI tkL_ren byL_ren)) ?_; refine goG Y28_T13 True.intro ?_; refine wG Y28_T13 True.intro ?_; refine ALp.cutP 2 [(0, .im (.string ⟨(s).toArray⟩)), (4, .pt 0 0)] [.box [.im (.string ⟨(x4).toArray⟩), (.im (.int .i64 (q4.1))), (.im (.int .i64 (q4.2))), .sl (B.map tkV) (.mine 1)], .tip 122 5 B.length] (AI tkL_id (AI tkV_id byL_id)) ?_; exact hrec
theorem dgv_hexv (b : Nat) (hb : b = 10 ∨ b = 16) (c : UInt8) : (∀ d, d < b → (dgv c = some d ↔ hexv c = some d)) := by
  have key : ∀ n, n < 16 → (dgv c = some n ↔ hexv c = some n) := by
    intro n hn; have := u8_all (fun c => (List.range 16).all fun n => (dgv c == some n) == (hexv c == some n)) (by decide +kernel) c
    have h2 := List.all_eq_true.1 this n (by simpa using hn)
    have h3 := beq_iff_eq.1 h2; constructor
    · intro h
      have : (hexv c == some n) = true := by rw [← h3, h]; simp
      exact beq_iff_eq.1 this
    · intro h
      have : (dgv c == some n) = true := by rw [h3, h]; simp
      exact beq_iff_eq.1 this
  intro d hd
  exact key d (by omega)
theorem digV_le {b : Nat} (hb : 1 ≤ b) (s : Bs) : ∀ a n, digV b a s = some n → a ≤ n := by
  induction s with
  | nil => intro a n h; cases h; exact Nat.le_refl _
  | cons c r ih =>
    intro a n h; rw [digV] at h; split at h
    · split at h
      · have h1 := ih _ _ h
        have : a * 1 ≤ a * b := Nat.mul_le_mul_left a hb; omega
      · cases h
    · cases h
theorem puF_of {b : Nat} (hb : b = 10 ∨ b = 16) (s : Bs) : ∀ a n, digV b a s = some n → n ≤ 4294967295 → puF b a s = (n, 0) := by
  induction s with
  | nil => intro a n h _; cases h; rfl
  | cons c r ih =>
    intro a n h hn; rw [digV] at h; split at h
    · rename_i d hd
      split at h
      · rename_i hlt
        have h1 := digV_le (show 1 ≤ b by omega) r _ _ h
        rw [puF, (dgv_hexv b hb c d hlt).2 hd]; simp only; rw [if_neg (by omega), if_neg (by omega)]
        exact ih _ _ h hn
      · cases h
    · cases h
theorem puF_to {b : Nat} (hb : b = 10 ∨ b = 16) (s : Bs) : ∀ a, (puF b a s).2 = 0 → digV b a s = some (puF b a s).1 := by
  induction s with
  | nil => intro a _; rfl
  | cons c r ih =>
    intro a h; rw [puF] at h ⊢; cases hd : dgv c with
    | none => rw [hd] at h; cases h
    | some d =>
      rw [hd] at h; simp only at h ⊢
      by_cases h1 : b ≤ d
      · rw [if_pos h1] at h; cases h
      · rw [if_neg h1] at h ⊢
        by_cases h2 : 4294967295 < a * b + d
        · rw [if_pos h2] at h; cases h
        · rw [if_neg h2] at h ⊢
          rw [digV, (dgv_hexv b hb c d (by omega)).1 hd]
          simp only; rw [if_pos (by omega)]
          exact ih _ h
theorem digV_hex {b : Nat} (s : Bs) : ∀ a n, digV b a s = some n → ∀ c ∈ s, (hexv c).isSome = true := by
  induction s with
  | nil => intro a n _ c hc; cases hc
  | cons x r ih =>
    intro a n h c hc; rw [digV] at h; split at h
    · rename_i d hd
      split at h
      · rcases List.mem_cons.1 hc with rfl | hc
        · rw [hd]; rfl
        · exact ih _ _ h c hc
      · cases h
    · cases h
theorem noAny_hex {s : Bs} (h : ∀ c ∈ s, (hexv c).isSome = true) : Lib.containsAny s [95, 43, 45] = false := by
  unfold Lib.containsAny
  rw [Lib.indexAny_none (fun j b _ hb => ?_)]
  · decide
  · have h1 := h b (List.mem_of_getElem? hb)
    have h2 := u8_all (fun c => !(hexv c).isSome || !([95, 43, 45] : List UInt8).contains c) (by decide +kernel) b
    simp only [h1, Bool.not_true, Bool.false_or] at h2; simpa using h2
theorem digV_lt16 (s : Bs) : ∀ a n, digV 16 a s = some n → n < (a + 1) * 16 ^ s.length := by
  induction s with
  | nil => intro a n h; cases h; simp
  | cons c r ih =>
    intro a n h; rw [digV] at h; split at h
    · rename_i d hd
      split at h
      · rename_i hlt
        have h1 := ih _ _ h; have h2 : (a * 16 + d + 1) * 16 ^ r.length ≤ ((a + 1) * 16) * 16 ^ r.length := Nat.mul_le_mul_right _ (by omega)
        rw [List.length_cons, Nat.pow_succ, Nat.mul_comm (16 ^ r.length) 16, ← Nat.mul_assoc]; omega
      · cases h
    · cases h
theorem valR_some {w : Bs} {n : Nat} (h : valP w = some n) : valR w = (n, true) := by
  unfold valP at h
  unfold valR
  split at h
  · rename_i hp
    rw [if_pos hp]; split at h
    · rename_i hl
      have h16 : n ≤ 4294967295 := by
        have := digV_lt16 _ _ _ h; have h2 : 16 ^ (List.drop 2 w).length ≤ 16 ^ 8 := Nat.pow_le_pow_right (by decide) hl.2
        have h3 : (16 : Nat) ^ 8 = 4294967296 := by decide
        omega
      have hne : List.drop 2 w ≠ [] := fun e => by rw [e] at hl; exact absurd hl.1 (by decide)
      have hpu : puR 16 (List.drop 2 w) = (n, 0) := by
        unfold puR; rw [if_neg hne]; exact puF_of (.inr rfl) _ _ _ h h16
      rw [hpu, noAny_hex (digV_hex _ _ _ h), decide_eq_true hl.2]; rfl
    · cases h
  · rename_i hp
    rw [if_neg hp]; split at h
    · cases h
    · rename_i hz
      split at h
      · rename_i m hm
        split at h
        · rename_i hlt
          cases h
          have hne : w ≠ [] := fun e => hz (.inl (by rw [e]; rfl))
          have hpu : puR 10 w = (n, 0) := by
            unfold puR; rw [if_neg hne]; exact puF_of (.inl rfl) _ _ _ hm (by omega)
          rw [hpu, noAny_hex (digV_hex _ _ _ hm)]
          have hz2 : (w == [48] || decide (w.head? ≠ some 48)) = true := by
            by_cases q : w.head? = some 48
            · have : ¬ 1 < w.length := fun k => hz (.inr ⟨k, q⟩)
              obtain ⟨x, rfl⟩ : ∃ x, w = [x] := List.length_eq_one_iff.1 (by have := List.length_pos_iff.2 hne; omega)
              cases q; rfl
            · rw [decide_eq_true q, Bool.or_true]
          rw [hz2]; rfl
        · cases h
      · cases h
theorem valR_none {w : Bs} (h : valP w = none) : (valR w).2 = false := by
  rw [← Bool.not_eq_true]
  intro hc
  unfold valR at hc
  unfold valP at h
  by_cases hp : pre [48, 120] w = true
  · rw [if_pos hp] at hc h
    simp only [Bool.and_eq_true, decide_eq_true_eq] at hc; have hne : List.drop 2 w ≠ [] := fun e => by rw [e] at hc; exact absurd hc.1 (by decide)
    unfold puR at hc; rw [if_neg hne] at hc; rw [if_pos ⟨List.length_pos_iff.2 hne, hc.2.1⟩, puF_to (.inr rfl) _ _ hc.1] at h; cases h
  · rw [if_neg hp] at hc h
    simp only [Bool.and_eq_true, decide_eq_true_eq] at hc; have hne : w ≠ [] := fun e => by rw [e] at hc; exact absurd hc.1 (by decide)
    have hz : ¬ (w.length = 0 ∨ (1 < w.length ∧ w.head? = some 48)) := by
      rintro (k | ⟨k1, k2⟩)
      · exact hne (List.length_eq_zero_iff.1 k)
      · have h3 := hc.2.1
        rw [decide_eq_false (show ¬ (w.head? ≠ some 48) from fun k => k k2), Bool.or_false] at h3
        have h4 := beq_iff_eq.1 h3; rw [h4] at k1; exact absurd k1 (by decide)
    have hpu : puR 10 w = puF 10 0 w := if_neg hne; have hle : (puF 10 0 w).1 ≤ 4294967295 := puF_le 10 w 0 (by decide)
    rw [hpu] at hc; rw [if_neg hz, puF_to (.inl rfl) _ _ hc.1] at h; simp only at h; rw [if_pos (by omega)] at h
    cases h
theorem namR_some {w : Bs} {t : Tk} (h : namP w = some t) : namR w = (t, true) := by
  unfold namP at h
  unfold namR
  split
  · rename_i q
    rw [if_pos q] at h; cases h; rfl
  · rename_i q
    rw [if_neg q] at h; split
    · rename_i q2
      rw [if_pos q2] at h; split at h
      · rename_i q3
        cases h
        rw [decide_eq_true q3]
      · cases h
    · rename_i q2
      rw [if_neg q2] at h; cases hv : valP w with
      | none => rw [hv] at h; cases h
      | some n =>
        rw [hv] at h; cases h
        rw [valR_some hv]
theorem namR_none {w : Bs} (h : namP w = none) : (namR w).2 = false := by
  unfold namP at h
  unfold namR
  split
  · rename_i q
    rw [if_pos q] at h; cases h
  · rename_i q
    rw [if_neg q] at h; split
    · rename_i q2
      rw [if_pos q2] at h; split at h
      · cases h
      · rename_i q3
        exact decide_eq_false q3
    · rename_i q2
      rw [if_neg q2] at h; cases hv : valP w with
      | none => exact valR_none hv
      | some n => rw [hv] at h; cases h
theorem nxtR_some {s : Bs} {t : Tk} {n : Nat} (h : tokP s = some (t, n)) : nxtR s = (t, n, true) := by
  unfold tokP at h
  unfold nxtR
  split
  · rename_i q
    rw [if_pos q] at h; cases hn : namP (s.takeWhile isW) with
    | none => rw [hn] at h; cases h
    | some u => rw [hn] at h; cases h; rw [namR_some hn]
  · rename_i q
    rw [if_neg q] at h; split
    · rename_i q2
      rw [if_pos q2] at h; cases hq : quoP (s.drop 1) with
      | none => rw [hq] at h; cases h
      | some u => obtain ⟨u, m⟩ := u; rw [hq] at h; cases h; rw [quoR_some hq]
    · rename_i q2
      rw [if_neg q2] at h; cases hq : symP s with
      | none => rw [hq] at h; cases h
      | some u => rw [hq] at h; cases h; unfold symR; rw [hq]
theorem nxtR_none {s : Bs} (h : tokP s = none) : (nxtR s).2.2 = false := by
  unfold tokP at h
  unfold nxtR
  split
  · rename_i q
    rw [if_pos q] at h; cases hn : namP (s.takeWhile isW) with
    | none => exact namR_none hn
    | some u => rw [hn] at h; cases h
  · rename_i q
    rw [if_neg q] at h; split
    · rename_i q2
      rw [if_pos q2] at h; cases hq : quoP (s.drop 1) with
      | none => rw [quoR_none hq]
      | some u => obtain ⟨u, m⟩ := u; rw [hq] at h; cases h
    · rename_i q2
      rw [if_neg q2] at h; cases hq : symP s with
      | none => unfold symR; rw [hq]
      | some u => rw [hq] at h; cases h
theorem scnN_scnG : ∀ (f : Nat) (s : Bs) (p : Int × Int), scnN f s p = scnG f s p
  | 0, s, p => rfl
  | f + 1, s, p => by
    rw [scnN, scnG]
    by_cases q : skpG false s = []
    · rw [if_pos q, if_pos q]
    rw [if_neg q, if_neg q]; cases h : tokP (skpG false s) with
    | none =>
      rw [if_neg (by rw [nxtR_none h]; decide)]
    | some u =>
      obtain ⟨t, n⟩ := u; rw [nxtR_some h, if_pos rfl, scnN_scnG f]
theorem scnB_scan (s : Bs) : scnB s = scan s := scnN_scnG _ s (1, 1)
theorem Y255_T17 : type_of% (AI @F_in_146 (AI @F_in_43 (AI @F_un_146 (@F_un_43)))) := AI @F_in_146 (AI @F_in_43 (AI @F_un_146 (@F_un_43)))
theorem c_tz : PC Tryz.prog 255 [.im (.int .u64 (16))] (.im (.int .i64 (4))) := by
  refine PC.enter 8 Tryz.func255 rfl (by decide) rfl rfl (s := [(0, .im (.int .u64 (16)))]) (by rfl) ?_
  refine wG Y255_T17 True.intro ?_
  refine AWp.condF rfl ?_
  refine wG Y255_T17 True.intro ?_
  refine AR.callP c_tz64 True.intro byL_id ?_
  refine goG Y255_T17 True.intro ?_
  refine wG Y255_T17 True.intro ?_
  exact Fin.oneP
theorem c_pow2 : PC Tryz.prog 254 [(.im (.int .i64 (16)))] (.im (.bool (true))) := by
  refine PC.enter 8 Tryz.func254 rfl (by decide) rfl rfl (s := [(0, (.im (.int .i64 (16))))]) (by rfl) ?_
  refine wG True.intro True.intro ?_
  exact Fin.oneP
theorem hexG_fuel : ∀ (f g n : Nat), n < f → n < g → hexG f n = hexG g n
  | 0, _, _, h, _ => by omega
  | _, 0, _, _, h => by omega
  | f + 1, g + 1, n, hf, hg => by
    rw [hexG, hexG]; split
    · rfl
    · rw [hexG_fuel f g (n / 16) (by omega) (by omega)]
theorem hexS_lt {n : Nat} (h : n < 16) : hexS n = [hexD n] := by
  unfold hexS
  rw [hexG, if_pos h]
theorem hexS_ge {n : Nat} (h : ¬ n < 16) : hexS n = hexS (n / 16) ++ [hexD (n % 16)] := by
  unfold hexS
  rw [hexG, if_neg h, hexG_fuel n (n / 16 + 1) (n / 16) (by omega) (by omega)]
theorem u64_15 (n : Nat) (hn : n < 18446744073709551616) : IntKind.u64.wrap ↑(BitVec.ofInt IntKind.u64.bits (n : Int) &&& BitVec.ofInt IntKind.u64.bits 15).toNat = ((n % 16 : Nat) : Int) := by
  have e : (BitVec.ofInt 64 (n : Int) &&& BitVec.ofInt 64 15).toNat = n % 16 := by
    rw [BitVec.toNat_and, BitVec.ofInt_natCast, BitVec.toNat_ofNat, Nat.mod_eq_of_lt (by omega : n < 2 ^ 64), show (BitVec.ofInt 64 15).toNat = 2 ^ 4 - 1 from rfl, Nat.and_two_pow_sub_one_eq_mod]
  show IntKind.u64.wrap ((BitVec.ofInt 64 (n : Int) &&& BitVec.ofInt 64 15).toNat : Int) = _
  rw [e]
  exact IntWalk.u64_in _ (by omega)
theorem u64_sh4 (n : Nat) : ((n : Nat) : Int).fdiv (2 ^ min 4 IntKind.u64.bits) = ((n / 16 : Nat) : Int) := by
  rw [show (2 : Int) ^ min 4 IntKind.u64.bits = 16 by decide, Int.fdiv_eq_ediv_of_nonneg _ (by decide)]
  omega
theorem hexZ_get : ∀ {n : Nat}, n < 16 → (48 :: 49 :: 50 :: 51 :: 52 :: 53 :: 54 :: 55 :: 56 :: 57 :: 97 :: 98 :: 99 :: 100 :: 101 :: 102 :: 103 :: 104 :: 105 :: 106 :: 107 :: 108 :: 109 :: 110 :: 111 :: 112 :: 113 :: 114 :: 115 :: 116 :: 117 :: 118 :: 119 :: 120 :: 121 :: 122 :: [] : Bs)[n]? = some (hexD n) := by
  intro n h
  have : ∀ n < 16, (48 :: 49 :: 50 :: 51 :: 52 :: 53 :: 54 :: 55 :: 56 :: 57 :: 97 :: 98 :: 99 :: 100 :: 101 :: 102 :: 103 :: 104 :: 105 :: 106 :: 107 :: 108 :: 109 :: 110 :: 111 :: 112 :: 113 :: 114 :: 115 :: 116 :: 117 :: 118 :: 119 :: 120 :: 121 :: 122 :: [] : Bs)[n]? = some (hexD n) := by decide
  exact this n h
theorem Y209_T17 : type_of% (AI @F_al_281 (AI @F_al_5 (AI @F_ar_281 (AI @F_by_5 (AI @F_el_69 (AI @F_in_145 (AI @F_in_146 (AI @F_in_3 (AI @F_in_69 (AI @F_in_9 (AI @F_sz_5 (AI @F_un_145 (AI @F_un_146 (AI @F_un_3 (AI @F_un_5 (AI @F_un_69 (@F_un_9))))))))))))))))) := AI @F_al_281 (AI @F_al_5 (AI @F_ar_281 (AI @F_by_5 (AI @F_el_69 (AI @F_in_145 (AI @F_in_146 (AI @F_in_3 (AI @F_in_69 (AI @F_in_9 (AI @F_sz_5 (AI @F_un_145 (AI @F_un_146 (AI @F_un_3 (AI @F_un_5 (AI @F_un_69 (@F_un_9))))))))))))))))
set_option maxHeartbeats 2000000 in
theorem c_fmtB0 (n : Nat) (hn : n < 4294967296) (b4 : Bool) (hb4 : b4 = false) : PC Tryz.prog 209 [.sl [] .nl, .im (.int .u64 ((n : Int))), (.im (.int .i64 (16))), (.im (.bool (false))), (.im (.bool (b4)))] (.tu [.sl [] .nl, .im (.string ⟨(hexS n).toArray⟩)]) := by
  have qp := c_pow2
  have qz := c_tz
  have k16 : IntKind.u64.wrap 16 = 16 := by kernel_rfl
  have k4 : IntKind.u64.wrap 4 = 4 := by kernel_rfl
  have k15 : IntKind.u64.wrap 15 = 15 := by kernel_rfl
  have k36 : ¬ (16 : Int) > 36 := by decide
  refine PC.enter 102 Tryz.func209 rfl (by decide) rfl rfl (s := [(0, .sl [] .nl), (1, .im (.int .u64 ((n : Int)))), (2, (.im (.int .i64 (16)))), (3, (.im (.bool (false)))), (4, (.im (.bool (b4))))]) (by rfl) ?_
  refine wG Y209_T17 k36 ?_
  refine AR.callP qp True.intro byL_id ?_
  refine goG Y209_T17 True.intro ?_
  refine wG Y209_T17 k16 ?_
  refine AR.callP qz True.intro byL_id ?_
  refine goG Y209_T17 True.intro ?_
  refine wG Y209_T17 (AI k16 (AI k4 k15)) ?_
  refine AWp.loop ?_
  suffices H : ∀ (k m : Nat) (Z A : Bs), m = k → m < 16 ^ Z.length → m < 18446744073709551616 → 1 ≤ Z.length → Z.length + A.length = 65 → hexS n = hexS m ++ A → ALp _ _ _ _ _ ⟨dn 102 [(1, .im (.int .u64 (((m : Nat) : Int)))), (3, (.im (.bool (false)))), (4, (.im (.bool (b4)))), (10, .sl [] .nl), (11, .im (.string ⟨([]).toArray⟩)), (12, .pt 0 0), (13, (.im (.int .i64 ((Z.length : Int))))), (14, .im (.int .u64 (4))), (15, .im (.int .u64 (16))), (16, .im (.int .u64 (15)))], ofl [.box ((Z ++ A).map byB)]⟩ by
    refine ALp.cutP 1 [(1, .im (.int .u64 ((n : Int)))), (3, (.im (.bool (false)))), (4, (.im (.bool (b4)))), (10, .sl [] .nl), (11, .im (.string ⟨([]).toArray⟩)), (12, .pt 0 0), (13, (.im (.int .i64 (((List.replicate 65 (0 : UInt8)).length : Int))))), (14, .im (.int .u64 (4))), (15, .im (.int .u64 (16))), (16, .im (.int .u64 (15)))] [.box (((List.replicate 65 (0 : UInt8)) ++ []).map byB)] byL_id ?_; exact H n n (List.replicate 65 (0 : UInt8)) [] rfl (by rw [List.length_replicate]; exact Nat.lt_of_lt_of_le hn (by decide)) (by omega) (by decide) rfl (by simp)
  intro k
  induction k using Nat.strongRecOn with
  | _ k ih =>
  intro m Z A hk hm hm64 hZ hZA hx
  obtain ⟨Z', z, rfl⟩ : ∃ Z' z, Z = Z' ++ [z] := ⟨Z.dropLast, Z.getLast (fun e => by rw [e] at hZ; cases hZ), (List.dropLast_concat_getLast _).symm⟩
  rw [List.length_append, List.length_singleton] at hm hZ hZA ⊢
  have hw1 : IntKind.i64.wrap (((Z'.length + 1 : Nat) : Int) - 1) = (Z'.length : Int) := by rw [wrap_in (by omega)]; omega
  have hlt : (Z'.length : Int) < 65 := by omega
  have hle : Z'.length ≤ 64 := by omega
  have hle3 : Z'.length + 1 ≤ Z'.length + 1 + A.length := by omega
  have hseg : ∀ c : UInt8, List.take Z'.length (List.map byB (Z' ++ [z] ++ A)) ++ [V.im (.int .u8 c.toNat)] ++ List.drop (Z'.length + 1) (List.map byB (Z' ++ [z] ++ A)) = List.map byB (Z' ++ c :: A) := fun c => by
    rw [← List.map_take, ← List.map_drop]; simp [byB]
  have hlen : (List.map byB (Z' ++ [z] ++ A)).length = 65 := by simp; omega
  refine ALp.round ?_
  by_cases h16 : m < 16
  · have e1 : ¬ (m : Int) ≥ 16 := by omega
    have hg := hexZ_get h16; rw [hexS_lt h16] at hx; clear ih; refine wG Y209_T17 (AI BY (AI GDS (AI e1 (AI hw1 (AI hg (AI hlen (AI hlt (AI hle (AI hle3 (AI (@Nat.mul_one) hseg)))))))))) ?_; refine AWp.frz 0 [(10, .sl [] .nl), (12, .ep (.ag ((Z' ++ hexD m :: A).map byB)) 0), (13, (.im (.int .i64 ((Z'.length : Int))))), (94, (.im (.bool (b4))))] [] ?_ (by simp) (by repeat (first | exact WkFA.nil | refine WkFA.cons (by first | exact .of (Wk.refl _) (by first | rfl | simp only [List.length_cons, List.length_nil, Nat.reduceAdd, V.ids, V.idsL, idsA, entOk, List.all_cons, List.all_nil, Bool.and_self, Bool.and_true, Bool.true_and, ltB, noId, Nat.reduceLT, decide_true, Bool.true_eq_false, tyV_id, fdV_id, tyL_id, fdL_id, byL_id]) | exact WkF.ep0 rfl rfl (byL_id _ _)) ?_)) (by repeat (first | exact WkFE.nil | refine WkFE.box (by repeat (first | exact WkFL.nil | refine WkFL.cons (by first | exact .of (Wk.refl _) (by first | rfl | simp only [List.length_cons, List.length_nil, Nat.reduceAdd, V.ids, V.idsL, idsA, entOk, List.all_cons, List.all_nil, Bool.and_self, Bool.and_true, Bool.true_and, ltB, noId, Nat.reduceLT, decide_true, Bool.true_eq_false, tyV_id, fdV_id, tyL_id, fdL_id, byL_id]) | exact WkF.ep0 rfl rfl (byL_id _ _)) ?_)) ?_ | refine WkFE.same (fun _ e => by cases e) ?_)) (fun i hi => by first | exact absurd rfl hi | exact Nat.lt_of_lt_of_le (ofl_lt hi) (by simp))
    subst hb4; refine AWp.condAF rfl rfl ?_; refine wG Y209_T17 True.intro ?_; refine AR.sliceE (e := 5) (n := 65) (m := Z'.length) (b := Z' ++ hexD m :: A) ?_ (by omega) (by simp; omega) (by decide)
    rw [List.drop_left, hx, List.singleton_append]; generalize hexD m :: A = B; have hb := bytesOf_map B; refine goG Y209_T17 hb ?_; refine wG Y209_T17 hb ?_; refine Fin.gen0 (rs := [.tmp 10, .tmp 11]) rfl (by first | exact .inl rfl | exact .inr rfl) (finG Y209_T17) ?_
    all_goals exact wkG byL_id
  · have e1 : (m : Int) ≥ 16 := by omega
    have hg := hexZ_get (show m % 16 < 16 by omega)
    have h15 := u64_15 m hm64; have hs4 := u64_sh4 m; rw [hexS_ge h16, List.append_assoc] at hx
    have hI := ih (m / 16) (by omega) (m / 16) Z' (hexD (m % 16) :: A) rfl (by rw [Nat.pow_succ] at hm; omega) (by omega) (by
      rcases Nat.eq_zero_or_pos Z'.length with h0 | h0
      · rw [h0] at hm; omega
      · exact h0) (by rw [List.length_cons]; omega) hx
    clear ih; refine wdG Y209_T17 (AI BY (AI GDS (AI e1 (AI hw1 (AI hg (AI h15 (AI hs4 (AI hlen (AI hlt (AI hle (AI hle3 (AI (@Nat.mul_one) hseg)))))))))))) ?_; refine ALp.cutP 1 [(1, .im (.int .u64 (((m / 16 : Nat) : Int)))), (3, (.im (.bool (false)))), (4, (.im (.bool (b4)))), (10, .sl [] .nl), (11, .im (.string ⟨([]).toArray⟩)), (12, .pt 0 0), (13, (.im (.int .i64 ((Z'.length : Int))))), (14, .im (.int .u64 (4))), (15, .im (.int .u64 (16))), (16, .im (.int .u64 (15)))] [.box ((Z' ++ hexD (m % 16) :: A).map byB)] byL_id ?_; exact hI
theorem c_fmtB (n : Nat) (hn : n < 4294967296) : PC Tryz.prog 209 [.sl [] .nl, .im (.int .u64 ((n : Int))), (.im (.int .i64 (16))), (.im (.bool (false))), (.im (.bool (false)))] (.tu [.sl [] .nl, .im (.string ⟨(hexS n).toArray⟩)]) := c_fmtB0 n hn false rfl
theorem Y152_T17 : type_of% (AI @F_al_254 (AI @F_el_69 (AI @F_in_145 (AI @F_in_3 (AI @F_in_69 (AI @F_in_9 (AI @F_un_145 (AI @F_un_3 (AI @F_un_5 (AI @F_un_69 (@F_un_9))))))))))) := AI @F_al_254 (AI @F_el_69 (AI @F_in_145 (AI @F_in_3 (AI @F_in_69 (AI @F_in_9 (AI @F_un_145 (AI @F_un_3 (AI @F_un_5 (AI @F_un_69 (@F_un_9))))))))))
theorem c_fmtU (n : Nat) (hn : n < 4294967296) : PC Tryz.prog 152 [.im (.int .u64 ((n : Int))), (.im (.int .i64 (16)))] (.im (.string ⟨(hexS n).toArray⟩)) := by
  have q := c_fmtB n hn
  refine PC.enter 32 Tryz.func152 rfl (by decide) rfl rfl (s := [(0, .im (.int .u64 ((n : Int)))), (1, (.im (.int .i64 (16))))]) (by rfl) ?_
  refine wG Y152_T17 True.intro ?_
  refine AR.callP q True.intro byL_id ?_
  refine goG Y152_T17 True.intro ?_
  refine wG Y152_T17 True.intro ?_
  exact Fin.oneP
theorem c_fmt (n : Nat) (hn : n < 4294967296) : PC Tryz.prog 85 [.im (.int .u64 ((n : Int))), (.im (.int .i64 (16)))] (.im (.string ⟨(hexS n).toArray⟩)) := by
  have q := c_fmtU n hn
  refine PC.enter 8 Tryz.func85 rfl (by decide) rfl rfl (s := [(0, .im (.int .u64 ((n : Int)))), (1, (.im (.int .i64 (16))))]) (by rfl) ?_
  refine wG True.intro True.intro ?_
  refine AR.callP q True.intro byL_id ?_
  refine goG True.intro True.intro ?_
  refine wG True.intro True.intro ?_
  exact Fin.oneP
theorem sL_id (p : Nat → Bool) (l : List Bs) : V.idsL p (l.map sV) = true := idsL_map (fun _ => rfl) l
theorem c_jn (l : List Bs) (r : Bs) (hr : l.flatten = r) (hN : l.length ≤ 4194304) (hlen : r.length ≤ 140737488355328) : PC Tryz.prog 83 [.sl (l.map sV) .ro] (.im (.string ⟨(r).toArray⟩)) := by
  have q := c_joinE l (by omega) (by rw [hr]; exact hlen)
  rw [hr] at q
  refine PC.enter 5 Tryz.func83 rfl (by decide) rfl rfl (s := [(0, .sl (l.map sV) .ro)]) (by rfl) ?_
  refine wG True.intro True.intro ?_
  refine AR.callP q True.intro (AI byL_id (AI (@exL_id) (AI (@exV_id) sL_id))) ?_
  refine goG True.intro True.intro ?_
  refine wG True.intro True.intro ?_
  exact Fin.oneP
theorem c_j2 (a b r : Bs) (hr : a ++ b = r) (hlen : r.length ≤ 140737488355328) : PC Tryz.prog 83 [.sl [.im (.string ⟨(a).toArray⟩), .im (.string ⟨(b).toArray⟩)] .ro] (.im (.string ⟨(r).toArray⟩)) := c_jn [a, b] r (by simpa using hr) (by simp) hlen
theorem c_j3 (a b c r : Bs) (hr : a ++ (b ++ c) = r) (hlen : r.length ≤ 140737488355328) : PC Tryz.prog 83 [.sl [.im (.string ⟨(a).toArray⟩), .im (.string ⟨(b).toArray⟩), .im (.string ⟨(c).toArray⟩)] .ro] (.im (.string ⟨(r).toArray⟩)) := c_jn [a, b, c] r (by simpa using hr) (by simp) hlen
theorem c_j5 (a b c d e r : Bs) (hr : a ++ (b ++ (c ++ (d ++ e))) = r) (hlen : r.length ≤ 140737488355328) : PC Tryz.prog 83 [.sl [.im (.string ⟨(a).toArray⟩), .im (.string ⟨(b).toArray⟩), .im (.string ⟨(c).toArray⟩), .im (.string ⟨(d).toArray⟩), .im (.string ⟨(e).toArray⟩)] .ro] (.im (.string ⟨(r).toArray⟩)) := c_jn [a, b, c, d, e] r (by simpa using hr) (by simp) hlen
theorem Y37_E1 : type_of% (AI @F_al_9 (AI @F_el_84 (AI @F_in_145 (AI @F_in_43 (AI @F_sz_9 (AI @F_un_145 (@F_un_43))))))) := AI @F_al_9 (AI @F_el_84 (AI @F_in_145 (AI @F_in_43 (AI @F_sz_9 (AI @F_un_145 (@F_un_43))))))
theorem c_address (n : Nat) (hn : n < 4294967296) : PC Tryz.prog 37 [.im (.int .u32 ((n : Int)))] (.im (.string ⟨(48 :: 120 :: hexS n).toArray⟩)) := by
  have hl : (48 :: 120 :: hexS n).length ≤ 140737488355328 := by
    have := hexG_len 7 (n + 1) n (by omega) (by omega)
    unfold hexS; simp only [List.length_cons]; omega
  have q1 := c_fmt n hn
  have q2 := c_j2 [48, 120] (hexS n) _ rfl hl
  have hw : IntKind.u64.wrap (n : Int) = n := IntWalk.u64_in _ (by omega)
  refine PC.enter 8 Tryz.func37 rfl (by decide) rfl rfl (s := [(0, .im (.int .u32 ((n : Int))))]) (by rfl) ?_
  refine wG Y37_E1 hw ?_
  refine AR.callP q1 True.intro (AI byL_id (AI (@exL_id) (AI (@exV_id) sL_id))) ?_
  refine goG Y37_E1 True.intro ?_
  refine wG Y37_E1 True.intro ?_
  refine AR.callW q2 True.intro (AI byL_id (AI (@exL_id) (AI (@exV_id) sL_id))) ?_
  refine goG Y37_E1 True.intro ?_
  refine wG Y37_E1 True.intro ?_
  exact Fin.oneP
theorem Y143_E1 : type_of% (AI @F_ag_198 (AI @F_al_198 (AI @F_al_244 (AI @F_ar_244 (AI @F_st_198 (AI @F_sz_198 (@F_sz_244))))))) := AI @F_ag_198 (AI @F_al_198 (AI @F_al_244 (AI @F_ar_244 (AI @F_st_198 (AI @F_sz_198 (@F_sz_244))))))
theorem s93 : stOf Tryz.prog 244 = none := by kernel_rfl
theorem c_binary3 : PC Tryz.prog 143 [(.im (.int .i64 (3)))] (.ag [.im (.string ⟨([43]).toArray⟩), (.im (.int .i64 (7)))]) := by
  have hw : IntKind.i64.wrap 0 = 0 := by kernel_rfl
  refine PC.enter 22 Tryz.func143 rfl (by decide) rfl rfl (s := [(0, (.im (.int .i64 (3))))]) (by rfl) ?_
  refine wG Y143_E1 s93 ?_
  refine AR.buildA (n := 13) (e := 198) (z := 2) (cs := (List.replicate 13 [.im (.string ByteArray.empty), (.im (.int .i64 (0)))]).flatten) (cs' := [.im (.string ⟨([43]).toArray⟩), (.im (.int .i64 (7))), .im (.string ⟨([45]).toArray⟩), (.im (.int .i64 (7))), .im (.string ⟨([42]).toArray⟩), (.im (.int .i64 (8))), .im (.string ⟨([38]).toArray⟩), (.im (.int .i64 (3))), .im (.string ⟨([124]).toArray⟩), (.im (.int .i64 (1))), .im (.string ⟨([94]).toArray⟩), (.im (.int .i64 (2))), .im (.string ⟨([60, 60]).toArray⟩), (.im (.int .i64 (6))), .im (.string ⟨([62, 62]).toArray⟩), (.im (.int .i64 (6))), .im (.string ⟨([62, 62, 115]).toArray⟩), (.im (.int .i64 (6))), .im (.string ⟨([61, 61]).toArray⟩), (.im (.int .i64 (4))), .im (.string ⟨([33, 61]).toArray⟩), (.im (.int .i64 (4))), .im (.string ⟨([60, 115]).toArray⟩), (.im (.int .i64 (5))), .im (.string ⟨([60]).toArray⟩), (.im (.int .i64 (5)))]) ?_
  refine goG Y143_E1 True.intro ?_
  refine wG Y143_E1 hw ?_
  refine Fin.gen0 (rs := [.cell 2 198]) rfl (by first | exact .inl rfl | exact .inr rfl) (finG Y143_E1) ?_
  all_goals exact wkG (AI byL_id (AI (@exL_id) (AI (@exV_id) sL_id)))
theorem c_binary4 : PC Tryz.prog 143 [(.im (.int .i64 (4)))] (.ag [.im (.string ⟨([45]).toArray⟩), (.im (.int .i64 (7)))]) := by
  have hw : IntKind.i64.wrap 1 = 1 := by kernel_rfl
  refine PC.enter 22 Tryz.func143 rfl (by decide) rfl rfl (s := [(0, (.im (.int .i64 (4))))]) (by rfl) ?_
  refine wG Y143_E1 s93 ?_
  refine AR.buildA (n := 13) (e := 198) (z := 2) (cs := (List.replicate 13 [.im (.string ByteArray.empty), (.im (.int .i64 (0)))]).flatten) (cs' := [.im (.string ⟨([43]).toArray⟩), (.im (.int .i64 (7))), .im (.string ⟨([45]).toArray⟩), (.im (.int .i64 (7))), .im (.string ⟨([42]).toArray⟩), (.im (.int .i64 (8))), .im (.string ⟨([38]).toArray⟩), (.im (.int .i64 (3))), .im (.string ⟨([124]).toArray⟩), (.im (.int .i64 (1))), .im (.string ⟨([94]).toArray⟩), (.im (.int .i64 (2))), .im (.string ⟨([60, 60]).toArray⟩), (.im (.int .i64 (6))), .im (.string ⟨([62, 62]).toArray⟩), (.im (.int .i64 (6))), .im (.string ⟨([62, 62, 115]).toArray⟩), (.im (.int .i64 (6))), .im (.string ⟨([61, 61]).toArray⟩), (.im (.int .i64 (4))), .im (.string ⟨([33, 61]).toArray⟩), (.im (.int .i64 (4))), .im (.string ⟨([60, 115]).toArray⟩), (.im (.int .i64 (5))), .im (.string ⟨([60]).toArray⟩), (.im (.int .i64 (5)))]) ?_
  refine goG Y143_E1 True.intro ?_
  refine wG Y143_E1 hw ?_
  refine Fin.gen0 (rs := [.cell 2 198]) rfl (by first | exact .inl rfl | exact .inr rfl) (finG Y143_E1) ?_
  all_goals exact wkG (AI byL_id (AI (@exL_id) (AI (@exV_id) sL_id)))
theorem c_binary5 : PC Tryz.prog 143 [(.im (.int .i64 (5)))] (.ag [.im (.string ⟨([42]).toArray⟩), (.im (.int .i64 (8)))]) := by
  have hw : IntKind.i64.wrap 2 = 2 := by kernel_rfl
  refine PC.enter 22 Tryz.func143 rfl (by decide) rfl rfl (s := [(0, (.im (.int .i64 (5))))]) (by rfl) ?_
  refine wG Y143_E1 s93 ?_
  refine AR.buildA (n := 13) (e := 198) (z := 2) (cs := (List.replicate 13 [.im (.string ByteArray.empty), (.im (.int .i64 (0)))]).flatten) (cs' := [.im (.string ⟨([43]).toArray⟩), (.im (.int .i64 (7))), .im (.string ⟨([45]).toArray⟩), (.im (.int .i64 (7))), .im (.string ⟨([42]).toArray⟩), (.im (.int .i64 (8))), .im (.string ⟨([38]).toArray⟩), (.im (.int .i64 (3))), .im (.string ⟨([124]).toArray⟩), (.im (.int .i64 (1))), .im (.string ⟨([94]).toArray⟩), (.im (.int .i64 (2))), .im (.string ⟨([60, 60]).toArray⟩), (.im (.int .i64 (6))), .im (.string ⟨([62, 62]).toArray⟩), (.im (.int .i64 (6))), .im (.string ⟨([62, 62, 115]).toArray⟩), (.im (.int .i64 (6))), .im (.string ⟨([61, 61]).toArray⟩), (.im (.int .i64 (4))), .im (.string ⟨([33, 61]).toArray⟩), (.im (.int .i64 (4))), .im (.string ⟨([60, 115]).toArray⟩), (.im (.int .i64 (5))), .im (.string ⟨([60]).toArray⟩), (.im (.int .i64 (5)))]) ?_
  refine goG Y143_E1 True.intro ?_
  refine wG Y143_E1 hw ?_
  refine Fin.gen0 (rs := [.cell 2 198]) rfl (by first | exact .inl rfl | exact .inr rfl) (finG Y143_E1) ?_
  all_goals exact wkG (AI byL_id (AI (@exL_id) (AI (@exV_id) sL_id)))
theorem c_binary6 : PC Tryz.prog 143 [(.im (.int .i64 (6)))] (.ag [.im (.string ⟨([38]).toArray⟩), (.im (.int .i64 (3)))]) := by
  have hw : IntKind.i64.wrap 3 = 3 := by kernel_rfl
  refine PC.enter 22 Tryz.func143 rfl (by decide) rfl rfl (s := [(0, (.im (.int .i64 (6))))]) (by rfl) ?_
  refine wG Y143_E1 s93 ?_
  refine AR.buildA (n := 13) (e := 198) (z := 2) (cs := (List.replicate 13 [.im (.string ByteArray.empty), (.im (.int .i64 (0)))]).flatten) (cs' := [.im (.string ⟨([43]).toArray⟩), (.im (.int .i64 (7))), .im (.string ⟨([45]).toArray⟩), (.im (.int .i64 (7))), .im (.string ⟨([42]).toArray⟩), (.im (.int .i64 (8))), .im (.string ⟨([38]).toArray⟩), (.im (.int .i64 (3))), .im (.string ⟨([124]).toArray⟩), (.im (.int .i64 (1))), .im (.string ⟨([94]).toArray⟩), (.im (.int .i64 (2))), .im (.string ⟨([60, 60]).toArray⟩), (.im (.int .i64 (6))), .im (.string ⟨([62, 62]).toArray⟩), (.im (.int .i64 (6))), .im (.string ⟨([62, 62, 115]).toArray⟩), (.im (.int .i64 (6))), .im (.string ⟨([61, 61]).toArray⟩), (.im (.int .i64 (4))), .im (.string ⟨([33, 61]).toArray⟩), (.im (.int .i64 (4))), .im (.string ⟨([60, 115]).toArray⟩), (.im (.int .i64 (5))), .im (.string ⟨([60]).toArray⟩), (.im (.int .i64 (5)))]) ?_
  refine goG Y143_E1 True.intro ?_
  refine wG Y143_E1 hw ?_
  refine Fin.gen0 (rs := [.cell 2 198]) rfl (by first | exact .inl rfl | exact .inr rfl) (finG Y143_E1) ?_
  all_goals exact wkG (AI byL_id (AI (@exL_id) (AI (@exV_id) sL_id)))
theorem c_binary7 : PC Tryz.prog 143 [(.im (.int .i64 (7)))] (.ag [.im (.string ⟨([124]).toArray⟩), (.im (.int .i64 (1)))]) := by
  have hw : IntKind.i64.wrap 4 = 4 := by kernel_rfl
  refine PC.enter 22 Tryz.func143 rfl (by decide) rfl rfl (s := [(0, (.im (.int .i64 (7))))]) (by rfl) ?_
  refine wG Y143_E1 s93 ?_
  refine AR.buildA (n := 13) (e := 198) (z := 2) (cs := (List.replicate 13 [.im (.string ByteArray.empty), (.im (.int .i64 (0)))]).flatten) (cs' := [.im (.string ⟨([43]).toArray⟩), (.im (.int .i64 (7))), .im (.string ⟨([45]).toArray⟩), (.im (.int .i64 (7))), .im (.string ⟨([42]).toArray⟩), (.im (.int .i64 (8))), .im (.string ⟨([38]).toArray⟩), (.im (.int .i64 (3))), .im (.string ⟨([124]).toArray⟩), (.im (.int .i64 (1))), .im (.string ⟨([94]).toArray⟩), (.im (.int .i64 (2))), .im (.string ⟨([60, 60]).toArray⟩), (.im (.int .i64 (6))), .im (.string ⟨([62, 62]).toArray⟩), (.im (.int .i64 (6))), .im (.string ⟨([62, 62, 115]).toArray⟩), (.im (.int .i64 (6))), .im (.string ⟨([61, 61]).toArray⟩), (.im (.int .i64 (4))), .im (.string ⟨([33, 61]).toArray⟩), (.im (.int .i64 (4))), .im (.string ⟨([60, 115]).toArray⟩), (.im (.int .i64 (5))), .im (.string ⟨([60]).toArray⟩), (.im (.int .i64 (5)))]) ?_
  refine goG Y143_E1 True.intro ?_
  refine wG Y143_E1 hw ?_
  refine Fin.gen0 (rs := [.cell 2 198]) rfl (by first | exact .inl rfl | exact .inr rfl) (finG Y143_E1) ?_
  all_goals exact wkG (AI byL_id (AI (@exL_id) (AI (@exV_id) sL_id)))
theorem c_binary8 : PC Tryz.prog 143 [(.im (.int .i64 (8)))] (.ag [.im (.string ⟨([94]).toArray⟩), (.im (.int .i64 (2)))]) := by
  have hw : IntKind.i64.wrap 5 = 5 := by kernel_rfl
  refine PC.enter 22 Tryz.func143 rfl (by decide) rfl rfl (s := [(0, (.im (.int .i64 (8))))]) (by rfl) ?_
  refine wG Y143_E1 s93 ?_
  refine AR.buildA (n := 13) (e := 198) (z := 2) (cs := (List.replicate 13 [.im (.string ByteArray.empty), (.im (.int .i64 (0)))]).flatten) (cs' := [.im (.string ⟨([43]).toArray⟩), (.im (.int .i64 (7))), .im (.string ⟨([45]).toArray⟩), (.im (.int .i64 (7))), .im (.string ⟨([42]).toArray⟩), (.im (.int .i64 (8))), .im (.string ⟨([38]).toArray⟩), (.im (.int .i64 (3))), .im (.string ⟨([124]).toArray⟩), (.im (.int .i64 (1))), .im (.string ⟨([94]).toArray⟩), (.im (.int .i64 (2))), .im (.string ⟨([60, 60]).toArray⟩), (.im (.int .i64 (6))), .im (.string ⟨([62, 62]).toArray⟩), (.im (.int .i64 (6))), .im (.string ⟨([62, 62, 115]).toArray⟩), (.im (.int .i64 (6))), .im (.string ⟨([61, 61]).toArray⟩), (.im (.int .i64 (4))), .im (.string ⟨([33, 61]).toArray⟩), (.im (.int .i64 (4))), .im (.string ⟨([60, 115]).toArray⟩), (.im (.int .i64 (5))), .im (.string ⟨([60]).toArray⟩), (.im (.int .i64 (5)))]) ?_
  refine goG Y143_E1 True.intro ?_
  refine wG Y143_E1 hw ?_
  refine Fin.gen0 (rs := [.cell 2 198]) rfl (by first | exact .inl rfl | exact .inr rfl) (finG Y143_E1) ?_
  all_goals exact wkG (AI byL_id (AI (@exL_id) (AI (@exV_id) sL_id)))
theorem c_binary9 : PC Tryz.prog 143 [(.im (.int .i64 (9)))] (.ag [.im (.string ⟨([60, 60]).toArray⟩), (.im (.int .i64 (6)))]) := by
  have hw : IntKind.i64.wrap 6 = 6 := by kernel_rfl
  refine PC.enter 22 Tryz.func143 rfl (by decide) rfl rfl (s := [(0, (.im (.int .i64 (9))))]) (by rfl) ?_
  refine wG Y143_E1 s93 ?_
  refine AR.buildA (n := 13) (e := 198) (z := 2) (cs := (List.replicate 13 [.im (.string ByteArray.empty), (.im (.int .i64 (0)))]).flatten) (cs' := [.im (.string ⟨([43]).toArray⟩), (.im (.int .i64 (7))), .im (.string ⟨([45]).toArray⟩), (.im (.int .i64 (7))), .im (.string ⟨([42]).toArray⟩), (.im (.int .i64 (8))), .im (.string ⟨([38]).toArray⟩), (.im (.int .i64 (3))), .im (.string ⟨([124]).toArray⟩), (.im (.int .i64 (1))), .im (.string ⟨([94]).toArray⟩), (.im (.int .i64 (2))), .im (.string ⟨([60, 60]).toArray⟩), (.im (.int .i64 (6))), .im (.string ⟨([62, 62]).toArray⟩), (.im (.int .i64 (6))), .im (.string ⟨([62, 62, 115]).toArray⟩), (.im (.int .i64 (6))), .im (.string ⟨([61, 61]).toArray⟩), (.im (.int .i64 (4))), .im (.string ⟨([33, 61]).toArray⟩), (.im (.int .i64 (4))), .im (.string ⟨([60, 115]).toArray⟩), (.im (.int .i64 (5))), .im (.string ⟨([60]).toArray⟩), (.im (.int .i64 (5)))]) ?_
  refine goG Y143_E1 True.intro ?_
  refine wG Y143_E1 hw ?_
  refine Fin.gen0 (rs := [.cell 2 198]) rfl (by first | exact .inl rfl | exact .inr rfl) (finG Y143_E1) ?_
  all_goals exact wkG (AI byL_id (AI (@exL_id) (AI (@exV_id) sL_id)))
theorem c_binary10 : PC Tryz.prog 143 [(.im (.int .i64 (10)))] (.ag [.im (.string ⟨([62, 62]).toArray⟩), (.im (.int .i64 (6)))]) := by
  have hw : IntKind.i64.wrap 7 = 7 := by kernel_rfl
  refine PC.enter 22 Tryz.func143 rfl (by decide) rfl rfl (s := [(0, (.im (.int .i64 (10))))]) (by rfl) ?_
  refine wG Y143_E1 s93 ?_
  refine AR.buildA (n := 13) (e := 198) (z := 2) (cs := (List.replicate 13 [.im (.string ByteArray.empty), (.im (.int .i64 (0)))]).flatten) (cs' := [.im (.string ⟨([43]).toArray⟩), (.im (.int .i64 (7))), .im (.string ⟨([45]).toArray⟩), (.im (.int .i64 (7))), .im (.string ⟨([42]).toArray⟩), (.im (.int .i64 (8))), .im (.string ⟨([38]).toArray⟩), (.im (.int .i64 (3))), .im (.string ⟨([124]).toArray⟩), (.im (.int .i64 (1))), .im (.string ⟨([94]).toArray⟩), (.im (.int .i64 (2))), .im (.string ⟨([60, 60]).toArray⟩), (.im (.int .i64 (6))), .im (.string ⟨([62, 62]).toArray⟩), (.im (.int .i64 (6))), .im (.string ⟨([62, 62, 115]).toArray⟩), (.im (.int .i64 (6))), .im (.string ⟨([61, 61]).toArray⟩), (.im (.int .i64 (4))), .im (.string ⟨([33, 61]).toArray⟩), (.im (.int .i64 (4))), .im (.string ⟨([60, 115]).toArray⟩), (.im (.int .i64 (5))), .im (.string ⟨([60]).toArray⟩), (.im (.int .i64 (5)))]) ?_
  refine goG Y143_E1 True.intro ?_
  refine wG Y143_E1 hw ?_
  refine Fin.gen0 (rs := [.cell 2 198]) rfl (by first | exact .inl rfl | exact .inr rfl) (finG Y143_E1) ?_
  all_goals exact wkG (AI byL_id (AI (@exL_id) (AI (@exV_id) sL_id)))
theorem c_binary11 : PC Tryz.prog 143 [(.im (.int .i64 (11)))] (.ag [.im (.string ⟨([62, 62, 115]).toArray⟩), (.im (.int .i64 (6)))]) := by
  have hw : IntKind.i64.wrap 8 = 8 := by kernel_rfl
  refine PC.enter 22 Tryz.func143 rfl (by decide) rfl rfl (s := [(0, (.im (.int .i64 (11))))]) (by rfl) ?_
  refine wG Y143_E1 s93 ?_
  refine AR.buildA (n := 13) (e := 198) (z := 2) (cs := (List.replicate 13 [.im (.string ByteArray.empty), (.im (.int .i64 (0)))]).flatten) (cs' := [.im (.string ⟨([43]).toArray⟩), (.im (.int .i64 (7))), .im (.string ⟨([45]).toArray⟩), (.im (.int .i64 (7))), .im (.string ⟨([42]).toArray⟩), (.im (.int .i64 (8))), .im (.string ⟨([38]).toArray⟩), (.im (.int .i64 (3))), .im (.string ⟨([124]).toArray⟩), (.im (.int .i64 (1))), .im (.string ⟨([94]).toArray⟩), (.im (.int .i64 (2))), .im (.string ⟨([60, 60]).toArray⟩), (.im (.int .i64 (6))), .im (.string ⟨([62, 62]).toArray⟩), (.im (.int .i64 (6))), .im (.string ⟨([62, 62, 115]).toArray⟩), (.im (.int .i64 (6))), .im (.string ⟨([61, 61]).toArray⟩), (.im (.int .i64 (4))), .im (.string ⟨([33, 61]).toArray⟩), (.im (.int .i64 (4))), .im (.string ⟨([60, 115]).toArray⟩), (.im (.int .i64 (5))), .im (.string ⟨([60]).toArray⟩), (.im (.int .i64 (5)))]) ?_
  refine goG Y143_E1 True.intro ?_
  refine wG Y143_E1 hw ?_
  refine Fin.gen0 (rs := [.cell 2 198]) rfl (by first | exact .inl rfl | exact .inr rfl) (finG Y143_E1) ?_
  all_goals exact wkG (AI byL_id (AI (@exL_id) (AI (@exV_id) sL_id)))
theorem c_binary12 : PC Tryz.prog 143 [(.im (.int .i64 (12)))] (.ag [.im (.string ⟨([61, 61]).toArray⟩), (.im (.int .i64 (4)))]) := by
  have hw : IntKind.i64.wrap 9 = 9 := by kernel_rfl
  refine PC.enter 22 Tryz.func143 rfl (by decide) rfl rfl (s := [(0, (.im (.int .i64 (12))))]) (by rfl) ?_
  refine wG Y143_E1 s93 ?_
  refine AR.buildA (n := 13) (e := 198) (z := 2) (cs := (List.replicate 13 [.im (.string ByteArray.empty), (.im (.int .i64 (0)))]).flatten) (cs' := [.im (.string ⟨([43]).toArray⟩), (.im (.int .i64 (7))), .im (.string ⟨([45]).toArray⟩), (.im (.int .i64 (7))), .im (.string ⟨([42]).toArray⟩), (.im (.int .i64 (8))), .im (.string ⟨([38]).toArray⟩), (.im (.int .i64 (3))), .im (.string ⟨([124]).toArray⟩), (.im (.int .i64 (1))), .im (.string ⟨([94]).toArray⟩), (.im (.int .i64 (2))), .im (.string ⟨([60, 60]).toArray⟩), (.im (.int .i64 (6))), .im (.string ⟨([62, 62]).toArray⟩), (.im (.int .i64 (6))), .im (.string ⟨([62, 62, 115]).toArray⟩), (.im (.int .i64 (6))), .im (.string ⟨([61, 61]).toArray⟩), (.im (.int .i64 (4))), .im (.string ⟨([33, 61]).toArray⟩), (.im (.int .i64 (4))), .im (.string ⟨([60, 115]).toArray⟩), (.im (.int .i64 (5))), .im (.string ⟨([60]).toArray⟩), (.im (.int .i64 (5)))]) ?_
  refine goG Y143_E1 True.intro ?_
  refine wG Y143_E1 hw ?_
  refine Fin.gen0 (rs := [.cell 2 198]) rfl (by first | exact .inl rfl | exact .inr rfl) (finG Y143_E1) ?_
  all_goals exact wkG (AI byL_id (AI (@exL_id) (AI (@exV_id) sL_id)))
theorem c_binary13 : PC Tryz.prog 143 [(.im (.int .i64 (13)))] (.ag [.im (.string ⟨([33, 61]).toArray⟩), (.im (.int .i64 (4)))]) := by
  have hw : IntKind.i64.wrap 10 = 10 := by kernel_rfl
  refine PC.enter 22 Tryz.func143 rfl (by decide) rfl rfl (s := [(0, (.im (.int .i64 (13))))]) (by rfl) ?_
  refine wG Y143_E1 s93 ?_
  refine AR.buildA (n := 13) (e := 198) (z := 2) (cs := (List.replicate 13 [.im (.string ByteArray.empty), (.im (.int .i64 (0)))]).flatten) (cs' := [.im (.string ⟨([43]).toArray⟩), (.im (.int .i64 (7))), .im (.string ⟨([45]).toArray⟩), (.im (.int .i64 (7))), .im (.string ⟨([42]).toArray⟩), (.im (.int .i64 (8))), .im (.string ⟨([38]).toArray⟩), (.im (.int .i64 (3))), .im (.string ⟨([124]).toArray⟩), (.im (.int .i64 (1))), .im (.string ⟨([94]).toArray⟩), (.im (.int .i64 (2))), .im (.string ⟨([60, 60]).toArray⟩), (.im (.int .i64 (6))), .im (.string ⟨([62, 62]).toArray⟩), (.im (.int .i64 (6))), .im (.string ⟨([62, 62, 115]).toArray⟩), (.im (.int .i64 (6))), .im (.string ⟨([61, 61]).toArray⟩), (.im (.int .i64 (4))), .im (.string ⟨([33, 61]).toArray⟩), (.im (.int .i64 (4))), .im (.string ⟨([60, 115]).toArray⟩), (.im (.int .i64 (5))), .im (.string ⟨([60]).toArray⟩), (.im (.int .i64 (5)))]) ?_
  refine goG Y143_E1 True.intro ?_
  refine wG Y143_E1 hw ?_
  refine Fin.gen0 (rs := [.cell 2 198]) rfl (by first | exact .inl rfl | exact .inr rfl) (finG Y143_E1) ?_
  all_goals exact wkG (AI byL_id (AI (@exL_id) (AI (@exV_id) sL_id)))
theorem c_binary14 : PC Tryz.prog 143 [(.im (.int .i64 (14)))] (.ag [.im (.string ⟨([60, 115]).toArray⟩), (.im (.int .i64 (5)))]) := by
  have hw : IntKind.i64.wrap 11 = 11 := by kernel_rfl
  refine PC.enter 22 Tryz.func143 rfl (by decide) rfl rfl (s := [(0, (.im (.int .i64 (14))))]) (by rfl) ?_
  refine wG Y143_E1 s93 ?_
  refine AR.buildA (n := 13) (e := 198) (z := 2) (cs := (List.replicate 13 [.im (.string ByteArray.empty), (.im (.int .i64 (0)))]).flatten) (cs' := [.im (.string ⟨([43]).toArray⟩), (.im (.int .i64 (7))), .im (.string ⟨([45]).toArray⟩), (.im (.int .i64 (7))), .im (.string ⟨([42]).toArray⟩), (.im (.int .i64 (8))), .im (.string ⟨([38]).toArray⟩), (.im (.int .i64 (3))), .im (.string ⟨([124]).toArray⟩), (.im (.int .i64 (1))), .im (.string ⟨([94]).toArray⟩), (.im (.int .i64 (2))), .im (.string ⟨([60, 60]).toArray⟩), (.im (.int .i64 (6))), .im (.string ⟨([62, 62]).toArray⟩), (.im (.int .i64 (6))), .im (.string ⟨([62, 62, 115]).toArray⟩), (.im (.int .i64 (6))), .im (.string ⟨([61, 61]).toArray⟩), (.im (.int .i64 (4))), .im (.string ⟨([33, 61]).toArray⟩), (.im (.int .i64 (4))), .im (.string ⟨([60, 115]).toArray⟩), (.im (.int .i64 (5))), .im (.string ⟨([60]).toArray⟩), (.im (.int .i64 (5)))]) ?_
  refine goG Y143_E1 True.intro ?_
  refine wG Y143_E1 hw ?_
  refine Fin.gen0 (rs := [.cell 2 198]) rfl (by first | exact .inl rfl | exact .inr rfl) (finG Y143_E1) ?_
  all_goals exact wkG (AI byL_id (AI (@exL_id) (AI (@exV_id) sL_id)))
theorem c_binary15 : PC Tryz.prog 143 [(.im (.int .i64 (15)))] (.ag [.im (.string ⟨([60]).toArray⟩), (.im (.int .i64 (5)))]) := by
  have hw : IntKind.i64.wrap 12 = 12 := by kernel_rfl
  refine PC.enter 22 Tryz.func143 rfl (by decide) rfl rfl (s := [(0, (.im (.int .i64 (15))))]) (by rfl) ?_
  refine wG Y143_E1 s93 ?_
  refine AR.buildA (n := 13) (e := 198) (z := 2) (cs := (List.replicate 13 [.im (.string ByteArray.empty), (.im (.int .i64 (0)))]).flatten) (cs' := [.im (.string ⟨([43]).toArray⟩), (.im (.int .i64 (7))), .im (.string ⟨([45]).toArray⟩), (.im (.int .i64 (7))), .im (.string ⟨([42]).toArray⟩), (.im (.int .i64 (8))), .im (.string ⟨([38]).toArray⟩), (.im (.int .i64 (3))), .im (.string ⟨([124]).toArray⟩), (.im (.int .i64 (1))), .im (.string ⟨([94]).toArray⟩), (.im (.int .i64 (2))), .im (.string ⟨([60, 60]).toArray⟩), (.im (.int .i64 (6))), .im (.string ⟨([62, 62]).toArray⟩), (.im (.int .i64 (6))), .im (.string ⟨([62, 62, 115]).toArray⟩), (.im (.int .i64 (6))), .im (.string ⟨([61, 61]).toArray⟩), (.im (.int .i64 (4))), .im (.string ⟨([33, 61]).toArray⟩), (.im (.int .i64 (4))), .im (.string ⟨([60, 115]).toArray⟩), (.im (.int .i64 (5))), .im (.string ⟨([60]).toArray⟩), (.im (.int .i64 (5)))]) ?_
  refine goG Y143_E1 True.intro ?_
  refine wG Y143_E1 hw ?_
  refine Fin.gen0 (rs := [.cell 2 198]) rfl (by first | exact .inl rfl | exact .inr rfl) (finG Y143_E1) ?_
  all_goals exact wkG (AI byL_id (AI (@exL_id) (AI (@exV_id) sL_id)))
theorem c_binary (o : Int) (ho : 3 ≤ o ∧ o ≤ 15) : PC Tryz.prog 143 [(.im (.int .i64 (o)))] (.ag [.im (.string ⟨(symB o).toArray⟩), (.im (.int .i64 ((stO o : Int))))]) := by
  have : o = 3 ∨ o = 4 ∨ o = 5 ∨ o = 6 ∨ o = 7 ∨ o = 8 ∨ o = 9 ∨ o = 10 ∨ o = 11 ∨ o = 12 ∨ o = 13 ∨ o = 14 ∨ o = 15 := by omega
  rcases this with rfl | rfl | rfl | rfl | rfl | rfl | rfl | rfl | rfl | rfl | rfl | rfl | rfl
  · exact c_binary3
  · exact c_binary4
  · exact c_binary5
  · exact c_binary6
  · exact c_binary7
  · exact c_binary8
  · exact c_binary9
  · exact c_binary10
  · exact c_binary11
  · exact c_binary12
  · exact c_binary13
  · exact c_binary14
  · exact c_binary15
theorem Y199_E1 : type_of% (AI @F_ag_3 (AI @F_fl_198_1 (AI @F_fl_46_0 (@F_sz_3)))) := AI @F_ag_3 (AI @F_fl_198_1 (AI @F_fl_46_0 (@F_sz_3)))
theorem c_strength (o n : Int) (s : ByteArray) (w : Int) (l : List Ex) : PC Tryz.prog 199 [exV (.mk o n s w l)] (.im (.int .i64 ((strE o : Int)))) := by
  refine PC.enter 23 Tryz.func199 rfl (by decide) rfl rfl (s := [(0, exV (.mk o n s w l))]) (by rfl) ?_
  simp only [exV_mk]
  by_cases h1 : 3 ≤ o ∧ o ≤ 15
  · have q := c_binary o h1
    have e1 : o ≥ 3 := h1.1; have e2 : o ≤ 15 := h1.2; rw [show strE o = stO o from if_pos h1]
    refine wG Y199_E1 (AI e1 e2) ?_; refine AR.callP q True.intro (AI byL_id (AI (@exL_id) (AI (@exV_id) sL_id))) ?_; refine goG Y199_E1 True.intro ?_; refine wG Y199_E1 True.intro ?_; exact Fin.oneP
  have hs : strE o = if o = 16 ∨ o = 17 then 9 else 10 := if_neg h1
  have hb : (decide (o ≥ 3) && decide (o ≤ 15)) = false := by simp; omega
  rw [hs]
  by_cases h3 : o = 16
  · subst h3
    refine wG Y199_E1 True.intro ?_; exact Fin.oneP
  by_cases h4 : o = 17
  · subst h4
    refine wG Y199_E1 True.intro ?_; exact Fin.oneP
  rw [if_neg (by omega)]
  by_cases e1 : o ≥ 3
  · have e2 : ¬ o ≤ 15 := by omega
    refine wG Y199_E1 (AI e1 (AI e2 (AI h3 h4))) ?_; exact Fin.oneP
  · refine wG Y199_E1 (AI e1 (AI h3 h4)) ?_
    exact Fin.oneP
def posR (l : List Tk) (k : Int) : Int × Int := if k < 0 then (1, 1) else match l[min k.toNat (l.length - 1)]? with
  | some t => (t.line, t.col)
  | none => (1, 1)
theorem Y64_T19 : type_of% (AI @F_ag_122 (AI @F_ag_3 (AI @F_al_122 (AI @F_el_52 (AI @F_fl_122_3 (AI @F_fl_122_4 (AI @F_sz_122 (@F_sz_3)))))))) := AI @F_ag_122 (AI @F_ag_3 (AI @F_al_122 (AI @F_el_52 (AI @F_fl_122_3 (AI @F_fl_122_4 (AI @F_sz_122 (@F_sz_3)))))))
theorem c_Position (l : List Tk) (k : Int) (hl : l.length ≤ 4194304) : PC Tryz.prog 64 [.sl (l.map tkV) .ro, (.im (.int .i64 (k)))] (.tu [(.im (.int .i64 ((posR l k).1))), (.im (.int .i64 ((posR l k).2)))]) := by
  by_cases h0 : k < 0
  · rw [show posR l k = (1, 1) from if_pos h0]
    refine PC.enter 26 Tryz.func64 rfl (by decide) rfl rfl (s := [(0, .sl (l.map tkV) .ro), (1, (.im (.int .i64 (k))))]) (by rfl) ?_
    refine wG Y64_T19 (AI TKT h0) ?_; refine Fin.gen0 (rs := [.tmp 4, .tmp 5]) rfl (by first | exact .inl rfl | exact .inr rfl) (finG Y64_T19) ?_
    all_goals exact wkG (AI tkL_id (AI tkV_id (AI byL_id sL_id)))
  cases hE : l with
  | nil =>
    rw [show posR [] k = (1, 1) by unfold posR; split <;> rfl]
    refine PC.enter 26 Tryz.func64 rfl (by decide) rfl rfl (s := [(0, .sl (([] : List Tk).map tkV) .ro), (1, (.im (.int .i64 (k))))]) (by rfl) ?_
    refine wG Y64_T19 (AI TKT h0) ?_; refine Fin.gen0 (rs := [.tmp 4, .tmp 5]) rfl (by first | exact .inl rfl | exact .inr rfl) (finG Y64_T19) ?_
    all_goals exact wkG (AI tkL_id (AI tkV_id (AI byL_id sL_id)))
  | cons x r =>
  rw [← hE]
  have hpos : 1 ≤ l.length := by rw [hE]; simp
  clear hE
  have hne : ¬ (l.length : Int) = 0 := by omega
  have hw : IntKind.i64.wrap ((l.length : Int) - 1) = ((l.length - 1 : Nat) : Int) := by rw [wrap_in (by omega)]; omega
  obtain ⟨j, hj⟩ : ∃ j, j = min k.toNat (l.length - 1) := ⟨_, rfl⟩
  have hjl : j < l.length := by omega
  have hg : l[j]? = some l[j] := List.getElem?_eq_getElem hjl
  have hR : posR l k = (l[j].line, l[j].col) := by
    unfold posR; rw [if_neg h0, ← hj, hg]
  rw [hR]
  clear hR
  generalize l[j] = t at hg
  have hmin : (if ((l.length - 1 : Nat) : Int) < k then ((l.length - 1 : Nat) : Int) else k) = (j : Int) := by split <;> omega
  refine PC.enter 26 Tryz.func64 rfl (by decide) rfl rfl (s := [(0, .sl (l.map tkV) .ro), (1, (.im (.int .i64 (k))))]) (by rfl) ?_
  refine wG Y64_T19 (AI TKT (AI h0 hne)) ?_
  refine wdG Y64_T19 (AI TKT (AI h0 (AI hne (AI hw (AI hg (AI hmin @Int.toNat_natCast)))))) ?_
  refine Fin.gen0 (rs := [.tmp 4, .tmp 5]) rfl (by first | exact .inl rfl | exact .inr rfl) (finG Y64_T19) ?_
  all_goals exact wkG (AI tkL_id (AI tkV_id (AI byL_id sL_id)))
end Go.Proofs.YtmbmmckagcdapaaGreatDoor
namespace Go.Proofs.YtmbmmckagcdapaaGreatDoor
def fu (ts : List Tk) : Nat := 3 * ts.length + 10
def rdX {α : Type} (ts : List Tk) (z : α) (r : Option (Rs α)) : α × Int × Nat := match allM ts r with
  | some (.ok x _ _) => (x, 0, 0)
  | some (.bad b e) => (z, e, b)
  | none => (z, 0, 0)
def ex0 : Ex := .mk 0 0 ByteArray.empty 0 []
def uz0 : Un := ⟨[], [], []⟩
def exR (ts : List Tk) : Ex × Int × Nat := rdX ts ex0 (exM ts (fu ts) (.ex 1) 0 0)
def unR (ts : List Tk) : Un × Int × Nat := rdX ts uz0 (uniM ts (fu ts) uz0 0 0)
def expP (s : Bs) : Ex × Int := if (scnR s).2 ≠ 0 then (ex0, (scnR s).2) else if (exR (scnR s).1).2.1 ≠ 0 then (ex0, (exR (scnR s).1).2.1) else if esh (exR (scnR s).1).1 64 = true then ((exR (scnR s).1).1, 0) else (ex0, 20)
def uniP (s : Bs) : Un × Int := if (scnR s).2 ≠ 0 then (uz0, (scnR s).2) else if (unR (scnR s).1).2.1 ≠ 0 then (uz0, (unR (scnR s).1).2.1) else if unE (unR (scnR s).1).1 ≠ 0 then (uz0, unE (unR (scnR s).1).1) else ((unR (scnR s).1).1, 0)
def errP (s : Bs) : (Int × Int) × Int := if (scnR s).2 = 3 then (posR (scnR s).1 ((scnR s).1.length - 1), 3) else if (scnR s).2 ≠ 0 then ((0, 0), (scnR s).2)
  else if (unR (scnR s).1).2.1 ≠ 0 then (posR (scnR s).1 (unR (scnR s).1).2.2, (unR (scnR s).1).2.1) else ((0, 0), unE (unR (scnR s).1).1)
theorem scnR_ok (s : Bs) : (∀ t ∈ (scnR s).1, TkOk t) ∧ (scnR s).1.length ≤ 65536 ∧ ((scnR s).2 = 0 ∨ (scnR s).2 = 3 ∨ (scnR s).2 = 6) := by
  unfold scnR
  by_cases h : 65536 < s.length
  · rw [if_pos h]; exact ⟨by simp, by simp, .inr (.inr rfl)⟩
  · rw [if_neg h, scnB_scan]
    refine ⟨scan_ok (by omega), by have := scan_len s; show (scan s).1.length ≤ _; omega, ?_⟩
    show (if (scan s).2 then (0 : Int) else 3) = 0 ∨ (if (scan s).2 then (0 : Int) else 3) = 3 ∨ _
    cases (scan s).2
    · exact .inr (.inl rfl)
    · exact .inl rfl
theorem rdX_cases {α : Type} {ts : List Tk} {z : α} {r : Option (Rs α)} (hs : Sm r) (he : Er ts.length r) (hl : ∀ x a o, r = some (.ok x a o) → a ≤ ts.length) :
    (∃ b e, allM ts r = some (.bad b e) ∧ rdX ts z r = (z, e, b) ∧ (e = 3 ∨ e = 20) ∧ b ≤ ts.length) ∨ ∃ x b p, allM ts r = some (.ok x b p) ∧ rdX ts z r = (x, 0, 0) ∧ r = some (.ok x b p) := by
  obtain ⟨q, hq⟩ := Sm.all (ts := ts) hs
  cases q with
  | bad b e =>
    obtain ⟨h1, h2⟩ := Er.all he hl b e hq; exact .inl ⟨b, e, hq, by unfold rdX; rw [hq], h1, h2⟩
  | ok x b p =>
    refine .inr ⟨x, b, p, hq, by unfold rdX; rw [hq], ?_⟩
    obtain ⟨y, a, o, h1, h2⟩ := rb_ok hq; rcases ite_or h2 with ⟨_, h2⟩ | ⟨_, h2⟩
    · cases h2
    · cases h2; exact h1
theorem exR_cases (ts : List Tk) : (∃ b e, allM ts (exM ts (fu ts) (.ex 1) 0 0) = some (.bad b e) ∧ exR ts = (ex0, e, b) ∧ (e = 3 ∨ e = 20) ∧ b ≤ ts.length) ∨ ∃ x b p, allM ts (exM ts (fu ts) (.ex 1) 0 0) = some (.ok x b p) ∧ exR ts = (x, 0, 0) ∧ exM ts (fu ts) (.ex 1) 0 0 = some (.ok x b p) :=
  rdX_cases ((exM_some ts _).2.1 _ _ _ (by unfold fu; omega)) ((exM_er _).2.1 _ _ _ (Nat.zero_le _)) fun x a o h => (exM_le _).2.1 _ _ _ _ _ _ h
theorem uniM_le {ts : List Tk} : ∀ (f : Nat) {u : Un} {a o : Nat} {v : Un} {b p : Nat}, a ≤ ts.length → uniM ts f u a o = some (.ok v b p) → b ≤ ts.length := by
  intro f
  induction f with
  | zero => intro u a o v b p _ h; cases h
  | succ f ih =>
    intro u a o v b p ha h; rw [uniM] at h; rcases ite_or h with ⟨hk, h⟩ | ⟨hk, h⟩
    · cases h; exact ha
    rcases ite_or h with ⟨hk, h⟩ | ⟨hk, h⟩
    · obtain ⟨x, a1, o1, h1, h⟩ := rb_ok h
      exact ih (varM_ok h1).2.2 h
    rcases ite_or h with ⟨hk, h⟩ | ⟨hk, h⟩
    · obtain ⟨x, a1, o1, h1, h⟩ := rb_ok h
      exact ih (datM_ok h1).2.2 h
    rcases ite_or h with ⟨hk, h⟩ | ⟨hk, h⟩
    · obtain ⟨x, a1, o1, h1, h⟩ := rb_ok h
      exact ih (funM_ok h1).2.2 h
    · cases h
theorem unR_cases (ts : List Tk) : (∃ b e, allM ts (uniM ts (fu ts) uz0 0 0) = some (.bad b e) ∧ unR ts = (uz0, e, b) ∧ (e = 3 ∨ e = 20) ∧ b ≤ ts.length) ∨ ∃ x b p, allM ts (uniM ts (fu ts) uz0 0 0) = some (.ok x b p) ∧ unR ts = (x, 0, 0) ∧ uniM ts (fu ts) uz0 0 0 = some (.ok x b p) :=
  rdX_cases (uniM_some ts _ _ _ _ (by unfold fu; omega)) (uniM_er _ _ _ _ (Nat.zero_le _)) fun x a o h => uniM_le _ (Nat.zero_le _) h
end Go.Proofs.YtmbmmckagcdapaaGreatDoor
namespace Go.Proofs.YtmbmmckagcdapaaGreatDoor
open Go.RowKit
theorem Y60_ZAE : type_of% (AI @F_ag_44 (AI @F_ag_46 (AI @F_al_46 (AI @F_el_44 (AI @F_fl_46_4 (AI @F_sz_44 (@F_sz_46))))))) := AI @F_ag_44 (AI @F_ag_46 (AI @F_al_46 (AI @F_el_44 (AI @F_fl_46_4 (AI @F_sz_44 (@F_sz_46))))))
theorem I1_ZAE : type_of% (AI tkV_id (AI tkL_id (AI (@exV_id) @exL_id))) := (AI tkV_id (AI tkL_id (AI (@exV_id) @exL_id)))
theorem c_levels : ∀ (e : Ex), fitE e → ∀ k : Int, -65536 ≤ k → k ≤ 65536 → PC Tryz.prog 60 [exV e, (.im (.int .i64 (k)))] (.im (.bool (esh e k))) := by
  intro e
  induction e using Ex.induct with
  | h o n s w l ih =>
  intro hf k hk1 hk2
  obtain ⟨hl, hfl⟩ := fitE_mk hf
  have hw := wrap_in (n := k - 1) (by omega)
  by_cases h1 : k < 1
  · have : esh (.mk o n s w l) k = false := by rw [esh_mk]; simp; intro h; omega
    rw [this]; refine PC.enter 22 Tryz.func60 rfl (by decide) rfl rfl (s := [(0, exV (.mk o n s w l)), (1, (.im (.int .i64 (k))))]) (by rfl) ?_
    rw [exV_mk]; refine wG Y60_ZAE h1 ?_; refine Fin.gen0 (rs := [.tmp 4]) rfl (by first | exact .inl rfl | exact .inr rfl) (finG Y60_ZAE) ?_
    all_goals exact wkG I1_ZAE
  refine PC.enter 22 Tryz.func60 rfl (by decide) rfl rfl (s := [(0, exV (.mk o n s w l)), (1, (.im (.int .i64 (k))))]) (by rfl) ?_
  refine wG Y60_ZAE (AI h1 @exV_mk) ?_
  refine AWp.loop ?_
  refine ALp.cutP 0 [(1, (.im (.int .i64 (k)))), (4, (.im (.bool (false)))), (10, .sl (l.map exV) .ro), (11, (.im (.int .i64 (l.length)))), (12, (.im (.int .i64 ((((0 : Nat)) : Int)))))] [] I1_ZAE ?_
  refine ALp.upto l.length (AllTo (fun t => esh t (k - 1)) l) (fun m => ⟨dn 22 [(1, (.im (.int .i64 (k)))), (4, (.im (.bool (false)))), (10, .sl (l.map exV) .ro), (11, (.im (.int .i64 (l.length)))), (12, (.im (.int .i64 ((((m : Nat)) : Int)))))], ofl []⟩) ?_ 0 (Nat.zero_le _) (AllTo.zero _ _)
  intro m hm hI hnext
  by_cases hlt : m < l.length
  · have hlt' : (m : Int) < (l.length : Int) := by omega
    have hm1 := wrap_succ hlt (by omega)
    have hg := get_some hlt; have hc := ih l[m] (List.getElem_mem hlt) (hfl _ (List.getElem_mem hlt)) (k - 1) (by omega) (by omega)
    cases b : esh l[m] (k - 1) with
    | false =>
      rw [b] at hc; have hr : esh (.mk o n s w l) k = false := by rw [esh_mk, not_all_of hlt b, Bool.and_false]
      rw [hr]; refine wG Y60_ZAE (AI hlt' (AI hg (AI (@exV_firm) (AI (@exV_strip) (AI (@exV_live) (AI (@exV_size) (AI (@exV_isAg) (AI (@exV_cells) (AI (@List.getElem?_map.{0, 0}) (AI (@Int.natCast_nonneg) hw)))))))))) ?_; refine AR.callP hc @exV_eq I1_ZAE ?_; refine goG Y60_ZAE True.intro ?_; refine wG Y60_ZAE True.intro ?_; refine Fin.gen0 (rs := [.tmp 4]) rfl (by first | exact .inl rfl | exact .inr rfl) (finG Y60_ZAE) ?_
      all_goals exact wkG I1_ZAE
    | true =>
      rw [b] at hc; refine wG Y60_ZAE (AI hlt' (AI hg (AI (@exV_firm) (AI (@exV_strip) (AI (@exV_live) (AI (@exV_size) (AI (@exV_isAg) (AI (@exV_cells) (AI (@List.getElem?_map.{0, 0}) (AI (@Int.natCast_nonneg) hw)))))))))) ?_; refine AR.callP hc @exV_eq I1_ZAE ?_; refine goG Y60_ZAE True.intro ?_; refine wG Y60_ZAE hm1 ?_; refine ALp.cutP 0 [(1, (.im (.int .i64 (k)))), (4, (.im (.bool (false)))), (10, .sl (l.map exV) .ro), (11, (.im (.int .i64 (l.length)))), (12, (.im (.int .i64 ((((m + 1 : Nat)) : Int)))))] [] I1_ZAE ?_; exact hnext (m + 1) (by omega) (by omega) (hI.succ hlt b)
  obtain rfl : m = l.length := by omega
  clear hnext
  have hall : l.all (fun t => esh t (k - 1)) = true := List.all_eq_true.2 fun x hx => by
    obtain ⟨j, hj, rfl⟩ := List.getElem_of_mem hx; exact hI j hj hj
  have hr : esh (.mk o n s w l) k = true := by rw [esh_mk, hall, Bool.and_true]; exact decide_eq_true (by omega)
  rw [hr]
  have hn : ¬ (l.length : Int) < (l.length : Int) := by omega
  refine wG Y60_ZAE hn ?_
  refine Fin.gen0 (rs := [.tmp 4]) rfl (by first | exact .inl rfl | exact .inr rfl) (finG Y60_ZAE) ?_
  all_goals exact wkG I1_ZAE
theorem t3 : (3 : Int) ≠ 0 := by decide
theorem e_ne {e : Int} (h : e = 3 ∨ e = 20) : e ≠ 0 := by omega
theorem Y22_ZAE : type_of% (AI @F_ag_28 (AI @F_ag_46 (AI @F_al_46 (AI @F_al_61 (AI @F_fl_61_1 (AI @F_st_46 (AI @F_sz_28 (AI @F_sz_46 (@F_sz_61))))))))) := AI @F_ag_28 (AI @F_ag_46 (AI @F_al_46 (AI @F_al_61 (AI @F_fl_61_1 (AI @F_st_46 (AI @F_sz_28 (AI @F_sz_46 (@F_sz_61))))))))
theorem c_Expr (s : Bs) (hs : s.length ≤ 4194304) : PC Tryz.prog 22 [.im (.string ⟨(s).toArray⟩)] (.tu [exV (expP s).1, (.im (.int .i64 ((expP s).2)))]) := by
  have h1 := c_Scan s hs
  obtain ⟨hok, hts, hes⟩ := scnR_ok s
  unfold expP
  generalize scnR s = q at h1 hok hts hes
  obtain ⟨ts, e⟩ := q
  simp only at h1 hok hts hes ⊢
  by_cases he : e = 0
  case neg =>
    rw [if_pos he]; refine PC.enter 33 Tryz.func22 rfl (by decide) rfl rfl (s := [(0, .im (.string ⟨(s).toArray⟩))]) (by rfl) ?_
    refine wG Y22_ZAE True.intro ?_; refine AR.callP h1 True.intro I1_ZAE ?_; refine goG Y22_ZAE True.intro ?_; refine wG Y22_ZAE he ?_; refine Fin.gen0 (rs := [.cell 2 46, .tmp 3]) rfl (by first | exact .inl rfl | exact .inr rfl) (finG Y22_ZAE) ?_
    all_goals exact wkG I1_ZAE
  subst he
  rw [if_neg (by decide)]
  rcases exR_cases ts with ⟨b, e, hz, hx, he, hb⟩ | ⟨x, b, p, hz, hx, hr⟩
  · have h2 := c_parsedE (by omega) _ _ hz
    change PC _ _ _ (.tu [exV (.mk 0 0 ByteArray.empty 0 []), .ag [(.im (.int .i64 ((b : Nat)))), (.im (.int .i64 (e)))]]) at h2; have he : ¬ e = 0 := e_ne he; rw [hx, if_pos he]; refine PC.enter 33 Tryz.func22 rfl (by decide) rfl rfl (s := [(0, .im (.string ⟨(s).toArray⟩))]) (by rfl) ?_
    refine wG Y22_ZAE True.intro ?_; refine AR.callP h1 True.intro I1_ZAE ?_; refine goG Y22_ZAE True.intro ?_; refine wG Y22_ZAE True.intro ?_; refine AR.callP h2 True.intro I1_ZAE ?_; refine goG Y22_ZAE BN01 ?_; refine wdG Y22_ZAE he ?_; refine Fin.gen0 (rs := [.cell 2 46, .tmp 3]) rfl (by first | exact .inl rfl | exact .inr rfl) (finG Y22_ZAE) ?_
    all_goals exact wkG I1_ZAE
  have h2 := c_parsedE (by omega) _ _ hz
  change PC _ _ _ (.tu [exV x, .ag [(.im (.int .i64 (0))), (.im (.int .i64 (0)))]]) at h2
  have hf := (exM_fit hok _).2.1 _ _ _ _ _ _ hr
  have h3 := c_levels x hf 64 (by decide) (by decide)
  rw [hx, if_neg (fun h => h rfl)]
  simp only
  cases hl : esh x 64 with
  | true =>
    rw [hl] at h3; rw [if_pos rfl]; refine PC.enter 33 Tryz.func22 rfl (by decide) rfl rfl (s := [(0, .im (.string ⟨(s).toArray⟩))]) (by rfl) ?_
    refine wG Y22_ZAE True.intro ?_; refine AR.callP h1 True.intro I1_ZAE ?_; refine goG Y22_ZAE True.intro ?_; refine wG Y22_ZAE True.intro ?_; refine AR.callP h2 True.intro I1_ZAE ?_; refine goG Y22_ZAE BN01 ?_; refine wG Y22_ZAE BN01 ?_; refine AR.callP h3 @exV_eq I1_ZAE ?_; refine goG Y22_ZAE True.intro ?_; refine wG Y22_ZAE True.intro ?_; refine Fin.gen0 (rs := [.cell 2 46, .tmp 3]) rfl (by first | exact .inl rfl | exact .inr rfl) (finG Y22_ZAE) ?_
    rw [exV_eq x]
    all_goals exact wkG I1_ZAE
  | false =>
    rw [hl] at h3; rw [if_neg (by decide)]
    refine PC.enter 33 Tryz.func22 rfl (by decide) rfl rfl (s := [(0, .im (.string ⟨(s).toArray⟩))]) (by rfl) ?_
    refine wG Y22_ZAE True.intro ?_; refine AR.callP h1 True.intro I1_ZAE ?_; refine goG Y22_ZAE True.intro ?_; refine wG Y22_ZAE True.intro ?_; refine AR.callP h2 True.intro I1_ZAE ?_; refine goG Y22_ZAE BN01 ?_; refine wG Y22_ZAE BN01 ?_; refine AR.callP h3 @exV_eq I1_ZAE ?_; refine goG Y22_ZAE True.intro ?_; refine wG Y22_ZAE True.intro ?_; refine Fin.gen0 (rs := [.cell 2 46, .tmp 3]) rfl (by first | exact .inl rfl | exact .inr rfl) (finG Y22_ZAE) ?_
    all_goals exact wkG I1_ZAE
theorem c_CheckUnitV (u : Un) (hu : fitU u) : PC Tryz.prog 15 [.ag [.sl (u.globals.map vaV) .ro, .sl (u.data.map scV) .ro, .sl (u.funcs.map fnV) .ro]] (.im (.int .i64 (unE u))) := c_CheckUnit u hu
theorem I1_ZAF : type_of% (AI tkV_id (AI tkL_id (AI (@vaV_id) (AI (@vaL_id) (AI scV_id (AI scL_id (AI fnV_id (AI fnL_id (AI ndLs_id unV_id))))))))) := (AI tkV_id (AI tkL_id (AI (@vaV_id) (AI (@vaL_id) (AI scV_id (AI scL_id (AI fnV_id (AI fnL_id (AI ndLs_id unV_id)))))))))
theorem Y13_ZAF : type_of% (AI @F_ag_27 (AI @F_ag_28 (AI @F_al_27 (AI @F_al_61 (AI @F_fl_61_1 (AI @F_st_27 (AI @F_sz_27 (AI @F_sz_28 (@F_sz_61))))))))) := AI @F_ag_27 (AI @F_ag_28 (AI @F_al_27 (AI @F_al_61 (AI @F_fl_61_1 (AI @F_st_27 (AI @F_sz_27 (AI @F_sz_28 (@F_sz_61))))))))
theorem c_Unit (s : Bs) (hs : s.length ≤ 4194304) : PC Tryz.prog 13 [.im (.string ⟨(s).toArray⟩)] (.tu [unV (uniP s).1, (.im (.int .i64 ((uniP s).2)))]) := by
  have h1 := c_Scan s hs
  obtain ⟨hok, hts, hes⟩ := scnR_ok s
  unfold uniP
  generalize scnR s = q at h1 hok hts hes
  obtain ⟨ts, e⟩ := q
  simp only at h1 hok hts hes ⊢
  by_cases he : e = 0
  case neg =>
    rw [if_pos he]; refine PC.enter 36 Tryz.func13 rfl (by decide) rfl rfl (s := [(0, .im (.string ⟨(s).toArray⟩))]) (by rfl) ?_
    refine wG Y13_ZAF True.intro ?_; refine AR.callP h1 True.intro I1_ZAF ?_; refine goG Y13_ZAF True.intro ?_; refine wG Y13_ZAF he ?_; refine Fin.gen0 (rs := [.cell 2 27, .tmp 3]) rfl (by first | exact .inl rfl | exact .inr rfl) (finG Y13_ZAF) ?_
    all_goals exact wkG I1_ZAF
  subst he
  rw [if_neg (by decide)]
  rcases unR_cases ts with ⟨b, e, hz, hx, he, hb⟩ | ⟨x, b, p, hz, hx, hr⟩
  · have h2 := c_parsedU (by omega) hok _ _ hz
    change PC _ _ _ (.tu [unV ⟨[], [], []⟩, .ag [(.im (.int .i64 ((b : Nat)))), (.im (.int .i64 (e)))]]) at h2; have he : ¬ e = 0 := e_ne he; rw [hx, if_pos he]; refine PC.enter 36 Tryz.func13 rfl (by decide) rfl rfl (s := [(0, .im (.string ⟨(s).toArray⟩))]) (by rfl) ?_
    refine wG Y13_ZAF True.intro ?_; refine AR.callP h1 True.intro I1_ZAF ?_; refine goG Y13_ZAF True.intro ?_; refine wG Y13_ZAF True.intro ?_; refine AR.callP h2 True.intro I1_ZAF ?_; refine goG Y13_ZAF UNT ?_; refine wdG Y13_ZAF he ?_; refine Fin.gen0 (rs := [.cell 2 27, .tmp 3]) rfl (by first | exact .inl rfl | exact .inr rfl) (finG Y13_ZAF) ?_
    all_goals exact wkG I1_ZAF
  have h2 := c_parsedU (by omega) hok _ _ hz
  change PC _ _ _ (.tu [unV x, .ag [(.im (.int .i64 (0))), (.im (.int .i64 (0)))]]) at h2
  have h3 := c_CheckUnitV x (uniM_fit0 hok hts hr)
  rw [hx, if_neg (fun h => h rfl)]
  simp only
  by_cases hu : unE x = 0
  case neg =>
    rw [if_pos hu]; refine PC.enter 36 Tryz.func13 rfl (by decide) rfl rfl (s := [(0, .im (.string ⟨(s).toArray⟩))]) (by rfl) ?_
    refine wG Y13_ZAF True.intro ?_; refine AR.callP h1 True.intro I1_ZAF ?_; refine goG Y13_ZAF True.intro ?_; refine wG Y13_ZAF True.intro ?_; refine AR.callP h2 True.intro I1_ZAF ?_; refine goG Y13_ZAF UNT ?_; refine wG Y13_ZAF UNT ?_; refine AR.callP h3 True.intro I1_ZAF ?_; refine goG Y13_ZAF True.intro ?_; refine wG Y13_ZAF hu ?_; refine Fin.gen0 (rs := [.cell 2 27, .tmp 3]) rfl (by first | exact .inl rfl | exact .inr rfl) (finG Y13_ZAF) ?_
    all_goals exact wkG I1_ZAF
  rw [if_neg (fun h => h hu)]
  rw [hu] at h3
  refine PC.enter 36 Tryz.func13 rfl (by decide) rfl rfl (s := [(0, .im (.string ⟨(s).toArray⟩))]) (by rfl) ?_
  refine wG Y13_ZAF True.intro ?_
  refine AR.callP h1 True.intro I1_ZAF ?_
  refine goG Y13_ZAF True.intro ?_
  refine wG Y13_ZAF True.intro ?_
  refine AR.callP h2 True.intro I1_ZAF ?_
  refine goG Y13_ZAF UNT ?_
  refine wG Y13_ZAF UNT ?_
  refine AR.callP h3 True.intro I1_ZAF ?_
  refine goG Y13_ZAF True.intro ?_
  refine wG Y13_ZAF True.intro ?_
  refine Fin.gen0 (rs := [.cell 2 27, .tmp 3]) rfl (by first | exact .inl rfl | exact .inr rfl) (finG Y13_ZAF) ?_
  rw [unV_eq x]
  all_goals exact wkG I1_ZAF
theorem Y25_ZAF : type_of% (AI @F_ag_27 (AI @F_ag_28 (AI @F_ag_3 (AI @F_al_27 (AI @F_al_61 (AI @F_el_52 (AI @F_fl_61_0 (AI @F_fl_61_1 (AI @F_sz_122 (AI @F_sz_27 (AI @F_sz_28 (AI @F_sz_3 (@F_sz_61))))))))))))) := AI @F_ag_27 (AI @F_ag_28 (AI @F_ag_3 (AI @F_al_27 (AI @F_al_61 (AI @F_el_52 (AI @F_fl_61_0 (AI @F_fl_61_1 (AI @F_sz_122 (AI @F_sz_27 (AI @F_sz_28 (AI @F_sz_3 (@F_sz_61))))))))))))
theorem c_ErrorAt (s : Bs) (hs : s.length ≤ 4194304) : PC Tryz.prog 25 [.im (.string ⟨(s).toArray⟩)] (.tu [(.im (.int .i64 ((errP s).1.1))), (.im (.int .i64 ((errP s).1.2))), (.im (.int .i64 ((errP s).2)))]) := by
  have h1 := c_Scan s hs
  obtain ⟨hok, hts, hes⟩ := scnR_ok s
  unfold errP
  generalize scnR s = q at h1 hok hts hes
  obtain ⟨ts, e⟩ := q
  simp only at h1 hok hts hes ⊢
  by_cases he3 : e = 3
  · subst he3
    rw [if_pos rfl]; have hw := wrap_in (n := (ts.length : Int) - 1) (by omega)
    have h2 := c_Position ts ((ts.length : Int) - 1) (by omega)
    refine PC.enter 55 Tryz.func25 rfl (by decide) rfl rfl (s := [(0, .im (.string ⟨(s).toArray⟩))]) (by rfl) ?_
    refine wG Y25_ZAF True.intro ?_; refine AR.callP h1 True.intro I1_ZAF ?_; refine goG Y25_ZAF True.intro ?_; refine wG Y25_ZAF (AI hw @List.length_map.{0, 0}) ?_; refine AR.callP h2 True.intro I1_ZAF ?_; refine goG Y25_ZAF True.intro ?_; refine wG Y25_ZAF True.intro ?_; refine Fin.gen0 (rs := [.tmp 2, .tmp 3, .tmp 4]) rfl (by first | exact .inl rfl | exact .inr rfl) (finG Y25_ZAF) ?_
    all_goals exact wkG I1_ZAF
  rw [if_neg he3]
  by_cases he : e = 0
  case neg =>
    rw [if_pos he]; refine PC.enter 55 Tryz.func25 rfl (by decide) rfl rfl (s := [(0, .im (.string ⟨(s).toArray⟩))]) (by rfl) ?_
    refine wG Y25_ZAF True.intro ?_; refine AR.callP h1 True.intro I1_ZAF ?_; refine goG Y25_ZAF True.intro ?_; refine wG Y25_ZAF (AI he he3) ?_; refine Fin.gen0 (rs := [.tmp 2, .tmp 3, .tmp 4]) rfl (by first | exact .inl rfl | exact .inr rfl) (finG Y25_ZAF) ?_
    all_goals exact wkG I1_ZAF
  subst he
  rw [if_neg (by decide)]
  rcases unR_cases ts with ⟨b, e, hz, hx, he, hb⟩ | ⟨x, b, p, hz, hx, hr⟩
  · have h2 := c_parsedU (by omega) hok _ _ hz
    change PC _ _ _ (.tu [unV ⟨[], [], []⟩, .ag [(.im (.int .i64 ((b : Nat)))), (.im (.int .i64 (e)))]]) at h2; have he : ¬ e = 0 := e_ne he; have h3 := c_Position ts (b : Int) (by omega)
    rw [hx, if_pos he]; refine PC.enter 55 Tryz.func25 rfl (by decide) rfl rfl (s := [(0, .im (.string ⟨(s).toArray⟩))]) (by rfl) ?_
    refine wG Y25_ZAF True.intro ?_; refine AR.callP h1 True.intro I1_ZAF ?_; refine goG Y25_ZAF True.intro ?_; refine wG Y25_ZAF True.intro ?_; refine AR.callP h2 True.intro I1_ZAF ?_; refine goG Y25_ZAF UNT ?_; refine wG Y25_ZAF he ?_; refine AR.callP h3 True.intro I1_ZAF ?_; refine goG Y25_ZAF True.intro ?_; refine wdG Y25_ZAF True.intro ?_; refine Fin.gen0 (rs := [.tmp 2, .tmp 3, .tmp 4]) rfl (by first | exact .inl rfl | exact .inr rfl) (finG Y25_ZAF) ?_
    all_goals exact wkG I1_ZAF
  have h2 := c_parsedU (by omega) hok _ _ hz
  change PC _ _ _ (.tu [unV x, .ag [(.im (.int .i64 (0))), (.im (.int .i64 (0)))]]) at h2
  have h3 := c_CheckUnitV x (uniM_fit0 hok hts hr)
  rw [hx, if_neg (fun h => h rfl)]
  simp only
  refine PC.enter 55 Tryz.func25 rfl (by decide) rfl rfl (s := [(0, .im (.string ⟨(s).toArray⟩))]) (by rfl) ?_
  refine wG Y25_ZAF True.intro ?_
  refine AR.callP h1 True.intro I1_ZAF ?_
  refine goG Y25_ZAF True.intro ?_
  refine wG Y25_ZAF True.intro ?_
  refine AR.callP h2 True.intro I1_ZAF ?_
  refine goG Y25_ZAF UNT ?_
  refine wG Y25_ZAF UNT ?_
  refine AR.callP h3 True.intro I1_ZAF ?_
  refine goG Y25_ZAF True.intro ?_
  refine wG Y25_ZAF True.intro ?_
  refine Fin.gen0 (rs := [.tmp 2, .tmp 3, .tmp 4]) rfl (by first | exact .inl rfl | exact .inr rfl) (finG Y25_ZAF) ?_
  all_goals exact wkG I1_ZAF
def nmX (s : Bs) : Ex := .mk 2 0 ⟨s.toArray⟩ 0 []
def coX (n : Int) : Ex := .mk 1 n ByteArray.empty 0 []
def twX (o : Int) (a b : Ex) : Ex := .mk o 0 ByteArray.empty 0 [a, b]
def s1X : Bs := [114, 48, 32, 45, 32, 49, 32, 45, 32, 114, 49, 32, 42, 32, 50]
def s2X : Bs := [45, 114, 48, 32, 42, 32, 50]
def s3X : Bs := [114, 48, 32, 43]
def s4X : Bs := [102, 117, 110, 99, 32, 109, 97, 105, 110, 32, 123, 32, 114, 48, 32, 61, 32, 49, 59, 32, 104, 97, 108, 116, 59, 32, 125]
def s5X : Bs := [118, 97, 114, 32, 114, 48, 58, 32, 117, 105, 110, 116, 51, 50, 59, 32, 102, 117, 110, 99, 32, 109, 97, 105, 110, 32, 123, 32, 114, 48, 32, 61, 32, 49, 59, 32, 104, 97, 108, 116, 59, 32, 125]
def s6X : Bs := [102, 117, 110, 99, 32, 102, 32, 123, 10, 32, 32, 104, 97, 108, 116, 10, 125]
theorem e1X : expP s1X = (twX 4 (twX 4 (nmX [114, 48]) (coX 1)) (twX 5 (nmX [114, 49]) (coX 2)), 0) := by kernel_rfl
theorem e2X : expP s2X = (twX 5 (mkU 17 0 (nmX [114, 48])) (coX 2), 0) := by kernel_rfl
theorem e3X : expP s3X = (ex0, 3) := by kernel_rfl
theorem e4X : uniP s4X = (uz0, 17) := by kernel_rfl
def v5X : Va := ⟨⟨#[114, 48]⟩, .mk 0 2 4 0 [] []⟩
def f5X : Fun := ⟨⟨#[109, 97, 105, 110]⟩, [], [.mk 1 0 ⟨#[114, 48]⟩ [coX 1] [] [] [], .mk 15 0 ByteArray.empty [] [] [] []]⟩
theorem e5X : uniP s5X = (⟨[v5X], [], [f5X]⟩, 0) := by kernel_rfl
theorem e6X : errP s6X = ((3, 1), 3) := by kernel_rfl
theorem Y12_ZAG : type_of% (AI @F_ag_23 (AI @F_ag_25 (AI @F_ag_3 (AI @F_ag_44 (AI @F_al_27 (AI @F_al_46 (AI @F_el_23 (AI @F_el_25 (AI @F_el_44 (AI @F_fl_27_0 (AI @F_fl_27_2 (AI @F_fl_46_0 (AI @F_fl_46_4 (AI @F_sz_23 (AI @F_sz_25 (AI @F_sz_27 (AI @F_sz_3 (AI @F_sz_37 (AI @F_sz_44 (AI @F_sz_46 (@F_sz_96))))))))))))))))))))) := AI @F_ag_23 (AI @F_ag_25 (AI @F_ag_3 (AI @F_ag_44 (AI @F_al_27 (AI @F_al_46 (AI @F_el_23 (AI @F_el_25 (AI @F_el_44 (AI @F_fl_27_0 (AI @F_fl_27_2 (AI @F_fl_46_0 (AI @F_fl_46_4 (AI @F_sz_23 (AI @F_sz_25 (AI @F_sz_27 (AI @F_sz_3 (AI @F_sz_37 (AI @F_sz_44 (AI @F_sz_46 (@F_sz_96))))))))))))))))))))
theorem I1_ZAG : type_of% (AI tkV_id (AI tkL_id (AI (@exV_id) (AI (@exL_id) (AI (@vaV_id) (AI (@vaL_id) (AI scV_id (AI scL_id (AI fnV_id (AI fnL_id (AI ndLs_id unV_id))))))))))) := (AI tkV_id (AI tkL_id (AI (@exV_id) (AI (@exL_id) (AI (@vaV_id) (AI (@vaL_id) (AI scV_id (AI scL_id (AI fnV_id (AI fnL_id (AI ndLs_id unV_id)))))))))))
set_option maxRecDepth 4000 in
set_option maxHeartbeats 4000000 in
theorem c_exH : PC Tryz.prog 12 [] (.im (.bool (true))) := by
  have h1 := c_Expr s1X (by decide)
  have h2 := c_Expr s2X (by decide)
  have h3 := c_Expr s3X (by decide)
  have h4 := c_Unit s4X (by decide)
  have h5 := c_Unit s5X (by decide)
  have h6 := c_ErrorAt s6X (by decide)
  rw [e1X] at h1
  rw [e2X] at h2
  rw [e3X] at h3
  rw [e4X] at h4
  rw [e5X] at h5
  rw [e6X] at h6
  simp only [twX, nmX, coX, mkU, ex0, exV_mk, List.map_cons, List.map_nil, unV_eq, uz0] at h1 h2 h3 h4 h5 h6
  unfold s1X at h1
  unfold s2X at h2
  unfold s3X at h3
  unfold s4X at h4
  unfold s5X at h5
  unfold s6X at h6
  generalize vaV v5X = va at h5
  generalize fnV f5X = fa at h5
  refine PC.enter 127 Tryz.func12 rfl (by decide) rfl rfl (s := []) (by rfl) ?_
  simp only [List.append]
  refine wG Y12_ZAG True.intro ?_
  refine AR.callP h1 True.intro I1_ZAG ?_
  refine goG Y12_ZAG True.intro ?_
  refine wG Y12_ZAG True.intro ?_
  refine AR.callP h2 True.intro I1_ZAG ?_
  refine goG Y12_ZAG True.intro ?_
  refine wG Y12_ZAG True.intro ?_
  refine AR.callP h3 True.intro I1_ZAG ?_
  refine goG Y12_ZAG True.intro ?_
  refine wG Y12_ZAG True.intro ?_
  refine AR.callP h4 True.intro I1_ZAG ?_
  refine goG Y12_ZAG True.intro ?_
  refine wG Y12_ZAG True.intro ?_
  refine AR.callP h5 True.intro I1_ZAG ?_
  refine goG Y12_ZAG True.intro ?_
  refine wG Y12_ZAG True.intro ?_
  refine AR.callP h6 True.intro I1_ZAG ?_
  refine goG Y12_ZAG True.intro ?_
  refine wG Y12_ZAG True.intro ?_
  refine Fin.gen0 (rs := [.tmp 0]) rfl (by first | exact .inl rfl | exact .inr rfl) (finG Y12_ZAG) ?_
  all_goals exact wkG I1_ZAG
theorem itoa_small {m : Nat} (h : m ≤ 9) : Lib.itoa (m : Int) = [hexD m] := by
  unfold Lib.itoa
  rw [if_neg (by omega), Int.toNat_natCast, Lib.decDigits, dif_pos (by omega)]
  have : ∀ m < 10, [UInt8.ofNat (48 + m)] = [hexD m] := by decide
  exact this m (by omega)
theorem itoa_w {w : Int} (h : w = 1 ∨ w = 2 ∨ w = 4) : Lib.itoa w = wB w := by
  rcases h with rfl | rfl | rfl
  · exact itoa_small (m := 1) (by decide)
  · exact itoa_small (m := 2) (by decide)
  · exact itoa_small (m := 4) (by decide)
theorem opdT_len (o : Int) (t : Bs) (need : Nat) : t.length ≤ (opdT o t need).length := by
  unfold opdT
  split
  · simp only [List.length_cons, List.length_append]; omega
  · exact Nat.le_refl _
theorem Y142_E2 : type_of% (AI @F_ag_46 (AI @F_al_9 (AI @F_el_84 (AI @F_sz_46 (@F_sz_9))))) := AI @F_ag_46 (AI @F_al_9 (AI @F_el_84 (AI @F_sz_46 (@F_sz_9))))
theorem c_operand (e : Ex) (need : Nat) (hn : need ≤ 10) (hlen : (opdT e.op (txE e) need).length ≤ 140737488355328) (q : PC Tryz.prog 75 [exV e] (.im (.string ⟨(txE e).toArray⟩))) : PC Tryz.prog 142 [exV e, (.im (.int .i64 ((need : Int))))] (.im (.string ⟨(opdT e.op (txE e) need).toArray⟩)) := by
  have qs : PC Tryz.prog 199 [exV e] (.im (.int .i64 ((strE e.op : Int)))) := by
    obtain ⟨o, n, s, w, l⟩ := e; exact c_strength o n s w l
  by_cases h : strE e.op < need
  · have h1 : (strE e.op : Int) < (need : Int) := by omega
    have he : opdT e.op (txE e) need = 40 :: (txE e ++ [41]) := if_pos h; rw [he] at hlen ⊢; have qj := c_j3 [40] (txE e) [41] _ rfl hlen; refine PC.enter 15 Tryz.func142 rfl (by decide) rfl rfl (s := [(0, exV e), (1, (.im (.int .i64 ((need : Int)))))]) (by rfl) ?_
    refine wG Y142_E2 BN01 ?_; refine AR.callP qs @exV_eq (AI byL_id (AI (@exL_id) (AI (@exV_id) sL_id))) ?_; refine goG Y142_E2 (AI (@exV_firm) (AI (@exV_strip) (AI (@exV_live) (AI (@exV_size) (AI (@exV_isAg) (AI (@exV_cells) (AI (@List.getElem?_map.{0, 0}) (AI (@Int.natCast_nonneg) h1)))))))) ?_; refine wG Y142_E2 (AI (@exV_firm) (AI (@exV_strip) (AI (@exV_live) (AI (@exV_size) (AI (@exV_isAg) (AI (@exV_cells) (AI (@List.getElem?_map.{0, 0}) (AI (@Int.natCast_nonneg) h1)))))))) ?_; refine AR.callP q @exV_eq (AI byL_id (AI (@exL_id) (AI (@exV_id) sL_id))) ?_; refine goG Y142_E2 True.intro ?_; refine AR.callW qj True.intro (AI byL_id (AI (@exL_id) (AI (@exV_id) sL_id))) ?_; refine goG Y142_E2 True.intro ?_; refine wG Y142_E2 True.intro ?_; exact Fin.oneP
  · have h1 : ¬ (strE e.op : Int) < (need : Int) := by omega
    have he : opdT e.op (txE e) need = txE e := if_neg h; rw [he] at hlen ⊢; refine PC.enter 15 Tryz.func142 rfl (by decide) rfl rfl (s := [(0, exV e), (1, (.im (.int .i64 ((need : Int)))))]) (by rfl) ?_
    refine wG Y142_E2 BN01 ?_; refine AR.callP qs @exV_eq (AI byL_id (AI (@exL_id) (AI (@exV_id) sL_id))) ?_; refine goG Y142_E2 (AI (@exV_firm) (AI (@exV_strip) (AI (@exV_live) (AI (@exV_size) (AI (@exV_isAg) (AI (@exV_cells) (AI (@List.getElem?_map.{0, 0}) (AI (@Int.natCast_nonneg) h1)))))))) ?_; refine wG Y142_E2 (AI (@exV_firm) (AI (@exV_strip) (AI (@exV_live) (AI (@exV_size) (AI (@exV_isAg) (AI (@exV_cells) (AI (@List.getElem?_map.{0, 0}) (AI (@Int.natCast_nonneg) h1)))))))) ?_; refine AR.callP q @exV_eq (AI byL_id (AI (@exL_id) (AI (@exV_id) sL_id))) ?_; refine goG Y142_E2 True.intro ?_; refine wG Y142_E2 True.intro ?_; exact Fin.oneP
theorem num_small {m : Nat} (h : m ≤ 9) : Lib.itoa (m : Int) = numS m := (itoa_small h).trans (if_pos h).symm
theorem Y75_E2 : type_of% (AI @F_ag_3 (AI @F_ag_43 (AI @F_ag_44 (AI @F_ag_46 (AI @F_ag_9 (AI @F_al_198 (AI @F_al_9 (AI @F_el_44 (AI @F_el_84 (AI @F_fl_198_0 (AI @F_fl_198_1 (AI @F_fl_46_0 (AI @F_fl_46_1 (AI @F_fl_46_2 (AI @F_fl_46_3 (AI @F_fl_46_4 (AI @F_in_3 (AI @F_in_43 (AI @F_sz_198 (AI @F_sz_3 (AI @F_sz_43 (AI @F_sz_44 (AI @F_sz_46 (AI @F_sz_9 (AI @F_un_3 (@F_un_43)))))))))))))))))))))))))) := AI @F_ag_3 (AI @F_ag_43 (AI @F_ag_44 (AI @F_ag_46 (AI @F_ag_9 (AI @F_al_198 (AI @F_al_9 (AI @F_el_44 (AI @F_el_84 (AI @F_fl_198_0 (AI @F_fl_198_1 (AI @F_fl_46_0 (AI @F_fl_46_1 (AI @F_fl_46_2 (AI @F_fl_46_3 (AI @F_fl_46_4 (AI @F_in_3 (AI @F_in_43 (AI @F_sz_198 (AI @F_sz_3 (AI @F_sz_43 (AI @F_sz_44 (AI @F_sz_46 (AI @F_sz_9 (AI @F_un_3 (@F_un_43)))))))))))))))))))))))))
set_option maxHeartbeats 2000000 in
theorem c_text : ∀ (e : Ex), fitE e → efm e = true → (txE e).length ≤ 140737488355328 → PC Tryz.prog 75 [exV e] (.im (.string ⟨(txE e).toArray⟩)) := by
  refine Ex.induct fun o n s w l hE => ?_
  intro hfit hf hlen
  obtain ⟨hl1, hfE⟩ := fitE_mk hfit
  obtain ⟨_, hn, _⟩ := fitE_num hfit
  rw [efm_mk, Bool.and_eq_true] at hf
  obtain ⟨hb, hl⟩ := hf
  have IH := fun t ht => hE t ht (hfE t ht) (List.all_eq_true.1 hl t ht)
  clear hE hl hfE
  obtain ⟨n, rfl⟩ : ∃ m : Nat, n = m := ⟨n.toNat, by omega⟩
  rw [txE_mk] at hlen ⊢
  rcases ebase_inv hb with ⟨rfl, _, _, h4⟩ | ⟨rfl, h1, _, _, h4⟩ | ⟨ho, _, _, _, h4⟩ | ⟨ho, _, _, _, h4⟩ | ⟨rfl, _, _, h3, h4⟩ | ⟨rfl, _, _, h3, h4⟩
  · rw [show txN 1 (n : Int) s.data.toList w l (l.map txE) = numS n from rfl]
    by_cases h9 : n ≤ 9
    · have h9' : (n : Int) ≤ 9 := by omega
      have q := c_Itoa n (by omega) (by omega)
      rw [num_small h9] at q; have hw : IntKind.i64.wrap (n : Int) = n := wrap_in (by omega)
      refine PC.enter 86 Tryz.func75 rfl (by decide) rfl rfl (s := [(0, exV (.mk 1 (n : Int) s w l))]) (by rfl) ?_
      simp only [exV_mk]; refine wG Y75_E2 (AI h9' hw) ?_; refine AR.callP q True.intro (AI byL_id (AI (@exL_id) (AI (@exV_id) sL_id))) ?_; refine goG Y75_E2 True.intro ?_; refine wG Y75_E2 True.intro ?_; exact Fin.oneP
    · have h9' : ¬ (n : Int) ≤ 9 := by omega
      have q := c_address n (by omega)
      rw [show numS n = 48 :: 120 :: hexS n from if_neg h9]
      refine PC.enter 86 Tryz.func75 rfl (by decide) rfl rfl (s := [(0, exV (.mk 1 (n : Int) s w l))]) (by rfl) ?_
      simp only [exV_mk]; refine wG Y75_E2 h9' ?_; refine AR.callP q True.intro (AI byL_id (AI (@exL_id) (AI (@exV_id) sL_id))) ?_; refine goG Y75_E2 True.intro ?_; refine wG Y75_E2 True.intro ?_; exact Fin.oneP
  · rw [show txN 2 (n : Int) s.data.toList w l (l.map txE) = s.data.toList from rfl, show ByteArray.mk s.data.toList.toArray = s from rfl]
    refine PC.enter 86 Tryz.func75 rfl (by decide) rfl rfl (s := [(0, exV (.mk 2 (n : Int) s w l))]) (by rfl) ?_
    simp only [exV_mk]; refine wG Y75_E2 True.intro ?_; exact Fin.oneP
  · obtain ⟨a, b, rfl⟩ : ∃ a b, l = [a, b] := by
      match l, h4 with
      | [a, b], _ => exact ⟨a, b, rfl⟩
    have e1 : txN o (n : Int) s.data.toList w [a, b] ([a, b].map txE) = opdT a.op (txE a) (stO o) ++ ([32] ++ (symB o ++ ([32] ++ opdT b.op (txE b) (stO o + 1)))) := by
      unfold txN; rw [if_neg (by omega), if_neg (by omega), if_neg (by omega), if_neg (by omega), if_neg (by omega), if_neg (by omega)]
      rfl
    rw [e1] at hlen ⊢; obtain ⟨_, _, q3, _⟩ := symB_ok ho; have hl0 := hlen; simp only [List.length_append] at hl0; have la := opdT_len a.op (txE a) (stO o); have lb := opdT_len b.op (txE b) (stO o + 1); have qa := c_operand a (stO o) (by omega) (by omega) (IH a (by simp) (by omega))
    have qb := c_operand b (stO o + 1) (by omega) (by omega) (IH b (by simp) (by omega))
    have qo := c_binary o ho; have qj := c_j5 (opdT a.op (txE a) (stO o)) [32] (symB o) [32] (opdT b.op (txE b) (stO o + 1)) _ rfl hlen; have hw : IntKind.i64.wrap ((stO o : Int) + 1) = ((stO o + 1 : Nat) : Int) := by rw [wrap_in (by omega)]; omega
    have n1 : ¬ o = 1 := by omega
    have n2 : ¬ o = 2 := by omega
    have n3 : ¬ o = 18 := by omega
    have n4 : ¬ o = 19 := by omega
    have n5 : ¬ o = 16 := by omega
    have n6 : ¬ o = 17 := by omega
    clear IH; refine PC.enter 86 Tryz.func75 rfl (by decide) rfl rfl (s := [(0, exV (.mk o (n : Int) s w [a, b]))]) (by rfl) ?_
    simp only [exV_mk]; refine wG Y75_E2 (AI n1 (AI n2 (AI n3 (AI n4 (AI n5 n6))))) ?_; refine AR.callP qo True.intro (AI byL_id (AI (@exL_id) (AI (@exV_id) sL_id))) ?_; refine goG Y75_E2 True.intro ?_; refine wdG Y75_E2 BN01 ?_; refine AR.callP qa @exV_eq (AI byL_id (AI (@exL_id) (AI (@exV_id) sL_id))) ?_; refine goG Y75_E2 (AI (@exV_firm) (AI (@exV_strip) (AI (@exV_live) (AI (@exV_size) (AI (@exV_isAg) (AI (@exV_cells) (AI (@List.getElem?_map.{0, 0}) (AI (@Int.natCast_nonneg) hw)))))))) ?_; refine AR.callP qb @exV_eq (AI byL_id (AI (@exL_id) (AI (@exV_id) sL_id))) ?_; refine goG Y75_E2 True.intro ?_; refine AR.callW qj True.intro (AI byL_id (AI (@exL_id) (AI (@exV_id) sL_id))) ?_; refine goG Y75_E2 True.intro ?_; refine wdG Y75_E2 True.intro ?_; exact Fin.oneP
  · obtain ⟨a, rfl⟩ : ∃ a, l = [a] := by
      match l, h4 with
      | [a], _ => exact ⟨a, rfl⟩
    rcases ho with rfl | rfl
    · have e1 : txN 16 (n : Int) s.data.toList w [a] ([a].map txE) = [33] ++ opdT a.op (txE a) 9 := rfl
      rw [e1] at hlen ⊢; have hl0 := hlen; simp only [List.length_append] at hl0; have la := opdT_len a.op (txE a) 9; have qa := c_operand a 9 (by omega) (by omega) (IH a (by simp) (by omega))
      rw [show ((9 : Nat) : Int) = 9 from rfl] at qa
      have qj := c_j2 [33] (opdT a.op (txE a) 9) _ rfl hlen; refine PC.enter 86 Tryz.func75 rfl (by decide) rfl rfl (s := [(0, exV (.mk 16 (n : Int) s w [a]))]) (by rfl) ?_
      simp only [exV_mk]; refine wG Y75_E2 BN01 ?_; refine AR.callP qa @exV_eq (AI byL_id (AI (@exL_id) (AI (@exV_id) sL_id))) ?_; refine goG Y75_E2 True.intro ?_; refine AR.callW qj True.intro (AI byL_id (AI (@exL_id) (AI (@exV_id) sL_id))) ?_; refine goG Y75_E2 True.intro ?_; refine wG Y75_E2 True.intro ?_; exact Fin.oneP
    · have e1 : txN 17 (n : Int) s.data.toList w [a] ([a].map txE) = [45] ++ opdT a.op (txE a) 9 := rfl
      rw [e1] at hlen ⊢; have hl0 := hlen; simp only [List.length_append] at hl0; have la := opdT_len a.op (txE a) 9; have qa := c_operand a 9 (by omega) (by omega) (IH a (by simp) (by omega))
      rw [show ((9 : Nat) : Int) = 9 from rfl] at qa
      have qj := c_j2 [45] (opdT a.op (txE a) 9) _ rfl hlen; refine PC.enter 86 Tryz.func75 rfl (by decide) rfl rfl (s := [(0, exV (.mk 17 (n : Int) s w [a]))]) (by rfl) ?_
      simp only [exV_mk]; refine wG Y75_E2 BN01 ?_; refine AR.callP qa @exV_eq (AI byL_id (AI (@exL_id) (AI (@exV_id) sL_id))) ?_; refine goG Y75_E2 True.intro ?_; refine AR.callW qj True.intro (AI byL_id (AI (@exL_id) (AI (@exV_id) sL_id))) ?_; refine goG Y75_E2 True.intro ?_; refine wG Y75_E2 True.intro ?_; exact Fin.oneP
  · obtain ⟨a, rfl⟩ : ∃ a, l = [a] := by
      match l, h4 with
      | [a], _ => exact ⟨a, rfl⟩
    have e1 : txN 18 (n : Int) s.data.toList w [a] ([a].map txE) = [108, 111, 97, 100] ++ (wB w ++ ([40] ++ (txE a ++ [41]))) := rfl; rw [e1] at hlen ⊢; have hl0 := hlen; simp only [List.length_append] at hl0; have qa := IH a (by simp) (by omega)
    have qi := c_Itoa w (by omega) (by omega)
    rw [itoa_w h3] at qi; have qj := c_j5 [108, 111, 97, 100] (wB w) [40] (txE a) [41] _ rfl hlen; refine PC.enter 86 Tryz.func75 rfl (by decide) rfl rfl (s := [(0, exV (.mk 18 (n : Int) s w [a]))]) (by rfl) ?_
    simp only [exV_mk]; refine wdG Y75_E2 BN01 ?_; refine AR.callP qi True.intro (AI byL_id (AI (@exL_id) (AI (@exV_id) sL_id))) ?_; refine goG Y75_E2 BN01 ?_; refine AR.callP qa @exV_eq (AI byL_id (AI (@exL_id) (AI (@exV_id) sL_id))) ?_; refine goG Y75_E2 True.intro ?_; refine AR.callW qj True.intro (AI byL_id (AI (@exL_id) (AI (@exV_id) sL_id))) ?_; refine goG Y75_E2 True.intro ?_; refine wdG Y75_E2 True.intro ?_; exact Fin.oneP
  · obtain ⟨a, rfl⟩ : ∃ a, l = [a] := by
      match l, h4 with
      | [a], _ => exact ⟨a, rfl⟩
    have e1 : txN 19 (n : Int) s.data.toList w [a] ([a].map txE) = [115, 101, 120, 116] ++ (wB w ++ ([40] ++ (txE a ++ [41]))) := rfl; rw [e1] at hlen ⊢; have hl0 := hlen; simp only [List.length_append] at hl0; have qa := IH a (by simp) (by omega)
    have qi := c_Itoa w (by omega) (by omega)
    rw [itoa_w (by omega)] at qi
    have qj := c_j5 [115, 101, 120, 116] (wB w) [40] (txE a) [41] _ rfl hlen; refine PC.enter 86 Tryz.func75 rfl (by decide) rfl rfl (s := [(0, exV (.mk 19 (n : Int) s w [a]))]) (by rfl) ?_
    simp only [exV_mk]; refine wdG Y75_E2 BN01 ?_; refine AR.callP qi True.intro (AI byL_id (AI (@exL_id) (AI (@exV_id) sL_id))) ?_; refine goG Y75_E2 BN01 ?_; refine AR.callP qa @exV_eq (AI byL_id (AI (@exL_id) (AI (@exV_id) sL_id))) ?_; refine goG Y75_E2 True.intro ?_; refine AR.callW qj True.intro (AI byL_id (AI (@exL_id) (AI (@exV_id) sL_id))) ?_; refine goG Y75_E2 True.intro ?_; refine wdG Y75_E2 True.intro ?_; exact Fin.oneP
theorem Y31_E2 : type_of% (AI @F_ag_46 (@F_sz_46)) := AI @F_ag_46 (@F_sz_46)
theorem c_PrintExpr (e : Ex) (hfit : fitE e) (hlen : (prE e).length ≤ 140737488355328) : PC Tryz.prog 31 [exV e] (.im (.string ⟨(prE e).toArray⟩)) := by
  have q1 := c_eshallow e hfit 64 (by unfold I64; omega)
  unfold prE at hlen ⊢
  cases h1 : esh e 64 with
  | false =>
    rw [h1] at q1; refine PC.enter 13 Tryz.func31 rfl (by decide) rfl rfl (s := [(0, exV e)]) (by rfl) ?_
    refine wG Y31_E2 BN01 ?_; refine AR.callP q1 @exV_eq (AI byL_id (AI (@exL_id) (AI (@exV_id) sL_id))) ?_; refine goG Y31_E2 True.intro ?_; refine wG Y31_E2 True.intro ?_; exact Fin.oneP
  | true =>
    rw [h1] at q1 hlen; have q2 := c_eformed e hfit; cases h2 : efm e with
    | false =>
      rw [h2] at q2; refine PC.enter 13 Tryz.func31 rfl (by decide) rfl rfl (s := [(0, exV e)]) (by rfl) ?_
      refine wG Y31_E2 BN01 ?_; refine AR.callP q1 @exV_eq (AI byL_id (AI (@exL_id) (AI (@exV_id) sL_id))) ?_; refine goG Y31_E2 BN01 ?_; refine AR.callP q2 @exV_eq (AI byL_id (AI (@exL_id) (AI (@exV_id) sL_id))) ?_; refine goG Y31_E2 True.intro ?_; refine wG Y31_E2 True.intro ?_; exact Fin.oneP
    | true =>
      rw [h2] at q2 hlen; have q3 := c_text e hfit h2 hlen; refine PC.enter 13 Tryz.func31 rfl (by decide) rfl rfl (s := [(0, exV e)]) (by rfl) ?_
      refine wG Y31_E2 BN01 ?_; refine AR.callP q1 @exV_eq (AI byL_id (AI (@exL_id) (AI (@exV_id) sL_id))) ?_; refine goG Y31_E2 BN01 ?_; refine AR.callP q2 @exV_eq (AI byL_id (AI (@exL_id) (AI (@exV_id) sL_id))) ?_; refine goG Y31_E2 True.intro ?_; refine wG Y31_E2 BN01 ?_; refine AR.callP q3 @exV_eq (AI byL_id (AI (@exL_id) (AI (@exV_id) sL_id))) ?_; refine goG Y31_E2 True.intro ?_; refine wG Y31_E2 True.intro ?_; exact Fin.oneP
theorem Y24_E3 : type_of% (AI @F_ag_3 (AI @F_ag_43 (AI @F_ag_44 (AI @F_ag_46 (AI @F_ag_9 (AI @F_el_44 (AI @F_fl_46_0 (AI @F_fl_46_1 (AI @F_fl_46_2 (AI @F_fl_46_3 (AI @F_fl_46_4 (AI @F_sz_3 (AI @F_sz_43 (AI @F_sz_44 (AI @F_sz_46 (@F_sz_9)))))))))))))))) := AI @F_ag_3 (AI @F_ag_43 (AI @F_ag_44 (AI @F_ag_46 (AI @F_ag_9 (AI @F_el_44 (AI @F_fl_46_0 (AI @F_fl_46_1 (AI @F_fl_46_2 (AI @F_fl_46_3 (AI @F_fl_46_4 (AI @F_sz_3 (AI @F_sz_43 (AI @F_sz_44 (AI @F_sz_46 (@F_sz_9)))))))))))))))
theorem c_SameExpr : ∀ (a : Ex), fitE a → ∀ b, fitE b → PC Tryz.prog 24 [exV a, exV b] (.im (.bool (samE a b))) := by
  refine Ex.induct fun o k s w l hL => ?_
  intro hfit b hfb
  obtain ⟨o', k', s', w', l'⟩ := b
  obtain ⟨hl1, hfL⟩ := fitE_mk hfit
  obtain ⟨hl2, hfL'⟩ := fitE_mk hfb
  rw [samE_mk]
  simp only [Ex.op, Ex.n, Ex.name, Ex.width, Ex.l]
  refine PC.enter 60 Tryz.func24 rfl (by decide) rfl rfl (s := [(0, exV (.mk o k s w l)), (1, exV (.mk o' k' s' w' l'))]) (by rfl) ?_
  simp only [exV_mk]
  refine wG Y24_E3 True.intro ?_
  refine AWp.condAB rfl rfl (fun hE => ?_) (fun hE => ?_)
  · have hr : (o == o' && k == k' && eqS s s' && w == w' && all2 samE l l') = false := by
      simp only [Bool.or_eq_true, bne_iff_ne, ne_eq, Bool.not_eq_true', decide_eq_false_iff_not, beq_eq_false_iff_ne] at hE; rcases hE with (((hE | hE) | hE) | hE) | hE
      · simp [hE]
      · simp [hE]
      · have : eqS s s' = false := by unfold eqS; simpa using hE
        simp [this]
      · simp [hE]
      · rw [all2_ne (by omega)]; simp
    rw [hr]; refine wG Y24_E3 True.intro ?_; exact Fin.oneP
  · simp only [Bool.or_eq_false_iff, bne_eq_false_iff_eq, beq_iff_eq, Bool.not_eq_false', decide_eq_true_eq] at hE
    obtain ⟨⟨⟨⟨rfl, rfl⟩, hs⟩, rfl⟩, h4⟩ := hE; obtain rfl : s = s' := (eqS_iff s s').1 (by unfold eqS; simpa using hs)
    have h4 : l.length = l'.length := by omega
    have hr : (o == o && k == k && eqS s s && w == w && all2 samE l l') = all2 samE l l' := by simp [eqS_refl]
    rw [hr]; clear hr hs; refine wG Y24_E3 True.intro ?_; refine AWp.loop ?_; refine ALp.cutP 2 [(2, .pt 0 0), (3, .pt 1 0), (5, (.im (.int .i64 ((((0 : Nat)) : Int)))))] [.box [.im (.int .i64 o), .im (.int .u32 k), .im (.string s), .im (.int .i64 w), .sl (l.map exV) .ro], .box [.im (.int .i64 o), .im (.int .u32 k), .im (.string s), .im (.int .i64 w), .sl (l'.map exV) .ro]] (AI (@exL_id) (AI (@vaL_id) (AI (@exV_id) @vaV_id))) ?_; refine ALp.upto l.length (to2 samE l l') (fun m => ⟨dn 60 [(2, .pt 0 0), (3, .pt 1 0), (5, (.im (.int .i64 ((((m : Nat)) : Int)))))], ofl [.box [.im (.int .i64 o), .im (.int .u32 k), .im (.string s), .im (.int .i64 w), .sl (l.map exV) .ro], .box [.im (.int .i64 o), .im (.int .u32 k), .im (.string s), .im (.int .i64 w), .sl (l'.map exV) .ro]]⟩) ?_ 0 (Nat.zero_le _) (to2.zero _ _ _)
    intro m hm hI hnext
    by_cases hlt : m < l.length
    · have hlt2 : m < l'.length := by omega
      have hlt' : (m : Int) < (l.length : Int) := by omega
      have hlt2' : (m : Int) < (l'.length : Int) := by omega
      have hg := get_some hlt; have hg2 := get_some hlt2; have hm1 := wrap_succ hlt (by omega)
      have hc := hL l[m] (List.getElem_mem hlt) (hfL _ (List.getElem_mem hlt)) l'[m] (hfL' _ (List.getElem_mem hlt2)); refine wdG Y24_E3 (AI hlt' (AI hlt2' (AI hg (AI hg2 EX)))) ?_; refine AR.callP hc @exV_eq (AI (@exL_id) (AI (@vaL_id) (AI (@exV_id) @vaV_id))) ?_; cases hs : samE l[m] l'[m] with
      | false =>
        rw [all2_at hlt hlt2 hs]; refine goG Y24_E3 hs ?_; refine wdG Y24_E3 True.intro ?_; exact Fin.oneP
      | true =>
        refine goG Y24_E3 hs ?_; refine wdG Y24_E3 hm1 ?_; refine ALp.cutP 2 [(2, .pt 0 0), (3, .pt 1 0), (5, (.im (.int .i64 ((((m + 1 : Nat)) : Int)))))] [.box [.im (.int .i64 o), .im (.int .u32 k), .im (.string s), .im (.int .i64 w), .sl (l.map exV) .ro], .box [.im (.int .i64 o), .im (.int .u32 k), .im (.string s), .im (.int .i64 w), .sl (l'.map exV) .ro]] (AI (@exL_id) (AI (@vaL_id) (AI (@exV_id) @vaV_id))) ?_; exact hnext (m + 1) (by omega) (by omega) (hI.succ hlt hlt2 hs)
    obtain rfl : m = l.length := by omega
    rw [hI.all h4]; clear hnext hI; refine wG Y24_E3 @Int.lt_irrefl ?_; exact Fin.oneP
end Go.Proofs.YtmbmmckagcdapaaGreatDoor
