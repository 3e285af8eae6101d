import Derived.Test.YtmbmmckagcdapaaGreatDoorK10
import Derived.Test.YtmbmmckagcdapaaGreatDoorK25
import Derived.Test.YtmbmmckagcdapaaGreatDoorK14
set_option linter.unusedSimpArgs false
set_option linter.unusedVariables false
set_option linter.unnecessarySimpa false
namespace Go.Proofs.YtmbmmckagcdapaaGreatDoor
open Go.RowKit
theorem u8_hi (c : UInt8) : ((c.toNat : Nat) : Int).fdiv (2 ^ min 4 IntKind.u8.bits) = ((c.toNat / 16 : Nat) : Int) :=
  of_decide_eq_true (u8_all (fun c => decide (((c.toNat : Nat) : Int).fdiv (2 ^ min 4 IntKind.u8.bits) = ((c.toNat / 16 : Nat) : Int))) (by decide +kernel) c)
theorem u8_lo (c : UInt8) : IntKind.u8.wrap ↑(BitVec.ofInt IntKind.u8.bits ↑c.toNat &&& BitVec.ofInt IntKind.u8.bits 15).toNat = ((c.toNat % 16 : Nat) : Int) :=
  of_decide_eq_true (u8_all (fun c => decide (IntKind.u8.wrap ↑(BitVec.ofInt IntKind.u8.bits ↑c.toNat &&& BitVec.ofInt IntKind.u8.bits 15).toNat = ((c.toNat % 16 : Nat) : Int))) (by decide +kernel) c)
theorem hexD_get : ∀ {n : Nat}, n < 16 → ([48, 49, 50, 51, 52, 53, 54, 55, 56, 57, 97, 98, 99, 100, 101, 102] : Bs)[n]? = some (hexD n) := by
  intro n h
  have : ∀ n < 16, ([48, 49, 50, 51, 52, 53, 54, 55, 56, 57, 97, 98, 99, 100, 101, 102] : Bs)[n]? = some (hexD n) := by decide
  exact this n h
theorem Y138_T16 : type_of% (AI @F_ag_5 (AI @F_al_5 (AI @F_by_5 (AI @F_el_69 (AI @F_in_69 (AI @F_in_9 (AI @F_sz_5 (AI @F_un_5 (AI @F_un_69 (@F_un_9)))))))))) := AI @F_ag_5 (AI @F_al_5 (AI @F_by_5 (AI @F_el_69 (AI @F_in_69 (AI @F_in_9 (AI @F_sz_5 (AI @F_un_5 (AI @F_un_69 (@F_un_9)))))))))
set_option maxHeartbeats 2000000 in
theorem c_quote (s : Bs) (hs : s.length ≤ 4194304) : PC Tryz.prog 138 [.im (.string ⟨(s).toArray⟩)] (.im (.string ⟨(quoS s).toArray⟩)) := by
  have hA0 : s.length ≤ 140737488355328 := by omega
  refine PC.enter 48 Tryz.func138 rfl (by decide) rfl rfl (s := [(0, .im (.string ⟨(s).toArray⟩))]) (by rfl) ?_
  refine wG Y138_T16 (AI BY (AI bS_size hA0)) ?_
  refine AWp.loop ?_
  refine ALp.ghost 3 [.im (.int .u8 (34))] .full 5 1 ?_
  suffices H : ∀ (k m : Nat) (A : Bs), s.length - m = k → m ≤ s.length → A = 34 :: (s.take m).flatMap escC → ALp _ _ _ _ _ ⟨dn 48 [(0, .im (.string ⟨(s).toArray⟩)), (3, .sl (A.map byB) (.own 0)), (8, .sl (s.map byB) .ro), (9, (.im (.int .i64 (s.length)))), (10, (.im (.int .i64 ((((m : Nat)) : Int)))))], ofl [.tip 5 1 A.length]⟩ by
    refine ALp.cutP 1 [(0, .im (.string ⟨(s).toArray⟩)), (3, .sl (([34] : Bs).map byB) (.own 0)), (8, .sl (s.map byB) .ro), (9, (.im (.int .i64 (s.length)))), (10, (.im (.int .i64 ((((0 : Nat)) : Int)))))] [.tip 5 1 ([34] : Bs).length] byL_id ?_; exact H _ 0 [34] rfl (Nat.zero_le _) (by simp)
  intro k
  induction k using Nat.strongRecOn with
  | _ k ih =>
  intro m A hk hml hA
  have hAl : A.length ≤ 1 + 4 * m := by
    rw [hA]
    have : ∀ l : Bs, (l.flatMap escC).length ≤ 4 * l.length := fun l => by
      induction l with
      | nil => simp
      | cons c l ih =>
        have h1 : (escC c).length ≤ 4 := by unfold escC; split <;> (try split) <;> simp
        rw [List.flatMap_cons, List.length_append, List.length_cons]; omega
    have h2 := this (s.take m); rw [List.length_take] at h2; rw [List.length_cons]; omega
  refine ALp.round ?_
  by_cases hlt : m < s.length
  case neg =>
    obtain rfl : m = s.length := by omega
    have hn : ¬ (s.length : Int) < (s.length : Int) := by omega
    obtain ⟨B, hB⟩ : ∃ B, B = A ++ [34] := ⟨_, rfl⟩
    have hQ : quoS s = B := by rw [hB, hA, List.take_length]; rfl
    have hAs : A.map byB ++ [V.im (.int .u8 34)] = B.map byB := by rw [hB, List.map_append]; rfl
    have hAk : A.length + 1 = B.length := by rw [hB]; simp
    have hbl : B.length ≤ 140737488355328 := by omega
    have hb := bytesOf_map B; rw [hQ]; clear ih hA hB hQ; refine wG Y138_T16 (AI BY (AI hn (AI bS_size (AI hAs (AI hAk (AI hbl (AI hb (AI (@List.length_map.{0, 0}) @Nat.mul_one)))))))) ?_; refine Fin.gen0 (rs := [.tmp 2]) rfl (by first | exact .inl rfl | exact .inr rfl) (finG Y138_T16) ?_
    all_goals exact wkG byL_id
  have hlt' : (m : Int) < (s.length : Int) := by omega
  have hw1 := wrap_succ hlt (by omega)
  have hg : s[m]? = some s[m] := List.getElem?_eq_getElem hlt
  have hst : s.take (m + 1) = s.take m ++ [s[m]] := List.take_succ_eq_append_getElem hlt
  obtain ⟨B, hB⟩ : ∃ B, B = A ++ escC s[m] := ⟨_, rfl⟩
  have hI := ih (s.length - (m + 1)) (by omega) (m + 1) B rfl (by omega) (by rw [hB, hA, hst, List.flatMap_append]; simp)
  clear ih hst
  generalize s[m] = c at hg hB
  by_cases h34 : c.toNat = 34 ∨ c.toNat = 92
  · rw [show escC c = [92, c] from if_pos h34] at hB
    have hAs : A.map byB ++ [V.im (.int .u8 92), V.im (.int .u8 c.toNat)] = B.map byB := by rw [hB, List.map_append]; rfl
    have hAk : A.length + 2 = B.length := by rw [hB]; simp
    have hbl : B.length ≤ 140737488355328 := by omega
    clear hA hB
    by_cases h1 : c.toNat = 34
    · have e1 : (c.toNat : Int) = 34 := by omega
      rw [e1] at hAs; refine wG Y138_T16 (AI BY (AI hlt' (AI bS_size (AI hg (AI e1 (AI hAs (AI hAk (AI hbl (AI hw1 (AI (@List.length_map.{0, 0}) @Nat.mul_one)))))))))) ?_; refine ALp.cutP 1 [(0, .im (.string ⟨(s).toArray⟩)), (3, .sl (B.map byB) (.own 0)), (8, .sl (s.map byB) .ro), (9, (.im (.int .i64 (s.length)))), (10, (.im (.int .i64 ((((m + 1 : Nat)) : Int)))))] [.tip 5 1 B.length] byL_id ?_; exact hI
    · have e1 : ¬ (c.toNat : Int) = 34 := by omega
      have e2 : (c.toNat : Int) = 92 := by omega
      rw [e2] at hAs; refine wG Y138_T16 (AI BY (AI hlt' (AI bS_size (AI hg (AI e1 (AI e2 (AI hAs (AI hAk (AI hbl (AI hw1 (AI (@List.length_map.{0, 0}) @Nat.mul_one))))))))))) ?_; refine ALp.cutP 1 [(0, .im (.string ⟨(s).toArray⟩)), (3, .sl (B.map byB) (.own 0)), (8, .sl (s.map byB) .ro), (9, (.im (.int .i64 (s.length)))), (10, (.im (.int .i64 ((((m + 1 : Nat)) : Int)))))] [.tip 5 1 B.length] byL_id ?_; exact hI
  rw [show escC c = if c.toNat < 32 ∨ 126 < c.toNat then [92, 120, hexD (c.toNat / 16), hexD (c.toNat % 16)] else [c] from if_neg h34] at hB
  have e1 : ¬ (c.toNat : Int) = 34 := by omega
  have e2 : ¬ (c.toNat : Int) = 92 := by omega
  by_cases h32 : c.toNat < 32 ∨ 126 < c.toNat
  · rw [if_pos h32] at hB
    have hAs : A.map byB ++ [V.im (.int .u8 92), V.im (.int .u8 120), V.im (.int .u8 (hexD (c.toNat / 16)).toNat), V.im (.int .u8 (hexD (c.toNat % 16)).toNat)] = B.map byB := by rw [hB, List.map_append]; rfl
    have hAk : A.length + 4 = B.length := by rw [hB]; simp
    have hbl : B.length ≤ 140737488355328 := by omega
    clear hA hB; have hd1 := hexD_get (show c.toNat / 16 < 16 by have := c.toNat_lt; omega)
    have hd2 := hexD_get (show c.toNat % 16 < 16 by omega)
    by_cases h1 : c.toNat < 32
    · have e3 : (c.toNat : Int) < 32 := by omega
      refine wG Y138_T16 (AI BY (AI hlt' (AI bS_size (AI hg (AI e1 (AI e2 e3)))))) ?_; refine wdG Y138_T16 (AI BY (AI GDS (AI hlt' (AI bS_size (AI hg (AI e1 (AI e2 (AI e3 (AI u8_hi (AI u8_lo (AI hd1 (AI hd2 (AI hAs (AI hAk (AI hbl (AI hw1 (AI (@List.length_map.{0, 0}) @Nat.mul_one))))))))))))))))) ?_; refine ALp.cutP 1 [(0, .im (.string ⟨(s).toArray⟩)), (3, .sl (B.map byB) (.own 0)), (8, .sl (s.map byB) .ro), (9, (.im (.int .i64 (s.length)))), (10, (.im (.int .i64 ((((m + 1 : Nat)) : Int)))))] [.tip 5 1 B.length] byL_id ?_; exact hI
    · have e3 : ¬ (c.toNat : Int) < 32 := by omega
      have e4 : (c.toNat : Int) > 126 := by omega
      refine wG Y138_T16 (AI BY (AI hlt' (AI bS_size (AI hg (AI e1 (AI e2 (AI e3 e4))))))) ?_; refine wdG Y138_T16 (AI BY (AI GDS (AI hlt' (AI bS_size (AI hg (AI e1 (AI e2 (AI e3 (AI e4 (AI u8_hi (AI u8_lo (AI hd1 (AI hd2 (AI hAs (AI hAk (AI hbl (AI hw1 (AI (@List.length_map.{0, 0}) @Nat.mul_one)))))))))))))))))) ?_; refine ALp.cutP 1 [(0, .im (.string ⟨(s).toArray⟩)), (3, .sl (B.map byB) (.own 0)), (8, .sl (s.map byB) .ro), (9, (.im (.int .i64 (s.length)))), (10, (.im (.int .i64 ((((m + 1 : Nat)) : Int)))))] [.tip 5 1 B.length] byL_id ?_; exact hI
  rw [if_neg h32] at hB
  have hAs : A.map byB ++ [V.im (.int .u8 c.toNat)] = B.map byB := by rw [hB, List.map_append]; rfl
  have hAk : A.length + 1 = B.length := by rw [hB]; simp
  have hbl : B.length ≤ 140737488355328 := by omega
  have e3 : ¬ (c.toNat : Int) < 32 := by omega
  have e4 : ¬ (c.toNat : Int) > 126 := by omega
  clear hA hB
  refine wG Y138_T16 (AI BY (AI hlt' (AI bS_size (AI hg (AI e1 (AI e2 (AI e3 (AI e4 (AI hAs (AI hAk (AI hbl (AI hw1 (AI (@List.length_map.{0, 0}) @Nat.mul_one))))))))))))) ?_
  refine ALp.cutP 1 [(0, .im (.string ⟨(s).toArray⟩)), (3, .sl (B.map byB) (.own 0)), (8, .sl (s.map byB) .ro), (9, (.im (.int .i64 (s.length)))), (10, (.im (.int .i64 ((((m + 1 : Nat)) : Int)))))] [.tip 5 1 B.length] byL_id ?_
  exact hI
def scnR (s : Bs) : List Tk × Int := if 65536 < s.length then ([], 6) else ((scnB s).1, if (scnB s).2 then 0 else 3)
theorem Y28_T13 : type_of% (AI @F_ag_122 (AI @F_ag_3 (AI @F_ag_52 (AI @F_ag_9 (AI @F_al_120 (AI @F_al_122 (AI @F_by_122 (AI @F_el_52 (AI @F_fl_120_0 (AI @F_fl_120_1 (AI @F_fl_120_2 (AI @F_fl_120_3 (AI @F_fl_122_3 (AI @F_fl_122_4 (AI @F_st_120 (AI @F_st_122 (AI @F_sz_122 (AI @F_sz_3 (AI @F_sz_52 (AI @F_sz_9 (@F_un_9))))))))))))))))))))) := AI @F_ag_122 (AI @F_ag_3 (AI @F_ag_52 (AI @F_ag_9 (AI @F_al_120 (AI @F_al_122 (AI @F_by_122 (AI @F_el_52 (AI @F_fl_120_0 (AI @F_fl_120_1 (AI @F_fl_120_2 (AI @F_fl_120_3 (AI @F_fl_122_3 (AI @F_fl_122_4 (AI @F_st_120 (AI @F_st_122 (AI @F_sz_122 (AI @F_sz_3 (AI @F_sz_52 (AI @F_sz_9 (@F_un_9))))))))))))))))))))
set_option maxHeartbeats 2000000 in
theorem c_Scan (s : Bs) (hs : s.length ≤ 4194304) : PC Tryz.prog 28 [.im (.string ⟨(s).toArray⟩)] (.tu [.sl ((scnR s).1.map tkV) .ro, .im (.int .i64 (scnR s).2)]) := by
  by_cases hbig : 65536 < s.length
  · have hb : (s.length : Int) > 65536 := by omega
    rw [show scnR s = ([], 6) from if_pos hbig]
    refine PC.enter 73 Tryz.func28 rfl (by decide) rfl rfl (s := [(0, .im (.string ⟨(s).toArray⟩))]) (by rfl) ?_
    refine wG Y28_T13 (AI BY (AI bS_size hb)) ?_; refine Fin.gen0 (rs := [.tmp 2, .tmp 3]) rfl (by first | exact .inl rfl | exact .inr rfl) (finG Y28_T13) ?_
    all_goals exact wkG (AI tkL_id (AI tkV_id byL_id))
  have hb : ¬ (s.length : Int) > 65536 := by omega
  rw [show scnR s = ((scnB s).1, if (scnB s).2 then 0 else 3) from if_neg hbig]
  refine PC.enter 73 Tryz.func28 rfl (by decide) rfl rfl (s := [(0, .im (.string ⟨(s).toArray⟩))]) (by rfl) ?_
  refine AWp.seq ?_
  refine AWp.tail (fun _ : Unit => ⟨dn 73 [(0, .im (.string ⟨(s).toArray⟩)), (2, .sl [] .nl), (3, .im (.int .i64 0))], ofl []⟩) (fun _ => ?_) (fun rest ht => ?_)
  case refine_2 =>
    refine wG Y28_T13 True.intro ?_; refine AWp.cutP 0 [(0, .im (.string ⟨(s).toArray⟩)), (2, .sl [] .nl), (3, .im (.int .i64 0))] [] (AI tkL_id (AI tkV_id (AI byL_id True.intro))) ?_; exact ht ()
  refine AWp.seq ?_
  refine AWp.tail (fun _ : Unit => ⟨dn 73 [(0, .im (.string ⟨(s).toArray⟩)), (2, .sl [] .nl), (3, .im (.int .i64 0))], ofl []⟩) (fun _ => ?_) (fun rest ht => ?_)
  case refine_2 =>
    refine wG Y28_T13 (AI BY (AI bS_size hb)) ?_; refine AWp.cutP 0 [(0, .im (.string ⟨(s).toArray⟩)), (2, .sl [] .nl), (3, .im (.int .i64 0))] [] (AI tkL_id (AI tkV_id (AI byL_id True.intro))) ?_; exact ht ()
  refine AWp.seq ?_
  refine AWp.tail (fun _ : Unit => ⟨dn 73 [(0, .im (.string ⟨(s).toArray⟩)), (2, .sl [] .nl), (3, .im (.int .i64 0)), (4, .pt 0 0)], ofl [.box [.im (.string ⟨(s).toArray⟩), (.im (.int .i64 (1))), (.im (.int .i64 (1))), .sl [] .nl]]⟩) (fun _ => ?_) (fun rest ht => ?_)
  case refine_2 =>
    refine wG Y28_T13 BY ?_; refine AWp.cutP 1 [(0, .im (.string ⟨(s).toArray⟩)), (2, .sl [] .nl), (3, .im (.int .i64 0)), (4, .pt 0 0)] [.box [.im (.string ⟨(s).toArray⟩), (.im (.int .i64 (1))), (.im (.int .i64 (1))), .sl [] .nl]] (AI tkL_id (AI tkV_id (AI byL_id True.intro))) ?_; exact ht ()
  refine AWp.ghostB 0 3 [.im (.string ⟨(s).toArray⟩), (.im (.int .i64 (1))), (.im (.int .i64 (1))), .sl [] .nl] 122 5 ?_
  have qb := c_blank s (1, 1) [] (by decide) (by decide) hs
  refine wG Y28_T13 True.intro ?_
  refine AR.callSP [0, 1] qb True.intro (AI tkL_id (AI tkV_id byL_id)) (AI tkV_ren (AI tkL_ren byL_ren)) ?_
  refine goG Y28_T13 True.intro ?_
  refine wG Y28_T13 True.intro ?_
  refine AWp.loop ?_
  suffices H : ∀ (k f : Nat) (x : Bs) (q : Int × Int) (ts : List Tk), x.length = k → x.length < f → skpG false x = x → scnB s = (ts ++ (scnN f x q).1, (scnN f x q).2) → ts.length + x.length ≤ s.length →
      (x = s.drop (s.length - x.length)) → (q = advs (1, 1) (s.take (s.length - x.length))) → ALp _ _ _ _ _ ⟨dn 73 [(0, .im (.string ⟨(s).toArray⟩)), (4, .pt 0 0)], ofl [.box [.im (.string ⟨(x).toArray⟩), (.im (.int .i64 (q.1))), (.im (.int .i64 (q.2))), .sl (ts.map tkV) (.mine 1)], .tip 122 5 ts.length]⟩ by
    refine ALp.cutP 2 [(0, .im (.string ⟨(s).toArray⟩)), (4, .pt 0 0)] [.box [.im (.string ⟨(skpG false s).toArray⟩), (.im (.int .i64 ((skq s (1, 1)).1))), (.im (.int .i64 ((skq s (1, 1)).2))), .sl (([] : List Tk).map tkV) (.mine 1)], .tip 122 5 ([] : List Tk).length] (AI tkL_id (AI tkV_id byL_id)) ?_; exact H _ (s.length + 1) _ _ [] rfl (by have := skp_le false s; omega) (skp_idem s false) (by rw [List.nil_append, ← scnN_skp]; rfl) (by have := skp_le false s; simp; exact this) (List.suffix_iff_eq_drop.1 (skp_suf s false)) rfl
  intro k
  induction k using Nat.strongRecOn with
  | _ k ih =>
  intro f x q ts hk hf hx hE hts hq1 hq2
  refine ALp.round ?_
  cases x with
  | nil =>
    have e0 : (([] : Bs) == []) = true := rfl; rw [scnN_nil, List.append_nil] at hE; rw [hE]; clear ih; refine wG Y28_T13 (AI BY e0) ?_; refine Fin.gen0 (rs := [.tmp 2, .tmp 3]) rfl (by first | exact .inl rfl | exact .inr rfl) (finG Y28_T13) ?_
    all_goals exact wkG (AI tkL_id (AI tkV_id byL_id))
  | cons c r =>
  have e0 : ((c :: r) == ([] : Bs)) = false := rfl
  have hxl : (c :: r).length ≤ 4194304 := by omega
  have qn := c_next (c :: r) q ts hxl (by simp)
  cases f with
  | zero => omega
  | succ f =>
  have hN := scnN_no (f := f) hx (by simp)
  have hY := scnN_ok (f := f) hx (by simp)
  have hlen := nxtR_len (s := c :: r) (by simp)
  generalize nxtR (c :: r) = v at qn hN hY hlen
  obtain ⟨tk, n, b⟩ := v
  have hal : ts.length + 1 ≤ 140737488355328 := by rw [List.length_cons] at hts; omega
  cases b with
  | false =>
    rw [hN rfl q] at hE; rw [hE]; obtain ⟨B, hB⟩ : ∃ B, B = ts ++ [(⟨6, [], 0, q.1, q.2⟩ : Tk)] := ⟨_, rfl⟩
    have hAs : ts.map tkV ++ [V.ag [.im (.int .i64 6), .im (.string ByteArray.empty), .im (.int .u32 0), .im (.int .i64 q.1), .im (.int .i64 q.2)]] = B.map tkV := by rw [hB, List.map_append]; rfl
    have hAl : ts.length + 1 = B.length := by rw [hB]; simp
    have hbl : B.length * 48 ≤ 140737488355328 := by rw [List.length_cons] at hts; omega
    simp only [← hB]; clear ih hN hY hlen; refine wG Y28_T13 (AI BY e0) ?_; refine AR.callQP [0, 1] qn True.intro (AI tkL_id (AI tkV_id byL_id)) (AI tkV_ren (AI tkL_ren byL_ren)) ?_; refine goG Y28_T13 TKT ?_; refine wG Y28_T13 TKT ?_; refine wdG Y28_T13 (AI BY (AI GDS (AI TKT (AI hAs (AI hAl (AI hbl @List.length_map.{0, 0})))))) ?_; refine Fin.gen0 (rs := [.tmp 2, .tmp 3]) rfl (by first | exact .inl rfl | exact .inr rfl) (finG Y28_T13) ?_
    all_goals exact wkG (AI tkL_id (AI tkV_id byL_id))
  | true =>
    rw [hY rfl q] at hE; have hn := hlen rfl; clear hN hY hlen; simp only at hn hE; obtain ⟨B, hB⟩ : ∃ B, B = ts ++ [tk.at_ q] := ⟨_, rfl⟩
    have hAs : ts.map tkV ++ [V.ag [.im (.int .i64 tk.kind), .im (.string ⟨tk.text.toArray⟩), .im (.int .u32 tk.n), .im (.int .i64 q.1), .im (.int .i64 q.2)]] = B.map tkV := by rw [hB, List.map_append]; rfl
    have hAl : ts.length + 1 = B.length := by rw [hB]; simp
    have hbl : B.length * 48 ≤ 140737488355328 := by rw [List.length_cons] at hts; omega
    obtain ⟨a, ha⟩ : ∃ a, a = s.length - (c :: r).length := ⟨_, rfl⟩
    rw [← ha] at hq1 hq2; have hal2 : a + (c :: r).length = s.length := by omega
    have hbq := advs_bound (s.take a) (1, 1) (by decide) (by decide)
    rw [← hq2, List.length_take] at hbq; have hs1 := c_skip (c :: r) q B n hn.2 (by omega) (by omega) hxl
    have hq3 : advs q ((c :: r).take n) = advs (1, 1) (s.take (a + n)) := by rw [hq2, hq1]; exact advs_more (1, 1) s a n
    have hx3 : (c :: r).drop n = s.drop (a + n) := by rw [hq1, List.drop_drop]
    have hbq2 := advs_bound (s.take (a + n)) (1, 1) (by decide) (by decide)
    rw [List.length_take] at hbq2; rw [hq3] at hs1 hE; rw [hx3] at hs1 hE; have hyl : (s.drop (a + n)).length = s.length - (a + n) := List.length_drop; have hs2 := c_blank (s.drop (a + n)) (advs (1, 1) (s.take (a + n))) B (by omega) (by omega) (by omega)
    have hle := skp_le false (s.drop (a + n))
    have hq4 : skq (s.drop (a + n)) (advs (1, 1) (s.take (a + n))) = advs (1, 1) (s.take (s.length - (skpG false (s.drop (a + n))).length)) := by
      unfold skq; rw [advs_more, hyl, show a + n + (s.length - (a + n) - (skpG false (s.drop (a + n))).length) = s.length - (skpG false (s.drop (a + n))).length by omega]
    have hE2 : scnB s = (B ++ (scnN f (skpG false (s.drop (a + n))) (skq (s.drop (a + n)) (advs (1, 1) (s.take (a + n))))).1, (scnN f (skpG false (s.drop (a + n))) (skq (s.drop (a + n)) (advs (1, 1) (s.take (a + n))))).2) := by
      rw [← scnN_skp, hE, hB, List.append_assoc]; rfl
    have hrec := ih (skpG false (s.drop (a + n))).length (by omega) f _ _ B rfl (by omega) (skp_idem _ false) hE2 (by omega) (List.suffix_iff_eq_drop.1 ((skp_suf _ false).trans (List.drop_suffix _ _))) hq4
    clear ih hE hE2 hq4 hle hyl hbq hbq2 hq3 hx3 hq1 hq2 hts; generalize skq (s.drop (a + n)) (advs (1, 1) (s.take (a + n))) = q4 at hs2 hrec; generalize skpG false (s.drop (a + n)) = x4 at hs2 hrec; generalize advs (1, 1) (s.take (a + n)) = q3 at hs1 hs2; generalize s.drop (a + n) = x3 at hs1 hs2; refine wG Y28_T13 (AI BY e0) ?_; refine AR.callQP [0, 1] qn True.intro (AI tkL_id (AI tkV_id byL_id)) (AI tkV_ren (AI tkL_ren byL_ren)) ?_; refine goG Y28_T13 TKT ?_; refine wG Y28_T13 TKT ?_; refine wdG Y28_T13 (AI BY (AI GDS (AI TKT (AI hAs (AI hAl (AI hbl @List.length_map.{0, 0})))))) ?_; refine AR.callSP [0, 1] hs1 True.intro (AI tkL_id (AI tkV_id byL_id)) (AI tkV_ren (AI tkL_ren byL_ren)) ?_; refine goG Y28_T13 True.intro ?_; refine wG Y28_T13 True.intro ?_; refine AR.callSP [0, 1] hs2 True.intro (AI tkL_id (AI tkV_id byL_id)) (AI tkV_ren (AI tkL_ren byL_ren)) ?_; refine goG Y28_T13 True.intro ?_; refine wG Y28_T13 True.intro ?_; refine ALp.cutP 2 [(0, .im (.string ⟨(s).toArray⟩)), (4, .pt 0 0)] [.box [.im (.string ⟨(x4).toArray⟩), (.im (.int .i64 (q4.1))), (.im (.int .i64 (q4.2))), .sl (B.map tkV) (.mine 1)], .tip 122 5 B.length] (AI tkL_id (AI tkV_id byL_id)) ?_; exact hrec
end Go.Proofs.YtmbmmckagcdapaaGreatDoor
