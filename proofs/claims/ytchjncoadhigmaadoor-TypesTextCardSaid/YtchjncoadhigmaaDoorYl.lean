/- Walks: how the reference prints a type. -/
import Derived.Test.YtchjncoadhigmaaDoorHv
import Derived.Test.YtchjncoadhigmaaDoorYg
namespace Go.Proofs.YtchjncoadhigmaaDoor
set_option linter.unusedSimpArgs false
set_option linter.unusedVariables false
set_option linter.unnecessarySimpa false
open Go.RowKit
theorem dec_le : ∀ u : Nat, (Lib.decDigits u).length ≤ u + 1 := by
  intro u
  induction u using Nat.strongRecOn with
  | _ u ih =>
    rw [Lib.decDigits]
    split
    · simp
    · rename_i h
      have := ih (u / 10) (by omega)
      rw [List.length_append, List.length_singleton]
      omega
theorem dec_step {u : Nat} (h : ¬ u < 10) (s : Bs) : Lib.decDigits u ++ s = Lib.decDigits (u / 10) ++ (UInt8.ofNat (48 + u % 10) :: s) := by
  rw [Lib.decDigits, dif_neg h, List.append_assoc]
  rfl
theorem dec_end {u : Nat} (h : u < 10) (s : Bs) : Lib.decDigits u ++ s = UInt8.ofNat (48 + u) :: s := by
  rw [Lib.decDigits, dif_pos h]
  rfl
theorem by1 : ∀ m : Nat, m < 10 → bytesOf [V.im (Value.int IntKind.u8 (IntKind.u8.wrap (IntKind.i64.wrap (48 + (m : Int)))))] = some [UInt8.ofNat (48 + m)] := by
  intro m hm
  match m, hm with
  | 0, _ => exact rfl
  | 1, _ => exact rfl
  | 2, _ => exact rfl
  | 3, _ => exact rfl
  | 4, _ => exact rfl
  | 5, _ => exact rfl
  | 6, _ => exact rfl
  | 7, _ => exact rfl
  | 8, _ => exact rfl
  | 9, _ => exact rfl
theorem sz1 (x : UInt8) (s : Bs) (h : s.length ≤ 1000000001) : ((⟨[x].toArray⟩ : ByteArray)).size + (bA s).size ≤ 9223372036854775807 := by
  rw [bA_size]
  show 1 + s.length ≤ _
  omega
theorem ap1 (x : UInt8) (s : Bs) : (⟨[x].toArray⟩ ++ bA s : ByteArray) = bA (x :: s) := bA_app [x] s
theorem Y74_Yl : type_of% (And.intro @F_al_5 (And.intro @F_el_55 (And.intro @F_in_3 (And.intro @F_in_5 (And.intro @F_in_55 (And.intro @F_in_9 (And.intro @F_sz_5 (And.intro @F_un_3 (And.intro @F_un_5 (And.intro @F_un_55 (@F_un_9))))))))))) := And.intro @F_al_5 (And.intro @F_el_55 (And.intro @F_in_3 (And.intro @F_in_5 (And.intro @F_in_55 (And.intro @F_in_9 (And.intro @F_sz_5 (And.intro @F_un_3 (And.intro @F_un_5 (And.intro @F_un_55 (@F_un_9))))))))))
theorem c_decimal (n : Nat) (hn : n ≤ 1000000000) : PC Tryd.prog 74 [(.im (.int .i64 ((n : Int))))] (.im (.string (bA (Lib.itoa (n : Int))))) := by
  have e0 : Lib.itoa (n : Int) = Lib.decDigits n := by unfold Lib.itoa; rw [if_neg (by omega)]; rfl
  rw [e0]
  have hlen := dec_le n
  refine PC.enter 23 Tryd.func74 rfl (by decide) rfl rfl (s := [(0, (.im (.int .i64 ((n : Int)))))]) (by rfl) ?_
  refine wG Y74_Yl True.intro ?_
  refine AWp.loop ?_
  refine ALp.cutP 0 [(0, (.im (.int .i64 ((n : Int))))), (3, .im (.string (bA [])))] [] (And.intro (@tyV_id) (And.intro (@fdV_id) (And.intro (@tyL_id) (And.intro (@fdL_id) byV_id)))) ?_
  refine ALp.meas (α := Nat × Bs) (fun p => ⟨dn 23 [(0, (.im (.int .i64 (((p.1 : Nat) : Int))))), (3, .im (.string (bA p.2)))], ofl []⟩) (fun p => p.1 ≤ n ∧ Lib.decDigits p.1 ++ p.2 = Lib.decDigits n) (fun p => p.1) ?_ (n, []) ⟨Nat.le_refl _, by simp⟩
  rintro ⟨m, s⟩ ⟨hm, hI⟩ hnext
  simp only at hm hI hnext
  show AWpK _ _ _ _ _ ⟨dn 23 [(0, (.im (.int .i64 ((((m : Nat)) : Int))))), (3, .im (.string (bA s)))], ofl []⟩
  have hsl : s.length ≤ n + 1 := by
    have := congrArg List.length hI
    rw [List.length_append] at this
    omega
  by_cases h10 : m < 10
  · have ht : ¬ (m : Int) ≥ 10 := by omega
    rw [dec_end h10] at hI
    rw [← hI]
    have hb := by1 m h10
    have hz := sz1 (UInt8.ofNat (48 + m)) s (by omega)
    have ha := ap1 (UInt8.ofNat (48 + m)) s
    refine wG Y74_Yl (And.intro ht (And.intro hb (And.intro hz ha))) ?_
    exact Fin.oneP
  · have ht : (m : Int) ≥ 10 := by omega
    rw [dec_step h10] at hI
    have hn := hnext (m / 10, UInt8.ofNat (48 + m % 10) :: s) (by simp only; omega) ⟨by simp only; omega, hI⟩
    clear hnext
    have hb := by1 (m % 10) (by omega)
    have hz := sz1 (UInt8.ofNat (48 + m % 10)) s (by omega)
    have ha := ap1 (UInt8.ofNat (48 + m % 10)) s
    have hm1 : ((m : Nat) : Int).tmod 10 = ((m % 10 : Nat) : Int) := by rw [Int.tmod_eq_emod_of_nonneg (by omega)]; omega
    have hm2 : IntKind.i64.wrap (((m : Nat) : Int).tdiv 10) = ((m / 10 : Nat) : Int) := by
      rw [Int.tdiv_eq_ediv_of_nonneg (by omega)]
      have e : ((m : Nat) : Int) / 10 = ((m / 10 : Nat) : Int) := by omega
      rw [e]
      exact wrap_in (by omega)
    refine wdG Y74_Yl (And.intro ht (And.intro hm1 (And.intro hb (And.intro hz (And.intro ha hm2))))) ?_
    refine ALp.cutP 0 [(0, (.im (.int .i64 (((m / 10 : Nat) : Int))))), (3, .im (.string (bA (UInt8.ofNat (48 + m % 10) :: s))))] [] (And.intro (@tyV_id) (And.intro (@fdV_id) (And.intro (@tyL_id) (And.intro (@fdL_id) byV_id)))) ?_
    exact hn
theorem c_decI (n : Int) (h0 : 0 ≤ n) (h1 : n ≤ 1000000000) : PC Tryd.prog 74 [(.im (.int .i64 (n)))] (.im (.string (bA (Lib.itoa n)))) := by
  have h := c_decimal n.toNat (by omega)
  have e : ((n.toNat : Nat) : Int) = n := by omega
  rw [e] at h
  exact h
/-- Two texts, one behind the other. -/
theorem cat_z (a b : Bs) (h : a.length + b.length ≤ 140737488355328) : (bA a).size + (bA b).size ≤ 9223372036854775807 ∧ bA a ++ bA b = bA (a ++ b) := ⟨by rw [bA_size, bA_size]; omega, bA_app a b⟩
theorem lit_z (x : ByteArray) (a b : Bs) (hx : x = bA a) (h : a.length + b.length ≤ 140737488355328) : x.size + (bA b).size ≤ 9223372036854775807 ∧ x ++ bA b = bA (a ++ b) := by subst hx; exact cat_z a b h
theorem litR_z (x : ByteArray) (a b : Bs) (hx : x = bA b) (h : a.length + b.length ≤ 140737488355328) : (bA a).size + x.size ≤ 9223372036854775807 ∧ bA a ++ x = bA (a ++ b) := by subst hx; exact cat_z a b h
theorem Y51_Yl : type_of% (And.intro @F_ag_22 (And.intro @F_ag_23 (And.intro @F_ag_25 (And.intro @F_ag_3 (And.intro @F_el_22 (And.intro @F_el_23 (And.intro @F_fl_25_0 (And.intro @F_fl_25_1 (And.intro @F_fl_25_2 (And.intro @F_fl_25_3 (And.intro @F_fl_25_4 (And.intro @F_fl_46_0 (And.intro @F_fl_46_1 (And.intro @F_sz_22 (And.intro @F_sz_23 (And.intro @F_sz_25 (And.intro @F_sz_3 (@F_sz_46)))))))))))))))))) := And.intro @F_ag_22 (And.intro @F_ag_23 (And.intro @F_ag_25 (And.intro @F_ag_3 (And.intro @F_el_22 (And.intro @F_el_23 (And.intro @F_fl_25_0 (And.intro @F_fl_25_1 (And.intro @F_fl_25_2 (And.intro @F_fl_25_3 (And.intro @F_fl_25_4 (And.intro @F_fl_46_0 (And.intro @F_fl_46_1 (And.intro @F_sz_22 (And.intro @F_sz_23 (And.intro @F_sz_25 (And.intro @F_sz_3 (@F_sz_46)))))))))))))))))
set_option maxHeartbeats 4000000 in
theorem c_textR : ∀ (t : Ty), fit t → frm t = true → (txT t).length ≤ 140737488355328 → PC Tryd.prog 51 [tyV t] (.im (.string (bA (txT t)))) := by
  refine Ty.induct fun o k s c es fs hE hF => ?_
  intro hfit hfrm hl
  obtain ⟨hl1, hl2, hfE, hfF⟩ := fit_mk hfit
  obtain ⟨hb, hof, hfs, hes⟩ := frm_inv hfrm
  rw [txT_mk] at hl ⊢
  refine PC.enter 77 Tryd.func51 rfl (by decide) rfl rfl (s := [(0, tyV (.mk o k s c es fs))]) (by rfl) ?_
  simp only [tyV_mk]
  rcases base_cases hb with ⟨hk, h1⟩ | ⟨hk, hs, h1⟩ | ⟨rfl, h1⟩ | ⟨rfl, h0, h1, h2, h3, h4⟩ | ⟨rfl, h1⟩
  · rcases hk with rfl | rfl
    · rw [if_pos rfl]
      refine wG Y51_Yl True.intro ?_
      exact Fin.oneP
    · rw [if_neg (by decide), if_pos rfl]
      refine wG Y51_Yl True.intro ?_
      exact Fin.oneP
  · have hw := itoa_s hs
    have hd := c_decI (8 * s) (by omega) (by omega)
    rcases hk with rfl | rfl
    · rw [if_neg (by decide), if_neg (by decide), if_pos rfl] at hl ⊢
      have hz := lit_z ⟨#[105, 110, 116]⟩ [105, 110, 116] (Lib.itoa (8 * s)) rfl (by rw [← List.length_append]; exact hl)
      refine wG Y51_Yl hw ?_
      refine AR.callP hd True.intro (And.intro (@tyV_id) (And.intro (@fdV_id) (And.intro (@tyL_id) (And.intro (@fdL_id) byV_id)))) ?_
      refine goG Y51_Yl hz ?_
      refine wG Y51_Yl True.intro ?_
      exact Fin.oneP
    · rw [if_neg (by decide), if_neg (by decide), if_neg (by decide), if_pos rfl] at hl ⊢
      rw [← List.append_assoc] at hl ⊢
      have hz := lit_z ⟨#[117, 105, 110, 116]⟩ ([117] ++ [105, 110, 116]) (Lib.itoa (8 * s)) rfl (by rw [← List.length_append]; exact hl)
      refine wG Y51_Yl hw ?_
      refine AR.callP hd True.intro (And.intro (@tyV_id) (And.intro (@fdV_id) (And.intro (@tyL_id) (And.intro (@fdL_id) byV_id)))) ?_
      refine goG Y51_Yl hz ?_
      refine wG Y51_Yl True.intro ?_
      exact Fin.oneP
  · rw [if_neg (by decide), if_neg (by decide), if_neg (by decide), if_neg (by decide), if_pos rfl] at hl ⊢
    obtain ⟨x, rfl⟩ := List.length_eq_one_iff.1 h1.2.2.1
    simp only [List.map_cons, List.map_nil, List.headD_cons] at hl ⊢
    have hz := lit_z ⟨#[42]⟩ [42] (txT x) rfl (by rw [← List.length_append]; exact hl)
    have hc := hE x (by simp) (hfE x (by simp)) (hes x (by simp)) (by rw [List.length_append] at hl; omega)
    refine wG Y51_Yl (And.intro (@tyV_firm) (And.intro (@fdV_firm) (And.intro (@tyV_strip) (And.intro (@fdV_strip) (And.intro (@tyV_live) (And.intro (@tyV_size) (And.intro (@tyV_isAg) (And.intro (@tyV_cells) (And.intro (@fdV_live) (And.intro (@fdV_size) (And.intro (@fdV_isAg) (And.intro (@fdV_cells) (And.intro (@List.getElem?_map.{0, 0}) @Int.natCast_nonneg))))))))))))) ?_
    refine AR.callP hc @tyV_eq (And.intro (@tyV_id) (And.intro (@fdV_id) (And.intro (@tyL_id) (And.intro (@fdL_id) byV_id)))) ?_
    refine goG Y51_Yl hz ?_
    refine wG Y51_Yl True.intro ?_
    exact Fin.oneP
  · rw [if_neg (by decide), if_neg (by decide), if_neg (by decide), if_neg (by decide), if_neg (by decide), if_pos rfl] at hl ⊢
    obtain ⟨x, rfl⟩ := List.length_eq_one_iff.1 h3
    simp only [List.map_cons, List.map_nil, List.headD_cons] at hl ⊢
    have hd := c_decI c (by omega) (by omega)
    have hll : 1 + (Lib.itoa c).length + 1 + (txT x).length ≤ 140737488355328 := by simp at hl; omega
    have hc := hE x (by simp) (hfE x (by simp)) (hes x (by simp)) (by omega)
    have hz1 := lit_z ⟨#[91]⟩ [91] (Lib.itoa c) rfl (by simp; omega)
    obtain ⟨m1, hm1⟩ : ∃ m1, m1 = [91] ++ Lib.itoa c := ⟨_, rfl⟩
    have hm1l : m1.length = 1 + (Lib.itoa c).length := by rw [hm1]; simp; omega
    rw [← hm1] at hz1 hl ⊢
    have hz2 := litR_z ⟨#[93]⟩ m1 [93] rfl (by simp; omega)
    obtain ⟨m2, hm2⟩ : ∃ m2, m2 = m1 ++ [93] := ⟨_, rfl⟩
    rw [← hm2] at hz2 hl ⊢
    have hz3 := cat_z m2 (txT x) (by rw [← List.length_append]; exact hl)
    refine wdG Y51_Yl (And.intro (@tyV_firm) (And.intro (@fdV_firm) (And.intro (@tyV_strip) (And.intro (@fdV_strip) (And.intro (@tyV_live) (And.intro (@tyV_size) (And.intro (@tyV_isAg) (And.intro (@tyV_cells) (And.intro (@fdV_live) (And.intro (@fdV_size) (And.intro (@fdV_isAg) (And.intro (@fdV_cells) (And.intro (@List.getElem?_map.{0, 0}) @Int.natCast_nonneg))))))))))))) ?_
    refine AR.callP hd True.intro (And.intro (@tyV_id) (And.intro (@fdV_id) (And.intro (@tyL_id) (And.intro (@fdL_id) byV_id)))) ?_
    refine goG Y51_Yl (And.intro hz1 (And.intro hz2 (And.intro (@tyV_firm) (And.intro (@fdV_firm) (And.intro (@tyV_strip) (And.intro (@fdV_strip) (And.intro (@tyV_live) (And.intro (@tyV_size) (And.intro (@tyV_isAg) (And.intro (@tyV_cells) (And.intro (@fdV_live) (And.intro (@fdV_size) (And.intro (@fdV_isAg) (And.intro (@fdV_cells) (And.intro (@List.getElem?_map.{0, 0}) @Int.natCast_nonneg))))))))))))))) ?_
    refine AR.callP hc @tyV_eq (And.intro (@tyV_id) (And.intro (@fdV_id) (And.intro (@tyL_id) (And.intro (@fdL_id) byV_id)))) ?_
    refine goG Y51_Yl hz3 ?_
    refine wdG Y51_Yl True.intro ?_
    exact Fin.oneP
  · rw [if_neg (by decide), if_neg (by decide), if_neg (by decide), if_neg (by decide), if_neg (by decide), if_neg (by decide), if_pos rfl] at hl ⊢
    obtain ⟨F, hF0⟩ : ∃ F : Nat → Bs, F = fun m => fldT ((fs.take m).map fun f => (f.off, txT f)) := ⟨_, rfl⟩
    have hFs : ∀ m (h : m < fs.length), F (m + 1) = F m ++ ((if m = 0 then [] else [44, 32]) ++ (Lib.itoa fs[m].off ++ [58, 32] ++ txT fs[m])) := fun m h => by rw [hF0]; exact fldT_take fs h
    have hFl : ∀ m, m ≤ fs.length → (F m).length ≤ (fldT (fs.map fun f => (f.off, txT f))).length := fun m h => by rw [hF0]; exact fldT_le fs h
    have hFn : F fs.length = fldT (fs.map fun f => (f.off, txT f)) := by rw [hF0]; simp
    have hF00 : F 0 = [] := by rw [hF0]; simp [fldT]
    rw [← hFn] at hl ⊢
    rw [← hFn] at hFl
    have hl' : (F fs.length).length + 2 ≤ 140737488355328 := by simp at hl; omega
    refine wG Y51_Yl @List.length_map.{0, 0} ?_
    refine AWp.loop ?_
    obtain ⟨G, hG⟩ : ∃ G : Nat → Bs, G = fun m => [123] ++ F m := ⟨_, rfl⟩
    have hG0 : bA (G 0) = ⟨#[123]⟩ := by rw [hG]; show bA ([123] ++ F 0) = _; rw [hF00]; rfl
    have hGl : ∀ m, (G m).length = 1 + (F m).length := fun m => by rw [hG]; simp; omega
    have hGn : [123] ++ F fs.length ++ [125] = G fs.length ++ [125] := by rw [hG]
    rw [hGn]
    refine ALp.cutP 1 [(1, .pt 0 0), (3, .im (.string ⟨#[123]⟩)), (4, (.im (.int .i64 (((0 : Nat) : Int)))))] [.box [(.im (.int .i64 ((5 : Int)))), (.im (.int .i64 (s))), (.im (.int .i64 (c))), .sl (es.map tyV) .ro, .sl (fs.map fdV) .ro]] (And.intro (@tyV_id) (And.intro (@fdV_id) (And.intro (@tyL_id) (And.intro (@fdL_id) byV_id)))) ?_
    rw [← hG0]
    refine ALp.upto fs.length (fun _ => True) (fun m => ⟨dn 77 [(1, .pt 0 0), (3, .im (.string (bA (G (m))))), (4, (.im (.int .i64 ((((m : Nat)) : Int)))))], ofl [.box [(.im (.int .i64 ((5 : Int)))), (.im (.int .i64 (s))), (.im (.int .i64 (c))), .sl (es.map tyV) .ro, .sl (fs.map fdV) .ro]]⟩) ?_ 0 (Nat.zero_le _) trivial
    intro m hm _ hnext
    by_cases hlt : m < fs.length
    · have hlt' : (m : Int) < (fs.length : Int) := by omega
      have hg := get_some hlt
      have hm1 := wrap_succ hlt (by omega)
      have hn := hnext (m + 1) (by omega) (by omega) trivial
      clear hnext
      have ho : 0 ≤ fs[m].off ∧ fs[m].off ≤ 1000000000 := by
        have := hof m hlt
        unfold fok at this
        simp [hlt] at this
        omega
      have hi := c_decI fs[m].off ho.1 ho.2
      have hle := hFl (m + 1) (by omega)
      rw [hFs m hlt] at hle
      simp only [List.length_append] at hle
      have hGm := hGl m
      have hc := hF fs[m] (List.getElem_mem hlt) (hfF _ (List.getElem_mem hlt)) (hfs _ (List.getElem_mem hlt)) (by omega)
      by_cases h0 : m = 0
      · have hGs : G (m + 1) = G m ++ (Lib.itoa fs[m].off ++ [58, 32] ++ txT fs[m]) := by rw [hG]; show [123] ++ F (m + 1) = _; rw [hFs m hlt, if_pos h0]; simp
        rw [if_pos h0] at hle
        have e2 : ([58, 32] : Bs).length = 2 := rfl
        rw [e2] at hle
        have hg0 : ¬ ((m : Nat) : Int) > 0 := by omega
        refine wdG Y51_Yl (And.intro (@tyV_firm) (And.intro (@fdV_firm) (And.intro (@tyV_strip) (And.intro (@fdV_strip) (And.intro (@tyV_live) (And.intro (@tyV_size) (And.intro (@tyV_isAg) (And.intro (@tyV_cells) (And.intro (@fdV_live) (And.intro (@fdV_size) (And.intro (@fdV_isAg) (And.intro (@fdV_cells) (And.intro (@List.getElem?_map.{0, 0}) (And.intro (@Int.natCast_nonneg) (And.intro hlt' (And.intro hg (And.intro hg0 @List.length_map.{0, 0}))))))))))))))))) ?_
        have hz2 := cat_z (G m) (Lib.itoa fs[m].off) (by omega)
        obtain ⟨q1, hq1⟩ : ∃ q, q = (G m) ++ Lib.itoa fs[m].off := ⟨_, rfl⟩
        have hq1l : q1.length = (G m).length + (Lib.itoa fs[m].off).length := by rw [hq1, List.length_append]
        rw [← hq1] at hz2
        have hz3 := litR_z ⟨#[58, 32]⟩ q1 [58, 32] rfl (by simp; omega)
        obtain ⟨q2, hq2⟩ : ∃ q, q = q1 ++ [58, 32] := ⟨_, rfl⟩
        have hq2l : q2.length = q1.length + 2 := by rw [hq2, List.length_append]; rfl
        rw [← hq2] at hz3
        have hz4 := cat_z q2 (txT fs[m]) (by omega)
        obtain ⟨q3, hq3⟩ : ∃ q, q = q2 ++ txT fs[m] := ⟨_, rfl⟩
        rw [← hq3] at hz4
        have hq : G (m + 1) = q3 := by rw [hGs, hq3, hq2, hq1]; simp
        rw [hq] at hn
        refine AR.callP hi True.intro (And.intro (@tyV_id) (And.intro (@fdV_id) (And.intro (@tyL_id) (And.intro (@fdL_id) byV_id)))) ?_
        refine goG Y51_Yl (And.intro hz2 (And.intro hz3 (And.intro (@tyV_firm) (And.intro (@fdV_firm) (And.intro (@tyV_strip) (And.intro (@fdV_strip) (And.intro (@tyV_live) (And.intro (@tyV_size) (And.intro (@tyV_isAg) (And.intro (@tyV_cells) (And.intro (@fdV_live) (And.intro (@fdV_size) (And.intro (@fdV_isAg) (And.intro (@fdV_cells) (And.intro (@List.getElem?_map.{0, 0}) (And.intro (@Int.natCast_nonneg) hg)))))))))))))))) ?_
        refine AR.callP hc @tyV_eq (And.intro (@tyV_id) (And.intro (@fdV_id) (And.intro (@tyL_id) (And.intro (@fdL_id) byV_id)))) ?_
        refine goG Y51_Yl hz4 ?_
        refine wdG Y51_Yl hm1 ?_
        refine ALp.cutP 1 [(1, .pt 0 0), (3, .im (.string (bA q3))), (4, (.im (.int .i64 (((m + 1 : Nat) : Int)))))] [.box [(.im (.int .i64 ((5 : Int)))), (.im (.int .i64 (s))), (.im (.int .i64 (c))), .sl (es.map tyV) .ro, .sl (fs.map fdV) .ro]] (And.intro (@tyV_id) (And.intro (@fdV_id) (And.intro (@tyL_id) (And.intro (@fdL_id) byV_id)))) ?_
        exact hn
      · have hGs : G (m + 1) = G m ++ ([44, 32] ++ (Lib.itoa fs[m].off ++ [58, 32] ++ txT fs[m])) := by rw [hG]; show [123] ++ F (m + 1) = _; rw [hFs m hlt, if_neg h0]; simp
        rw [if_neg h0] at hle
        have e2 : ([58, 32] : Bs).length = 2 := rfl
        have e3 : ([44, 32] : Bs).length = 2 := rfl
        rw [e2, e3] at hle
        have hg0 : ((m : Nat) : Int) > 0 := by omega
        have hz1 := litR_z ⟨#[44, 32]⟩ (G m) [44, 32] rfl (by simp; omega)
        obtain ⟨q0, hq0⟩ : ∃ q, q = G m ++ [44, 32] := ⟨_, rfl⟩
        have hq0l : q0.length = (G m).length + 2 := by rw [hq0, List.length_append]; rfl
        rw [← hq0] at hz1
        refine wdG Y51_Yl (And.intro (@tyV_firm) (And.intro (@fdV_firm) (And.intro (@tyV_strip) (And.intro (@fdV_strip) (And.intro (@tyV_live) (And.intro (@tyV_size) (And.intro (@tyV_isAg) (And.intro (@tyV_cells) (And.intro (@fdV_live) (And.intro (@fdV_size) (And.intro (@fdV_isAg) (And.intro (@fdV_cells) (And.intro (@List.getElem?_map.{0, 0}) (And.intro (@Int.natCast_nonneg) (And.intro hlt' (And.intro hg (And.intro hg0 (And.intro hz1 @List.length_map.{0, 0})))))))))))))))))) ?_
        have hz2 := cat_z q0 (Lib.itoa fs[m].off) (by omega)
        obtain ⟨q1, hq1⟩ : ∃ q, q = q0 ++ Lib.itoa fs[m].off := ⟨_, rfl⟩
        have hq1l : q1.length = q0.length + (Lib.itoa fs[m].off).length := by rw [hq1, List.length_append]
        rw [← hq1] at hz2
        have hz3 := litR_z ⟨#[58, 32]⟩ q1 [58, 32] rfl (by simp; omega)
        obtain ⟨q2, hq2⟩ : ∃ q, q = q1 ++ [58, 32] := ⟨_, rfl⟩
        have hq2l : q2.length = q1.length + 2 := by rw [hq2, List.length_append]; rfl
        rw [← hq2] at hz3
        have hz4 := cat_z q2 (txT fs[m]) (by omega)
        obtain ⟨q3, hq3⟩ : ∃ q, q = q2 ++ txT fs[m] := ⟨_, rfl⟩
        rw [← hq3] at hz4
        have hq : G (m + 1) = q3 := by rw [hGs, hq3, hq2, hq1, hq0]; simp
        rw [hq] at hn
        refine AR.callP hi True.intro (And.intro (@tyV_id) (And.intro (@fdV_id) (And.intro (@tyL_id) (And.intro (@fdL_id) byV_id)))) ?_
        refine goG Y51_Yl (And.intro hz2 (And.intro hz3 (And.intro (@tyV_firm) (And.intro (@fdV_firm) (And.intro (@tyV_strip) (And.intro (@fdV_strip) (And.intro (@tyV_live) (And.intro (@tyV_size) (And.intro (@tyV_isAg) (And.intro (@tyV_cells) (And.intro (@fdV_live) (And.intro (@fdV_size) (And.intro (@fdV_isAg) (And.intro (@fdV_cells) (And.intro (@List.getElem?_map.{0, 0}) (And.intro (@Int.natCast_nonneg) hg)))))))))))))))) ?_
        refine AR.callP hc @tyV_eq (And.intro (@tyV_id) (And.intro (@fdV_id) (And.intro (@tyL_id) (And.intro (@fdL_id) byV_id)))) ?_
        refine goG Y51_Yl hz4 ?_
        refine wdG Y51_Yl hm1 ?_
        refine ALp.cutP 1 [(1, .pt 0 0), (3, .im (.string (bA q3))), (4, (.im (.int .i64 (((m + 1 : Nat) : Int)))))] [.box [(.im (.int .i64 ((5 : Int)))), (.im (.int .i64 (s))), (.im (.int .i64 (c))), .sl (es.map tyV) .ro, .sl (fs.map fdV) .ro]] (And.intro (@tyV_id) (And.intro (@fdV_id) (And.intro (@tyL_id) (And.intro (@fdL_id) byV_id)))) ?_
        exact hn
    · obtain rfl : m = fs.length := by omega
      have hlt' : ¬ (fs.length : Int) < (fs.length : Int) := by omega
      clear hnext
      have hz := litR_z ⟨#[125]⟩ (G fs.length) [125] rfl (by rw [hGl]; simp; omega)
      refine wG Y51_Yl (And.intro hlt' (And.intro hz @List.length_map.{0, 0})) ?_
      exact Fin.oneP
theorem Y24_Yl : type_of% (And.intro @F_ag_25 (@F_sz_25)) := And.intro @F_ag_25 (@F_sz_25)
theorem c_PrintR (t : Ty) (hfit : fit t) (hl : good t = true → (txT t).length ≤ 140737488355328) : PC Tryd.prog 24 [tyV t] (.im (.string (bA (prT t)))) := by
  have hk := c_checkR t hfit
  unfold prT
  refine PC.enter 8 Tryd.func24 rfl (by decide) rfl rfl (s := [(0, tyV t)]) (by rfl) ?_
  simp only [tyV_eq t]
  by_cases g : chk t = 0
  · have hg : good t = true := by unfold good; simp [g]
    rw [if_pos hg]
    have hc := c_textR t hfit (good_frm hg) (hl hg)
    refine wG Y24_Yl True.intro ?_
    refine AR.callP hk @tyV_eq (And.intro (@tyV_id) (And.intro (@fdV_id) (And.intro (@tyL_id) (And.intro (@fdL_id) byV_id)))) ?_
    refine goG Y24_Yl g ?_
    refine wG Y24_Yl True.intro ?_
    refine AR.callP hc @tyV_eq (And.intro (@tyV_id) (And.intro (@fdV_id) (And.intro (@tyL_id) (And.intro (@fdL_id) byV_id)))) ?_
    refine goG Y24_Yl True.intro ?_
    refine wG Y24_Yl True.intro ?_
    exact Fin.oneP
  · have hg : ¬ good t = true := by unfold good; simp [g]
    rw [if_neg hg]
    refine wG Y24_Yl True.intro ?_
    refine AR.callP hk @tyV_eq (And.intro (@tyV_id) (And.intro (@fdV_id) (And.intro (@tyL_id) (And.intro (@fdL_id) byV_id)))) ?_
    refine goG Y24_Yl g ?_
    refine wG Y24_Yl True.intro ?_
    exact Fin.oneP
end Go.Proofs.YtchjncoadhigmaaDoor

