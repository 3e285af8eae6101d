import Derived.Test.YtmbmmckagcdapaaGreatDoorK10
import Derived.Test.YtmbmmckagcdapaaGreatDoorK24
import Derived.Test.YtmbmmckagcdapaaGreatDoorK18
set_option linter.unusedSimpArgs false
set_option linter.unusedVariables false
set_option linter.unnecessarySimpa false
namespace Go.Proofs.YtmbmmckagcdapaaGreatDoor
open Go.RowKit
def errW (k : Int) : V := if k = 0 then .im .nilIface else .ifc
theorem puF_err (b : Nat) (s : Bs) : ∀ a, (puF b a s).2 = 0 ∨ (puF b a s).2 = 1 ∨ (puF b a s).2 = 2 := by
  induction s with
  | nil => intro a; exact .inl rfl
  | cons c r ih =>
    intro a; unfold puF; split
    · exact .inr (.inr rfl)
    · split
      · exact .inr (.inr rfl)
      · split
        · exact .inr (.inl rfl)
        · exact ih _
theorem puR_err (b : Nat) (s : Bs) : (puR b s).2 = 0 ∨ (puR b s).2 = 1 ∨ (puR b s).2 = 2 := by
  unfold puR
  split
  · exact .inr (.inr rfl)
  · exact puF_err b s 0
theorem c_psA (s : Bs) (b : Int) (n k : Int) (hs : s.length ≤ 4194304) (hk : k = 0 ∨ k = 1 ∨ k = 2) (h : PC Tryz.prog 266 [.im (.string ⟨(s).toArray⟩), (.im (.int .i64 (b))), (.im (.int .i64 (32)))] (.tu [.im (.int .u64 (n)), errV k])) : PC Tryz.prog 245 [.im (.string ⟨(s).toArray⟩), (.im (.int .i64 (b))), (.im (.int .i64 (32)))] (.tu [.im (.int .u64 (n)), errW k]) := by
  refine PC.enter 26 Tryz.func245 rfl (by decide) rfl rfl (s := [(0, .im (.string ⟨(s).toArray⟩)), (1, (.im (.int .i64 (b)))), (2, (.im (.int .i64 (32))))]) (by rfl) ?_
  rcases hk with rfl | hk
  · rw [show errV 0 = .im .nilIface from rfl] at h
    rw [show errW 0 = .im .nilIface from rfl]
    refine wG True.intro True.intro ?_; refine AR.callP h True.intro True.intro ?_; refine goG True.intro True.intro ?_; refine wG True.intro True.intro ?_; refine AR.eqI true ?_; refine goG True.intro True.intro ?_; refine wG True.intro True.intro ?_; refine Fin.gen0 (rs := [.tmp 6, .tmp 7]) rfl (by first | exact .inl rfl | exact .inr rfl) (finG True.intro) ?_
    all_goals exact wkG True.intro
  · have h0 : k ≠ 0 := by omega
    rw [show errV k = .im (.iface 291 (.int .i64 k)) from if_neg h0] at h
    rw [show errW k = .ifc from if_neg h0]
    refine wG True.intro True.intro ?_; refine AR.callP h True.intro True.intro ?_; refine goG True.intro True.intro ?_; refine wG True.intro True.intro ?_; refine AR.eqI false ?_; refine goG True.intro True.intro ?_; refine wG True.intro True.intro ?_; refine AR.callP ((c_toErr k hk ⟨#[80, 97, 114, 115, 101, 85, 105, 110, 116]⟩ ⟨s.toArray⟩ b 32 (by show s.toArray.size ≤ _; simpa using hs))) True.intro True.intro ?_
    refine goG True.intro True.intro ?_; refine wG True.intro True.intro ?_; refine Fin.gen0 (rs := [.tmp 6, .tmp 7]) rfl (by first | exact .inl rfl | exact .inr rfl) (finG True.intro) ?_
    all_goals exact wkG True.intro
theorem c_ps10 (s : Bs) (hs : s.length ≤ 4194304) : PC Tryz.prog 245 [.im (.string ⟨(s).toArray⟩), (.im (.int .i64 (10))), (.im (.int .i64 (32)))] (.tu [.im (.int .u64 (((puR 10 s).1 : Int))), errW (puR 10 s).2]) := c_psA s 10 _ _ hs (puR_err 10 s) (c_pu10 s hs)
theorem c_ps16 (s : Bs) (hs : s.length ≤ 4194304) : PC Tryz.prog 245 [.im (.string ⟨(s).toArray⟩), (.im (.int .i64 (16))), (.im (.int .i64 (32)))] (.tu [.im (.int .u64 (((puR 16 s).1 : Int))), errW (puR 16 s).2]) := c_psA s 16 _ _ hs (puR_err 16 s) (c_pu16 s hs)
theorem puF_le (b : Nat) (s : Bs) : ∀ a, a ≤ 4294967295 → (puF b a s).1 ≤ 4294967295 := by
  induction s with
  | nil => intro a h; exact h
  | cons c r ih =>
    intro a h; unfold puF; split
    · exact Nat.zero_le _
    · split
      · exact Nat.zero_le _
      · split
        · exact Nat.le_refl _
        · exact ih _ (by omega)
theorem puR_le (b : Nat) (s : Bs) : (puR b s).1 ≤ 4294967295 := by
  unfold puR
  split
  · exact Nat.zero_le _
  · exact puF_le b s 0 (Nat.zero_le _)
def valR (w : Bs) : Nat × Bool :=
  if pre [48, 120] w then ((puR 16 (w.drop 2)).1, decide ((puR 16 (w.drop 2)).2 = 0) && (decide ((w.drop 2).length ≤ 8) && !Lib.containsAny (w.drop 2) [95, 43, 45]))
  else ((puR 10 w).1, decide ((puR 10 w).2 = 0) && ((w == [48] || decide (w.head? ≠ some 48)) && !Lib.containsAny w [95, 43, 45]))
theorem u32_le {n : Nat} (h : n ≤ 4294967295) : IntKind.u32.wrap (n : Int) = n := IntWalk.u32_in _ (by omega)
theorem cutP_true {p s : Bs} (h : pre p s = true) : cutP p s = s.drop p.length := if_pos h
theorem cutP_false {p s : Bs} (h : pre p s = false) : cutP p s = s := by unfold cutP; rw [h]; rfl
theorem Y194_T7 : type_of% (AI @F_in_145 (AI @F_in_43 (AI @F_un_145 (AI @F_un_43 (@F_un_9))))) := AI @F_in_145 (AI @F_in_43 (AI @F_un_145 (AI @F_un_43 (@F_un_9))))
set_option maxHeartbeats 1000000 in
theorem c_value (w : Bs) (hw : w.length ≤ 4194304) (ha : ∀ c ∈ w, c.toNat < 128) : PC Tryz.prog 194 [.im (.string ⟨(w).toArray⟩)] (.tu [.im (.int .u32 (((valR w).1 : Int))), (.im (.bool ((valR w).2)))]) := by
  have hp := c_cutPre w [48, 120]
  cases hx : pre [48, 120] w with
  | true =>
    rw [hx, cutP_true hx, show List.length ([48, 120] : Bs) = 2 from rfl] at hp
    obtain ⟨x, ex⟩ : ∃ x, w.drop 2 = x := ⟨_, rfl⟩
    have hxl : x.length ≤ 4194304 := by rw [← ex, List.length_drop]; omega
    have hxa : ∀ c ∈ x, c.toNat < 128 := fun c hc => ha c (List.mem_of_mem_drop (ex ▸ hc))
    have hv : valR w = ((puR 16 x).1, decide ((puR 16 x).2 = 0) && (decide (x.length ≤ 8) && !Lib.containsAny x [95, 43, 45])) := by
      unfold valR; rw [hx, if_pos rfl, ex]
    have hq := c_ps16 x hxl; have hn := puR_le 16 x; have hc := c_containsAny x hxl hxa; rw [ex] at hp; generalize puR 16 x = nk at hq hn hv; obtain ⟨n, k⟩ := nk; have hwr := u32_le hn; simp only at hq hwr hv; rw [hv]; generalize Lib.containsAny x [95, 43, 45] = b at hc; refine PC.enter 58 Tryz.func194 rfl (by decide) rfl rfl (s := [(0, .im (.string ⟨(w).toArray⟩))]) (by rfl) ?_
    refine wG Y194_T7 True.intro ?_; refine AR.callP hp True.intro byL_id ?_; refine goG Y194_T7 True.intro ?_; refine wG Y194_T7 True.intro ?_; refine AR.callP hq True.intro byL_id ?_
    by_cases hk : k = 0
    · subst hk
      rw [show errW 0 = .im .nilIface from rfl]
      refine goG Y194_T7 True.intro ?_; refine wG Y194_T7 hwr ?_; refine AR.eqI true ?_
      by_cases h8 : x.length ≤ 8
      · have h8i : (x.length : Int) ≤ 8 := by omega
        refine goG Y194_T7 (AI h8i bS_size) ?_; refine AR.callP hc True.intro byL_id ?_; refine goG Y194_T7 True.intro ?_; rw [show (decide ((0 : Int) = 0) && (decide (x.length ≤ 8) && !b)) = !b by simp [h8]]
        refine wG Y194_T7 True.intro ?_; refine Fin.gen0 (rs := [.tmp 2, .tmp 3]) rfl (by first | exact .inl rfl | exact .inr rfl) (finG Y194_T7) ?_
        all_goals exact wkG byL_id
      · have h8i : ¬ (x.length : Int) ≤ 8 := by omega
        refine goG Y194_T7 (AI h8i bS_size) ?_; rw [show (decide ((0 : Int) = 0) && (decide (x.length ≤ 8) && !b)) = false by simp [h8]]
        refine wG Y194_T7 True.intro ?_; refine Fin.gen0 (rs := [.tmp 2, .tmp 3]) rfl (by first | exact .inl rfl | exact .inr rfl) (finG Y194_T7) ?_
        all_goals exact wkG byL_id
    · rw [show errW k = .ifc from if_neg hk]
      refine goG Y194_T7 True.intro ?_; refine wG Y194_T7 hwr ?_; refine AR.eqI false ?_; refine goG Y194_T7 True.intro ?_; rw [show (decide (k = 0) && (decide (x.length ≤ 8) && !b)) = false by simp [hk]]
      refine wG Y194_T7 True.intro ?_; refine Fin.gen0 (rs := [.tmp 2, .tmp 3]) rfl (by first | exact .inl rfl | exact .inr rfl) (finG Y194_T7) ?_
      all_goals exact wkG byL_id
  | false =>
    rw [hx, cutP_false hx] at hp
    have hv : valR w = ((puR 10 w).1, decide ((puR 10 w).2 = 0) && ((w == [48] || decide (w.head? ≠ some 48)) && !Lib.containsAny w [95, 43, 45])) := by
      unfold valR; rw [hx]; rfl
    have hq := c_ps10 w hw; have hn := puR_le 10 w; have hc := c_containsAny w hw ha; have hne : w = [] → (puR 10 w).2 = 2 := fun h => by rw [h]; rfl
    generalize puR 10 w = nk at hq hn hv hne; obtain ⟨n, k⟩ := nk; have hwr := u32_le hn; simp only at hq hwr hv hne; rw [hv]; generalize Lib.containsAny w [95, 43, 45] = b at hc; refine PC.enter 58 Tryz.func194 rfl (by decide) rfl rfl (s := [(0, .im (.string ⟨(w).toArray⟩))]) (by rfl) ?_
    refine wG Y194_T7 True.intro ?_; refine AR.callP hp True.intro byL_id ?_; refine goG Y194_T7 True.intro ?_; refine wG Y194_T7 True.intro ?_; refine AR.callP hq True.intro byL_id ?_
    by_cases hk : k = 0
    · subst hk
      rw [show errW 0 = .im .nilIface from rfl]
      refine goG Y194_T7 True.intro ?_; refine wG Y194_T7 hwr ?_; refine AR.eqI true ?_; cases he : (w == ([48] : Bs)) with
      | true =>
        refine goG Y194_T7 (AI BY he) ?_; refine AR.callP hc True.intro byL_id ?_; refine goG Y194_T7 True.intro ?_; rw [show (decide ((0 : Int) = 0) && ((true || decide (w.head? ≠ some 48)) && !b)) = !b by simp]
        refine wG Y194_T7 True.intro ?_; refine Fin.gen0 (rs := [.tmp 2, .tmp 3]) rfl (by first | exact .inl rfl | exact .inr rfl) (finG Y194_T7) ?_
        all_goals exact wkG byL_id
      | false =>
        cases w with
        | nil => exact absurd (hne rfl) (by decide)
        | cons c r =>
          have g0 : (c :: r)[0]? = some c := rfl
          by_cases h48 : c.toNat = 48
          · have e : c = 48 := toNat_inj h48
            subst e; have e48 : (((48 : UInt8).toNat : Nat) : Int) = 48 := rfl; refine goG Y194_T7 (AI BY (AI he (AI g0 e48))) ?_; rw [show (decide ((0 : Int) = 0) && ((false || decide (((48 : UInt8) :: r).head? ≠ some 48)) && !b)) = false by simp]
            refine wG Y194_T7 True.intro ?_; refine Fin.gen0 (rs := [.tmp 2, .tmp 3]) rfl (by first | exact .inl rfl | exact .inr rfl) (finG Y194_T7) ?_
            all_goals exact wkG byL_id
          · have e : ¬ c = 48 := fun h => h48 (by rw [h]; rfl)
            have h48i : ¬ (c.toNat : Int) = 48 := by omega
            refine goG Y194_T7 (AI BY (AI he (AI g0 h48i))) ?_; refine AR.callP hc True.intro byL_id ?_; refine goG Y194_T7 True.intro ?_; rw [show (decide ((0 : Int) = 0) && ((false || decide ((c :: r).head? ≠ some 48)) && !b)) = !b by simp [e]]
            refine wG Y194_T7 True.intro ?_; refine Fin.gen0 (rs := [.tmp 2, .tmp 3]) rfl (by first | exact .inl rfl | exact .inr rfl) (finG Y194_T7) ?_
            all_goals exact wkG byL_id
    · rw [show errW k = .ifc from if_neg hk]
      refine goG Y194_T7 True.intro ?_; refine wG Y194_T7 hwr ?_; refine AR.eqI false ?_; refine goG Y194_T7 True.intro ?_; rw [show (decide (k = 0) && ((w == [48] || decide (w.head? ≠ some 48)) && !b)) = false by simp [hk]]
      refine wG Y194_T7 True.intro ?_; refine Fin.gen0 (rs := [.tmp 2, .tmp 3]) rfl (by first | exact .inl rfl | exact .inr rfl) (finG Y194_T7) ?_
      all_goals exact wkG byL_id
def namR (w : Bs) : Tk × Bool := if isK w then (⟨2, w, 0, 0, 0⟩, true) else if w.head?.elim false isL then (⟨1, w, 0, 0, 0⟩, decide (w.length ≤ 32)) else (⟨3, [], (valR w).1, 0, 0⟩, (valR w).2)
theorem ltr_nat (c : UInt8) : ltr (c.toNat : Int) = isL c := ltr_isL c
theorem Y134_T8 : type_of% (AI @F_ag_122 (AI @F_al_122 (AI @F_in_21 (AI @F_in_5 (AI @F_st_122 (AI @F_sz_122 (AI @F_un_21 (AI @F_un_5 (@F_un_9))))))))) := AI @F_ag_122 (AI @F_al_122 (AI @F_in_21 (AI @F_in_5 (AI @F_st_122 (AI @F_sz_122 (AI @F_un_21 (AI @F_un_5 (@F_un_9))))))))
set_option maxHeartbeats 1000000 in
theorem c_named (w : Bs) (hw : w.length ≤ 4194304) (h0 : w ≠ []) (ha : ∀ c ∈ w, c.toNat < 128) : PC Tryz.prog 134 [.im (.string ⟨(w).toArray⟩)] (.tu [tkV (namR w).1, (.im (.bool ((namR w).2)))]) := by
  have hK := c_Keyword w hw
  cases w with
  | nil => exact absurd rfl h0
  | cons c r =>
  cases hx : isK (c :: r) with
  | true =>
    rw [hx] at hK; rw [show namR (c :: r) = (⟨2, c :: r, 0, 0, 0⟩, true) by unfold namR; rw [hx]; rfl]
    refine PC.enter 29 Tryz.func134 rfl (by decide) rfl rfl (s := [(0, .im (.string ⟨(c :: r).toArray⟩))]) (by rfl) ?_
    refine wG Y134_T8 True.intro ?_; refine AR.callP hK True.intro (AI byL_id tkV_id) ?_; refine goG Y134_T8 True.intro ?_; refine wG Y134_T8 True.intro ?_; refine Fin.gen0 (rs := [.cell 2 122, .tmp 3]) rfl (by first | exact .inl rfl | exact .inr rfl) (finG Y134_T8) ?_
    all_goals exact wkG (AI byL_id tkV_id)
  | false =>
    rw [hx] at hK; have hL := c_letter (c.toNat : Int); rw [ltr_nat] at hL; have g0 : (c :: r)[0]? = some c := rfl
    have w32 : IntKind.i32.wrap (c.toNat : Int) = c.toNat := by
      have := c.toNat_lt; exact IntWalk.i32_in _ (by omega)
    cases hl : isL c with
    | true =>
      rw [hl] at hL
      by_cases h32 : (c :: r).length ≤ 32
      · have e32 : ((r.length + 1 : Nat) : Int) ≤ 32 := by rw [List.length_cons] at h32; omega
        rw [show namR (c :: r) = (⟨1, c :: r, 0, 0, 0⟩, true) by unfold namR; rw [hx, if_neg (by decide), if_pos (show (c :: r).head?.elim false isL = true from hl), decide_eq_true h32]]
        refine PC.enter 29 Tryz.func134 rfl (by decide) rfl rfl (s := [(0, .im (.string ⟨(c :: r).toArray⟩))]) (by rfl) ?_
        refine wG Y134_T8 True.intro ?_; refine AR.callP hK True.intro (AI byL_id tkV_id) ?_; refine goG Y134_T8 True.intro ?_; refine wG Y134_T8 (AI BY (AI g0 w32)) ?_; refine AR.callP hL True.intro (AI byL_id tkV_id) ?_; refine goG Y134_T8 True.intro ?_; refine wG Y134_T8 (AI BY e32) ?_; refine Fin.gen0 (rs := [.cell 2 122, .tmp 3]) rfl (by first | exact .inl rfl | exact .inr rfl) (finG Y134_T8) ?_
        all_goals exact wkG (AI byL_id tkV_id)
      · have e32 : ¬ ((r.length + 1 : Nat) : Int) ≤ 32 := by rw [List.length_cons] at h32; omega
        rw [show namR (c :: r) = (⟨1, c :: r, 0, 0, 0⟩, false) by unfold namR; rw [hx, if_neg (by decide), if_pos (show (c :: r).head?.elim false isL = true from hl), decide_eq_false h32]]
        refine PC.enter 29 Tryz.func134 rfl (by decide) rfl rfl (s := [(0, .im (.string ⟨(c :: r).toArray⟩))]) (by rfl) ?_
        refine wG Y134_T8 True.intro ?_; refine AR.callP hK True.intro (AI byL_id tkV_id) ?_; refine goG Y134_T8 True.intro ?_; refine wG Y134_T8 (AI BY (AI g0 w32)) ?_; refine AR.callP hL True.intro (AI byL_id tkV_id) ?_; refine goG Y134_T8 True.intro ?_; refine wG Y134_T8 (AI BY e32) ?_; refine Fin.gen0 (rs := [.cell 2 122, .tmp 3]) rfl (by first | exact .inl rfl | exact .inr rfl) (finG Y134_T8) ?_
        all_goals exact wkG (AI byL_id tkV_id)
    | false =>
      rw [hl] at hL; rw [show namR (c :: r) = (⟨3, [], (valR (c :: r)).1, 0, 0⟩, (valR (c :: r)).2) by unfold namR; rw [hx, if_neg (by decide), if_neg (show ¬ (c :: r).head?.elim false isL = true by rw [show (c :: r).head?.elim false isL = isL c from rfl, hl]; decide)]]
      have hV := c_value (c :: r) hw ha; generalize valR (c :: r) = v at hV; obtain ⟨n, b⟩ := v; refine PC.enter 29 Tryz.func134 rfl (by decide) rfl rfl (s := [(0, .im (.string ⟨(c :: r).toArray⟩))]) (by rfl) ?_
      refine wG Y134_T8 True.intro ?_; refine AR.callP hK True.intro (AI byL_id tkV_id) ?_; refine goG Y134_T8 True.intro ?_; refine wG Y134_T8 (AI BY (AI g0 w32)) ?_; refine AR.callP hL True.intro (AI byL_id tkV_id) ?_; refine goG Y134_T8 True.intro ?_; refine wG Y134_T8 True.intro ?_; refine AR.callP hV True.intro (AI byL_id tkV_id) ?_; refine goG Y134_T8 True.intro ?_; refine wG Y134_T8 True.intro ?_; refine Fin.gen0 (rs := [.cell 2 122, .tmp 3]) rfl (by first | exact .inl rfl | exact .inr rfl) (finG Y134_T8) ?_
      all_goals exact wkG (AI byL_id tkV_id)
def escR (s : Bs) : UInt8 × Nat := match escP s with
  | some (c, n) => (c, n)
  | none => (0, 0)
theorem hexI_none {c : UInt8} (h : hexv c = none) : hexI c = -1 := by unfold hexI; rw [h]
theorem hexI_some {c : UInt8} {d : Nat} (h : hexv c = some d) : hexI c = d := by unfold hexI; rw [h]
theorem hexv_lt {c : UInt8} {d : Nat} (h : hexv c = some d) : d < 16 := by
  unfold hexv at h
  split at h
  · cases h; omega
  · split at h
    · cases h; omega
    · split at h
      · cases h; omega
      · cases h
theorem hex2 (x y : Nat) (hx : x < 16) (hy : y < 16) : IntKind.u8.wrap (IntKind.i64.wrap ↑(BitVec.ofInt IntKind.i64.bits (IntKind.i64.wrap ((x : Int) * 2 ^ min 4 IntKind.i64.bits)) ||| BitVec.ofInt IntKind.i64.bits (y : Int)).toNat) = ((UInt8.ofNat (16 * x + y)).toNat : Int) := by
  have := (show ∀ x : _root_.Fin 16, ∀ y : _root_.Fin 16, IntKind.u8.wrap (IntKind.i64.wrap ↑(BitVec.ofInt IntKind.i64.bits (IntKind.i64.wrap (((x : Nat) : Int) * 2 ^ min 4 IntKind.i64.bits)) ||| BitVec.ofInt IntKind.i64.bits ((y : Nat) : Int)).toNat) = ((UInt8.ofNat (16 * (x : Nat) + (y : Nat))).toNat : Int) by decide +kernel) ⟨x, hx⟩ ⟨y, hy⟩
  exact this
theorem Y195_T9 : type_of% (AI @F_in_3 (AI @F_in_5 (AI @F_un_3 (AI @F_un_5 (@F_un_9))))) := AI @F_in_3 (AI @F_in_5 (AI @F_un_3 (AI @F_un_5 (@F_un_9))))
set_option maxHeartbeats 1000000 in
theorem c_escape (s : Bs) (hs : s.length ≤ 4194304) : PC Tryz.prog 195 [.im (.string ⟨(s).toArray⟩)] (.tu [.im (.int .u8 (((escR s).1.toNat : Int))), (.im (.int .i64 (((escR s).2 : Int))))]) := by
  cases s with
  | nil =>
    rw [show escR [] = (0, 0) from rfl]
    have e0 : (([] : Bs) == []) = true := rfl; have e3 : ¬ (((0 : Nat)) : Int) ≥ 3 := by decide
    have e4 : ¬ (0 : Int) ≥ 3 := by decide
    have e5 : ByteArray.size ⟨#[]⟩ = 0 := rfl; refine PC.enter 49 Tryz.func195 rfl (by decide) rfl rfl (s := [(0, .im (.string ⟨(([] : Bs)).toArray⟩))]) (by rfl) ?_
    refine wG Y195_T9 (AI BY (AI e0 e3)) ?_; refine wG Y195_T9 (AI e4 e5) ?_; refine wG Y195_T9 True.intro ?_; refine Fin.gen0 (rs := [.tmp 2, .tmp 3]) rfl (by first | exact .inl rfl | exact .inr rfl) (finG Y195_T9) ?_
    all_goals exact wkG byL_id
  | cons c r =>
    have e0 : ((c :: r) == ([] : Bs)) = false := rfl; have g0 : (c :: r)[0]? = some c := rfl
    by_cases h1 : c.toNat = 34
    · have e1 : (((34 : UInt8).toNat : Nat) : Int) = 34 := rfl
      rw [show escR (c :: r) = (c, 1) by simp [escR, escP, h1]]
      obtain rfl : c = 34 := toNat_inj h1; refine PC.enter 49 Tryz.func195 rfl (by decide) rfl rfl (s := [(0, .im (.string ⟨((34 : UInt8) :: r).toArray⟩))]) (by rfl) ?_
      refine wG Y195_T9 (AI BY (AI e0 (AI g0 e1))) ?_; refine Fin.gen0 (rs := [.tmp 2, .tmp 3]) rfl (by first | exact .inl rfl | exact .inr rfl) (finG Y195_T9) ?_
      all_goals exact wkG byL_id
    have e1 : ¬ (c.toNat : Int) = 34 := by omega
    by_cases h2 : c.toNat = 92
    · have e2 : (((92 : UInt8).toNat : Nat) : Int) = 92 := rfl
      rw [show escR (c :: r) = (c, 1) by simp [escR, escP, h2]]
      obtain rfl : c = 92 := toNat_inj h2; refine PC.enter 49 Tryz.func195 rfl (by decide) rfl rfl (s := [(0, .im (.string ⟨((92 : UInt8) :: r).toArray⟩))]) (by rfl) ?_
      refine wG Y195_T9 (AI BY (AI e0 (AI g0 (AI e1 e2)))) ?_; refine Fin.gen0 (rs := [.tmp 2, .tmp 3]) rfl (by first | exact .inl rfl | exact .inr rfl) (finG Y195_T9) ?_
      all_goals exact wkG byL_id
    have e2 : ¬ (c.toNat : Int) = 92 := by omega
    by_cases h3 : c.toNat = 120
    case neg =>
      have e3 : ¬ (c.toNat : Int) = 120 := by omega
      rw [show escR (c :: r) = (0, 0) by simp [escR, escP, h1, h2, h3]]
      by_cases hl : 2 ≤ r.length
      · have el : ((r.length + 1 : Nat) : Int) ≥ 3 := by omega
        refine PC.enter 49 Tryz.func195 rfl (by decide) rfl rfl (s := [(0, .im (.string ⟨(c :: r).toArray⟩))]) (by rfl) ?_
        refine wG Y195_T9 (AI BY (AI e0 (AI g0 (AI e1 (AI e2 (AI e3 el)))))) ?_; refine Fin.gen0 (rs := [.tmp 2, .tmp 3]) rfl (by first | exact .inl rfl | exact .inr rfl) (finG Y195_T9) ?_
        all_goals exact wkG byL_id
      · have el : ¬ ((r.length + 1 : Nat) : Int) ≥ 3 := by omega
        refine PC.enter 49 Tryz.func195 rfl (by decide) rfl rfl (s := [(0, .im (.string ⟨(c :: r).toArray⟩))]) (by rfl) ?_
        refine wG Y195_T9 (AI BY (AI e0 (AI g0 (AI e1 (AI e2 (AI e3 el)))))) ?_; refine Fin.gen0 (rs := [.tmp 2, .tmp 3]) rfl (by first | exact .inl rfl | exact .inr rfl) (finG Y195_T9) ?_
        all_goals exact wkG byL_id
    have e3 : (c.toNat : Int) = 120 := by omega
    have hR : escP (c :: r) = escX r := by simp [escP, h1, h2, h3]
    by_cases hl : 2 ≤ r.length
    case neg =>
      have el : ¬ ((r.length + 1 : Nat) : Int) ≥ 3 := by omega
      rw [show escR (c :: r) = (0, 0) by
        unfold escR; rw [hR]
        match r with
        | [] => rfl
        | [_] => rfl
        | _ :: _ :: _ => simp at hl]
      refine PC.enter 49 Tryz.func195 rfl (by decide) rfl rfl (s := [(0, .im (.string ⟨(c :: r).toArray⟩))]) (by rfl) ?_
      refine wG Y195_T9 (AI BY (AI e0 (AI g0 (AI e1 (AI e2 (AI e3 el)))))) ?_; refine Fin.gen0 (rs := [.tmp 2, .tmp 3]) rfl (by first | exact .inl rfl | exact .inr rfl) (finG Y195_T9) ?_
      all_goals exact wkG byL_id
    match r with
    | [] => simp at hl
    | [_] => simp at hl
    | a :: b :: t =>
    have el : ((t.length + 1 + 1 + 1 : Nat) : Int) ≥ 3 := by omega
    have g1 : (c :: a :: b :: t)[1]? = some a := rfl; have g2 : (c :: a :: b :: t)[2]? = some b := rfl; have q1 := c_hexDigit a; have q2 := c_hexDigit b; cases ha : hexv a with
    | none =>
      rw [hexI_none ha] at q1; rw [show escR (c :: a :: b :: t) = (0, 0) by simp [escR, hR, escX, ha]]
      have f1 : ¬ (-1 : Int) ≥ 0 := by decide
      refine PC.enter 49 Tryz.func195 rfl (by decide) rfl rfl (s := [(0, .im (.string ⟨(c :: a :: b :: t).toArray⟩))]) (by rfl) ?_
      refine wG Y195_T9 (AI BY (AI e0 (AI g0 (AI e1 (AI e2 (AI e3 (AI el g1))))))) ?_; refine AR.callP q1 True.intro byL_id ?_; refine goG Y195_T9 f1 ?_; refine wG Y195_T9 f1 ?_; refine Fin.gen0 (rs := [.tmp 2, .tmp 3]) rfl (by first | exact .inl rfl | exact .inr rfl) (finG Y195_T9) ?_
      all_goals exact wkG byL_id
    | some x =>
    rw [hexI_some ha] at q1; have hx := hexv_lt ha; have f1 : (x : Int) ≥ 0 := by omega
    cases hb : hexv b with
    | none =>
      rw [hexI_none hb] at q2; rw [show escR (c :: a :: b :: t) = (0, 0) by simp [escR, hR, escX, ha, hb]]
      have f2 : ¬ (-1 : Int) ≥ 0 := by decide
      refine PC.enter 49 Tryz.func195 rfl (by decide) rfl rfl (s := [(0, .im (.string ⟨(c :: a :: b :: t).toArray⟩))]) (by rfl) ?_
      refine wG Y195_T9 (AI BY (AI e0 (AI g0 (AI e1 (AI e2 (AI e3 (AI el g1))))))) ?_; refine AR.callP q1 True.intro byL_id ?_; refine goG Y195_T9 (AI BY (AI f1 g2)) ?_; refine AR.callP q2 True.intro byL_id ?_; refine goG Y195_T9 f2 ?_; refine wG Y195_T9 f2 ?_; refine Fin.gen0 (rs := [.tmp 2, .tmp 3]) rfl (by first | exact .inl rfl | exact .inr rfl) (finG Y195_T9) ?_
      all_goals exact wkG byL_id
    | some y =>
      rw [hexI_some hb] at q2; have hy := hexv_lt hb; have f2 : (y : Int) ≥ 0 := by omega
      have f3 := hex2 x y hx hy; rw [show escR (c :: a :: b :: t) = (UInt8.ofNat (16 * x + y), 3) by simp [escR, hR, escX, ha, hb]]
      refine PC.enter 49 Tryz.func195 rfl (by decide) rfl rfl (s := [(0, .im (.string ⟨(c :: a :: b :: t).toArray⟩))]) (by rfl) ?_
      refine wG Y195_T9 (AI BY (AI e0 (AI g0 (AI e1 (AI e2 (AI e3 (AI el g1))))))) ?_; refine AR.callP q1 True.intro byL_id ?_; refine goG Y195_T9 (AI BY (AI f1 g2)) ?_; refine AR.callP q2 True.intro byL_id ?_; refine goG Y195_T9 f2 ?_; refine wG Y195_T9 f2 ?_; refine wdG Y195_T9 (AI BY g1) ?_; refine AR.callP q1 True.intro byL_id ?_; refine goG Y195_T9 (AI BY g2) ?_; refine AR.callP q2 True.intro byL_id ?_; refine goG Y195_T9 f3 ?_; refine wdG Y195_T9 True.intro ?_; refine Fin.gen0 (rs := [.tmp 2, .tmp 3]) rfl (by first | exact .inl rfl | exact .inr rfl) (finG Y195_T9) ?_
      all_goals exact wkG byL_id
def quoR (r : Bs) : Bs × Nat × Bool := match quoP r with
  | some (t, m) => (t, m + 1, true)
  | none => ([], 0, false)
theorem escR_none {s : Bs} (h : escP s = none) : escR s = (0, 0) := by unfold escR; rw [h]
theorem escR_some {s : Bs} {x : UInt8} {n : Nat} (h : escP s = some (x, n)) : escR s = (x, n) := by unfold escR; rw [h]
theorem quoR_none {r : Bs} (h : quoP r = none) : quoR r = ([], 0, false) := by unfold quoR; rw [h]
theorem quoR_some {r t : Bs} {m : Nat} (h : quoP r = some (t, m)) : quoR r = (t, m + 1, true) := by unfold quoR; rw [h]
theorem Y135_T10 : type_of% (AI @F_al_5 (AI @F_by_5 (AI @F_el_69 (AI @F_in_69 (AI @F_in_9 (AI @F_sz_5 (AI @F_un_5 (AI @F_un_69 (@F_un_9))))))))) := AI @F_al_5 (AI @F_by_5 (AI @F_el_69 (AI @F_in_69 (AI @F_in_9 (AI @F_sz_5 (AI @F_un_5 (AI @F_un_69 (@F_un_9))))))))
set_option maxHeartbeats 2000000 in
theorem c_quoted (s : Bs) (hs : s.length ≤ 4194304) (h0 : s ≠ []) : PC Tryz.prog 135 [.im (.string ⟨(s).toArray⟩)] (.tu [.im (.string ⟨((quoR (s.drop 1)).1).toArray⟩), (.im (.int .i64 (((quoR (s.drop 1)).2.1 : Int)))), (.im (.bool ((quoR (s.drop 1)).2.2)))]) := by
  have hpos : 1 ≤ s.length := by cases s with
    | nil => exact absurd rfl h0
    | cons c r => simp
  refine PC.enter 57 Tryz.func135 rfl (by decide) rfl rfl (s := [(0, .im (.string ⟨(s).toArray⟩))]) (by rfl) ?_
  refine wG Y135_T10 True.intro ?_
  refine AWp.loop ?_
  refine ALp.ghost 5 [] .nl 5 1 ?_
  suffices H : ∀ (k m : Nat) (A : Bs), s.length - m = k → 1 ≤ m → m ≤ s.length → A.length ≤ m → (quoP (s.drop 1) = (quoP (s.drop m)).map fun p => (A ++ p.1, p.2 + (m - 1))) → ALp _ _ _ _ _ ⟨dn 57 [(0, .im (.string ⟨(s).toArray⟩)), (5, .sl (A.map byB) (.own 0)), (6, (.im (.int .i64 ((((m : Nat)) : Int)))))], ofl [.tip 5 1 A.length]⟩ by
    refine ALp.cutP 1 [(0, .im (.string ⟨(s).toArray⟩)), (5, .sl (([] : Bs).map byB) (.own 0)), (6, (.im (.int .i64 ((((1 : Nat)) : Int)))))] [.tip 5 1 ([] : Bs).length] byL_id ?_; exact H _ 1 [] rfl (Nat.le_refl _) hpos (Nat.zero_le _) (by cases quoP (s.drop 1) <;> simp)
  intro k
  induction k using Nat.strongRecOn with
  | _ k ih =>
  intro m A hk hm1 hml hA hq
  refine ALp.round ?_
  by_cases hlt : m < s.length
  case neg =>
    obtain rfl : m = s.length := by omega
    have hn : ¬ (s.length : Int) < (s.length : Int) := by omega
    rw [quoR_none (r := s.drop 1) (by rw [hq, List.drop_length]; rfl)]
    clear ih; refine wG Y135_T10 (AI BY (AI hn bS_size)) ?_; refine Fin.gen0 (rs := [.tmp 2, .tmp 3, .tmp 4]) rfl (by first | exact .inl rfl | exact .inr rfl) (finG Y135_T10) ?_
    all_goals exact wkG byL_id
  have hlt' : (m : Int) < (s.length : Int) := by omega
  have hw1 := wrap_succ hlt (by omega)
  have hg : s[m]? = some s[m] := List.getElem?_eq_getElem hlt
  have hd : s.drop m = s[m] :: s.drop (m + 1) := List.drop_eq_getElem_cons hlt
  generalize s[m] = c at hg hd
  rw [hd, quoP_cons] at hq
  by_cases h34 : c.toNat = 34
  · have e1 : (c.toNat : Int) = 34 := by omega
    rw [if_pos h34] at hq; rw [quoR_some (r := s.drop 1) (t := A) (m := m) (by rw [hq]; simp; omega)]
    have hb := bytesOf_map A; clear ih; refine wG Y135_T10 (AI BY (AI hlt' (AI bS_size (AI hg (AI e1 (AI hb hw1)))))) ?_; refine Fin.gen0 (rs := [.tmp 2, .tmp 3, .tmp 4]) rfl (by first | exact .inl rfl | exact .inr rfl) (finG Y135_T10) ?_
    all_goals exact wkG byL_id
  have e1 : ¬ (c.toNat : Int) = 34 := by omega
  rw [if_neg h34] at hq
  by_cases h92 : c.toNat = 92
  · have e2 : (c.toNat : Int) = 92 := by omega
    rw [if_pos h92] at hq; have hsl : (s.drop (m + 1)).take (s.length - (m + 1)) = s.drop (m + 1) := List.take_of_length_le (by rw [List.length_drop]; omega)
    have hle : ((m + 1 : Nat) : Int) ≤ (s.length : Int) := by omega
    have qe := c_escape (s.drop (m + 1)) (by rw [List.length_drop]; omega)
    cases he : escP (s.drop (m + 1)) with
    | none =>
      rw [escR_none he] at qe; rw [he] at hq; rw [quoR_none (r := s.drop 1) (by rw [hq]; rfl)]
      clear ih; refine wG Y135_T10 (AI BY (AI GDS (AI hlt' (AI bS_size (AI hg (AI e1 (AI e2 (AI hw1 (AI hle hsl))))))))) ?_; refine AR.callP qe True.intro byL_id ?_; refine goG Y135_T10 True.intro ?_; refine wG Y135_T10 True.intro ?_; refine Fin.gen0 (rs := [.tmp 2, .tmp 3, .tmp 4]) rfl (by first | exact .inl rfl | exact .inr rfl) (finG Y135_T10) ?_
      all_goals exact wkG byL_id
    | some xn =>
    obtain ⟨x, n⟩ := xn; rw [escR_some he] at qe; have hn := escP_len he; rw [List.length_drop] at hn; rw [he] at hq; have hn0 : ¬ (n : Int) = 0 := by omega
    have hw2 : IntKind.i64.wrap ((m : Int) + (n : Int)) = ((m + n : Nat) : Int) := by rw [wrap_in (by omega)]; omega
    have hw3 : IntKind.i64.wrap (((m + n : Nat) : Int) + 1) = ((m + n + 1 : Nat) : Int) := by rw [wrap_in (by omega)]; omega
    obtain ⟨B, hB⟩ : ∃ B, B = A ++ [x] := ⟨_, rfl⟩
    have hAs : A.map byB ++ [V.im (.int .u8 x.toNat)] = B.map byB := by rw [hB, List.map_append]; rfl
    have hAl : A.length + 1 = B.length := by rw [hB]; simp
    have hbl : B.length ≤ 140737488355328 := by omega
    have hI := ih (s.length - (m + n + 1)) (by omega) (m + n + 1) B rfl (by omega) (by omega) (by omega) (by
      rw [hq]; dsimp only; rw [List.drop_drop, show m + 1 + n = m + n + 1 by omega, hB]
      cases quoP (s.drop (m + n + 1)) with
      | none => rfl
      | some p => obtain ⟨t, k⟩ := p; simp; omega)
    clear ih hB; refine wG Y135_T10 (AI BY (AI GDS (AI hlt' (AI bS_size (AI hg (AI e1 (AI e2 (AI hw1 (AI hle hsl))))))))) ?_; refine AR.callP qe True.intro byL_id ?_; refine goG Y135_T10 True.intro ?_; refine wG Y135_T10 (AI hn0 (AI hAs (AI hAl (AI hbl (AI hw2 (AI hw3 (AI (@List.length_map.{0, 0}) @Nat.mul_one))))))) ?_; refine ALp.cutP 1 [(0, .im (.string ⟨(s).toArray⟩)), (5, .sl (B.map byB) (.own 0)), (6, (.im (.int .i64 ((((m + n + 1 : Nat)) : Int)))))] [.tip 5 1 B.length] byL_id ?_; exact hI
  have e2 : ¬ (c.toNat : Int) = 92 := by omega
  rw [if_neg h92] at hq
  by_cases hlo : c.toNat < 32
  · have e3 : (c.toNat : Int) < 32 := by omega
    rw [if_pos (.inl hlo)] at hq; rw [quoR_none (r := s.drop 1) (by rw [hq]; rfl)]
    clear ih; refine wG Y135_T10 (AI BY (AI hlt' (AI bS_size (AI hg (AI e1 (AI e2 e3)))))) ?_; refine Fin.gen0 (rs := [.tmp 2, .tmp 3, .tmp 4]) rfl (by first | exact .inl rfl | exact .inr rfl) (finG Y135_T10) ?_
    all_goals exact wkG byL_id
  have e3 : ¬ (c.toNat : Int) < 32 := by omega
  by_cases hhi : 126 < c.toNat
  · have e4 : (c.toNat : Int) > 126 := by omega
    rw [if_pos (.inr hhi)] at hq; rw [quoR_none (r := s.drop 1) (by rw [hq]; rfl)]
    clear ih; refine wG Y135_T10 (AI BY (AI hlt' (AI bS_size (AI hg (AI e1 (AI e2 (AI e3 e4))))))) ?_; refine Fin.gen0 (rs := [.tmp 2, .tmp 3, .tmp 4]) rfl (by first | exact .inl rfl | exact .inr rfl) (finG Y135_T10) ?_
    all_goals exact wkG byL_id
  have e4 : ¬ (c.toNat : Int) > 126 := by omega
  rw [if_neg (by omega)] at hq
  obtain ⟨B, hB⟩ : ∃ B, B = A ++ [c] := ⟨_, rfl⟩
  have hAs : A.map byB ++ [V.im (.int .u8 c.toNat)] = B.map byB := by rw [hB, List.map_append]; rfl
  have hAl : A.length + 1 = B.length := by rw [hB]; simp
  have hbl : B.length ≤ 140737488355328 := by omega
  have hI := ih (s.length - (m + 1)) (by omega) (m + 1) B rfl (by omega) (by omega) (by omega) (by
    rw [hq, hB]; cases quoP (s.drop (m + 1)) with
    | none => rfl
    | some p => obtain ⟨t, n⟩ := p; simp; omega)
  clear ih hB
  refine wG Y135_T10 (AI BY (AI hlt' (AI bS_size (AI hg (AI e1 (AI e2 (AI e3 (AI e4 (AI hAs (AI hAl (AI hbl (AI hw1 (AI (@List.length_map.{0, 0}) @Nat.mul_one))))))))))))) ?_
  refine ALp.cutP 1 [(0, .im (.string ⟨(s).toArray⟩)), (5, .sl (B.map byB) (.own 0)), (6, (.im (.int .i64 ((((m + 1 : Nat)) : Int)))))] [.tip 5 1 B.length] byL_id ?_
  exact hI
def symR (s : Bs) : Bs × Bool := match symP s with
  | some op => (op, true)
  | none => (s.take 1, false)
def tst (p s : Bs) : Bool := pre p s && nW (s.drop p.length)
def L1V : List V := [.im (.string ⟨(([62, 62, 115] : Bs)).toArray⟩), .im (.string ⟨(([60, 115] : Bs)).toArray⟩)]
def L2V : List V := [.im (.string ⟨(([61, 61] : Bs)).toArray⟩), .im (.string ⟨(([33, 61] : Bs)).toArray⟩), .im (.string ⟨(([60, 60] : Bs)).toArray⟩), .im (.string ⟨(([62, 62] : Bs)).toArray⟩)]
theorem L1V_get {m : Nat} (h : m < 2) : ∃ p : Bs, L1V[m]? = some (.im (.string ⟨(p).toArray⟩)) ∧ (m = 0 ∧ p = [62, 62, 115] ∨ m = 1 ∧ p = [60, 115]) := by
  rcases (show m = 0 ∨ m = 1 by omega) with rfl | rfl
  · exact ⟨[62, 62, 115], rfl, .inl ⟨rfl, rfl⟩⟩
  · exact ⟨[60, 115], rfl, .inr ⟨rfl, rfl⟩⟩
theorem L2V_get {m : Nat} (h : m < 4) : ∃ p : Bs, L2V[m]? = some (.im (.string ⟨(p).toArray⟩)) ∧ (m = 0 ∧ p = [61, 61] ∨ m = 1 ∧ p = [33, 61] ∨ m = 2 ∧ p = [60, 60] ∨ m = 3 ∧ p = [62, 62]) := by
  rcases (show m = 0 ∨ m = 1 ∨ m = 2 ∨ m = 3 by omega) with rfl | rfl | rfl | rfl
  · exact ⟨[61, 61], rfl, .inl ⟨rfl, rfl⟩⟩
  · exact ⟨[33, 61], rfl, .inr (.inl ⟨rfl, rfl⟩)⟩
  · exact ⟨[60, 60], rfl, .inr (.inr (.inl ⟨rfl, rfl⟩))⟩
  · exact ⟨[62, 62], rfl, .inr (.inr (.inr ⟨rfl, rfl⟩))⟩
theorem L1V_eq : [V.im (.string ⟨#[62, 62, 115]⟩), V.im (.string ⟨#[60, 115]⟩)] = L1V := rfl
theorem L2V_eq : [V.im (.string ⟨#[61, 61]⟩), V.im (.string ⟨#[33, 61]⟩), V.im (.string ⟨#[60, 60]⟩), V.im (.string ⟨#[62, 62]⟩)] = L2V := rfl
theorem L1V_length : L1V.length = 2 := rfl
theorem L2V_length : L2V.length = 4 := rfl
theorem symR_1 {s p : Bs} {m : Nat} (hm : m = 0 ∧ p = [62, 62, 115] ∨ m = 1 ∧ p = [60, 115]) (h0 : 1 ≤ m → tst [62, 62, 115] s = false) (h : tst p s = true) : symR s = (p, true) := by
  unfold symR symP
  rcases hm with ⟨rfl, rfl⟩ | ⟨rfl, rfl⟩
  · rw [if_pos (show (pre [62, 62, 115] s && nW (s.drop 3)) = true from h)]
  · have := h0 (Nat.le_refl _)
    rw [if_neg (show ¬ (pre [62, 62, 115] s && nW (s.drop 3)) = true by rw [show (pre [62, 62, 115] s && nW (s.drop 3)) = false from this]; decide), if_pos (show (pre [60, 115] s && nW (s.drop 2)) = true from h)]
theorem symP_2 {s : Bs} (h1 : tst [62, 62, 115] s = false) (h2 : tst [60, 115] s = false) : symP s = if pre [61, 61] s then some [61, 61]
    else if pre [33, 61] s then some [33, 61]
    else if pre [60, 60] s then some [60, 60]
    else if pre [62, 62] s then some [62, 62]
    else match s with
      | [] => none
      | c :: _ => if ops1.contains c then some [c] else none := by
  unfold symP
  rw [if_neg (show ¬ (pre [62, 62, 115] s && nW (s.drop 3)) = true by rw [show (pre [62, 62, 115] s && nW (s.drop 3)) = false from h1]; decide), if_neg (show ¬ (pre [60, 115] s && nW (s.drop 2)) = true by rw [show (pre [60, 115] s && nW (s.drop 2)) = false from h2]; decide)]
  cases s <;> rfl
theorem symR_2 {s p : Bs} {m : Nat} (h1 : tst [62, 62, 115] s = false) (h2 : tst [60, 115] s = false) (hm : m = 0 ∧ p = [61, 61] ∨ m = 1 ∧ p = [33, 61] ∨ m = 2 ∧ p = [60, 60] ∨ m = 3 ∧ p = [62, 62])
    (hI : (1 ≤ m → pre [61, 61] s = false) ∧ (2 ≤ m → pre [33, 61] s = false) ∧ (3 ≤ m → pre [60, 60] s = false)) (h : pre p s = true) : symR s = (p, true) := by
  unfold symR
  rw [symP_2 h1 h2]
  obtain ⟨i1, i2, i3⟩ := hI
  rcases hm with ⟨rfl, rfl⟩ | ⟨rfl, rfl⟩ | ⟨rfl, rfl⟩ | ⟨rfl, rfl⟩
  · simp [h]
  · simp [h, i1 (by omega)]
  · simp [h, i1 (by omega), i2 (by omega)]
  · simp [h, i1 (by omega), i2 (by omega), i3 (by omega)]
theorem symR_3 {c : UInt8} {r : Bs} (h1 : tst [62, 62, 115] (c :: r) = false) (h2 : tst [60, 115] (c :: r) = false) (h3 : pre [61, 61] (c :: r) = false) (h4 : pre [33, 61] (c :: r) = false) (h5 : pre [60, 60] (c :: r) = false) (h6 : pre [62, 62] (c :: r) = false) : symR (c :: r) = ([c], ops1.contains c) := by
  unfold symR
  rw [symP_2 h1 h2, h3, h4, h5, h6]
  simp only [Bool.false_eq_true, if_false]
  cases h : ops1.contains c <;> simp
theorem Y136_T11 : type_of% (AI @F_ag_9 (AI @F_al_9 (AI @F_el_84 (AI @F_in_21 (AI @F_in_5 (AI @F_sz_9 (AI @F_un_21 (AI @F_un_5 (@F_un_9))))))))) := AI @F_ag_9 (AI @F_al_9 (AI @F_el_84 (AI @F_in_21 (AI @F_in_5 (AI @F_sz_9 (AI @F_un_21 (AI @F_un_5 (@F_un_9))))))))
set_option maxHeartbeats 2000000 in
theorem c_symbol (s : Bs) (hs : s.length ≤ 4194304) (h0 : s ≠ []) : PC Tryz.prog 136 [.im (.string ⟨(s).toArray⟩)] (.tu [.im (.string ⟨((symR s).1).toArray⟩), (.im (.bool ((symR s).2)))]) := by
  refine PC.enter 59 Tryz.func136 rfl (by decide) rfl rfl (s := [(0, .im (.string ⟨(s).toArray⟩))]) (by rfl) ?_
  refine wG Y136_T11 (AI L1V_eq L1V_length) ?_
  refine AWp.loop ?_
  refine ALp.cutP 0 [(0, .im (.string ⟨(s).toArray⟩)), (2, .im (.string ⟨(([] : Bs)).toArray⟩)), (3, (.im (.bool (false)))), (10, .sl L1V .full), (11, (.im (.int .i64 (2)))), (12, (.im (.int .i64 ((((0 : Nat)) : Int)))))] [] byL_id ?_
  refine ALp.upto 2 (fun m => (1 ≤ m → tst [62, 62, 115] s = false) ∧ (2 ≤ m → tst [60, 115] s = false)) (fun m => ⟨dn 59 [(0, .im (.string ⟨(s).toArray⟩)), (2, .im (.string ⟨(([] : Bs)).toArray⟩)), (3, (.im (.bool (false)))), (10, .sl L1V .full), (11, (.im (.int .i64 (2)))), (12, (.im (.int .i64 ((((m : Nat)) : Int)))))], ofl []⟩) ?_ 0 (Nat.zero_le _) ⟨fun h => by omega, fun h => by omega⟩
  intro m hm hI hnext
  by_cases hlt : m < 2
  case neg =>
    obtain rfl : m = 2 := by omega
    clear hnext; have hn : ¬ (2 : Int) < 2 := by omega
    refine wG Y136_T11 (AI hn (AI L2V_eq L2V_length)) ?_; refine AWp.loop ?_; refine ALp.cutP 0 [(0, .im (.string ⟨(s).toArray⟩)), (2, .im (.string ⟨(([] : Bs)).toArray⟩)), (3, (.im (.bool (false)))), (43, .sl L2V .full), (44, (.im (.int .i64 (4)))), (45, (.im (.int .i64 ((((0 : Nat)) : Int)))))] [] byL_id ?_; obtain ⟨h1, h2⟩ : tst [62, 62, 115] s = false ∧ tst [60, 115] s = false := ⟨hI.1 (by omega), hI.2 (by omega)⟩
    clear hI hm hlt; refine ALp.upto 4 (fun m => (1 ≤ m → pre [61, 61] s = false) ∧ (2 ≤ m → pre [33, 61] s = false) ∧ (3 ≤ m → pre [60, 60] s = false) ∧ (4 ≤ m → pre [62, 62] s = false)) (fun m => ⟨dn 59 [(0, .im (.string ⟨(s).toArray⟩)), (2, .im (.string ⟨(([] : Bs)).toArray⟩)), (3, (.im (.bool (false)))), (43, .sl L2V .full), (44, (.im (.int .i64 (4)))), (45, (.im (.int .i64 ((((m : Nat)) : Int)))))], ofl []⟩) ?_ 0 (Nat.zero_le _) ⟨fun h => by omega, fun h => by omega, fun h => by omega, fun h => by omega⟩
    intro m hm hI hnext
    by_cases hlt : m < 4
    case neg =>
      obtain rfl : m = 4 := by omega
      clear hnext; have hn : ¬ (4 : Int) < 4 := by omega
      cases s with
      | nil => exact absurd rfl h0
      | cons c r =>
      rw [symR_3 h1 h2 (hI.1 (by omega)) (hI.2.1 (by omega)) (hI.2.2.1 (by omega)) (hI.2.2.2 (by omega))]
      have q := c_contains ⟨#[40, 41, 123, 125, 91, 93, 44, 59, 58, 63, 61, 43, 45, 42, 38, 124, 94, 33, 60]⟩ ⟨#[c]⟩ (of_decide_eq_true (by kernel_rfl))
      rw [show Lib.contains (ByteArray.mk #[40, 41, 123, 125, 91, 93, 44, 59, 58, 63, 61, 43, 45, 42, 38, 124, 94, 33, 60]).data.toList (ByteArray.mk #[c]).data.toList = ops1.contains c from contains_one ops1 c] at q
      generalize ops1.contains c = b at q; have hle : (1 : Int) ≤ ((r.length + 1 : Nat) : Int) := by omega
      refine wG Y136_T11 hn ?_; refine wdG Y136_T11 (AI BY (AI GDS (AI bS_size hle))) ?_; refine AR.callP q True.intro byL_id ?_; refine goG Y136_T11 True.intro ?_; refine wdG Y136_T11 True.intro ?_; refine Fin.gen0 (rs := [.tmp 2, .tmp 3]) rfl (by first | exact .inl rfl | exact .inr rfl) (finG Y136_T11) ?_
      all_goals exact wkG byL_id
    have hlt' : (m : Int) < 4 := by omega
    have hw1 := wrap_succ hlt (by omega)
    obtain ⟨p, hg, hp⟩ := L2V_get hlt; have hY : pre p s = true → symR s = (p, true) := fun h => symR_2 h1 h2 hp ⟨hI.1, hI.2.1, hI.2.2.1⟩ h
    have hN : pre p s = false → _ := fun h => hnext (m + 1) (by omega) (by omega) (by
      obtain ⟨i1, i2, i3, i4⟩ := hI; rcases hp with ⟨rfl, rfl⟩ | ⟨rfl, rfl⟩ | ⟨rfl, rfl⟩ | ⟨rfl, rfl⟩
      · exact ⟨fun _ => h, fun h => by omega, fun h => by omega, fun h => by omega⟩
      · exact ⟨fun _ => i1 (by omega), fun _ => h, fun h => by omega, fun h => by omega⟩
      · exact ⟨fun _ => i1 (by omega), fun _ => i2 (by omega), fun _ => h, fun h => by omega⟩
      · exact ⟨fun _ => i1 (by omega), fun _ => i2 (by omega), fun _ => i3 (by omega), fun _ => h⟩)
    have q := c_hasPre s p; clear hnext hI hp; refine wG Y136_T11 (AI BY (AI hlt' (AI hg L2V_length))) ?_; cases b1 : pre p s with
    | true =>
      rw [b1] at q; rw [hY b1]; clear hN; refine AR.callP q True.intro byL_id ?_; refine goG Y136_T11 True.intro ?_; refine wG Y136_T11 True.intro ?_; refine Fin.gen0 (rs := [.tmp 2, .tmp 3]) rfl (by first | exact .inl rfl | exact .inr rfl) (finG Y136_T11) ?_
      all_goals exact wkG byL_id
    | false =>
      rw [b1] at q; have hN := hN b1; refine AR.callP q True.intro byL_id ?_; refine goG Y136_T11 True.intro ?_; refine wG Y136_T11 hw1 ?_; refine ALp.cutP 0 [(0, .im (.string ⟨(s).toArray⟩)), (2, .im (.string ⟨(([] : Bs)).toArray⟩)), (3, (.im (.bool (false)))), (43, .sl L2V .full), (44, (.im (.int .i64 (4)))), (45, (.im (.int .i64 ((((m + 1 : Nat)) : Int)))))] [] byL_id ?_; exact hN
  have hlt' : (m : Int) < 2 := by omega
  have hw1 := wrap_succ hlt (by omega)
  obtain ⟨p, hg, hp⟩ := L1V_get hlt
  have hI2 : tst p s = false → (1 ≤ m + 1 → tst [62, 62, 115] s = false) ∧ (2 ≤ m + 1 → tst [60, 115] s = false) := fun h => by
    rcases hp with ⟨rfl, rfl⟩ | ⟨rfl, rfl⟩
    · exact ⟨fun _ => h, fun h => by omega⟩
    · exact ⟨fun _ => hI.1 (Nat.le_refl _), fun _ => h⟩
  have hY : tst p s = true → symR s = (p, true) := fun h => symR_1 hp hI.1 h
  have hN := fun h => hnext (m + 1) (by omega) (by omega) (hI2 h)
  clear hnext hI2 hp hI
  have qc := c_cutPre s p
  cases b1 : pre p s with
  | false =>
    have hN := hN (by unfold tst; rw [b1]; rfl)
    rw [b1, cutP_false b1] at qc; refine wG Y136_T11 (AI BY (AI hlt' (AI hg L1V_length))) ?_; refine AR.callP qc True.intro byL_id ?_; refine goG Y136_T11 True.intro ?_; refine wG Y136_T11 hw1 ?_; refine ALp.cutP 0 [(0, .im (.string ⟨(s).toArray⟩)), (2, .im (.string ⟨(([] : Bs)).toArray⟩)), (3, (.im (.bool (false)))), (10, .sl L1V .full), (11, (.im (.int .i64 (2)))), (12, (.im (.int .i64 ((((m + 1 : Nat)) : Int)))))] [] byL_id ?_; exact hN
  | true =>
  rw [b1, cutP_true b1] at qc
  unfold tst at hN hY
  rw [b1, Bool.true_and] at hN hY
  generalize s.drop p.length = x at qc hN hY
  refine wG Y136_T11 (AI BY (AI hlt' (AI hg L1V_length))) ?_
  refine AR.callP qc True.intro byL_id ?_
  refine goG Y136_T11 True.intro ?_
  cases x with
  | nil =>
    have e0 : (([] : Bs) == []) = true := rfl; rw [hY rfl]; clear hN; refine wG Y136_T11 (AI BY e0) ?_; refine Fin.gen0 (rs := [.tmp 2, .tmp 3]) rfl (by first | exact .inl rfl | exact .inr rfl) (finG Y136_T11) ?_
    all_goals exact wkG byL_id
  | cons d y =>
  have e0 : ((d :: y) == ([] : Bs)) = false := rfl
  have g0 : (d :: y)[0]? = some d := rfl
  have w32 : IntKind.i32.wrap (d.toNat : Int) = d.toNat := by
    have := d.toNat_lt; exact IntWalk.i32_in _ (by omega)
  have hW : nW (d :: y) = !(isL d || isD d) := rfl
  have q1 := c_letter (d.toNat : Int)
  have q2 := c_digit (d.toNat : Int)
  rw [ltr_isL] at q1
  rw [dgt_isD] at q2
  refine wG Y136_T11 (AI BY (AI e0 (AI g0 w32))) ?_
  cases b2 : isL d with
  | true =>
    rw [b2] at q1; have hN := hN (by rw [hW, b2]; rfl)
    refine AR.callP q1 True.intro byL_id ?_; refine goG Y136_T11 True.intro ?_; refine wG Y136_T11 hw1 ?_; refine ALp.cutP 0 [(0, .im (.string ⟨(s).toArray⟩)), (2, .im (.string ⟨(([] : Bs)).toArray⟩)), (3, (.im (.bool (false)))), (10, .sl L1V .full), (11, (.im (.int .i64 (2)))), (12, (.im (.int .i64 ((((m + 1 : Nat)) : Int)))))] [] byL_id ?_; exact hN
  | false =>
  rw [b2] at q1
  refine AR.callP q1 True.intro byL_id ?_
  refine goG Y136_T11 (AI BY (AI g0 w32)) ?_
  cases b3 : isD d with
  | true =>
    rw [b3] at q2; have hN := hN (by rw [hW, b2, b3]; rfl)
    refine AR.callP q2 True.intro byL_id ?_; refine goG Y136_T11 True.intro ?_; refine wG Y136_T11 hw1 ?_; refine ALp.cutP 0 [(0, .im (.string ⟨(s).toArray⟩)), (2, .im (.string ⟨(([] : Bs)).toArray⟩)), (3, (.im (.bool (false)))), (10, .sl L1V .full), (11, (.im (.int .i64 (2)))), (12, (.im (.int .i64 ((((m + 1 : Nat)) : Int)))))] [] byL_id ?_; exact hN
  | false =>
    rw [b3] at q2; rw [hY (by rw [hW, b2, b3]; rfl)]
    clear hN; refine AR.callP q2 True.intro byL_id ?_; refine goG Y136_T11 True.intro ?_; refine wG Y136_T11 True.intro ?_; refine Fin.gen0 (rs := [.tmp 2, .tmp 3]) rfl (by first | exact .inl rfl | exact .inr rfl) (finG Y136_T11) ?_
    all_goals exact wkG byL_id
def nxtR (s : Bs) : Tk × Nat × Bool :=
  if 0 < (s.takeWhile isW).length then ((namR (s.takeWhile isW)).1, (s.takeWhile isW).length, (namR (s.takeWhile isW)).2)
  else if s.head? = some 34 then (⟨4, (quoR (s.drop 1)).1, 0, 0, 0⟩, (quoR (s.drop 1)).2.1, (quoR (s.drop 1)).2.2)
  else (⟨5, (symR s).1, 0, 0, 0⟩, (symR s).1.length, (symR s).2)
theorem isW_lt {c : UInt8} (h : isW c = true) : c.toNat < 128 := by
  have := u8_all (fun c => !isW c || decide (c.toNat < 128)) (by decide +kernel) c
  rw [h] at this
  simpa using this
theorem Y68_T12 : type_of% (AI @F_ag_122 (AI @F_ag_9 (AI @F_al_122 (AI @F_fl_120_0 (AI @F_st_122 (AI @F_sz_122 (AI @F_sz_9 (@F_un_9)))))))) := AI @F_ag_122 (AI @F_ag_9 (AI @F_al_122 (AI @F_fl_120_0 (AI @F_st_122 (AI @F_sz_122 (AI @F_sz_9 (@F_un_9)))))))
set_option maxHeartbeats 2000000 in
theorem c_next (s : Bs) (p : Int × Int) (ts : List Tk) (hs : s.length ≤ 4194304) (h0 : s ≠ []) : DC Tryz.prog 68 [.pt 0 0] [.box [.im (.string ⟨(s).toArray⟩), (.im (.int .i64 (p.1))), (.im (.int .i64 (p.2))), .sl (ts.map tkV) (.mine 1)], .tip 122 5 ts.length] (.tu [tkV (nxtR s).1, (.im (.int .i64 (((nxtR s).2.1 : Int)))), (.im (.bool ((nxtR s).2.2)))]) [.box [.im (.string ⟨(s).toArray⟩), (.im (.int .i64 (p.1))), (.im (.int .i64 (p.2))), .sl (ts.map tkV) (.mine 1)], .tip 122 5 ts.length] := by
  have qw := c_word s p ts
  have htk : (s.takeWhile isW).length ≤ s.length := (List.takeWhile_prefix isW).length_le
  have hpre : s.take (s.takeWhile isW).length = s.takeWhile isW := (List.prefix_iff_eq_take.1 (List.takeWhile_prefix isW)).symm
  by_cases hw : 0 < (s.takeWhile isW).length
  · have hR : nxtR s = ((namR (s.takeWhile isW)).1, (s.takeWhile isW).length, (namR (s.takeWhile isW)).2) := if_pos hw
    have qn := c_named (s.takeWhile isW) (by omega) (fun h => by rw [h] at hw; exact absurd hw (by decide)) (fun c hc => isW_lt (takeW_all c hc))
    rw [hR]; generalize s.takeWhile isW = w at qw htk hpre hw qn; have hw' : (w.length : Int) > 0 := by omega
    have hle : (w.length : Int) ≤ (s.length : Int) := by omega
    refine DC.enter 62 Tryz.func68 rfl (by decide) rfl rfl (s := [(0, .pt 0 0)]) (by rfl) ?_
    refine wG Y68_T12 True.intro ?_; refine AR.callQP [0, 1] qw True.intro (AI tkL_id (AI tkV_id byL_id)) (AI tkV_ren (AI tkL_ren byL_ren)) ?_; refine goG Y68_T12 True.intro ?_; refine wG Y68_T12 (AI BY (AI GDS (AI hw' (AI hle hpre)))) ?_; refine AR.callP qn True.intro (AI tkL_id (AI tkV_id byL_id)) ?_; refine goG Y68_T12 TKT ?_; refine wG Y68_T12 TKT ?_; refine Fin.gen (rs := [.cell 2 122, .tmp 3, .tmp 4]) rfl (by first | exact .inl rfl | exact .inr rfl) (finG Y68_T12) ?_ rfl (idG (AI tkL_id (AI tkV_id byL_id)))
    all_goals exact wkG (AI tkL_id (AI tkV_id byL_id))
  have hR : nxtR s = if s.head? = some 34 then (⟨4, (quoR (s.drop 1)).1, 0, 0, 0⟩, (quoR (s.drop 1)).2.1, (quoR (s.drop 1)).2.2) else (⟨5, (symR s).1, 0, 0, 0⟩, (symR s).1.length, (symR s).2) := if_neg hw
  have qq := c_quoted s hs h0
  have qs := c_symbol s hs h0
  rw [show (s.takeWhile isW).length = 0 by omega] at qw
  clear hpre htk hw
  cases s with
  | nil => exact absurd rfl h0
  | cons c r =>
  have g0 : (c :: r)[0]? = some c := rfl
  have hgt : ¬ (0 : Int) > 0 := by decide
  by_cases h34 : c.toNat = 34
  · have e1 : (((34 : UInt8).toNat : Nat) : Int) = 34 := rfl
    obtain rfl : c = 34 := toNat_inj h34; rw [hR, if_pos (show ((34 : UInt8) :: r).head? = some 34 from rfl)]
    generalize quoR (List.drop 1 ((34 : UInt8) :: r)) = q at qq; obtain ⟨t, n, b⟩ := q; refine DC.enter 62 Tryz.func68 rfl (by decide) rfl rfl (s := [(0, .pt 0 0)]) (by rfl) ?_
    refine wG Y68_T12 True.intro ?_; refine AR.callQP [0, 1] qw True.intro (AI tkL_id (AI tkV_id byL_id)) (AI tkV_ren (AI tkL_ren byL_ren)) ?_; refine goG Y68_T12 True.intro ?_; refine wG Y68_T12 (AI BY (AI GDS (AI hgt (AI g0 e1)))) ?_; refine AR.callP qq True.intro (AI tkL_id (AI tkV_id byL_id)) ?_; refine goG Y68_T12 True.intro ?_; refine wG Y68_T12 True.intro ?_; refine Fin.gen (rs := [.cell 2 122, .tmp 3, .tmp 4]) rfl (by first | exact .inl rfl | exact .inr rfl) (finG Y68_T12) ?_ rfl (idG (AI tkL_id (AI tkV_id byL_id)))
    all_goals exact wkG (AI tkL_id (AI tkV_id byL_id))
  · have e1 : ¬ (c.toNat : Int) = 34 := by omega
    rw [hR, if_neg (show ¬ (c :: r).head? = some 34 from fun h => h34 (by rw [Option.some.inj h]; rfl))]
    generalize symR (c :: r) = q at qs; obtain ⟨t, b⟩ := q; refine DC.enter 62 Tryz.func68 rfl (by decide) rfl rfl (s := [(0, .pt 0 0)]) (by rfl) ?_
    refine wG Y68_T12 True.intro ?_; refine AR.callQP [0, 1] qw True.intro (AI tkL_id (AI tkV_id byL_id)) (AI tkV_ren (AI tkL_ren byL_ren)) ?_; refine goG Y68_T12 True.intro ?_; refine wG Y68_T12 (AI BY (AI GDS (AI hgt (AI g0 e1)))) ?_; refine AR.callP qs True.intro (AI tkL_id (AI tkV_id byL_id)) ?_; refine goG Y68_T12 True.intro ?_; refine wG Y68_T12 (AI BY bS_size) ?_; refine Fin.gen (rs := [.cell 2 122, .tmp 3, .tmp 4]) rfl (by first | exact .inl rfl | exact .inr rfl) (finG Y68_T12) ?_ rfl (idG (AI tkL_id (AI tkV_id byL_id)))
    all_goals exact wkG (AI tkL_id (AI tkV_id byL_id))
theorem skp_idem : ∀ (s : Bs) (b : Bool), skpG false (skpG b s) = skpG b s
  | [], b => by cases b <;> rfl
  | c :: r, true => by
    by_cases h : c.toNat = 10
    · have e : skpG true (c :: r) = skpG false r := by rw [skpG, if_pos h]
      rw [e]; exact skp_idem r false
    · have e : skpG true (c :: r) = skpG true r := by rw [skpG, if_neg h]
      rw [e]; exact skp_idem r true
  | c :: r, false => by
    by_cases h1 : isS c = true
    · have e : skpG false (c :: r) = skpG false r := by rw [skpG, if_pos h1]
      rw [e]; exact skp_idem r false
    · by_cases h2 : c.toNat = 47 ∧ r.head? = some 47
      · have e : skpG false (c :: r) = skpG true r := by rw [skpG, if_neg h1, if_pos h2]
        rw [e]; exact skp_idem r true
      · have e : skpG false (c :: r) = c :: r := by rw [skpG, if_neg h1, if_neg h2]
        rw [e, e]
theorem skp_suf : ∀ (s : Bs) (b : Bool), skpG b s <:+ s
  | [], b => by cases b <;> exact List.suffix_refl _
  | c :: r, true => by
    by_cases h : c.toNat = 10
    · have e : skpG true (c :: r) = skpG false r := by rw [skpG, if_pos h]
      rw [e]; exact (skp_suf r false).trans (List.suffix_cons c r)
    · have e : skpG true (c :: r) = skpG true r := by rw [skpG, if_neg h]
      rw [e]; exact (skp_suf r true).trans (List.suffix_cons c r)
  | c :: r, false => by
    by_cases h1 : isS c = true
    · have e : skpG false (c :: r) = skpG false r := by rw [skpG, if_pos h1]
      rw [e]; exact (skp_suf r false).trans (List.suffix_cons c r)
    · by_cases h2 : c.toNat = 47 ∧ r.head? = some 47
      · have e : skpG false (c :: r) = skpG true r := by rw [skpG, if_neg h1, if_pos h2]
        rw [e]; exact (skp_suf r true).trans (List.suffix_cons c r)
      · have e : skpG false (c :: r) = c :: r := by rw [skpG, if_neg h1, if_neg h2]
        rw [e]; exact List.suffix_refl _
theorem skq_idem {x : Bs} (h : skpG false x = x) (q : Int × Int) : skq x q = q := by
  unfold skq
  rw [h, Nat.sub_self, List.take_zero]
  rfl
theorem quoR_len {r : Bs} (h : (quoR r).2.2 = true) : 1 ≤ (quoR r).2.1 ∧ (quoR r).2.1 ≤ r.length + 1 := by
  cases hq : quoP r with
  | none => rw [quoR_none hq] at h; cases h
  | some p =>
    obtain ⟨t, m⟩ := p; rw [quoR_some hq]; have := quoG_len _ hq; exact ⟨by simp, by simp only; omega⟩
theorem symP_pre {s op : Bs} (h : symP s = some op) : pre op s = true ∧ op ≠ [] := by
  unfold symP at h
  split at h
  · rename_i h1
    cases h
    exact ⟨(Bool.and_eq_true _ _ ▸ h1).1, by simp⟩
  split at h
  · rename_i h1
    cases h
    exact ⟨(Bool.and_eq_true _ _ ▸ h1).1, by simp⟩
  split at h
  · rename_i h1; cases h; exact ⟨h1, by simp⟩
  split at h
  · rename_i h1; cases h; exact ⟨h1, by simp⟩
  split at h
  · rename_i h1; cases h; exact ⟨h1, by simp⟩
  split at h
  · rename_i h1; cases h; exact ⟨h1, by simp⟩
  split at h
  · cases h
  · split at h
    · cases h; exact ⟨by simp [pre, List.isPrefixOf], by simp⟩
    · cases h
theorem nxtR_len {s : Bs} (h0 : s ≠ []) (h : (nxtR s).2.2 = true) : 1 ≤ (nxtR s).2.1 ∧ (nxtR s).2.1 ≤ s.length := by
  unfold nxtR at h ⊢
  split
  · rename_i h1
    exact ⟨h1, (List.takeWhile_prefix isW).length_le⟩
  · rename_i h1
    rw [if_neg h1] at h
    have hs : 1 ≤ s.length := by cases s with
      | nil => exact absurd rfl h0
      | cons c r => simp
    split
    · rename_i h2
      rw [if_pos h2] at h; have := quoR_len h; rw [List.length_drop] at this; exact ⟨this.1, by simp only; omega⟩
    · rename_i h2
      rw [if_neg h2] at h; unfold symR at h ⊢; cases hs : symP s with
      | none => rw [hs] at h; cases h
      | some op =>
        obtain ⟨h3, h4⟩ := symP_pre hs; simp only; obtain ⟨x, rfl⟩ := pre_iff.1 h3; refine ⟨?_, by simp⟩
        cases op with
        | nil => exact absurd rfl h4
        | cons c r => simp
def scnN : Nat → Bs → Int × Int → List Tk × Bool
  | 0, _, _ => ([], true)
  | f + 1, s, p => if skpG false s = [] then ([], true)
    else if (nxtR (skpG false s)).2.2 then ((nxtR (skpG false s)).1.at_ (skq s p) :: (scnN f ((skpG false s).drop (nxtR (skpG false s)).2.1) (advs (skq s p) ((skpG false s).take (nxtR (skpG false s)).2.1))).1, (scnN f ((skpG false s).drop (nxtR (skpG false s)).2.1) (advs (skq s p) ((skpG false s).take (nxtR (skpG false s)).2.1))).2)
    else ([⟨6, [], 0, (skq s p).1, (skq s p).2⟩], false)
def scnB (s : Bs) : List Tk × Bool := scnN (s.length + 1) s (1, 1)
theorem scnN_skp (f : Nat) (s : Bs) (p : Int × Int) : scnN f s p = scnN f (skpG false s) (skq s p) := by
  cases f with
  | zero => rfl
  | succ f =>
    unfold scnN; rw [skp_idem, skq_idem (skp_idem s false)]
theorem scnN_nil (f : Nat) (p : Int × Int) : scnN f [] p = ([], true) := by
  cases f with
  | zero => rfl
  | succ f => unfold scnN; rw [if_pos (show skpG false [] = [] from rfl)]
theorem scnN_ok {f : Nat} {x : Bs} (hx : skpG false x = x) (h0 : x ≠ []) (h : (nxtR x).2.2 = true) (q : Int × Int) : scnN (f + 1) x q = ((nxtR x).1.at_ q :: (scnN f (x.drop (nxtR x).2.1) (advs q (x.take (nxtR x).2.1))).1, (scnN f (x.drop (nxtR x).2.1) (advs q (x.take (nxtR x).2.1))).2) := by
  conv => lhs; unfold scnN
  rw [hx, skq_idem hx, if_neg h0, if_pos h]
theorem scnN_no {f : Nat} {x : Bs} (hx : skpG false x = x) (h0 : x ≠ []) (h : (nxtR x).2.2 = false) (q : Int × Int) : scnN (f + 1) x q = ([⟨6, [], 0, q.1, q.2⟩], false) := by
  conv => lhs; unfold scnN
  rw [hx, skq_idem hx, if_neg h0, if_neg (by rw [h]; decide)]
theorem dgv_hexv (b : Nat) (hb : b = 10 ∨ b = 16) (c : UInt8) : (∀ d, d < b → (dgv c = some d ↔ hexv c = some d)) := by
  have key : ∀ n, n < 16 → (dgv c = some n ↔ hexv c = some n) := by
    intro n hn; have := u8_all (fun c => (List.range 16).all fun n => (dgv c == some n) == (hexv c == some n)) (by decide +kernel) c
    have h2 := List.all_eq_true.1 this n (by simpa using hn)
    have h3 := beq_iff_eq.1 h2; constructor
    · intro h
      have : (hexv c == some n) = true := by rw [← h3, h]; simp
      exact beq_iff_eq.1 this
    · intro h
      have : (dgv c == some n) = true := by rw [h3, h]; simp
      exact beq_iff_eq.1 this
  intro d hd
  exact key d (by omega)
theorem digV_le {b : Nat} (hb : 1 ≤ b) (s : Bs) : ∀ a n, digV b a s = some n → a ≤ n := by
  induction s with
  | nil => intro a n h; cases h; exact Nat.le_refl _
  | cons c r ih =>
    intro a n h; rw [digV] at h; split at h
    · split at h
      · have h1 := ih _ _ h
        have : a * 1 ≤ a * b := Nat.mul_le_mul_left a hb; omega
      · cases h
    · cases h
theorem puF_of {b : Nat} (hb : b = 10 ∨ b = 16) (s : Bs) : ∀ a n, digV b a s = some n → n ≤ 4294967295 → puF b a s = (n, 0) := by
  induction s with
  | nil => intro a n h _; cases h; rfl
  | cons c r ih =>
    intro a n h hn; rw [digV] at h; split at h
    · rename_i d hd
      split at h
      · rename_i hlt
        have h1 := digV_le (show 1 ≤ b by omega) r _ _ h
        rw [puF, (dgv_hexv b hb c d hlt).2 hd]; simp only; rw [if_neg (by omega), if_neg (by omega)]
        exact ih _ _ h hn
      · cases h
    · cases h
theorem puF_to {b : Nat} (hb : b = 10 ∨ b = 16) (s : Bs) : ∀ a, (puF b a s).2 = 0 → digV b a s = some (puF b a s).1 := by
  induction s with
  | nil => intro a _; rfl
  | cons c r ih =>
    intro a h; rw [puF] at h ⊢; cases hd : dgv c with
    | none => rw [hd] at h; cases h
    | some d =>
      rw [hd] at h; simp only at h ⊢
      by_cases h1 : b ≤ d
      · rw [if_pos h1] at h; cases h
      · rw [if_neg h1] at h ⊢
        by_cases h2 : 4294967295 < a * b + d
        · rw [if_pos h2] at h; cases h
        · rw [if_neg h2] at h ⊢
          rw [digV, (dgv_hexv b hb c d (by omega)).1 hd]
          simp only; rw [if_pos (by omega)]
          exact ih _ h
theorem digV_hex {b : Nat} (s : Bs) : ∀ a n, digV b a s = some n → ∀ c ∈ s, (hexv c).isSome = true := by
  induction s with
  | nil => intro a n _ c hc; cases hc
  | cons x r ih =>
    intro a n h c hc; rw [digV] at h; split at h
    · rename_i d hd
      split at h
      · rcases List.mem_cons.1 hc with rfl | hc
        · rw [hd]; rfl
        · exact ih _ _ h c hc
      · cases h
    · cases h
theorem noAny_hex {s : Bs} (h : ∀ c ∈ s, (hexv c).isSome = true) : Lib.containsAny s [95, 43, 45] = false := by
  unfold Lib.containsAny
  rw [Lib.indexAny_none (fun j b _ hb => ?_)]
  · decide
  · have h1 := h b (List.mem_of_getElem? hb)
    have h2 := u8_all (fun c => !(hexv c).isSome || !([95, 43, 45] : List UInt8).contains c) (by decide +kernel) b
    simp only [h1, Bool.not_true, Bool.false_or] at h2; simpa using h2
theorem digV_lt16 (s : Bs) : ∀ a n, digV 16 a s = some n → n < (a + 1) * 16 ^ s.length := by
  induction s with
  | nil => intro a n h; cases h; simp
  | cons c r ih =>
    intro a n h; rw [digV] at h; split at h
    · rename_i d hd
      split at h
      · rename_i hlt
        have h1 := ih _ _ h; have h2 : (a * 16 + d + 1) * 16 ^ r.length ≤ ((a + 1) * 16) * 16 ^ r.length := Nat.mul_le_mul_right _ (by omega)
        rw [List.length_cons, Nat.pow_succ, Nat.mul_comm (16 ^ r.length) 16, ← Nat.mul_assoc]; omega
      · cases h
    · cases h
theorem valR_some {w : Bs} {n : Nat} (h : valP w = some n) : valR w = (n, true) := by
  unfold valP at h
  unfold valR
  split at h
  · rename_i hp
    rw [if_pos hp]; split at h
    · rename_i hl
      have h16 : n ≤ 4294967295 := by
        have := digV_lt16 _ _ _ h; have h2 : 16 ^ (List.drop 2 w).length ≤ 16 ^ 8 := Nat.pow_le_pow_right (by decide) hl.2
        have h3 : (16 : Nat) ^ 8 = 4294967296 := by decide
        omega
      have hne : List.drop 2 w ≠ [] := fun e => by rw [e] at hl; exact absurd hl.1 (by decide)
      have hpu : puR 16 (List.drop 2 w) = (n, 0) := by
        unfold puR; rw [if_neg hne]; exact puF_of (.inr rfl) _ _ _ h h16
      rw [hpu, noAny_hex (digV_hex _ _ _ h), decide_eq_true hl.2]; rfl
    · cases h
  · rename_i hp
    rw [if_neg hp]; split at h
    · cases h
    · rename_i hz
      split at h
      · rename_i m hm
        split at h
        · rename_i hlt
          cases h
          have hne : w ≠ [] := fun e => hz (.inl (by rw [e]; rfl))
          have hpu : puR 10 w = (n, 0) := by
            unfold puR; rw [if_neg hne]; exact puF_of (.inl rfl) _ _ _ hm (by omega)
          rw [hpu, noAny_hex (digV_hex _ _ _ hm)]
          have hz2 : (w == [48] || decide (w.head? ≠ some 48)) = true := by
            by_cases q : w.head? = some 48
            · have : ¬ 1 < w.length := fun k => hz (.inr ⟨k, q⟩)
              obtain ⟨x, rfl⟩ : ∃ x, w = [x] := List.length_eq_one_iff.1 (by have := List.length_pos_iff.2 hne; omega)
              cases q; rfl
            · rw [decide_eq_true q, Bool.or_true]
          rw [hz2]; rfl
        · cases h
      · cases h
theorem valR_none {w : Bs} (h : valP w = none) : (valR w).2 = false := by
  rw [← Bool.not_eq_true]
  intro hc
  unfold valR at hc
  unfold valP at h
  by_cases hp : pre [48, 120] w = true
  · rw [if_pos hp] at hc h
    simp only [Bool.and_eq_true, decide_eq_true_eq] at hc; have hne : List.drop 2 w ≠ [] := fun e => by rw [e] at hc; exact absurd hc.1 (by decide)
    unfold puR at hc; rw [if_neg hne] at hc; rw [if_pos ⟨List.length_pos_iff.2 hne, hc.2.1⟩, puF_to (.inr rfl) _ _ hc.1] at h; cases h
  · rw [if_neg hp] at hc h
    simp only [Bool.and_eq_true, decide_eq_true_eq] at hc; have hne : w ≠ [] := fun e => by rw [e] at hc; exact absurd hc.1 (by decide)
    have hz : ¬ (w.length = 0 ∨ (1 < w.length ∧ w.head? = some 48)) := by
      rintro (k | ⟨k1, k2⟩)
      · exact hne (List.length_eq_zero_iff.1 k)
      · have h3 := hc.2.1
        rw [decide_eq_false (show ¬ (w.head? ≠ some 48) from fun k => k k2), Bool.or_false] at h3
        have h4 := beq_iff_eq.1 h3; rw [h4] at k1; exact absurd k1 (by decide)
    have hpu : puR 10 w = puF 10 0 w := if_neg hne; have hle : (puF 10 0 w).1 ≤ 4294967295 := puF_le 10 w 0 (by decide)
    rw [hpu] at hc; rw [if_neg hz, puF_to (.inl rfl) _ _ hc.1] at h; simp only at h; rw [if_pos (by omega)] at h
    cases h
theorem namR_some {w : Bs} {t : Tk} (h : namP w = some t) : namR w = (t, true) := by
  unfold namP at h
  unfold namR
  split
  · rename_i q
    rw [if_pos q] at h; cases h; rfl
  · rename_i q
    rw [if_neg q] at h; split
    · rename_i q2
      rw [if_pos q2] at h; split at h
      · rename_i q3
        cases h
        rw [decide_eq_true q3]
      · cases h
    · rename_i q2
      rw [if_neg q2] at h; cases hv : valP w with
      | none => rw [hv] at h; cases h
      | some n =>
        rw [hv] at h; cases h
        rw [valR_some hv]
theorem namR_none {w : Bs} (h : namP w = none) : (namR w).2 = false := by
  unfold namP at h
  unfold namR
  split
  · rename_i q
    rw [if_pos q] at h; cases h
  · rename_i q
    rw [if_neg q] at h; split
    · rename_i q2
      rw [if_pos q2] at h; split at h
      · cases h
      · rename_i q3
        exact decide_eq_false q3
    · rename_i q2
      rw [if_neg q2] at h; cases hv : valP w with
      | none => exact valR_none hv
      | some n => rw [hv] at h; cases h
theorem nxtR_some {s : Bs} {t : Tk} {n : Nat} (h : tokP s = some (t, n)) : nxtR s = (t, n, true) := by
  unfold tokP at h
  unfold nxtR
  split
  · rename_i q
    rw [if_pos q] at h; cases hn : namP (s.takeWhile isW) with
    | none => rw [hn] at h; cases h
    | some u => rw [hn] at h; cases h; rw [namR_some hn]
  · rename_i q
    rw [if_neg q] at h; split
    · rename_i q2
      rw [if_pos q2] at h; cases hq : quoP (s.drop 1) with
      | none => rw [hq] at h; cases h
      | some u => obtain ⟨u, m⟩ := u; rw [hq] at h; cases h; rw [quoR_some hq]
    · rename_i q2
      rw [if_neg q2] at h; cases hq : symP s with
      | none => rw [hq] at h; cases h
      | some u => rw [hq] at h; cases h; unfold symR; rw [hq]
theorem nxtR_none {s : Bs} (h : tokP s = none) : (nxtR s).2.2 = false := by
  unfold tokP at h
  unfold nxtR
  split
  · rename_i q
    rw [if_pos q] at h; cases hn : namP (s.takeWhile isW) with
    | none => exact namR_none hn
    | some u => rw [hn] at h; cases h
  · rename_i q
    rw [if_neg q] at h; split
    · rename_i q2
      rw [if_pos q2] at h; cases hq : quoP (s.drop 1) with
      | none => rw [quoR_none hq]
      | some u => obtain ⟨u, m⟩ := u; rw [hq] at h; cases h
    · rename_i q2
      rw [if_neg q2] at h; cases hq : symP s with
      | none => unfold symR; rw [hq]
      | some u => rw [hq] at h; cases h
theorem scnN_scnG : ∀ (f : Nat) (s : Bs) (p : Int × Int), scnN f s p = scnG f s p
  | 0, s, p => rfl
  | f + 1, s, p => by
    rw [scnN, scnG]
    by_cases q : skpG false s = []
    · rw [if_pos q, if_pos q]
    rw [if_neg q, if_neg q]; cases h : tokP (skpG false s) with
    | none =>
      rw [if_neg (by rw [nxtR_none h]; decide)]
    | some u =>
      obtain ⟨t, n⟩ := u; rw [nxtR_some h, if_pos rfl, scnN_scnG f]
theorem scnB_scan (s : Bs) : scnB s = scan s := scnN_scnG _ s (1, 1)
end Go.Proofs.YtmbmmckagcdapaaGreatDoor
