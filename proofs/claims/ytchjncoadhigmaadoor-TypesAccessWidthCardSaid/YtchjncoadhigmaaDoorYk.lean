/- Walks: the law TypesAccessWidth. -/
import Derived.Test.YtchjncoadhigmaaDoorHv
import Derived.Test.YtchjncoadhigmaaDoorYi
namespace Go.Proofs.YtchjncoadhigmaaDoor
set_option linter.unusedSimpArgs false
set_option linter.unusedVariables false
set_option linter.unnecessarySimpa false
open Go.RowKit
theorem Y7_Yk : type_of% (And.intro @F_ag_25 (And.intro @F_ag_3 (And.intro @F_al_25 (And.intro @F_fl_25_0 (And.intro @F_in_3 (And.intro @F_in_5 (And.intro @F_st_25 (And.intro @F_sz_25 (And.intro @F_sz_3 (And.intro @F_un_3 (@F_un_5))))))))))) := And.intro @F_ag_25 (And.intro @F_ag_3 (And.intro @F_al_25 (And.intro @F_fl_25_0 (And.intro @F_in_3 (And.intro @F_in_5 (And.intro @F_st_25 (And.intro @F_sz_25 (And.intro @F_sz_3 (And.intro @F_un_3 (@F_un_5))))))))))
set_option maxHeartbeats 4000000 in
theorem c_width31 (hX : PC Tryd.prog 11 [] (.im (.bool (true)))) (t : Ty) (ht : fit t) (off w k : Int) (ho : I64 off) (hk : 0 ≤ k ∧ k < 256) : PC Tryd.prog 7 [tyV t, (.im (.int .i64 (off))), (.im (.int .i64 (w))), .im (.int .u8 k)] (.im (.bool (true))) := by
  have hs := c_small31 t ht 6 (by decide) (by decide)
  have hc := c_checkR t ht
  have h1 := c_FieldAt t ht off w ho
  refine PC.enter 95 Tryd.func7 rfl (by decide) rfl rfl (s := [(0, tyV t), (1, (.im (.int .i64 (off)))), (2, (.im (.int .i64 (w)))), (3, .im (.int .u8 k))]) (by rfl) ?_
  rw [tyV_eq t]
  refine wG Y7_Yk True.intro ?_
  refine AR.callP hs @tyV_eq (And.intro (@tyV_id) (And.intro (@fdV_id) (And.intro (@tyL_id) @fdL_id))) ?_
  cases q : smallT t 6
  case' false =>
    refine goG Y7_Yk q ?_
    refine wG Y7_Yk True.intro ?_
    refine AR.callP hX True.intro (And.intro (@tyV_id) (And.intro (@fdV_id) (And.intro (@tyL_id) @fdL_id))) ?_
    refine goG Y7_Yk True.intro ?_
    refine wG Y7_Yk True.intro ?_
    exact Fin.oneP
  refine goG Y7_Yk q ?_
  refine AR.callP hc @tyV_eq (And.intro (@tyV_id) (And.intro (@fdV_id) (And.intro (@tyL_id) @fdL_id))) ?_
  by_cases g : chk t = 0
  case' neg =>
    refine goG Y7_Yk g ?_
    refine wG Y7_Yk True.intro ?_
    refine AR.callP hX True.intro (And.intro (@tyV_id) (And.intro (@fdV_id) (And.intro (@tyL_id) @fdL_id))) ?_
    refine goG Y7_Yk True.intro ?_
    refine wG Y7_Yk True.intro ?_
    exact Fin.oneP
  refine goG Y7_Yk g ?_
  refine wG Y7_Yk True.intro ?_
  replace g := good_chk0 g
  have h6 : shal t 6 = true := smallT_shal q
  cases hf : fieldA t off w with
  | none =>
    rw [hf] at h1
    simp only [Option.getD_none, Option.isSome_none] at h1
    have h2 := c_Same tz tz_fit tz tz_fit
    rw [samT_refl] at h2
    simp only [tz, tyV_mk, List.map_nil] at h2
    simp only [tz, tyV_mk, List.map_nil] at h1
    refine AR.callP h1 @tyV_eq (And.intro (@tyV_id) (And.intro (@fdV_id) (And.intro (@tyL_id) @fdL_id))) ?_
    refine goG Y7_Yk (And.intro (@tyV_firm) (And.intro (@fdV_firm) (And.intro (@tyV_strip) (And.intro (@fdV_strip) (And.intro (@tyV_live) (And.intro (@tyV_size) (And.intro (@tyV_isAg) (And.intro (@tyV_cells) (And.intro (@fdV_live) (And.intro (@fdV_size) (And.intro (@fdV_isAg) (And.intro (@fdV_cells) (And.intro (@List.getElem?_map.{0, 0}) @Int.natCast_nonneg))))))))))))) ?_
    refine wG Y7_Yk True.intro ?_
    refine AR.callW h2 True.intro (And.intro (@tyV_id) (And.intro (@fdV_id) (And.intro (@tyL_id) @fdL_id))) ?_
    refine goG Y7_Yk True.intro ?_
    refine AR.callP hX True.intro (And.intro (@tyV_id) (And.intro (@fdV_id) (And.intro (@tyL_id) @fdL_id))) ?_
    refine goG Y7_Yk True.intro ?_
    refine wG Y7_Yk True.intro ?_
    exact Fin.oneP
  | some x =>
    have fx : fit x := by have := getD_fit (off := off) (w := w) ht; rw [hf] at this; exact this
    rw [hf] at h1
    simp only [Option.getD_some, Option.isSome_some] at h1
    have hgx : good x = true := fat_good g (fieldA_fat hf)
    have hz := c_SizeOf x fx
    rw [if_pos hgx] at hz
    have hzt := c_SizeOf t ht
    rw [if_pos g] at hzt
    obtain ⟨n, hn⟩ : ∃ n, n = siz t := ⟨_, rfl⟩
    rw [← hn] at hzt
    have hsz := siz_le t
    have hn0 := siz_nonneg t (good_frm g)
    refine AR.callP h1 @tyV_eq (And.intro (@tyV_id) (And.intro (@fdV_id) (And.intro (@tyL_id) @fdL_id))) ?_
    refine goG Y7_Yk (And.intro (@tyV_firm) (And.intro (@fdV_firm) (And.intro (@tyV_strip) (And.intro (@fdV_strip) (And.intro (@tyV_live) (And.intro (@tyV_size) (And.intro (@tyV_isAg) (And.intro (@tyV_cells) (And.intro (@fdV_live) (And.intro (@fdV_size) (And.intro (@fdV_isAg) (And.intro (@fdV_cells) (And.intro (@List.getElem?_map.{0, 0}) @Int.natCast_nonneg))))))))))))) ?_
    refine wG Y7_Yk True.intro ?_
    have hwk : IntKind.i64.wrap k = k := wrap_in (by omega)
    have hw1 : IntKind.i64.wrap (1 + k) = 1 + k := wrap_in (by omega)
    have hk1 : ¬ (1 + k = 0) := by omega
    obtain ⟨d, hd⟩ : ∃ d, d = Int.tdiv 65536 (1 + k) := ⟨_, rfl⟩
    have hde : d = 65536 / (1 + k) := by rw [hd, Int.tdiv_eq_ediv_of_nonneg (by decide)]
    have hd0 : 0 ≤ d := by rw [hde]; exact Int.ediv_nonneg (by decide) (by omega)
    have hd1 : d ≤ 65536 := by rw [hde]; exact Int.ediv_le_self _ (by decide)
    have hq : IntKind.i64.wrap (Int.tdiv 65536 (1 + k)) = d := by rw [← hd]; exact wrap_in (by omega)
    have h8 := c_Same x fx x fx
    rw [samT_refl] at h8
    have hw := fat_width t off w x (fieldA_fat hf)
    by_cases k0 : x.kind = 0
    · refine wG Y7_Yk (And.intro k0 (And.intro (@tyV_firm) (And.intro (@fdV_firm) (And.intro (@tyV_strip) (And.intro (@fdV_strip) (And.intro (@tyV_live) (And.intro (@tyV_size) (And.intro (@tyV_isAg) (And.intro (@tyV_cells) (And.intro (@fdV_live) (And.intro (@fdV_size) (And.intro (@fdV_isAg) (And.intro (@fdV_cells) (And.intro (@List.getElem?_map.{0, 0}) @Int.natCast_nonneg)))))))))))))) ?_
      refine AR.callP hzt @tyV_eq (And.intro (@tyV_id) (And.intro (@fdV_id) (And.intro (@tyL_id) @fdL_id))) ?_
      refine goG Y7_Yk (And.intro hwk hw1) ?_
      refine wG Y7_Yk True.intro ?_
      by_cases z0 : n = 0
      · refine wG Y7_Yk z0 ?_
        refine wG Y7_Yk True.intro ?_
        refine AR.callP hX True.intro (And.intro (@tyV_id) (And.intro (@fdV_id) (And.intro (@tyL_id) @fdL_id))) ?_
        refine goG Y7_Yk True.intro ?_
        refine wG Y7_Yk True.intro ?_
        exact Fin.oneP
      by_cases z1 : off ≥ n
      · refine wG Y7_Yk (And.intro z0 z1) ?_
        refine wG Y7_Yk True.intro ?_
        refine AR.callP hX True.intro (And.intro (@tyV_id) (And.intro (@fdV_id) (And.intro (@tyL_id) @fdL_id))) ?_
        refine goG Y7_Yk True.intro ?_
        refine wG Y7_Yk True.intro ?_
        exact Fin.oneP
      by_cases z2 : n > d
      · refine wG Y7_Yk (And.intro z0 (And.intro z1 (And.intro hk1 (And.intro hq z2)))) ?_
        refine wG Y7_Yk True.intro ?_
        refine AR.callP hX True.intro (And.intro (@tyV_id) (And.intro (@fdV_id) (And.intro (@tyL_id) @fdL_id))) ?_
        refine goG Y7_Yk True.intro ?_
        refine wG Y7_Yk True.intro ?_
        exact Fin.oneP
      have hnd : n * (1 + k) ≤ 65536 := (Int.le_ediv_iff_mul_le (by omega)).1 (by rw [← hde]; omega)
      have hA := fieldA_array g h6 hf hn z0 (by omega) (by omega : 1 ≤ 1 + k) hnd (by omega)
      have hnk : n * (1 + k - 1) = n * (1 + k) - n := by rw [Int.mul_sub, Int.mul_one]
      have hge : 0 ≤ n * (1 + k - 1) := Int.mul_nonneg (by omega) (by omega)
      have ha1 : IntKind.i64.wrap (1 + k - 1) = 1 + k - 1 := wrap_in (by omega)
      have ha2 : IntKind.i64.wrap (n * (1 + k - 1)) = n * (1 + k - 1) := wrap_in (by omega)
      have hoff : 0 ≤ off := fieldA_off hf
      have ha3 : IntKind.i64.wrap (n * (1 + k - 1) + off) = n * (1 + k - 1) + off := wrap_in (by omega)
      have fA : fit (.mk 0 4 0 (1 + k) [t] []) := fit_mkc ⟨⟨by decide, by decide⟩, ⟨by decide, by decide⟩, ⟨by decide, by decide⟩, ⟨by omega, by omega⟩⟩ (by simp) (by simp) (by simpa using ht) (by simp)
      have h5 := c_Array t ht (1 + k)
      have h7 := c_FieldAt _ fA (n * (1 + k - 1) + off) w ⟨by omega, by omega⟩
      rw [hA] at h7
      simp only [Option.getD_some, Option.isSome_some] at h7
      generalize (Ty.mk 0 4 0 (1 + k) [t] []) = ar at h5 h7
      refine wG Y7_Yk (And.intro z0 (And.intro z1 (And.intro hk1 (And.intro hq z2)))) ?_
      refine AR.callP h5 @tyV_eq (And.intro (@tyV_id) (And.intro (@fdV_id) (And.intro (@tyL_id) @fdL_id))) ?_
      refine goG Y7_Yk (And.intro ha1 (And.intro ha2 ha3)) ?_
      refine AR.callP h7 @tyV_eq (And.intro (@tyV_id) (And.intro (@fdV_id) (And.intro (@tyL_id) @fdL_id))) ?_
      refine goG Y7_Yk (And.intro (@tyV_firm) (And.intro (@fdV_firm) (And.intro (@tyV_strip) (And.intro (@fdV_strip) (And.intro (@tyV_live) (And.intro (@tyV_size) (And.intro (@tyV_isAg) (And.intro (@tyV_cells) (And.intro (@fdV_live) (And.intro (@fdV_size) (And.intro (@fdV_isAg) (And.intro (@fdV_cells) (And.intro (@List.getElem?_map.{0, 0}) @Int.natCast_nonneg))))))))))))) ?_
      refine wG Y7_Yk (And.intro (@tyV_firm) (And.intro (@fdV_firm) (And.intro (@tyV_strip) (And.intro (@fdV_strip) (And.intro (@tyV_live) (And.intro (@tyV_size) (And.intro (@tyV_isAg) (And.intro (@tyV_cells) (And.intro (@fdV_live) (And.intro (@fdV_size) (And.intro (@fdV_isAg) (And.intro (@fdV_cells) (And.intro (@List.getElem?_map.{0, 0}) @Int.natCast_nonneg))))))))))))) ?_
      refine AR.callP h8 (And.intro (@tyV_eq) k0) (And.intro (@tyV_id) (And.intro (@fdV_id) (And.intro (@tyL_id) @fdL_id))) ?_
      refine goG Y7_Yk True.intro ?_
      refine AR.callP hX True.intro (And.intro (@tyV_id) (And.intro (@fdV_id) (And.intro (@tyL_id) @fdL_id))) ?_
      refine goG Y7_Yk True.intro ?_
      refine wG Y7_Yk True.intro ?_
      exact Fin.oneP
    · by_cases k6 : x.kind = 6
      · refine wG Y7_Yk (And.intro k0 (And.intro k6 (And.intro (@tyV_firm) (And.intro (@fdV_firm) (And.intro (@tyV_strip) (And.intro (@fdV_strip) (And.intro (@tyV_live) (And.intro (@tyV_size) (And.intro (@tyV_isAg) (And.intro (@tyV_cells) (And.intro (@fdV_live) (And.intro (@fdV_size) (And.intro (@fdV_isAg) (And.intro (@fdV_cells) (And.intro (@List.getElem?_map.{0, 0}) @Int.natCast_nonneg))))))))))))))) ?_
        refine AR.callP hzt @tyV_eq (And.intro (@tyV_id) (And.intro (@fdV_id) (And.intro (@tyL_id) @fdL_id))) ?_
        refine goG Y7_Yk (And.intro hwk hw1) ?_
        refine wG Y7_Yk True.intro ?_
        by_cases z0 : n = 0
        · refine wG Y7_Yk z0 ?_
          refine wG Y7_Yk True.intro ?_
          refine AR.callP hX True.intro (And.intro (@tyV_id) (And.intro (@fdV_id) (And.intro (@tyL_id) @fdL_id))) ?_
          refine goG Y7_Yk True.intro ?_
          refine wG Y7_Yk True.intro ?_
          exact Fin.oneP
        by_cases z1 : off ≥ n
        · refine wG Y7_Yk (And.intro z0 z1) ?_
          refine wG Y7_Yk True.intro ?_
          refine AR.callP hX True.intro (And.intro (@tyV_id) (And.intro (@fdV_id) (And.intro (@tyL_id) @fdL_id))) ?_
          refine goG Y7_Yk True.intro ?_
          refine wG Y7_Yk True.intro ?_
          exact Fin.oneP
        by_cases z2 : n > d
        · refine wG Y7_Yk (And.intro z0 (And.intro z1 (And.intro hk1 (And.intro hq z2)))) ?_
          refine wG Y7_Yk True.intro ?_
          refine AR.callP hX True.intro (And.intro (@tyV_id) (And.intro (@fdV_id) (And.intro (@tyL_id) @fdL_id))) ?_
          refine goG Y7_Yk True.intro ?_
          refine wG Y7_Yk True.intro ?_
          exact Fin.oneP
        have hnd : n * (1 + k) ≤ 65536 := (Int.le_ediv_iff_mul_le (by omega)).1 (by rw [← hde]; omega)
        have hA := fieldA_array g h6 hf hn z0 (by omega) (by omega : 1 ≤ 1 + k) hnd (by omega)
        have hnk : n * (1 + k - 1) = n * (1 + k) - n := by rw [Int.mul_sub, Int.mul_one]
        have hge : 0 ≤ n * (1 + k - 1) := Int.mul_nonneg (by omega) (by omega)
        have ha1 : IntKind.i64.wrap (1 + k - 1) = 1 + k - 1 := wrap_in (by omega)
        have ha2 : IntKind.i64.wrap (n * (1 + k - 1)) = n * (1 + k - 1) := wrap_in (by omega)
        have hoff : 0 ≤ off := fieldA_off hf
        have ha3 : IntKind.i64.wrap (n * (1 + k - 1) + off) = n * (1 + k - 1) + off := wrap_in (by omega)
        have fA : fit (.mk 0 4 0 (1 + k) [t] []) := fit_mkc ⟨⟨by decide, by decide⟩, ⟨by decide, by decide⟩, ⟨by decide, by decide⟩, ⟨by omega, by omega⟩⟩ (by simp) (by simp) (by simpa using ht) (by simp)
        have h5 := c_Array t ht (1 + k)
        have h7 := c_FieldAt _ fA (n * (1 + k - 1) + off) w ⟨by omega, by omega⟩
        rw [hA] at h7
        simp only [Option.getD_some, Option.isSome_some] at h7
        generalize (Ty.mk 0 4 0 (1 + k) [t] []) = ar at h5 h7
        refine wG Y7_Yk (And.intro z0 (And.intro z1 (And.intro hk1 (And.intro hq z2)))) ?_
        refine AR.callP h5 @tyV_eq (And.intro (@tyV_id) (And.intro (@fdV_id) (And.intro (@tyL_id) @fdL_id))) ?_
        refine goG Y7_Yk (And.intro ha1 (And.intro ha2 ha3)) ?_
        refine AR.callP h7 @tyV_eq (And.intro (@tyV_id) (And.intro (@fdV_id) (And.intro (@tyL_id) @fdL_id))) ?_
        refine goG Y7_Yk (And.intro (@tyV_firm) (And.intro (@fdV_firm) (And.intro (@tyV_strip) (And.intro (@fdV_strip) (And.intro (@tyV_live) (And.intro (@tyV_size) (And.intro (@tyV_isAg) (And.intro (@tyV_cells) (And.intro (@fdV_live) (And.intro (@fdV_size) (And.intro (@fdV_isAg) (And.intro (@fdV_cells) (And.intro (@List.getElem?_map.{0, 0}) @Int.natCast_nonneg))))))))))))) ?_
        refine wG Y7_Yk (And.intro (@tyV_firm) (And.intro (@fdV_firm) (And.intro (@tyV_strip) (And.intro (@fdV_strip) (And.intro (@tyV_live) (And.intro (@tyV_size) (And.intro (@tyV_isAg) (And.intro (@tyV_cells) (And.intro (@fdV_live) (And.intro (@fdV_size) (And.intro (@fdV_isAg) (And.intro (@fdV_cells) (And.intro (@List.getElem?_map.{0, 0}) @Int.natCast_nonneg))))))))))))) ?_
        refine AR.callP h8 (And.intro (@tyV_eq) k6) (And.intro (@tyV_id) (And.intro (@fdV_id) (And.intro (@tyL_id) @fdL_id))) ?_
        refine goG Y7_Yk True.intro ?_
        refine AR.callP hX True.intro (And.intro (@tyV_id) (And.intro (@fdV_id) (And.intro (@tyL_id) @fdL_id))) ?_
        refine goG Y7_Yk True.intro ?_
        refine wG Y7_Yk True.intro ?_
        exact Fin.oneP
      · have hsw : siz x = w := by rcases hw with h | h | h; exact absurd h k0; exact absurd h k6; exact h
        rw [hsw] at hz
        refine wG Y7_Yk (And.intro k0 (And.intro k6 (And.intro (@tyV_firm) (And.intro (@fdV_firm) (And.intro (@tyV_strip) (And.intro (@fdV_strip) (And.intro (@tyV_live) (And.intro (@tyV_size) (And.intro (@tyV_isAg) (And.intro (@tyV_cells) (And.intro (@fdV_live) (And.intro (@fdV_size) (And.intro (@fdV_isAg) (And.intro (@fdV_cells) (And.intro (@List.getElem?_map.{0, 0}) @Int.natCast_nonneg))))))))))))))) ?_
        refine AR.callP hz @tyV_eq (And.intro (@tyV_id) (And.intro (@fdV_id) (And.intro (@tyL_id) @fdL_id))) ?_
        refine goG Y7_Yk True.intro ?_
        refine wG Y7_Yk True.intro ?_
        refine AR.callP hzt @tyV_eq (And.intro (@tyV_id) (And.intro (@fdV_id) (And.intro (@tyL_id) @fdL_id))) ?_
        refine goG Y7_Yk (And.intro hwk hw1) ?_
        refine wG Y7_Yk True.intro ?_
        by_cases z0 : n = 0
        · refine wG Y7_Yk z0 ?_
          refine wG Y7_Yk True.intro ?_
          refine AR.callP hX True.intro (And.intro (@tyV_id) (And.intro (@fdV_id) (And.intro (@tyL_id) @fdL_id))) ?_
          refine goG Y7_Yk True.intro ?_
          refine wG Y7_Yk True.intro ?_
          exact Fin.oneP
        by_cases z1 : off ≥ n
        · refine wG Y7_Yk (And.intro z0 z1) ?_
          refine wG Y7_Yk True.intro ?_
          refine AR.callP hX True.intro (And.intro (@tyV_id) (And.intro (@fdV_id) (And.intro (@tyL_id) @fdL_id))) ?_
          refine goG Y7_Yk True.intro ?_
          refine wG Y7_Yk True.intro ?_
          exact Fin.oneP
        by_cases z2 : n > d
        · refine wG Y7_Yk (And.intro z0 (And.intro z1 (And.intro hk1 (And.intro hq z2)))) ?_
          refine wG Y7_Yk True.intro ?_
          refine AR.callP hX True.intro (And.intro (@tyV_id) (And.intro (@fdV_id) (And.intro (@tyL_id) @fdL_id))) ?_
          refine goG Y7_Yk True.intro ?_
          refine wG Y7_Yk True.intro ?_
          exact Fin.oneP
        have hnd : n * (1 + k) ≤ 65536 := (Int.le_ediv_iff_mul_le (by omega)).1 (by rw [← hde]; omega)
        have hA := fieldA_array g h6 hf hn z0 (by omega) (by omega : 1 ≤ 1 + k) hnd (by omega)
        have hnk : n * (1 + k - 1) = n * (1 + k) - n := by rw [Int.mul_sub, Int.mul_one]
        have hge : 0 ≤ n * (1 + k - 1) := Int.mul_nonneg (by omega) (by omega)
        have ha1 : IntKind.i64.wrap (1 + k - 1) = 1 + k - 1 := wrap_in (by omega)
        have ha2 : IntKind.i64.wrap (n * (1 + k - 1)) = n * (1 + k - 1) := wrap_in (by omega)
        have hoff : 0 ≤ off := fieldA_off hf
        have ha3 : IntKind.i64.wrap (n * (1 + k - 1) + off) = n * (1 + k - 1) + off := wrap_in (by omega)
        have fA : fit (.mk 0 4 0 (1 + k) [t] []) := fit_mkc ⟨⟨by decide, by decide⟩, ⟨by decide, by decide⟩, ⟨by decide, by decide⟩, ⟨by omega, by omega⟩⟩ (by simp) (by simp) (by simpa using ht) (by simp)
        have h5 := c_Array t ht (1 + k)
        have h7 := c_FieldAt _ fA (n * (1 + k - 1) + off) w ⟨by omega, by omega⟩
        rw [hA] at h7
        simp only [Option.getD_some, Option.isSome_some] at h7
        generalize (Ty.mk 0 4 0 (1 + k) [t] []) = ar at h5 h7
        refine wG Y7_Yk (And.intro z0 (And.intro z1 (And.intro hk1 (And.intro hq z2)))) ?_
        refine AR.callP h5 @tyV_eq (And.intro (@tyV_id) (And.intro (@fdV_id) (And.intro (@tyL_id) @fdL_id))) ?_
        refine goG Y7_Yk (And.intro ha1 (And.intro ha2 ha3)) ?_
        refine AR.callP h7 @tyV_eq (And.intro (@tyV_id) (And.intro (@fdV_id) (And.intro (@tyL_id) @fdL_id))) ?_
        refine goG Y7_Yk (And.intro (@tyV_firm) (And.intro (@fdV_firm) (And.intro (@tyV_strip) (And.intro (@fdV_strip) (And.intro (@tyV_live) (And.intro (@tyV_size) (And.intro (@tyV_isAg) (And.intro (@tyV_cells) (And.intro (@fdV_live) (And.intro (@fdV_size) (And.intro (@fdV_isAg) (And.intro (@fdV_cells) (And.intro (@List.getElem?_map.{0, 0}) @Int.natCast_nonneg))))))))))))) ?_
        refine wG Y7_Yk (And.intro (@tyV_firm) (And.intro (@fdV_firm) (And.intro (@tyV_strip) (And.intro (@fdV_strip) (And.intro (@tyV_live) (And.intro (@tyV_size) (And.intro (@tyV_isAg) (And.intro (@tyV_cells) (And.intro (@fdV_live) (And.intro (@fdV_size) (And.intro (@fdV_isAg) (And.intro (@fdV_cells) (And.intro (@List.getElem?_map.{0, 0}) @Int.natCast_nonneg))))))))))))) ?_
        refine AR.callP h8 @tyV_eq (And.intro (@tyV_id) (And.intro (@fdV_id) (And.intro (@tyL_id) @fdL_id))) ?_
        refine goG Y7_Yk True.intro ?_
        refine AR.callP hX True.intro (And.intro (@tyV_id) (And.intro (@fdV_id) (And.intro (@tyL_id) @fdL_id))) ?_
        refine goG Y7_Yk True.intro ?_
        refine wG Y7_Yk True.intro ?_
        exact Fin.oneP
end Go.Proofs.YtchjncoadhigmaaDoor

