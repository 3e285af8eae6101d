/- Walks: the law TypesAccess. -/
import Derived.Test.YtchjncoadhigmaaDoorHv
import Derived.Test.YtchjncoadhigmaaDoorYh
import Derived.Test.YtchjncoadhigmaaDoorPx
namespace Go.Proofs.YtchjncoadhigmaaDoor
set_option linter.unusedSimpArgs false
set_option linter.unusedVariables false
set_option linter.unnecessarySimpa false
open Go.RowKit
theorem beq_self31 (p : Bool) : (p == p) = true := by cases p <;> rfl
theorem getD_fit {t : Ty} {off w : Int} (ht : fit t) : fit ((fieldA t off w).getD tz) := by
  cases h : fieldA t off w with
  | none => exact tz_fit
  | some x =>
    unfold fieldA at h
    split at h
    · exact fat_fit ht h
    · cases h
theorem Y6_Yi : type_of% (And.intro @F_ag_25 (And.intro @F_al_25 (And.intro @F_sz_25 (@F_un_4)))) := And.intro @F_ag_25 (And.intro @F_al_25 (And.intro @F_sz_25 (@F_un_4)))
set_option maxHeartbeats 2000000 in
theorem c_access31 (hX : PC Tryd.prog 11 [] (.im (.bool (true)))) (t : Ty) (ht : fit t) (off w : Int) (ho : I64 off) : PC Tryd.prog 6 [tyV t, (.im (.int .i64 (off))), (.im (.int .i64 (w)))] (.im (.bool (true))) := by
  have hs := c_small31 t ht 70 (by decide) (by decide)
  have h1 := c_FieldAt t ht off w ho
  have h2 := c_FieldAtR t ht off w ho
  have fx := getD_fit (off := off) (w := w) ht
  have h3 := c_SameR _ fx _ fx
  rw [samT_refl] at h3
  generalize (fieldA t off w).getD tz = x at h1 h2 h3 fx
  generalize (fieldA t off w).isSome = p at h1 h2
  have hp := beq_self31 p
  refine PC.enter 40 Tryd.func6 rfl (by decide) rfl rfl (s := [(0, tyV t), (1, (.im (.int .i64 (off)))), (2, (.im (.int .i64 (w))))]) (by rfl) ?_
  rw [tyV_eq t]
  refine wG Y6_Yi True.intro ?_
  refine AR.callP hs @tyV_eq (And.intro (@tyV_id) (And.intro (@fdV_id) (And.intro (@tyL_id) @fdL_id))) ?_
  cases q : smallT t 70
  case' false =>
    refine goG Y6_Yi q ?_
    refine wG Y6_Yi True.intro ?_
    refine AR.callP hX True.intro (And.intro (@tyV_id) (And.intro (@fdV_id) (And.intro (@tyL_id) @fdL_id))) ?_
    refine goG Y6_Yi True.intro ?_
    refine wG Y6_Yi True.intro ?_
    exact Fin.oneP
  refine goG Y6_Yi q ?_
  refine wG Y6_Yi True.intro ?_
  refine AR.callP h1 @tyV_eq (And.intro (@tyV_id) (And.intro (@fdV_id) (And.intro (@tyL_id) @fdL_id))) ?_
  refine goG Y6_Yi (And.intro (@tyV_firm) (And.intro (@fdV_firm) (And.intro (@tyV_strip) (And.intro (@fdV_strip) (And.intro (@tyV_live) (And.intro (@tyV_size) (And.intro (@tyV_isAg) (And.intro (@tyV_cells) (And.intro (@fdV_live) (And.intro (@fdV_size) (And.intro (@fdV_isAg) (And.intro (@fdV_cells) (And.intro (@List.getElem?_map.{0, 0}) @Int.natCast_nonneg))))))))))))) ?_
  refine wG Y6_Yi True.intro ?_
  refine AR.callP h2 @tyV_eq (And.intro (@tyV_id) (And.intro (@fdV_id) (And.intro (@tyL_id) @fdL_id))) ?_
  refine goG Y6_Yi (And.intro (@tyV_firm) (And.intro (@fdV_firm) (And.intro (@tyV_strip) (And.intro (@fdV_strip) (And.intro (@tyV_live) (And.intro (@tyV_size) (And.intro (@tyV_isAg) (And.intro (@tyV_cells) (And.intro (@fdV_live) (And.intro (@fdV_size) (And.intro (@fdV_isAg) (And.intro (@fdV_cells) (And.intro (@List.getElem?_map.{0, 0}) @Int.natCast_nonneg))))))))))))) ?_
  refine wG Y6_Yi (And.intro hp (And.intro (@tyV_firm) (And.intro (@fdV_firm) (And.intro (@tyV_strip) (And.intro (@fdV_strip) (And.intro (@tyV_live) (And.intro (@tyV_size) (And.intro (@tyV_isAg) (And.intro (@tyV_cells) (And.intro (@fdV_live) (And.intro (@fdV_size) (And.intro (@fdV_isAg) (And.intro (@fdV_cells) (And.intro (@List.getElem?_map.{0, 0}) @Int.natCast_nonneg)))))))))))))) ?_
  cases p
  · refine wG Y6_Yi (And.intro hp (And.intro (@tyV_firm) (And.intro (@fdV_firm) (And.intro (@tyV_strip) (And.intro (@fdV_strip) (And.intro (@tyV_live) (And.intro (@tyV_size) (And.intro (@tyV_isAg) (And.intro (@tyV_cells) (And.intro (@fdV_live) (And.intro (@fdV_size) (And.intro (@fdV_isAg) (And.intro (@fdV_cells) (And.intro (@List.getElem?_map.{0, 0}) @Int.natCast_nonneg)))))))))))))) ?_
    refine AR.callP h3 @tyV_eq (And.intro (@tyV_id) (And.intro (@fdV_id) (And.intro (@tyL_id) @fdL_id))) ?_
    refine goG Y6_Yi True.intro ?_
    refine AR.callP hX True.intro (And.intro (@tyV_id) (And.intro (@fdV_id) (And.intro (@tyL_id) @fdL_id))) ?_
    refine goG Y6_Yi True.intro ?_
    refine wG Y6_Yi True.intro ?_
    exact Fin.oneP
  · refine wG Y6_Yi (And.intro hp (And.intro (@tyV_firm) (And.intro (@fdV_firm) (And.intro (@tyV_strip) (And.intro (@fdV_strip) (And.intro (@tyV_live) (And.intro (@tyV_size) (And.intro (@tyV_isAg) (And.intro (@tyV_cells) (And.intro (@fdV_live) (And.intro (@fdV_size) (And.intro (@fdV_isAg) (And.intro (@fdV_cells) (And.intro (@List.getElem?_map.{0, 0}) @Int.natCast_nonneg)))))))))))))) ?_
    refine AR.callP h3 @tyV_eq (And.intro (@tyV_id) (And.intro (@fdV_id) (And.intro (@tyL_id) @fdL_id))) ?_
    refine goG Y6_Yi True.intro ?_
    refine AR.callP hX True.intro (And.intro (@tyV_id) (And.intro (@fdV_id) (And.intro (@tyL_id) @fdL_id))) ?_
    refine goG Y6_Yi True.intro ?_
    refine wG Y6_Yi True.intro ?_
    exact Fin.oneP
end Go.Proofs.YtchjncoadhigmaaDoor

