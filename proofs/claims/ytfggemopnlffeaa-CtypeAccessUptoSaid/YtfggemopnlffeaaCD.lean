/- Walks: the law on a load through a variable and a constant. -/
import Derived.Test.YtfggemopnlffeaaHv
import Derived.Test.YtfggemopnlffeaaCC
import Derived.Test.YtfggemopnlffeaaLf
namespace Go.Proofs.Ytfggemopnlffeaa
set_option linter.unusedSimpArgs false
set_option linter.unusedVariables false
set_option linter.unnecessarySimpa false
open Go.RowKit
/-- The load of w bytes through p and off; the variable p. -/
def eA (off w : Int) : Ex := .mk 18 0 .empty w [.mk 3 0 .empty 0 [.mk 2 0 ⟨#[112]⟩ 0 [], .mk 1 off .empty 0 []]]
def vA (t : Ty) : List Va := [⟨⟨#[112]⟩, t⟩]
theorem fit_vA {t : Ty} (h : fit t) : fitV (vA t) := ⟨by simp [vA], fun v hv => by simp only [vA, List.mem_singleton] at hv; rw [hv]; exact h⟩
theorem name_p : nameT ⟨#[112]⟩ = true := by kernel_rfl
theorem efm_eA {w : Int} (off : Int) (hw : w = 1 ∨ w = 2 ∨ w = 4) : efm (eA off w) = true := by
  rcases hw with rfl | rfl | rfl <;> simp [eA, efm_mk, ebase, name_p, eqS_refl]
theorem chk_eA {w : Int} (off : Int) (t : Ty) (hw : w = 1 ∨ w = 2 ∨ w = 4) : chkE (vA t) (eA off w) = 0 := by
  unfold chkE
  rw [efm_eA off hw]
  have e1 : esh (eA off w) 64 = true := by simp [eA, esh_mk]
  have e2 : knw (vA t) (eA off w) = true := by simp [eA, vA, knw_mk, has, eqS_refl]
  rw [e1, e2]
  rfl
theorem acs_eA (off w : Int) (t : Ty) : acs (vA t) (eA off w) = accT t (offT 3 off) w := by
  simp [eA, acs_mk, prm, thr_mk, tyOf, vA, eqS_refl, Ex.op, Ex.n, Ex.name]
theorem typ_eA (off : Int) (t : Ty) (hk : t.kind = 3) (hg : good t = true) : typ (vA t) (eA off 4) = (fieldA (t.elem.headD tz) (offT 3 off) 4).getD tz := by
  simp [eA, typ_mk, fnd, thr_mk, tyOf, vA, eqS_refl, Ex.op, Ex.n, Ex.name, hk, hg]
theorem exT_eA {w : Int} (off : Int) (t : Ty) (hw : w = 1 ∨ w = 2 ∨ w = 4) : exT (vA t) (eA off w) = if accT t (offT 3 off) w then (typ (vA t) (eA off w), 0) else (tz, 16) := by
  unfold exT
  rw [chk_eA off t hw, acs_eA]
  rfl
theorem Y6_CD : type_of% (And.intro @F_ag_22 (And.intro @F_ag_25 (And.intro @F_ag_3 (And.intro @F_ag_34 (And.intro @F_al_25 (And.intro @F_al_34 (And.intro @F_al_44 (And.intro @F_el_22 (And.intro @F_el_32 (And.intro @F_el_35 (And.intro @F_fl_25_0 (And.intro @F_fl_25_3 (And.intro @F_in_21 (And.intro @F_in_3 (And.intro @F_in_31 (And.intro @F_st_34 (And.intro @F_st_44 (And.intro @F_sz_22 (And.intro @F_sz_25 (And.intro @F_sz_3 (And.intro @F_sz_34 (And.intro @F_sz_44 (And.intro @F_un_21 (And.intro @F_un_3 (And.intro @F_un_31 (@F_un_4)))))))))))))))))))))))))) := And.intro @F_ag_22 (And.intro @F_ag_25 (And.intro @F_ag_3 (And.intro @F_ag_34 (And.intro @F_al_25 (And.intro @F_al_34 (And.intro @F_al_44 (And.intro @F_el_22 (And.intro @F_el_32 (And.intro @F_el_35 (And.intro @F_fl_25_0 (And.intro @F_fl_25_3 (And.intro @F_in_21 (And.intro @F_in_3 (And.intro @F_in_31 (And.intro @F_st_34 (And.intro @F_st_44 (And.intro @F_sz_22 (And.intro @F_sz_25 (And.intro @F_sz_3 (And.intro @F_sz_34 (And.intro @F_sz_44 (And.intro @F_un_21 (And.intro @F_un_3 (And.intro @F_un_31 (@F_un_4)))))))))))))))))))))))))
set_option maxHeartbeats 2000000 in
theorem c_law4 (t : Ty) (ht : fit t) (off : Int) (ho : 0 ≤ off ∧ off ≤ 4294967295) (w : Int) : PC Try.prog 6 [tyV t, .im (.int .u32 off), (.im (.int .i64 (w)))] (.im (.bool (true))) := by
  have h1 := c_left t ht 500 (by decide) (by decide)
  have h3 := c_example
  generalize hl1 : lft t 500 = l1 at h1
  clear hl1
  refine PC.enter 97 Try.func6 rfl (by decide) rfl rfl (s := [(0, tyV t), (1, .im (.int .u32 off)), (2, (.im (.int .i64 (w))))]) (by rfl) ?_
  rw [tyV_eq t]
  refine wG Y6_CD TY ?_
  refine AR.callP h1 @tyV_eq (And.intro (@exL_id) (And.intro (@vaL_id) (And.intro (@exV_id) @vaV_id))) ?_
  by_cases hA : l1 ≤ 0
  · refine goG Y6_CD hA ?_
    refine wG Y6_CD True.intro ?_
    refine AR.callP h3 True.intro (And.intro (@exL_id) (And.intro (@vaL_id) (And.intro (@exV_id) @vaV_id))) ?_
    refine goG Y6_CD True.intro ?_
    refine wG Y6_CD True.intro ?_
    exact Fin.oneP
  by_cases hW : w = 1 ∨ w = 2 ∨ w = 4
  case neg =>
    have n1 : ¬ w = 1 := fun h => hW (.inl h)
    have n2 : ¬ w = 2 := fun h => hW (.inr (.inl h))
    have n4 : ¬ w = 4 := fun h => hW (.inr (.inr h))
    refine goG Y6_CD (And.intro hA (And.intro n1 (And.intro n2 n4))) ?_
    refine wG Y6_CD True.intro ?_
    refine AR.callP h3 True.intro (And.intro (@exL_id) (And.intro (@vaL_id) (And.intro (@exV_id) @vaV_id))) ?_
    refine goG Y6_CD True.intro ?_
    refine wG Y6_CD True.intro ?_
    exact Fin.oneP
  have h4 := c_Expr (vA t) (fit_vA ht) (eA off w) (by
    refine fitE_mk' ⟨by decide, by decide, ?_⟩ (by simp) (by decide) ?_
    · unfold I64; omega
    · intro x hx
      rw [List.mem_singleton] at hx
      subst hx
      refine fitE_mk' (by decide) (by simp) (by decide) ?_
      intro x hx
      rcases List.mem_cons.1 hx with rfl | hx
      · unfold fitE; kernel_rfl
      · rw [List.mem_singleton] at hx
        subst hx
        exact fitE_mk' ⟨by decide, ho, by decide⟩ (by decide) (by decide) (fun x hx => by cases hx))
  rw [exT_eA off t hW] at h4
  have h5 := c_Access t ht (offT 3 off) w (offT_I64 3 off)
  have hX := fit_typ (fit_vA ht) (eA off w)
  have hT := typ_eA off t
  generalize hac : accT t (offT 3 off) w = ac at h4 h5
  generalize hTy : typ (vA t) (eA off w) = X at h4 hX
  simp only [eA, vA, exV_mk, vaV_eq, List.map_cons, List.map_nil] at h4
  have ew : offT 3 off = IntKind.i64.wrap (IntKind.i32.wrap off) := rfl
  rw [ew] at h5 hT
  generalize hoff : IntKind.i64.wrap (IntKind.i32.wrap off) = o' at h5 hT
  cases ac with
  | false =>
    simp only [Bool.false_eq_true, if_false, tz, tyV_mk, List.map_nil] at h4
    rcases hW with rfl | rfl | rfl
    all_goals
      refine goG Y6_CD hA ?_
      refine wG Y6_CD TY ?_
      refine AR.callW h4 TY (And.intro (@exL_id) (And.intro (@vaL_id) (And.intro (@exV_id) @vaV_id))) ?_
      refine goG Y6_CD True.intro ?_
      refine wG Y6_CD (And.intro TY hoff) ?_
      refine AR.callP h5 @tyV_eq (And.intro (@exL_id) (And.intro (@vaL_id) (And.intro (@exV_id) @vaV_id))) ?_
      refine goG Y6_CD True.intro ?_
      refine wG Y6_CD TY ?_
      refine AR.callP h3 True.intro (And.intro (@exL_id) (And.intro (@vaL_id) (And.intro (@exV_id) @vaV_id))) ?_
      refine goG Y6_CD True.intro ?_
      refine wG Y6_CD True.intro ?_
      exact Fin.oneP
  | true =>
    simp only [if_true] at h4
    have h6 := c_check t ht
    rcases hW with rfl | rfl | rfl
    case inr.inr =>
      by_cases hk : t.kind = 3
      case pos =>
        by_cases hc : chk t = 0
        case pos =>
          have hg : good t = true := by unfold good; rw [hc]; rfl
          obtain ⟨x, hx, _⟩ := ptr_elem hg hk
          have hT := hT hk hg
          have hI := offT_I64 3 off
          rw [ew, hoff] at hI
          have h7 := c_FieldAt x (fit_elem ht (by rw [hx]; simp)) o' 4 hI
          rw [hx] at hT
          simp only [List.headD_cons] at hT
          rw [hTy] at hT
          rw [← hT] at h7
          generalize (fieldA x o' 4).isSome = is at h7
          have h8 := c_Same X hX X hX
          rw [samT_refl] at h8
          rw [hc] at h6
          refine goG Y6_CD hA ?_
          refine wG Y6_CD TY ?_
          refine AR.callW h4 TY (And.intro (@exL_id) (And.intro (@vaL_id) (And.intro (@exV_id) @vaV_id))) ?_
          rw [tyV_eq X]
          refine goG Y6_CD TY ?_
          refine wG Y6_CD (And.intro TY hoff) ?_
          refine AR.callP h5 @tyV_eq (And.intro (@exL_id) (And.intro (@vaL_id) (And.intro (@exV_id) @vaV_id))) ?_
          refine goG Y6_CD True.intro ?_
          refine wG Y6_CD (And.intro hk TY) ?_
          refine AR.callP h6 (And.intro (@tyV_eq) hk) (And.intro (@exL_id) (And.intro (@vaL_id) (And.intro (@exV_id) @vaV_id))) ?_
          refine goG Y6_CD True.intro ?_
          refine wG Y6_CD (And.intro hk (And.intro hx (And.intro hoff (And.intro (@List.map_cons.{0, 0}) (And.intro (@List.map_nil.{0, 0}) TY))))) ?_
          refine AR.callP h7 @tyV_eq (And.intro (@exL_id) (And.intro (@vaL_id) (And.intro (@exV_id) @vaV_id))) ?_
          rw [tyV_eq X]
          refine goG Y6_CD TY ?_
          refine wG Y6_CD TY ?_
          cases is with
          | false =>
            refine wG Y6_CD TY ?_
            refine AR.callP h3 True.intro (And.intro (@exL_id) (And.intro (@vaL_id) (And.intro (@exV_id) @vaV_id))) ?_
            refine goG Y6_CD True.intro ?_
            refine wG Y6_CD True.intro ?_
            exact Fin.oneP
          | true =>
            refine wG Y6_CD TY ?_
            refine AR.callP h8 @tyV_eq (And.intro (@exL_id) (And.intro (@vaL_id) (And.intro (@exV_id) @vaV_id))) ?_
            refine goG Y6_CD True.intro ?_
            refine wG Y6_CD True.intro ?_
            refine AR.callP h3 True.intro (And.intro (@exL_id) (And.intro (@vaL_id) (And.intro (@exV_id) @vaV_id))) ?_
            refine goG Y6_CD True.intro ?_
            refine wG Y6_CD True.intro ?_
            exact Fin.oneP
        case neg =>
          refine goG Y6_CD hA ?_
          refine wG Y6_CD TY ?_
          refine AR.callW h4 TY (And.intro (@exL_id) (And.intro (@vaL_id) (And.intro (@exV_id) @vaV_id))) ?_
          rw [tyV_eq X]
          refine goG Y6_CD TY ?_
          refine wG Y6_CD (And.intro TY hoff) ?_
          refine AR.callP h5 @tyV_eq (And.intro (@exL_id) (And.intro (@vaL_id) (And.intro (@exV_id) @vaV_id))) ?_
          refine goG Y6_CD True.intro ?_
          refine wG Y6_CD (And.intro hk TY) ?_
          refine AR.callP h6 (And.intro (@tyV_eq) hk) (And.intro (@exL_id) (And.intro (@vaL_id) (And.intro (@exV_id) @vaV_id))) ?_
          refine goG Y6_CD hc ?_
          refine wG Y6_CD True.intro ?_
          refine AR.callP h3 True.intro (And.intro (@exL_id) (And.intro (@vaL_id) (And.intro (@exV_id) @vaV_id))) ?_
          refine goG Y6_CD True.intro ?_
          refine wG Y6_CD True.intro ?_
          exact Fin.oneP
      case neg =>
        refine goG Y6_CD hA ?_
        refine wG Y6_CD TY ?_
        refine AR.callW h4 TY (And.intro (@exL_id) (And.intro (@vaL_id) (And.intro (@exV_id) @vaV_id))) ?_
        rw [tyV_eq X]
        refine goG Y6_CD TY ?_
        refine wG Y6_CD (And.intro TY hoff) ?_
        refine AR.callP h5 @tyV_eq (And.intro (@exL_id) (And.intro (@vaL_id) (And.intro (@exV_id) @vaV_id))) ?_
        refine goG Y6_CD True.intro ?_
        refine wG Y6_CD (And.intro hk TY) ?_
        refine AR.callP h3 True.intro (And.intro (@exL_id) (And.intro (@vaL_id) (And.intro (@exV_id) @vaV_id))) ?_
        refine goG Y6_CD True.intro ?_
        refine wG Y6_CD True.intro ?_
        exact Fin.oneP
    all_goals
      refine goG Y6_CD hA ?_
      refine wG Y6_CD TY ?_
      refine AR.callW h4 TY (And.intro (@exL_id) (And.intro (@vaL_id) (And.intro (@exV_id) @vaV_id))) ?_
      rw [tyV_eq X]
      refine goG Y6_CD TY ?_
      refine wG Y6_CD (And.intro TY hoff) ?_
      refine AR.callP h5 @tyV_eq (And.intro (@exL_id) (And.intro (@vaL_id) (And.intro (@exV_id) @vaV_id))) ?_
      refine goG Y6_CD True.intro ?_
      refine wG Y6_CD TY ?_
      refine AR.callP h3 True.intro (And.intro (@exL_id) (And.intro (@vaL_id) (And.intro (@exV_id) @vaV_id))) ?_
      refine goG Y6_CD True.intro ?_
      refine wG Y6_CD True.intro ?_
      exact Fin.oneP
end Go.Proofs.Ytfggemopnlffeaa

