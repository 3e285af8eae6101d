/- Walks: small makers of types of the reference. -/
import Derived.Test.YtianekkfehoedaaGreatDoorHv
import Derived.Test.YtianekkfehoedaaGreatDoorZ0
import Derived.Test.YtianekkfehoedaaGreatDoorK5
namespace Go.Proofs.YtianekkfehoedaaGreatDoor
set_option linter.unusedSimpArgs false
set_option linter.unusedVariables false
set_option linter.unnecessarySimpa false
open Go.RowKit
theorem ALp.ghostO {K : Option Nat → Prop} {P : Program} {st0 : Nat → Ent} {Q : Exit → St → Prop} {c : Code} {N : Nat} {s : List (Nat × V)} {l : List Ent} (id j : Nat) (cs : List V) (e : TypeId) (z : Nat)
    (h : ALp K P st0 c Q ⟨dn N s, ofl (l.set id (.box (cs.set j (.sl [] (.own l.length)))) ++ [.tip e z 0])⟩) (hi : l[id]? = some (.box cs) := by rfl) (hj : cs[j]? = some (.sl [] .nl) := by rfl) : ALp K P st0 c Q ⟨dn N s, ofl l⟩ := by
  refine ALp.tok id j l.length cs [] .nl e z h (by unfold putE; simp) hi hj (.inr rfl) rfl (by simp [ofl, List.getD])
theorem Y88_Yz : type_of% (And.intro @F_ag_100 (And.intro @F_al_100 (And.intro @F_el_97 (And.intro @F_st_100 (@F_sz_100))))) := And.intro @F_ag_100 (And.intro @F_al_100 (And.intro @F_el_97 (And.intro @F_st_100 (@F_sz_100))))
theorem c_PtrR (x : Ty) : PC Tryz.prog 88 [tyV x] (tyV (.mk 0 3 0 0 [x] [])) := by
  refine PC.enter 6 Tryz.func88 rfl (by decide) rfl rfl (s := [(0, tyV x)]) (by rfl) ?_
  rw [tyV_eq x]
  refine wG Y88_Yz True.intro ?_
  refine Fin.gen0 (rs := [.cell 2 100]) rfl (by first | exact .inl rfl | exact .inr rfl) (finG Y88_Yz) ?_
  simp only [tyV_mk, tyV_eq x, List.map_nil, List.map_cons]
  all_goals exact wkG (And.intro (@tyV_id) (And.intro (@fdV_id) (And.intro (@tyL_id) @fdL_id)))
theorem Y90_Yz : type_of% (And.intro @F_ag_100 (And.intro @F_al_100 (And.intro @F_el_97 (And.intro @F_st_100 (@F_sz_100))))) := And.intro @F_ag_100 (And.intro @F_al_100 (And.intro @F_el_97 (And.intro @F_st_100 (@F_sz_100))))
theorem c_ArrayR (x : Ty) (n : Int) : PC Tryz.prog 90 [tyV x, (.im (.int .i64 (n)))] (tyV (.mk 0 4 0 n [x] [])) := by
  refine PC.enter 9 Tryz.func90 rfl (by decide) rfl rfl (s := [(0, tyV x), (1, (.im (.int .i64 (n))))]) (by rfl) ?_
  rw [tyV_eq x]
  refine wG Y90_Yz True.intro ?_
  refine Fin.gen0 (rs := [.cell 4 100]) rfl (by first | exact .inl rfl | exact .inr rfl) (finG Y90_Yz) ?_
  simp only [tyV_mk, tyV_eq x, List.map_nil, List.map_cons]
  all_goals exact wkG (And.intro (@tyV_id) (And.intro (@fdV_id) (And.intro (@tyL_id) @fdL_id)))
end Go.Proofs.YtianekkfehoedaaGreatDoor
