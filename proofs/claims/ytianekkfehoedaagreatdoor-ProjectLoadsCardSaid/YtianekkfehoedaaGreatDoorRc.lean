/- Walks of the reference: number, sum, Save. -/
import Derived.Test.YtianekkfehoedaaGreatDoorHv
import Derived.Test.YtianekkfehoedaaGreatDoorRb
import Derived.Test.YtianekkfehoedaaGreatDoorZg
namespace Go.Proofs.YtianekkfehoedaaGreatDoor
set_option linter.unusedSimpArgs false
set_option linter.unusedVariables false
set_option linter.unnecessarySimpa false
open Go.RowKit
theorem I1_Rc : type_of% (And.intro enV_id (And.intro enL_id (And.intro byL_id (And.intro lsV_id (And.intro lsL_id @tyV_id))))) := (And.intro enV_id (And.intro enL_id (And.intro byL_id (And.intro lsV_id (And.intro lsL_id @tyV_id)))))
theorem Y28_Rc : type_of% (And.intro @F_ag_5 (And.intro @F_el_22 (And.intro @F_in_3 (And.intro @F_in_5 (And.intro @F_sz_5 (And.intro @F_un_3 (@F_un_5))))))) := And.intro @F_ag_5 (And.intro @F_el_22 (And.intro @F_in_3 (And.intro @F_in_5 (And.intro @F_sz_5 (And.intro @F_un_3 (@F_un_5))))))
def smR (b : Bs) (m : Nat) : Nat := ((b.take m).foldl (fun n c => n + c.toNat) 0) % 65536
theorem smR_succ {b : Bs} {m : Nat} {c : UInt8} (h : b[m]? = some c) : (IntKind.i64.wrap (((smR b m : Nat) : Int) + ((c.toNat : Nat) : Int))).tmod 65536 = ((smR b (m + 1) : Nat) : Int) := by
  obtain ⟨hm, rfl⟩ := List.getElem?_eq_some_iff.1 h
  unfold smR
  rw [List.take_succ_eq_append_getElem hm, List.foldl_append, List.foldl_cons, List.foldl_nil]
  have hc := b[m].toNat_lt
  generalize b[m].toNat = c at hc ⊢
  generalize (b.take m).foldl (fun n c => n + c.toNat) 0 = s
  rw [wrap_in (by omega), Int.tmod_eq_emod_of_nonneg (by omega)]
  omega
theorem c_sumR (b : Bs) (hb : b.length ≤ 140737488355328) : PC Tryz.prog 28 [.sl (b.map byB) .ro] (.im (.int .i64 (((sumB b : Nat) : Int)))) := by
  refine PC.enter 20 Tryz.func28 rfl (by decide) rfl rfl (s := [(0, .sl (b.map byB) .ro)]) (by rfl) ?_
  refine wG Y28_Rc @List.length_map.{0, 0} ?_
  refine AWp.loop ?_
  refine ALp.cutP 0 [(0, .sl (b.map byB) .ro), (3, (.im (.int .i64 (((smR b (0) : Nat) : Int))))), (4, (.im (.int .i64 ((((0 : Nat)) : Int)))))] [] I1_Rc ?_
  refine ALp.upto b.length (fun _ => True) (fun m => ⟨dn 20 [(0, .sl (b.map byB) .ro), (3, (.im (.int .i64 (((smR b (m) : Nat) : Int))))), (4, (.im (.int .i64 ((((m : Nat)) : Int)))))], ofl []⟩) ?_ 0 (Nat.zero_le _) trivial
  intro m hm _ hnext
  by_cases hlt : m < b.length
  · have hlt' : (m : Int) < (b.length : Int) := by omega
    have hg : b[m]? = some b[m] := List.getElem?_eq_getElem hlt
    have hm1 := wrap_succ (m := m) (N := 140737488355328) (by omega) (by decide)
    have hs := smR_succ hg
    have hc := b[m].toNat_lt
    have hw : IntKind.i64.wrap ((b[m].toNat : Nat) : Int) = ((b[m].toNat : Nat) : Int) := wrap_in (by omega)
    generalize b[m] = c at hg hs hw
    have hn := hnext (m + 1) (by omega) (by omega) trivial
    clear hnext
    refine wG Y28_Rc (And.intro hlt' (And.intro byB_eq (And.intro BAT (And.intro hg (And.intro hw (And.intro hs hm1)))))) ?_
    refine ALp.cutP 0 [(0, .sl (b.map byB) .ro), (3, (.im (.int .i64 (((smR b (m + 1) : Nat) : Int))))), (4, (.im (.int .i64 ((((m + 1 : Nat)) : Int)))))] [] I1_Rc ?_
    exact hn
  · obtain rfl : m = b.length := by omega
    have hlt' : ¬ (b.length : Int) < (b.length : Int) := by omega
    clear hnext hlt
    have hq : smR b b.length = sumB b := by unfold smR sumB; rw [List.take_length]
    rw [hq]
    refine wG Y28_Rc (And.intro hlt' @List.length_map.{0, 0}) ?_
    exact Fin.oneP
end Go.Proofs.YtianekkfehoedaaGreatDoor
