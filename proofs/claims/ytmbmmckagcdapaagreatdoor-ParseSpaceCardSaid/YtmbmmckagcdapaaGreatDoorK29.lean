import Derived.Test.YtmbmmckagcdapaaGreatDoorK13
import Derived.Test.YtmbmmckagcdapaaGreatDoorK10
import Derived.Test.YtmbmmckagcdapaaGreatDoorK28
import Derived.Test.YtmbmmckagcdapaaGreatDoorK12
set_option linter.unusedSimpArgs false
set_option linter.unusedVariables false
set_option linter.unnecessarySimpa false
namespace Go.Proofs.YtmbmmckagcdapaaGreatDoor
open Go.RowKit
theorem Y160_CK : type_of% (AI @F_ag_76 (AI @F_el_24 (@F_sz_76))) := AI @F_ag_76 (AI @F_el_24 (@F_sz_76))
theorem c_indexS1 {gs : List Sec} {F : FuncId} {cs : List V} (p : Sec → Bool) (hcs : V.idsL (ltB 1) cs = true) (hr : V.renL (gOf [0]) cs = cs) (hl : gs.length ≤ 4194304) (hF : ∀ t ∈ gs, DC Tryz.prog F [scV t, .pt 0 0] [.box cs] (.im (.bool (p t))) [.box cs]) :
    DC Tryz.prog 160 [.sl (gs.map scV) .ro, .fn (.func F) [] [.pt 0 0]] [.box cs] (.im (.int .i64 (idx gs p))) [.box cs] := by
  refine DC.enter 19 Tryz.func160 rfl (by decide) rfl rfl (s := [(0, .sl (gs.map scV) .ro), (1, .fn (.func F) [] [.pt 0 0])]) (by rfl) ?_
  refine wG Y160_CK True.intro ?_
  refine AWp.loop ?_
  refine ALp.cutP 1 [(0, .sl (gs.map scV) .ro), (1, .fn (.func F) [] [.pt 0 0]), (7, (.im (.int .i64 (gs.length)))), (8, (.im (.int .i64 ((((0 : Nat)) : Int)))))] [.box cs] (AI scL_id (AI scV_id hcs)) ?_
  refine ALp.upto gs.length (AllTo (fun x => !p x) gs) (fun m => ⟨dn 19 [(0, .sl (gs.map scV) .ro), (1, .fn (.func F) [] [.pt 0 0]), (7, (.im (.int .i64 (gs.length)))), (8, (.im (.int .i64 ((((m : Nat)) : Int)))))], ofl [.box cs]⟩) ?_ 0 (Nat.zero_le _) (AllTo.zero _ _)
  intro m hm hI hnext
  by_cases hlt : m < gs.length
  · have hlt' : (m : Int) < (gs.length : Int) := by omega
    have hg := get_some hlt; have hm1 := wrap_succ hlt (by omega)
    have hc := hF gs[m] (List.getElem_mem hlt); refine wG Y160_CK (AI SCT (AI hlt' (AI hg hm1))) ?_
    by_cases b : p gs[m] = true
    · rw [b] at hc
      refine AR.callQP [0] hc scV_eq (AI scL_id (AI scV_id hcs)) (AI scV_ren (AI scL_ren hr)) ?_; refine goG Y160_CK True.intro ?_; refine wG Y160_CK True.intro ?_; rw [idx_some hlt hI b]; exact Fin.oneSP (AI scL_id (AI scV_id hcs))
    · have b : p gs[m] = false := by simpa using b
      rw [b] at hc; refine AR.callQP [0] hc scV_eq (AI scL_id (AI scV_id hcs)) (AI scV_ren (AI scL_ren hr)) ?_; refine goG Y160_CK True.intro ?_; refine wG Y160_CK hm1 ?_; refine ALp.cutP 1 [(0, .sl (gs.map scV) .ro), (1, .fn (.func F) [] [.pt 0 0]), (7, (.im (.int .i64 (gs.length)))), (8, (.im (.int .i64 ((((m + 1 : Nat)) : Int)))))] [.box cs] (AI scL_id (AI scV_id hcs)) ?_; exact hnext (m + 1) (by omega) (by omega) (hI.succ hlt (by simp [b]))
  · obtain rfl : m = gs.length := by omega
    have hlt' : ¬ (gs.length : Int) < (gs.length : Int) := by omega
    clear hnext hlt; rw [idx_none hI]; refine wG Y160_CK hlt' ?_; exact Fin.oneSP (AI scL_id (AI scV_id hcs))
theorem c_containsS1 {gs : List Sec} {F : FuncId} {cs : List V} (p : Sec → Bool) (hcs : V.idsL (ltB 1) cs = true) (hr : V.renL (gOf [0]) cs = cs) (hl : gs.length ≤ 4194304) (hF : ∀ t ∈ gs, DC Tryz.prog F [scV t, .pt 0 0] [.box cs] (.im (.bool (p t))) [.box cs]) :
    DC Tryz.prog 90 [.sl (gs.map scV) .ro, .fn (.func F) [] [.pt 0 0]] [.box cs] (.im (.bool (gs.any p))) [.box cs] := by
  have h := c_indexS1 p hcs hr hl hF
  refine DC.enter 9 Tryz.func90 rfl (by decide) rfl rfl (s := [(0, .sl (gs.map scV) .ro), (1, .fn (.func F) [] [.pt 0 0])]) (by rfl) ?_
  refine wG True.intro True.intro ?_
  refine AR.callQP [0] h True.intro (AI scL_id (AI scV_id hcs)) (AI scV_ren (AI scL_ren hr)) ?_
  refine goG True.intro True.intro ?_
  rw [idx_any]
  refine wG True.intro True.intro ?_
  exact Fin.oneSP (AI scL_id (AI scV_id hcs))
def dErr : List Sec → List Sec → Int
  | _, [] => 0
  | seen, d :: r => if !nameT d.name then 3 else if seen.any (fun x => eqS x.name d.name) then 8 else if 65536 < d.data.length then 6 else dErr (seen ++ [d]) r
theorem dErr_step {l : List Sec} {m : Nat} (h : m < l.length) : dErr (l.take m) (l.drop m) = if !nameT l[m].name then 3 else if (l.take m).any (fun x => eqS x.name l[m].name) then 8 else if 65536 < l[m].data.length then 6 else dErr (l.take (m + 1)) (l.drop (m + 1)) := by
  rw [List.drop_eq_getElem_cons h]
  rw [dErr, List.take_succ_eq_append_getElem h]
def fitSec (l : List Sec) : Prop := ∀ s ∈ l, s.name.size ≤ 9223372036854775807
theorem Y91_CK : type_of% (AI @F_ag_9 (AI @F_fl_76_0 (@F_sz_9))) := AI @F_ag_9 (AI @F_fl_76_0 (@F_sz_9))
theorem c_data1 (x d : Sec) : DC Tryz.prog 91 [scV x, .pt 0 0] [.box [.im (.string (d).name), .im (.int .u32 (d).addr), .sl ((d).data.map fun b => .im (.int .u8 b.toNat)) .ro, .im (.bool (d).wr), .im (.bool (d).exe)]] (.im (.bool (eqS x.name d.name))) [.box [.im (.string (d).name), .im (.int .u32 (d).addr), .sl ((d).data.map fun b => .im (.int .u8 b.toNat)) .ro, .im (.bool (d).wr), .im (.bool (d).exe)]] := by
  refine DC.enter 9 Tryz.func91 rfl (by decide) rfl rfl (s := [(0, scV x), (1, .pt 0 0)]) (by rfl) ?_
  simp only [scV_eq]
  refine wG Y91_CK True.intro ?_
  exact Fin.oneSP (AI scL_id (AI scV_id by_id))
theorem Y42_CK : type_of% (AI @F_ag_69 (AI @F_ag_76 (AI @F_ag_9 (AI @F_al_76 (AI @F_el_24 (AI @F_el_69 (AI @F_fl_76_0 (AI @F_fl_76_2 (AI @F_sz_5 (AI @F_sz_69 (AI @F_sz_76 (AI @F_sz_9 (@F_un_24))))))))))))) := AI @F_ag_69 (AI @F_ag_76 (AI @F_ag_9 (AI @F_al_76 (AI @F_el_24 (AI @F_el_69 (AI @F_fl_76_0 (AI @F_fl_76_2 (AI @F_sz_5 (AI @F_sz_69 (AI @F_sz_76 (AI @F_sz_9 (@F_un_24))))))))))))
theorem c_data (l : List Sec) (hl : l.length ≤ 4194304) (hf : fitSec l) : PC Tryz.prog 42 [.sl (l.map scV) .ro] (.im (.int .i64 (dErr [] l))) := by
  refine PC.enter 29 Tryz.func42 rfl (by decide) rfl rfl (s := [(0, .sl (l.map scV) .ro)]) (by rfl) ?_
  refine wG Y42_CK True.intro ?_
  refine AWp.loop ?_
  refine ALp.cutP 0 [(0, .sl (l.map scV) .ro), (5, .sl (l.map scV) .ro), (6, (.im (.int .i64 (l.length)))), (7, (.im (.int .i64 ((((0 : Nat)) : Int)))))] [] (AI scL_id (AI scV_id by_id)) ?_
  refine ALp.upto l.length (fun m => dErr (l.take m) (l.drop m) = dErr [] l) (fun m => ⟨dn 29 [(0, .sl (l.map scV) .ro), (5, .sl (l.map scV) .ro), (6, (.im (.int .i64 (l.length)))), (7, (.im (.int .i64 ((((m : Nat)) : Int)))))], ofl []⟩) ?_ 0 (Nat.zero_le _) rfl
  intro m hm hV hnext
  rw [← hV]
  by_cases hlt : m < l.length
  · have hlt' : (m : Int) < (l.length : Int) := by omega
    have hm1 := wrap_succ hlt (by omega)
    have hg := get_some hlt; have h1 := c_name l[m].name (hf _ (List.getElem_mem hlt)); have h2 := c_containsS1 (gs := l.take m) (F := 91) (fun x => eqS x.name l[m].name) (cs := [.im (.string l[m].name), .im (.int .u32 l[m].addr), .sl (l[m].data.map fun b => .im (.int .u8 b.toNat)) .ro, .im (.bool l[m].wr), .im (.bool l[m].exe)]) (by simp [V.idsL, V.ids, by_id]) (by simp only [SR, by_ren]) (by rw [List.length_take]; omega) (fun x _ => c_data1 x l[m])
    rw [dErr_step hlt]; rw [dErr_step hlt] at hV; have hn2 := hnext (m + 1) (by omega) (by omega)
    cases b1 : nameT l[m].name with
    | false =>
      rw [b1] at h1; simp only [Bool.not_false, if_true]; refine wG Y42_CK (AI hlt' (AI hg SCT)) ?_; refine AR.callP h1 True.intro (AI scL_id (AI scV_id by_id)) ?_; refine goG Y42_CK True.intro ?_; refine wG Y42_CK True.intro ?_; exact Fin.oneP
    | true =>
      rw [b1] at h1 hV; simp only [Bool.not_true, Bool.false_eq_true, if_false] at hV ⊢; refine wG Y42_CK (AI hlt' (AI hg SCT)) ?_; refine AR.callP h1 True.intro (AI scL_id (AI scV_id by_id)) ?_; refine goG Y42_CK True.intro ?_; have hmi : (m : Int) ≤ (l.length : Int) := by omega
      have hne : ¬ m = l.length := by omega
      have htk : (l.map scV).take m = (l.take m).map scV := List.map_take.symm; refine wG Y42_CK (AI hmi (AI hne (AI htk (AI scL_allS (AI scL_all GDS))))) ?_; cases b2 : (l.take m).any fun x => eqS x.name l[m].name with
      | true =>
        rw [b2] at h2; simp only [if_true]; refine AR.callQP [0] h2 True.intro (AI scL_id (AI scV_id by_id)) (AI scV_ren (AI scL_ren by_ren)) ?_; refine goG Y42_CK True.intro ?_; refine wG Y42_CK True.intro ?_; exact Fin.oneP
      | false =>
        rw [b2] at h2 hV; simp only [Bool.false_eq_true, if_false] at hV ⊢; refine AR.callQP [0] h2 True.intro (AI scL_id (AI scV_id by_id)) (AI scV_ren (AI scL_ren by_ren)) ?_; refine goG Y42_CK True.intro ?_
        by_cases b3 : 65536 < l[m].data.length
        · have b3' : (65536 : Int) < (l[m].data.length : Int) := by omega
          rw [if_pos b3]; refine wG Y42_CK (AI b3' @List.length_map.{0, 0}) ?_; exact Fin.oneP
        · have b3' : ¬ (65536 : Int) < (l[m].data.length : Int) := by omega
          rw [if_neg b3] at hV ⊢; refine wG Y42_CK (AI b3' (AI (@List.length_map.{0, 0}) hm1)) ?_; refine ALp.cutP 0 [(0, .sl (l.map scV) .ro), (5, .sl (l.map scV) .ro), (6, (.im (.int .i64 (l.length)))), (7, (.im (.int .i64 ((((m + 1 : Nat)) : Int)))))] [] (AI scL_id (AI scV_id by_id)) ?_; rw [hV]; exact hn2 hV
  obtain rfl : m = l.length := by omega
  clear hnext
  have e0 : dErr (l.take l.length) (l.drop l.length) = 0 := by rw [List.drop_length]; cases l.take l.length <;> rfl
  rw [e0]
  refine wG Y42_CK @Int.lt_irrefl ?_
  exact Fin.oneP
end Go.Proofs.YtmbmmckagcdapaaGreatDoor
