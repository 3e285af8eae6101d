import Derived.Test.YtmbmmckagcdapaaGreatDoorQ35
set_option linter.all false
namespace Go.Proofs.YtmbmmckagcdapaaGreatDoor
open Go.RowKit
theorem TB{u:Un}(h:unE u=0):uniT u≠[]:=by
 intro e
 have hf:u.funcs.length≠0:=fun h0=>by
  unfold unE at h;rcases aI h with ⟨_,h⟩|⟨_,h⟩
  ·cases h
  ·rw[if_pos h0]at h;cases h
 cases hl:u.funcs with
 | nil=>rw[hl]at hf;exact hf rfl
 | cons f r =>
  have e:(uniT u).length=0:=by rw[e];rfl
  unfold uniT at e;rw[hl,List.map_cons,List.flatten_cons]at e;unfold funT at e;simp only[List.length_append,nF]at e;omega
def dD:=A4 @qP @tU @oT @iC
def kW:=A15 @aD @aL @aE @aN aS aG @bQ @bS @bR @bT eU gG kU pH uI
theorem WU(u:Un)(hu:FitUW u)(hd: ∀d∈u.data,d.data.length≤140737488355328)(hA: ∀d∈u.data,0≤d.addr∧d.addr<4294967296):PC Tryz.prog 11 [unV u] (.im (.bool (true))):=by
 have qx:=SU
 have q1:=KB u hu hd
 cases b:smU u with
 | false =>
  rw[b]at q1;rw[kS]at q1 ⊢;refine pcEnt 40 Tryz.func11 rfl [(0,.ag [.sl (u.globals.map vaV) .ro,.sl (u.data.map scV) .ro,.sl (u.funcs.map fnV) .ro])] ?_
  refine wG dD TI ?_;refine AR.callP q1 TI kW ?_;refine goG dD TI ?_;refine wG dD TI ?_;refine AR.callP qx TI kW ?_;refine goG dD TI ?_;refine wG dD TI ?_;exact aB
 | true =>
 rw[b]at q1
 obtain⟨hu,hd⟩:=OY hu b
 have q2:=vD u hu
 by_cases he:unE u=0
 case neg =>
  rw[kS]at q1 q2 ⊢;refine pcEnt 40 Tryz.func11 rfl [(0,.ag [.sl (u.globals.map vaV) .ro,.sl (u.data.map scV) .ro,.sl (u.funcs.map fnV) .ro])] ?_
  refine wG dD TI ?_;refine AR.callP q1 TI kW ?_;refine goG dD TI ?_;refine AR.callP q2 TI kW ?_;refine goG dD he ?_;refine wG dD he ?_;refine AR.callP qx TI kW ?_;refine goG dD TI ?_;refine wG dD TI ?_;exact aB
 rw[he]at q2
 obtain⟨k1,k2,k3,k4,k5⟩:=MW hu hA he
 have hlen:=EI k1 k2 k3 b
 have q3:=DR u hu k1 hd (fun f hf=>(k4 f hf).1) k5 he (TB he) (by omega)
 have hlaw:= @Zq u k1
 have qs:=QH u hu hd
 rw[kS]at q1 q2 q3 qs ⊢
 generalize uniT u=s at q3 hlen hlaw
 have q4:=QV s (by omega)
 by_cases hl:65536<s.length
 ·have hl':(s.length:Int)>65536:=by omega
  rw[Ix hl]at q4;simp only[kS,uz0,List.map_nil]at q4;refine pcEnt 40 Tryz.func11 rfl [(0,.ag [.sl (u.globals.map vaV) .ro,.sl (u.data.map scV) .ro,.sl (u.funcs.map fnV) .ro])] ?_
  refine wG dD TI ?_;refine AR.callP q1 TI kW ?_;refine goG dD TI ?_;refine AR.callP q2 TI kW ?_;refine goG dD TI ?_;refine wG dD TI ?_;refine AR.callP q3 TI kW ?_;refine goG dD TI ?_;refine wG dD TI ?_;refine AR.callP q4 TI kW ?_;refine goG dD TI ?_;refine wG dD (AI BY hl') ?_;refine AR.callP qx TI kW ?_;refine goG dD TI ?_;refine wG dD TI ?_;exact aB
 have hl': ¬(s.length:Int)>65536:=by omega
 obtain⟨v,hv,e1⟩:=hlaw (by omega)
 have e2:unE v=unE u:=YD hv
 rw[e1,e2,he,if_neg (by decide)]at q4
 simp only at q4
 rw[YC hv,kS]at q4
 refine pcEnt 40 Tryz.func11 rfl [(0,.ag [.sl (u.globals.map vaV) .ro,.sl (u.data.map scV) .ro,.sl (u.funcs.map fnV) .ro])] ?_
 refine wG dD TI ?_
 refine AR.callP q1 TI kW ?_
 refine goG dD TI ?_
 refine AR.callP q2 TI kW ?_
 refine goG dD TI ?_
 refine wG dD TI ?_
 refine AR.callP q3 TI kW ?_
 refine goG dD TI ?_
 refine wG dD TI ?_
 refine AR.callP q4 TI kW ?_
 refine goG dD TI ?_
 refine wG dD (AI BY hl') ?_
 refine AR.callP qs TI kW ?_
 refine goG dD TI ?_
 refine AR.callP qx TI kW ?_
 refine goG dD TI ?_
 refine wG dD TI ?_
 exact aB
end Go.Proofs.YtmbmmckagcdapaaGreatDoor
