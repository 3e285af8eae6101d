import Derived.Test.YtmbmmckagcdapaaGreatDoorU12
import Derived.Test.YtmbmmckagcdapaaGreatDoorU10
import Derived.Test.YtmbmmckagcdapaaGreatDoorU26
import Derived.Test.YtmbmmckagcdapaaGreatDoorU13
set_option linter.all false
namespace Go.Proofs.YtmbmmckagcdapaaGreatDoor
open Go.RowKit
def sD:=A3 @Jg @Aq @xH
theorem Uq{gs:List Sec}{F:FuncId}{cs:List V}(p:Sec→Bool)(hcs:V.idsL (ltB 1) cs=true)(hr:V.renL (gOf [0]) cs=cs)(hl:gs.length≤4194304)(hF: ∀t∈gs,DC Tryz.prog F [scV t,.pt 0 0] [.box cs] (.im (.bool (p t))) [.box cs]) :
  DC Tryz.prog 160 [.sl (gs.map scV) .ro,.fn (.func F) [] [.pt 0 0]] [.box cs] (.im (.int .i64 (idx gs p))) [.box cs]:=by
 refine DC.enter 19 Tryz.func160 rfl (by decide) rfl rfl (s:=[(0,.sl (gs.map scV) .ro),(1,.fn (.func F) [] [.pt 0 0])]) (by rfl) ?_
 refine wG sD TI ?_
 refine bH ?_
 refine ALp.cutP 1 [(0,.sl (gs.map scV) .ro),(1,.fn (.func F) [] [.pt 0 0]),(7,(.im (.int .i64 (gs.length)))),(8,(.im (.int .i64 ((((0:Nat)):Int)))))] [.box cs] (A3 dP cR hcs) ?_
 refine ALp.upto gs.length (AllTo (fun x=> !p x) gs) (fun m=>⟨dn 19 [(0,.sl (gs.map scV) .ro),(1,.fn (.func F) [] [.pt 0 0]),(7,(.im (.int .i64 (gs.length)))),(8,(.im (.int .i64 ((((m:Nat)):Int)))))],ofl [.box cs]⟩) ?_ 0 (Nat.zero_le _) (AllTo.zero _ _)
 intro m hm hI hnext
 by_cases hlt:m<gs.length
 ·have hlt':(m:Int)<(gs.length:Int):=by omega
  have hg:=cC hlt;have hm1:=bD hlt (by omega)
  have hc:=hF gs[m] (List.getElem_mem hlt);refine wG sD (A4 SCT hlt' hg hm1) ?_
  by_cases b:p gs[m]=true
  ·rw[b]at hc
   refine cO [0] hc Hd (A3 dP cR hcs) (A3 eZ lU hr) ?_;refine goG sD TI ?_;refine wG sD TI ?_;rw[qY hlt hI b];exact cF (A3 dP cR hcs)
  ·have b:p gs[m]=false:=by simpa using b
   rw[b]at hc;refine cO [0] hc Hd (A3 dP cR hcs) (A3 eZ lU hr) ?_;refine goG sD TI ?_;refine wG sD hm1 ?_;refine ALp.cutP 1 [(0,.sl (gs.map scV) .ro),(1,.fn (.func F) [] [.pt 0 0]),(7,(.im (.int .i64 (gs.length)))),(8,(.im (.int .i64 ((((m+1:Nat)):Int)))))] [.box cs] (A3 dP cR hcs) ?_;exact hnext (m+1) (by omega) (by omega) (hI.succ hlt (by simp[b]))
 ·obtain rfl:m=gs.length:=by omega
  have hlt': ¬(gs.length:Int)<(gs.length:Int):=by omega
  clear hnext hlt;rw[qZ hI];refine wG sD hlt' ?_;exact cF (A3 dP cR hcs)
theorem If{gs:List Sec}{F:FuncId}{cs:List V}(p:Sec→Bool)(hcs:V.idsL (ltB 1) cs=true)(hr:V.renL (gOf [0]) cs=cs)(hl:gs.length≤4194304)(hF: ∀t∈gs,DC Tryz.prog F [scV t,.pt 0 0] [.box cs] (.im (.bool (p t))) [.box cs]) :
  DC Tryz.prog 90 [.sl (gs.map scV) .ro,.fn (.func F) [] [.pt 0 0]] [.box cs] (.im (.bool (gs.any p))) [.box cs]:=by
 have h:=Uq p hcs hr hl hF
 refine DC.enter 9 Tryz.func90 rfl (by decide) rfl rfl (s:=[(0,.sl (gs.map scV) .ro),(1,.fn (.func F) [] [.pt 0 0])]) (by rfl) ?_
 refine wG TI TI ?_
 refine cO [0] h TI (A3 dP cR hcs) (A3 eZ lU hr) ?_
 refine goG TI TI ?_
 rw[uB]
 refine wG TI TI ?_
 exact cF (A3 dP cR hcs)
def dErr:List Sec→List Sec→Int
 | _,[]=>0
 | seen,d::r=>if !nameT d.name then 3 else if seen.any (fun x=>eqS x.name d.name)then 8 else if 65536<d.data.length then 6 else dErr (seen++[d]) r
theorem Fz{l:List Sec}{m:Nat}(h:m<l.length):dErr (l.take m) (l.drop m)=if !nameT l[m].name then 3 else if(l.take m).any (fun x=>eqS x.name l[m].name)then 8 else if 65536<l[m].data.length then 6 else dErr (l.take (m+1)) (l.drop (m+1)):=by
 rw[List.drop_eq_getElem_cons h]
 rw[dErr,List.take_succ_eq_append_getElem h]
def Yq(l:List Sec):Prop:= ∀s∈l,s.name.size≤9223372036854775807
def KI:=A3 @eF @Gp @dR
theorem FB(x d:Sec):DC Tryz.prog 91 [scV x,.pt 0 0] [.box [.im (.string (d).name),.im (.int .u32 (d).addr),.sl ((d).data.map fun b=> .im (.int .u8 b.toNat)) .ro,.im (.bool (d).wr),.im (.bool (d).exe)]] (.im (.bool (eqS x.name d.name))) [.box [.im (.string (d).name),.im (.int .u32 (d).addr),.sl ((d).data.map fun b=> .im (.int .u8 b.toNat)) .ro,.im (.bool (d).wr),.im (.bool (d).exe)]]:=by
 refine DC.enter 9 Tryz.func91 rfl (by decide) rfl rfl (s:=[(0,scV x),(1,.pt 0 0)]) (by rfl) ?_
 simp only[Hd]
 refine wG KI TI ?_
 exact cF (A3 dP cR gM)
def mO:=A13 @Rz @Jg @eF @Je @Aq @sK @Gp @Gn @yX @Rw @xH @dR @FY
theorem JX(l:List Sec)(hl:l.length≤4194304)(hf:Yq l):PC Tryz.prog 42 [.sl (l.map scV) .ro] (.im (.int .i64 (dErr [] l))):=by
 refine PC.enter 29 Tryz.func42 rfl (by decide) rfl rfl (s:=[(0,.sl (l.map scV) .ro)]) (by rfl) ?_
 refine wG mO TI ?_
 refine bH ?_
 refine ALp.cutP 0 [(0,.sl (l.map scV) .ro),(5,.sl (l.map scV) .ro),(6,(.im (.int .i64 (l.length)))),(7,(.im (.int .i64 ((((0:Nat)):Int)))))] [] (A3 dP cR gM) ?_
 refine ALp.upto l.length (fun m=>dErr (l.take m) (l.drop m)=dErr [] l) (fun m=>⟨dn 29 [(0,.sl (l.map scV) .ro),(5,.sl (l.map scV) .ro),(6,(.im (.int .i64 (l.length)))),(7,(.im (.int .i64 ((((m:Nat)):Int)))))],ofl []⟩) ?_ 0 (Nat.zero_le _) rfl
 intro m hm hV hnext
 rw[←hV]
 by_cases hlt:m<l.length
 ·have hlt':(m:Int)<(l.length:Int):=by omega
  have hm1:=bD hlt (by omega)
  have hg:=cC hlt;have h1:=Cv l[m].name (hf _ (List.getElem_mem hlt));have h2:=If (gs:=l.take m) (F:=91) (fun x=>eqS x.name l[m].name) (cs:=[.im (.string l[m].name),.im (.int .u32 l[m].addr),.sl (l[m].data.map fun b=> .im (.int .u8 b.toNat)) .ro,.im (.bool l[m].wr),.im (.bool l[m].exe)]) (by simp[V.idsL,V.ids,gM]) (by simp only[SR,jU]) (by rw[List.length_take];omega) (fun x _=>FB x l[m])
  rw[Fz hlt];rw[Fz hlt]at hV;have hn2:=hnext (m+1) (by omega) (by omega)
  cases b1:nameT l[m].name with
  | false =>
   rw[b1]at h1;simp only[Bool.not_false,if_true];refine wG mO (A3 hlt' hg SCT) ?_;refine AR.callP h1 TI (A3 dP cR gM) ?_;refine goG mO TI ?_;refine wG mO TI ?_;exact aM
  | true =>
   rw[b1]at h1 hV;simp only[Bool.not_true,Bool.false_eq_true,if_false]at hV ⊢;refine wG mO (A3 hlt' hg SCT) ?_;refine AR.callP h1 TI (A3 dP cR gM) ?_;refine goG mO TI ?_;have hmi:(m:Int)≤(l.length:Int):=by omega
   have hne: ¬m=l.length:=by omega
   have htk:(l.map scV).take m=(l.take m).map scV:=List.map_take.symm;refine wG mO (A6 hmi hne htk Xk He GDS) ?_;cases b2:(l.take m).any fun x=>eqS x.name l[m].name with
   | true =>
    rw[b2]at h2;simp only[if_true];refine cO [0] h2 TI (A3 dP cR gM) (A3 eZ lU jU) ?_;refine goG mO TI ?_;refine wG mO TI ?_;exact aM
   | false =>
    rw[b2]at h2 hV;simp only[Bool.false_eq_true,if_false]at hV ⊢;refine cO [0] h2 TI (A3 dP cR gM) (A3 eZ lU jU) ?_;refine goG mO TI ?_
    by_cases b3:65536<l[m].data.length
    ·have b3':(65536:Int)<(l[m].data.length:Int):=by omega
     rw[if_pos b3];refine wG mO (AI b3' @List.length_map.{0,0}) ?_;exact aM
    ·have b3': ¬(65536:Int)<(l[m].data.length:Int):=by omega
     rw[if_neg b3]at hV ⊢;refine wG mO (A3 b3' @List.length_map.{0,0} hm1) ?_;refine ALp.cutP 0 [(0,.sl (l.map scV) .ro),(5,.sl (l.map scV) .ro),(6,(.im (.int .i64 (l.length)))),(7,(.im (.int .i64 ((((m+1:Nat)):Int)))))] [] (A3 dP cR gM) ?_;rw[hV];exact hn2 hV
 obtain rfl:m=l.length:=by omega
 clear hnext
 have e0:dErr (l.take l.length) (l.drop l.length)=0:=by rw[List.drop_length];cases l.take l.length<;>rfl
 rw[e0]
 refine wG mO @Int.lt_irrefl ?_
 exact aM
end Go.Proofs.YtmbmmckagcdapaaGreatDoor
