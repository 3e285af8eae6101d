import Derived.Test.YtmbmmckagcdapaaGreatDoorM14
import Derived.Test.YtmbmmckagcdapaaGreatDoorM11
import Derived.Test.YtmbmmckagcdapaaGreatDoorM33
import Derived.Test.YtmbmmckagcdapaaGreatDoorM15
import Derived.Test.YtmbmmckagcdapaaGreatDoorM30
import Derived.Test.YtmbmmckagcdapaaGreatDoorM20
import Derived.Test.YtmbmmckagcdapaaGreatDoorM10
import Derived.Test.YtmbmmckagcdapaaGreatDoorM18
import Derived.Test.YtmbmmckagcdapaaGreatDoorM31
import Derived.Lib.SmallJoins
import Derived.Test.YtmbmmckagcdapaaGreatDoorM08
set_option linter.all false
namespace Go.Proofs.YtmbmmckagcdapaaGreatDoor
open Go.RowKit
def sN:=A3 @Da @tB @pS
theorem BI{gs:List Sec}{F:FuncId}{cs:List V}(p:Sec→Bool)(hcs:V.idsL (ltB 1) cs=true)(hr:V.renL (gOf [0]) cs=cs)(hl:gs.length≤4194304)(hF: ∀t∈gs,DC Tryz.prog F [scV t,.pt 0 0] [.box cs] (.im (.bool (p t))) [.box cs]) :
  DC Tryz.prog 160 [.sl (gs.map scV) .ro,.fn (.func F) [] [.pt 0 0]] [.box cs] (.im (.int .i64 (idx gs p))) [.box cs]:=by
 refine DC.enter 19 Tryz.func160 rfl (by decide) rfl rfl (s:=[(0,.sl (gs.map scV) .ro),(1,.fn (.func F) [] [.pt 0 0])]) (by rfl) ?_
 refine wG sN TI ?_
 refine aP ?_
 refine ALp.cutP 1 [(0,.sl (gs.map scV) .ro),(1,.fn (.func F) [] [.pt 0 0]),(7,(.im (.int .i64 (gs.length)))),(8,(.im (.int .i64 ((((0:Nat)):Int)))))] [.box cs] (A3 eO gA hcs) ?_
 refine ALp.upto gs.length (AllTo (fun x=> !p x) gs) (fun m=>⟨dn 19 [(0,.sl (gs.map scV) .ro),(1,.fn (.func F) [] [.pt 0 0]),(7,(.im (.int .i64 (gs.length)))),(8,(.im (.int .i64 ((((m:Nat)):Int)))))],ofl [.box cs]⟩) ?_ 0 (Nat.zero_le _) (AllTo.zero _ _)
 intro m hm hI hnext
 by_cases hlt:m<gs.length
 ·have hlt':(m:Int)<(gs.length:Int):=by omega
  have hg:=bB hlt;have hm1:=aL hlt (by omega)
  have hc:=hF gs[m] (List.getElem_mem hlt);refine wG sN (A4 SCT hlt' hg hm1) ?_
  by_cases b:p gs[m]=true
  ·rw[b]at hc
   refine cB [0] hc Dz (A3 eO gA hcs) (A3 nQ pF hr) ?_;refine goG sN TI ?_;refine wG sN TI ?_;rw[rB hlt hI b];exact bN (A3 eO gA hcs)
  ·have b:p gs[m]=false:=by simpa using b
   rw[b]at hc;refine cB [0] hc Dz (A3 eO gA hcs) (A3 nQ pF hr) ?_;refine goG sN TI ?_;refine wG sN hm1 ?_;refine ALp.cutP 1 [(0,.sl (gs.map scV) .ro),(1,.fn (.func F) [] [.pt 0 0]),(7,(.im (.int .i64 (gs.length)))),(8,(.im (.int .i64 ((((m+1:Nat)):Int)))))] [.box cs] (A3 eO gA hcs) ?_;exact hnext (m+1) (by omega) (by omega) (hI.succ hlt (by simp[b]))
 ·obtain rfl:m=gs.length:=by omega
  have hlt': ¬(gs.length:Int)<(gs.length:Int):=by omega
  clear hnext hlt;rw[rC hI];refine wG sN hlt' ?_;exact bN (A3 eO gA hcs)
theorem Lm{gs:List Sec}{F:FuncId}{cs:List V}(p:Sec→Bool)(hcs:V.idsL (ltB 1) cs=true)(hr:V.renL (gOf [0]) cs=cs)(hl:gs.length≤4194304)(hF: ∀t∈gs,DC Tryz.prog F [scV t,.pt 0 0] [.box cs] (.im (.bool (p t))) [.box cs]) :
  DC Tryz.prog 90 [.sl (gs.map scV) .ro,.fn (.func F) [] [.pt 0 0]] [.box cs] (.im (.bool (gs.any p))) [.box cs]:=by
 have h:=BI p hcs hr hl hF
 refine DC.enter 9 Tryz.func90 rfl (by decide) rfl rfl (s:=[(0,.sl (gs.map scV) .ro),(1,.fn (.func F) [] [.pt 0 0])]) (by rfl) ?_
 refine wG TI TI ?_
 refine cB [0] h TI (A3 eO gA hcs) (A3 nQ pF hr) ?_
 refine goG TI TI ?_
 rw[vH]
 refine wG TI TI ?_
 exact bN (A3 eO gA hcs)
def dErr:List Sec→List Sec→Int
 | _,[]=>0
 | seen,d::r=>if !nameT d.name then 3 else if seen.any (fun x=>eqS x.name d.name)then 8 else if 65536<d.data.length then 6 else dErr (seen++[d]) r
theorem Iz{l:List Sec}{m:Nat}(h:m<l.length):dErr (l.take m) (l.drop m)=if !nameT l[m].name then 3 else if(l.take m).any (fun x=>eqS x.name l[m].name)then 8 else if 65536<l[m].data.length then 6 else dErr (l.take (m+1)) (l.drop (m+1)):=by
 rw[List.drop_eq_getElem_cons h]
 rw[dErr,List.take_succ_eq_append_getElem h]
def GZ(l:List Sec):Prop:= ∀s∈l,s.name.size≤9223372036854775807
def VV:=A3 @dT @wA @dC
theorem OU(x d:Sec):DC Tryz.prog 91 [scV x,.pt 0 0] [.box [.im (.string (d).name),.im (.int .u32 (d).addr),.sl ((d).data.map fun b=> .im (.int .u8 b.toNat)) .ro,.im (.bool (d).wr),.im (.bool (d).exe)]] (.im (.bool (eqS x.name d.name))) [.box [.im (.string (d).name),.im (.int .u32 (d).addr),.sl ((d).data.map fun b=> .im (.int .u8 b.toNat)) .ro,.im (.bool (d).wr),.im (.bool (d).exe)]]:=by
 refine DC.enter 9 Tryz.func91 rfl (by decide) rfl rfl (s:=[(0,scV x),(1,.pt 0 0)]) (by rfl) ?_
 simp only[Dz]
 refine wG VV TI ?_
 exact bN (A3 eO gA uI)
def mI:=A13 @tF @Da @dT @Cx @tB @lA @wA @rH @qP @sS @pS @dC @PO
theorem VN(l:List Sec)(hl:l.length≤4194304)(hf:GZ l):PC Tryz.prog 42 [.sl (l.map scV) .ro] (.im (.int .i64 (dErr [] l))):=by
 refine PC.enter 29 Tryz.func42 rfl (by decide) rfl rfl (s:=[(0,.sl (l.map scV) .ro)]) (by rfl) ?_
 refine wG mI TI ?_
 refine aP ?_
 refine ALp.cutP 0 [(0,.sl (l.map scV) .ro),(5,.sl (l.map scV) .ro),(6,(.im (.int .i64 (l.length)))),(7,(.im (.int .i64 ((((0:Nat)):Int)))))] [] (A3 eO gA uI) ?_
 refine ALp.upto l.length (fun m=>dErr (l.take m) (l.drop m)=dErr [] l) (fun m=>⟨dn 29 [(0,.sl (l.map scV) .ro),(5,.sl (l.map scV) .ro),(6,(.im (.int .i64 (l.length)))),(7,(.im (.int .i64 ((((m:Nat)):Int)))))],ofl []⟩) ?_ 0 (Nat.zero_le _) rfl
 intro m hm hV hnext
 rw[←hV]
 by_cases hlt:m<l.length
 ·have hlt':(m:Int)<(l.length:Int):=by omega
  have hm1:=aL hlt (by omega)
  have hg:=bB hlt;have h1:=Ft l[m].name (hf _ (List.getElem_mem hlt));have h2:=Lm (gs:=l.take m) (F:=91) (fun x=>eqS x.name l[m].name) (cs:=[.im (.string l[m].name),.im (.int .u32 l[m].addr),.sl (l[m].data.map fun b=> .im (.int .u8 b.toNat)) .ro,.im (.bool l[m].wr),.im (.bool l[m].exe)]) (by simp[V.idsL,V.ids,uI]) (by simp only[SR,Lp]) (by rw[List.length_take];omega) (fun x _=>OU x l[m])
  rw[Iz hlt];rw[Iz hlt]at hV;have hn2:=hnext (m+1) (by omega) (by omega)
  cases b1:nameT l[m].name with
  | false =>
   rw[b1]at h1;simp only[Bool.not_false,if_true];refine wG mI (A3 hlt' hg SCT) ?_;refine AR.callP h1 TI (A3 eO gA uI) ?_;refine goG mI TI ?_;refine wG mI TI ?_;exact aC
  | true =>
   rw[b1]at h1 hV;simp only[Bool.not_true,Bool.false_eq_true,if_false]at hV ⊢;refine wG mI (A3 hlt' hg SCT) ?_;refine AR.callP h1 TI (A3 eO gA uI) ?_;refine goG mI TI ?_;have hmi:(m:Int)≤(l.length:Int):=by omega
   have hne: ¬m=l.length:=by omega
   have htk:(l.map scV).take m=(l.take m).map scV:=List.map_take.symm;refine wG mI (A6 hmi hne htk ET Kj GDS) ?_;cases b2:(l.take m).any fun x=>eqS x.name l[m].name with
   | true =>
    rw[b2]at h2;simp only[if_true];refine cB [0] h2 TI (A3 eO gA uI) (A3 nQ pF Lp) ?_;refine goG mI TI ?_;refine wG mI TI ?_;exact aC
   | false =>
    rw[b2]at h2 hV;simp only[Bool.false_eq_true,if_false]at hV ⊢;refine cB [0] h2 TI (A3 eO gA uI) (A3 nQ pF Lp) ?_;refine goG mI TI ?_
    by_cases b3:65536<l[m].data.length
    ·have b3':(65536:Int)<(l[m].data.length:Int):=by omega
     rw[if_pos b3];refine wG mI (AI b3' @List.length_map.{0,0}) ?_;exact aC
    ·have b3': ¬(65536:Int)<(l[m].data.length:Int):=by omega
     rw[if_neg b3]at hV ⊢;refine wG mI (A3 b3' @List.length_map.{0,0} hm1) ?_;refine ALp.cutP 0 [(0,.sl (l.map scV) .ro),(5,.sl (l.map scV) .ro),(6,(.im (.int .i64 (l.length)))),(7,(.im (.int .i64 ((((m+1:Nat)):Int)))))] [] (A3 eO gA uI) ?_;rw[hV];exact hn2 hV
 obtain rfl:m=l.length:=by omega
 clear hnext
 have e0:dErr (l.take l.length) (l.drop l.length)=0:=by rw[List.drop_length];cases l.take l.length<;>rfl
 rw[e0]
 refine wG mI @Int.lt_irrefl ?_
 exact aC
theorem Sim.ghostBO{B:Bd}{C:Cf}{a:Act}{N:Nat}{s:List (Nat×V)}{l:List Ent}{id j:Nat}{cs:List V}{e:TypeId}{z:Nat}(hS:Sim B C ⟨dn N s,ofl l⟩ a)
  (hi:l[id]? =some (.box cs)) (hj:cs[j]? =some (.sl [] .nl)): ∃D,Sim B D ⟨dn N s,ofl (l.set id (.box (cs.set j (.sl [] (.own l.length))))++[.tip e z 0])⟩ a∧D.w=C.w∧Ev C D:=by
 obtain⟨hil,hi'⟩:=List.getElem?_eq_some_iff.1 hi
 obtain⟨hjl,hj'⟩:=List.getElem?_eq_some_iff.1 hj
 have hf:C.st l.length= .free:=by rw[hS.st];exact vB l
 have hE1:Ev C (C.ghost l.length e z 0):=Ev.ghost hf
 have hO1:Ok (C.ghost l.length e z 0):=hS.ok.ghost hf
 have hst1:(C.ghost l.length e z 0).st=ofl (l++[.tip e z 0]):=by
  show upd C.st l.length (.tip e z 0)=_
  rw[hS.st];exact tX l _
 have hbox:C.st id= .box cs:=by rw[hS.st];simp[ofl,List.getD,hi]
 have hset: ∀i,ofl (l.set id (.box (cs.set j (.sl [] (.own l.length))))++[.tip e z 0]) i=if i=id then .box (cs.set j (.sl [] (.own l.length)))else ofl (l++[.tip e z 0]) i:=fun i=>by
  unfold ofl
  by_cases h:i=id
  ·subst h;simp[List.getD,List.getElem?_append,hil]
  ·have h':id≠i:=fun q=>h q.symm
   simp[List.getD,List.getElem?_append,List.getElem?_set,h,h']
 have hk:Kin (C.ghost l.length e z 0).st (ofl (l.set id (.box (cs.set j (.sl [] (.own l.length))))++[.tip e z 0])):=fun i=>by
  rw[hset,hst1]
  by_cases h:i=id
  ·subst h
   exact .inr ⟨cs,_,by simp[ofl,List.getD,List.getElem?_append,hil,hi'],if_pos rfl⟩
  ·exact .inl (if_neg h)
 refine⟨(C.ghost l.length e z 0).wst _,⟨rfl,hO1.wst hk fun i ds hd=> ?_,(hS.defers.mono hE1).mono (Ev.wst hk),hS.size,fun t ht=>((hS.slot t ht).mono hE1).wst hk⟩,rfl,hE1.trans (Ev.wst hk)⟩
 rw[hset]at hd
 by_cases h:i=id
 ·subst h
  rw[if_pos rfl]at hd;cases hd
  obtain⟨g,bs,t,h1,h2,h3,h4,h5⟩:=hS.ok.box i cs hbox;have hne:i≠l.length:=by omega
  refine⟨g,bs,t,?_,h2,by simpa using h3,fun q hq=>h4 q (by simpa using hq),fun q hq=> ?_⟩
  ·show(if i=l.length then none else C.σ i)=some g
   rw[if_neg hne];exact h1
  ·have hq':q<cs.length:=by simpa using hq
   rw[List.getElem_set];have h6:=h5 q hq'
   by_cases hjq:j=q
   ·subst hjq
    rw[if_pos rfl];rw[hj']at h6;exact(R.ghost (id:=l.length) (e:=e) (z:=z) (.inr rfl) hf h6 (fun x hx=>by cases hx)).wst hk
   ·rw[if_neg hjq]
    exact(h6.mono hE1).wst hk
 ·rw[if_neg h,←hst1]at hd
  obtain⟨g,bs,t,h1,h2,h3,h4,h5⟩:=hO1.box i ds hd;exact⟨g,bs,t,h1,h2,h3,h4,fun q hq=>(h5 q hq).wst hk⟩
theorem ALp.ghostB{K:Ro→Prop}{P:Program}{st0:Nat→Ent}{Q:Exit→St→Prop}{c:Code}{N:Nat}{s:List (Nat×V)}{l:List Ent}(id j:Nat)(cs:List V)(e:TypeId)(z:Nat)
  (h:ALp K P st0 c Q ⟨dn N s,ofl (l.set id (.box (cs.set j (.sl [] (.own l.length))))++[.tip e z 0])⟩) (hi:l[id]? =some (.box cs):=by rfl) (hj:cs[j]? =some (.sl [] .nl):=by rfl):ALp K P st0 c Q ⟨dn N s,ofl l⟩:=by
 intro C0 C a ro n hK h0 hE hS
 obtain⟨D,h1,h2,h3⟩:=hS.ghostBO (e:=e) (z:=z) hi hj
 have:=h C0 D a ro n hK h0 (hE.trans h3) h1
 rw[h2]at this
 exact this
def tsV(s:ByteArray):V:= .im (.string s)
theorem DA(s:ByteArray):tsV s= .im (.string s):=rfl
theorem My(v:ByteArray):(tsV v).live=true:=rfl
theorem Mx(v:ByteArray):(tsV v).size=1:=rfl
theorem Mz(v:ByteArray):(tsV v).isAg=false:=rfl
theorem Na(v:ByteArray):(tsV v).firm=true:=rfl
theorem Hr(g:Bool)(v:ByteArray):strip g (tsV v)=tsV v:=rfl
theorem Hs(s:ByteArray):(tsV s).cells=[.im (.string s)]:=rfl
theorem RG(p:Nat→Bool)(v:ByteArray):(tsV v).ids p=true:=rfl
theorem oK(p:Nat→Bool)(l:List ByteArray):V.idsL p (l.map tsV)=true:=gB (RG p) l
theorem iX(g:Nat→Nat)(l:List ByteArray):V.renL g (l.map tsV)=l.map tsV:=V.renL_id g _ (oK _ l)
theorem TS:type_of%(A9 @Na @Hr @My @Mx @Mz @Hs @DA @List.getElem?_map.{0,0} @Int.natCast_nonneg) :=
 A9 @Na @Hr @My @Mx @Mz @Hs @DA @List.getElem?_map.{0,0} @Int.natCast_nonneg
def Lu:=A3 @dT @jE @dC
theorem JB(l:List ByteArray)(hl:l.length≤4194304)(s:ByteArray):PC Tryz.prog 93 [.sl (l.map tsV) .ro,.im (.string s)] (.im (.int .i64 (idx l fun x=>eqS s x))):=by
 refine PC.enter 19 Tryz.func93 rfl (by decide) rfl rfl (s:=[(0,.sl (l.map tsV) .ro),(1,.im (.string s))]) (by rfl) ?_
 refine wG Lu @List.length_map.{0,0} ?_
 refine aP ?_
 refine ALp.cutP 0 [(0,.sl (l.map tsV) .ro),(1,.im (.string s)),(7,(.im (.int .i64 (l.length)))),(8,(.im (.int .i64 ((((0:Nat)):Int)))))] [] (A5 oK @aD @aO @aE @aQ) ?_
 refine ALp.upto l.length (AllTo (fun x=> !eqS s x) l) (fun m=>⟨dn 19 [(0,.sl (l.map tsV) .ro),(1,.im (.string s)),(7,(.im (.int .i64 (l.length)))),(8,(.im (.int .i64 ((((m:Nat)):Int)))))],ofl []⟩) ?_ 0 (Nat.zero_le _) (AllTo.zero _ _)
 intro m hm hI hnext
 by_cases hlt:m<l.length
 ·have hlt':(m:Int)<(l.length:Int):=by omega
  have hm1:=aL hlt (by omega)
  have hg:=bB hlt;cases b:eqS s l[m]with
  | true =>
   have b':(s.toList==l[m].toList)=true:=b;rw[rB hlt hI b];refine wG Lu (A4 hlt' hg b' TS) ?_;exact aC
  | false =>
   have b':(s.toList==l[m].toList)=false:=b;refine wG Lu (A5 hlt' hg b' hm1 TS) ?_;refine ALp.cutP 0 [(0,.sl (l.map tsV) .ro),(1,.im (.string s)),(7,(.im (.int .i64 (l.length)))),(8,(.im (.int .i64 ((((m+1:Nat)):Int)))))] [] (A5 oK @aD @aO @aE @aQ) ?_;exact hnext (m+1) (by omega) (by omega) (hI.succ hlt (by simp[b]))
 obtain rfl:m=l.length:=by omega
 clear hnext
 rw[rC hI]
 refine wG Lu @Int.lt_irrefl ?_
 exact aC
theorem pN(l:List ByteArray)(hl:l.length≤4194304)(s:ByteArray):PC Tryz.prog 44 [.sl (l.map tsV) .ro,.im (.string s)] (.im (.bool (l.any fun x=>eqS s x))):=by
 have h:=JB l hl s
 refine PC.enter 9 Tryz.func44 rfl (by decide) rfl rfl (s:=[(0,.sl (l.map tsV) .ro),(1,.im (.string s))]) (by rfl) ?_
 refine wG TI TI ?_
 refine AR.callP h TI (A5 oK @aD @aO @aE @aQ) ?_
 refine goG TI TI ?_
 rw[vH]
 refine wG TI TI ?_
 exact aC
def BN02:=A8 @aD @aO @aE @aQ oK aH aJ aW
def BN04:=A14 @aD @aO @aE @aQ oK aH aJ aW fY gX eO kL tQ oN
def BN06:=A12 @aD @aO @aE @aQ oK aH aJ aW fY gX eO kL
def Ri:=A8 @aS @aT @bF @bE iX bK bO cF
def PY:=A7 @aS @aT @bF @bE iX bK bO
def symT(vs:List Va)(fs ls:List ByteArray)(s:Nd):Bool:=s.e.all (knw vs)&&(if s.kind==1||s.kind==3 then has vs s.name else if s.kind==5 then fs.any (fun x=>eqS s.name x)else if s.kind==12 then ls.any (fun x=>eqS s.name x)else true)
def gU:=A16 @cO @Mr @iA @fE @Mn @dT @kH @gJ @Ux @Uw @Gn @iP @mN @iO @cN (A5 @Mj @hX @dP @Mh @dC)
theorem AY(vs:List Va)(hv:vs.length≤4194304)(fs ls sn:List ByteArray)(hfs:fs.length≤4194304)(hls:ls.length≤4194304)(s:Nd)(hf:fitN s)(hfm: ∀x∈s.e,efm x=true):DC Tryz.prog 164 [.pt 0 0,ndV s] [.box [(V.fn (.func 154) [] [.pt 1 0]),.sl (fs.map tsV) .ro,.sl (ls.map tsV) (.own 2),.sl ((sn).map tsV) (.own 3)],.box [(V.sl (vs.map vaV) .ro)],.tip 9 1 ls.length,.tip 9 1 (sn).length] (.im (.bool (symT vs fs ls s))) [.box [(V.fn (.func 154) [] [.pt 1 0]),.sl (fs.map tsV) .ro,.sl (ls.map tsV) (.own 2),.sl ((sn).map tsV) (.own 3)],.box [(V.sl (vs.map vaV) .ro)],.tip 9 1 ls.length,.tip 9 1 (sn).length]:=by
 obtain⟨hI,hsz,⟨he1,he2⟩,h4,h5,h6,h7⟩:=dR hf
 have h1:=Fx vs hv s.name
 have h2:=pN fs hfs s.name
 have h3:=pN ls hls s.name
 refine DC.enter 52 Tryz.func164 rfl (by decide) rfl rfl (s:=[(0,.pt 0 0),(1,ndV s)]) (by rfl) ?_
 rw[eW s]
 refine wG gU TI ?_
 refine aP ?_
 refine ALp.cutP 5 [(0,.pt 0 0),(3,.pt 4 0),(4,(.im (.bool (false)))),(8,.sl (s.e.map exV) .ro),(9,(.im (.int .i64 (s.e.length)))),(10,(.im (.int .i64 ((((0:Nat)):Int)))))] [.box [(V.fn (.func 154) [] [.pt 1 0]),.sl (fs.map tsV) .ro,.sl (ls.map tsV) (.own 2),.sl ((sn).map tsV) (.own 3)],.box [(V.sl (vs.map vaV) .ro)],.tip 9 1 ls.length,.tip 9 1 (sn).length,.box [.im (.int .i64 (s).kind),.im (.int .i64 (s).width),.im (.string (s).name),.sl ((s).e.map exV) .ro,.sl ((s).l.map ndV) .ro,.sl ((s).el.map ndV) .ro,.sl ((s).cs.map nlV) .ro]] BN02 ?_
 refine ALp.upto s.e.length (AllTo (knw vs) s.e) (fun m=>⟨dn 52 [(0,.pt 0 0),(3,.pt 4 0),(4,(.im (.bool (false)))),(8,.sl (s.e.map exV) .ro),(9,(.im (.int .i64 (s.e.length)))),(10,(.im (.int .i64 ((((m:Nat)):Int)))))],ofl [.box [(V.fn (.func 154) [] [.pt 1 0]),.sl (fs.map tsV) .ro,.sl (ls.map tsV) (.own 2),.sl ((sn).map tsV) (.own 3)],.box [(V.sl (vs.map vaV) .ro)],.tip 9 1 ls.length,.tip 9 1 (sn).length,.box [.im (.int .i64 (s).kind),.im (.int .i64 (s).width),.im (.string (s).name),.sl ((s).e.map exV) .ro,.sl ((s).l.map ndV) .ro,.sl ((s).el.map ndV) .ro,.sl ((s).cs.map nlV) .ro]]⟩) ?_ 0 (Nat.zero_le _) (AllTo.zero _ _)
 intro m hm hI hnext
 by_cases hlt:m<s.e.length
 ·have hlt':(m:Int)<(s.e.length:Int):=by omega
  have hm1:=aL hlt (by omega)
  have hg:=bB hlt;have hc:=OO vs hv s.e[m] (he2 _ (List.getElem_mem hlt)) (hfm _ (List.getElem_mem hlt));refine wdG gU (A3 hlt' hg EX) ?_;cases b:knw vs s.e[m]with
  | false =>
   rw[b]at hc;have hr:symT vs fs ls s=false:=by unfold symT;rw[oL hlt b,Bool.false_and]
   rw[hr];refine cB [1] hc @bI BN02 PY ?_;refine goG gU TI ?_;refine wdG gU TI ?_;exact bN BN02
  | true =>
   rw[b]at hc;refine cB [1] hc @bI BN02 PY ?_;refine goG gU TI ?_;refine wdG gU hm1 ?_;refine ALp.cutP 5 [(0,.pt 0 0),(3,.pt 4 0),(4,(.im (.bool (false)))),(8,.sl (s.e.map exV) .ro),(9,(.im (.int .i64 (s.e.length)))),(10,(.im (.int .i64 ((((m+1:Nat)):Int)))))] [.box [(V.fn (.func 154) [] [.pt 1 0]),.sl (fs.map tsV) .ro,.sl (ls.map tsV) (.own 2),.sl ((sn).map tsV) (.own 3)],.box [(V.sl (vs.map vaV) .ro)],.tip 9 1 ls.length,.tip 9 1 (sn).length,.box [.im (.int .i64 (s).kind),.im (.int .i64 (s).width),.im (.string (s).name),.sl ((s).e.map exV) .ro,.sl ((s).l.map ndV) .ro,.sl ((s).el.map ndV) .ro,.sl ((s).cs.map nlV) .ro]] BN02 ?_;exact hnext (m+1) (by omega) (by omega) (hI.succ hlt b)
 obtain rfl:m=s.e.length:=by omega
 clear hnext
 have hall:s.e.all (knw vs)=true:=List.all_eq_true.2 fun x hx=>by
  obtain⟨j,hj,rfl⟩:=List.getElem_of_mem hx;exact hI j hj hj
 unfold symT
 rw[hall,Bool.true_and]
 by_cases k1:s.kind=1
 ·rw[if_pos (by simp[k1])]
  refine wdG gU (AI @Int.lt_irrefl k1) ?_;refine cB [1] h1 TI BN02 PY ?_;refine goG gU TI ?_;refine wdG gU TI ?_;exact bN BN02
 by_cases k3:s.kind=3
 ·rw[if_pos (by simp[k3])]
  refine wdG gU (AI @Int.lt_irrefl k3) ?_;refine cB [1] h1 TI BN02 PY ?_;refine goG gU TI ?_;refine wdG gU TI ?_;exact bN BN02
 rw[if_neg (by simp[k1,k3])]
 by_cases k5:s.kind=5
 ·rw[if_pos (by simp[k5])]
  refine wdG gU (AI @Int.lt_irrefl k5) ?_;refine AR.callP h2 TI BN02 ?_;refine goG gU TI ?_;refine wdG gU TI ?_;exact bN BN02
 rw[if_neg (by simp[k5])]
 by_cases k12:s.kind=12
 ·rw[if_pos (by simp[k12])]
  refine wdG gU (AI @Int.lt_irrefl k12) ?_;refine dH h3 TI BN02 ?_;refine goG gU TI ?_;refine wdG gU TI ?_;exact bN BN02
 rw[if_neg (by simp[k12])]
 refine wdG gU (A5 @Int.lt_irrefl k1 k3 k5 k12) ?_
 exact bN BN02
def Mb:=AI @fE @dP
theorem JL{x:Ex}{r:Bool}(h:PC Tryz.prog 73 [exV x,(.im (.int .i64 (64)))] (.im (.bool (r)))):PC Tryz.prog 163 [exV x] (.im (.bool (!r))):=by
 refine PC.enter 6 Tryz.func163 rfl (by decide) rfl rfl (s:=[(0,exV x)]) (by rfl) ?_
 rw[bI x]at h ⊢
 refine wG Mb TI ?_
 refine AR.callP h TI BN02 ?_
 refine goG Mb TI ?_
 refine wG Mb TI ?_
 exact aC
theorem lO{P:Program}{N:Nat}{ops:Array Oper}{dr:Bool}{Q:Exit→St→Prop}{d:Option Tmp}{c:Operand}{args:Array Operand}{tys:Array TypeId}{ty:TypeId}{pos:String}{af:Array Edge}{g:Option (Nat×Bool)}{os:List Oper}{k:Nat}{s:List (Nat×V)}{l:List Ent}
  {acc:List (Nat×List Nat×List Nat)} {f:FuncId} {us vs xs xs':List V} {r r':V} {l0:List Ent} {F E M:Prop} (js:List Nat) (h:DC P f xs l0 r l0) (fa:F) (fi:E) (fr:M)
  (n:AR P ops dr Q os (k+1) ⟨dn N (eZ s d r'),ofl l⟩ ((k,(fL js 0 l0).map Prod.fst,[])::acc)) (hg:gd ops ⟨d,.call {callee:= .value c,args:=args,argTypes:=tys},ty,pos,af,g⟩ ⟨dn N s,ofl l⟩=some true:=by rfl) (hc:St.ev ⟨dn N s,ofl l⟩ c= .fn (.func f) us vs:=by rfl)
  (hx:M→V.renL (gOf js) xs=xs':=by intro f;first|(simp only[SR,f];done)|(simp only[SR,f];with_reducible exact rfl)) (hr:M→V.ren (gOf js) r=r':=by intro f;first|(simp only[SR,f];done)|(simp only[SR,f];with_reducible exact rfl))
  (hw:F→WkL (us++args.toList.map (St.ev ⟨dn N s,ofl l⟩)++vs) xs':=by intro f;exact iC (by simp only[St.ev,V.ofVal,V.ofCell,V.size_im,fO,dD,iE,Nat.reduceLT,Nat.reduceEqDiff,reduceIte,if_true,if_false,List.map_cons,List.map_nil,List.nil_append,List.cons_append,List.append_nil,f])) (hi:E→V.idsL (ltB js.length) xs=true:=by intro f;first|rfl|simp only[List.length_cons,List.length_nil,Nat.reduceAdd,V.ids,V.idsL,idsA,entOk,List.all_cons,List.all_nil,Bool.and_self,Bool.and_true,Bool.true_and,ltB,noId,Nat.reduceLT,decide_true,Bool.true_eq_false,bS,bU,bT,bV,f])
  (hnd:decide js.Nodup=true:=by rfl) (h0:l0.length=js.length:=by rfl) (he:E→l0.all (entOk (ltB js.length))=true:=by intro f;first|rfl|simp only[List.length_cons,List.length_nil,Nat.reduceAdd,V.ids,V.idsL,idsA,entOk,List.all_cons,List.all_nil,Bool.and_self,Bool.and_true,Bool.true_and,ltB,noId,Nat.reduceLT,decide_true,Bool.true_eq_false,bS,bU,bT,bV,f])
  (hl:M→ ∀p∈fL js 0 l0,ofl l p.1=p.2:=by intro f p hp;simp only[fL,SR,Ent.ren,List.mem_cons,List.not_mem_nil,or_false,f]at hp;first|(rcases hp with rfl|rfl|rfl|rfl<;>rfl)|(rcases hp with rfl|rfl|rfl|rfl|rfl<;>rfl)|(rcases hp with rfl<;>rfl)|(rcases hp with rfl|rfl<;>rfl)|(rcases hp with rfl|rfl|rfl<;>rfl)) :
  AR P ops dr Q (⟨d,.call {callee:= .value c,args:=args,argTypes:=tys},ty,pos,af,g⟩::os) k ⟨dn N s,ofl l⟩ acc:=Rk js h hg hc (hx fr) (hr fr) (hw fa) (hi fi) hnd h0 (he fi) (hl fr) n
def chk1(vs:List Va)(fs ls sn:List ByteArray)(p:Nd×Bool):Int :=
 if !(p.1.e.all fun x=>esh x 64)then 20 else if !stT p.1 then 2 else if !symT vs fs ls p.1 then 17 else if(p.1.kind==10||p.1.kind==11)&& !p.2 then 21 else if p.1.kind==13&&sn.any (fun x=>eqS p.1.name x)then 8 else 0
def nxt(sn:List ByteArray)(p:Nd×Bool):List ByteArray:=if p.1.kind==13 then sn++[p.1.name]else sn
theorem LS{s:Nd}(h:stT s=true): ∀x∈s.e,efm x=true:=by
 unfold stT at h
 simp only[Bool.and_eq_true,List.all_eq_true]at h
 exact h.2
def bM:=A16 @iV @cO @Mq @iA @Mn @dT @mB @Uy @jE @Uv @iP @mN @iO @Gm @Uu (A6 @gY @cN @Mi @hX @Mh @dC)
set_option maxHeartbeats 1000000 in
theorem JK(vs:List Va)(hv:vs.length≤4194304)(fs ls sn:List ByteArray)(hfs:fs.length≤4194304)(hls:ls.length≤4194304)(hsn:sn.length≤4194304)(p:Nd×Bool)(hf:fitN p.1) :
  DC Tryz.prog 97 [.pt 0 0,plV p] [.box [(V.fn (.func 154) [] [.pt 1 0]),.sl (fs.map tsV) .ro,.sl (ls.map tsV) (.own 2),.sl ((sn).map tsV) (.own 3)],.box [(V.sl (vs.map vaV) .ro)],.tip 9 1 ls.length,.tip 9 1 (sn).length] (.im (.int .i64 (chk1 vs fs ls sn p))) [.box [(V.fn (.func 154) [] [.pt 1 0]),.sl (fs.map tsV) .ro,.sl (ls.map tsV) (.own 2),.sl ((if chk1 vs fs ls sn p=0 then nxt sn p else sn).map tsV) (.own 3)],.box [(V.sl (vs.map vaV) .ro)],.tip 9 1 ls.length,.tip 9 1 (if chk1 vs fs ls sn p=0 then nxt sn p else sn).length]:=by
 obtain⟨s,lp⟩:=p
 obtain⟨hI,hsz,⟨he1,he2⟩,h4,h5,h6,h7⟩:=dR hf
 have h1:=sE (gs:=s.e) (F:=163) (fun x=> !esh x 64) he1 (fun t ht=>JL (Tq t (he2 t ht) 64 (by decide)))
 rw[←List.not_all_eq_any_not]at h1
 have h2:=Px s hf
 have h5:=pN sn hsn s.name
 unfold chk1
 simp only
 cases b1:s.e.all fun x=>esh x 64 with
 | false =>
  rw[b1]at h1;simp only[Bool.not_false,if_true,show ¬(20:Int)=0 by decide,if_false]
  refine DC.enter 62 Tryz.func97 rfl (by decide) rfl rfl (s:=[(0,.pt 0 0),(1,plV (s,lp))]) (by rfl) ?_
  simp only[nN];refine wG bM TI ?_;refine AR.callP h1 TI BN02 ?_;refine goG bM TI ?_;refine wG bM TI ?_;exact bN BN02
 | true =>
 rw[b1]at h1
 simp only[Bool.not_true,Bool.false_eq_true,if_false]
 cases b2:stT s with
 | false =>
  rw[b2]at h2;simp only[Bool.not_false,if_true,show ¬(2:Int)=0 by decide,if_false]
  refine DC.enter 62 Tryz.func97 rfl (by decide) rfl rfl (s:=[(0,.pt 0 0),(1,plV (s,lp))]) (by rfl) ?_
  simp only[nN];refine wG bM TI ?_;refine AR.callP h1 TI BN02 ?_;refine goG bM TI ?_;refine wG bM TI ?_;refine AR.callP h2 eW BN02 ?_;refine goG bM TI ?_;refine wG bM TI ?_;exact bN BN02
 | true =>
 rw[b2]at h2
 simp only[Bool.not_true,Bool.false_eq_true,if_false]
 have h3:=AY vs hv fs ls sn hfs hls s hf (LS b2)
 cases b3:symT vs fs ls s with
 | false =>
  rw[b3]at h3;simp only[Bool.not_false,if_true,show ¬(17:Int)=0 by decide,if_false]
  refine DC.enter 62 Tryz.func97 rfl (by decide) rfl rfl (s:=[(0,.pt 0 0),(1,plV (s,lp))]) (by rfl) ?_
  simp only[nN];refine wG bM TI ?_;refine AR.callP h1 TI BN02 ?_;refine goG bM TI ?_;refine wG bM TI ?_;refine AR.callP h2 eW BN02 ?_;refine goG bM TI ?_;refine wG bM TI ?_;refine lO [0,1,2,3] h3 eW BN02 Ri ?_;refine goG bM TI ?_;refine wG bM TI ?_;exact bN BN02
 | true =>
 rw[b3]at h3
 simp only[Bool.not_true,Bool.false_eq_true,if_false]
 by_cases k10:s.kind=10
 ·have e13:nxt sn (s,lp)=sn:=by simp[nxt,k10]
  cases lp with
  | false =>
   rw[if_pos (by simp[k10])]
   simp only[show ¬(21:Int)=0 by decide,if_false]
   refine DC.enter 62 Tryz.func97 rfl (by decide) rfl rfl (s:=[(0,.pt 0 0),(1,plV (s,false))]) (by rfl) ?_
   simp only[nN];refine wG bM TI ?_;refine AR.callP h1 TI BN02 ?_;refine goG bM TI ?_;refine wG bM TI ?_;refine AR.callP h2 eW BN02 ?_;refine goG bM TI ?_;refine wG bM TI ?_;refine lO [0,1,2,3] h3 eW BN02 Ri ?_;refine goG bM TI ?_;refine wG bM k10 ?_;exact bN BN02
  | true =>
   rw[if_neg (by simp),if_neg (by simp[k10])]
   simp only[if_true,e13];refine DC.enter 62 Tryz.func97 rfl (by decide) rfl rfl (s:=[(0,.pt 0 0),(1,plV (s,true))]) (by rfl) ?_
   simp only[nN];refine wG bM TI ?_;refine AR.callP h1 TI BN02 ?_;refine goG bM TI ?_;refine wG bM TI ?_;refine AR.callP h2 eW BN02 ?_;refine goG bM TI ?_;refine wG bM TI ?_;refine lO [0,1,2,3] h3 eW BN02 Ri ?_;refine goG bM TI ?_;refine wG bM k10 ?_;exact bN BN02
 by_cases k11:s.kind=11
 ·have e13:nxt sn (s,lp)=sn:=by simp[nxt,k11]
  cases lp with
  | false =>
   rw[if_pos (by simp[k11])]
   simp only[show ¬(21:Int)=0 by decide,if_false]
   refine DC.enter 62 Tryz.func97 rfl (by decide) rfl rfl (s:=[(0,.pt 0 0),(1,plV (s,false))]) (by rfl) ?_
   simp only[nN];refine wG bM TI ?_;refine AR.callP h1 TI BN02 ?_;refine goG bM TI ?_;refine wG bM TI ?_;refine AR.callP h2 eW BN02 ?_;refine goG bM TI ?_;refine wG bM TI ?_;refine lO [0,1,2,3] h3 eW BN02 Ri ?_;refine goG bM TI ?_;refine wG bM (AI k10 k11) ?_;exact bN BN02
  | true =>
   rw[if_neg (by simp),if_neg (by simp[k11])]
   simp only[if_true,e13];refine DC.enter 62 Tryz.func97 rfl (by decide) rfl rfl (s:=[(0,.pt 0 0),(1,plV (s,true))]) (by rfl) ?_
   simp only[nN];refine wG bM TI ?_;refine AR.callP h1 TI BN02 ?_;refine goG bM TI ?_;refine wG bM TI ?_;refine AR.callP h2 eW BN02 ?_;refine goG bM TI ?_;refine wG bM TI ?_;refine lO [0,1,2,3] h3 eW BN02 Ri ?_;refine goG bM TI ?_;refine wG bM (AI k10 k11) ?_;exact bN BN02
 rw[if_neg (by simp[k10,k11])]
 by_cases k13:s.kind=13
 case neg =>
  have e13:nxt sn (s,lp)=sn:=by simp[nxt,k13]
  rw[if_neg (by simp[k13])]
  simp only[if_true,e13];refine DC.enter 62 Tryz.func97 rfl (by decide) rfl rfl (s:=[(0,.pt 0 0),(1,plV (s,lp))]) (by rfl) ?_
  simp only[nN];refine wG bM TI ?_;refine AR.callP h1 TI BN02 ?_;refine goG bM TI ?_;refine wG bM TI ?_;refine AR.callP h2 eW BN02 ?_;refine goG bM TI ?_;refine wG bM TI ?_;refine lO [0,1,2,3] h3 eW BN02 Ri ?_;refine goG bM TI ?_;refine wG bM (A3 k10 k11 k13) ?_;exact bN BN02
 have e13:nxt sn (s,lp)=sn++[s.name]:=by simp[nxt,k13]
 cases b4:sn.any fun x=>eqS s.name x with
 | true =>
  rw[b4]at h5;rw[if_pos (by simp[k13])]
  simp only[show ¬(8:Int)=0 by decide,if_false]
  refine DC.enter 62 Tryz.func97 rfl (by decide) rfl rfl (s:=[(0,.pt 0 0),(1,plV (s,lp))]) (by rfl) ?_
  simp only[nN];refine wG bM TI ?_;refine AR.callP h1 TI BN02 ?_;refine goG bM TI ?_;refine wG bM TI ?_;refine AR.callP h2 eW BN02 ?_;refine goG bM TI ?_;refine wG bM TI ?_;refine lO [0,1,2,3] h3 eW BN02 Ri ?_;refine goG bM TI ?_;refine wdG bM (A3 k10 k11 k13) ?_;refine dH h5 TI BN02 ?_;refine goG bM TI ?_;refine wdG bM TI ?_;exact bN BN02
 | false =>
  rw[b4]at h5;rw[if_neg (by simp)]
  have hap:sn.map tsV++[.im (.string s.name)]=(sn++[s.name]).map tsV:=by simp[tsV]
  have hln:sn.length+1=(sn++[s.name]).length:=by simp
  have hA:(sn++[s.name]).length*16≤140737488355328:=by simp;omega
  simp only[if_true,e13];generalize sn++[s.name]=sn' at hap hln hA ⊢;refine DC.enter 62 Tryz.func97 rfl (by decide) rfl rfl (s:=[(0,.pt 0 0),(1,plV (s,lp))]) (by rfl) ?_
  simp only[nN];refine wG bM TI ?_;refine AR.callP h1 TI BN02 ?_;refine goG bM TI ?_;refine wG bM TI ?_;refine AR.callP h2 eW BN02 ?_;refine goG bM TI ?_;refine wG bM TI ?_;refine lO [0,1,2,3] h3 eW BN02 Ri ?_;refine goG bM TI ?_;refine wdG bM (A3 k10 k11 k13) ?_;refine dH h5 TI BN02 ?_;refine goG bM TI ?_;refine wdG bM (A4 hap hln hA @List.length_map.{0,0}) ?_;exact bN BN02
def labs(l:List (Nd×Bool)):List ByteArray:=l.flatMap fun p=>if p.1.kind==13 then [p.1.name]else []
theorem Zt{l:List (Nd×Bool)}{m:Nat}(h:m<l.length):labs (l.take (m+1))=if l[m].1.kind==13 then labs (l.take m)++[l[m].1.name]else labs (l.take m):=by
 unfold labs
 rw[←rY _ h]
 split<;>simp
def runS(vs:List Va)(fs ls:List ByteArray):List ByteArray→List (Nd×Bool)→Int
 | _,[]=>0
 | sn,p::r=>if chk1 vs fs ls sn p=0 then runS vs fs ls (nxt sn p) r else chk1 vs fs ls sn p
theorem uY(vs:List Va)(fs ls sn:List ByteArray)(p:Nd×Bool)(r:List (Nd×Bool)):runS vs fs ls sn (p::r)=if chk1 vs fs ls sn p=0 then runS vs fs ls (nxt sn p) r else chk1 vs fs ls sn p:=rfl
def seenS:List ByteArray→List (Nd×Bool)→List ByteArray
 | sn,[]=>sn
 | sn,p::r=>seenS (nxt sn p) r
theorem Kg(sn:List ByteArray)(a b:List (Nd×Bool)):seenS sn (a++b)=seenS (seenS sn a) b:=by
 induction a generalizing sn with
 | nil=>rfl
 | cons x a ih=>exact ih _
theorem Ze(sn:List ByteArray)(l:List (Nd×Bool)):(seenS sn l).length≤sn.length+l.length:=by
 induction l generalizing sn with
 | nil=>exact Nat.le_refl _
 | cons x l ih =>
  have:=ih (nxt sn x);have h2:(nxt sn x).length≤sn.length+1:=by unfold nxt;split<;>simp
  simp only[seenS,List.length_cons];omega
theorem Oq(l:List (Nd×Bool)):(labs l).length≤l.length:=by
 induction l with
 | nil=>exact Nat.le_refl _
 | cons x l ih =>
  unfold labs at ih ⊢;rw[List.flatMap_cons,List.length_append,List.length_cons];have:(if x.1.kind==13 then [x.1.name]else []).length≤1:=by split<;>simp
  omega
theorem Xj: ∀(l:List Nd),fitNL l→ ∀lp,∀p∈allL l lp,fitN p.1:=by
 refine nC fun l hl hf lp p hp=> ?_
 obtain⟨t,ht,hp⟩:=List.mem_flatMap.1 hp
 rw[Co]at hp
 rcases List.mem_cons.1 hp with rfl|hp
 ·exact hf.2 t ht
 ·obtain⟨c,hc,hp⟩:=List.mem_flatMap.1 hp
  exact hl t ht c hc ((Fg (hf.2 t ht)).2 c hc) _ p hp
def bodyE(gs:List Va)(f:Fun)(fs:List ByteArray):Int :=
 if 256<gs.length+f.vars.length then 6 else if vErr gs f.vars≠0 then vErr gs f.vars else if 64<dep f.body then 20 else if 1024<cnt f.body then 6 else runS (gs++f.vars) fs (labs (allL f.body false)) [] (allL f.body false)
theorem kD(g:Nat→Nat)(x:Nd×Bool):V.ren g (plV x)=plV x:=V.ren_id g _ (gX _ x)
theorem PL:type_of%(A8 @Oe @Ie @Oc @Ob @Od @If @List.getElem?_map.{0,0} @Int.natCast_nonneg) :=
 A8 @Oe @Ie @Oc @Ob @Od @If @List.getElem?_map.{0,0} @Int.natCast_nonneg
def fM:=A16 @iV @KU @kI @cO @jP @Mn @dT @KS @Rf @PX @mB @Uy @Rb @Ra @kG (A16 @jE @Gn @iP @mN @Gm @lN @oH @rJ @KG @gY @Qw @jD @cN @iS @Mh (AI @dC @jO))
set_option maxHeartbeats 2000000 in
theorem VO(u:Un)(f:Fun)(fs:List ByteArray)(hg:u.globals.length≤2097152)(hv:f.vars.length≤2097152)(hvn:yI f.vars)(hb:fitNL f.body)(hc:cnt f.body≤4194304)(hfs:fs.length≤4194304) :
  PC Tryz.prog 45 [unV u,fnV f,.sl (fs.map tsV) .ro] (.im (.int .i64 (bodyE u.globals f fs))):=by
 have h1:=yN u.globals f.vars (by omega) hvn
 have h2:=OT f.body hb hc
 have h3:=YL f.body hb hc false
 have hlen:=Qp f.body false
 have hw:IntKind.i64.wrap ((u.globals.length:Int)+(f.vars.length:Int))=(u.globals.length:Int)+(f.vars.length:Int):=cU (by omega)
 unfold bodyE
 refine PC.enter 87 Tryz.func45 rfl (by decide) rfl rfl (s:=[(0,unV u),(1,fnV f),(2,.sl (fs.map tsV) .ro)]) (by rfl) ?_
 simp only[kJ,oO]
 by_cases b1:256<u.globals.length+f.vars.length
 ·have b1':(256:Int)<(u.globals.length:Int)+(f.vars.length:Int):=by omega
  rw[if_pos b1];refine wG fM (A3 hw b1' @List.length_map.{0,0}) ?_;exact aC
 have b1': ¬(256:Int)<(u.globals.length:Int)+(f.vars.length:Int):=by omega
 rw[if_neg b1]
 refine wG fM (A3 hw b1' @List.length_map.{0,0}) ?_
 refine AR.callP h1 TI BN06 ?_
 by_cases b2:vErr u.globals f.vars=0
 case neg =>
  rw[if_pos b2];refine goG fM b2 ?_;refine wG fM b2 ?_;exact aC
 rw[if_neg (by simp[b2])]
 rw[b2]
 refine goG fM TI ?_
 refine wG fM TI ?_
 refine AR.callP h2 TI BN06 ?_
 by_cases b3:64<dep f.body
 ·rw[if_pos b3]
  refine goG fM b3 ?_;refine wG fM b3 ?_;exact aC
 rw[if_neg b3]
 refine goG fM b3 ?_
 refine wG fM b3 ?_
 refine AR.callP h3 TI BN06 ?_
 by_cases b4:1024<cnt f.body
 ·have b4':(1024:Int)<(cnt f.body:Int):=by omega
  rw[if_pos b4];refine goG fM TI ?_;refine wG fM (A3 b4' @List.length_map.{0,0} hlen) ?_;exact aC
 have b4': ¬(1024:Int)<(cnt f.body:Int):=by omega
 rw[if_neg b4]
 refine goG fM TI ?_
 refine wG fM (A3 b4' @List.length_map.{0,0} hlen) ?_
 have h4:=BO (xss:=[u.globals.map vaV,f.vars.map vaV]) (by simp) (by
  intro xs hx;simp only[List.mem_cons,List.not_mem_nil,or_false]at hx;rcases hx with rfl|rfl
  ·exact Jw _
  ·exact Jw _) (by
  intro p xs hx;simp only[List.mem_cons,List.not_mem_nil,or_false]at hx;rcases hx with rfl|rfl
  ·exact aO _ _
  ·exact aO _ _) (by simp;omega)
 have e1:[u.globals.map vaV,f.vars.map vaV].flatten=(u.globals++f.vars).map vaV:=by simp
 rw[e1]at h4
 simp only[List.map_cons,List.map_nil]at h4
 have h5:=Xd (u.globals++f.vars)
 have hvs:(u.globals++f.vars).length≤4194304:=by rw[List.length_append];omega
 generalize u.globals++f.vars=vs at h4 h5 hvs ⊢
 have hfa:=Xj f.body hb false
 have hlb:=Oq (allL f.body false)
 generalize allL f.body false=its at h3 hlen hfa hlb ⊢
 refine dH h4 TI BN06 ?_
 refine goG fM TI ?_
 refine aA [2] h5 TI BN06 (A9 @aS @aT @bF @bE iX bK bO cF kD) ?_
 refine goG fM TI ?_
 refine wG fM @List.length_map.{0,0} ?_
 rw[←hlen]at b4
 clear h1 h2 h3 h4 h5 hw b1 b1' b2 b3 b4' hlen hvn
 refine aP ?_
 refine ALp.ghostB 3 2 [(V.fn (.func 154) [] [.pt 2 0]),.sl (fs.map tsV) .ro,.sl [] .nl,.sl [] .nl] 9 1 ?_
 have hlbl: ∀m,(labs (its.take m)).length≤its.length:=fun m=>by
  have:=Oq (its.take m);rw[List.length_take]at this;omega
 refine ALp.cutP 5 [(8,.sl (its.map plV) .ro),(9,.pt 3 0),(51,.sl (its.map plV) .ro),(52,(.im (.int .i64 (its.length)))),(53,(.im (.int .i64 ((((0:Nat)):Int)))))] [.box [.sl (u.globals.map vaV) .ro,.sl (u.data.map scV) .ro,.sl (u.funcs.map fnV) .ro],.box [.im (.string f.name),.sl (f.vars.map vaV) .ro,.sl (f.body.map ndV) .ro],.box [.sl (vs.map vaV) .ro],.box [(V.fn (.func 154) [] [.pt 2 0]),.sl (fs.map tsV) .ro,.sl ((labs (its.take (0))).map tsV) (.own 4),.sl [] .nl],.tip 9 1 (labs (its.take (0))).length] BN06 ?_
 refine ALp.upto its.length (fun _=>True) (fun m=>⟨dn 87 [(8,.sl (its.map plV) .ro),(9,.pt 3 0),(51,.sl (its.map plV) .ro),(52,(.im (.int .i64 (its.length)))),(53,(.im (.int .i64 ((((m:Nat)):Int)))))],ofl [.box [.sl (u.globals.map vaV) .ro,.sl (u.data.map scV) .ro,.sl (u.funcs.map fnV) .ro],.box [.im (.string f.name),.sl (f.vars.map vaV) .ro,.sl (f.body.map ndV) .ro],.box [.sl (vs.map vaV) .ro],.box [(V.fn (.func 154) [] [.pt 2 0]),.sl (fs.map tsV) .ro,.sl ((labs (its.take (m))).map tsV) (.own 4),.sl [] .nl],.tip 9 1 (labs (its.take (m))).length]⟩) ?_ 0 (Nat.zero_le _) trivial
 intro m hm _ hnext
 by_cases hlt:m<its.length
 ·have hlt':(m:Int)<(its.length:Int):=by omega
  have hm1:=aL hlt (by omega)
  have hg:=bB hlt;have hst:=Zt hlt
  by_cases k13:its[m].1.kind=13
  ·rw[if_pos (by simp[k13])]at hst
   have hap:(labs (its.take m)).map tsV++[.im (.string its[m].1.name)]=(labs (its.take (m+1))).map tsV:=by rw[hst];simp[tsV]
   have hln:(labs (its.take m)).length+1=(labs (its.take (m+1))).length:=by rw[hst];simp
   have hA:(labs (its.take (m+1))).length*16≤140737488355328:=by have:=hlbl (m+1);omega
   clear hst;refine wdG fM (A9 hlt' hg k13 hap hln hA hm1 @List.length_map.{0,0} PL) ?_;refine ALp.cutP 5 [(8,.sl (its.map plV) .ro),(9,.pt 3 0),(51,.sl (its.map plV) .ro),(52,(.im (.int .i64 (its.length)))),(53,(.im (.int .i64 ((((m+1:Nat)):Int)))))] [.box [.sl (u.globals.map vaV) .ro,.sl (u.data.map scV) .ro,.sl (u.funcs.map fnV) .ro],.box [.im (.string f.name),.sl (f.vars.map vaV) .ro,.sl (f.body.map ndV) .ro],.box [.sl (vs.map vaV) .ro],.box [(V.fn (.func 154) [] [.pt 2 0]),.sl (fs.map tsV) .ro,.sl ((labs (its.take (m+1))).map tsV) (.own 4),.sl [] .nl],.tip 9 1 (labs (its.take (m+1))).length] BN06 ?_;exact hnext (m+1) (by omega) (by omega) trivial
  ·rw[if_neg (by simp[k13])]at hst
   refine wdG fM (A5 hlt' hg k13 hm1 PL) ?_;rw[←hst];refine ALp.cutP 5 [(8,.sl (its.map plV) .ro),(9,.pt 3 0),(51,.sl (its.map plV) .ro),(52,(.im (.int .i64 (its.length)))),(53,(.im (.int .i64 ((((m+1:Nat)):Int)))))] [.box [.sl (u.globals.map vaV) .ro,.sl (u.data.map scV) .ro,.sl (u.funcs.map fnV) .ro],.box [.im (.string f.name),.sl (f.vars.map vaV) .ro,.sl (f.body.map ndV) .ro],.box [.sl (vs.map vaV) .ro],.box [(V.fn (.func 154) [] [.pt 2 0]),.sl (fs.map tsV) .ro,.sl ((labs (its.take (m+1))).map tsV) (.own 4),.sl [] .nl],.tip 9 1 (labs (its.take (m+1))).length] BN06 ?_;exact hnext (m+1) (by omega) (by omega) trivial
 obtain rfl:m=its.length:=by omega
 clear hnext hlbl
 rw[List.take_length]
 refine whG fM @Int.lt_irrefl ?_
 refine Blk'.here (Thn.n ?_)
 generalize labs its=ls at hlb ⊢
 refine wG fM @List.length_map.{0,0} ?_
 refine aP ?_
 refine ALp.ghostB 3 3 [(V.fn (.func 154) [] [.pt 2 0]),.sl (fs.map tsV) .ro,.sl (ls.map tsV) (.own 4),.sl [] .nl] 9 1 ?_
 refine ALp.cutP 6 [(9,.pt 3 0),(74,.sl (its.map plV) .ro),(75,(.im (.int .i64 (its.length)))),(76,(.im (.int .i64 ((((0:Nat)):Int)))))] [.box [.sl (u.globals.map vaV) .ro,.sl (u.data.map scV) .ro,.sl (u.funcs.map fnV) .ro],.box [.im (.string f.name),.sl (f.vars.map vaV) .ro,.sl (f.body.map ndV) .ro],.box [.sl (vs.map vaV) .ro],.box [(V.fn (.func 154) [] [.pt 2 0]),.sl (fs.map tsV) .ro,.sl (ls.map tsV) (.own 4),.sl ((seenS [] (its.take (0))).map tsV) (.own 5)],.tip 9 1 ls.length,.tip 9 1 (seenS [] (its.take (0))).length] BN06 ?_
 refine ALp.upto its.length (fun m=>runS vs fs ls (seenS [] (its.take m)) (its.drop m)=runS vs fs ls [] its) (fun m=>⟨dn 87 [(9,.pt 3 0),(74,.sl (its.map plV) .ro),(75,(.im (.int .i64 (its.length)))),(76,(.im (.int .i64 ((((m:Nat)):Int)))))],ofl [.box [.sl (u.globals.map vaV) .ro,.sl (u.data.map scV) .ro,.sl (u.funcs.map fnV) .ro],.box [.im (.string f.name),.sl (f.vars.map vaV) .ro,.sl (f.body.map ndV) .ro],.box [.sl (vs.map vaV) .ro],.box [(V.fn (.func 154) [] [.pt 2 0]),.sl (fs.map tsV) .ro,.sl (ls.map tsV) (.own 4),.sl ((seenS [] (its.take (m))).map tsV) (.own 5)],.tip 9 1 ls.length,.tip 9 1 (seenS [] (its.take (m))).length]⟩) ?_ 0 (Nat.zero_le _) rfl
 intro m hm hV hnext
 rw[←hV]
 by_cases hlt:m<its.length
 ·have hlt':(m:Int)<(its.length:Int):=by omega
  have hm1:=aL hlt (by omega)
  have hg:=bB hlt;have hsl:=Ze [] (its.take m);rw[List.length_take]at hsl;simp only[List.length_nil]at hsl
  have hsn:nxt (seenS [] (its.take m)) its[m]=seenS [] (its.take (m+1)):=by
   rw[List.take_succ_eq_append_getElem hlt,Kg];rfl
  have hc:=JK vs hvs fs ls (seenS [] (its.take m)) hfs (by omega) (by omega) its[m] (hfa _ (List.getElem_mem hlt))
  have hd:its.drop m=its[m]::its.drop (m+1):=List.drop_eq_getElem_cons hlt;rw[hd]at hV ⊢;rw[uY]at hV ⊢
  by_cases b:chk1 vs fs ls (seenS [] (its.take m)) its[m]=0
  ·rw[if_pos b]at hV ⊢
   rw[b,if_pos rfl,hsn]at hc;rw[hsn]at hV ⊢;refine wG fM (A3 hlt' hg PL) ?_;refine AR.callS [3,2,4,5] hc rfl rfl (by first|(simp only[SR,aS,aT,bF,bE,iX,bK,bO,cF,kD];done)|(simp only[SR,aS,aT,bF,bE,iX,bK,bO,cF,kD];with_reducible exact rfl)) (by first|(simp only[SR,aS,aT,bF,bE,iX,bK,bO,cF,kD];done)|(simp only[SR,aS,aT,bF,bE,iX,bK,bO,cF,kD];with_reducible exact rfl)) (iC (by simp only[St.ev,V.ofVal,V.ofCell,V.size_im,fO,dD,iE,Nat.reduceLT,Nat.reduceEqDiff,reduceIte,if_true,if_false,List.map_cons,List.map_nil,List.nil_append,List.cons_append,List.append_nil,nN])) (by first|rfl|simp only[List.length_cons,List.length_nil,Nat.reduceAdd,V.ids,V.idsL,idsA,entOk,List.all_cons,List.all_nil,Bool.and_self,Bool.and_true,Bool.true_and,ltB,noId,Nat.reduceLT,decide_true,Bool.true_eq_false,bS,bU,bT,bV,aD,aO,aE,aQ,oK,aH,aJ,aW,fY,gX,eO,kL]) rfl rfl rfl (by first|rfl|simp only[List.length_cons,List.length_nil,Nat.reduceAdd,V.ids,V.idsL,idsA,entOk,List.all_cons,List.all_nil,Bool.and_self,Bool.and_true,Bool.true_and,ltB,noId,Nat.reduceLT,decide_true,Bool.true_eq_false,bS,bU,bT,bV,aD,aO,aE,aQ,oK,aH,aJ,aW,fY,gX,eO,kL]) (by intro p hp;simp only[fL,SR,Ent.ren,List.mem_cons,List.not_mem_nil,or_false,aS,aT,bF,bE,iX,bK,bO,cF,kD]at hp;rcases hp with rfl|rfl|rfl|rfl<;>rfl) (by simp only[fL,Ent.ren,SR,aS,aT,bF,bE,iX,bK,bO,cF,kD,wrl,putE,SC,SD,Nat.reduceBEq,Nat.reduceLT,Nat.reduceSub,Nat.reduceAdd,Nat.reduceMul,Nat.reduceLeDiff,Nat.reduceEqDiff,reduceCtorEq,Int.reduceLT,Int.reduceLE,Int.reduceEq,Int.reduceNe,Int.reduceBEq,Int.reduceBNe,Int.reduceAdd,Int.reduceSub,Int.reduceMul,Int.reduceToNat];with_reducible exact rfl) ?_
   refine goG fM TI ?_;refine wG fM hm1 ?_;refine ALp.cutP 6 [(9,.pt 3 0),(74,.sl (its.map plV) .ro),(75,(.im (.int .i64 (its.length)))),(76,(.im (.int .i64 ((((m+1:Nat)):Int)))))] [.box [.sl (u.globals.map vaV) .ro,.sl (u.data.map scV) .ro,.sl (u.funcs.map fnV) .ro],.box [.im (.string f.name),.sl (f.vars.map vaV) .ro,.sl (f.body.map ndV) .ro],.box [.sl (vs.map vaV) .ro],.box [(V.fn (.func 154) [] [.pt 2 0]),.sl (fs.map tsV) .ro,.sl (ls.map tsV) (.own 4),.sl ((seenS [] (its.take (m+1))).map tsV) (.own 5)],.tip 9 1 ls.length,.tip 9 1 (seenS [] (its.take (m+1))).length] BN06 ?_;rw[hV];exact hnext (m+1) (by omega) (by omega) hV
  ·rw[if_neg b]
   rw[if_neg b]at hc;refine wG fM (A3 hlt' hg PL) ?_;refine AR.callS [3,2,4,5] hc rfl rfl (by first|(simp only[SR,aS,aT,bF,bE,iX,bK,bO,cF,kD];done)|(simp only[SR,aS,aT,bF,bE,iX,bK,bO,cF,kD];with_reducible exact rfl)) (by first|(simp only[SR,aS,aT,bF,bE,iX,bK,bO,cF,kD];done)|(simp only[SR,aS,aT,bF,bE,iX,bK,bO,cF,kD];with_reducible exact rfl)) (iC (by simp only[St.ev,V.ofVal,V.ofCell,V.size_im,fO,dD,iE,Nat.reduceLT,Nat.reduceEqDiff,reduceIte,if_true,if_false,List.map_cons,List.map_nil,List.nil_append,List.cons_append,List.append_nil,nN])) (by first|rfl|simp only[List.length_cons,List.length_nil,Nat.reduceAdd,V.ids,V.idsL,idsA,entOk,List.all_cons,List.all_nil,Bool.and_self,Bool.and_true,Bool.true_and,ltB,noId,Nat.reduceLT,decide_true,Bool.true_eq_false,bS,bU,bT,bV,aD,aO,aE,aQ,oK,aH,aJ,aW,fY,gX,eO,kL]) rfl rfl rfl (by first|rfl|simp only[List.length_cons,List.length_nil,Nat.reduceAdd,V.ids,V.idsL,idsA,entOk,List.all_cons,List.all_nil,Bool.and_self,Bool.and_true,Bool.true_and,ltB,noId,Nat.reduceLT,decide_true,Bool.true_eq_false,bS,bU,bT,bV,aD,aO,aE,aQ,oK,aH,aJ,aW,fY,gX,eO,kL]) (by intro p hp;simp only[fL,SR,Ent.ren,List.mem_cons,List.not_mem_nil,or_false,aS,aT,bF,bE,iX,bK,bO,cF,kD]at hp;rcases hp with rfl|rfl|rfl|rfl<;>rfl) (by simp only[fL,Ent.ren,SR,aS,aT,bF,bE,iX,bK,bO,cF,kD,wrl,putE,SC,SD,Nat.reduceBEq,Nat.reduceLT,Nat.reduceSub,Nat.reduceAdd,Nat.reduceMul,Nat.reduceLeDiff,Nat.reduceEqDiff,reduceCtorEq,Int.reduceLT,Int.reduceLE,Int.reduceEq,Int.reduceNe,Int.reduceBEq,Int.reduceBNe,Int.reduceAdd,Int.reduceSub,Int.reduceMul,Int.reduceToNat];with_reducible exact rfl) ?_
   refine goG fM b ?_;refine wG fM b ?_;exact aC
 obtain rfl:m=its.length:=by omega
 clear hnext
 rw[List.drop_length]
 refine wG fM @Int.lt_irrefl ?_
 exact aC
def fnE:List ByteArray→List Fun→Int
 | _,[]=>0
 | sn,f::r=>if !nameT f.name then 3 else if sn.any (fun x=>eqS f.name x)then 8 else fnE (sn++[f.name]) r
theorem GX{l:List Fun}{m:Nat}(h:m<l.length):fnE ((l.take m).map Fun.name) (l.drop m)=if !nameT l[m].name then 3 else if((l.take m).map Fun.name).any (fun x=>eqS l[m].name x)then 8 else fnE ((l.take (m+1)).map Fun.name) (l.drop (m+1)):=by
 rw[List.drop_eq_getElem_cons h,fnE,List.take_succ_eq_append_getElem h,List.map_append]
 rfl
def bdE(gs:List Va)(fs:List ByteArray):List Fun→Int
 | []=>0
 | f::r=>if bodyE gs f fs=0 then bdE gs fs r else bodyE gs f fs
def unE(u:Un):Int :=
 if 256<u.globals.length∨16<u.data.length∨64<u.funcs.length then 6 else if u.funcs.length=0 then 17 else if vErr [] u.globals≠0 then vErr [] u.globals else if dErr [] u.data≠0 then dErr [] u.data
 else if fnE [] u.funcs≠0 then fnE [] u.funcs else bdE u.globals (u.funcs.map Fun.name) u.funcs
structure fitFn (f:Fun):Prop where
 vl:f.vars.length≤2097152
 vn:yI f.vars
 bd:fitNL f.body
 ct:cnt f.body≤4194304
 nm:f.name.size≤9223372036854775807
structure fitU (u:Un):Prop where
 gl:u.globals.length≤2097152
 gn:yI u.globals
 dl:u.data.length≤4194304
 dn:GZ u.data
 fl:u.funcs.length≤4194304
 fn: ∀f∈u.funcs,fitFn f
def dU:=A16 @kI @zE @wF @pY @zD @dT @Cy @mB @Uy @kG @tB @wE @jE @lN @oI (A10 @mM @Ba @jD @vW @sW @nY @sU @pS @dC @jO)
set_option maxHeartbeats 2000000 in
theorem uH(u:Un)(hu:fitU u):PC Tryz.prog 15 [unV u] (.im (.int .i64 (unE u))):=by
 have h1:=yN [] u.globals (by have:=hu.gl;simp;omega) hu.gn
 have h2:=VN u.data hu.dl hu.dn
 have hgl:=hu.gl
 have hfl:=hu.fl
 unfold unE
 rw[List.map_nil]at h1
 refine PC.enter 79 Tryz.func15 rfl (by decide) rfl rfl (s:=[(0,unV u)]) (by rfl) ?_
 simp only[kJ]
 refine wG dU @List.length_map.{0,0} ?_
 refine cY rfl rfl (fun hE=> ?_) (fun hE=> ?_)
 ·have q:256<u.globals.length∨16<u.data.length∨64<u.funcs.length:=by
   simp only[Bool.or_eq_true,decide_eq_true_eq]at hE;omega
  rw[if_pos q];refine wG dU TI ?_;exact aC
 have q: ¬(256<u.globals.length∨16<u.data.length∨64<u.funcs.length):=by
  simp only[Bool.or_eq_false_iff,decide_eq_false_iff_not]at hE;omega
 rw[if_neg q]
 by_cases b0:u.funcs.length=0
 ·have b0':(u.funcs.length:Int)=0:=by omega
  rw[if_pos b0];refine wG dU (AI b0' @List.length_map.{0,0}) ?_;exact aC
 have b0': ¬(u.funcs.length:Int)=0:=by omega
 rw[if_neg b0]
 refine wG dU (AI b0' @List.length_map.{0,0}) ?_
 refine dH h1 TI BN04 ?_
 by_cases b1:vErr [] u.globals=0
 case neg =>
  rw[if_pos b1];refine goG dU b1 ?_;refine wG dU b1 ?_;exact aC
 rw[if_neg (by simp[b1]),b1]
 refine goG dU TI ?_
 refine wG dU TI ?_
 refine AR.callP h2 TI BN04 ?_
 by_cases b2:dErr [] u.data=0
 case neg =>
  rw[if_pos b2];refine goG dU b2 ?_;refine wG dU b2 ?_;exact aC
 rw[if_neg (by simp[b2]),b2]
 refine goG dU TI ?_
 refine wG dU @List.length_map.{0,0} ?_
 refine aP ?_
 refine ALp.ghost 5 [] .nl 9 1 ?_
 refine ALp.cutP 2 [(1,.pt 0 0),(5,.sl (((u.funcs.take (0)).map Fun.name).map tsV) (.own 1)),(44,.sl (u.funcs.map fnV) .ro),(45,(.im (.int .i64 (u.funcs.length)))),(46,(.im (.int .i64 ((((0:Nat)):Int)))))] [.box [.sl (u.globals.map vaV) .ro,.sl (u.data.map scV) .ro,.sl (u.funcs.map fnV) .ro],.tip 9 1 ((u.funcs.take (0)).map Fun.name).length] BN04 ?_
 refine ALp.upto u.funcs.length (fun m=>fnE ((u.funcs.take (m)).map Fun.name) (u.funcs.drop m)=fnE [] u.funcs) (fun m=>⟨dn 79 [(1,.pt 0 0),(5,.sl (((u.funcs.take (m)).map Fun.name).map tsV) (.own 1)),(44,.sl (u.funcs.map fnV) .ro),(45,(.im (.int .i64 (u.funcs.length)))),(46,(.im (.int .i64 ((((m:Nat)):Int)))))],ofl [.box [.sl (u.globals.map vaV) .ro,.sl (u.data.map scV) .ro,.sl (u.funcs.map fnV) .ro],.tip 9 1 ((u.funcs.take (m)).map Fun.name).length]⟩) ?_ 0 (Nat.zero_le _) rfl
 intro m hm hV hnext
 by_cases hlt:m<u.funcs.length
 ·have hlt':(m:Int)<(u.funcs.length:Int):=by omega
  have hm1:=aL hlt (by omega)
  have hg:=bB hlt;have hf:=hu.fn _ (List.getElem_mem hlt);have h3:=Ft u.funcs[m].name hf.nm;have hnl:((u.funcs.take (m)).map Fun.name).length=m:=by rw[List.length_map,List.length_take];omega
  have h4:=pN ((u.funcs.take (m)).map Fun.name) (by omega) u.funcs[m].name
  have hn2:=hnext (m+1) (by omega) (by omega)
  rw[GX hlt]at hV
  have hap:((u.funcs.take (m)).map Fun.name).map tsV++[.im (.string u.funcs[m].name)]=((u.funcs.take (m+1)).map Fun.name).map tsV:=by
   rw[List.map_map,List.map_map];exact Hv (tsV∘Fun.name) hlt
  have hnl1:((u.funcs.take (m+1)).map Fun.name).length=m+1:=by rw[List.length_map,List.length_take];omega
  have hln:((u.funcs.take (m)).map Fun.name).length+1=((u.funcs.take (m+1)).map Fun.name).length:=by omega
  have hA:((u.funcs.take (m+1)).map Fun.name).length*16≤140737488355328:=by omega
  generalize ((u.funcs.take (m)).map Fun.name)=n0 at h4 hV hap hln ⊢;generalize ((u.funcs.take (m+1)).map Fun.name)=n1 at hV hap hln hA hn2 ⊢;cases b3:nameT u.funcs[m].name with
  | false =>
   rw[b3]at h3 hV;simp only[Bool.not_false,if_true]at hV;rw[←hV,if_pos (by decide)]
   refine wG dU (A3 hlt' hg FU) ?_;refine AR.callP h3 TI BN04 ?_;refine goG dU TI ?_;refine wG dU TI ?_;exact aC
  | true =>
  rw[b3]at h3 hV;simp only[Bool.not_true,Bool.false_eq_true,if_false]at hV;cases b4:n0.any fun x=>eqS u.funcs[m].name x with
  | true =>
   rw[b4]at h4 hV;simp only[if_true]at hV;rw[←hV,if_pos (by decide)]
   refine wG dU (A3 hlt' hg FU) ?_;refine AR.callP h3 TI BN04 ?_;refine goG dU TI ?_;refine wG dU TI ?_;refine dH h4 TI BN04 ?_;refine goG dU TI ?_;refine wG dU TI ?_;exact aC
  | false =>
   rw[b4]at h4 hV;simp only[Bool.false_eq_true,if_false]at hV;refine wG dU (A3 hlt' hg FU) ?_;refine AR.callP h3 TI BN04 ?_;refine goG dU TI ?_;refine wG dU TI ?_;refine dH h4 TI BN04 ?_;refine goG dU TI ?_;refine wG dU (A5 hap hln hA hm1 @List.length_map.{0,0}) ?_;refine ALp.cutP 2 [(1,.pt 0 0),(5,.sl (n1.map tsV) (.own 1)),(44,.sl (u.funcs.map fnV) .ro),(45,(.im (.int .i64 (u.funcs.length)))),(46,(.im (.int .i64 ((((m+1:Nat)):Int)))))] [.box [.sl (u.globals.map vaV) .ro,.sl (u.data.map scV) .ro,.sl (u.funcs.map fnV) .ro],.tip 9 1 n1.length] BN04 ?_;exact hn2 hV
 obtain rfl:m=u.funcs.length:=by omega
 clear hnext
 rw[List.take_length,List.drop_length]at hV
 have hV:fnE [] u.funcs=0:=by rw[←hV];cases u.funcs.map Fun.name<;>rfl
 rw[if_neg (by simp[hV]),List.take_length]
 have hfn:(u.funcs.map Fun.name).length≤4194304:=by rw[List.length_map];exact hfl
 generalize u.funcs.map Fun.name=fs at hfn ⊢
 refine whG dU @Int.lt_irrefl ?_
 refine Blk'.here (Thn.n ?_)
 refine wG dU @List.length_map.{0,0} ?_
 refine aP ?_
 refine ALp.cutP 2 [(1,.pt 0 0),(5,.sl (fs.map tsV) (.own 1)),(65,.sl (u.funcs.map fnV) .ro),(66,(.im (.int .i64 (u.funcs.length)))),(67,(.im (.int .i64 ((((0:Nat)):Int)))))] [.box [.sl (u.globals.map vaV) .ro,.sl (u.data.map scV) .ro,.sl (u.funcs.map fnV) .ro],.tip 9 1 fs.length] BN04 ?_
 refine ALp.upto u.funcs.length (fun m=>bdE u.globals fs (u.funcs.drop m)=bdE u.globals fs u.funcs) (fun m=>⟨dn 79 [(1,.pt 0 0),(5,.sl (fs.map tsV) (.own 1)),(65,.sl (u.funcs.map fnV) .ro),(66,(.im (.int .i64 (u.funcs.length)))),(67,(.im (.int .i64 ((((m:Nat)):Int)))))],ofl [.box [.sl (u.globals.map vaV) .ro,.sl (u.data.map scV) .ro,.sl (u.funcs.map fnV) .ro],.tip 9 1 fs.length]⟩) ?_ 0 (Nat.zero_le _) rfl
 intro m hm hV hnext
 rw[←hV]
 by_cases hlt:m<u.funcs.length
 ·have hlt':(m:Int)<(u.funcs.length:Int):=by omega
  have hm1:=aL hlt (by omega)
  have hg:=bB hlt;have hf:=hu.fn _ (List.getElem_mem hlt);have hb:=VO u u.funcs[m] fs hgl hf.vl hf.vn hf.bd hf.ct hfn;have hd:u.funcs.drop m=u.funcs[m]::u.funcs.drop (m+1):=List.drop_eq_getElem_cons hlt;rw[hd]at hV ⊢;have hs:bdE u.globals fs (u.funcs[m]::u.funcs.drop (m+1))=if bodyE u.globals u.funcs[m] fs=0 then bdE u.globals fs (u.funcs.drop (m+1))else bodyE u.globals u.funcs[m] fs:=rfl
  rw[hs]at hV ⊢
  by_cases b:bodyE u.globals u.funcs[m] fs=0
  ·rw[if_pos b]at hV ⊢
   rw[b]at hb;refine wG dU (A3 hlt' hg FU) ?_;refine dH hb (AI kJ oO) BN04 ?_;refine goG dU TI ?_;refine wG dU hm1 ?_;refine ALp.cutP 2 [(1,.pt 0 0),(5,.sl (fs.map tsV) (.own 1)),(65,.sl (u.funcs.map fnV) .ro),(66,(.im (.int .i64 (u.funcs.length)))),(67,(.im (.int .i64 ((((m+1:Nat)):Int)))))] [.box [.sl (u.globals.map vaV) .ro,.sl (u.data.map scV) .ro,.sl (u.funcs.map fnV) .ro],.tip 9 1 fs.length] BN04 ?_;rw[hV];exact hnext (m+1) (by omega) (by omega) hV
  ·rw[if_neg b]
   refine wG dU (A3 hlt' hg FU) ?_;refine dH hb (AI kJ oO) BN04 ?_;refine goG dU b ?_;refine wG dU b ?_;exact aC
 obtain rfl:m=u.funcs.length:=by omega
 clear hnext
 rw[List.drop_length]
 refine wG dU @Int.lt_irrefl ?_
 exact aC
theorem QG(c:UInt8):((c.toNat:Nat):Int).fdiv (2^min 4 IntKind.u8.bits)=((c.toNat/16:Nat):Int) :=
 of_decide_eq_true (oJ (fun c=>decide (((c.toNat:Nat):Int).fdiv (2^min 4 IntKind.u8.bits)=((c.toNat/16:Nat):Int))) (by decide +kernel) c)
theorem QF(c:UInt8):IntKind.u8.wrap ↑(BitVec.ofInt IntKind.u8.bits ↑c.toNat&&&BitVec.ofInt IntKind.u8.bits 15).toNat=((c.toNat%16:Nat):Int) :=
 of_decide_eq_true (oJ (fun c=>decide (IntKind.u8.wrap ↑(BitVec.ofInt IntKind.u8.bits ↑c.toNat&&&BitVec.ofInt IntKind.u8.bits 15).toNat=((c.toNat%16:Nat):Int))) (by decide +kernel) c)
theorem Ou: ∀ {n:Nat},n<16→([48,49,50,51,52,53,54,55,56,57,97,98,99,100,101,102]:Bs)[n]? =some (hexD n):=by
 intro n h
 have: ∀n<16,([48,49,50,51,52,53,54,55,56,57,97,98,99,100,101,102]:Bs)[n]? =some (hexD n):=by decide
 exact this n h
def mX:=A10 @Mp @Gs @Gr @lA @sX @xG @qP @qO @sP @iB
set_option maxHeartbeats 2000000 in
theorem OK(s:Bs)(hs:s.length≤4194304):PC Tryz.prog 38 [.sl (s.map byB) .ro] (.im (.string ⟨(quoS s).toArray⟩)):=by
 have hA0:s.length≤140737488355328:=by omega
 refine PC.enter 47 Tryz.func38 rfl (by decide) rfl rfl (s:=[(0,.sl (s.map byB) .ro)]) (by rfl) ?_
 refine wG mX (A3 BY dI hA0) ?_
 refine aP ?_
 refine ALp.ghost 3 [.im (.int .u8 (34))] .full 5 1 ?_
 suffices H: ∀(k m:Nat) (A:Bs),s.length-m=k→m≤s.length→A=34::(s.take m).flatMap escC→ALp _ _ _ _ _ ⟨dn 47 [(3,.sl (A.map byB) (.own 0)),(7,.sl (s.map byB) .ro),(8,(.im (.int .i64 (s.length)))),(9,(.im (.int .i64 ((((m:Nat)):Int)))))],ofl [.tip 5 1 A.length]⟩ by
  refine ALp.cutP 1 [(3,.sl (([34]:Bs).map byB) (.own 0)),(7,.sl (s.map byB) .ro),(8,(.im (.int .i64 (s.length)))),(9,(.im (.int .i64 ((((0:Nat)):Int)))))] [.tip 5 1 ([34]:Bs).length] aB ?_;exact H _ 0 [34] rfl (Nat.zero_le _) (by simp)
 intro k
 induction k using Nat.strongRecOn with
 | _ k ih =>
 intro m A hk hml hA
 have hAl:A.length≤1+4*m:=by
  rw[hA]
  have: ∀l:Bs,(l.flatMap escC).length≤4*l.length:=fun l=>by
   induction l with
   | nil=>simp
   | cons c l ih =>
    have h1:(escC c).length≤4:=by unfold escC;split<;>(try split)<;>simp
    rw[List.flatMap_cons,List.length_append,List.length_cons];omega
  have h2:=this (s.take m);rw[List.length_take]at h2;rw[List.length_cons];omega
 refine dE ?_
 by_cases hlt:m<s.length
 case neg =>
  obtain rfl:m=s.length:=by omega
  have hn: ¬(s.length:Int)<(s.length:Int):=by omega
  obtain⟨B,hB⟩: ∃B,B=A++[34]:=⟨_,rfl⟩
  have hQ:quoS s=B:=by rw[hB,hA,List.take_length];rfl
  have hAs:A.map byB++[V.im (.int .u8 34)]=B.map byB:=by rw[hB,List.map_append];rfl
  have hAk:A.length+1=B.length:=by rw[hB];simp
  have hbl:B.length≤140737488355328:=by omega
  have hb:=nG B;rw[hQ];clear ih hA hB hQ;refine wG mX (A9 BY hn dI hAs hAk hbl hb @List.length_map.{0,0} @Nat.mul_one) ?_;refine aG (rs:=[.tmp 2]) rfl (by first|exact .inl rfl|exact .inr rfl) (finG mX) ?_
  all_goals exact wkG aB
 have hlt':(m:Int)<(s.length:Int):=by omega
 have hw1:=aL hlt (by omega)
 have hg:s[m]? =some s[m]:=List.getElem?_eq_getElem hlt
 have hst:s.take (m+1)=s.take m++[s[m]]:=List.take_succ_eq_append_getElem hlt
 obtain⟨B,hB⟩: ∃B,B=A++escC s[m]:=⟨_,rfl⟩
 have hI:=ih (s.length-(m+1)) (by omega) (m+1) B rfl (by omega) (by rw[hB,hA,hst,List.flatMap_append];simp)
 clear ih hst
 generalize s[m]=c at hg hB
 by_cases h34:c.toNat=34∨c.toNat=92
 ·rw[show escC c=[92,c]from if_pos h34]at hB
  have hAs:A.map byB++[V.im (.int .u8 92),V.im (.int .u8 c.toNat)]=B.map byB:=by rw[hB,List.map_append];rfl
  have hAk:A.length+2=B.length:=by rw[hB];simp
  have hbl:B.length≤140737488355328:=by omega
  clear hA hB
  by_cases h1:c.toNat=34
  ·have e1:(c.toNat:Int)=34:=by omega
   rw[e1]at hAs;refine wG mX (A11 BY hlt' dI hg e1 hAs hAk hbl hw1 @List.length_map.{0,0} @Nat.mul_one) ?_;refine ALp.cutP 1 [(3,.sl (B.map byB) (.own 0)),(7,.sl (s.map byB) .ro),(8,(.im (.int .i64 (s.length)))),(9,(.im (.int .i64 ((((m+1:Nat)):Int)))))] [.tip 5 1 B.length] aB ?_;exact hI
  ·have e1: ¬(c.toNat:Int)=34:=by omega
   have e2:(c.toNat:Int)=92:=by omega
   rw[e2]at hAs;refine wG mX (A12 BY hlt' dI hg e1 e2 hAs hAk hbl hw1 @List.length_map.{0,0} @Nat.mul_one) ?_;refine ALp.cutP 1 [(3,.sl (B.map byB) (.own 0)),(7,.sl (s.map byB) .ro),(8,(.im (.int .i64 (s.length)))),(9,(.im (.int .i64 ((((m+1:Nat)):Int)))))] [.tip 5 1 B.length] aB ?_;exact hI
 rw[show escC c=if c.toNat<32∨126<c.toNat then [92,120,hexD (c.toNat/16),hexD (c.toNat%16)]else [c]from if_neg h34]at hB
 have e1: ¬(c.toNat:Int)=34:=by omega
 have e2: ¬(c.toNat:Int)=92:=by omega
 by_cases h32:c.toNat<32∨126<c.toNat
 ·rw[if_pos h32]at hB
  have hAs:A.map byB++[V.im (.int .u8 92),V.im (.int .u8 120),V.im (.int .u8 (hexD (c.toNat/16)).toNat),V.im (.int .u8 (hexD (c.toNat%16)).toNat)]=B.map byB:=by rw[hB,List.map_append];rfl
  have hAk:A.length+4=B.length:=by rw[hB];simp
  have hbl:B.length≤140737488355328:=by omega
  clear hA hB;have hd1:=Ou (show c.toNat/16<16 by have:=c.toNat_lt;omega)
  have hd2:=Ou (show c.toNat%16<16 by omega)
  by_cases h1:c.toNat<32
  ·have e3:(c.toNat:Int)<32:=by omega
   refine wG mX (A7 BY hlt' dI hg e1 e2 e3) ?_;refine wdG mX (A16 BY GDS hlt' dI hg e1 e2 e3 QG QF hd1 hd2 hAs hAk hbl (A3 hw1 @List.length_map.{0,0} @Nat.mul_one)) ?_;refine ALp.cutP 1 [(3,.sl (B.map byB) (.own 0)),(7,.sl (s.map byB) .ro),(8,(.im (.int .i64 (s.length)))),(9,(.im (.int .i64 ((((m+1:Nat)):Int)))))] [.tip 5 1 B.length] aB ?_;exact hI
  ·have e3: ¬(c.toNat:Int)<32:=by omega
   have e4:(c.toNat:Int)>126:=by omega
   refine wG mX (A8 BY hlt' dI hg e1 e2 e3 e4) ?_;refine wdG mX (A16 BY GDS hlt' dI hg e1 e2 e3 e4 QG QF hd1 hd2 hAs hAk (A4 hbl hw1 @List.length_map.{0,0} @Nat.mul_one)) ?_;refine ALp.cutP 1 [(3,.sl (B.map byB) (.own 0)),(7,.sl (s.map byB) .ro),(8,(.im (.int .i64 (s.length)))),(9,(.im (.int .i64 ((((m+1:Nat)):Int)))))] [.tip 5 1 B.length] aB ?_;exact hI
 rw[if_neg h32]at hB
 have hAs:A.map byB++[V.im (.int .u8 c.toNat)]=B.map byB:=by rw[hB,List.map_append];rfl
 have hAk:A.length+1=B.length:=by rw[hB];simp
 have hbl:B.length≤140737488355328:=by omega
 have e3: ¬(c.toNat:Int)<32:=by omega
 have e4: ¬(c.toNat:Int)>126:=by omega
 clear hA hB
 refine wG mX (A14 BY hlt' dI hg e1 e2 e3 e4 hAs hAk hbl hw1 @List.length_map.{0,0} @Nat.mul_one) ?_
 refine ALp.cutP 1 [(3,.sl (B.map byB) (.own 0)),(7,.sl (s.map byB) .ro),(8,(.im (.int .i64 (s.length)))),(9,(.im (.int .i64 ((((m+1:Nat)):Int)))))] [.tip 5 1 B.length] aB ?_
 exact hI
def yT:=A4 @Gk @sY @Gj @sQ
theorem ZB:PC Tryz.prog 255 [.im (.int .u64 (16))] (.im (.int .i64 (4))):=by
 refine PC.enter 8 Tryz.func255 rfl (by decide) rfl rfl (s:=[(0,.im (.int .u64 (16)))]) (by rfl) ?_
 refine wG yT TI ?_
 refine Jr rfl ?_
 refine wG yT TI ?_
 refine AR.callP UX TI aB ?_
 refine goG yT TI ?_
 refine wG yT TI ?_
 exact aC
theorem VG:PC Tryz.prog 254 [(.im (.int .i64 (16)))] (.im (.bool (true))):=by
 refine PC.enter 8 Tryz.func254 rfl (by decide) rfl rfl (s:=[(0,(.im (.int .i64 (16))))]) (by rfl) ?_
 refine wG TI TI ?_
 exact aC
theorem Ir: ∀(f g n:Nat),n<f→n<g→yC f n=yC g n
 | 0,_,_,h,_=>by omega
 | _,0,_,_,h=>by omega
 | f+1,g+1,n,hf,hg=>by
  rw[yC,yC];split
  ·rfl
  ·rw[Ir f g (n/16) (by omega) (by omega)]
theorem MX{n:Nat}(h:n<16):lP n=[hexD n]:=by
 unfold lP
 rw[yC,if_pos h]
theorem MY{n:Nat}(h: ¬n<16):lP n=lP (n/16)++[hexD (n%16)]:=by
 unfold lP
 rw[yC,if_neg h,Ir n (n/16+1) (n/16) (by omega) (by omega)]
theorem RD(n:Nat)(hn:n<18446744073709551616):IntKind.u64.wrap ↑(BitVec.ofInt IntKind.u64.bits (n:Int)&&&BitVec.ofInt IntKind.u64.bits 15).toNat=((n%16:Nat):Int):=by
 have e:(BitVec.ofInt 64 (n:Int)&&&BitVec.ofInt 64 15).toNat=n%16:=by
  rw[BitVec.toNat_and,BitVec.ofInt_natCast,BitVec.toNat_ofNat,Nat.mod_eq_of_lt (by omega:n<2^64),show(BitVec.ofInt 64 15).toNat=2^4-1 from rfl,Nat.and_two_pow_sub_one_eq_mod]
 show IntKind.u64.wrap ((BitVec.ofInt 64 (n:Int)&&&BitVec.ofInt 64 15).toNat:Int)=_
 rw[e]
 exact IntWalk.u64_in _ (by omega)
theorem LG(n:Nat):((n:Nat):Int).fdiv (2^min 4 IntKind.u64.bits)=((n/16:Nat):Int):=by
 rw[show(2:Int)^min 4 IntKind.u64.bits=16 by decide,Int.fdiv_eq_ediv_of_nonneg _ (by decide)]
 omega
theorem Ot: ∀ {n:Nat},n<16→(48::49::50::51::52::53::54::55::56::57::97::98::99::100::101::102::103::104::105::106::107::108::109::110::111::112::113::114::115::116::117::118::119::120::121::122::[]:Bs)[n]? =some (hexD n):=by
 intro n h
 have: ∀n<16,(48::49::50::51::52::53::54::55::56::57::97::98::99::100::101::102::103::104::105::106::107::108::109::110::111::112::113::114::115::116::117::118::119::120::121::122::[]:Bs)[n]? =some (hexD n):=by decide
 exact this n h
def jY:=A16 @KM @Gs @KK @Gr @lA @rF @Gk @uR @sX @xG @qP @rE @Gj @uP @qO (AI @sP @iB)
set_option maxHeartbeats 2000000 in
theorem OS(n:Nat)(hn:n<4294967296)(b4:Bool)(hb4:b4=false):PC Tryz.prog 209 [.sl [] .nl,.im (.int .u64 ((n:Int))),(.im (.int .i64 (16))),(.im (.bool (false))),(.im (.bool (b4)))] (.tu [.sl [] .nl,.im (.string ⟨(lP n).toArray⟩)]):=by
 have qp:=VG
 have qz:=ZB
 have k16:IntKind.u64.wrap 16=16:=by kernel_rfl
 have k4:IntKind.u64.wrap 4=4:=by kernel_rfl
 have k15:IntKind.u64.wrap 15=15:=by kernel_rfl
 have k36: ¬(16:Int)>36:=by decide
 refine PC.enter 102 Tryz.func209 rfl (by decide) rfl rfl (s:=[(0,.sl [] .nl),(1,.im (.int .u64 ((n:Int)))),(2,(.im (.int .i64 (16)))),(3,(.im (.bool (false)))),(4,(.im (.bool (b4))))]) (by rfl) ?_
 refine wG jY k36 ?_
 refine AR.callP qp TI aB ?_
 refine goG jY TI ?_
 refine wG jY k16 ?_
 refine AR.callP qz TI aB ?_
 refine goG jY TI ?_
 refine wG jY (A3 k16 k4 k15) ?_
 refine aP ?_
 suffices H: ∀(k m:Nat) (Z A:Bs),m=k→m<16^Z.length→m<18446744073709551616→1≤Z.length→Z.length+A.length=65→lP n=lP m++A→ALp _ _ _ _ _ ⟨dn 102 [(1,.im (.int .u64 (((m:Nat):Int)))),(3,(.im (.bool (false)))),(4,(.im (.bool (b4)))),(10,.sl [] .nl),(11,.im (.string ⟨([]).toArray⟩)),(12,.pt 0 0),(13,(.im (.int .i64 ((Z.length:Int))))),(14,.im (.int .u64 (4))),(15,.im (.int .u64 (16))),(16,.im (.int .u64 (15)))],ofl [.box ((Z++A).map byB)]⟩ by
  refine ALp.cutP 1 [(1,.im (.int .u64 ((n:Int)))),(3,(.im (.bool (false)))),(4,(.im (.bool (b4)))),(10,.sl [] .nl),(11,.im (.string ⟨([]).toArray⟩)),(12,.pt 0 0),(13,(.im (.int .i64 (((List.replicate 65 (0:UInt8)).length:Int))))),(14,.im (.int .u64 (4))),(15,.im (.int .u64 (16))),(16,.im (.int .u64 (15)))] [.box (((List.replicate 65 (0:UInt8))++[]).map byB)] aB ?_;exact H n n (List.replicate 65 (0:UInt8)) [] rfl (by rw[List.length_replicate];exact Nat.lt_of_lt_of_le hn (by decide)) (by omega) (by decide) rfl (by simp)
 intro k
 induction k using Nat.strongRecOn with
 | _ k ih =>
 intro m Z A hk hm hm64 hZ hZA hx
 obtain⟨Z',z,rfl⟩: ∃Z' z,Z=Z'++[z]:=⟨Z.dropLast,Z.getLast (fun e=>by rw[e]at hZ;cases hZ),(List.dropLast_concat_getLast _).symm⟩
 rw[List.length_append,List.length_singleton]at hm hZ hZA ⊢
 have hw1:IntKind.i64.wrap (((Z'.length+1:Nat):Int)-1)=(Z'.length:Int):=by rw[cU (by omega)];omega
 have hlt:(Z'.length:Int)<65:=by omega
 have hle:Z'.length≤64:=by omega
 have hle3:Z'.length+1≤Z'.length+1+A.length:=by omega
 have hseg: ∀c:UInt8,List.take Z'.length (List.map byB (Z'++[z]++A))++[V.im (.int .u8 c.toNat)]++List.drop (Z'.length+1) (List.map byB (Z'++[z]++A))=List.map byB (Z'++c::A):=fun c=>by
  rw[←List.map_take,←List.map_drop];simp[byB]
 have hlen:(List.map byB (Z'++[z]++A)).length=65:=by simp;omega
 refine dE ?_
 by_cases h16:m<16
 ·have e1: ¬(m:Int)≥16:=by omega
  have hg:=Ot h16;rw[MX h16]at hx;clear ih;refine wG jY (A11 BY GDS e1 hw1 hg hlen hlt hle hle3 @Nat.mul_one hseg) ?_;refine Xr 0 [(10,.sl [] .nl),(12,.ep (.ag ((Z'++hexD m::A).map byB)) 0),(13,(.im (.int .i64 ((Z'.length:Int))))),(94,(.im (.bool (b4))))] [] ?_ (by simp) (by repeat (first|exact WkFA.nil|refine WkFA.cons (by first|exact .of (Wk.refl _) (by first|rfl|simp only[List.length_cons,List.length_nil,Nat.reduceAdd,V.ids,V.idsL,idsA,entOk,List.all_cons,List.all_nil,Bool.and_self,Bool.and_true,Bool.true_and,ltB,noId,Nat.reduceLT,decide_true,Bool.true_eq_false,bS,bU,bT,bV,aB])|exact Xm rfl rfl (aB _ _)) ?_)) (by repeat (first|exact WkFE.nil|refine WkFE.box (by repeat (first|exact WkFL.nil|refine WkFL.cons (by first|exact .of (Wk.refl _) (by first|rfl|simp only[List.length_cons,List.length_nil,Nat.reduceAdd,V.ids,V.idsL,idsA,entOk,List.all_cons,List.all_nil,Bool.and_self,Bool.and_true,Bool.true_and,ltB,noId,Nat.reduceLT,decide_true,Bool.true_eq_false,bS,bU,bT,bV,aB])|exact Xm rfl rfl (aB _ _)) ?_)) ?_|refine WkFE.same (fun _ e=>by cases e) ?_)) (fun i hi=>by first|exact absurd rfl hi|exact Nat.lt_of_lt_of_le (qG hi) (by simp))
  subst hb4;refine kB rfl rfl ?_;refine wG jY TI ?_;refine CL (e:=5) (n:=65) (m:=Z'.length) (b:=Z'++hexD m::A) ?_ (by omega) (by simp;omega) (by decide)
  rw[List.drop_left,hx,List.singleton_append];generalize hexD m::A=B;have hb:=nG B;refine goG jY hb ?_;refine wG jY hb ?_;refine aG (rs:=[.tmp 10,.tmp 11]) rfl (by first|exact .inl rfl|exact .inr rfl) (finG jY) ?_
  all_goals exact wkG aB
 ·have e1:(m:Int)≥16:=by omega
  have hg:=Ot (show m%16<16 by omega)
  have h15:=RD m hm64;have hs4:=LG m;rw[MY h16,List.append_assoc]at hx
  have hI:=ih (m/16) (by omega) (m/16) Z' (hexD (m%16)::A) rfl (by rw[Nat.pow_succ]at hm;omega) (by omega) (by
   rcases Nat.eq_zero_or_pos Z'.length with h0|h0
   ·rw[h0]at hm;omega
   ·exact h0) (by rw[List.length_cons];omega) hx
  clear ih;refine wdG jY (A13 BY GDS e1 hw1 hg h15 hs4 hlen hlt hle hle3 @Nat.mul_one hseg) ?_;refine ALp.cutP 1 [(1,.im (.int .u64 (((m/16:Nat):Int)))),(3,(.im (.bool (false)))),(4,(.im (.bool (b4)))),(10,.sl [] .nl),(11,.im (.string ⟨([]).toArray⟩)),(12,.pt 0 0),(13,(.im (.int .i64 ((Z'.length:Int))))),(14,.im (.int .u64 (4))),(15,.im (.int .u64 (16))),(16,.im (.int .u64 (15)))] [.box ((Z'++hexD (m%16)::A).map byB)] aB ?_;exact hI
theorem VL(n:Nat)(hn:n<4294967296):PC Tryz.prog 209 [.sl [] .nl,.im (.int .u64 ((n:Int))),(.im (.int .i64 (16))),(.im (.bool (false))),(.im (.bool (false)))] (.tu [.sl [] .nl,.im (.string ⟨(lP n).toArray⟩)]):=OS n hn false rfl
def Gf:=A11 @KN @lA @rF @uR @sX @xG @rE @uP @qO @sP @iB
theorem VK(n:Nat)(hn:n<4294967296):PC Tryz.prog 152 [.im (.int .u64 ((n:Int))),(.im (.int .i64 (16)))] (.im (.string ⟨(lP n).toArray⟩)):=by
 have q:=VL n hn
 refine PC.enter 32 Tryz.func152 rfl (by decide) rfl rfl (s:=[(0,.im (.int .u64 ((n:Int)))),(1,(.im (.int .i64 (16))))]) (by rfl) ?_
 refine wG Gf TI ?_
 refine AR.callP q TI aB ?_
 refine goG Gf TI ?_
 refine wG Gf TI ?_
 exact aC
theorem YH(n:Nat)(hn:n<4294967296):PC Tryz.prog 85 [.im (.int .u64 ((n:Int))),(.im (.int .i64 (16)))] (.im (.string ⟨(lP n).toArray⟩)):=by
 have q:=VK n hn
 refine PC.enter 8 Tryz.func85 rfl (by decide) rfl rfl (s:=[(0,.im (.int .u64 ((n:Int)))),(1,(.im (.int .i64 (16))))]) (by rfl) ?_
 refine wG TI TI ?_
 refine AR.callP q TI aB ?_
 refine goG TI TI ?_
 refine wG TI TI ?_
 exact aC
theorem bC(p:Nat→Bool)(l:List Bs):V.idsL p (l.map sV)=true:=gB (fun _=>rfl) l
theorem fF(g:Nat→Nat)(l:List Bs):V.renL g (l.map sV)=l.map sV:=V.renL_id g _ (bC _ l)
theorem BF(l:List Bs)(r:Bs)(hr:l.flatten=r)(hN:l.length≤4194304)(hlen:r.length≤140737488355328):PC Tryz.prog 83 [.sl (l.map sV) .ro] (.im (.string ⟨(r).toArray⟩)):=by
 have q:=OP l (by omega) (by rw[hr];exact hlen)
 rw[hr]at q
 refine PC.enter 5 Tryz.func83 rfl (by decide) rfl rfl (s:=[(0,.sl (l.map sV) .ro)]) (by rfl) ?_
 refine wG TI TI ?_
 refine AR.callP q TI (A4 aB @aD @aE bC) ?_
 refine goG TI TI ?_
 refine wG TI TI ?_
 exact aC
theorem JA(a b r:Bs)(hr:a++b=r)(hlen:r.length≤140737488355328):PC Tryz.prog 83 [.sl [.im (.string ⟨(a).toArray⟩),.im (.string ⟨(b).toArray⟩)] .ro] (.im (.string ⟨(r).toArray⟩)):=BF [a,b] r (by simpa using hr) (by simp) hlen
theorem IZ(a b c r:Bs)(hr:a++(b++c)=r)(hlen:r.length≤140737488355328):PC Tryz.prog 83 [.sl [.im (.string ⟨(a).toArray⟩),.im (.string ⟨(b).toArray⟩),.im (.string ⟨(c).toArray⟩)] .ro] (.im (.string ⟨(r).toArray⟩)):=BF [a,b,c] r (by simpa using hr) (by simp) hlen
theorem VI(a b c d e r:Bs)(hr:a++(b++(c++(d++e)))=r)(hlen:r.length≤140737488355328):PC Tryz.prog 83 [.sl [.im (.string ⟨(a).toArray⟩),.im (.string ⟨(b).toArray⟩),.im (.string ⟨(c).toArray⟩),.im (.string ⟨(d).toArray⟩),.im (.string ⟨(e).toArray⟩)] .ro] (.im (.string ⟨(r).toArray⟩)):=BF [a,b,c,d,e] r (by simpa using hr) (by simp) hlen
def Gd:=A7 @mB @jE @rF @sY @dC @rE @sQ
theorem Jf(n:Nat)(hn:n<4294967296):PC Tryz.prog 37 [.im (.int .u32 ((n:Int)))] (.im (.string ⟨(48::120::lP n).toArray⟩)):=by
 have hl:(48::120::lP n).length≤140737488355328:=by
  have:=rD 7 (n+1) n (by omega) (by omega)
  unfold lP;simp only[List.length_cons];omega
 have q1:=YH n hn
 have q2:=JA [48,120] (lP n) _ rfl hl
 have hw:IntKind.u64.wrap (n:Int)=n:=IntWalk.u64_in _ (by omega)
 refine PC.enter 8 Tryz.func37 rfl (by decide) rfl rfl (s:=[(0,.im (.int .u32 ((n:Int))))]) (by rfl) ?_
 refine wG Gd hw ?_
 refine AR.callP q1 TI (A4 aB @aD @aE bC) ?_
 refine goG Gd TI ?_
 refine wG Gd TI ?_
 refine dH q2 TI (A4 aB @aD @aE bC) ?_
 refine goG Gd TI ?_
 refine wG Gd TI ?_
 exact aC
def bQ:=A7 @KT @Re @KP @KL @KE @Qv @KB
theorem s93:qC Tryz.prog 244=none:=by kernel_rfl
theorem BW:PC Tryz.prog 143 [(.im (.int .i64 (3)))] (.ag [.im (.string ⟨([43]).toArray⟩),(.im (.int .i64 (7)))]):=by
 have hw:IntKind.i64.wrap 0=0:=by kernel_rfl
 refine PC.enter 22 Tryz.func143 rfl (by decide) rfl rfl (s:=[(0,(.im (.int .i64 (3))))]) (by rfl) ?_
 refine wG bQ s93 ?_
 refine gW (n:=13) (e:=198) (z:=2) (cs:=(List.replicate 13 [.im (.string ByteArray.empty),(.im (.int .i64 (0)))]).flatten) (cs':=[.im (.string ⟨([43]).toArray⟩),(.im (.int .i64 (7))),.im (.string ⟨([45]).toArray⟩),(.im (.int .i64 (7))),.im (.string ⟨([42]).toArray⟩),(.im (.int .i64 (8))),.im (.string ⟨([38]).toArray⟩),(.im (.int .i64 (3))),.im (.string ⟨([124]).toArray⟩),(.im (.int .i64 (1))),.im (.string ⟨([94]).toArray⟩),(.im (.int .i64 (2))),.im (.string ⟨([60,60]).toArray⟩),(.im (.int .i64 (6))),.im (.string ⟨([62,62]).toArray⟩),(.im (.int .i64 (6))),.im (.string ⟨([62,62,115]).toArray⟩),(.im (.int .i64 (6))),.im (.string ⟨([61,61]).toArray⟩),(.im (.int .i64 (4))),.im (.string ⟨([33,61]).toArray⟩),(.im (.int .i64 (4))),.im (.string ⟨([60,115]).toArray⟩),(.im (.int .i64 (5))),.im (.string ⟨([60]).toArray⟩),(.im (.int .i64 (5)))]) ?_
 refine goG bQ TI ?_
 refine wG bQ hw ?_
 refine aG (rs:=[.cell 2 198]) rfl (by first|exact .inl rfl|exact .inr rfl) (finG bQ) ?_
 all_goals exact wkG (A4 aB @aD @aE bC)
theorem BV:PC Tryz.prog 143 [(.im (.int .i64 (4)))] (.ag [.im (.string ⟨([45]).toArray⟩),(.im (.int .i64 (7)))]):=by
 have hw:IntKind.i64.wrap 1=1:=by kernel_rfl
 refine PC.enter 22 Tryz.func143 rfl (by decide) rfl rfl (s:=[(0,(.im (.int .i64 (4))))]) (by rfl) ?_
 refine wG bQ s93 ?_
 refine gW (n:=13) (e:=198) (z:=2) (cs:=(List.replicate 13 [.im (.string ByteArray.empty),(.im (.int .i64 (0)))]).flatten) (cs':=[.im (.string ⟨([43]).toArray⟩),(.im (.int .i64 (7))),.im (.string ⟨([45]).toArray⟩),(.im (.int .i64 (7))),.im (.string ⟨([42]).toArray⟩),(.im (.int .i64 (8))),.im (.string ⟨([38]).toArray⟩),(.im (.int .i64 (3))),.im (.string ⟨([124]).toArray⟩),(.im (.int .i64 (1))),.im (.string ⟨([94]).toArray⟩),(.im (.int .i64 (2))),.im (.string ⟨([60,60]).toArray⟩),(.im (.int .i64 (6))),.im (.string ⟨([62,62]).toArray⟩),(.im (.int .i64 (6))),.im (.string ⟨([62,62,115]).toArray⟩),(.im (.int .i64 (6))),.im (.string ⟨([61,61]).toArray⟩),(.im (.int .i64 (4))),.im (.string ⟨([33,61]).toArray⟩),(.im (.int .i64 (4))),.im (.string ⟨([60,115]).toArray⟩),(.im (.int .i64 (5))),.im (.string ⟨([60]).toArray⟩),(.im (.int .i64 (5)))]) ?_
 refine goG bQ TI ?_
 refine wG bQ hw ?_
 refine aG (rs:=[.cell 2 198]) rfl (by first|exact .inl rfl|exact .inr rfl) (finG bQ) ?_
 all_goals exact wkG (A4 aB @aD @aE bC)
theorem BU:PC Tryz.prog 143 [(.im (.int .i64 (5)))] (.ag [.im (.string ⟨([42]).toArray⟩),(.im (.int .i64 (8)))]):=by
 have hw:IntKind.i64.wrap 2=2:=by kernel_rfl
 refine PC.enter 22 Tryz.func143 rfl (by decide) rfl rfl (s:=[(0,(.im (.int .i64 (5))))]) (by rfl) ?_
 refine wG bQ s93 ?_
 refine gW (n:=13) (e:=198) (z:=2) (cs:=(List.replicate 13 [.im (.string ByteArray.empty),(.im (.int .i64 (0)))]).flatten) (cs':=[.im (.string ⟨([43]).toArray⟩),(.im (.int .i64 (7))),.im (.string ⟨([45]).toArray⟩),(.im (.int .i64 (7))),.im (.string ⟨([42]).toArray⟩),(.im (.int .i64 (8))),.im (.string ⟨([38]).toArray⟩),(.im (.int .i64 (3))),.im (.string ⟨([124]).toArray⟩),(.im (.int .i64 (1))),.im (.string ⟨([94]).toArray⟩),(.im (.int .i64 (2))),.im (.string ⟨([60,60]).toArray⟩),(.im (.int .i64 (6))),.im (.string ⟨([62,62]).toArray⟩),(.im (.int .i64 (6))),.im (.string ⟨([62,62,115]).toArray⟩),(.im (.int .i64 (6))),.im (.string ⟨([61,61]).toArray⟩),(.im (.int .i64 (4))),.im (.string ⟨([33,61]).toArray⟩),(.im (.int .i64 (4))),.im (.string ⟨([60,115]).toArray⟩),(.im (.int .i64 (5))),.im (.string ⟨([60]).toArray⟩),(.im (.int .i64 (5)))]) ?_
 refine goG bQ TI ?_
 refine wG bQ hw ?_
 refine aG (rs:=[.cell 2 198]) rfl (by first|exact .inl rfl|exact .inr rfl) (finG bQ) ?_
 all_goals exact wkG (A4 aB @aD @aE bC)
theorem BT:PC Tryz.prog 143 [(.im (.int .i64 (6)))] (.ag [.im (.string ⟨([38]).toArray⟩),(.im (.int .i64 (3)))]):=by
 have hw:IntKind.i64.wrap 3=3:=by kernel_rfl
 refine PC.enter 22 Tryz.func143 rfl (by decide) rfl rfl (s:=[(0,(.im (.int .i64 (6))))]) (by rfl) ?_
 refine wG bQ s93 ?_
 refine gW (n:=13) (e:=198) (z:=2) (cs:=(List.replicate 13 [.im (.string ByteArray.empty),(.im (.int .i64 (0)))]).flatten) (cs':=[.im (.string ⟨([43]).toArray⟩),(.im (.int .i64 (7))),.im (.string ⟨([45]).toArray⟩),(.im (.int .i64 (7))),.im (.string ⟨([42]).toArray⟩),(.im (.int .i64 (8))),.im (.string ⟨([38]).toArray⟩),(.im (.int .i64 (3))),.im (.string ⟨([124]).toArray⟩),(.im (.int .i64 (1))),.im (.string ⟨([94]).toArray⟩),(.im (.int .i64 (2))),.im (.string ⟨([60,60]).toArray⟩),(.im (.int .i64 (6))),.im (.string ⟨([62,62]).toArray⟩),(.im (.int .i64 (6))),.im (.string ⟨([62,62,115]).toArray⟩),(.im (.int .i64 (6))),.im (.string ⟨([61,61]).toArray⟩),(.im (.int .i64 (4))),.im (.string ⟨([33,61]).toArray⟩),(.im (.int .i64 (4))),.im (.string ⟨([60,115]).toArray⟩),(.im (.int .i64 (5))),.im (.string ⟨([60]).toArray⟩),(.im (.int .i64 (5)))]) ?_
 refine goG bQ TI ?_
 refine wG bQ hw ?_
 refine aG (rs:=[.cell 2 198]) rfl (by first|exact .inl rfl|exact .inr rfl) (finG bQ) ?_
 all_goals exact wkG (A4 aB @aD @aE bC)
theorem BS:PC Tryz.prog 143 [(.im (.int .i64 (7)))] (.ag [.im (.string ⟨([124]).toArray⟩),(.im (.int .i64 (1)))]):=by
 have hw:IntKind.i64.wrap 4=4:=by kernel_rfl
 refine PC.enter 22 Tryz.func143 rfl (by decide) rfl rfl (s:=[(0,(.im (.int .i64 (7))))]) (by rfl) ?_
 refine wG bQ s93 ?_
 refine gW (n:=13) (e:=198) (z:=2) (cs:=(List.replicate 13 [.im (.string ByteArray.empty),(.im (.int .i64 (0)))]).flatten) (cs':=[.im (.string ⟨([43]).toArray⟩),(.im (.int .i64 (7))),.im (.string ⟨([45]).toArray⟩),(.im (.int .i64 (7))),.im (.string ⟨([42]).toArray⟩),(.im (.int .i64 (8))),.im (.string ⟨([38]).toArray⟩),(.im (.int .i64 (3))),.im (.string ⟨([124]).toArray⟩),(.im (.int .i64 (1))),.im (.string ⟨([94]).toArray⟩),(.im (.int .i64 (2))),.im (.string ⟨([60,60]).toArray⟩),(.im (.int .i64 (6))),.im (.string ⟨([62,62]).toArray⟩),(.im (.int .i64 (6))),.im (.string ⟨([62,62,115]).toArray⟩),(.im (.int .i64 (6))),.im (.string ⟨([61,61]).toArray⟩),(.im (.int .i64 (4))),.im (.string ⟨([33,61]).toArray⟩),(.im (.int .i64 (4))),.im (.string ⟨([60,115]).toArray⟩),(.im (.int .i64 (5))),.im (.string ⟨([60]).toArray⟩),(.im (.int .i64 (5)))]) ?_
 refine goG bQ TI ?_
 refine wG bQ hw ?_
 refine aG (rs:=[.cell 2 198]) rfl (by first|exact .inl rfl|exact .inr rfl) (finG bQ) ?_
 all_goals exact wkG (A4 aB @aD @aE bC)
theorem BR:PC Tryz.prog 143 [(.im (.int .i64 (8)))] (.ag [.im (.string ⟨([94]).toArray⟩),(.im (.int .i64 (2)))]):=by
 have hw:IntKind.i64.wrap 5=5:=by kernel_rfl
 refine PC.enter 22 Tryz.func143 rfl (by decide) rfl rfl (s:=[(0,(.im (.int .i64 (8))))]) (by rfl) ?_
 refine wG bQ s93 ?_
 refine gW (n:=13) (e:=198) (z:=2) (cs:=(List.replicate 13 [.im (.string ByteArray.empty),(.im (.int .i64 (0)))]).flatten) (cs':=[.im (.string ⟨([43]).toArray⟩),(.im (.int .i64 (7))),.im (.string ⟨([45]).toArray⟩),(.im (.int .i64 (7))),.im (.string ⟨([42]).toArray⟩),(.im (.int .i64 (8))),.im (.string ⟨([38]).toArray⟩),(.im (.int .i64 (3))),.im (.string ⟨([124]).toArray⟩),(.im (.int .i64 (1))),.im (.string ⟨([94]).toArray⟩),(.im (.int .i64 (2))),.im (.string ⟨([60,60]).toArray⟩),(.im (.int .i64 (6))),.im (.string ⟨([62,62]).toArray⟩),(.im (.int .i64 (6))),.im (.string ⟨([62,62,115]).toArray⟩),(.im (.int .i64 (6))),.im (.string ⟨([61,61]).toArray⟩),(.im (.int .i64 (4))),.im (.string ⟨([33,61]).toArray⟩),(.im (.int .i64 (4))),.im (.string ⟨([60,115]).toArray⟩),(.im (.int .i64 (5))),.im (.string ⟨([60]).toArray⟩),(.im (.int .i64 (5)))]) ?_
 refine goG bQ TI ?_
 refine wG bQ hw ?_
 refine aG (rs:=[.cell 2 198]) rfl (by first|exact .inl rfl|exact .inr rfl) (finG bQ) ?_
 all_goals exact wkG (A4 aB @aD @aE bC)
theorem BQ:PC Tryz.prog 143 [(.im (.int .i64 (9)))] (.ag [.im (.string ⟨([60,60]).toArray⟩),(.im (.int .i64 (6)))]):=by
 have hw:IntKind.i64.wrap 6=6:=by kernel_rfl
 refine PC.enter 22 Tryz.func143 rfl (by decide) rfl rfl (s:=[(0,(.im (.int .i64 (9))))]) (by rfl) ?_
 refine wG bQ s93 ?_
 refine gW (n:=13) (e:=198) (z:=2) (cs:=(List.replicate 13 [.im (.string ByteArray.empty),(.im (.int .i64 (0)))]).flatten) (cs':=[.im (.string ⟨([43]).toArray⟩),(.im (.int .i64 (7))),.im (.string ⟨([45]).toArray⟩),(.im (.int .i64 (7))),.im (.string ⟨([42]).toArray⟩),(.im (.int .i64 (8))),.im (.string ⟨([38]).toArray⟩),(.im (.int .i64 (3))),.im (.string ⟨([124]).toArray⟩),(.im (.int .i64 (1))),.im (.string ⟨([94]).toArray⟩),(.im (.int .i64 (2))),.im (.string ⟨([60,60]).toArray⟩),(.im (.int .i64 (6))),.im (.string ⟨([62,62]).toArray⟩),(.im (.int .i64 (6))),.im (.string ⟨([62,62,115]).toArray⟩),(.im (.int .i64 (6))),.im (.string ⟨([61,61]).toArray⟩),(.im (.int .i64 (4))),.im (.string ⟨([33,61]).toArray⟩),(.im (.int .i64 (4))),.im (.string ⟨([60,115]).toArray⟩),(.im (.int .i64 (5))),.im (.string ⟨([60]).toArray⟩),(.im (.int .i64 (5)))]) ?_
 refine goG bQ TI ?_
 refine wG bQ hw ?_
 refine aG (rs:=[.cell 2 198]) rfl (by first|exact .inl rfl|exact .inr rfl) (finG bQ) ?_
 all_goals exact wkG (A4 aB @aD @aE bC)
theorem Tx:PC Tryz.prog 143 [(.im (.int .i64 (10)))] (.ag [.im (.string ⟨([62,62]).toArray⟩),(.im (.int .i64 (6)))]):=by
 have hw:IntKind.i64.wrap 7=7:=by kernel_rfl
 refine PC.enter 22 Tryz.func143 rfl (by decide) rfl rfl (s:=[(0,(.im (.int .i64 (10))))]) (by rfl) ?_
 refine wG bQ s93 ?_
 refine gW (n:=13) (e:=198) (z:=2) (cs:=(List.replicate 13 [.im (.string ByteArray.empty),(.im (.int .i64 (0)))]).flatten) (cs':=[.im (.string ⟨([43]).toArray⟩),(.im (.int .i64 (7))),.im (.string ⟨([45]).toArray⟩),(.im (.int .i64 (7))),.im (.string ⟨([42]).toArray⟩),(.im (.int .i64 (8))),.im (.string ⟨([38]).toArray⟩),(.im (.int .i64 (3))),.im (.string ⟨([124]).toArray⟩),(.im (.int .i64 (1))),.im (.string ⟨([94]).toArray⟩),(.im (.int .i64 (2))),.im (.string ⟨([60,60]).toArray⟩),(.im (.int .i64 (6))),.im (.string ⟨([62,62]).toArray⟩),(.im (.int .i64 (6))),.im (.string ⟨([62,62,115]).toArray⟩),(.im (.int .i64 (6))),.im (.string ⟨([61,61]).toArray⟩),(.im (.int .i64 (4))),.im (.string ⟨([33,61]).toArray⟩),(.im (.int .i64 (4))),.im (.string ⟨([60,115]).toArray⟩),(.im (.int .i64 (5))),.im (.string ⟨([60]).toArray⟩),(.im (.int .i64 (5)))]) ?_
 refine goG bQ TI ?_
 refine wG bQ hw ?_
 refine aG (rs:=[.cell 2 198]) rfl (by first|exact .inl rfl|exact .inr rfl) (finG bQ) ?_
 all_goals exact wkG (A4 aB @aD @aE bC)
theorem Tw:PC Tryz.prog 143 [(.im (.int .i64 (11)))] (.ag [.im (.string ⟨([62,62,115]).toArray⟩),(.im (.int .i64 (6)))]):=by
 have hw:IntKind.i64.wrap 8=8:=by kernel_rfl
 refine PC.enter 22 Tryz.func143 rfl (by decide) rfl rfl (s:=[(0,(.im (.int .i64 (11))))]) (by rfl) ?_
 refine wG bQ s93 ?_
 refine gW (n:=13) (e:=198) (z:=2) (cs:=(List.replicate 13 [.im (.string ByteArray.empty),(.im (.int .i64 (0)))]).flatten) (cs':=[.im (.string ⟨([43]).toArray⟩),(.im (.int .i64 (7))),.im (.string ⟨([45]).toArray⟩),(.im (.int .i64 (7))),.im (.string ⟨([42]).toArray⟩),(.im (.int .i64 (8))),.im (.string ⟨([38]).toArray⟩),(.im (.int .i64 (3))),.im (.string ⟨([124]).toArray⟩),(.im (.int .i64 (1))),.im (.string ⟨([94]).toArray⟩),(.im (.int .i64 (2))),.im (.string ⟨([60,60]).toArray⟩),(.im (.int .i64 (6))),.im (.string ⟨([62,62]).toArray⟩),(.im (.int .i64 (6))),.im (.string ⟨([62,62,115]).toArray⟩),(.im (.int .i64 (6))),.im (.string ⟨([61,61]).toArray⟩),(.im (.int .i64 (4))),.im (.string ⟨([33,61]).toArray⟩),(.im (.int .i64 (4))),.im (.string ⟨([60,115]).toArray⟩),(.im (.int .i64 (5))),.im (.string ⟨([60]).toArray⟩),(.im (.int .i64 (5)))]) ?_
 refine goG bQ TI ?_
 refine wG bQ hw ?_
 refine aG (rs:=[.cell 2 198]) rfl (by first|exact .inl rfl|exact .inr rfl) (finG bQ) ?_
 all_goals exact wkG (A4 aB @aD @aE bC)
theorem Tv:PC Tryz.prog 143 [(.im (.int .i64 (12)))] (.ag [.im (.string ⟨([61,61]).toArray⟩),(.im (.int .i64 (4)))]):=by
 have hw:IntKind.i64.wrap 9=9:=by kernel_rfl
 refine PC.enter 22 Tryz.func143 rfl (by decide) rfl rfl (s:=[(0,(.im (.int .i64 (12))))]) (by rfl) ?_
 refine wG bQ s93 ?_
 refine gW (n:=13) (e:=198) (z:=2) (cs:=(List.replicate 13 [.im (.string ByteArray.empty),(.im (.int .i64 (0)))]).flatten) (cs':=[.im (.string ⟨([43]).toArray⟩),(.im (.int .i64 (7))),.im (.string ⟨([45]).toArray⟩),(.im (.int .i64 (7))),.im (.string ⟨([42]).toArray⟩),(.im (.int .i64 (8))),.im (.string ⟨([38]).toArray⟩),(.im (.int .i64 (3))),.im (.string ⟨([124]).toArray⟩),(.im (.int .i64 (1))),.im (.string ⟨([94]).toArray⟩),(.im (.int .i64 (2))),.im (.string ⟨([60,60]).toArray⟩),(.im (.int .i64 (6))),.im (.string ⟨([62,62]).toArray⟩),(.im (.int .i64 (6))),.im (.string ⟨([62,62,115]).toArray⟩),(.im (.int .i64 (6))),.im (.string ⟨([61,61]).toArray⟩),(.im (.int .i64 (4))),.im (.string ⟨([33,61]).toArray⟩),(.im (.int .i64 (4))),.im (.string ⟨([60,115]).toArray⟩),(.im (.int .i64 (5))),.im (.string ⟨([60]).toArray⟩),(.im (.int .i64 (5)))]) ?_
 refine goG bQ TI ?_
 refine wG bQ hw ?_
 refine aG (rs:=[.cell 2 198]) rfl (by first|exact .inl rfl|exact .inr rfl) (finG bQ) ?_
 all_goals exact wkG (A4 aB @aD @aE bC)
theorem Tu:PC Tryz.prog 143 [(.im (.int .i64 (13)))] (.ag [.im (.string ⟨([33,61]).toArray⟩),(.im (.int .i64 (4)))]):=by
 have hw:IntKind.i64.wrap 10=10:=by kernel_rfl
 refine PC.enter 22 Tryz.func143 rfl (by decide) rfl rfl (s:=[(0,(.im (.int .i64 (13))))]) (by rfl) ?_
 refine wG bQ s93 ?_
 refine gW (n:=13) (e:=198) (z:=2) (cs:=(List.replicate 13 [.im (.string ByteArray.empty),(.im (.int .i64 (0)))]).flatten) (cs':=[.im (.string ⟨([43]).toArray⟩),(.im (.int .i64 (7))),.im (.string ⟨([45]).toArray⟩),(.im (.int .i64 (7))),.im (.string ⟨([42]).toArray⟩),(.im (.int .i64 (8))),.im (.string ⟨([38]).toArray⟩),(.im (.int .i64 (3))),.im (.string ⟨([124]).toArray⟩),(.im (.int .i64 (1))),.im (.string ⟨([94]).toArray⟩),(.im (.int .i64 (2))),.im (.string ⟨([60,60]).toArray⟩),(.im (.int .i64 (6))),.im (.string ⟨([62,62]).toArray⟩),(.im (.int .i64 (6))),.im (.string ⟨([62,62,115]).toArray⟩),(.im (.int .i64 (6))),.im (.string ⟨([61,61]).toArray⟩),(.im (.int .i64 (4))),.im (.string ⟨([33,61]).toArray⟩),(.im (.int .i64 (4))),.im (.string ⟨([60,115]).toArray⟩),(.im (.int .i64 (5))),.im (.string ⟨([60]).toArray⟩),(.im (.int .i64 (5)))]) ?_
 refine goG bQ TI ?_
 refine wG bQ hw ?_
 refine aG (rs:=[.cell 2 198]) rfl (by first|exact .inl rfl|exact .inr rfl) (finG bQ) ?_
 all_goals exact wkG (A4 aB @aD @aE bC)
theorem Tt:PC Tryz.prog 143 [(.im (.int .i64 (14)))] (.ag [.im (.string ⟨([60,115]).toArray⟩),(.im (.int .i64 (5)))]):=by
 have hw:IntKind.i64.wrap 11=11:=by kernel_rfl
 refine PC.enter 22 Tryz.func143 rfl (by decide) rfl rfl (s:=[(0,(.im (.int .i64 (14))))]) (by rfl) ?_
 refine wG bQ s93 ?_
 refine gW (n:=13) (e:=198) (z:=2) (cs:=(List.replicate 13 [.im (.string ByteArray.empty),(.im (.int .i64 (0)))]).flatten) (cs':=[.im (.string ⟨([43]).toArray⟩),(.im (.int .i64 (7))),.im (.string ⟨([45]).toArray⟩),(.im (.int .i64 (7))),.im (.string ⟨([42]).toArray⟩),(.im (.int .i64 (8))),.im (.string ⟨([38]).toArray⟩),(.im (.int .i64 (3))),.im (.string ⟨([124]).toArray⟩),(.im (.int .i64 (1))),.im (.string ⟨([94]).toArray⟩),(.im (.int .i64 (2))),.im (.string ⟨([60,60]).toArray⟩),(.im (.int .i64 (6))),.im (.string ⟨([62,62]).toArray⟩),(.im (.int .i64 (6))),.im (.string ⟨([62,62,115]).toArray⟩),(.im (.int .i64 (6))),.im (.string ⟨([61,61]).toArray⟩),(.im (.int .i64 (4))),.im (.string ⟨([33,61]).toArray⟩),(.im (.int .i64 (4))),.im (.string ⟨([60,115]).toArray⟩),(.im (.int .i64 (5))),.im (.string ⟨([60]).toArray⟩),(.im (.int .i64 (5)))]) ?_
 refine goG bQ TI ?_
 refine wG bQ hw ?_
 refine aG (rs:=[.cell 2 198]) rfl (by first|exact .inl rfl|exact .inr rfl) (finG bQ) ?_
 all_goals exact wkG (A4 aB @aD @aE bC)
theorem Ts:PC Tryz.prog 143 [(.im (.int .i64 (15)))] (.ag [.im (.string ⟨([60]).toArray⟩),(.im (.int .i64 (5)))]):=by
 have hw:IntKind.i64.wrap 12=12:=by kernel_rfl
 refine PC.enter 22 Tryz.func143 rfl (by decide) rfl rfl (s:=[(0,(.im (.int .i64 (15))))]) (by rfl) ?_
 refine wG bQ s93 ?_
 refine gW (n:=13) (e:=198) (z:=2) (cs:=(List.replicate 13 [.im (.string ByteArray.empty),(.im (.int .i64 (0)))]).flatten) (cs':=[.im (.string ⟨([43]).toArray⟩),(.im (.int .i64 (7))),.im (.string ⟨([45]).toArray⟩),(.im (.int .i64 (7))),.im (.string ⟨([42]).toArray⟩),(.im (.int .i64 (8))),.im (.string ⟨([38]).toArray⟩),(.im (.int .i64 (3))),.im (.string ⟨([124]).toArray⟩),(.im (.int .i64 (1))),.im (.string ⟨([94]).toArray⟩),(.im (.int .i64 (2))),.im (.string ⟨([60,60]).toArray⟩),(.im (.int .i64 (6))),.im (.string ⟨([62,62]).toArray⟩),(.im (.int .i64 (6))),.im (.string ⟨([62,62,115]).toArray⟩),(.im (.int .i64 (6))),.im (.string ⟨([61,61]).toArray⟩),(.im (.int .i64 (4))),.im (.string ⟨([33,61]).toArray⟩),(.im (.int .i64 (4))),.im (.string ⟨([60,115]).toArray⟩),(.im (.int .i64 (5))),.im (.string ⟨([60]).toArray⟩),(.im (.int .i64 (5)))]) ?_
 refine goG bQ TI ?_
 refine wG bQ hw ?_
 refine aG (rs:=[.cell 2 198]) rfl (by first|exact .inl rfl|exact .inr rfl) (finG bQ) ?_
 all_goals exact wkG (A4 aB @aD @aE bC)
theorem Qg(o:Int)(ho:3≤o∧o≤15):PC Tryz.prog 143 [(.im (.int .i64 (o)))] (.ag [.im (.string ⟨(nP o).toArray⟩),(.im (.int .i64 ((stO o:Int))))]):=by
 have:o=3∨o=4∨o=5∨o=6∨o=7∨o=8∨o=9∨o=10∨o=11∨o=12∨o=13∨o=14∨o=15:=by omega
 rcases this with rfl|rfl|rfl|rfl|rfl|rfl|rfl|rfl|rfl|rfl|rfl|rfl|rfl
 ·exact BW
 ·exact BV
 ·exact BU
 ·exact BT
 ·exact BS
 ·exact BR
 ·exact BQ
 ·exact Tx
 ·exact Tw
 ·exact Tv
 ·exact Tu
 ·exact Tt
 ·exact Ts
def sM:=A4 @cO @Gl @oG @cN
theorem Tg(o n:Int)(s:ByteArray)(w:Int)(l:List Ex):PC Tryz.prog 199 [exV (.mk o n s w l)] (.im (.int .i64 ((strE o:Int)))):=by
 refine PC.enter 23 Tryz.func199 rfl (by decide) rfl rfl (s:=[(0,exV (.mk o n s w l))]) (by rfl) ?_
 simp only[gR]
 by_cases h1:3≤o∧o≤15
 ·have q:=Qg o h1
  have e1:o≥3:=h1.1;have e2:o≤15:=h1.2;rw[show strE o=stO o from if_pos h1]
  refine wG sM (AI e1 e2) ?_;refine AR.callP q TI (A4 aB @aD @aE bC) ?_;refine goG sM TI ?_;refine wG sM TI ?_;exact aC
 have hs:strE o=if o=16∨o=17 then 9 else 10:=if_neg h1
 have hb:(decide (o≥3)&&decide (o≤15))=false:=by simp;omega
 rw[hs]
 by_cases h3:o=16
 ·subst h3
  refine wG sM TI ?_;exact aC
 by_cases h4:o=17
 ·subst h4
  refine wG sM TI ?_;exact aC
 rw[if_neg (by omega)]
 by_cases e1:o≥3
 ·have e2: ¬o≤15:=by omega
  refine wG sM (A4 e1 e2 h3 h4) ?_;exact aC
 ·refine wG sM (A3 e1 h3 h4) ?_
  exact aC
def scnR(s:Bs):List Tk×Int:=if 65536<s.length then([],6)else((Si s).1,if(Si s).2 then 0 else 3)
def fK:=A16 @pA @cO @Db @dT @Rh @kA @Rc @pV @mP @xM @xL @Gq @xK @xJ @Qy (A6 @uQ @gZ @cN @Cu @dC @iB)
set_option maxHeartbeats 2000000 in
theorem Ub(s:Bs)(hs:s.length≤4194304):PC Tryz.prog 28 [.im (.string ⟨(s).toArray⟩)] (.tu [.sl ((scnR s).1.map tkV) .ro,.im (.int .i64 (scnR s).2)]):=by
 by_cases hbig:65536<s.length
 ·have hb:(s.length:Int)>65536:=by omega
  rw[show scnR s=([],6)from if_pos hbig]
  refine PC.enter 73 Tryz.func28 rfl (by decide) rfl rfl (s:=[(0,.im (.string ⟨(s).toArray⟩))]) (by rfl) ?_
  refine wG fK (A3 BY dI hb) ?_;refine aG (rs:=[.tmp 2,.tmp 3]) rfl (by first|exact .inl rfl|exact .inr rfl) (finG fK) ?_
  all_goals exact wkG (A3 bD aX aB)
 have hb: ¬(s.length:Int)>65536:=by omega
 rw[show scnR s=((Si s).1,if(Si s).2 then 0 else 3)from if_neg hbig]
 refine PC.enter 73 Tryz.func28 rfl (by decide) rfl rfl (s:=[(0,.im (.string ⟨(s).toArray⟩))]) (by rfl) ?_
 refine AWp.seq ?_
 refine AWp.tail (fun _:Unit=>⟨dn 73 [(0,.im (.string ⟨(s).toArray⟩)),(2,.sl [] .nl),(3,.im (.int .i64 0))],ofl []⟩) (fun _=> ?_) (fun rest ht=> ?_)
 case refine_2 =>
  refine wG fK TI ?_;refine AWp.cutP 0 [(0,.im (.string ⟨(s).toArray⟩)),(2,.sl [] .nl),(3,.im (.int .i64 0))] [] (A4 bD aX aB TI) ?_;exact ht ()
 refine AWp.seq ?_
 refine AWp.tail (fun _:Unit=>⟨dn 73 [(0,.im (.string ⟨(s).toArray⟩)),(2,.sl [] .nl),(3,.im (.int .i64 0))],ofl []⟩) (fun _=> ?_) (fun rest ht=> ?_)
 case refine_2 =>
  refine wG fK (A3 BY dI hb) ?_;refine AWp.cutP 0 [(0,.im (.string ⟨(s).toArray⟩)),(2,.sl [] .nl),(3,.im (.int .i64 0))] [] (A4 bD aX aB TI) ?_;exact ht ()
 refine AWp.seq ?_
 refine AWp.tail (fun _:Unit=>⟨dn 73 [(0,.im (.string ⟨(s).toArray⟩)),(2,.sl [] .nl),(3,.im (.int .i64 0)),(4,.pt 0 0)],ofl [.box [.im (.string ⟨(s).toArray⟩),(.im (.int .i64 (1))),(.im (.int .i64 (1))),.sl [] .nl]]⟩) (fun _=> ?_) (fun rest ht=> ?_)
 case refine_2 =>
  refine wG fK BY ?_;refine AWp.cutP 1 [(0,.im (.string ⟨(s).toArray⟩)),(2,.sl [] .nl),(3,.im (.int .i64 0)),(4,.pt 0 0)] [.box [.im (.string ⟨(s).toArray⟩),(.im (.int .i64 (1))),(.im (.int .i64 (1))),.sl [] .nl]] (A4 bD aX aB TI) ?_;exact ht ()
 refine AWp.ghostB 0 3 [.im (.string ⟨(s).toArray⟩),(.im (.int .i64 (1))),(.im (.int .i64 (1))),.sl [] .nl] 122 5 ?_
 have qb:=Xc s (1,1) [] (by decide) (by decide) hs
 refine wG fK TI ?_
 refine aA [0,1] qb TI (A3 bD aX aB) (A3 fA fB cK) ?_
 refine goG fK TI ?_
 refine wG fK TI ?_
 refine aP ?_
 suffices H: ∀(k f:Nat) (x:Bs) (q:Int×Int) (ts:List Tk),x.length=k→x.length<f→skpG false x=x→Si s=(ts++(qY f x q).1,(qY f x q).2)→ts.length+x.length≤s.length →
   (x=s.drop (s.length-x.length))→(q=advs (1,1) (s.take (s.length-x.length)))→ALp _ _ _ _ _ ⟨dn 73 [(0,.im (.string ⟨(s).toArray⟩)),(4,.pt 0 0)],ofl [.box [.im (.string ⟨(x).toArray⟩),(.im (.int .i64 (q.1))),(.im (.int .i64 (q.2))),.sl (ts.map tkV) (.mine 1)],.tip 122 5 ts.length]⟩ by
  refine ALp.cutP 2 [(0,.im (.string ⟨(s).toArray⟩)),(4,.pt 0 0)] [.box [.im (.string ⟨(skpG false s).toArray⟩),(.im (.int .i64 ((skq s (1,1)).1))),(.im (.int .i64 ((skq s (1,1)).2))),.sl (([]:List Tk).map tkV) (.mine 1)],.tip 122 5 ([]:List Tk).length] (A3 bD aX aB) ?_;exact H _ (s.length+1) _ _ [] rfl (by have:=qD false s;omega) (nF s false) (by rw[List.nil_append,←Nu];rfl) (by have:=qD false s;simp;exact this) (List.suffix_iff_eq_drop.1 (uW s false)) rfl
 intro k
 induction k using Nat.strongRecOn with
 | _ k ih =>
 intro f x q ts hk hf hx hE hts hq1 hq2
 refine dE ?_
 cases x with
 | nil =>
  have e0:(([]:Bs)==[])=true:=rfl;rw[EN,List.append_nil]at hE;rw[hE];clear ih;refine wG fK (AI BY e0) ?_;refine aG (rs:=[.tmp 2,.tmp 3]) rfl (by first|exact .inl rfl|exact .inr rfl) (finG fK) ?_
  all_goals exact wkG (A3 bD aX aB)
 | cons c r =>
 have e0:((c::r)==([]:Bs))=false:=rfl
 have hxl:(c::r).length≤4194304:=by omega
 have qn:=VH (c::r) q ts hxl (by simp)
 cases f with
 | zero=>omega
 | succ f =>
 have hN:=LZ (f:=f) hx (by simp)
 have hY:=LY (f:=f) hx (by simp)
 have hlen:=FX (s:=c::r) (by simp)
 generalize nxtR (c::r)=v at qn hN hY hlen
 obtain⟨tk,n,b⟩:=v
 have hal:ts.length+1≤140737488355328:=by rw[List.length_cons]at hts;omega
 cases b with
 | false =>
  rw[hN rfl q]at hE;rw[hE];obtain⟨B,hB⟩: ∃B,B=ts++[(⟨6,[],0,q.1,q.2⟩:Tk)]:=⟨_,rfl⟩
  have hAs:ts.map tkV++[V.ag [.im (.int .i64 6),.im (.string ByteArray.empty),.im (.int .u32 0),.im (.int .i64 q.1),.im (.int .i64 q.2)]]=B.map tkV:=by rw[hB,List.map_append];rfl
  have hAl:ts.length+1=B.length:=by rw[hB];simp
  have hbl:B.length*48≤140737488355328:=by rw[List.length_cons]at hts;omega
  simp only[←hB];clear ih hN hY hlen;refine wG fK (AI BY e0) ?_;refine cB [0,1] qn TI (A3 bD aX aB) (A3 fA fB cK) ?_;refine goG fK TKT ?_;refine wG fK TKT ?_;refine wdG fK (A7 BY GDS TKT hAs hAl hbl @List.length_map.{0,0}) ?_;refine aG (rs:=[.tmp 2,.tmp 3]) rfl (by first|exact .inl rfl|exact .inr rfl) (finG fK) ?_
  all_goals exact wkG (A3 bD aX aB)
 | true =>
  rw[hY rfl q]at hE;have hn:=hlen rfl;clear hN hY hlen;simp only at hn hE;obtain⟨B,hB⟩: ∃B,B=ts++[tk.at_ q]:=⟨_,rfl⟩
  have hAs:ts.map tkV++[V.ag [.im (.int .i64 tk.kind),.im (.string ⟨tk.text.toArray⟩),.im (.int .u32 tk.n),.im (.int .i64 q.1),.im (.int .i64 q.2)]]=B.map tkV:=by rw[hB,List.map_append];rfl
  have hAl:ts.length+1=B.length:=by rw[hB];simp
  have hbl:B.length*48≤140737488355328:=by rw[List.length_cons]at hts;omega
  obtain⟨a,ha⟩: ∃a,a=s.length-(c::r).length:=⟨_,rfl⟩
  rw[←ha]at hq1 hq2;have hal2:a+(c::r).length=s.length:=by omega
  have hbq:=sG (s.take a) (1,1) (by decide) (by decide)
  rw[←hq2,List.length_take]at hbq;have hs1:=IM (c::r) q B n hn.2 (by omega) (by omega) hxl
  have hq3:advs q ((c::r).take n)=advs (1,1) (s.take (a+n)):=by rw[hq2,hq1];exact Aq (1,1) s a n
  have hx3:(c::r).drop n=s.drop (a+n):=by rw[hq1,List.drop_drop]
  have hbq2:=sG (s.take (a+n)) (1,1) (by decide) (by decide)
  rw[List.length_take]at hbq2;rw[hq3]at hs1 hE;rw[hx3]at hs1 hE;have hyl:(s.drop (a+n)).length=s.length-(a+n):=List.length_drop;have hs2:=Xc (s.drop (a+n)) (advs (1,1) (s.take (a+n))) B (by omega) (by omega) (by omega)
  have hle:=qD false (s.drop (a+n))
  have hq4:skq (s.drop (a+n)) (advs (1,1) (s.take (a+n)))=advs (1,1) (s.take (s.length-(skpG false (s.drop (a+n))).length)):=by
   unfold skq;rw[Aq,hyl,show a+n+(s.length-(a+n)-(skpG false (s.drop (a+n))).length)=s.length-(skpG false (s.drop (a+n))).length by omega]
  have hE2:Si s=(B++(qY f (skpG false (s.drop (a+n))) (skq (s.drop (a+n)) (advs (1,1) (s.take (a+n))))).1,(qY f (skpG false (s.drop (a+n))) (skq (s.drop (a+n)) (advs (1,1) (s.take (a+n))))).2):=by
   rw[←Nu,hE,hB,List.append_assoc];rfl
  have hrec:=ih (skpG false (s.drop (a+n))).length (by omega) f _ _ B rfl (by omega) (nF _ false) hE2 (by omega) (List.suffix_iff_eq_drop.1 ((uW _ false).trans (List.drop_suffix _ _))) hq4
  clear ih hE hE2 hq4 hle hyl hbq hbq2 hq3 hx3 hq1 hq2 hts;generalize skq (s.drop (a+n)) (advs (1,1) (s.take (a+n)))=q4 at hs2 hrec;generalize skpG false (s.drop (a+n))=x4 at hs2 hrec;generalize advs (1,1) (s.take (a+n))=q3 at hs1 hs2;generalize s.drop (a+n)=x3 at hs1 hs2;refine wG fK (AI BY e0) ?_;refine cB [0,1] qn TI (A3 bD aX aB) (A3 fA fB cK) ?_;refine goG fK TKT ?_;refine wG fK TKT ?_;refine wdG fK (A7 BY GDS TKT hAs hAl hbl @List.length_map.{0,0}) ?_;refine aA [0,1] hs1 TI (A3 bD aX aB) (A3 fA fB cK) ?_;refine goG fK TI ?_;refine wG fK TI ?_;refine aA [0,1] hs2 TI (A3 bD aX aB) (A3 fA fB cK) ?_;refine goG fK TI ?_;refine wG fK TI ?_;refine ALp.cutP 2 [(0,.im (.string ⟨(s).toArray⟩)),(4,.pt 0 0)] [.box [.im (.string ⟨(x4).toArray⟩),(.im (.int .i64 (q4.1))),(.im (.int .i64 (q4.2))),.sl (B.map tkV) (.mine 1)],.tip 122 5 B.length] (A3 bD aX aB) ?_;exact hrec
def Kl(l:List Tk)(k:Int):Int×Int:=if k<0 then(1,1)else match l[min k.toNat (l.length-1)]? with
 | some t=>(t.line,t.col)
 | none=>(1,1)
def sH:=A8 @pA @cO @kA @pV @xK @xJ @gZ @cN
theorem Fz(l:List Tk)(k:Int)(hl:l.length≤4194304):PC Tryz.prog 64 [.sl (l.map tkV) .ro,(.im (.int .i64 (k)))] (.tu [(.im (.int .i64 ((Kl l k).1))),(.im (.int .i64 ((Kl l k).2)))]):=by
 by_cases h0:k<0
 ·rw[show Kl l k=(1,1)from if_pos h0]
  refine PC.enter 26 Tryz.func64 rfl (by decide) rfl rfl (s:=[(0,.sl (l.map tkV) .ro),(1,(.im (.int .i64 (k))))]) (by rfl) ?_
  refine wG sH (AI TKT h0) ?_;refine aG (rs:=[.tmp 4,.tmp 5]) rfl (by first|exact .inl rfl|exact .inr rfl) (finG sH) ?_
  all_goals exact wkG (A4 bD aX aB bC)
 cases hE:l with
 | nil =>
  rw[show Kl [] k=(1,1) by unfold Kl;split<;>rfl]
  refine PC.enter 26 Tryz.func64 rfl (by decide) rfl rfl (s:=[(0,.sl (([]:List Tk).map tkV) .ro),(1,(.im (.int .i64 (k))))]) (by rfl) ?_
  refine wG sH (AI TKT h0) ?_;refine aG (rs:=[.tmp 4,.tmp 5]) rfl (by first|exact .inl rfl|exact .inr rfl) (finG sH) ?_
  all_goals exact wkG (A4 bD aX aB bC)
 | cons x r =>
 rw[←hE]
 have hpos:1≤l.length:=by rw[hE];simp
 clear hE
 have hne: ¬(l.length:Int)=0:=by omega
 have hw:IntKind.i64.wrap ((l.length:Int)-1)=((l.length-1:Nat):Int):=by rw[cU (by omega)];omega
 obtain⟨j,hj⟩: ∃j,j=min k.toNat (l.length-1):=⟨_,rfl⟩
 have hjl:j<l.length:=by omega
 have hg:l[j]? =some l[j]:=List.getElem?_eq_getElem hjl
 have hR:Kl l k=(l[j].line,l[j].col):=by
  unfold Kl;rw[if_neg h0,←hj,hg]
 rw[hR]
 clear hR
 generalize l[j]=t at hg
 have hmin:(if((l.length-1:Nat):Int)<k then((l.length-1:Nat):Int)else k)=(j:Int):=by split<;>omega
 refine PC.enter 26 Tryz.func64 rfl (by decide) rfl rfl (s:=[(0,.sl (l.map tkV) .ro),(1,(.im (.int .i64 (k))))]) (by rfl) ?_
 refine wG sH (A3 TKT h0 hne) ?_
 refine wdG sH (A7 TKT h0 hne hw hg hmin @Int.toNat_natCast) ?_
 refine aG (rs:=[.tmp 4,.tmp 5]) rfl (by first|exact .inl rfl|exact .inr rfl) (finG sH) ?_
 all_goals exact wkG (A4 bD aX aB bC)
end Go.Proofs.YtmbmmckagcdapaaGreatDoor
