import Derived.Test.YtmbmmckagcdapaaGreatDoorN11
import Derived.Test.YtmbmmckagcdapaaGreatDoorN32
import Derived.Test.YtmbmmckagcdapaaGreatDoorN26
import Derived.Test.YtmbmmckagcdapaaGreatDoorN15
import Derived.Test.YtmbmmckagcdapaaGreatDoorN16
import Derived.Test.YtmbmmckagcdapaaGreatDoorN19
set_option linter.all false
namespace Go.Proofs.YtmbmmckagcdapaaGreatDoor
open Go.RowKit
def mN:=A10 @Lo @Fu @Ft @lI @sC @wN @rZ @pT @rV @gV
set_option maxHeartbeats 2000000 in
theorem MW(s:Bs)(hs:s.length≤4194304):PC Tryz.prog 38 [.sl (s.map byB) .ro] (.im (.string ⟨(quoS s).toArray⟩)):=by
 have hA0:s.length≤140737488355328:=by omega
 refine PC.enter 47 Tryz.func38 rfl (by decide) rfl rfl (s:=[(0,.sl (s.map byB) .ro)]) (by rfl) ?_
 refine wG mN (A3 BY dE hA0) ?_
 refine aW ?_
 refine ALp.ghost 3 [.im (.int .u8 (34))] .full 5 1 ?_
 suffices H: ∀(k m:Nat) (A:Bs),s.length-m=k→m≤s.length→A=34::(s.take m).flatMap escC→ALp _ _ _ _ _ ⟨dn 47 [(3,.sl (A.map byB) (.own 0)),(7,.sl (s.map byB) .ro),(8,(.im (.int .i64 (s.length)))),(9,(.im (.int .i64 ((((m:Nat)):Int)))))],ofl [.tip 5 1 A.length]⟩ by
  refine ALp.cutP 1 [(3,.sl (([34]:Bs).map byB) (.own 0)),(7,.sl (s.map byB) .ro),(8,(.im (.int .i64 (s.length)))),(9,(.im (.int .i64 ((((0:Nat)):Int)))))] [.tip 5 1 ([34]:Bs).length] aB ?_;exact H _ 0 [34] rfl (Nat.zero_le _) (by simp)
 intro k
 induction k using Nat.strongRecOn with
 | _ k ih =>
 intro m A hk hml hA
 have hAl:A.length≤1+4*m:=by
  rw[hA]
  have: ∀l:Bs,(l.flatMap escC).length≤4*l.length:=fun l=>by
   induction l with
   | nil=>simp
   | cons c l ih =>
    have h1:(escC c).length≤4:=by unfold escC;split<;>(try split)<;>simp
    rw[List.flatMap_cons,List.length_append,List.length_cons];omega
  have h2:=this (s.take m);rw[List.length_take]at h2;rw[List.length_cons];omega
 refine dA ?_
 by_cases hlt:m<s.length
 case neg =>
  obtain rfl:m=s.length:=by omega
  have hn: ¬(s.length:Int)<(s.length:Int):=by omega
  obtain⟨B,hB⟩: ∃B,B=A++[34]:=⟨_,rfl⟩
  have hQ:quoS s=B:=by rw[hB,hA,List.take_length];rfl
  have hAs:A.map byB++[V.im (.int .u8 34)]=B.map byB:=by rw[hB,List.map_append];rfl
  have hAk:A.length+1=B.length:=by rw[hB];simp
  have hbl:B.length≤140737488355328:=by omega
  have hb:=mT B;rw[hQ];clear ih hA hB hQ;refine wG mN (A9 BY hn dE hAs hAk hbl hb @List.length_map.{0,0} @Nat.mul_one) ?_;refine aI (rs:=[.tmp 2]) rfl (by first|exact .inl rfl|exact .inr rfl) (finG mN) ?_
  all_goals exact wkG aB
 have hlt':(m:Int)<(s.length:Int):=by omega
 have hw1:=aT hlt (by omega)
 have hg:s[m]? =some s[m]:=List.getElem?_eq_getElem hlt
 have hst:s.take (m+1)=s.take m++[s[m]]:=List.take_succ_eq_append_getElem hlt
 obtain⟨B,hB⟩: ∃B,B=A++escC s[m]:=⟨_,rfl⟩
 have hI:=ih (s.length-(m+1)) (by omega) (m+1) B rfl (by omega) (by rw[hB,hA,hst,List.flatMap_append];simp)
 clear ih hst
 generalize s[m]=c at hg hB
 by_cases h34:c.toNat=34∨c.toNat=92
 ·rw[show escC c=[92,c]from if_pos h34]at hB
  have hAs:A.map byB++[V.im (.int .u8 92),V.im (.int .u8 c.toNat)]=B.map byB:=by rw[hB,List.map_append];rfl
  have hAk:A.length+2=B.length:=by rw[hB];simp
  have hbl:B.length≤140737488355328:=by omega
  clear hA hB
  by_cases h1:c.toNat=34
  ·have e1:(c.toNat:Int)=34:=by omega
   rw[e1]at hAs;refine wG mN (A11 BY hlt' dE hg e1 hAs hAk hbl hw1 @List.length_map.{0,0} @Nat.mul_one) ?_;refine ALp.cutP 1 [(3,.sl (B.map byB) (.own 0)),(7,.sl (s.map byB) .ro),(8,(.im (.int .i64 (s.length)))),(9,(.im (.int .i64 ((((m+1:Nat)):Int)))))] [.tip 5 1 B.length] aB ?_;exact hI
  ·have e1: ¬(c.toNat:Int)=34:=by omega
   have e2:(c.toNat:Int)=92:=by omega
   rw[e2]at hAs;refine wG mN (A12 BY hlt' dE hg e1 e2 hAs hAk hbl hw1 @List.length_map.{0,0} @Nat.mul_one) ?_;refine ALp.cutP 1 [(3,.sl (B.map byB) (.own 0)),(7,.sl (s.map byB) .ro),(8,(.im (.int .i64 (s.length)))),(9,(.im (.int .i64 ((((m+1:Nat)):Int)))))] [.tip 5 1 B.length] aB ?_;exact hI
 rw[show escC c=if c.toNat<32∨126<c.toNat then [92,120,hexD (c.toNat/16),hexD (c.toNat%16)]else [c]from if_neg h34]at hB
 have e1: ¬(c.toNat:Int)=34:=by omega
 have e2: ¬(c.toNat:Int)=92:=by omega
 by_cases h32:c.toNat<32∨126<c.toNat
 ·rw[if_pos h32]at hB
  have hAs:A.map byB++[V.im (.int .u8 92),V.im (.int .u8 120),V.im (.int .u8 (hexD (c.toNat/16)).toNat),V.im (.int .u8 (hexD (c.toNat%16)).toNat)]=B.map byB:=by rw[hB,List.map_append];rfl
  have hAk:A.length+4=B.length:=by rw[hB];simp
  have hbl:B.length≤140737488355328:=by omega
  clear hA hB;have hd1:=Nt (show c.toNat/16<16 by have:=c.toNat_lt;omega)
  have hd2:=Nt (show c.toNat%16<16 by omega)
  by_cases h1:c.toNat<32
  ·have e3:(c.toNat:Int)<32:=by omega
   refine wG mN (A7 BY hlt' dE hg e1 e2 e3) ?_;refine wdG mN (A16 BY GDS hlt' dE hg e1 e2 e3 OO ON hd1 hd2 hAs hAk hbl (A3 hw1 @List.length_map.{0,0} @Nat.mul_one)) ?_;refine ALp.cutP 1 [(3,.sl (B.map byB) (.own 0)),(7,.sl (s.map byB) .ro),(8,(.im (.int .i64 (s.length)))),(9,(.im (.int .i64 ((((m+1:Nat)):Int)))))] [.tip 5 1 B.length] aB ?_;exact hI
  ·have e3: ¬(c.toNat:Int)<32:=by omega
   have e4:(c.toNat:Int)>126:=by omega
   refine wG mN (A8 BY hlt' dE hg e1 e2 e3 e4) ?_;refine wdG mN (A16 BY GDS hlt' dE hg e1 e2 e3 e4 OO ON hd1 hd2 hAs hAk (A4 hbl hw1 @List.length_map.{0,0} @Nat.mul_one)) ?_;refine ALp.cutP 1 [(3,.sl (B.map byB) (.own 0)),(7,.sl (s.map byB) .ro),(8,(.im (.int .i64 (s.length)))),(9,(.im (.int .i64 ((((m+1:Nat)):Int)))))] [.tip 5 1 B.length] aB ?_;exact hI
 rw[if_neg h32]at hB
 have hAs:A.map byB++[V.im (.int .u8 c.toNat)]=B.map byB:=by rw[hB,List.map_append];rfl
 have hAk:A.length+1=B.length:=by rw[hB];simp
 have hbl:B.length≤140737488355328:=by omega
 have e3: ¬(c.toNat:Int)<32:=by omega
 have e4: ¬(c.toNat:Int)>126:=by omega
 clear hA hB
 refine wG mN (A14 BY hlt' dE hg e1 e2 e3 e4 hAs hAk hbl hw1 @List.length_map.{0,0} @Nat.mul_one) ?_
 refine ALp.cutP 1 [(3,.sl (B.map byB) (.own 0)),(7,.sl (s.map byB) .ro),(8,(.im (.int .i64 (s.length)))),(9,(.im (.int .i64 ((((m+1:Nat)):Int)))))] [.tip 5 1 B.length] aB ?_
 exact hI
theorem kV{P:Program}{N:Nat}{ops:Array Oper}{dr:Bool}{Q:Exit→St→Prop}{d:Option Tmp}{c:Operand}{args:Array Operand}{tys:Array TypeId}{ty:TypeId}{pos:String}{af:Array Edge}{g:Option (Nat×Bool)}{os:List Oper}{k:Nat}{s:List (Nat×V)}{l:List Ent}
  {acc:List (Nat×List Nat×List Nat)} {f:FuncId} {us vs xs xs':List V} {r r':V} {l0:List Ent} {F E M:Prop} (js:List Nat) (h:DC P f xs l0 r l0) (fa:F) (fi:E) (fr:M)
  (n:AR P ops dr Q os (k+1) ⟨dn N (eV s d r'),ofl l⟩ ((k,(fH js 0 l0).map Prod.fst,[])::acc)) (hg:gd ops ⟨d,.call {callee:= .value c,args:=args,argTypes:=tys},ty,pos,af,g⟩ ⟨dn N s,ofl l⟩=some true:=by rfl) (hc:St.ev ⟨dn N s,ofl l⟩ c= .fn (.func f) us vs:=by rfl)
  (hx:M→V.renL (gOf js) xs=xs':=by intro f;first|(simp only[SR,f];done)|(simp only[SR,f];with_reducible exact rfl)) (hr:M→V.ren (gOf js) r=r':=by intro f;first|(simp only[SR,f];done)|(simp only[SR,f];with_reducible exact rfl))
  (hw:F→WkL (us++args.toList.map (St.ev ⟨dn N s,ofl l⟩)++vs) xs':=by intro f;exact gW (by simp only[St.ev,V.ofVal,V.ofCell,V.size_im,fK,cZ,gX,Nat.reduceLT,Nat.reduceEqDiff,reduceIte,if_true,if_false,List.map_cons,List.map_nil,List.nil_append,List.cons_append,List.append_nil,f])) (hi:E→V.idsL (ltB js.length) xs=true:=by intro f;first|rfl|simp only[List.length_cons,List.length_nil,Nat.reduceAdd,V.ids,V.idsL,idsA,entOk,List.all_cons,List.all_nil,Bool.and_self,Bool.and_true,Bool.true_and,ltB,noId,Nat.reduceLT,decide_true,Bool.true_eq_false,bU,bW,bV,bX,f])
  (hnd:decide js.Nodup=true:=by rfl) (h0:l0.length=js.length:=by rfl) (he:E→l0.all (entOk (ltB js.length))=true:=by intro f;first|rfl|simp only[List.length_cons,List.length_nil,Nat.reduceAdd,V.ids,V.idsL,idsA,entOk,List.all_cons,List.all_nil,Bool.and_self,Bool.and_true,Bool.true_and,ltB,noId,Nat.reduceLT,decide_true,Bool.true_eq_false,bU,bW,bV,bX,f])
  (hl:M→ ∀p∈fH js 0 l0,ofl l p.1=p.2:=by intro f p hp;simp only[fH,SR,Ent.ren,List.mem_cons,List.not_mem_nil,or_false,f]at hp;first|(rcases hp with rfl|rfl|rfl|rfl<;>rfl)|(rcases hp with rfl|rfl|rfl|rfl|rfl<;>rfl)|(rcases hp with rfl<;>rfl)|(rcases hp with rfl|rfl<;>rfl)|(rcases hp with rfl|rfl|rfl<;>rfl)) :
  AR P ops dr Q (⟨d,.call {callee:= .value c,args:=args,argTypes:=tys},ty,pos,af,g⟩::os) k ⟨dn N s,ofl l⟩ acc:=Qf js h hg hc (hx fr) (hr fr) (hw fa) (hi fi) hnd h0 (he fi) (hl fr) n
def chk1(vs:List Va)(fs ls sn:List ByteArray)(p:Nd×Bool):Int :=
 if !(p.1.e.all fun x=>esh x 64)then 20 else if !stT p.1 then 2 else if !symT vs fs ls p.1 then 17 else if(p.1.kind==10||p.1.kind==11)&& !p.2 then 21 else if p.1.kind==13&&sn.any (fun x=>eqS p.1.name x)then 8 else 0
def nxt(sn:List ByteArray)(p:Nd×Bool):List ByteArray:=if p.1.kind==13 then sn++[p.1.name]else sn
theorem KF{s:Nd}(h:stT s=true): ∀x∈s.e,efm x=true:=by
 unfold stT at h
 simp only[Bool.and_eq_true,List.all_eq_true]at h
 exact h.2
def bN:=A16 @jB @cN @Lp @iL @Lm @dN @lL @Tp @iW @Tm @iE @mD @iV @Fp @Tl (A6 @iA @cM @Lh @iJ @Lg @cY)
set_option maxHeartbeats 1000000 in
theorem HX(vs:List Va)(hv:vs.length≤4194304)(fs ls sn:List ByteArray)(hfs:fs.length≤4194304)(hls:ls.length≤4194304)(hsn:sn.length≤4194304)(p:Nd×Bool)(hf:fitN p.1) :
  DC Tryz.prog 97 [.pt 0 0,plV p] [.box [(V.fn (.func 154) [] [.pt 1 0]),.sl (fs.map tsV) .ro,.sl (ls.map tsV) (.own 2),.sl ((sn).map tsV) (.own 3)],.box [(V.sl (vs.map vaV) .ro)],.tip 9 1 ls.length,.tip 9 1 (sn).length] (.im (.int .i64 (chk1 vs fs ls sn p))) [.box [(V.fn (.func 154) [] [.pt 1 0]),.sl (fs.map tsV) .ro,.sl (ls.map tsV) (.own 2),.sl ((if chk1 vs fs ls sn p=0 then nxt sn p else sn).map tsV) (.own 3)],.box [(V.sl (vs.map vaV) .ro)],.tip 9 1 ls.length,.tip 9 1 (if chk1 vs fs ls sn p=0 then nxt sn p else sn).length]:=by
 obtain⟨s,lp⟩:=p
 obtain⟨hI,hsz,⟨he1,he2⟩,h4,h5,h6,h7⟩:=dR hf
 have h1:=rK (gs:=s.e) (F:=163) (fun x=> !esh x 64) he1 (fun t ht=>HY (Si t (he2 t ht) 64 (by decide)))
 rw[←List.not_all_eq_any_not]at h1
 have h2:=Ox s hf
 have h5:=oY sn hsn s.name
 unfold chk1
 simp only
 cases b1:s.e.all fun x=>esh x 64 with
 | false =>
  rw[b1]at h1;simp only[Bool.not_false,if_true,show ¬(20:Int)=0 by decide,if_false]
  refine DC.enter 62 Tryz.func97 rfl (by decide) rfl rfl (s:=[(0,.pt 0 0),(1,plV (s,lp))]) (by rfl) ?_
  simp only[mY];refine wG bN TI ?_;refine AR.callP h1 TI BN02 ?_;refine goG bN TI ?_;refine wG bN TI ?_;exact bP BN02
 | true =>
 rw[b1]at h1
 simp only[Bool.not_true,Bool.false_eq_true,if_false]
 cases b2:stT s with
 | false =>
  rw[b2]at h2;simp only[Bool.not_false,if_true,show ¬(2:Int)=0 by decide,if_false]
  refine DC.enter 62 Tryz.func97 rfl (by decide) rfl rfl (s:=[(0,.pt 0 0),(1,plV (s,lp))]) (by rfl) ?_
  simp only[mY];refine wG bN TI ?_;refine AR.callP h1 TI BN02 ?_;refine goG bN TI ?_;refine wG bN TI ?_;refine AR.callP h2 eS BN02 ?_;refine goG bN TI ?_;refine wG bN TI ?_;exact bP BN02
 | true =>
 rw[b2]at h2
 simp only[Bool.not_true,Bool.false_eq_true,if_false]
 have h3:=Zo vs hv fs ls sn hfs hls s hf (KF b2)
 cases b3:symT vs fs ls s with
 | false =>
  rw[b3]at h3;simp only[Bool.not_false,if_true,show ¬(17:Int)=0 by decide,if_false]
  refine DC.enter 62 Tryz.func97 rfl (by decide) rfl rfl (s:=[(0,.pt 0 0),(1,plV (s,lp))]) (by rfl) ?_
  simp only[mY];refine wG bN TI ?_;refine AR.callP h1 TI BN02 ?_;refine goG bN TI ?_;refine wG bN TI ?_;refine AR.callP h2 eS BN02 ?_;refine goG bN TI ?_;refine wG bN TI ?_;refine kV [0,1,2,3] h3 eS BN02 Qd ?_;refine goG bN TI ?_;refine wG bN TI ?_;exact bP BN02
 | true =>
 rw[b3]at h3
 simp only[Bool.not_true,Bool.false_eq_true,if_false]
 by_cases k10:s.kind=10
 ·have e13:nxt sn (s,lp)=sn:=by simp[nxt,k10]
  cases lp with
  | false =>
   rw[if_pos (by simp[k10])]
   simp only[show ¬(21:Int)=0 by decide,if_false]
   refine DC.enter 62 Tryz.func97 rfl (by decide) rfl rfl (s:=[(0,.pt 0 0),(1,plV (s,false))]) (by rfl) ?_
   simp only[mY];refine wG bN TI ?_;refine AR.callP h1 TI BN02 ?_;refine goG bN TI ?_;refine wG bN TI ?_;refine AR.callP h2 eS BN02 ?_;refine goG bN TI ?_;refine wG bN TI ?_;refine kV [0,1,2,3] h3 eS BN02 Qd ?_;refine goG bN TI ?_;refine wG bN k10 ?_;exact bP BN02
  | true =>
   rw[if_neg (by simp),if_neg (by simp[k10])]
   simp only[if_true,e13];refine DC.enter 62 Tryz.func97 rfl (by decide) rfl rfl (s:=[(0,.pt 0 0),(1,plV (s,true))]) (by rfl) ?_
   simp only[mY];refine wG bN TI ?_;refine AR.callP h1 TI BN02 ?_;refine goG bN TI ?_;refine wG bN TI ?_;refine AR.callP h2 eS BN02 ?_;refine goG bN TI ?_;refine wG bN TI ?_;refine kV [0,1,2,3] h3 eS BN02 Qd ?_;refine goG bN TI ?_;refine wG bN k10 ?_;exact bP BN02
 by_cases k11:s.kind=11
 ·have e13:nxt sn (s,lp)=sn:=by simp[nxt,k11]
  cases lp with
  | false =>
   rw[if_pos (by simp[k11])]
   simp only[show ¬(21:Int)=0 by decide,if_false]
   refine DC.enter 62 Tryz.func97 rfl (by decide) rfl rfl (s:=[(0,.pt 0 0),(1,plV (s,false))]) (by rfl) ?_
   simp only[mY];refine wG bN TI ?_;refine AR.callP h1 TI BN02 ?_;refine goG bN TI ?_;refine wG bN TI ?_;refine AR.callP h2 eS BN02 ?_;refine goG bN TI ?_;refine wG bN TI ?_;refine kV [0,1,2,3] h3 eS BN02 Qd ?_;refine goG bN TI ?_;refine wG bN (AI k10 k11) ?_;exact bP BN02
  | true =>
   rw[if_neg (by simp),if_neg (by simp[k11])]
   simp only[if_true,e13];refine DC.enter 62 Tryz.func97 rfl (by decide) rfl rfl (s:=[(0,.pt 0 0),(1,plV (s,true))]) (by rfl) ?_
   simp only[mY];refine wG bN TI ?_;refine AR.callP h1 TI BN02 ?_;refine goG bN TI ?_;refine wG bN TI ?_;refine AR.callP h2 eS BN02 ?_;refine goG bN TI ?_;refine wG bN TI ?_;refine kV [0,1,2,3] h3 eS BN02 Qd ?_;refine goG bN TI ?_;refine wG bN (AI k10 k11) ?_;exact bP BN02
 rw[if_neg (by simp[k10,k11])]
 by_cases k13:s.kind=13
 case neg =>
  have e13:nxt sn (s,lp)=sn:=by simp[nxt,k13]
  rw[if_neg (by simp[k13])]
  simp only[if_true,e13];refine DC.enter 62 Tryz.func97 rfl (by decide) rfl rfl (s:=[(0,.pt 0 0),(1,plV (s,lp))]) (by rfl) ?_
  simp only[mY];refine wG bN TI ?_;refine AR.callP h1 TI BN02 ?_;refine goG bN TI ?_;refine wG bN TI ?_;refine AR.callP h2 eS BN02 ?_;refine goG bN TI ?_;refine wG bN TI ?_;refine kV [0,1,2,3] h3 eS BN02 Qd ?_;refine goG bN TI ?_;refine wG bN (A3 k10 k11 k13) ?_;exact bP BN02
 have e13:nxt sn (s,lp)=sn++[s.name]:=by simp[nxt,k13]
 cases b4:sn.any fun x=>eqS s.name x with
 | true =>
  rw[b4]at h5;rw[if_pos (by simp[k13])]
  simp only[show ¬(8:Int)=0 by decide,if_false]
  refine DC.enter 62 Tryz.func97 rfl (by decide) rfl rfl (s:=[(0,.pt 0 0),(1,plV (s,lp))]) (by rfl) ?_
  simp only[mY];refine wG bN TI ?_;refine AR.callP h1 TI BN02 ?_;refine goG bN TI ?_;refine wG bN TI ?_;refine AR.callP h2 eS BN02 ?_;refine goG bN TI ?_;refine wG bN TI ?_;refine kV [0,1,2,3] h3 eS BN02 Qd ?_;refine goG bN TI ?_;refine wdG bN (A3 k10 k11 k13) ?_;refine dD h5 TI BN02 ?_;refine goG bN TI ?_;refine wdG bN TI ?_;exact bP BN02
 | false =>
  rw[b4]at h5;rw[if_neg (by simp)]
  have hap:sn.map tsV++[.im (.string s.name)]=(sn++[s.name]).map tsV:=by simp[tsV]
  have hln:sn.length+1=(sn++[s.name]).length:=by simp
  have hA:(sn++[s.name]).length*16≤140737488355328:=by simp;omega
  simp only[if_true,e13];generalize sn++[s.name]=sn' at hap hln hA ⊢;refine DC.enter 62 Tryz.func97 rfl (by decide) rfl rfl (s:=[(0,.pt 0 0),(1,plV (s,lp))]) (by rfl) ?_
  simp only[mY];refine wG bN TI ?_;refine AR.callP h1 TI BN02 ?_;refine goG bN TI ?_;refine wG bN TI ?_;refine AR.callP h2 eS BN02 ?_;refine goG bN TI ?_;refine wG bN TI ?_;refine kV [0,1,2,3] h3 eS BN02 Qd ?_;refine goG bN TI ?_;refine wdG bN (A3 k10 k11 k13) ?_;refine dD h5 TI BN02 ?_;refine goG bN TI ?_;refine wdG bN (A4 hap hln hA @List.length_map.{0,0}) ?_;exact bP BN02
def labs(l:List (Nd×Bool)):List ByteArray:=l.flatMap fun p=>if p.1.kind==13 then [p.1.name]else []
theorem Yn{l:List (Nd×Bool)}{m:Nat}(h:m<l.length):labs (l.take (m+1))=if l[m].1.kind==13 then labs (l.take m)++[l[m].1.name]else labs (l.take m):=by
 unfold labs
 rw[←rE _ h]
 split<;>simp
def runS(vs:List Va)(fs ls:List ByteArray):List ByteArray→List (Nd×Bool)→Int
 | _,[]=>0
 | sn,p::r=>if chk1 vs fs ls sn p=0 then runS vs fs ls (nxt sn p) r else chk1 vs fs ls sn p
theorem uE(vs:List Va)(fs ls sn:List ByteArray)(p:Nd×Bool)(r:List (Nd×Bool)):runS vs fs ls sn (p::r)=if chk1 vs fs ls sn p=0 then runS vs fs ls (nxt sn p) r else chk1 vs fs ls sn p:=rfl
def seenS:List ByteArray→List (Nd×Bool)→List ByteArray
 | sn,[]=>sn
 | sn,p::r=>seenS (nxt sn p) r
theorem Jh(sn:List ByteArray)(a b:List (Nd×Bool)):seenS sn (a++b)=seenS (seenS sn a) b:=by
 induction a generalizing sn with
 | nil=>rfl
 | cons x a ih=>exact ih _
theorem Xy(sn:List ByteArray)(l:List (Nd×Bool)):(seenS sn l).length≤sn.length+l.length:=by
 induction l generalizing sn with
 | nil=>exact Nat.le_refl _
 | cons x l ih =>
  have:=ih (nxt sn x);have h2:(nxt sn x).length≤sn.length+1:=by unfold nxt;split<;>simp
  simp only[seenS,List.length_cons];omega
theorem Np(l:List (Nd×Bool)):(labs l).length≤l.length:=by
 induction l with
 | nil=>exact Nat.le_refl _
 | cons x l ih =>
  unfold labs at ih ⊢;rw[List.flatMap_cons,List.length_append,List.length_cons];have:(if x.1.kind==13 then [x.1.name]else []).length≤1:=by split<;>simp
  omega
theorem Vz: ∀(l:List Nd),lN l→ ∀lp,∀p∈allL l lp,fitN p.1:=by
 refine mR fun l hl hf lp p hp=> ?_
 obtain⟨t,ht,hp⟩:=List.mem_flatMap.1 hp
 rw[Bq]at hp
 rcases List.mem_cons.1 hp with rfl|hp
 ·exact hf.2 t ht
 ·obtain⟨c,hc,hp⟩:=List.mem_flatMap.1 hp
  exact hl t ht c hc ((Ee (hf.2 t ht)).2 c hc) _ p hp
def bodyE(gs:List Va)(f:Fun)(fs:List ByteArray):Int :=
 if 256<gs.length+f.vars.length then 6 else if vErr gs f.vars≠0 then vErr gs f.vars else if 64<dep f.body then 20 else if 1024<cnt f.body then 6 else runS (gs++f.vars) fs (labs (allL f.body false)) [] (allL f.body false)
theorem jR(g:Nat→Nat)(x:Nd×Bool):V.ren g (plV x)=plV x:=V.ren_id g _ (gQ _ x)
theorem PL:type_of%(A8 @Ng @He @Nc @Nb @Nf @Hf @List.getElem?_map.{0,0} @Int.natCast_nonneg) :=
 A8 @Ng @He @Nc @Nb @Nf @Hf @List.getElem?_map.{0,0} @Int.natCast_nonneg
def fI:=A16 @jB @JG @lM @cN @kL @Lm @dN @JE @Qa @OG @lL @Tp @Px @Pw @lJ (A16 @iW @Fq @iE @mD @Fp @lY @qO @vG @IT @iA @Ps @jT @cM @jH @Lg (AI @cY @kK))
set_option maxHeartbeats 2000000 in
theorem TV(u:Un)(f:Fun)(fs:List ByteArray)(hg:u.globals.length≤2097152)(hv:f.vars.length≤2097152)(hvn:Ap f.vars)(hb:lN f.body)(hc:cnt f.body≤4194304)(hfs:fs.length≤4194304) :
  PC Tryz.prog 45 [unV u,fnV f,.sl (fs.map tsV) .ro] (.im (.int .i64 (bodyE u.globals f fs))):=by
 have h1:=xW u.globals f.vars (by omega) hvn
 have h2:=NG f.body hb hc
 have h3:=WL f.body hb hc false
 have hlen:=Pl f.body false
 have hw:IntKind.i64.wrap ((u.globals.length:Int)+(f.vars.length:Int))=(u.globals.length:Int)+(f.vars.length:Int):=dL (by omega)
 unfold bodyE
 refine PC.enter 87 Tryz.func45 rfl (by decide) rfl rfl (s:=[(0,unV u),(1,fnV f),(2,.sl (fs.map tsV) .ro)]) (by rfl) ?_
 simp only[kY,tJ]
 by_cases b1:256<u.globals.length+f.vars.length
 ·have b1':(256:Int)<(u.globals.length:Int)+(f.vars.length:Int):=by omega
  rw[if_pos b1];refine wG fI (A3 hw b1' @List.length_map.{0,0}) ?_;exact aD
 have b1': ¬(256:Int)<(u.globals.length:Int)+(f.vars.length:Int):=by omega
 rw[if_neg b1]
 refine wG fI (A3 hw b1' @List.length_map.{0,0}) ?_
 refine AR.callP h1 TI BN05 ?_
 by_cases b2:vErr u.globals f.vars=0
 case neg =>
  rw[if_pos b2];refine goG fI b2 ?_;refine wG fI b2 ?_;exact aD
 rw[if_neg (by simp[b2])]
 rw[b2]
 refine goG fI TI ?_
 refine wG fI TI ?_
 refine AR.callP h2 TI BN05 ?_
 by_cases b3:64<dep f.body
 ·rw[if_pos b3]
  refine goG fI b3 ?_;refine wG fI b3 ?_;exact aD
 rw[if_neg b3]
 refine goG fI b3 ?_
 refine wG fI b3 ?_
 refine AR.callP h3 TI BN05 ?_
 by_cases b4:1024<cnt f.body
 ·have b4':(1024:Int)<(cnt f.body:Int):=by omega
  rw[if_pos b4];refine goG fI TI ?_;refine wG fI (A3 b4' @List.length_map.{0,0} hlen) ?_;exact aD
 have b4': ¬(1024:Int)<(cnt f.body:Int):=by omega
 rw[if_neg b4]
 refine goG fI TI ?_
 refine wG fI (A3 b4' @List.length_map.{0,0} hlen) ?_
 have h4:=AE (xss:=[u.globals.map vaV,f.vars.map vaV]) (by simp) (by
  intro xs hx;simp only[List.mem_cons,List.not_mem_nil,or_false]at hx;rcases hx with rfl|rfl
  ·exact Iv _
  ·exact Iv _) (by
  intro p xs hx;simp only[List.mem_cons,List.not_mem_nil,or_false]at hx;rcases hx with rfl|rfl
  ·exact aN _ _
  ·exact aN _ _) (by simp;omega)
 have e1:[u.globals.map vaV,f.vars.map vaV].flatten=(u.globals++f.vars).map vaV:=by simp
 rw[e1]at h4
 simp only[List.map_cons,List.map_nil]at h4
 have h5:=Vu (u.globals++f.vars)
 have hvs:(u.globals++f.vars).length≤4194304:=by rw[List.length_append];omega
 generalize u.globals++f.vars=vs at h4 h5 hvs ⊢
 have hfa:=Vz f.body hb false
 have hlb:=Np (allL f.body false)
 generalize allL f.body false=its at h3 hlen hfa hlb ⊢
 refine dD h4 TI BN05 ?_
 refine goG fI TI ?_
 refine aA [2] h5 TI BN05 (A9 @aQ @aR @bE @bD iP bL bQ cG jR) ?_
 refine goG fI TI ?_
 refine wG fI @List.length_map.{0,0} ?_
 rw[←hlen]at b4
 clear h1 h2 h3 h4 h5 hw b1 b1' b2 b3 b4' hlen hvn
 refine aW ?_
 refine ALp.ghostB 3 2 [(V.fn (.func 154) [] [.pt 2 0]),.sl (fs.map tsV) .ro,.sl [] .nl,.sl [] .nl] 9 1 ?_
 have hlbl: ∀m,(labs (its.take m)).length≤its.length:=fun m=>by
  have:=Np (its.take m);rw[List.length_take]at this;omega
 refine ALp.cutP 5 [(8,.sl (its.map plV) .ro),(9,.pt 3 0),(51,.sl (its.map plV) .ro),(52,(.im (.int .i64 (its.length)))),(53,(.im (.int .i64 ((((0:Nat)):Int)))))] [.box [.sl (u.globals.map vaV) .ro,.sl (u.data.map scV) .ro,.sl (u.funcs.map fnV) .ro],.box [.im (.string f.name),.sl (f.vars.map vaV) .ro,.sl (f.body.map ndV) .ro],.box [.sl (vs.map vaV) .ro],.box [(V.fn (.func 154) [] [.pt 2 0]),.sl (fs.map tsV) .ro,.sl ((labs (its.take (0))).map tsV) (.own 4),.sl [] .nl],.tip 9 1 (labs (its.take (0))).length] BN05 ?_
 refine ALp.upto its.length (fun _=>True) (fun m=>⟨dn 87 [(8,.sl (its.map plV) .ro),(9,.pt 3 0),(51,.sl (its.map plV) .ro),(52,(.im (.int .i64 (its.length)))),(53,(.im (.int .i64 ((((m:Nat)):Int)))))],ofl [.box [.sl (u.globals.map vaV) .ro,.sl (u.data.map scV) .ro,.sl (u.funcs.map fnV) .ro],.box [.im (.string f.name),.sl (f.vars.map vaV) .ro,.sl (f.body.map ndV) .ro],.box [.sl (vs.map vaV) .ro],.box [(V.fn (.func 154) [] [.pt 2 0]),.sl (fs.map tsV) .ro,.sl ((labs (its.take (m))).map tsV) (.own 4),.sl [] .nl],.tip 9 1 (labs (its.take (m))).length]⟩) ?_ 0 (Nat.zero_le _) trivial
 intro m hm _ hnext
 by_cases hlt:m<its.length
 ·have hlt':(m:Int)<(its.length:Int):=by omega
  have hm1:=aT hlt (by omega)
  have hg:=bJ hlt;have hst:=Yn hlt
  by_cases k13:its[m].1.kind=13
  ·rw[if_pos (by simp[k13])]at hst
   have hap:(labs (its.take m)).map tsV++[.im (.string its[m].1.name)]=(labs (its.take (m+1))).map tsV:=by rw[hst];simp[tsV]
   have hln:(labs (its.take m)).length+1=(labs (its.take (m+1))).length:=by rw[hst];simp
   have hA:(labs (its.take (m+1))).length*16≤140737488355328:=by have:=hlbl (m+1);omega
   clear hst;refine wdG fI (A9 hlt' hg k13 hap hln hA hm1 @List.length_map.{0,0} PL) ?_;refine ALp.cutP 5 [(8,.sl (its.map plV) .ro),(9,.pt 3 0),(51,.sl (its.map plV) .ro),(52,(.im (.int .i64 (its.length)))),(53,(.im (.int .i64 ((((m+1:Nat)):Int)))))] [.box [.sl (u.globals.map vaV) .ro,.sl (u.data.map scV) .ro,.sl (u.funcs.map fnV) .ro],.box [.im (.string f.name),.sl (f.vars.map vaV) .ro,.sl (f.body.map ndV) .ro],.box [.sl (vs.map vaV) .ro],.box [(V.fn (.func 154) [] [.pt 2 0]),.sl (fs.map tsV) .ro,.sl ((labs (its.take (m+1))).map tsV) (.own 4),.sl [] .nl],.tip 9 1 (labs (its.take (m+1))).length] BN05 ?_;exact hnext (m+1) (by omega) (by omega) trivial
  ·rw[if_neg (by simp[k13])]at hst
   refine wdG fI (A5 hlt' hg k13 hm1 PL) ?_;rw[←hst];refine ALp.cutP 5 [(8,.sl (its.map plV) .ro),(9,.pt 3 0),(51,.sl (its.map plV) .ro),(52,(.im (.int .i64 (its.length)))),(53,(.im (.int .i64 ((((m+1:Nat)):Int)))))] [.box [.sl (u.globals.map vaV) .ro,.sl (u.data.map scV) .ro,.sl (u.funcs.map fnV) .ro],.box [.im (.string f.name),.sl (f.vars.map vaV) .ro,.sl (f.body.map ndV) .ro],.box [.sl (vs.map vaV) .ro],.box [(V.fn (.func 154) [] [.pt 2 0]),.sl (fs.map tsV) .ro,.sl ((labs (its.take (m+1))).map tsV) (.own 4),.sl [] .nl],.tip 9 1 (labs (its.take (m+1))).length] BN05 ?_;exact hnext (m+1) (by omega) (by omega) trivial
 obtain rfl:m=its.length:=by omega
 clear hnext hlbl
 rw[List.take_length]
 refine whG fI @Int.lt_irrefl ?_
 refine Blk'.here (Thn.n ?_)
 generalize labs its=ls at hlb ⊢
 refine wG fI @List.length_map.{0,0} ?_
 refine aW ?_
 refine ALp.ghostB 3 3 [(V.fn (.func 154) [] [.pt 2 0]),.sl (fs.map tsV) .ro,.sl (ls.map tsV) (.own 4),.sl [] .nl] 9 1 ?_
 refine ALp.cutP 6 [(9,.pt 3 0),(74,.sl (its.map plV) .ro),(75,(.im (.int .i64 (its.length)))),(76,(.im (.int .i64 ((((0:Nat)):Int)))))] [.box [.sl (u.globals.map vaV) .ro,.sl (u.data.map scV) .ro,.sl (u.funcs.map fnV) .ro],.box [.im (.string f.name),.sl (f.vars.map vaV) .ro,.sl (f.body.map ndV) .ro],.box [.sl (vs.map vaV) .ro],.box [(V.fn (.func 154) [] [.pt 2 0]),.sl (fs.map tsV) .ro,.sl (ls.map tsV) (.own 4),.sl ((seenS [] (its.take (0))).map tsV) (.own 5)],.tip 9 1 ls.length,.tip 9 1 (seenS [] (its.take (0))).length] BN05 ?_
 refine ALp.upto its.length (fun m=>runS vs fs ls (seenS [] (its.take m)) (its.drop m)=runS vs fs ls [] its) (fun m=>⟨dn 87 [(9,.pt 3 0),(74,.sl (its.map plV) .ro),(75,(.im (.int .i64 (its.length)))),(76,(.im (.int .i64 ((((m:Nat)):Int)))))],ofl [.box [.sl (u.globals.map vaV) .ro,.sl (u.data.map scV) .ro,.sl (u.funcs.map fnV) .ro],.box [.im (.string f.name),.sl (f.vars.map vaV) .ro,.sl (f.body.map ndV) .ro],.box [.sl (vs.map vaV) .ro],.box [(V.fn (.func 154) [] [.pt 2 0]),.sl (fs.map tsV) .ro,.sl (ls.map tsV) (.own 4),.sl ((seenS [] (its.take (m))).map tsV) (.own 5)],.tip 9 1 ls.length,.tip 9 1 (seenS [] (its.take (m))).length]⟩) ?_ 0 (Nat.zero_le _) rfl
 intro m hm hV hnext
 rw[←hV]
 by_cases hlt:m<its.length
 ·have hlt':(m:Int)<(its.length:Int):=by omega
  have hm1:=aT hlt (by omega)
  have hg:=bJ hlt;have hsl:=Xy [] (its.take m);rw[List.length_take]at hsl;simp only[List.length_nil]at hsl
  have hsn:nxt (seenS [] (its.take m)) its[m]=seenS [] (its.take (m+1)):=by
   rw[List.take_succ_eq_append_getElem hlt,Jh];rfl
  have hc:=HX vs hvs fs ls (seenS [] (its.take m)) hfs (by omega) (by omega) its[m] (hfa _ (List.getElem_mem hlt))
  have hd:its.drop m=its[m]::its.drop (m+1):=List.drop_eq_getElem_cons hlt;rw[hd]at hV ⊢;rw[uE]at hV ⊢
  by_cases b:chk1 vs fs ls (seenS [] (its.take m)) its[m]=0
  ·rw[if_pos b]at hV ⊢
   rw[b,if_pos rfl,hsn]at hc;rw[hsn]at hV ⊢;refine wG fI (A3 hlt' hg PL) ?_;refine AR.callS [3,2,4,5] hc rfl rfl (by first|(simp only[SR,aQ,aR,bE,bD,iP,bL,bQ,cG,jR];done)|(simp only[SR,aQ,aR,bE,bD,iP,bL,bQ,cG,jR];with_reducible exact rfl)) (by first|(simp only[SR,aQ,aR,bE,bD,iP,bL,bQ,cG,jR];done)|(simp only[SR,aQ,aR,bE,bD,iP,bL,bQ,cG,jR];with_reducible exact rfl)) (gW (by simp only[St.ev,V.ofVal,V.ofCell,V.size_im,fK,cZ,gX,Nat.reduceLT,Nat.reduceEqDiff,reduceIte,if_true,if_false,List.map_cons,List.map_nil,List.nil_append,List.cons_append,List.append_nil,mY])) (by first|rfl|simp only[List.length_cons,List.length_nil,Nat.reduceAdd,V.ids,V.idsL,idsA,entOk,List.all_cons,List.all_nil,Bool.and_self,Bool.and_true,Bool.true_and,ltB,noId,Nat.reduceLT,decide_true,Bool.true_eq_false,bU,bW,bV,bX,aC,aN,aE,aO,nP,aJ,aK,aV,fU,gQ,eJ,jX]) rfl rfl rfl (by first|rfl|simp only[List.length_cons,List.length_nil,Nat.reduceAdd,V.ids,V.idsL,idsA,entOk,List.all_cons,List.all_nil,Bool.and_self,Bool.and_true,Bool.true_and,ltB,noId,Nat.reduceLT,decide_true,Bool.true_eq_false,bU,bW,bV,bX,aC,aN,aE,aO,nP,aJ,aK,aV,fU,gQ,eJ,jX]) (by intro p hp;simp only[fH,SR,Ent.ren,List.mem_cons,List.not_mem_nil,or_false,aQ,aR,bE,bD,iP,bL,bQ,cG,jR]at hp;rcases hp with rfl|rfl|rfl|rfl<;>rfl) (by simp only[fH,Ent.ren,SR,aQ,aR,bE,bD,iP,bL,bQ,cG,jR,wrl,putE,SC,SD,Nat.reduceBEq,Nat.reduceLT,Nat.reduceSub,Nat.reduceAdd,Nat.reduceMul,Nat.reduceLeDiff,Nat.reduceEqDiff,reduceCtorEq,Int.reduceLT,Int.reduceLE,Int.reduceEq,Int.reduceNe,Int.reduceBEq,Int.reduceBNe,Int.reduceAdd,Int.reduceSub,Int.reduceMul,Int.reduceToNat];with_reducible exact rfl) ?_
   refine goG fI TI ?_;refine wG fI hm1 ?_;refine ALp.cutP 6 [(9,.pt 3 0),(74,.sl (its.map plV) .ro),(75,(.im (.int .i64 (its.length)))),(76,(.im (.int .i64 ((((m+1:Nat)):Int)))))] [.box [.sl (u.globals.map vaV) .ro,.sl (u.data.map scV) .ro,.sl (u.funcs.map fnV) .ro],.box [.im (.string f.name),.sl (f.vars.map vaV) .ro,.sl (f.body.map ndV) .ro],.box [.sl (vs.map vaV) .ro],.box [(V.fn (.func 154) [] [.pt 2 0]),.sl (fs.map tsV) .ro,.sl (ls.map tsV) (.own 4),.sl ((seenS [] (its.take (m+1))).map tsV) (.own 5)],.tip 9 1 ls.length,.tip 9 1 (seenS [] (its.take (m+1))).length] BN05 ?_;rw[hV];exact hnext (m+1) (by omega) (by omega) hV
  ·rw[if_neg b]
   rw[if_neg b]at hc;refine wG fI (A3 hlt' hg PL) ?_;refine AR.callS [3,2,4,5] hc rfl rfl (by first|(simp only[SR,aQ,aR,bE,bD,iP,bL,bQ,cG,jR];done)|(simp only[SR,aQ,aR,bE,bD,iP,bL,bQ,cG,jR];with_reducible exact rfl)) (by first|(simp only[SR,aQ,aR,bE,bD,iP,bL,bQ,cG,jR];done)|(simp only[SR,aQ,aR,bE,bD,iP,bL,bQ,cG,jR];with_reducible exact rfl)) (gW (by simp only[St.ev,V.ofVal,V.ofCell,V.size_im,fK,cZ,gX,Nat.reduceLT,Nat.reduceEqDiff,reduceIte,if_true,if_false,List.map_cons,List.map_nil,List.nil_append,List.cons_append,List.append_nil,mY])) (by first|rfl|simp only[List.length_cons,List.length_nil,Nat.reduceAdd,V.ids,V.idsL,idsA,entOk,List.all_cons,List.all_nil,Bool.and_self,Bool.and_true,Bool.true_and,ltB,noId,Nat.reduceLT,decide_true,Bool.true_eq_false,bU,bW,bV,bX,aC,aN,aE,aO,nP,aJ,aK,aV,fU,gQ,eJ,jX]) rfl rfl rfl (by first|rfl|simp only[List.length_cons,List.length_nil,Nat.reduceAdd,V.ids,V.idsL,idsA,entOk,List.all_cons,List.all_nil,Bool.and_self,Bool.and_true,Bool.true_and,ltB,noId,Nat.reduceLT,decide_true,Bool.true_eq_false,bU,bW,bV,bX,aC,aN,aE,aO,nP,aJ,aK,aV,fU,gQ,eJ,jX]) (by intro p hp;simp only[fH,SR,Ent.ren,List.mem_cons,List.not_mem_nil,or_false,aQ,aR,bE,bD,iP,bL,bQ,cG,jR]at hp;rcases hp with rfl|rfl|rfl|rfl<;>rfl) (by simp only[fH,Ent.ren,SR,aQ,aR,bE,bD,iP,bL,bQ,cG,jR,wrl,putE,SC,SD,Nat.reduceBEq,Nat.reduceLT,Nat.reduceSub,Nat.reduceAdd,Nat.reduceMul,Nat.reduceLeDiff,Nat.reduceEqDiff,reduceCtorEq,Int.reduceLT,Int.reduceLE,Int.reduceEq,Int.reduceNe,Int.reduceBEq,Int.reduceBNe,Int.reduceAdd,Int.reduceSub,Int.reduceMul,Int.reduceToNat];with_reducible exact rfl) ?_
   refine goG fI b ?_;refine wG fI b ?_;exact aD
 obtain rfl:m=its.length:=by omega
 clear hnext
 rw[List.drop_length]
 refine wG fI @Int.lt_irrefl ?_
 exact aD
def stV(x:List (List Nd)):V:=ndV (theS x)
def liV(x:List (List Nd)):V:=nlV (x.headD [])
def caV(x:List (List Nd)):V:= .sl (x.map nlV) .ro
theorem jQ(s:Nd):stV (oneS s)=ndV s:=rfl
theorem Um(g:Nat→Nat)(c:List Nd):V.ren g (nlV c)=nlV c:=V.ren_id g _ (aZ _ c)
theorem Js(g:Nat→Nat)(x:List (List Nd)):V.ren g (liV x)=liV x:=V.ren_id g _ (aZ _ _)
theorem Rj(p:Nat→Bool)(x:List (List Nd)):(liV x).ids p=true:=aZ _ _
theorem Ub(g:Nat→Nat)(x:List (List Nd)):V.ren g (stV x)=stV x:=V.ren_id g _ (aV _ _)
theorem CW(p:Nat→Bool)(x:List (List Nd)):(stV x).ids p=true:=aV _ _
theorem Rx(p:Nat→Bool)(x:List (List Nd)):(caV x).ids p=true:=by simp only[caV,V.ids,Bool.and_true];exact aK p x
theorem Vj(g:Nat→Nat)(x:List (List Nd)):V.ren g (caV x)=caV x:=V.ren_id g _ (Rx _ _)
theorem Nn(c:List (List Nd)):(liV c).live=true:=rfl
theorem Nm(c:List (List Nd)):(liV c).size=1:=rfl
theorem No(c:List (List Nd)):(liV c).isAg=false:=rfl
theorem Hk(c:List (List Nd)):(liV c).cells=[liV c]:=rfl
theorem Ot(c:List (List Nd)):(caV c).live=true:=rfl
theorem Or(c:List (List Nd)):(caV c).size=1:=rfl
theorem Ou(c:List (List Nd)):(caV c).isAg=false:=rfl
theorem Ib(c:List (List Nd)):(caV c).cells=[caV c]:=rfl
theorem Mp(c:List (List Nd)):(stV c).live=true:=tI _
theorem Mo(c:List (List Nd)):(stV c).size=7:=tH _
theorem Mq(c:List (List Nd)):(stV c).isAg=true:=xH _
theorem Gy(c:List (List Nd)):(stV c).cells=[.im (.int .i64 (theS c).kind),.im (.int .i64 (theS c).width),.im (.string (theS c).name),.sl ((theS c).e.map exV) .ro,.sl ((theS c).l.map ndV) .ro,.sl ((theS c).el.map ndV) .ro,.sl ((theS c).cs.map nlV) .ro]:=uG _
theorem LIT:type_of%(A12 @Nn @Nm @No @Hk @Ot @Or @Ou @Ib @Mp @Mo @Mq @Gy) :=
 A12 @Nn @Nm @No @Hk @Ot @Or @Ou @Ib @Mp @Mo @Mq @Gy
def dW:=A13 @jB @cN @iL @kD @jV @gT @iE @iV @yJ @iA @cM @iJ @dP
def dC:=A8 aX bC @aE @aC aV aJ aZ aK
def fJ:=A7 eW eX @aQ @aR cG bL bQ
set_option maxHeartbeats 4000000 in
theorem HJ{ts:List Tk}{f:Nat}(hts:ts.length≤4194304)(a o:Nat)(ho:o≤256)(r:Rs (List (List Nd)))(h:zF ts f a o=some r):XC Tryz.prog 215 [.pt 0 0] ts a o stV r:=by
 unfold zF at h
 refine XC.enter 24 Tryz.func215 rfl (by decide) rfl rfl (s:=[(0,.pt 0 0)]) (by rfl) ?_
 refine wG dW TI ?_
 rcases aU h with ⟨b1,e1,h1,rfl⟩|⟨nm,a1,o1,h1,h⟩
 ·exact PA.callP [0] ((kF ts a o hts _ h1).fails) TI dC fJ (fun _=>PFin.i rfl rfl)
 refine aA [0] (((kF ts a o hts _ h1).good)) TI dC fJ ?_
 refine goG dW TI ?_
 obtain⟨_,rfl,hoe,hlt⟩:=eQ h1
 subst o1
 clear h1
 refine wG dW TI ?_
 have hq:=dU ts (a+1) o [58] hts
 rcases aF h with ⟨hk,h⟩|⟨hk,h⟩
 ·rw[if_pos hk,hk]at hq
  cases h
  refine aA [0] hq TI dC fJ ?_;refine goG dW TI ?_;refine wG dW TI ?_;refine aP (rs:=[.cell 2 165]) rfl (by first|exact .inl rfl|exact .inr rfl) (finG dW) ?_ rfl (idG dC)
  simp only[jQ,eR,List.map_nil]
  all_goals exact wkG dC
 rw[if_neg hk]at hq
 rw[Bool.not_eq_true]at hk
 rw[hk]at hq
 refine aA [0] hq TI dC fJ ?_
 refine goG dW TI ?_
 refine wG dW TI ?_
 rcases aU h with ⟨b1,e1,h1,rfl⟩|⟨_,a2,o2,h1,h⟩
 ·exact PA.callP [0] ((bT ts (a+1) o [61] hts _ h1).fails) TI dC fJ (fun _=>PFin.i rfl rfl)
 refine aA [0] (((bT ts (a+1) o [61] hts _ h1).good)) TI dC fJ ?_
 refine goG dW TI ?_
 obtain⟨_,rfl,hoe⟩:=bH h1
 subst o2
 clear h1
 refine wG dW TI ?_
 have hq:=dU ts (a+1+1) o [105,110] hts
 rcases aF h with ⟨hk2,h⟩|⟨hk2,h⟩
 ·rw[if_pos hk2,hk2]at hq
  refine aA [0] hq TI dC fJ ?_;refine goG dW TI ?_;refine wG dW TI ?_;rcases aU h with ⟨b1,e1,h1,rfl⟩|⟨_,a3,o3,h1,h⟩
  ·exact PA.callP [0] ((bT ts (a+1+1+1) o [59] hts _ h1).fails) TI dC fJ (fun _=>PFin.i rfl rfl)
  refine aA [0] (((bT ts (a+1+1+1) o [59] hts _ h1).good)) TI dC fJ ?_;refine goG dW TI ?_;cases h
  refine wG dW TI ?_;refine aP (rs:=[.cell 2 165]) rfl (by first|exact .inl rfl|exact .inr rfl) (finG dW) ?_ rfl (idG dC)
  simp only[jQ,eR,List.map_nil]
  all_goals exact wkG dC
 rw[if_neg hk2]at hq
 rw[Bool.not_eq_true]at hk2
 rw[hk2]at hq
 refine aA [0] hq TI dC fJ ?_
 refine goG dW TI ?_
 refine wG dW TI ?_
 rcases aU h with ⟨b1,e1,h1,rfl⟩|⟨x,a3,o3,h1,h⟩
 ·exact PA.callP [0] ((vN hts f 1 (a+1+1) o (by decide) ho _ h1).fails) i1 dC fJ (fun _=>PFin.i rfl rfl)
 refine aA [0] (((vN hts f 1 (a+1+1) o (by decide) ho _ h1).good)) i1 dC fJ ?_
 refine goG dW BN01 ?_
 have hoe:=(dM ts _ _ _ _ _ _ _ h1).1
 subst o3
 refine wG dW BN01 ?_
 rcases aU h with ⟨b1,e1,h1,rfl⟩|⟨_,a4,o4,h1,h⟩
 ·exact PA.callP [0] ((bT ts a3 o [59] hts _ h1).fails) TI dC fJ (fun _=>PFin.i rfl rfl)
 refine aA [0] (((bT ts a3 o [59] hts _ h1).good)) TI dC fJ ?_
 refine goG dW TI ?_
 cases h
 refine wG dW BN01 ?_
 refine aP (rs:=[.cell 2 165]) rfl (by first|exact .inl rfl|exact .inr rfl) (finG dW) ?_ rfl (idG dC)
 simp only[jQ,eR,List.map_nil,List.map_cons];rw[bK x]
 all_goals exact wkG dC
def hX:=A11 @jB @iL @fM @kD @jV @gT @iV @yJ @iA @iJ @dP
set_option maxHeartbeats 4000000 in
theorem Kg{ts:List Tk}{f:Nat}(hts:ts.length≤4194304)(w:Int)(a o:Nat)(ho:o≤256)(r:Rs (List (List Nd)))(h:kR ts f w a o=some r):XC Tryz.prog 216 [.pt 0 0,(.im (.int .i64 (w)))] ts a o stV r:=by
 unfold kR at h
 refine XC.enter 27 Tryz.func216 rfl (by decide) rfl rfl (s:=[(0,.pt 0 0),(1,(.im (.int .i64 (w))))]) (by rfl) ?_
 refine wG hX TI ?_
 rcases aU h with ⟨b1,e1,h1,rfl⟩|⟨_,a1,o1,h1,h⟩
 ·exact PA.callP [0] ((fL ts a o [40] hts _ h1).fails) TI dC fJ (fun _=>PFin.i rfl rfl)
 refine aA [0] (((fL ts a o [40] hts _ h1).good)) TI dC fJ ?_
 refine goG hX TI ?_
 obtain⟨_,ho1,rfl,rfl⟩:=bO h1
 clear h1
 refine wG hX TI ?_
 rcases aU h with ⟨b1,e1,h1,rfl⟩|⟨x,a2,o2,h1,h⟩
 ·exact PA.callP [0] ((vN hts f 1 (a+1) (o+1) (by decide) (by omega) _ h1).fails) i1 dC fJ (fun _=>PFin.i rfl rfl)
 refine aA [0] (((vN hts f 1 (a+1) (o+1) (by decide) (by omega) _ h1).good)) i1 dC fJ ?_
 refine goG hX BN01 ?_
 obtain⟨rfl,_⟩:=dM ts _ _ _ _ _ _ _ h1
 clear h1
 refine wG hX BN01 ?_
 rcases aU h with ⟨b1,e1,h1,rfl⟩|⟨_,a3,o3,h1,h⟩
 ·exact PA.callP [0] ((bT ts a2 (o+1) [44] hts _ h1).fails) TI dC fJ (fun _=>PFin.i rfl rfl)
 refine aA [0] (((bT ts a2 (o+1) [44] hts _ h1).good)) TI dC fJ ?_
 refine goG hX TI ?_
 obtain⟨_,rfl,rfl⟩:=bH h1
 clear h1
 refine wG hX TI ?_
 rcases aU h with ⟨b1,e1,h1,rfl⟩|⟨y,a4,o4,h1,h⟩
 ·exact PA.callP [0] ((vN hts f 1 (a2+1) (o+1) (by decide) (by omega) _ h1).fails) i1 dC fJ (fun _=>PFin.i rfl rfl)
 refine aA [0] (((vN hts f 1 (a2+1) (o+1) (by decide) (by omega) _ h1).good)) i1 dC fJ ?_
 refine goG hX BN01 ?_
 obtain⟨rfl,_⟩:=dM ts _ _ _ _ _ _ _ h1
 clear h1
 refine wG hX BN01 ?_
 rcases aU h with ⟨b1,e1,h1,rfl⟩|⟨_,a5,o5,h1,h⟩
 ·exact PA.callP [0] ((oX ts a4 (o+1) [41] hts (by omega) (by omega) _ h1).fails) TI dC fJ (fun _=>PFin.i rfl rfl)
 refine aA [0] (((oX ts a4 (o+1) [41] hts (by omega) (by omega) _ h1).good)) TI dC fJ ?_
 refine goG hX TI ?_
 obtain⟨_,rfl,hoe⟩:=iQ h1
 rw[Nat.add_sub_cancel]at hoe
 subst o5
 clear h1
 refine wG hX TI ?_
 rcases aU h with ⟨b1,e1,h1,rfl⟩|⟨_,a6,o6,h1,h⟩
 ·exact PA.callP [0] ((bT ts (a4+1) o [59] hts _ h1).fails) TI dC fJ (fun _=>PFin.i rfl rfl)
 refine aA [0] (((bT ts (a4+1) o [59] hts _ h1).good)) TI dC fJ ?_
 refine goG hX TI ?_
 cases h
 refine wG hX BN01 ?_
 refine aP (rs:=[.cell 4 165]) rfl (by first|exact .inl rfl|exact .inr rfl) (finG hX) ?_ rfl (idG dC)
 simp only[jQ,eR,List.map_nil,List.map_cons];rw[bK x,bK y]
 all_goals exact wkG dC
def yD:=A4 @jB @kD @yJ @iA
theorem uS{ts:List Tk}(hts:ts.length≤4194304)(k:Int)(a o:Nat)(ho:o≤256)(r:Rs (List (List Nd)))(h:kS ts k a o=some r):XC Tryz.prog 219 [.pt 0 0,(.im (.int .i64 (k)))] ts a o stV r:=by
 unfold kS at h
 refine XC.enter 9 Tryz.func219 rfl (by decide) rfl rfl (s:=[(0,.pt 0 0),(1,(.im (.int .i64 (k))))]) (by rfl) ?_
 refine wG yD TI ?_
 rcases aU h with ⟨b1,e1,h1,rfl⟩|⟨_,a1,o1,h1,h⟩
 ·exact PA.callP [0] ((bT ts a o [59] hts _ h1).fails) TI dC fJ (fun _=>PFin.i rfl rfl)
 refine aA [0] (((bT ts a o [59] hts _ h1).good)) TI dC fJ ?_
 refine goG yD TI ?_
 cases h
 refine wG yD TI ?_
 refine aP (rs:=[.cell 4 165]) rfl (by first|exact .inl rfl|exact .inr rfl) (finG yD) ?_ rfl (idG dC)
 simp only[jQ,eR,List.map_nil]
 all_goals exact wkG dC
def BN08:=A9 LIT @fR @eD @fP @fO @fQ @eE @List.getElem?_map.{0,0} @Int.natCast_nonneg
def StC(ts:List Tk)(f:Nat):Prop:= ∀a o:Nat,o≤256→ ∀r,stM ts f .st a o=some r→XC Tryz.prog 168 [.pt 0 0] ts a o stV r
def LiC(ts:List Tk)(f:Nat):Prop:= ∀a o:Nat,o≤256→ ∀r,stM ts f (.li []) a o=some r→XC Tryz.prog 107 [.pt 0 0] ts a o liV r
def BrC(ts:List Tk)(f:Nat):Prop:= ∀a o:Nat,o≤256→ ∀r,stM ts f .br a o=some r→XC Tryz.prog 217 [.pt 0 0] ts a o liV r
def CaC(ts:List Tk)(f:Nat):Prop:= ∀a o:Nat,o≤256→ ∀r,rb (begM ts [123] a o) (fun _ a o=>stM ts f (.ca []) a o)=some r→XC Tryz.prog 218 [.pt 0 0] ts a o caV r
theorem Lt{n:Int}(h:0≤n∧n≤9223372036854775807):IntKind.u64.wrap n=n:=by
 show n%18446744073709551616=n
 omega
theorem EO(l:List Nd):jZ 7 (l.map ndV)=true:=by
 unfold jZ
 rw[List.all_map]
 exact List.all_eq_true.2 fun x _=>by simp[tH,tI]
theorem Ul(l:List (List Nd)):jZ 1 (l.map nlV)=true:=by
 unfold jZ
 rw[List.all_map]
 exact List.all_eq_true.2 fun x _=>rfl
def kC:=A4 @kD @IW @pD @iA
def eU:=A11 aX bC @aE @aC aV aJ aZ aK Rj CW Rx
def iC:=A11 eW eX @aQ @aR cG bL bQ Um Js Ub Vj
set_option maxHeartbeats 4000000 in
theorem HK{ts:List Tk}(hts:ts.length≤4194304)(F:Nat)(hS: ∀f,f<F→StC ts f):LiC ts F:=by
 intro a o ho r h
 refine XC.enter 13 Tryz.func107 rfl (by decide) rfl rfl (s:=[(0,.pt 0 0)]) (by rfl) ?_
 refine wG kC TI ?_
 refine aW ?_
 refine ALp.ghost 3 [] .nl 165 7 ?_
 suffices H: ∀(f:Nat),f≤F→ ∀(l:List Nd) (a:Nat),l.length≤a→stM ts f (.li l) a o=some r→ALp _ _ _ _ _ ⟨dn 13 [(0,.pt 0 0),(3,.sl ((l).map ndV) (.own 1))],ofl [.box [.sl (ts.map tkV) .ro,(.im (.int .i64 ((a:Nat)))),(.im (.int .i64 ((o:Nat))))],.tip 165 7 (l).length]⟩ by
  refine ALp.cutP 2 [(0,.pt 0 0),(3,.sl ((([]:List Nd)).map ndV) (.own 1))] [.box [.sl (ts.map tkV) .ro,(.im (.int .i64 ((a:Nat)))),(.im (.int .i64 ((o:Nat))))],.tip 165 7 (([]:List Nd)).length] eU ?_;exact H F (Nat.le_refl _) [] a (Nat.zero_le _) h
 clear h
 intro f
 induction f with
 | zero=>intro _ l a _ h;cases h
 | succ f ih =>
 intro hf l a hla h
 rw[stM]at h
 have hs:=nY ts a o [125]
 refine dA ?_
 rcases aF h with ⟨hk,h⟩|⟨hk,h⟩
 ·rw[hk]at hs
  cases h
  refine wG kC TI ?_;refine aA [0] hs TI eU iC ?_;refine goG kC TI ?_;refine wG kC TI ?_;refine aP (rs:=[.tmp 2]) rfl (by first|exact .inl rfl|exact .inr rfl) (finG kC) ?_ rfl (idG eU)
  show WkF _ _ _ (.sl (l.map ndV) .ro)
  all_goals exact wkG eU
 rw[Bool.not_eq_true]at hk
 rw[hk]at hs
 refine wG kC TI ?_
 refine aA [0] hs TI eU iC ?_
 refine goG kC TI ?_
 refine wG kC TI ?_
 rcases aU h with ⟨b1,e1,h1,rfl⟩|⟨x,a1,o1,h1,hk2⟩
 ·exact PA.callP [0] ((hS f (by omega) a o ho _ h1).fails) TI eU iC (fun _=>PFin.i rfl rfl)
 obtain⟨hoe,hlt,hle⟩:=(fN ts f).1 _ _ _ _ _ h1
 have hc:=(hS f (by omega) a o ho _ h1).good
 change DC _ _ _ _ (ndV (theS x)) _ at hc
 subst o1
 generalize theS x=s at hc hk2
 obtain⟨B,hB⟩: ∃B,B=l++[s]:=⟨_,rfl⟩
 have hAs:l.map ndV++[ndV s]=B.map ndV:=by rw[hB,List.map_append];rfl
 have hAl:l.length+1=B.length:=by rw[hB];simp
 have hbl:B.length*128≤140737488355328:=by omega
 have h4:stM ts f (.li B) a1 o=some r:=by rw[hB];exact hk2
 refine aA [0] hc TI eU iC ?_
 refine goG kC (A6 ND hAs hAl hbl EO @List.length_map.{0,0}) ?_
 refine wG kC (A6 ND hAs hAl hbl EO @List.length_map.{0,0}) ?_
 refine ALp.cutP 2 [(0,.pt 0 0),(3,.sl ((B).map ndV) (.own 1))] [.box [.sl (ts.map tkV) .ro,(.im (.int .i64 ((a1:Nat)))),(.im (.int .i64 ((o:Nat))))],.tip 165 7 (B).length] eU ?_
 exact ih (by omega) B a1 (by omega) h4
theorem HZ{ts:List Tk}(hts:ts.length≤4194304)(f:Nat)(hL:LiC ts f):BrC ts (f+1):=by
 intro a o ho r h
 rw[stM]at h
 refine XC.enter 11 Tryz.func217 rfl (by decide) rfl rfl (s:=[(0,.pt 0 0)]) (by rfl) ?_
 refine wG TI TI ?_
 rcases aU h with ⟨b1,e1,h1,rfl⟩|⟨_,a1,o1,h1,h⟩
 ·exact PA.callP [0] ((fL ts a o [123] hts _ h1).fails) TI eU iC (fun _=>PFin.i rfl rfl)
 refine aA [0] (((fL ts a o [123] hts _ h1).good)) TI eU iC ?_
 refine goG TI TI ?_
 obtain⟨_,ho1,rfl,rfl⟩:=bO h1
 clear h1
 refine wG TI TI ?_
 rcases aU h with ⟨b1,e1,h1,rfl⟩|⟨l,a2,o2,h1,h⟩
 ·exact PA.callP [0] ((hL (a+1) (o+1) (by omega) _ h1).fails) TI eU iC (fun _=>PFin.i rfl rfl)
 refine aA [0] (((hL (a+1) (o+1) (by omega) _ h1).good)) TI eU iC ?_
 refine goG TI TI ?_
 obtain⟨rfl,_,_⟩:=(fN ts f).2.1 _ _ _ _ _ _ h1
 clear h1
 refine wG TI TI ?_
 rcases aU h with ⟨b1,e1,h1,rfl⟩|⟨_,a3,o3,h1,h⟩
 ·exact PA.callP [0] ((oX ts a2 (o+1) [125] hts (by omega) (by omega) _ h1).fails) TI eU iC (fun _=>PFin.i rfl rfl)
 refine aA [0] (((oX ts a2 (o+1) [125] hts (by omega) (by omega) _ h1).good)) TI eU iC ?_
 refine goG TI TI ?_
 cases h
 refine wG TI TI ?_
 refine aP (rs:=[.tmp 2]) rfl (by first|exact .inl rfl|exact .inr rfl) (finG TI) ?_ rfl (idG eU)
 all_goals exact wkG eU
def fS:=A16 @cN @mQ @jO @Ll @Wg @lK @kQ @oJ @fT @qL @tX @sD @gR @cM @jH (A4 @mP @qK @tV @rW)
set_option maxHeartbeats 4000000 in
theorem NI{ts:List Tk}(hts:ts.length≤4194304)(hok: ∀t∈ts,TkOk t)(F:Nat)(hB: ∀f,f<F→BrC ts f):CaC ts F:=by
 intro a0 o ho r h
 refine XC.enter 40 Tryz.func218 rfl (by decide) rfl rfl (s:=[(0,.pt 0 0)]) (by rfl) ?_
 refine wG fS TI ?_
 rcases aU h with ⟨b1,e1,h1,rfl⟩|⟨_,a1,o1,h1,h⟩
 ·exact PA.callP [0] ((fL ts a0 o [123] hts _ h1).fails) TI eU iC (fun _=>PFin.i rfl rfl)
 refine aA [0] (((fL ts a0 o [123] hts _ h1).good)) TI eU iC ?_
 refine goG fS TI ?_
 obtain⟨_,ho1,rfl,rfl⟩:=bO h1
 clear h1
 refine wG fS TI ?_
 refine aW ?_
 refine ALp.ghost 3 [] .nl 35 1 ?_
 suffices H: ∀(f:Nat),f≤F→ ∀(l:List (List Nd)) (a:Nat),l.length≤a→stM ts f (.ca l) a (o+1)=some r→ALp _ _ _ _ _ ⟨dn 40 [(0,.pt 0 0),(3,.sl ((l).map nlV) (.own 1))],ofl [.box [.sl (ts.map tkV) .ro,(.im (.int .i64 ((a:Nat)))),(.im (.int .i64 ((o+1:Nat))))],.tip 35 1 (l).length]⟩ by
  refine ALp.cutP 2 [(0,.pt 0 0),(3,.sl ((([]:List (List Nd))).map nlV) (.own 1))] [.box [.sl (ts.map tkV) .ro,(.im (.int .i64 ((a0+1:Nat)))),(.im (.int .i64 ((o+1:Nat))))],.tip 35 1 (([]:List (List Nd))).length] eU ?_;exact H F (Nat.le_refl _) [] (a0+1) (Nat.zero_le _) h
 clear h
 intro f
 induction f with
 | zero=>intro _ l a _ h;cases h
 | succ f ih =>
 intro hf l a hla h
 rw[stM]at h
 have hq:=dU ts a (o+1) [99,97,115,101] hts
 refine dA ?_
 rcases aF h with ⟨hk,h⟩|⟨hk,h⟩
 case inr =>
  rw[if_neg hk]at hq;rw[Bool.not_eq_true]at hk;rw[hk]at hq;refine wG fS TI ?_;refine aA [0] hq TI eU iC ?_;refine goG fS TI ?_;refine wG fS TI ?_;rcases aU h with ⟨b1,e1,h1,rfl⟩|⟨_,a3,o3,h1,h⟩
  ·exact PA.callP [0] ((oX ts a (o+1) [125] hts (by omega) (by omega) _ h1).fails) TI eU iC (fun _=>PFin.i rfl rfl)
  refine aA [0] (((oX ts a (o+1) [125] hts (by omega) (by omega) _ h1).good)) TI eU iC ?_
  refine goG fS TI ?_;cases h
  refine wG fS TI ?_;refine aP (rs:=[.tmp 2]) rfl (by first|exact .inl rfl|exact .inr rfl) (finG fS) ?_ rfl (idG eU)
  show WkF _ _ _ (.sl (l.map nlV) .ro)
  all_goals exact wkG eU
 have hlt:=bI hk
 rw[if_pos hk,hk]at hq
 have hp:=wE ts (a+1) (o+1)
 have hf:=nZ ts (a+1) (o+1) 3
 have hn:=tD hok (a+1)
 have hkl:=fun hh=>dZ (ts:=ts) (a:=a+1) (k:=3) hh (by decide)
 generalize pk ts (a+1)=t at hp hn h hkl
 refine wG fS TI ?_
 refine aA [0] hq TI eU iC ?_
 refine goG fS TI ?_
 refine wG fS TI ?_
 refine aA [0] hp TI eU iC ?_
 refine goG fS TKT ?_
 have hw1:IntKind.u64.wrap t.n=t.n:=Lt (by omega)
 have hw2:IntKind.u64.wrap (l.length:Int)=(l.length:Int):=Lt (by omega)
 by_cases k3:t.kind=3
 case neg =>
  rw[if_neg (fun hh=>k3 hh.1)]at h
  cases h
  refine wG fS (A5 TKT k3 hw1 hw2 @List.length_map.{0,0}) ?_;exact PA.callP [0] hf TI eU iC (fun _=>PFin.i rfl rfl)
 by_cases kn:t.n=l.length
 case neg =>
  rw[if_neg (fun hh=>kn hh.2)]at h
  cases h
  refine wG fS (A6 TKT k3 kn hw1 hw2 @List.length_map.{0,0}) ?_;exact PA.callP [0] hf TI eU iC (fun _=>PFin.i rfl rfl)
 rw[if_pos ⟨k3,kn⟩]at h
 have hlt2:=hkl k3
 have hw:=aT (m:=a+1) (N:=4194304) (by omega) (by decide)
 refine wG fS (A7 TKT k3 kn hw1 hw2 hw @List.length_map.{0,0}) ?_
 rcases aU h with ⟨b1,e1,h1,rfl⟩|⟨x,a1,o1,h1,hk2⟩
 ·exact PA.callP [0] ((hB f (by omega) (a+2) (o+1) (by omega) _ h1).fails) TI eU iC (fun _=>PFin.i rfl rfl)
 obtain⟨hoe,hlt3,hle⟩:=(fN ts f).2.2.1 _ _ _ _ _ h1
 have hc:=(hB f (by omega) (a+2) (o+1) (by omega) _ h1).good
 change DC _ _ _ _ (nlV (x.headD [])) _ at hc
 subst hoe
 generalize x.headD []=s at hc hk2
 obtain⟨B,hB⟩: ∃B,B=l++[s]:=⟨_,rfl⟩
 have hAs:l.map nlV++[nlV s]=B.map nlV:=by rw[hB,List.map_append];rfl
 have hAl:l.length+1=B.length:=by rw[hB];simp
 have hbl:B.length*24≤140737488355328:=by omega
 have h4:stM ts f (.ca B) a1 (o+1)=some r:=by rw[hB];exact hk2
 refine aA [0] hc TI eU iC ?_
 refine goG fS (A6 ND hAs hAl hbl Ul @List.length_map.{0,0}) ?_
 refine wG fS (A6 ND hAs hAl hbl Ul @List.length_map.{0,0}) ?_
 refine ALp.cutP 2 [(0,.pt 0 0),(3,.sl ((B).map nlV) (.own 1))] [.box [.sl (ts.map tkV) .ro,(.im (.int .i64 ((a1:Nat)))),(.im (.int .i64 ((o+1:Nat))))],.tip 35 1 (B).length] eU ?_
 exact ih (by omega) B a1 (by omega) h4
theorem Mz{α β γ:Type}(r:Option (Rs α))(k:α→Nat→Nat→Option (Rs β))(k2:β→Nat→Nat→Option (Rs γ)):rb (rb r k) k2=rb r fun x a o=>rb (k x a o) k2:=by
 match r with
 | none=>rfl
 | some (.bad a e)=>rfl
 | some (.ok x a o)=>rfl
theorem tA(x:List (List Nd)):stV x= .ag [.im (.int .i64 (theS x).kind),.im (.int .i64 (theS x).width),.im (.string (theS x).name),.sl ((theS x).e.map exV) .ro,.sl ((theS x).l.map ndV) .ro,.sl ((theS x).el.map ndV) .ro,.sl ((theS x).cs.map nlV) .ro]:=eS _
theorem Do(l:List (List Nd)):liV l= .sl ((l.headD []).map ndV) .ro:=rfl
def aH:=A16 @oK @jB @cN @kL @kD @jV @gT @kQ @mC @mB @mA @yJ @oI @iA @cM (AI @jH @dP)
def aS:=A11 aX bC @aE @aC aV aJ aZ aK Rj CW Rx
def bF:=A11 eW eX @aQ @aR cG bL bQ Um Js Ub Vj
set_option maxHeartbeats 8000000 in
theorem MQ{ts:List Tk}{f:Nat}(hts:ts.length≤4194304)(hB:BrC ts f)(hC:CaC ts f):StC ts (f+1):=by
 intro a o ho r h
 have hp:=wE ts a o
 have hf:=nZ ts a o 3
 rw[stM]at h
 refine XC.enter 126 Tryz.func168 rfl (by decide) rfl rfl (s:=[(0,.pt 0 0)]) (by rfl) ?_
 refine wG aH TI ?_
 rcases aF h with ⟨hk,h⟩|⟨hk,h⟩
 ·have hc:=HJ hts a o ho r h
  generalize pk ts a=t at hp hk;refine aA [0] hp TI aS bF ?_;refine goG aH (AI TKT hk) ?_;refine wG aH (AI TKT hk) ?_;cases r with
  | bad b e1 =>
   exact PA.callP [0] hc.fails TI aS bF (fun _=>PFin.i rfl rfl)
  | ok x b p =>
   refine aA [0] hc.good TI aS bF ?_;refine goG aH LIT ?_;refine wG aH LIT ?_;refine aP (rs:=[.cell 2 165]) rfl (by first|exact .inl rfl|exact .inr rfl) (finG aH) ?_ rfl (idG aS)
   rw[tA x]
   all_goals exact wkG aS
 generalize pk ts a=t at hp hk
 refine aA [0] hp TI aS bF ?_
 refine goG aH (AI TKT hk) ?_
 refine wG aH (AI TKT hk) ?_
 clear hk hp
 have hq:=dU ts a o [103,111,116,111] hts
 rcases aF h with ⟨hk,h⟩|⟨hk,h⟩
 ·rw[if_pos hk,hk]at hq
  refine aA [0] hq TI aS bF ?_;refine goG aH TI ?_;refine wG aH TI ?_;rcases aU h with ⟨b1,e1,h1,rfl⟩|⟨nm,a1,o1,h1,h⟩
  ·exact PA.callP [0] ((kF ts (a+1) o hts _ h1).fails) TI aS bF (fun _=>PFin.i rfl rfl)
  refine aA [0] (((kF ts (a+1) o hts _ h1).good)) TI aS bF ?_;refine goG aH TI ?_;obtain⟨_,rfl,hoe,hlt⟩:=eQ h1;subst o1;clear h1;refine wG aH TI ?_;rcases aU h with ⟨b1,e1,h1,rfl⟩|⟨_,a2,o2,h1,h⟩
  ·exact PA.callP [0] ((bT ts (a+1+1) o [59] hts _ h1).fails) TI aS bF (fun _=>PFin.i rfl rfl)
  refine aA [0] (((bT ts (a+1+1) o [59] hts _ h1).good)) TI aS bF ?_;refine goG aH TI ?_;cases h
  refine wG aH TI ?_;refine aP (rs:=[.cell 2 165]) rfl (by first|exact .inl rfl|exact .inr rfl) (finG aH) ?_ rfl (idG aS)
  simp only[jQ,eR,List.map_nil]
  all_goals exact wkG aS
 rw[if_neg hk]at hq
 rw[Bool.not_eq_true]at hk
 rw[hk]at hq
 refine aA [0] hq TI aS bF ?_
 refine goG aH TI ?_
 refine wG aH TI ?_
 clear hk hq
 have hq:=dU ts a o [99,97,108,108] hts
 rcases aF h with ⟨hk,h⟩|⟨hk,h⟩
 ·rw[if_pos hk,hk]at hq
  refine aA [0] hq TI aS bF ?_;refine goG aH TI ?_;refine wG aH TI ?_;rcases aU h with ⟨b1,e1,h1,rfl⟩|⟨nm,a1,o1,h1,h⟩
  ·exact PA.callP [0] ((kF ts (a+1) o hts _ h1).fails) TI aS bF (fun _=>PFin.i rfl rfl)
  refine aA [0] (((kF ts (a+1) o hts _ h1).good)) TI aS bF ?_;refine goG aH TI ?_;obtain⟨_,rfl,hoe,hlt⟩:=eQ h1;subst o1;clear h1;refine wG aH TI ?_;rcases aU h with ⟨b1,e1,h1,rfl⟩|⟨_,a2,o2,h1,h⟩
  ·exact PA.callP [0] ((bT ts (a+1+1) o [59] hts _ h1).fails) TI aS bF (fun _=>PFin.i rfl rfl)
  refine aA [0] (((bT ts (a+1+1) o [59] hts _ h1).good)) TI aS bF ?_;refine goG aH TI ?_;cases h
  refine wG aH TI ?_;refine aP (rs:=[.cell 2 165]) rfl (by first|exact .inl rfl|exact .inr rfl) (finG aH) ?_ rfl (idG aS)
  simp only[jQ,eR,List.map_nil]
  all_goals exact wkG aS
 rw[if_neg hk]at hq
 rw[Bool.not_eq_true]at hk
 rw[hk]at hq
 refine aA [0] hq TI aS bF ?_
 refine goG aH TI ?_
 refine wG aH TI ?_
 clear hk hq
 have hq:=dU ts a o [115,116,111,114,101,49] hts
 rcases aF h with ⟨hk,h⟩|⟨hk,h⟩
 ·rw[if_pos hk,hk]at hq
  refine aA [0] hq TI aS bF ?_;refine goG aH TI ?_;refine wG aH TI ?_;have hc:=Kg hts 1 (a+1) o ho r h;cases r with
  | bad b e1 =>
   exact PA.callP [0] hc.fails TI aS bF (fun _=>PFin.i rfl rfl)
  | ok x b p =>
   refine aA [0] hc.good TI aS bF ?_;refine goG aH LIT ?_;refine wG aH LIT ?_;refine aP (rs:=[.cell 2 165]) rfl (by first|exact .inl rfl|exact .inr rfl) (finG aH) ?_ rfl (idG aS)
   rw[tA x]
   all_goals exact wkG aS
 rw[if_neg hk]at hq
 rw[Bool.not_eq_true]at hk
 rw[hk]at hq
 refine aA [0] hq TI aS bF ?_
 refine goG aH TI ?_
 refine wG aH TI ?_
 clear hk hq
 have hq:=dU ts a o [115,116,111,114,101,50] hts
 rcases aF h with ⟨hk,h⟩|⟨hk,h⟩
 ·rw[if_pos hk,hk]at hq
  refine aA [0] hq TI aS bF ?_;refine goG aH TI ?_;refine wG aH TI ?_;have hc:=Kg hts 2 (a+1) o ho r h;cases r with
  | bad b e1 =>
   exact PA.callP [0] hc.fails TI aS bF (fun _=>PFin.i rfl rfl)
  | ok x b p =>
   refine aA [0] hc.good TI aS bF ?_;refine goG aH LIT ?_;refine wG aH LIT ?_;refine aP (rs:=[.cell 2 165]) rfl (by first|exact .inl rfl|exact .inr rfl) (finG aH) ?_ rfl (idG aS)
   rw[tA x]
   all_goals exact wkG aS
 rw[if_neg hk]at hq
 rw[Bool.not_eq_true]at hk
 rw[hk]at hq
 refine aA [0] hq TI aS bF ?_
 refine goG aH TI ?_
 refine wG aH TI ?_
 clear hk hq
 have hq:=dU ts a o [115,116,111,114,101,52] hts
 rcases aF h with ⟨hk,h⟩|⟨hk,h⟩
 ·rw[if_pos hk,hk]at hq
  refine aA [0] hq TI aS bF ?_;refine goG aH TI ?_;refine wG aH TI ?_;have hc:=Kg hts 4 (a+1) o ho r h;cases r with
  | bad b e1 =>
   exact PA.callP [0] hc.fails TI aS bF (fun _=>PFin.i rfl rfl)
  | ok x b p =>
   refine aA [0] hc.good TI aS bF ?_;refine goG aH LIT ?_;refine wG aH LIT ?_;refine aP (rs:=[.cell 2 165]) rfl (by first|exact .inl rfl|exact .inr rfl) (finG aH) ?_ rfl (idG aS)
   rw[tA x]
   all_goals exact wkG aS
 rw[if_neg hk]at hq
 rw[Bool.not_eq_true]at hk
 rw[hk]at hq
 refine aA [0] hq TI aS bF ?_
 refine goG aH TI ?_
 refine wG aH TI ?_
 clear hk hq
 have hq:=dU ts a o [111,117,116] hts
 rcases aF h with ⟨hk,h⟩|⟨hk,h⟩
 ·rw[if_pos hk,hk]at hq
  refine aA [0] hq TI aS bF ?_;refine goG aH TI ?_;refine wG aH TI ?_;rcases aU h with ⟨b1,e1,h1,rfl⟩|⟨x,a1,o1,h1,h⟩
  ·exact PA.callP [0] ((vN hts f 1 (a+1) o (by decide) ho _ h1).fails) i1 aS bF (fun _=>PFin.i rfl rfl)
  refine aA [0] (((vN hts f 1 (a+1) o (by decide) ho _ h1).good)) i1 aS bF ?_
  refine goG aH BN01 ?_;obtain⟨hoe,_⟩:=dM ts _ _ _ _ _ _ _ h1;subst o1;clear h1;refine wG aH BN01 ?_;rcases aU h with ⟨b1,e1,h1,rfl⟩|⟨_,a2,o2,h1,h⟩
  ·exact PA.callP [0] ((bT ts a1 o [59] hts _ h1).fails) TI aS bF (fun _=>PFin.i rfl rfl)
  refine aA [0] (((bT ts a1 o [59] hts _ h1).good)) TI aS bF ?_;refine goG aH TI ?_;cases h
  refine wG aH BN01 ?_;refine aP (rs:=[.cell 2 165]) rfl (by first|exact .inl rfl|exact .inr rfl) (finG aH) ?_ rfl (idG aS)
  simp only[jQ,eR,List.map_nil,List.map_cons];rw[bK x]
  all_goals exact wkG aS
 rw[if_neg hk]at hq
 rw[Bool.not_eq_true]at hk
 rw[hk]at hq
 refine aA [0] hq TI aS bF ?_
 refine goG aH TI ?_
 refine wG aH TI ?_
 clear hk hq
 have hq:=dU ts a o [105,102] hts
 rcases aF h with ⟨hk,h⟩|⟨hk,h⟩
 ·rw[if_pos hk,hk]at hq
  refine aA [0] hq TI aS bF ?_;refine goG aH TI ?_;refine wG aH TI ?_;rcases aU h with ⟨b1,e1,h1,rfl⟩|⟨x,a1,o1,h1,h⟩
  ·exact PA.callP [0] ((vN hts f 1 (a+1) o (by decide) ho _ h1).fails) i1 aS bF (fun _=>PFin.i rfl rfl)
  refine aA [0] (((vN hts f 1 (a+1) o (by decide) ho _ h1).good)) i1 aS bF ?_
  refine goG aH BN01 ?_;obtain⟨hoe,_⟩:=dM ts _ _ _ _ _ _ _ h1;subst o1;clear h1;refine wG aH BN01 ?_;rcases aU h with ⟨b1,e1,h1,rfl⟩|⟨l,a2,o2,h1,h⟩
  ·exact PA.callP [0] ((hB a1 o ho _ h1).fails) TI aS bF (fun _=>PFin.i rfl rfl)
  refine aA [0] (((hB a1 o ho _ h1).good)) TI aS bF ?_;refine goG aH LIT ?_;obtain⟨hoe,_,_⟩:=(fN ts f).2.2.1 _ _ _ _ _ h1;subst o2;clear h1;refine wG aH BN08 ?_;have hq:=dU ts a2 o [101,108,115,101] hts;rcases aF h with ⟨hk,h⟩|⟨hk,h⟩
  ·rw[if_pos hk,hk]at hq
   refine aA [0] hq TI aS bF ?_;refine goG aH TI ?_;refine wG aH TI ?_;rcases aU h with ⟨b1,e1,h1,rfl⟩|⟨el,a3,o2,h1,h⟩
   ·exact PA.callP [0] ((hB (a2+1) o ho _ h1).fails) TI aS bF (fun _=>PFin.i rfl rfl)
   refine aA [0] (((hB (a2+1) o ho _ h1).good)) TI aS bF ?_;refine goG aH LIT ?_;obtain⟨hoe,_,_⟩:=(fN ts f).2.2.1 _ _ _ _ _ h1;subst o2;clear h1;refine wG aH BN08 ?_;cases h
   refine wG aH BN08 ?_;refine aP (rs:=[.cell 2 165]) rfl (by first|exact .inl rfl|exact .inr rfl) (finG aH) ?_ rfl (idG aS)
   simp only[jQ,eR,List.map_nil,List.map_cons,Do];rw[bK x]
   all_goals exact wkG aS
  rw[if_neg hk]at hq;rw[Bool.not_eq_true]at hk;rw[hk]at hq;refine aA [0] hq TI aS bF ?_;refine goG aH TI ?_;cases h
  refine wG aH BN08 ?_;refine aP (rs:=[.cell 2 165]) rfl (by first|exact .inl rfl|exact .inr rfl) (finG aH) ?_ rfl (idG aS)
  simp only[jQ,eR,List.map_nil,List.map_cons,Do];rw[bK x]
  all_goals exact wkG aS
 rw[if_neg hk]at hq
 rw[Bool.not_eq_true]at hk
 rw[hk]at hq
 refine aA [0] hq TI aS bF ?_
 refine goG aH TI ?_
 refine wG aH TI ?_
 clear hk hq
 have hq:=dU ts a o [119,104,105,108,101] hts
 rcases aF h with ⟨hk,h⟩|⟨hk,h⟩
 ·rw[if_pos hk,hk]at hq
  refine aA [0] hq TI aS bF ?_;refine goG aH TI ?_;refine wG aH TI ?_;rcases aU h with ⟨b1,e1,h1,rfl⟩|⟨x,a1,o1,h1,h⟩
  ·exact PA.callP [0] ((vN hts f 1 (a+1) o (by decide) ho _ h1).fails) i1 aS bF (fun _=>PFin.i rfl rfl)
  refine aA [0] (((vN hts f 1 (a+1) o (by decide) ho _ h1).good)) i1 aS bF ?_
  refine goG aH BN01 ?_;obtain⟨hoe,_⟩:=dM ts _ _ _ _ _ _ _ h1;subst o1;clear h1;refine wG aH BN01 ?_;rcases aU h with ⟨b1,e1,h1,rfl⟩|⟨l,a2,o2,h1,h⟩
  ·exact PA.callP [0] ((hB a1 o ho _ h1).fails) TI aS bF (fun _=>PFin.i rfl rfl)
  refine aA [0] (((hB a1 o ho _ h1).good)) TI aS bF ?_;refine goG aH LIT ?_;obtain⟨hoe,_,_⟩:=(fN ts f).2.2.1 _ _ _ _ _ h1;subst o2;clear h1;refine wG aH BN08 ?_;cases h
  refine aP (rs:=[.cell 2 165]) rfl (by first|exact .inl rfl|exact .inr rfl) (finG aH) ?_ rfl (idG aS)
  simp only[jQ,eR,List.map_nil,List.map_cons,Do];rw[bK x]
  all_goals exact wkG aS
 rw[if_neg hk]at hq
 rw[Bool.not_eq_true]at hk
 rw[hk]at hq
 refine aA [0] hq TI aS bF ?_
 refine goG aH TI ?_
 refine wG aH TI ?_
 clear hk hq
 have hq:=dU ts a o [108,111,111,112] hts
 rcases aF h with ⟨hk,h⟩|⟨hk,h⟩
 ·rw[if_pos hk,hk]at hq
  refine aA [0] hq TI aS bF ?_;refine goG aH TI ?_;refine wG aH TI ?_;rcases aU h with ⟨b1,e1,h1,rfl⟩|⟨l,a2,o2,h1,h⟩
  ·exact PA.callP [0] ((hB (a+1) o ho _ h1).fails) TI aS bF (fun _=>PFin.i rfl rfl)
  refine aA [0] (((hB (a+1) o ho _ h1).good)) TI aS bF ?_;refine goG aH LIT ?_;obtain⟨hoe,_,_⟩:=(fN ts f).2.2.1 _ _ _ _ _ h1;subst o2;clear h1;refine wG aH BN08 ?_;cases h
  refine aP (rs:=[.cell 2 165]) rfl (by first|exact .inl rfl|exact .inr rfl) (finG aH) ?_ rfl (idG aS)
  simp only[jQ,eR,List.map_nil,List.map_cons,Do]
  all_goals exact wkG aS
 rw[if_neg hk]at hq
 rw[Bool.not_eq_true]at hk
 rw[hk]at hq
 refine aA [0] hq TI aS bF ?_
 refine goG aH TI ?_
 refine wG aH TI ?_
 clear hk hq
 have hq:=dU ts a o [115,119,105,116,99,104] hts
 rcases aF h with ⟨hk,h⟩|⟨hk,h⟩
 ·rw[if_pos hk,hk]at hq
  refine aA [0] hq TI aS bF ?_;refine goG aH TI ?_;refine wG aH TI ?_;rcases aU h with ⟨b1,e1,h1,rfl⟩|⟨x,a1,o1,h1,h⟩
  ·exact PA.callP [0] ((vN hts f 1 (a+1) o (by decide) ho _ h1).fails) i1 aS bF (fun _=>PFin.i rfl rfl)
  refine aA [0] (((vN hts f 1 (a+1) o (by decide) ho _ h1).good)) i1 aS bF ?_
  refine goG aH BN01 ?_;obtain⟨hoe,_⟩:=dM ts _ _ _ _ _ _ _ h1;subst o1;clear h1;refine wG aH BN01 ?_;rw[←Mz]at h;rcases aU h with ⟨b1,e1,h1,rfl⟩|⟨l,a2,o2,h1,h⟩
  ·exact PA.callP [0] ((hC a1 o ho _ h1).fails) TI aS bF (fun _=>PFin.i rfl rfl)
  refine aA [0] (((hC a1 o ho _ h1).good)) TI aS bF ?_;refine goG aH LIT ?_;clear h1;refine wG aH BN08 ?_;cases h
  refine aP (rs:=[.cell 2 165]) rfl (by first|exact .inl rfl|exact .inr rfl) (finG aH) ?_ rfl (idG aS)
  simp only[jQ,eR,List.map_nil,List.map_cons,caV];rw[bK x]
  all_goals exact wkG aS
 rw[if_neg hk]at hq
 rw[Bool.not_eq_true]at hk
 rw[hk]at hq
 refine aA [0] hq TI aS bF ?_
 refine goG aH TI ?_
 refine wG aH TI ?_
 clear hk hq
 have hq:=dU ts a o [98,114,101,97,107] hts
 rcases aF h with ⟨hk,h⟩|⟨hk,h⟩
 ·rw[if_pos hk,hk]at hq
  refine aA [0] hq TI aS bF ?_;refine goG aH TI ?_;refine wG aH TI ?_;have hc:=uS hts 10 (a+1) o ho r h;cases r with
  | bad b e1 =>
   exact PA.callP [0] hc.fails TI aS bF (fun _=>PFin.i rfl rfl)
  | ok x b p =>
   refine aA [0] hc.good TI aS bF ?_;refine goG aH LIT ?_;refine wG aH LIT ?_;refine aP (rs:=[.cell 2 165]) rfl (by first|exact .inl rfl|exact .inr rfl) (finG aH) ?_ rfl (idG aS)
   rw[tA x]
   all_goals exact wkG aS
 rw[if_neg hk]at hq
 rw[Bool.not_eq_true]at hk
 rw[hk]at hq
 refine aA [0] hq TI aS bF ?_
 refine goG aH TI ?_
 refine wG aH TI ?_
 clear hk hq
 have hq:=dU ts a o [99,111,110,116,105,110,117,101] hts
 rcases aF h with ⟨hk,h⟩|⟨hk,h⟩
 ·rw[if_pos hk,hk]at hq
  refine aA [0] hq TI aS bF ?_;refine goG aH TI ?_;refine wG aH TI ?_;have hc:=uS hts 11 (a+1) o ho r h;cases r with
  | bad b e1 =>
   exact PA.callP [0] hc.fails TI aS bF (fun _=>PFin.i rfl rfl)
  | ok x b p =>
   refine aA [0] hc.good TI aS bF ?_;refine goG aH LIT ?_;refine wG aH LIT ?_;refine aP (rs:=[.cell 2 165]) rfl (by first|exact .inl rfl|exact .inr rfl) (finG aH) ?_ rfl (idG aS)
   rw[tA x]
   all_goals exact wkG aS
 rw[if_neg hk]at hq
 rw[Bool.not_eq_true]at hk
 rw[hk]at hq
 refine aA [0] hq TI aS bF ?_
 refine goG aH TI ?_
 refine wG aH TI ?_
 clear hk hq
 have hq:=dU ts a o [114,101,116,117,114,110] hts
 rcases aF h with ⟨hk,h⟩|⟨hk,h⟩
 ·rw[if_pos hk,hk]at hq
  refine aA [0] hq TI aS bF ?_;refine goG aH TI ?_;refine wG aH TI ?_;have hc:=uS hts 14 (a+1) o ho r h;cases r with
  | bad b e1 =>
   exact PA.callP [0] hc.fails TI aS bF (fun _=>PFin.i rfl rfl)
  | ok x b p =>
   refine aA [0] hc.good TI aS bF ?_;refine goG aH LIT ?_;refine wG aH LIT ?_;refine aP (rs:=[.cell 2 165]) rfl (by first|exact .inl rfl|exact .inr rfl) (finG aH) ?_ rfl (idG aS)
   rw[tA x]
   all_goals exact wkG aS
 rw[if_neg hk]at hq
 rw[Bool.not_eq_true]at hk
 rw[hk]at hq
 refine aA [0] hq TI aS bF ?_
 refine goG aH TI ?_
 refine wG aH TI ?_
 clear hk hq
 have hq:=dU ts a o [104,97,108,116] hts
 rcases aF h with ⟨hk,h⟩|⟨hk,h⟩
 ·rw[if_pos hk,hk]at hq
  refine aA [0] hq TI aS bF ?_;refine goG aH TI ?_;refine wG aH TI ?_;have hc:=uS hts 15 (a+1) o ho r h;cases r with
  | bad b e1 =>
   exact PA.callP [0] hc.fails TI aS bF (fun _=>PFin.i rfl rfl)
  | ok x b p =>
   refine aA [0] hc.good TI aS bF ?_;refine goG aH LIT ?_;refine wG aH LIT ?_;refine aP (rs:=[.cell 2 165]) rfl (by first|exact .inl rfl|exact .inr rfl) (finG aH) ?_ rfl (idG aS)
   rw[tA x]
   all_goals exact wkG aS
 rw[if_neg hk]at hq
 rw[Bool.not_eq_true]at hk
 rw[hk]at hq
 refine aA [0] hq TI aS bF ?_
 refine goG aH TI ?_
 refine wG aH TI ?_
 clear hk hq
 cases h
 exact PA.callP [0] hf TI aS bF (fun _=>PFin.i rfl rfl)
theorem WF{ts:List Tk}(hts:ts.length≤4194304)(hok: ∀t∈ts,TkOk t): ∀F f,f≤F→StC ts f∧BrC ts f:=by
 intro F
 induction F with
 | zero =>
  intro f hf;obtain rfl:f=0:=by omega
  exact⟨(fun a o _ r h=>by cases h),(fun a o _ r h=>by cases h)⟩
 | succ F ih =>
  intro f hf
  by_cases hle:f≤F
  ·exact ih f hle
  obtain rfl:f=F+1:=by omega
  exact⟨MQ hts (ih F (Nat.le_refl _)).2 (NI hts hok F fun f hf=>(ih f (by omega)).2),HZ hts F (HK hts F fun f hf=>(ih f (by omega)).1)⟩
theorem PE{ts:List Tk}(hts:ts.length≤4194304)(hok: ∀t∈ts,TkOk t)(F:Nat):LiC ts F:=HK hts F fun f _=>(WF hts hok F f (by omega)).1
theorem RA{ts:List Tk}(h: ∀t∈ts,TkOk t)(a:Nat):(pk ts a).text.length≤4194304:=by
 by_cases hl:a<ts.length
 ·exact(h _ (List.mem_of_getElem? (Uh hl))).2
 ·rw[Hg (by omega)];decide
theorem Iu(l:List Va):jZ 6 (l.map vaV)=true:=by
 unfold jZ
 rw[List.all_map]
 exact List.all_eq_true.2 fun x _=>rfl
def kH:=A7 @iK @Cc @sJ @uY @NZ @iI @kK
def cR:=A13 aX bC @bU @bW @bV @bX @aO @aN aV aJ Rj tP fX
def dB:=A13 eW eX @qS @rF @qT @rG @bE @bD cG bL Js Ko nA
theorem rJ{ts:List Tk}{f:Nat}(hts:ts.length≤4194304)(hok: ∀t∈ts,TkOk t)(a o:Nat)(ho:o≤256)(r:Rs Va)(h:vM ts f a o=some r):XC Tryz.prog 79 [.pt 0 0] ts a o vaV r:=by
 unfold vM at h
 refine XC.enter 17 Tryz.func79 rfl (by decide) rfl rfl (s:=[(0,.pt 0 0)]) (by rfl) ?_
 refine wG kH TI ?_
 rcases aU h with ⟨b1,e1,h1,rfl⟩|⟨_,a1,o1,h1,h⟩
 ·exact PA.callP [0] ((bT ts a o [118,97,114] hts _ h1).fails) TI cR dB (fun _=>PFin.i rfl rfl)
 refine aA [0] (((bT ts a o [118,97,114] hts _ h1).good)) TI cR dB ?_
 refine goG kH TI ?_
 obtain⟨_,rfl,hoe⟩:=bH h1
 subst o1
 clear h1
 refine wG kH TI ?_
 rcases aU h with ⟨b1,e1,h1,rfl⟩|⟨nm,a2,o2,h1,h⟩
 ·exact PA.callP [0] ((kF ts (a+1) o hts _ h1).fails) TI cR dB (fun _=>PFin.i rfl rfl)
 refine aA [0] (((kF ts (a+1) o hts _ h1).good)) TI cR dB ?_
 refine goG kH TI ?_
 obtain⟨_,rfl,hoe,hlt⟩:=eQ h1
 subst o2
 clear h1
 refine wG kH TI ?_
 rcases aU h with ⟨b1,e1,h1,rfl⟩|⟨_,a3,o3,h1,h⟩
 ·exact PA.callP [0] ((bT ts (a+1+1) o [58] hts _ h1).fails) TI cR dB (fun _=>PFin.i rfl rfl)
 refine aA [0] (((bT ts (a+1+1) o [58] hts _ h1).good)) TI cR dB ?_
 refine goG kH TI ?_
 obtain⟨_,rfl,hoe⟩:=bH h1
 subst o3
 clear h1
 refine wG kH TI ?_
 rcases aU h with ⟨b1,e1,h1,rfl⟩|⟨x,a4,o4,h1,h⟩
 ·exact PA.callP [0] ((PB hts hok f f (Nat.le_refl _) (a+1+1+1) o ho _ h1).fails) TI cR dB (fun _=>PFin.i rfl rfl)
 refine aA [0] (((PB hts hok f f (Nat.le_refl _) (a+1+1+1) o ho _ h1).good)) TI cR dB ?_
 refine goG kH BN03 ?_
 obtain⟨hoe,_,_⟩:=(kA ts f).1 _ _ _ _ _ h1
 subst o4
 clear h1
 refine wG kH BN03 ?_
 rcases aU h with ⟨b1,e1,h1,rfl⟩|⟨_,a5,o5,h1,h⟩
 ·exact PA.callP [0] ((bT ts a4 o [59] hts _ h1).fails) TI cR dB (fun _=>PFin.i rfl rfl)
 refine aA [0] (((bT ts a4 o [59] hts _ h1).good)) TI cR dB ?_
 refine goG kH TI ?_
 cases h
 refine wG kH BN03 ?_
 refine aP (rs:=[.cell 2 96]) rfl (by first|exact .inl rfl|exact .inr rfl) (finG kH) ?_ rfl (idG cR)
 rw[qR]
 all_goals exact wkG cR
def hM:=A16 @Lp @mQ @vK @Cd @dN @Ca @lI @mE @oJ @vC @Ad @Ac @sC @wN @OA (A8 @Lh @mP @uX @rX @cY @pT @rV @gV)
theorem Vq{ts:List Tk}(hts:ts.length≤4194304)(hok: ∀t∈ts,TkOk t)(a o:Nat)(ho:o≤256)(r:Rs Sec)(h:wC ts a o=some r):XC Tryz.prog 80 [.pt 0 0] ts a o scV r:=by
 unfold wC at h
 refine XC.enter 28 Tryz.func80 rfl (by decide) rfl rfl (s:=[(0,.pt 0 0)]) (by rfl) ?_
 refine wG hM TI ?_
 rcases aU h with ⟨b1,e1,h1,rfl⟩|⟨_,a1,o1,h1,h⟩
 ·exact PA.callP [0] ((bT ts a o [100,97,116,97] hts _ h1).fails) TI cR dB (fun _=>PFin.i rfl rfl)
 refine aA [0] (((bT ts a o [100,97,116,97] hts _ h1).good)) TI cR dB ?_
 refine goG hM TI ?_
 obtain⟨_,rfl,hoe⟩:=bH h1
 subst o1
 clear h1
 refine wG hM TI ?_
 rcases aU h with ⟨b1,e1,h1,rfl⟩|⟨nm,a2,o2,h1,h⟩
 ·exact PA.callP [0] ((kF ts (a+1) o hts _ h1).fails) TI cR dB (fun _=>PFin.i rfl rfl)
 refine aA [0] (((kF ts (a+1) o hts _ h1).good)) TI cR dB ?_
 refine goG hM TI ?_
 obtain⟨_,rfl,hoe,hlt⟩:=eQ h1
 subst o2
 clear h1
 rcases aU h with ⟨b1,e1,h1,rfl⟩|⟨d,a3,o3,h1,h⟩
 ·exact PA.callP [0] ((mZ ts (a+1+1) o 3 (by decide) hts _ h1).fails) TI cR dB (fun _=>PFin.i rfl rfl)
 refine aA [0] (((mZ ts (a+1+1) o 3 (by decide) hts _ h1).good)) TI cR dB ?_
 refine goG hM TKT ?_
 obtain⟨_,_,rfl,hoe⟩:=eY h1
 subst o3
 clear h1
 refine wG hM TKT ?_
 have hq:=dU ts (a+1+1+1) o [119,114,105,116,101] hts
 obtain⟨w,a4,o4,h1,h⟩: ∃w a4 o4,accM ts [119,114,105,116,101] (a+1+1+1) o=some (.ok w a4 o4)∧_:=by
  rcases aU h with ⟨b1,e1,h1,rfl⟩|⟨w,a4,o4,h1,h⟩
  ·rcases aF h1 with ⟨_,h1⟩|⟨_,h1⟩<;>cases h1
  ·exact⟨w,a4,o4,h1,h⟩
 obtain⟨hoe,hle,hw,ha4⟩:=Br h1
 rw[←ha4,←hw]at hq
 subst o4
 clear h1 hw ha4
 refine aA [0] hq TI cR dB ?_
 refine goG hM TI ?_
 refine wG hM TI ?_
 clear hq
 have hq:=dU ts a4 o [101,120,101,99] hts
 obtain⟨xe,a5,o5,h1,h⟩: ∃w a5 o5,accM ts [101,120,101,99] a4 o=some (.ok w a5 o5)∧_:=by
  rcases aU h with ⟨b1,e1,h1,rfl⟩|⟨w,a5,o5,h1,h⟩
  ·rcases aF h1 with ⟨_,h1⟩|⟨_,h1⟩<;>cases h1
  ·exact⟨w,a5,o5,h1,h⟩
 obtain⟨hoe,hle2,hw,ha5⟩:=Br h1
 rw[←ha5,←hw]at hq
 subst o5
 clear h1 hw ha5
 refine aA [0] hq TI cR dB ?_
 refine goG hM TI ?_
 refine wG hM TI ?_
 clear hq
 rcases aU h with ⟨b1,e1,h1,rfl⟩|⟨_,a6,o6,h1,h⟩
 ·exact PA.callP [0] ((bT ts a5 o [61] hts _ h1).fails) TI cR dB (fun _=>PFin.i rfl rfl)
 refine aA [0] (((bT ts a5 o [61] hts _ h1).good)) TI cR dB ?_
 refine goG hM TI ?_
 obtain⟨_,rfl,hoe⟩:=bH h1
 subst o6
 clear h1
 refine wG hM TI ?_
 have hpk:=RA hok (a5+1)
 rcases aU h with ⟨b1,e1,h1,rfl⟩|⟨t,a7,o7,h1,h⟩
 ·exact PA.callP [0] ((mZ ts (a5+1) o 4 (by decide) hts _ h1).fails) TI cR dB (fun _=>PFin.i rfl rfl)
 obtain⟨_,ht,ha7,hoe⟩:=eY h1
 rw[←ht]at hpk
 have hsz:(ByteArray.mk t.text.toArray).size≤140737488355328:=by show t.text.toArray.size≤_;rw[List.size_toArray];omega
 have hbv:byV (ByteArray.mk t.text.toArray)=t.text.map fun b=>V.im (.int .u8 b.toNat):=rfl
 refine aA [0] ((mZ ts (a5+1) o 4 (by decide) hts _ h1).good) TI cR dB ?_
 refine goG hM (A3 TKT hsz hbv) ?_
 subst ha7
 subst o7
 clear h1
 refine wG hM TKT ?_
 rcases aU h with ⟨b1,e1,h1,rfl⟩|⟨_,a8,o8,h1,h⟩
 ·exact PA.callP [0] ((bT ts (a5+1+1) o [59] hts _ h1).fails) TI cR dB (fun _=>PFin.i rfl rfl)
 refine aA [0] (((bT ts (a5+1+1) o [59] hts _ h1).good)) TI cR dB ?_
 refine goG hM TI ?_
 cases h
 refine wG hM TI ?_
 refine aP (rs:=[.cell 2 76]) rfl (by first|exact .inl rfl|exact .inr rfl) (finG hM) ?_ rfl (idG cR)
 rw[Df]
 all_goals exact wkG cR
def gF:=A14 @lM @kL @Cg @Cb @sJ @yK @lJ @qO @vG @OC @jT @jH @sA @kK
set_option maxHeartbeats 4000000 in
theorem Vo{ts:List Tk}{f:Nat}(hts:ts.length≤4194304)(hok: ∀t∈ts,TkOk t)(a0 o:Nat)(ho:o≤256)(r:Rs Fun)(h:funM ts f a0 o=some r):XC Tryz.prog 52 [.pt 0 0] ts a0 o fnV r:=by
 unfold funM at h
 refine XC.enter 26 Tryz.func52 rfl (by decide) rfl rfl (s:=[(0,.pt 0 0)]) (by rfl) ?_
 refine wG gF TI ?_
 rcases aU h with ⟨b1,e1,h1,rfl⟩|⟨_,a1,o1,h1,h⟩
 ·exact PA.callP [0] ((bT ts a0 o [102,117,110,99] hts _ h1).fails) TI cR dB (fun _=>PFin.i rfl rfl)
 refine aA [0] (((bT ts a0 o [102,117,110,99] hts _ h1).good)) TI cR dB ?_
 refine goG gF TI ?_
 obtain⟨_,rfl,hoe⟩:=bH h1
 subst o1
 clear h1
 refine wG gF TI ?_
 rcases aU h with ⟨b1,e1,h1,rfl⟩|⟨nm,a2,o2,h1,h⟩
 ·exact PA.callP [0] ((kF ts (a0+1) o hts _ h1).fails) TI cR dB (fun _=>PFin.i rfl rfl)
 refine aA [0] (((kF ts (a0+1) o hts _ h1).good)) TI cR dB ?_
 refine goG gF TI ?_
 obtain⟨_,rfl,hoe,hlt⟩:=eQ h1
 subst o2
 clear h1
 refine wG gF TI ?_
 rcases aU h with ⟨b1,e1,h1,rfl⟩|⟨_,a3,o3,h1,h⟩
 ·exact PA.callP [0] ((fL ts (a0+1+1) o [123] hts _ h1).fails) TI cR dB (fun _=>PFin.i rfl rfl)
 refine aA [0] (((fL ts (a0+1+1) o [123] hts _ h1).good)) TI cR dB ?_
 refine goG gF TI ?_
 obtain⟨_,ho1,rfl,rfl⟩:=bO h1
 clear h1
 refine wG gF TI ?_
 refine aW ?_
 refine dA ?_
 refine AWp.ghostB 2 1 [.im (.string nm),.sl [] .nl,.sl [] .nl] 96 6 ?_
 suffices H: ∀(F:Nat),F≤f→ ∀(l:List Va) (a:Nat),l.length≤a→(rb (vasM ts F l a (o+1)) fun v a o=>rb (stM ts f (.li []) a o) fun l a o=>rb (endM ts [125] a o) fun _ a o=>ret (Fun.mk nm v (l.headD [])) a o)=some r→AWpK _ _ _ _ _ ⟨dn 26 [(0,.pt 0 0),(2,.pt 1 0),(3,.pt 2 0)],ofl [.box [.sl (ts.map tkV) .ro,(.im (.int .i64 ((a:Nat)))),(.im (.int .i64 ((o+1:Nat))))],.box [.im (.string ByteArray.empty),.sl [] .nl,.sl [] .nl],.box [.im (.string nm),.sl ((l).map vaV) (.mine 3),.sl [] .nl],.tip 96 6 (l).length]⟩ by
  refine AWp.cutP 4 [(0,.pt 0 0),(2,.pt 1 0),(3,.pt 2 0)] [.box [.sl (ts.map tkV) .ro,(.im (.int .i64 ((a0+1+1+1:Nat)))),(.im (.int .i64 ((o+1:Nat))))],.box [.im (.string ByteArray.empty),.sl [] .nl,.sl [] .nl],.box [.im (.string nm),.sl ((([]:List Va)).map vaV) (.mine 3),.sl [] .nl],.tip 96 6 (([]:List Va)).length] cR ?_;exact H f (Nat.le_refl _) [] (a0+1+1+1) (by simp) h
 clear h
 intro F
 induction F with
 | zero=>intro _ l a _ h;cases h
 | succ F ih =>
 intro hf l a hla h
 rw[vasM]at h
 have hs:=nY ts a (o+1) [118,97,114]
 by_cases hk:sees ts a [118,97,114]=true
 case neg =>
  rw[if_neg hk]at h;rw[Bool.not_eq_true]at hk;rw[hk]at hs;change (rb (stM ts f (.li []) a (o+1)) fun b a o=>rb (endM ts [125] a o) fun _ a o=>ret (Fun.mk nm l (b.headD [])) a o)=some r at h
  refine wG gF TI ?_;refine aA [0] hs TI cR dB ?_;refine goG gF TI ?_;refine wG gF TI ?_;rcases aU h with ⟨b1,e1,h1,rfl⟩|⟨b,a4,o4,h1,h⟩
  ·exact PA.callP [0] ((PE hts hok f a (o+1) (by omega) _ h1).fails) TI cR dB (fun _=>PFin.i rfl rfl)
  refine aA [0] (((PE hts hok f a (o+1) (by omega) _ h1).good)) TI cR dB ?_
  refine goG gF LIT ?_;obtain⟨rfl,_,_⟩:=(fN ts f).2.1 _ _ _ _ _ _ h1;clear h1;refine wG gF LIT ?_;rcases aU h with ⟨b1,e1,h1,rfl⟩|⟨_,a5,o5,h1,h⟩
  ·exact PA.callP [0] ((oX ts a4 (o+1) [125] hts (by omega) (by omega) _ h1).fails) TI cR dB (fun _=>PFin.i rfl rfl)
  refine aA [0] (((oX ts a4 (o+1) [125] hts (by omega) (by omega) _ h1).good)) TI cR dB ?_
  refine goG gF TI ?_;cases h
  refine wG gF LIT ?_;refine aP (rs:=[.cell 2 37]) rfl (by first|exact .inl rfl|exact .inr rfl) (finG gF) ?_ rfl (idG cR)
  rw[tJ];simp only[Do]
  all_goals exact wkG cR
 rw[if_pos hk]at h
 rw[hk]at hs
 refine wG gF TI ?_
 refine aA [0] hs TI cR dB ?_
 refine goG gF TI ?_
 refine wdG gF TI ?_
 rw[Mz]at h
 rcases aU h with ⟨b1,e1,h1,rfl⟩|⟨x,a4,o4,h1,hk2⟩
 ·exact oG [0] ((rJ hts hok a (o+1) (by omega) _ h1).fails) TI cR dB (fun _=>PFin.i rfl rfl) ⟨[⟨6,[],⟨_,[]⟩⟩],_,(.cons (uH (i:=6) rfl rfl qO jT (by decide)) .nil),by kernel_rfl⟩
 obtain⟨hoe,hle,hle2⟩:=kX h1
 subst hoe
 obtain⟨B,hB⟩: ∃B,B=l++[x]:=⟨_,rfl⟩
 have hAs:l.map vaV++[vaV x]=B.map vaV:=by rw[hB,List.map_append,List.map_singleton]
 have hAl:l.length+1=B.length:=by rw[hB];simp
 have hbl:B.length*88≤140737488355328:=by omega
 have h4:(rb (vasM ts F B a4 (o+1)) fun v a o=>rb (stM ts f (.li []) a o) fun l a o=>rb (endM ts [125] a o) fun _ a o=>ret (Fun.mk nm v (l.headD [])) a o)=some r:=by rw[hB];exact hk2
 refine aA [0] ((rJ hts hok a (o+1) (by omega) _ h1).good) TI cR dB ?_
 refine goG gF (A6 VA hAs hAl hbl Iu @List.length_map.{0,0}) ?_
 refine wdG gF (A6 VA hAs hAl hbl Iu @List.length_map.{0,0}) ?_
 refine dA ?_
 refine AWp.cutP 4 [(0,.pt 0 0),(2,.pt 1 0),(3,.pt 2 0)] [.box [.sl (ts.map tkV) .ro,(.im (.int .i64 ((a4:Nat)))),(.im (.int .i64 ((o+1:Nat))))],.box [.im (.string ByteArray.empty),.sl [] .nl,.sl [] .nl],.box [.im (.string nm),.sl ((B).map vaV) (.mine 3),.sl [] .nl],.tip 96 6 (B).length] cR ?_
 exact ih (by omega) B a4 (by omega) h4
def fF:=A16 @lM @Ci @vL @pF @cN @Ce @sK @Cb @Ca @sJ @OE @OD @yK @lJ @vI (A16 @vH @pC @Fr @fT @lY @qP @lX @gR @jT @yH @sB @nH @cM @sA @Bx (AI @rX @kK))
def iU:=A8 aX bC @aO @aN fX eJ nT jX
def lV:=A8 eW eX @bE @bD nA oQ Kb Kc
set_option maxHeartbeats 8000000 in
theorem HA{ts:List Tk}{f:Nat}(hts:ts.length≤4194304)(hok: ∀t∈ts,TkOk t)(r:Rs Un)(h:uniM ts f ⟨[],[],[]⟩ 0 0=some r):XC Tryz.prog 34 [.pt 0 0] ts 0 0 unV r:=by
 refine XC.enter 47 Tryz.func34 rfl (by decide) rfl rfl (s:=[(0,.pt 0 0)]) (by rfl) ?_
 refine wG fF TI ?_
 refine aW ?_
 refine dA ?_
 refine AWp.ghostB 2 0 [.sl [] .nl,.sl [] .nl,.sl [] .nl] 96 6 ?_
 refine AWp.ghostB 2 1 [.sl [] (.mine 3),.sl [] .nl,.sl [] .nl] 76 5 ?_
 refine AWp.ghostB 2 2 [.sl [] (.mine 3),.sl [] (.mine 4),.sl [] .nl] 37 3 ?_
 suffices H: ∀(F:Nat),F≤f→ ∀(u:Un) (a:Nat),u.globals.length≤a→u.data.length≤a→u.funcs.length≤a→uniM ts F u a 0=some r→AWpK _ _ _ _ _ ⟨dn 47 [(0,.pt 0 0),(2,.pt 1 0),(3,.pt 2 0)],ofl [.box [.sl (ts.map tkV) .ro,(.im (.int .i64 ((a:Nat)))),(.im (.int .i64 ((0:Nat))))],.box [.sl [] .nl,.sl [] .nl,.sl [] .nl],.box [.sl ((u).globals.map vaV) (.mine 3),.sl ((u).data.map scV) (.mine 4),.sl ((u).funcs.map fnV) (.mine 5)],.tip 96 6 (u).globals.length,.tip 76 5 (u).data.length,.tip 37 3 (u).funcs.length]⟩ by
  refine AWp.cutP 6 [(0,.pt 0 0),(2,.pt 1 0),(3,.pt 2 0)] [.box [.sl (ts.map tkV) .ro,(.im (.int .i64 ((0:Nat)))),(.im (.int .i64 ((0:Nat))))],.box [.sl [] .nl,.sl [] .nl,.sl [] .nl],.box [.sl (((⟨[],[],[]⟩:Un)).globals.map vaV) (.mine 3),.sl (((⟨[],[],[]⟩:Un)).data.map scV) (.mine 4),.sl (((⟨[],[],[]⟩:Un)).funcs.map fnV) (.mine 5)],.tip 96 6 ((⟨[],[],[]⟩:Un)).globals.length,.tip 76 5 ((⟨[],[],[]⟩:Un)).data.length,.tip 37 3 ((⟨[],[],[]⟩:Un)).funcs.length] iU ?_;exact H f (Nat.le_refl _) ⟨[],[],[]⟩ 0 (by simp) (by simp) (by simp) h
 clear h
 intro F
 induction F with
 | zero=>intro _ u a _ _ _ h;cases h
 | succ F ih =>
 intro hf u a hg hd hfn h
 rw[uniM]at h
 by_cases hlt:ts.length≤a
 ·have hn: ¬(a:Int)<(ts.length:Int):=by omega
  rw[if_pos hlt]at h;cases h
  refine wdG fF (AI hn @List.length_map.{0,0}) ?_;refine aP (rs:=[.cell 2 27]) rfl (by first|exact .inl rfl|exact .inr rfl) (finG fF) ?_ rfl (idG iU)
  rw[kY]
  all_goals exact wkG iU
 have hn:(a:Int)<(ts.length:Int):=by omega
 rw[if_neg hlt]at h
 have hs1:=nY ts a 0 [118,97,114]
 have hs2:=nY ts a 0 [100,97,116,97]
 have hs3:=nY ts a 0 [102,117,110,99]
 have hfl:=nZ ts a 0 3
 refine wdG fF (AI hn @List.length_map.{0,0}) ?_
 refine wG fF TI ?_
 rcases aF h with ⟨hk,h⟩|⟨hk,h⟩
 ·rw[hk]at hs1
  refine aA [0] hs1 TI iU lV ?_;refine goG fF TI ?_;refine wdG fF TI ?_;rcases aU h with ⟨b1,e1,h1,rfl⟩|⟨x,a4,o4,h1,hk2⟩
  ·exact oG [0] ((rJ hts hok a 0 (by omega) _ h1).fails) TI iU lV (fun _=>PFin.i rfl rfl) ⟨[⟨6,[],⟨_,[]⟩⟩],_,(.cons (uH (i:=6) rfl rfl lY jT (by decide)) .nil),by kernel_rfl⟩
  obtain⟨hoe,hle,hle2⟩:=kX h1;subst hoe;obtain⟨B,hB⟩: ∃B,B=u.globals++[x]:=⟨_,rfl⟩
  have hAs:u.globals.map vaV++[vaV x]=B.map vaV:=by rw[hB,List.map_append,List.map_singleton]
  have hAl:u.globals.length+1=B.length:=by rw[hB];simp
  have hbl:B.length*88≤140737488355328:=by omega
  have h4:uniM ts F ⟨B,u.data,u.funcs⟩ a4 0=some r:=by rw[hB];exact hk2
  refine aA [0] ((rJ hts hok a 0 (by omega) _ h1).good) TI iU lV ?_
  refine goG fF (A6 VA hAs hAl hbl Iu @List.length_map.{0,0}) ?_;refine wdG fF (A6 VA hAs hAl hbl Iu @List.length_map.{0,0}) ?_;refine dA ?_;refine AWp.cutP 6 [(0,.pt 0 0),(2,.pt 1 0),(3,.pt 2 0)] [.box [.sl (ts.map tkV) .ro,(.im (.int .i64 ((a4:Nat)))),(.im (.int .i64 ((0:Nat))))],.box [.sl [] .nl,.sl [] .nl,.sl [] .nl],.box [.sl (((⟨B,u.data,u.funcs⟩:Un)).globals.map vaV) (.mine 3),.sl (((⟨B,u.data,u.funcs⟩:Un)).data.map scV) (.mine 4),.sl (((⟨B,u.data,u.funcs⟩:Un)).funcs.map fnV) (.mine 5)],.tip 96 6 ((⟨B,u.data,u.funcs⟩:Un)).globals.length,.tip 76 5 ((⟨B,u.data,u.funcs⟩:Un)).data.length,.tip 37 3 ((⟨B,u.data,u.funcs⟩:Un)).funcs.length] iU ?_;exact ih (by omega) ⟨B,u.data,u.funcs⟩ a4 (by show B.length≤a4;omega) (by show u.data.length≤a4;omega) (by show u.funcs.length≤a4;omega) h4
 rw[Bool.not_eq_true]at hk
 rw[hk]at hs1
 refine aA [0] hs1 TI iU lV ?_
 refine goG fF TI ?_
 refine wG fF TI ?_
 clear hk
 rcases aF h with ⟨hk,h⟩|⟨hk,h⟩
 ·rw[hk]at hs2
  refine aA [0] hs2 TI iU lV ?_;refine goG fF TI ?_;refine wdG fF TI ?_;rcases aU h with ⟨b1,e1,h1,rfl⟩|⟨x,a4,o4,h1,hk2⟩
  ·exact oG [0] ((Vq hts hok a 0 (by omega) _ h1).fails) TI iU lV (fun _=>PFin.i rfl rfl) ⟨[⟨6,[],⟨_,[]⟩⟩],_,(.cons (uH (i:=6) rfl rfl qP yH (by decide)) .nil),by kernel_rfl⟩
  obtain⟨hoe,hle,hle2⟩:=xU h1;subst hoe;obtain⟨B,hB⟩: ∃B,B=u.data++[x]:=⟨_,rfl⟩
  have hAs:u.data.map scV++[scV x]=B.map scV:=by rw[hB,List.map_append,List.map_singleton]
  have hAl:u.data.length+1=B.length:=by rw[hB];simp
  have hbl:B.length*56≤140737488355328:=by omega
  have h4:uniM ts F ⟨u.globals,B,u.funcs⟩ a4 0=some r:=by rw[hB];exact hk2
  refine aA [0] ((Vq hts hok a 0 (by omega) _ h1).good) TI iU lV ?_
  refine goG fF (A6 SCT hAs hAl hbl Jj @List.length_map.{0,0}) ?_;refine wdG fF (A6 SCT hAs hAl hbl Jj @List.length_map.{0,0}) ?_;refine dA ?_;refine AWp.cutP 6 [(0,.pt 0 0),(2,.pt 1 0),(3,.pt 2 0)] [.box [.sl (ts.map tkV) .ro,(.im (.int .i64 ((a4:Nat)))),(.im (.int .i64 ((0:Nat))))],.box [.sl [] .nl,.sl [] .nl,.sl [] .nl],.box [.sl (((⟨u.globals,B,u.funcs⟩:Un)).globals.map vaV) (.mine 3),.sl (((⟨u.globals,B,u.funcs⟩:Un)).data.map scV) (.mine 4),.sl (((⟨u.globals,B,u.funcs⟩:Un)).funcs.map fnV) (.mine 5)],.tip 96 6 ((⟨u.globals,B,u.funcs⟩:Un)).globals.length,.tip 76 5 ((⟨u.globals,B,u.funcs⟩:Un)).data.length,.tip 37 3 ((⟨u.globals,B,u.funcs⟩:Un)).funcs.length] iU ?_;exact ih (by omega) ⟨u.globals,B,u.funcs⟩ a4 (by show u.globals.length≤a4;omega) (by show B.length≤a4;omega) (by show u.funcs.length≤a4;omega) h4
 rw[Bool.not_eq_true]at hk
 rw[hk]at hs2
 refine aA [0] hs2 TI iU lV ?_
 refine goG fF TI ?_
 refine wG fF TI ?_
 clear hk
 rcases aF h with ⟨hk,h⟩|⟨hk,h⟩
 ·rw[hk]at hs3
  refine aA [0] hs3 TI iU lV ?_;refine goG fF TI ?_;refine wdG fF TI ?_;rcases aU h with ⟨b1,e1,h1,rfl⟩|⟨x,a4,o4,h1,hk2⟩
  ·exact oG [0] ((Vo hts hok a 0 (by omega) _ h1).fails) TI iU lV (fun _=>PFin.i rfl rfl) ⟨[⟨6,[],⟨_,[]⟩⟩],_,(.cons (uH (i:=6) rfl rfl lX sB (by decide)) .nil),by kernel_rfl⟩
  obtain⟨hoe,hle,hle2⟩:=xQ h1;subst hoe;obtain⟨B,hB⟩: ∃B,B=u.funcs++[x]:=⟨_,rfl⟩
  have hAs:u.funcs.map fnV++[fnV x]=B.map fnV:=by rw[hB,List.map_append,List.map_singleton]
  have hAl:u.funcs.length+1=B.length:=by rw[hB];simp
  have hbl:B.length*64≤140737488355328:=by omega
  have h4:uniM ts F ⟨u.globals,u.data,B⟩ a4 0=some r:=by rw[hB];exact hk2
  refine aA [0] ((Vo hts hok a 0 (by omega) _ h1).good) TI iU lV ?_
  refine goG fF (A6 FU hAs hAl hbl Uy @List.length_map.{0,0}) ?_;refine wdG fF (A6 FU hAs hAl hbl Uy @List.length_map.{0,0}) ?_;refine dA ?_;refine AWp.cutP 6 [(0,.pt 0 0),(2,.pt 1 0),(3,.pt 2 0)] [.box [.sl (ts.map tkV) .ro,(.im (.int .i64 ((a4:Nat)))),(.im (.int .i64 ((0:Nat))))],.box [.sl [] .nl,.sl [] .nl,.sl [] .nl],.box [.sl (((⟨u.globals,u.data,B⟩:Un)).globals.map vaV) (.mine 3),.sl (((⟨u.globals,u.data,B⟩:Un)).data.map scV) (.mine 4),.sl (((⟨u.globals,u.data,B⟩:Un)).funcs.map fnV) (.mine 5)],.tip 96 6 ((⟨u.globals,u.data,B⟩:Un)).globals.length,.tip 76 5 ((⟨u.globals,u.data,B⟩:Un)).data.length,.tip 37 3 ((⟨u.globals,u.data,B⟩:Un)).funcs.length] iU ?_;exact ih (by omega) ⟨u.globals,u.data,B⟩ a4 (by show u.globals.length≤a4;omega) (by show u.data.length≤a4;omega) (by show B.length≤a4;omega) h4
 rw[Bool.not_eq_true]at hk
 rw[hk]at hs3
 refine aA [0] hs3 TI iU lV ?_
 refine goG fF TI ?_
 refine wG fF TI ?_
 cases h
 exact PA.callP [0] hfl TI iU lV (fun _=>PFin.i rfl rfl)
def pA:=A3 @Ln @pE @rY
theorem Vs:Catch Tryz.prog 76 61:=by
 refine Catch.of (N:=19) Tryz.func76 rfl (by decide) rfl rfl rfl Tryz.results76 (fun u v a b=> ?_) (fun u v=> ?_)
 ·refine wG pA TI ?_
  refine tZ false ?_;refine goG pA TI ?_;refine wG pA TI ?_;refine Tq ?_;refine goG pA TI ?_;refine wG pA TI ?_;exact⟨rfl,rfl⟩
 ·refine wG pA TI ?_
  refine tZ true ?_;refine goG pA TI ?_;refine wG pA TI ?_;exact⟨rfl,rfl⟩
def prsV{α:Type}(val:α→V)(zero:V):Rs α→V
 | .ok x _ _=> .tu [val x,.ag [(.im (.int .i64 (0))),(.im (.int .i64 (0)))]]
 | .bad b e=> .tu [zero,.ag [(.im (.int .i64 ((b:Nat)))),(.im (.int .i64 (e)))]]
def xZ:=A3 @fM @jV @dP
def pR:=A4 aX bC @aE @aC
def Fi:=A4 eW eX @aQ @aR
theorem Vl{ts:List Tk}(hts:ts.length≤4194304)(f:Nat)(r:Rs Ex)(h:exM ts f (.ex 1) 0 0=some r):XC Tryz.prog 58 [.pt 0 0] ts 0 0 exV r:=by
 cases r with
 | bad b e =>
  refine XC.enter 5 Tryz.func58 rfl (by decide) rfl rfl (s:=[(0,.pt 0 0)]) (by rfl) ?_
  refine wG xZ TI ?_;exact PA.callP [0] ((vN hts f 1 0 0 (by decide) (by decide) _ h).fails) i1 pR Fi (fun _=>PFin.i rfl rfl)
 | ok x b p =>
  refine XC.enter 5 Tryz.func58 rfl (by decide) rfl rfl (s:=[(0,.pt 0 0)]) (by rfl) ?_
  refine wG xZ TI ?_;refine aA [0] ((vN hts f 1 0 0 (by decide) (by decide) _ h).good) i1 pR Fi ?_
  refine goG xZ BN01 ?_;refine wG xZ BN01 ?_;refine aP (rs:=[.cell 2 46]) rfl (by first|exact .inl rfl|exact .inr rfl) (finG xZ) ?_ rfl (idG pR)
  rw[bK x]
  all_goals exact wkG pR
def nC:=A14 @cN @fM @Ln @Qb @jV @pE @pC @fT @Pt @Lj @gR @cM @dP @rY
theorem Ic{ts:List Tk}(hts:ts.length≤4194304)(f:Nat)(z:Rs Ex)(hz:allM ts (exM ts f (.ex 1) 0 0)=some z):PC Tryz.prog 57 [.sl (ts.map tkV) .ro,.fn (.func 58) [] []] (prsV exV (exV (.mk 0 0 ByteArray.empty 0 [])) z):=by
 refine Fh (s:=[(0,.sl (ts.map tkV) .ro),(1,.fn (.func 58) [] [])]) (s1:=[(0,.sl (ts.map tkV) .ro),(1,.fn (.func 58) [] []),(4,.pt 0 0),(5,.pt 1 0)]) (l1:=[.box [(.im (.int .i64 (0))),.im (.int .u32 0),.im (.string ByteArray.empty),(.im (.int .i64 (0))),.sl [] .nl],.box [(.im (.int .i64 (0))),(.im (.int .i64 (0)))]]) 1 25 Vs Tryz.func57 rfl (by decide) rfl rfl rfl ?_ rfl ?_
 ·rw[DA]
  refine goG nC TI ?_;exact⟨(fun e=>by cases e),rfl,rfl⟩
 rcases aU hz with ⟨b1,e1,h1,rfl⟩|⟨x,a1,o1,h1,h⟩
 ·refine wG nC TI ?_
  refine PA.callS [2] ((Vl hts f _ h1).fails) TI pR Fi ?_;show FinD _ _ _ _ _ _ ⟨_,ofl [.box [(.im (.int .i64 (0))),.im (.int .u32 0),.im (.string ByteArray.empty),(.im (.int .i64 (0))),.sl [] .nl],.box [(.im (.int .i64 (0))),(.im (.int .i64 (0)))],.box (List.replicate 3 .dead)]⟩
  refine FinD.pan 1 (by simp) rfl ?_
  refine aI (rs:=[.cell 4 46,.cell 5 61]) rfl (by first|exact .inl rfl|exact .inr rfl) (finG nC) ?_
  all_goals exact wkG pR
 refine wG nC TI ?_
 refine aA [2] ((Vl hts f _ h1).good) TI pR Fi ?_
 refine goG nC BN01 ?_
 rcases aF h with ⟨hlt,h⟩|⟨hlt,h⟩
 ·have hl:(a1:Int)<(ts.length:Int):=by omega
  cases h
  refine wG nC (AI hl @List.length_map.{0,0}) ?_;refine PA.callS [2] (nZ ts a1 o1 3) TI pR Fi ?_;show FinD _ _ _ _ _ _ ⟨_,ofl [.box [(.im (.int .i64 (0))),.im (.int .u32 0),.im (.string ByteArray.empty),(.im (.int .i64 (0))),.sl [] .nl],.box [(.im (.int .i64 (0))),(.im (.int .i64 (0)))],.box (List.replicate 3 .dead),_]⟩
  refine FinD.pan 1 (by simp) rfl ?_
  refine aI (rs:=[.cell 4 46,.cell 5 61]) rfl (by first|exact .inl rfl|exact .inr rfl) (finG nC) ?_
  all_goals exact wkG pR
 ·have hl: ¬(a1:Int)<(ts.length:Int):=by omega
  cases h
  refine wG nC (A3 hl @List.length_map.{0,0} BN01) ?_;refine FinD.ret 1 rfl ?_;refine aI (rs:=[.cell 4 46,.cell 5 61]) rfl (by first|exact .inl rfl|exact .inr rfl) (finG nC) ?_
  show WkF _ _ _ (.tu [exV x,.ag [(.im (.int .i64 (0))),(.im (.int .i64 (0)))]]);rw[bK x]
  all_goals exact wkG pR
def Aa:=A10 aX bC @aO @aN fX eJ nT jX aJ sX
def Tf:=A10 eW eX @bE @bD nA oQ Kb Kc bL JR
def UNT:=A6 @BP @Wu @BN @BM @BO @Wv
def nD:=A14 @pF @cN @Ln @Qb @sK @pE @pC @fT @Pt @Lj @gR @nH @cM @rY
theorem uT{ts:List Tk}(hts:ts.length≤4194304)(hok: ∀t∈ts,TkOk t)(f:Nat)(z:Rs Un)(hz:allM ts (uniM ts f ⟨[],[],[]⟩ 0 0)=some z):PC Tryz.prog 33 [.sl (ts.map tkV) .ro,.fn (.func 34) [] []] (prsV unV (unV ⟨[],[],[]⟩) z):=by
 refine Fh (s:=[(0,.sl (ts.map tkV) .ro),(1,.fn (.func 34) [] [])]) (s1:=[(0,.sl (ts.map tkV) .ro),(1,.fn (.func 34) [] []),(4,.pt 0 0),(5,.pt 1 0)]) (l1:=[.box [.sl [] .nl,.sl [] .nl,.sl [] .nl],.box [(.im (.int .i64 (0))),(.im (.int .i64 (0)))]]) 1 25 Vs Tryz.func33 rfl (by decide) rfl rfl rfl ?_ rfl ?_
 ·rw[DA]
  refine goG nD TI ?_;exact⟨(fun e=>by cases e),rfl,rfl⟩
 rcases aU hz with ⟨b1,e1,h1,rfl⟩|⟨x,a1,o1,h1,h⟩
 ·refine wG nD TI ?_
  refine PA.callS [2] ((HA hts hok _ h1).fails) TI Aa Tf ?_;show FinD _ _ _ _ _ _ ⟨_,ofl [.box [.sl [] .nl,.sl [] .nl,.sl [] .nl],.box [(.im (.int .i64 (0))),(.im (.int .i64 (0)))],.box (List.replicate 3 .dead)]⟩
  refine FinD.pan 1 (by simp) rfl ?_
  refine aI (rs:=[.cell 4 27,.cell 5 61]) rfl (by first|exact .inl rfl|exact .inr rfl) (finG nD) ?_
  all_goals exact wkG Aa
 refine wG nD TI ?_
 refine aA [2] ((HA hts hok _ h1).good) TI Aa Tf ?_
 refine goG nD UNT ?_
 rcases aF h with ⟨hlt,h⟩|⟨hlt,h⟩
 ·have hl:(a1:Int)<(ts.length:Int):=by omega
  cases h
  refine wG nD (AI hl @List.length_map.{0,0}) ?_;refine PA.callS [2] (nZ ts a1 o1 3) TI Aa Tf ?_;show FinD _ _ _ _ _ _ ⟨_,ofl [.box [.sl [] .nl,.sl [] .nl,.sl [] .nl],.box [(.im (.int .i64 (0))),(.im (.int .i64 (0)))],.box (List.replicate 3 .dead),_]⟩
  refine FinD.pan 1 (by simp) rfl ?_
  refine aI (rs:=[.cell 4 27,.cell 5 61]) rfl (by first|exact .inl rfl|exact .inr rfl) (finG nD) ?_
  all_goals exact wkG Aa
 ·have hl: ¬(a1:Int)<(ts.length:Int):=by omega
  cases h
  refine wG nD (A3 hl @List.length_map.{0,0} UNT) ?_;refine FinD.ret 1 rfl ?_;refine aI (rs:=[.cell 4 27,.cell 5 61]) rfl (by first|exact .inl rfl|exact .inr rfl) (finG nD) ?_
  show WkF _ _ _ (.tu [unV x,.ag [(.im (.int .i64 (0))),(.im (.int .i64 (0)))]]);rw[kY x]
  all_goals exact wkG Aa
end Go.Proofs.YtmbmmckagcdapaaGreatDoor
