import Derived.Test.YtmbmmckagcdapaaGreatDoorQ34
import Derived.Test.YtmbmmckagcdapaaGreatDoorQ29
import Derived.Test.YtmbmmckagcdapaaGreatDoorQ23
set_option maxHeartbeats 2000000
set_option linter.all false
namespace Go.Proofs.YtmbmmckagcdapaaGreatDoor
open Go.RowKit
def symT(vs:List Va)(fs ls:List ByteArray)(s:Nd):Bool:=s.e.all (knw vs)&&(if s.kind==1||s.kind==3 then has vs s.name else if s.kind==5 then fs.any (fun x=>eqS s.name x)else if s.kind==12 then ls.any (fun x=>eqS s.name x)else true)
def gY:=A16 @cO @Or @hU @fB @On @dR @kR @gM @Wn @Wm @Hu @iV @mZ @iD @cN (A5 @Oh @hM @dK @Of @dA)
theorem CQ(vs:List Va)(hv:vs.length≤4194304)(fs ls sn:List ByteArray)(hfs:fs.length≤4194304)(hls:ls.length≤4194304)(s:Nd)(hf:fitN s)(hfm: ∀x∈s.e,efm x=true):DC Tryz.prog 164 [.pt 0 0,ndV s] [.box [(V.fn (.func 154) [] [.pt 1 0]),.sl (fs.map tsV) .ro,.sl (ls.map tsV) (.own 2),.sl ((sn).map tsV) (.own 3)],.box [(V.sl (vs.map vaV) .ro)],.tip 9 1 ls.length,.tip 9 1 (sn).length] (.im (.bool (symT vs fs ls s))) [.box [(V.fn (.func 154) [] [.pt 1 0]),.sl (fs.map tsV) .ro,.sl (ls.map tsV) (.own 2),.sl ((sn).map tsV) (.own 3)],.box [(V.sl (vs.map vaV) .ro)],.tip 9 1 ls.length,.tip 9 1 (sn).length]:=by
 obtain⟨hI,hsz,⟨he1,he2⟩,h4,h5,h6,h7⟩:=dU hf
 have h1:=Hd vs hv s.name
 have h2:=qF fs hfs s.name
 have h3:=qF ls hls s.name
 refine dcEnt 52 Tryz.func164 rfl [(0,.pt 0 0),(1,ndV s)] ?_
 rw[eF s]
 refine wG gY TI ?_
 refine aP ?_
 refine ALp.cutP 5 [(0,.pt 0 0),(3,.pt 4 0),(4,(.im (.bool (false)))),(8,.sl (s.e.map exV) .ro),(9,(.im (.int .i64 (s.e.length)))),(10,(.im (.int .i64 ((((0:Nat)):Int)))))] [.box [(V.fn (.func 154) [] [.pt 1 0]),.sl (fs.map tsV) .ro,.sl (ls.map tsV) (.own 2),.sl ((sn).map tsV) (.own 3)],.box [(V.sl (vs.map vaV) .ro)],.tip 9 1 ls.length,.tip 9 1 (sn).length,.box [.im (.int .i64 (s).kind),.im (.int .i64 (s).width),.im (.string (s).name),.sl ((s).e.map exV) .ro,.sl ((s).l.map ndV) .ro,.sl ((s).el.map ndV) .ro,.sl ((s).cs.map nlV) .ro]] BN02 ?_
 refine aW s.e.length (AllTo (knw vs) s.e) (fun m=>⟨dn 52 [(0,.pt 0 0),(3,.pt 4 0),(4,(.im (.bool (false)))),(8,.sl (s.e.map exV) .ro),(9,(.im (.int .i64 (s.e.length)))),(10,(.im (.int .i64 ((((m:Nat)):Int)))))],ofl [.box [(V.fn (.func 154) [] [.pt 1 0]),.sl (fs.map tsV) .ro,.sl (ls.map tsV) (.own 2),.sl ((sn).map tsV) (.own 3)],.box [(V.sl (vs.map vaV) .ro)],.tip 9 1 ls.length,.tip 9 1 (sn).length,.box [.im (.int .i64 (s).kind),.im (.int .i64 (s).width),.im (.string (s).name),.sl ((s).e.map exV) .ro,.sl ((s).l.map ndV) .ro,.sl ((s).el.map ndV) .ro,.sl ((s).cs.map nlV) .ro]]⟩) ?_ 0 (Nat.zero_le _) (AllTo.zero _ _)
 intro m hm hI hnext
 by_cases hlt:m<s.e.length
 ·have hlt':(m:Int)<(s.e.length:Int):=by omega
  have hm1:=aK hlt (by omega)
  have hg:=bB hlt;have hc:=QN vs hv s.e[m] (he2 _ (List.getElem_mem hlt)) (hfm _ (List.getElem_mem hlt));refine wdG gY (A3 hlt' hg EX) ?_;cases b:knw vs s.e[m]with
  | false =>
   rw[b]at hc;have hr:symT vs fs ls s=false:=by unfold symT;rw[pF hlt b,Bool.false_and]
   rw[hr];refine cA [1] hc @bH BN02 RS ?_;refine goG gY TI ?_;refine wdG gY TI ?_;exact bO BN02
  | true =>
   rw[b]at hc;refine cA [1] hc @bH BN02 RS ?_;refine goG gY TI ?_;refine wdG gY hm1 ?_;refine ALp.cutP 5 [(0,.pt 0 0),(3,.pt 4 0),(4,(.im (.bool (false)))),(8,.sl (s.e.map exV) .ro),(9,(.im (.int .i64 (s.e.length)))),(10,(.im (.int .i64 ((((m+1:Nat)):Int)))))] [.box [(V.fn (.func 154) [] [.pt 1 0]),.sl (fs.map tsV) .ro,.sl (ls.map tsV) (.own 2),.sl ((sn).map tsV) (.own 3)],.box [(V.sl (vs.map vaV) .ro)],.tip 9 1 ls.length,.tip 9 1 (sn).length,.box [.im (.int .i64 (s).kind),.im (.int .i64 (s).width),.im (.string (s).name),.sl ((s).e.map exV) .ro,.sl ((s).l.map ndV) .ro,.sl ((s).el.map ndV) .ro,.sl ((s).cs.map nlV) .ro]] BN02 ?_;exact hnext (m+1) (by omega) (by omega) (hI.succ hlt b)
 obtain rfl:m=s.e.length:=by omega
 clear hnext
 have hall:s.e.all (knw vs)=true:=List.all_eq_true.2 fun x hx=>by
  obtain⟨j,hj,rfl⟩:=List.getElem_of_mem hx;exact hI j hj hj
 unfold symT
 rw[hall,Bool.true_and]
 by_cases k1:s.kind=1
 ·rw[if_pos (by simp[k1])]
  refine wdG gY (AI @Int.lt_irrefl k1) ?_;refine cA [1] h1 TI BN02 RS ?_;refine goG gY TI ?_;refine wdG gY TI ?_;exact bO BN02
 by_cases k3:s.kind=3
 ·rw[if_pos (by simp[k3])]
  refine wdG gY (AI @Int.lt_irrefl k3) ?_;refine cA [1] h1 TI BN02 RS ?_;refine goG gY TI ?_;refine wdG gY TI ?_;exact bO BN02
 rw[if_neg (by simp[k1,k3])]
 by_cases k5:s.kind=5
 ·rw[if_pos (by simp[k5])]
  refine wdG gY (AI @Int.lt_irrefl k5) ?_;refine AR.callP h2 TI BN02 ?_;refine goG gY TI ?_;refine wdG gY TI ?_;exact bO BN02
 rw[if_neg (by simp[k5])]
 by_cases k12:s.kind=12
 ·rw[if_pos (by simp[k12])]
  refine wdG gY (AI @Int.lt_irrefl k12) ?_;refine dI h3 TI BN02 ?_;refine goG gY TI ?_;refine wdG gY TI ?_;exact bO BN02
 rw[if_neg (by simp[k12])]
 refine wdG gY (A5 @Int.lt_irrefl k1 k3 k5 k12) ?_
 exact bO BN02
def Nx:=AI @fB @dK
theorem LB{x:Ex}{r:Bool}(h:PC Tryz.prog 73 [exV x,(.im (.int .i64 (64)))] (.im (.bool (r)))):PC Tryz.prog 163 [exV x] (.im (.bool (!r))):=by
 refine pcEnt 6 Tryz.func163 rfl [(0,exV x)] ?_
 rw[bH x]at h ⊢
 refine wG Nx TI ?_
 refine AR.callP h TI BN02 ?_
 refine goG Nx TI ?_
 refine wG Nx TI ?_
 exact aB
theorem lW{P:Program}{N:Nat}{ops:Array Oper}{dr:Bool}{Q:Exit→St→Prop}{d:Option Tmp}{c:Operand}{args:Array Operand}{tys:Array TypeId}{ty:TypeId}{pos:String}{af:Array Edge}{g:Option (Nat×Bool)}{os:List Oper}{k:Nat}{s:List (Nat×V)}{l:List Ent}
  {acc:List (Nat×List Nat×List Nat)} {f:FuncId} {us vs xs xs':List V} {r r':V} {l0:List Ent} {F E M:Prop} (js:List Nat) (h:DC P f xs l0 r l0) (fa:F) (fi:E) (fr:M)
  (n:AR P ops dr Q os (k+1) ⟨dn N (eV s d r'),ofl l⟩ ((k,(fQ js 0 l0).map Prod.fst,[])::acc)) (hg:gd ops ⟨d,.call {callee:= .value c,args:=args,argTypes:=tys},ty,pos,af,g⟩ ⟨dn N s,ofl l⟩=some true:=by rfl) (hc:St.ev ⟨dn N s,ofl l⟩ c= .fn (.func f) us vs:=by rfl)
  (hx:M→V.renL (gOf js) xs=xs':=by intro f;first|(simp only[SR,f];done)|(simp only[SR,f];with_reducible exact rfl)) (hr:M→V.ren (gOf js) r=r':=by intro f;first|(simp only[SR,f];done)|(simp only[SR,f];with_reducible exact rfl))
  (hw:F→WkL (us++args.toList.map (St.ev ⟨dn N s,ofl l⟩)++vs) xs':=by intro f;exact iH (by simp only[St.ev,V.ofVal,V.ofCell,V.size_im,fT,dE,iJ,Nat.reduceLT,Nat.reduceEqDiff,reduceIte,if_true,if_false,List.map_cons,List.map_nil,List.nil_append,List.cons_append,List.append_nil,f])) (hi:E→V.idsL (ltB js.length) xs=true:=by intro f;first|rfl|simp only[List.length_cons,List.length_nil,Nat.reduceAdd,V.ids,V.idsL,idsA,entOk,List.all_cons,List.all_nil,Bool.and_self,Bool.and_true,Bool.true_and,ltB,noId,Nat.reduceLT,decide_true,Bool.true_eq_false,bQ,bS,bR,bT,f])
  (hnd:decide js.Nodup=true:=by rfl) (h0:l0.length=js.length:=by rfl) (he:E→l0.all (entOk (ltB js.length))=true:=by intro f;first|rfl|simp only[List.length_cons,List.length_nil,Nat.reduceAdd,V.ids,V.idsL,idsA,entOk,List.all_cons,List.all_nil,Bool.and_self,Bool.and_true,Bool.true_and,ltB,noId,Nat.reduceLT,decide_true,Bool.true_eq_false,bQ,bS,bR,bT,f])
  (hl:M→ ∀p∈fQ js 0 l0,ofl l p.1=p.2:=by intro f p hp;simp only[fQ,SR,Ent.ren,List.mem_cons,List.not_mem_nil,or_false,f]at hp;first|(rcases hp with rfl|rfl|rfl|rfl<;>rfl)|(rcases hp with rfl|rfl|rfl|rfl|rfl<;>rfl)|(rcases hp with rfl<;>rfl)|(rcases hp with rfl|rfl<;>rfl)|(rcases hp with rfl|rfl|rfl<;>rfl)) :
  AR P ops dr Q (⟨d,.call {callee:= .value c,args:=args,argTypes:=tys},ty,pos,af,g⟩::os) k ⟨dn N s,ofl l⟩ acc:=Td js h hg hc (hx fr) (hr fr) (hw fa) (hi fi) hnd h0 (he fi) (hl fr) n
def chk1(vs:List Va)(fs ls sn:List ByteArray)(p:Nd×Bool):Int :=
 if !(p.1.e.all fun x=>esh x 64)then 20 else if !stT p.1 then 2 else if !symT vs fs ls p.1 then 17 else if(p.1.kind==10||p.1.kind==11)&& !p.2 then 21 else if p.1.kind==13&&sn.any (fun x=>eqS p.1.name x)then 8 else 0
def nxt(sn:List ByteArray)(p:Nd×Bool):List ByteArray:=if p.1.kind==13 then sn++[p.1.name]else sn
theorem NK{s:Nd}(h:stT s=true): ∀x∈s.e,efm x=true:=by
 unfold stT at h
 simp only[Bool.and_eq_true,List.all_eq_true]at h
 exact h.2
def bN:=A16 @iR @cO @Oq @hU @On @dR @mJ @Wo @jN @Wl @iV @mZ @iD @yJ @Wj (A6 @gT @cN @Og @hM @Of @dA)
theorem LA(vs:List Va)(hv:vs.length≤4194304)(fs ls sn:List ByteArray)(hfs:fs.length≤4194304)(hls:ls.length≤4194304)(hsn:sn.length≤4194304)(p:Nd×Bool)(hf:fitN p.1) :
  DC Tryz.prog 97 [.pt 0 0,plV p] [.box [(V.fn (.func 154) [] [.pt 1 0]),.sl (fs.map tsV) .ro,.sl (ls.map tsV) (.own 2),.sl ((sn).map tsV) (.own 3)],.box [(V.sl (vs.map vaV) .ro)],.tip 9 1 ls.length,.tip 9 1 (sn).length] (.im (.int .i64 (chk1 vs fs ls sn p))) [.box [(V.fn (.func 154) [] [.pt 1 0]),.sl (fs.map tsV) .ro,.sl (ls.map tsV) (.own 2),.sl ((if chk1 vs fs ls sn p=0 then nxt sn p else sn).map tsV) (.own 3)],.box [(V.sl (vs.map vaV) .ro)],.tip 9 1 ls.length,.tip 9 1 (if chk1 vs fs ls sn p=0 then nxt sn p else sn).length]:=by
 obtain⟨s,lp⟩:=p
 obtain⟨hI,hsz,⟨he1,he2⟩,h4,h5,h6,h7⟩:=dU hf
 have h1:=oN (gs:=s.e) (F:=163) (fun x=> !esh x 64) he1 (fun t ht=>LB (Hc t (he2 t ht) 64 (by decide)))
 rw[←List.not_all_eq_any_not]at h1
 have h2:=Cu s hf
 have h5:=qF sn hsn s.name
 unfold chk1
 simp only
 cases b1:s.e.all fun x=>esh x 64 with
 | false =>
  rw[b1]at h1;simp only[Bool.not_false,if_true,show ¬(20:Int)=0 by decide,if_false]
  refine dcEnt 62 Tryz.func97 rfl [(0,.pt 0 0),(1,plV (s,lp))] ?_
  simp only[oD];refine wG bN TI ?_;refine AR.callP h1 TI BN02 ?_;refine goG bN TI ?_;refine wG bN TI ?_;exact bO BN02
 | true =>
 rw[b1]at h1
 simp only[Bool.not_true,Bool.false_eq_true,if_false]
 cases b2:stT s with
 | false =>
  rw[b2]at h2;simp only[Bool.not_false,if_true,show ¬(2:Int)=0 by decide,if_false]
  refine dcEnt 62 Tryz.func97 rfl [(0,.pt 0 0),(1,plV (s,lp))] ?_
  simp only[oD];refine wG bN TI ?_;refine AR.callP h1 TI BN02 ?_;refine goG bN TI ?_;refine wG bN TI ?_;refine AR.callP h2 eF BN02 ?_;refine goG bN TI ?_;refine wG bN TI ?_;exact bO BN02
 | true =>
 rw[b2]at h2
 simp only[Bool.not_true,Bool.false_eq_true,if_false]
 have h3:=CQ vs hv fs ls sn hfs hls s hf (NK b2)
 cases b3:symT vs fs ls s with
 | false =>
  rw[b3]at h3;simp only[Bool.not_false,if_true,show ¬(17:Int)=0 by decide,if_false]
  refine dcEnt 62 Tryz.func97 rfl [(0,.pt 0 0),(1,plV (s,lp))] ?_
  simp only[oD];refine wG bN TI ?_;refine AR.callP h1 TI BN02 ?_;refine goG bN TI ?_;refine wG bN TI ?_;refine AR.callP h2 eF BN02 ?_;refine goG bN TI ?_;refine wG bN TI ?_;refine lW [0,1,2,3] h3 eF BN02 Tb ?_;refine goG bN TI ?_;refine wG bN TI ?_;exact bO BN02
 | true =>
 rw[b3]at h3
 simp only[Bool.not_true,Bool.false_eq_true,if_false]
 by_cases k10:s.kind=10
 ·have e13:nxt sn (s,lp)=sn:=by simp[nxt,k10]
  cases lp with
  | false =>
   rw[if_pos (by simp[k10])]
   simp only[show ¬(21:Int)=0 by decide,if_false]
   refine dcEnt 62 Tryz.func97 rfl [(0,.pt 0 0),(1,plV (s,false))] ?_
   simp only[oD];refine wG bN TI ?_;refine AR.callP h1 TI BN02 ?_;refine goG bN TI ?_;refine wG bN TI ?_;refine AR.callP h2 eF BN02 ?_;refine goG bN TI ?_;refine wG bN TI ?_;refine lW [0,1,2,3] h3 eF BN02 Tb ?_;refine goG bN TI ?_;refine wG bN k10 ?_;exact bO BN02
  | true =>
   rw[if_neg (by simp),if_neg (by simp[k10])]
   simp only[if_true,e13];refine dcEnt 62 Tryz.func97 rfl [(0,.pt 0 0),(1,plV (s,true))] ?_
   simp only[oD];refine wG bN TI ?_;refine AR.callP h1 TI BN02 ?_;refine goG bN TI ?_;refine wG bN TI ?_;refine AR.callP h2 eF BN02 ?_;refine goG bN TI ?_;refine wG bN TI ?_;refine lW [0,1,2,3] h3 eF BN02 Tb ?_;refine goG bN TI ?_;refine wG bN k10 ?_;exact bO BN02
 by_cases k11:s.kind=11
 ·have e13:nxt sn (s,lp)=sn:=by simp[nxt,k11]
  cases lp with
  | false =>
   rw[if_pos (by simp[k11])]
   simp only[show ¬(21:Int)=0 by decide,if_false]
   refine dcEnt 62 Tryz.func97 rfl [(0,.pt 0 0),(1,plV (s,false))] ?_
   simp only[oD];refine wG bN TI ?_;refine AR.callP h1 TI BN02 ?_;refine goG bN TI ?_;refine wG bN TI ?_;refine AR.callP h2 eF BN02 ?_;refine goG bN TI ?_;refine wG bN TI ?_;refine lW [0,1,2,3] h3 eF BN02 Tb ?_;refine goG bN TI ?_;refine wG bN (AI k10 k11) ?_;exact bO BN02
  | true =>
   rw[if_neg (by simp),if_neg (by simp[k11])]
   simp only[if_true,e13];refine dcEnt 62 Tryz.func97 rfl [(0,.pt 0 0),(1,plV (s,true))] ?_
   simp only[oD];refine wG bN TI ?_;refine AR.callP h1 TI BN02 ?_;refine goG bN TI ?_;refine wG bN TI ?_;refine AR.callP h2 eF BN02 ?_;refine goG bN TI ?_;refine wG bN TI ?_;refine lW [0,1,2,3] h3 eF BN02 Tb ?_;refine goG bN TI ?_;refine wG bN (AI k10 k11) ?_;exact bO BN02
 rw[if_neg (by simp[k10,k11])]
 by_cases k13:s.kind=13
 case neg =>
  have e13:nxt sn (s,lp)=sn:=by simp[nxt,k13]
  rw[if_neg (by simp[k13])]
  simp only[if_true,e13];refine dcEnt 62 Tryz.func97 rfl [(0,.pt 0 0),(1,plV (s,lp))] ?_
  simp only[oD];refine wG bN TI ?_;refine AR.callP h1 TI BN02 ?_;refine goG bN TI ?_;refine wG bN TI ?_;refine AR.callP h2 eF BN02 ?_;refine goG bN TI ?_;refine wG bN TI ?_;refine lW [0,1,2,3] h3 eF BN02 Tb ?_;refine goG bN TI ?_;refine wG bN (A3 k10 k11 k13) ?_;exact bO BN02
 have e13:nxt sn (s,lp)=sn++[s.name]:=by simp[nxt,k13]
 cases b4:sn.any fun x=>eqS s.name x with
 | true =>
  rw[b4]at h5;rw[if_pos (by simp[k13])]
  simp only[show ¬(8:Int)=0 by decide,if_false]
  refine dcEnt 62 Tryz.func97 rfl [(0,.pt 0 0),(1,plV (s,lp))] ?_
  simp only[oD];refine wG bN TI ?_;refine AR.callP h1 TI BN02 ?_;refine goG bN TI ?_;refine wG bN TI ?_;refine AR.callP h2 eF BN02 ?_;refine goG bN TI ?_;refine wG bN TI ?_;refine lW [0,1,2,3] h3 eF BN02 Tb ?_;refine goG bN TI ?_;refine wdG bN (A3 k10 k11 k13) ?_;refine dI h5 TI BN02 ?_;refine goG bN TI ?_;refine wdG bN TI ?_;exact bO BN02
 | false =>
  rw[b4]at h5;rw[if_neg (by simp)]
  have hap:sn.map tsV++[.im (.string s.name)]=(sn++[s.name]).map tsV:=by simp[tsV]
  have hln:sn.length+1=(sn++[s.name]).length:=by simp
  have hA:(sn++[s.name]).length*16≤140737488355328:=by simp;omega
  simp only[if_true,e13];generalize sn++[s.name]=sn' at hap hln hA ⊢;refine dcEnt 62 Tryz.func97 rfl [(0,.pt 0 0),(1,plV (s,lp))] ?_
  simp only[oD];refine wG bN TI ?_;refine AR.callP h1 TI BN02 ?_;refine goG bN TI ?_;refine wG bN TI ?_;refine AR.callP h2 eF BN02 ?_;refine goG bN TI ?_;refine wG bN TI ?_;refine lW [0,1,2,3] h3 eF BN02 Tb ?_;refine goG bN TI ?_;refine wdG bN (A3 k10 k11 k13) ?_;refine dI h5 TI BN02 ?_;refine goG bN TI ?_;refine wdG bN (A4 hap hln hA @List.length_map.{0,0}) ?_;exact bO BN02
def labs(l:List (Nd×Bool)):List ByteArray:=l.flatMap fun p=>if p.1.kind==13 then [p.1.name]else []
theorem BN{l:List (Nd×Bool)}{m:Nat}(h:m<l.length):labs (l.take (m+1))=if l[m].1.kind==13 then labs (l.take m)++[l[m].1.name]else labs (l.take m):=by
 unfold labs
 rw[←sR _ h]
 split<;>simp
def runS(vs:List Va)(fs ls:List ByteArray):List ByteArray→List (Nd×Bool)→Int
 | _,[]=>0
 | sn,p::r=>if chk1 vs fs ls sn p=0 then runS vs fs ls (nxt sn p) r else chk1 vs fs ls sn p
theorem vU(vs:List Va)(fs ls sn:List ByteArray)(p:Nd×Bool)(r:List (Nd×Bool)):runS vs fs ls sn (p::r)=if chk1 vs fs ls sn p=0 then runS vs fs ls (nxt sn p) r else chk1 vs fs ls sn p:=rfl
def seenS:List ByteArray→List (Nd×Bool)→List ByteArray
 | sn,[]=>sn
 | sn,p::r=>seenS (nxt sn p) r
theorem Ls(sn:List ByteArray)(a b:List (Nd×Bool)):seenS sn (a++b)=seenS (seenS sn a) b:=by
 induction a generalizing sn with
 | nil=>rfl
 | cons x a ih=>exact ih _
theorem AX(sn:List ByteArray)(l:List (Nd×Bool)):(seenS sn l).length≤sn.length+l.length:=by
 induction l generalizing sn with
 | nil=>exact Nat.le_refl _
 | cons x l ih =>
  have:=ih (nxt sn x);have h2:(nxt sn x).length≤sn.length+1:=by unfold nxt;split<;>simp
  simp only[seenS,List.length_cons];omega
theorem Qk(l:List (Nd×Bool)):(labs l).length≤l.length:=by
 induction l with
 | nil=>exact Nat.le_refl _
 | cons x l ih =>
  unfold labs at ih ⊢;rw[List.flatMap_cons,List.length_append,List.length_cons];have:(if x.1.kind==13 then [x.1.name]else []).length≤1:=by split<;>simp
  omega
theorem Nm: ∀(l:List Nd),lT l→ ∀lp,∀p∈allL l lp,fitN p.1:=by
 refine nR fun l hl hf lp p hp=> ?_
 obtain⟨t,ht,hp⟩:=List.mem_flatMap.1 hp
 rw[Dw]at hp
 rcases List.mem_cons.1 hp with rfl|hp
 ·exact hf.2 t ht
 ·obtain⟨c,hc,hp⟩:=List.mem_flatMap.1 hp
  exact hl t ht c hc ((Gn (hf.2 t ht)).2 c hc) _ p hp
def bodyE(gs:List Va)(f:Fun)(fs:List ByteArray):Int :=
 if 256<gs.length+f.vars.length then 6 else if vErr gs f.vars≠0 then vErr gs f.vars else if 64<dep f.body then 20 else if 1024<cnt f.body then 6 else runS (gs++f.vars) fs (labs (allL f.body false)) [] (allL f.body false)
theorem kO(g:Nat→Nat)(x:Nd×Bool):V.ren g (plV x)=plV x:=V.ren_id g _ (fI _ x)
theorem PL:type_of%(A8 @uR @rP @uP @uO @uQ @rQ @List.getElem?_map.{0,0} @Int.natCast_nonneg) :=
 A8 @uR @rP @uP @uO @uQ @rQ @List.getElem?_map.{0,0} @Int.natCast_nonneg
def fR:=A16 @iR @Ta @kA @cO @jO @On @dR @MK @Ia @RR @mJ @Wo @Hx @Sw @jZ (A16 @jN @Hu @iV @mZ @yJ @lV @mX @pB @LZ @gT @Hq @iZ @cN @iQ @Of (AI @dA @jM))
theorem XJ(u:Un)(f:Fun)(fs:List ByteArray)(hg:u.globals.length≤2097152)(hv:f.vars.length≤2097152)(hvn:fitVN f.vars)(hb:lT f.body)(hc:cnt f.body≤4194304)(hfs:fs.length≤4194304) :
  PC Tryz.prog 45 [unV u,fnV f,.sl (fs.map tsV) .ro] (.im (.int .i64 (bodyE u.globals f fs))):=by
 have h1:=zO u.globals f.vars (by omega) hvn
 have h2:=Yq f.body hb hc
 have h3:=SV f.body hb hc false
 have hlen:=Hi f.body false
 have hw:IntKind.i64.wrap ((u.globals.length:Int)+(f.vars.length:Int))=(u.globals.length:Int)+(f.vars.length:Int):=cU (by omega)
 unfold bodyE
 refine pcEnt 87 Tryz.func45 rfl [(0,unV u),(1,fnV f),(2,.sl (fs.map tsV) .ro)] ?_
 simp only[kS,jH]
 by_cases b1:256<u.globals.length+f.vars.length
 ·have b1':(256:Int)<(u.globals.length:Int)+(f.vars.length:Int):=by omega
  rw[if_pos b1];refine wG fR (A3 hw b1' @List.length_map.{0,0}) ?_;exact aB
 have b1': ¬(256:Int)<(u.globals.length:Int)+(f.vars.length:Int):=by omega
 rw[if_neg b1]
 refine wG fR (A3 hw b1' @List.length_map.{0,0}) ?_
 refine AR.callP h1 TI BN06 ?_
 by_cases b2:vErr u.globals f.vars=0
 case neg =>
  rw[if_pos b2];refine goG fR b2 ?_;refine wG fR b2 ?_;exact aB
 rw[if_neg (by simp[b2])]
 rw[b2]
 refine goG fR TI ?_
 refine wG fR TI ?_
 refine AR.callP h2 TI BN06 ?_
 by_cases b3:64<dep f.body
 ·rw[if_pos b3]
  refine goG fR b3 ?_;refine wG fR b3 ?_;exact aB
 rw[if_neg b3]
 refine goG fR b3 ?_
 refine wG fR b3 ?_
 refine AR.callP h3 TI BN06 ?_
 by_cases b4:1024<cnt f.body
 ·have b4':(1024:Int)<(cnt f.body:Int):=by omega
  rw[if_pos b4];refine goG fR TI ?_;refine wG fR (A3 b4' @List.length_map.{0,0} hlen) ?_;exact aB
 have b4': ¬(1024:Int)<(cnt f.body:Int):=by omega
 rw[if_neg b4]
 refine goG fR TI ?_
 refine wG fR (A3 b4' @List.length_map.{0,0} hlen) ?_
 have h4:=DH (xss:=[u.globals.map vaV,f.vars.map vaV]) (by simp) (by
  intro xs hx;simp only[List.mem_cons,List.not_mem_nil,or_false]at hx;rcases hx with rfl|rfl
  ·exact Li _
  ·exact Li _) (by
  intro p xs hx;simp only[List.mem_cons,List.not_mem_nil,or_false]at hx;rcases hx with rfl|rfl
  ·exact aL _ _
  ·exact aL _ _) (by simp;omega)
 have e1:[u.globals.map vaV,f.vars.map vaV].flatten=(u.globals++f.vars).map vaV:=by simp
 rw[e1]at h4
 simp only[List.map_cons,List.map_nil]at h4
 have h5:=Yt (u.globals++f.vars)
 have hvs:(u.globals++f.vars).length≤4194304:=by rw[List.length_append];omega
 generalize u.globals++f.vars=vs at h4 h5 hvs ⊢
 have hfa:=Nm f.body hb false
 have hlb:=Qk (allL f.body false)
 generalize allL f.body false=its at h3 hlen hfa hlb ⊢
 refine dI h4 TI BN06 ?_
 refine goG fR TI ?_
 refine aA [2] h5 TI BN06 (A9 @aQ @aR @bE @bD jF bI bK cC kO) ?_
 refine goG fR TI ?_
 refine wG fR @List.length_map.{0,0} ?_
 rw[←hlen]at b4
 clear h1 h2 h3 h4 h5 hw b1 b1' b2 b3 b4' hlen hvn
 refine aP ?_
 refine ALp.ghostB 3 2 [(V.fn (.func 154) [] [.pt 2 0]),.sl (fs.map tsV) .ro,.sl [] .nl,.sl [] .nl] 9 1 ?_
 have hlbl: ∀m,(labs (its.take m)).length≤its.length:=fun m=>by
  have:=Qk (its.take m);rw[List.length_take]at this;omega
 refine ALp.cutP 5 [(8,.sl (its.map plV) .ro),(9,.pt 3 0),(51,.sl (its.map plV) .ro),(52,(.im (.int .i64 (its.length)))),(53,(.im (.int .i64 ((((0:Nat)):Int)))))] [.box [.sl (u.globals.map vaV) .ro,.sl (u.data.map scV) .ro,.sl (u.funcs.map fnV) .ro],.box [.im (.string f.name),.sl (f.vars.map vaV) .ro,.sl (f.body.map ndV) .ro],.box [.sl (vs.map vaV) .ro],.box [(V.fn (.func 154) [] [.pt 2 0]),.sl (fs.map tsV) .ro,.sl ((labs (its.take (0))).map tsV) (.own 4),.sl [] .nl],.tip 9 1 (labs (its.take (0))).length] BN06 ?_
 refine aW its.length (fun _=>True) (fun m=>⟨dn 87 [(8,.sl (its.map plV) .ro),(9,.pt 3 0),(51,.sl (its.map plV) .ro),(52,(.im (.int .i64 (its.length)))),(53,(.im (.int .i64 ((((m:Nat)):Int)))))],ofl [.box [.sl (u.globals.map vaV) .ro,.sl (u.data.map scV) .ro,.sl (u.funcs.map fnV) .ro],.box [.im (.string f.name),.sl (f.vars.map vaV) .ro,.sl (f.body.map ndV) .ro],.box [.sl (vs.map vaV) .ro],.box [(V.fn (.func 154) [] [.pt 2 0]),.sl (fs.map tsV) .ro,.sl ((labs (its.take (m))).map tsV) (.own 4),.sl [] .nl],.tip 9 1 (labs (its.take (m))).length]⟩) ?_ 0 (Nat.zero_le _) trivial
 intro m hm _ hnext
 by_cases hlt:m<its.length
 ·have hlt':(m:Int)<(its.length:Int):=by omega
  have hm1:=aK hlt (by omega)
  have hg:=bB hlt;have hst:=BN hlt
  by_cases k13:its[m].1.kind=13
  ·rw[if_pos (by simp[k13])]at hst
   have hap:(labs (its.take m)).map tsV++[.im (.string its[m].1.name)]=(labs (its.take (m+1))).map tsV:=by rw[hst];simp[tsV]
   have hln:(labs (its.take m)).length+1=(labs (its.take (m+1))).length:=by rw[hst];simp
   have hA:(labs (its.take (m+1))).length*16≤140737488355328:=by have:=hlbl (m+1);omega
   clear hst;refine wdG fR (A9 hlt' hg k13 hap hln hA hm1 @List.length_map.{0,0} PL) ?_;refine ALp.cutP 5 [(8,.sl (its.map plV) .ro),(9,.pt 3 0),(51,.sl (its.map plV) .ro),(52,(.im (.int .i64 (its.length)))),(53,(.im (.int .i64 ((((m+1:Nat)):Int)))))] [.box [.sl (u.globals.map vaV) .ro,.sl (u.data.map scV) .ro,.sl (u.funcs.map fnV) .ro],.box [.im (.string f.name),.sl (f.vars.map vaV) .ro,.sl (f.body.map ndV) .ro],.box [.sl (vs.map vaV) .ro],.box [(V.fn (.func 154) [] [.pt 2 0]),.sl (fs.map tsV) .ro,.sl ((labs (its.take (m+1))).map tsV) (.own 4),.sl [] .nl],.tip 9 1 (labs (its.take (m+1))).length] BN06 ?_;exact hnext (m+1) (by omega) (by omega) trivial
  ·rw[if_neg (by simp[k13])]at hst
   refine wdG fR (A5 hlt' hg k13 hm1 PL) ?_;rw[←hst];refine ALp.cutP 5 [(8,.sl (its.map plV) .ro),(9,.pt 3 0),(51,.sl (its.map plV) .ro),(52,(.im (.int .i64 (its.length)))),(53,(.im (.int .i64 ((((m+1:Nat)):Int)))))] [.box [.sl (u.globals.map vaV) .ro,.sl (u.data.map scV) .ro,.sl (u.funcs.map fnV) .ro],.box [.im (.string f.name),.sl (f.vars.map vaV) .ro,.sl (f.body.map ndV) .ro],.box [.sl (vs.map vaV) .ro],.box [(V.fn (.func 154) [] [.pt 2 0]),.sl (fs.map tsV) .ro,.sl ((labs (its.take (m+1))).map tsV) (.own 4),.sl [] .nl],.tip 9 1 (labs (its.take (m+1))).length] BN06 ?_;exact hnext (m+1) (by omega) (by omega) trivial
 obtain rfl:m=its.length:=by omega
 clear hnext hlbl
 rw[List.take_length]
 refine whG fR @Int.lt_irrefl ?_
 refine Blk'.here (Thn.n ?_)
 generalize labs its=ls at hlb ⊢
 refine wG fR @List.length_map.{0,0} ?_
 refine aP ?_
 refine ALp.ghostB 3 3 [(V.fn (.func 154) [] [.pt 2 0]),.sl (fs.map tsV) .ro,.sl (ls.map tsV) (.own 4),.sl [] .nl] 9 1 ?_
 refine ALp.cutP 6 [(9,.pt 3 0),(74,.sl (its.map plV) .ro),(75,(.im (.int .i64 (its.length)))),(76,(.im (.int .i64 ((((0:Nat)):Int)))))] [.box [.sl (u.globals.map vaV) .ro,.sl (u.data.map scV) .ro,.sl (u.funcs.map fnV) .ro],.box [.im (.string f.name),.sl (f.vars.map vaV) .ro,.sl (f.body.map ndV) .ro],.box [.sl (vs.map vaV) .ro],.box [(V.fn (.func 154) [] [.pt 2 0]),.sl (fs.map tsV) .ro,.sl (ls.map tsV) (.own 4),.sl ((seenS [] (its.take (0))).map tsV) (.own 5)],.tip 9 1 ls.length,.tip 9 1 (seenS [] (its.take (0))).length] BN06 ?_
 refine aW its.length (fun m=>runS vs fs ls (seenS [] (its.take m)) (its.drop m)=runS vs fs ls [] its) (fun m=>⟨dn 87 [(9,.pt 3 0),(74,.sl (its.map plV) .ro),(75,(.im (.int .i64 (its.length)))),(76,(.im (.int .i64 ((((m:Nat)):Int)))))],ofl [.box [.sl (u.globals.map vaV) .ro,.sl (u.data.map scV) .ro,.sl (u.funcs.map fnV) .ro],.box [.im (.string f.name),.sl (f.vars.map vaV) .ro,.sl (f.body.map ndV) .ro],.box [.sl (vs.map vaV) .ro],.box [(V.fn (.func 154) [] [.pt 2 0]),.sl (fs.map tsV) .ro,.sl (ls.map tsV) (.own 4),.sl ((seenS [] (its.take (m))).map tsV) (.own 5)],.tip 9 1 ls.length,.tip 9 1 (seenS [] (its.take (m))).length]⟩) ?_ 0 (Nat.zero_le _) rfl
 intro m hm hV hnext
 rw[←hV]
 by_cases hlt:m<its.length
 ·have hlt':(m:Int)<(its.length:Int):=by omega
  have hm1:=aK hlt (by omega)
  have hg:=bB hlt;have hsl:=AX [] (its.take m);rw[List.length_take]at hsl;simp only[List.length_nil]at hsl
  have hsn:nxt (seenS [] (its.take m)) its[m]=seenS [] (its.take (m+1)):=by
   rw[List.take_succ_eq_append_getElem hlt,Ls];rfl
  have hc:=LA vs hvs fs ls (seenS [] (its.take m)) hfs (by omega) (by omega) its[m] (hfa _ (List.getElem_mem hlt))
  have hd:its.drop m=its[m]::its.drop (m+1):=List.drop_eq_getElem_cons hlt;rw[hd]at hV ⊢;rw[vU]at hV ⊢
  by_cases b:chk1 vs fs ls (seenS [] (its.take m)) its[m]=0
  ·rw[if_pos b]at hV ⊢
   rw[b,if_pos rfl,hsn]at hc;rw[hsn]at hV ⊢;refine wG fR (A3 hlt' hg PL) ?_;refine AR.callS [3,2,4,5] hc rfl rfl (by first|(simp only[SR,aQ,aR,bE,bD,jF,bI,bK,cC,kO];done)|(simp only[SR,aQ,aR,bE,bD,jF,bI,bK,cC,kO];with_reducible exact rfl)) (by first|(simp only[SR,aQ,aR,bE,bD,jF,bI,bK,cC,kO];done)|(simp only[SR,aQ,aR,bE,bD,jF,bI,bK,cC,kO];with_reducible exact rfl)) (iH (by simp only[St.ev,V.ofVal,V.ofCell,V.size_im,fT,dE,iJ,Nat.reduceLT,Nat.reduceEqDiff,reduceIte,if_true,if_false,List.map_cons,List.map_nil,List.nil_append,List.cons_append,List.append_nil,oD])) (by first|rfl|simp only[List.length_cons,List.length_nil,Nat.reduceAdd,V.ids,V.idsL,idsA,entOk,List.all_cons,List.all_nil,Bool.and_self,Bool.and_true,Bool.true_and,ltB,noId,Nat.reduceLT,decide_true,Bool.true_eq_false,bQ,bS,bR,bT,aD,aL,aE,aN,pE,aG,aH,aS,dS,fI,eU,kU]) rfl rfl rfl (by first|rfl|simp only[List.length_cons,List.length_nil,Nat.reduceAdd,V.ids,V.idsL,idsA,entOk,List.all_cons,List.all_nil,Bool.and_self,Bool.and_true,Bool.true_and,ltB,noId,Nat.reduceLT,decide_true,Bool.true_eq_false,bQ,bS,bR,bT,aD,aL,aE,aN,pE,aG,aH,aS,dS,fI,eU,kU]) (by intro p hp;simp only[fQ,SR,Ent.ren,List.mem_cons,List.not_mem_nil,or_false,aQ,aR,bE,bD,jF,bI,bK,cC,kO]at hp;rcases hp with rfl|rfl|rfl|rfl<;>rfl) (by simp only[fQ,Ent.ren,SR,aQ,aR,bE,bD,jF,bI,bK,cC,kO,wrl,putE,SC,SD,Nat.reduceBEq,Nat.reduceLT,Nat.reduceSub,Nat.reduceAdd,Nat.reduceMul,Nat.reduceLeDiff,Nat.reduceEqDiff,reduceCtorEq,Int.reduceLT,Int.reduceLE,Int.reduceEq,Int.reduceNe,Int.reduceBEq,Int.reduceBNe,Int.reduceAdd,Int.reduceSub,Int.reduceMul,Int.reduceToNat];with_reducible exact rfl) ?_
   refine goG fR TI ?_;refine wG fR hm1 ?_;refine ALp.cutP 6 [(9,.pt 3 0),(74,.sl (its.map plV) .ro),(75,(.im (.int .i64 (its.length)))),(76,(.im (.int .i64 ((((m+1:Nat)):Int)))))] [.box [.sl (u.globals.map vaV) .ro,.sl (u.data.map scV) .ro,.sl (u.funcs.map fnV) .ro],.box [.im (.string f.name),.sl (f.vars.map vaV) .ro,.sl (f.body.map ndV) .ro],.box [.sl (vs.map vaV) .ro],.box [(V.fn (.func 154) [] [.pt 2 0]),.sl (fs.map tsV) .ro,.sl (ls.map tsV) (.own 4),.sl ((seenS [] (its.take (m+1))).map tsV) (.own 5)],.tip 9 1 ls.length,.tip 9 1 (seenS [] (its.take (m+1))).length] BN06 ?_;rw[hV];exact hnext (m+1) (by omega) (by omega) hV
  ·rw[if_neg b]
   rw[if_neg b]at hc;refine wG fR (A3 hlt' hg PL) ?_;refine AR.callS [3,2,4,5] hc rfl rfl (by first|(simp only[SR,aQ,aR,bE,bD,jF,bI,bK,cC,kO];done)|(simp only[SR,aQ,aR,bE,bD,jF,bI,bK,cC,kO];with_reducible exact rfl)) (by first|(simp only[SR,aQ,aR,bE,bD,jF,bI,bK,cC,kO];done)|(simp only[SR,aQ,aR,bE,bD,jF,bI,bK,cC,kO];with_reducible exact rfl)) (iH (by simp only[St.ev,V.ofVal,V.ofCell,V.size_im,fT,dE,iJ,Nat.reduceLT,Nat.reduceEqDiff,reduceIte,if_true,if_false,List.map_cons,List.map_nil,List.nil_append,List.cons_append,List.append_nil,oD])) (by first|rfl|simp only[List.length_cons,List.length_nil,Nat.reduceAdd,V.ids,V.idsL,idsA,entOk,List.all_cons,List.all_nil,Bool.and_self,Bool.and_true,Bool.true_and,ltB,noId,Nat.reduceLT,decide_true,Bool.true_eq_false,bQ,bS,bR,bT,aD,aL,aE,aN,pE,aG,aH,aS,dS,fI,eU,kU]) rfl rfl rfl (by first|rfl|simp only[List.length_cons,List.length_nil,Nat.reduceAdd,V.ids,V.idsL,idsA,entOk,List.all_cons,List.all_nil,Bool.and_self,Bool.and_true,Bool.true_and,ltB,noId,Nat.reduceLT,decide_true,Bool.true_eq_false,bQ,bS,bR,bT,aD,aL,aE,aN,pE,aG,aH,aS,dS,fI,eU,kU]) (by intro p hp;simp only[fQ,SR,Ent.ren,List.mem_cons,List.not_mem_nil,or_false,aQ,aR,bE,bD,jF,bI,bK,cC,kO]at hp;rcases hp with rfl|rfl|rfl|rfl<;>rfl) (by simp only[fQ,Ent.ren,SR,aQ,aR,bE,bD,jF,bI,bK,cC,kO,wrl,putE,SC,SD,Nat.reduceBEq,Nat.reduceLT,Nat.reduceSub,Nat.reduceAdd,Nat.reduceMul,Nat.reduceLeDiff,Nat.reduceEqDiff,reduceCtorEq,Int.reduceLT,Int.reduceLE,Int.reduceEq,Int.reduceNe,Int.reduceBEq,Int.reduceBNe,Int.reduceAdd,Int.reduceSub,Int.reduceMul,Int.reduceToNat];with_reducible exact rfl) ?_
   refine goG fR b ?_;refine wG fR b ?_;exact aB
 obtain rfl:m=its.length:=by omega
 clear hnext
 rw[List.drop_length]
 refine wG fR @Int.lt_irrefl ?_
 exact aB
def Ms(k:Int):V:=if k=0 then .im .nilIface else .ifc
theorem NU(b:Nat)(s:Bs): ∀a,(puF b a s).2=0∨(puF b a s).2=1∨(puF b a s).2=2:=by
 induction s with
 | nil=>intro a;exact .inl rfl
 | cons c r ih =>
  intro a;unfold puF;split
  ·exact .inr (.inr rfl)
  ·split
   ·exact .inr (.inr rfl)
   ·split
    ·exact .inr (.inl rfl)
    ·exact ih _
theorem Xg(b:Nat)(s:Bs):(puR b s).2=0∨(puR b s).2=1∨(puR b s).2=2:=by
 unfold puR
 split
 ·exact .inr (.inr rfl)
 ·exact NU b s 0
theorem SQ(s:Bs)(b:Int)(n k:Int)(hs:s.length≤4194304)(hk:k=0∨k=1∨k=2)(h:PC Tryz.prog 266 [.im (.string ⟨(s).toArray⟩),(.im (.int .i64 (b))),(.im (.int .i64 (32)))] (.tu [.im (.int .u64 (n)),JI k])):PC Tryz.prog 245 [.im (.string ⟨(s).toArray⟩),(.im (.int .i64 (b))),(.im (.int .i64 (32)))] (.tu [.im (.int .u64 (n)),Ms k]):=by
 refine pcEnt 26 Tryz.func245 rfl [(0,.im (.string ⟨(s).toArray⟩)),(1,(.im (.int .i64 (b)))),(2,(.im (.int .i64 (32))))] ?_
 rcases hk with rfl|hk
 ·rw[show JI 0= .im .nilIface from rfl]at h
  rw[show Ms 0= .im .nilIface from rfl]
  refine wG TI TI ?_;refine AR.callP h TI TI ?_;refine goG TI TI ?_;refine wG TI TI ?_;refine vP true ?_;refine goG TI TI ?_;refine wG TI TI ?_;refine fiGenO [.tmp 6,.tmp 7] (finG TI) ?_
  all_goals exact wkG TI
 ·have h0:k≠0:=by omega
  rw[show JI k= .im (.iface 291 (.int .i64 k))from if_neg h0]at h
  rw[show Ms k= .ifc from if_neg h0]
  refine wG TI TI ?_;refine AR.callP h TI TI ?_;refine goG TI TI ?_;refine wG TI TI ?_;refine vP false ?_;refine goG TI TI ?_;refine wG TI TI ?_;refine AR.callP ((QD k hk ⟨#[80,97,114,115,101,85,105,110,116]⟩ ⟨s.toArray⟩ b 32 (by show s.toArray.size≤_;simpa using hs))) TI TI ?_
  refine goG TI TI ?_;refine wG TI TI ?_;refine fiGenO [.tmp 6,.tmp 7] (finG TI) ?_
  all_goals exact wkG TI
theorem WY(s:Bs)(hs:s.length≤4194304):PC Tryz.prog 245 [.im (.string ⟨(s).toArray⟩),(.im (.int .i64 (10))),(.im (.int .i64 (32)))] (.tu [.im (.int .u64 (((puR 10 s).1:Int))),Ms (puR 10 s).2]):=SQ s 10 _ _ hs (Xg 10 s) (WW s hs)
theorem WX(s:Bs)(hs:s.length≤4194304):PC Tryz.prog 245 [.im (.string ⟨(s).toArray⟩),(.im (.int .i64 (16))),(.im (.int .i64 (32)))] (.tu [.im (.int .u64 (((puR 16 s).1:Int))),Ms (puR 16 s).2]):=SQ s 16 _ _ hs (Xg 16 s) (WV s hs)
theorem HN(b:Nat)(s:Bs): ∀a,a≤4294967295→(puF b a s).1≤4294967295:=by
 induction s with
 | nil=>intro a h;exact h
 | cons c r ih =>
  intro a h;unfold puF;split
  ·exact Nat.zero_le _
  ·split
   ·exact Nat.zero_le _
   ·split
    ·exact Nat.le_refl _
    ·exact ih _ (by omega)
theorem HK(b:Nat)(s:Bs):(puR b s).1≤4294967295:=by
 unfold puR
 split
 ·exact Nat.zero_le _
 ·exact HN b s 0 (Nat.zero_le _)
def valR(w:Bs):Nat×Bool :=
 if pre [48,120] w then((puR 16 (w.drop 2)).1,decide ((puR 16 (w.drop 2)).2=0)&&(decide ((w.drop 2).length≤8)&& !Lib.containsAny (w.drop 2) [95,43,45]))
 else((puR 10 w).1,decide ((puR 10 w).2=0)&&((w==[48]||decide (w.head? ≠some 48))&& !Lib.containsAny w [95,43,45]))
theorem EO{n:Nat}(h:n≤4294967295):IntKind.u32.wrap (n:Int)=n:=IntWalk.u32_in _ (by omega)
theorem Kk{p s:Bs}(h:pre p s=true):cutP p s=s.drop p.length:=if_pos h
theorem Gw{p s:Bs}(h:pre p s=false):cutP p s=s:=by unfold cutP;rw[h];rfl
def cP:=A5 @rX @tP @rW @tJ @iC
theorem QC(w:Bs)(hw:w.length≤4194304)(ha: ∀c∈w,c.toNat<128):PC Tryz.prog 194 [.im (.string ⟨(w).toArray⟩)] (.tu [.im (.int .u32 (((valR w).1:Int))),(.im (.bool ((valR w).2)))]):=by
 have hp:=Sd w [48,120]
 cases hx:pre [48,120] w with
 | true =>
  rw[hx,Kk hx,show List.length ([48,120]:Bs)=2 from rfl]at hp
  obtain⟨x,ex⟩: ∃x,w.drop 2=x:=⟨_,rfl⟩
  have hxl:x.length≤4194304:=by rw[←ex,List.length_drop];omega
  have hxa: ∀c∈x,c.toNat<128:=fun c hc=>ha c (List.mem_of_mem_drop (ex▸hc))
  have hv:valR w=((puR 16 x).1,decide ((puR 16 x).2=0)&&(decide (x.length≤8)&& !Lib.containsAny x [95,43,45])):=by
   unfold valR;rw[hx,if_pos rfl,ex]
  have hq:=WX x hxl;have hn:=HK 16 x;have hc:=xK x hxl hxa;rw[ex]at hp;generalize puR 16 x=nk at hq hn hv;obtain⟨n,k⟩:=nk;have hwr:=EO hn;simp only at hq hwr hv;rw[hv];generalize Lib.containsAny x [95,43,45]=b at hc;refine pcEnt 58 Tryz.func194 rfl [(0,.im (.string ⟨(w).toArray⟩))] ?_
  refine wG cP TI ?_;refine AR.callP hp TI aC ?_;refine goG cP TI ?_;refine wG cP TI ?_;refine AR.callP hq TI aC ?_
  by_cases hk:k=0
  ·subst hk
   rw[show Ms 0= .im .nilIface from rfl]
   refine goG cP TI ?_;refine wG cP hwr ?_;refine vP true ?_
   by_cases h8:x.length≤8
   ·have h8i:(x.length:Int)≤8:=by omega
    refine goG cP (AI h8i dB) ?_;refine AR.callP hc TI aC ?_;refine goG cP TI ?_;rw[show(decide ((0:Int)=0)&&(decide (x.length≤8)&& !b))= !b by simp[h8]]
    refine wG cP TI ?_;refine fiGenO [.tmp 2,.tmp 3] (finG cP) ?_
    all_goals exact wkG aC
   ·have h8i: ¬(x.length:Int)≤8:=by omega
    refine goG cP (AI h8i dB) ?_;rw[show(decide ((0:Int)=0)&&(decide (x.length≤8)&& !b))=false by simp[h8]]
    refine wG cP TI ?_;refine fiGenO [.tmp 2,.tmp 3] (finG cP) ?_
    all_goals exact wkG aC
  ·rw[show Ms k= .ifc from if_neg hk]
   refine goG cP TI ?_;refine wG cP hwr ?_;refine vP false ?_;refine goG cP TI ?_;rw[show(decide (k=0)&&(decide (x.length≤8)&& !b))=false by simp[hk]]
   refine wG cP TI ?_;refine fiGenO [.tmp 2,.tmp 3] (finG cP) ?_
   all_goals exact wkG aC
 | false =>
  rw[hx,Gw hx]at hp
  have hv:valR w=((puR 10 w).1,decide ((puR 10 w).2=0)&&((w==[48]||decide (w.head? ≠some 48))&& !Lib.containsAny w [95,43,45])):=by
   unfold valR;rw[hx];rfl
  have hq:=WY w hw;have hn:=HK 10 w;have hc:=xK w hw ha;have hne:w=[]→(puR 10 w).2=2:=fun h=>by rw[h];rfl
  generalize puR 10 w=nk at hq hn hv hne;obtain⟨n,k⟩:=nk;have hwr:=EO hn;simp only at hq hwr hv hne;rw[hv];generalize Lib.containsAny w [95,43,45]=b at hc;refine pcEnt 58 Tryz.func194 rfl [(0,.im (.string ⟨(w).toArray⟩))] ?_
  refine wG cP TI ?_;refine AR.callP hp TI aC ?_;refine goG cP TI ?_;refine wG cP TI ?_;refine AR.callP hq TI aC ?_
  by_cases hk:k=0
  ·subst hk
   rw[show Ms 0= .im .nilIface from rfl]
   refine goG cP TI ?_;refine wG cP hwr ?_;refine vP true ?_;cases he:(w==([48]:Bs))with
   | true =>
    refine goG cP (AI BY he) ?_;refine AR.callP hc TI aC ?_;refine goG cP TI ?_;rw[show(decide ((0:Int)=0)&&((true||decide (w.head? ≠some 48))&& !b))= !b by simp]
    refine wG cP TI ?_;refine fiGenO [.tmp 2,.tmp 3] (finG cP) ?_
    all_goals exact wkG aC
   | false =>
    cases w with
    | nil=>exact absurd (hne rfl) (by decide)
    | cons c r =>
     have g0:(c::r)[0]? =some c:=rfl
     by_cases h48:c.toNat=48
     ·have e:c=48:=toNat_inj h48
      subst e;have e48:(((48:UInt8).toNat:Nat):Int)=48:=rfl;refine goG cP (A4 BY he g0 e48) ?_;rw[show(decide ((0:Int)=0)&&((false||decide (((48:UInt8)::r).head? ≠some 48))&& !b))=false by simp]
      refine wG cP TI ?_;refine fiGenO [.tmp 2,.tmp 3] (finG cP) ?_
      all_goals exact wkG aC
     ·have e: ¬c=48:=fun h=>h48 (by rw[h];rfl)
      have h48i: ¬(c.toNat:Int)=48:=by omega
      refine goG cP (A4 BY he g0 h48i) ?_;refine AR.callP hc TI aC ?_;refine goG cP TI ?_;rw[show(decide ((0:Int)=0)&&((false||decide ((c::r).head? ≠some 48))&& !b))= !b by simp[e]]
      refine wG cP TI ?_;refine fiGenO [.tmp 2,.tmp 3] (finG cP) ?_
      all_goals exact wkG aC
  ·rw[show Ms k= .ifc from if_neg hk]
   refine goG cP TI ?_;refine wG cP hwr ?_;refine vP false ?_;refine goG cP TI ?_;rw[show(decide (k=0)&&((w==[48]||decide (w.head? ≠some 48))&& !b))=false by simp[hk]]
   refine wG cP TI ?_;refine fiGenO [.tmp 2,.tmp 3] (finG cP) ?_
   all_goals exact wkG aC
def uC(w:Bs):Tk×Bool:=if isK w then(⟨2,w,0,0,0⟩,true)else if w.head?.elim false isL then(⟨1,w,0,0,0⟩,decide (w.length≤32))else(⟨3,[],(valR w).1,0,0⟩,(valR w).2)
theorem OE(c:UInt8):ltr (c.toNat:Int)=isL c:=Mb c
def fH:=A9 @pS @kM @Zf @Oj @vM @gU @Zc @rE @iC
theorem QK(w:Bs)(hw:w.length≤4194304)(h0:w≠[])(ha: ∀c∈w,c.toNat<128):PC Tryz.prog 134 [.im (.string ⟨(w).toArray⟩)] (.tu [tkV (uC w).1,(.im (.bool ((uC w).2)))]):=by
 have hK:=DS w hw
 cases w with
 | nil=>exact absurd rfl h0
 | cons c r =>
 cases hx:isK (c::r)with
 | true =>
  rw[hx]at hK;rw[show uC (c::r)=(⟨2,c::r,0,0,0⟩,true) by unfold uC;rw[hx];rfl]
  refine pcEnt 29 Tryz.func134 rfl [(0,.im (.string ⟨(c::r).toArray⟩))] ?_
  refine wG fH TI ?_;refine AR.callP hK TI (AI aC aX) ?_;refine goG fH TI ?_;refine wG fH TI ?_;refine fiGenO [.cell 2 122,.tmp 3] (finG fH) ?_
  all_goals exact wkG (AI aC aX)
 | false =>
  rw[hx]at hK;have hL:=Gz (c.toNat:Int);rw[OE]at hL;have g0:(c::r)[0]? =some c:=rfl
  have w32:IntKind.i32.wrap (c.toNat:Int)=c.toNat:=by
   have:=c.toNat_lt;exact IntWalk.i32_in _ (by omega)
  cases hl:isL c with
  | true =>
   rw[hl]at hL
   by_cases h32:(c::r).length≤32
   ·have e32:((r.length+1:Nat):Int)≤32:=by rw[List.length_cons]at h32;omega
    rw[show uC (c::r)=(⟨1,c::r,0,0,0⟩,true) by unfold uC;rw[hx,if_neg (by decide),if_pos (show(c::r).head?.elim false isL=true from hl),decide_eq_true h32]]
    refine pcEnt 29 Tryz.func134 rfl [(0,.im (.string ⟨(c::r).toArray⟩))] ?_
    refine wG fH TI ?_;refine AR.callP hK TI (AI aC aX) ?_;refine goG fH TI ?_;refine wG fH (A3 BY g0 w32) ?_;refine AR.callP hL TI (AI aC aX) ?_;refine goG fH TI ?_;refine wG fH (AI BY e32) ?_;refine fiGenO [.cell 2 122,.tmp 3] (finG fH) ?_
    all_goals exact wkG (AI aC aX)
   ·have e32: ¬((r.length+1:Nat):Int)≤32:=by rw[List.length_cons]at h32;omega
    rw[show uC (c::r)=(⟨1,c::r,0,0,0⟩,false) by unfold uC;rw[hx,if_neg (by decide),if_pos (show(c::r).head?.elim false isL=true from hl),decide_eq_false h32]]
    refine pcEnt 29 Tryz.func134 rfl [(0,.im (.string ⟨(c::r).toArray⟩))] ?_
    refine wG fH TI ?_;refine AR.callP hK TI (AI aC aX) ?_;refine goG fH TI ?_;refine wG fH (A3 BY g0 w32) ?_;refine AR.callP hL TI (AI aC aX) ?_;refine goG fH TI ?_;refine wG fH (AI BY e32) ?_;refine fiGenO [.cell 2 122,.tmp 3] (finG fH) ?_
    all_goals exact wkG (AI aC aX)
  | false =>
   rw[hl]at hL;rw[show uC (c::r)=(⟨3,[],(valR (c::r)).1,0,0⟩,(valR (c::r)).2) by unfold uC;rw[hx,if_neg (by decide),if_neg (show ¬(c::r).head?.elim false isL=true by rw[show(c::r).head?.elim false isL=isL c from rfl,hl];decide)]]
   have hV:=QC (c::r) hw ha;generalize valR (c::r)=v at hV;obtain⟨n,b⟩:=v;refine pcEnt 29 Tryz.func134 rfl [(0,.im (.string ⟨(c::r).toArray⟩))] ?_
   refine wG fH TI ?_;refine AR.callP hK TI (AI aC aX) ?_;refine goG fH TI ?_;refine wG fH (A3 BY g0 w32) ?_;refine AR.callP hL TI (AI aC aX) ?_;refine goG fH TI ?_;refine wG fH TI ?_;refine AR.callP hV TI (AI aC aX) ?_;refine goG fH TI ?_;refine wG fH TI ?_;refine fiGenO [.cell 2 122,.tmp 3] (finG fH) ?_
   all_goals exact wkG (AI aC aX)
def qX(s:Bs):UInt8×Nat:=match escP s with
 | some (c,n)=>(c,n)
 | none=>(0,0)
theorem Jx{c:UInt8}(h:hexv c=none):hexI c= -1:=by unfold hexI;rw[h]
theorem Jw{c:UInt8}{d:Nat}(h:hexv c=some d):hexI c=d:=by unfold hexI;rw[h]
theorem Xw{c:UInt8}{d:Nat}(h:hexv c=some d):d<16:=by
 unfold hexv at h
 split at h
 ·cases h;omega
 ·split at h
  ·cases h;omega
  ·split at h
   ·cases h;omega
   ·cases h
theorem hex2(x y:Nat)(hx:x<16)(hy:y<16):IntKind.u8.wrap (IntKind.i64.wrap ↑(BitVec.ofInt IntKind.i64.bits (IntKind.i64.wrap ((x:Int)*2^min 4 IntKind.i64.bits))|||BitVec.ofInt IntKind.i64.bits (y:Int)).toNat)=((UInt8.ofNat (16*x+y)).toNat:Int):=by
 have:=(show ∀x:_root_.Fin 16,∀y:_root_.Fin 16,IntKind.u8.wrap (IntKind.i64.wrap ↑(BitVec.ofInt IntKind.i64.bits (IntKind.i64.wrap (((x:Nat):Int)*2^min 4 IntKind.i64.bits))|||BitVec.ofInt IntKind.i64.bits ((y:Nat):Int)).toNat)=((UInt8.ofNat (16*(x:Nat)+(y:Nat))).toNat:Int) by decide +kernel) ⟨x,hx⟩ ⟨y,hy⟩
 exact this
def dC:=A5 @vN @Oj @vL @rE @iC
theorem KX(s:Bs)(hs:s.length≤4194304):PC Tryz.prog 195 [.im (.string ⟨(s).toArray⟩)] (.tu [.im (.int .u8 (((qX s).1.toNat:Int))),(.im (.int .i64 (((qX s).2:Int))))]):=by
 cases s with
 | nil =>
  rw[show qX []=(0,0)from rfl]
  have e0:(([]:Bs)==[])=true:=rfl;have e3: ¬(((0:Nat)):Int)≥3:=by decide
  have e4: ¬(0:Int)≥3:=by decide
  have e5:ByteArray.size ⟨#[]⟩=0:=rfl;refine pcEnt 49 Tryz.func195 rfl [(0,.im (.string ⟨(([]:Bs)).toArray⟩))] ?_
  refine wG dC (A3 BY e0 e3) ?_;refine wG dC (AI e4 e5) ?_;refine wG dC TI ?_;refine fiGenO [.tmp 2,.tmp 3] (finG dC) ?_
  all_goals exact wkG aC
 | cons c r =>
  have e0:((c::r)==([]:Bs))=false:=rfl;have g0:(c::r)[0]? =some c:=rfl
  by_cases h1:c.toNat=34
  ·have e1:(((34:UInt8).toNat:Nat):Int)=34:=rfl
   rw[show qX (c::r)=(c,1) by simp[qX,escP,h1]]
   obtain rfl:c=34:=toNat_inj h1;refine pcEnt 49 Tryz.func195 rfl [(0,.im (.string ⟨((34:UInt8)::r).toArray⟩))] ?_
   refine wG dC (A4 BY e0 g0 e1) ?_;refine fiGenO [.tmp 2,.tmp 3] (finG dC) ?_
   all_goals exact wkG aC
  have e1: ¬(c.toNat:Int)=34:=by omega
  by_cases h2:c.toNat=92
  ·have e2:(((92:UInt8).toNat:Nat):Int)=92:=rfl
   rw[show qX (c::r)=(c,1) by simp[qX,escP,h2]]
   obtain rfl:c=92:=toNat_inj h2;refine pcEnt 49 Tryz.func195 rfl [(0,.im (.string ⟨((92:UInt8)::r).toArray⟩))] ?_
   refine wG dC (A5 BY e0 g0 e1 e2) ?_;refine fiGenO [.tmp 2,.tmp 3] (finG dC) ?_
   all_goals exact wkG aC
  have e2: ¬(c.toNat:Int)=92:=by omega
  by_cases h3:c.toNat=120
  case neg =>
   have e3: ¬(c.toNat:Int)=120:=by omega
   rw[show qX (c::r)=(0,0) by simp[qX,escP,h1,h2,h3]]
   by_cases hl:2≤r.length
   ·have el:((r.length+1:Nat):Int)≥3:=by omega
    refine pcEnt 49 Tryz.func195 rfl [(0,.im (.string ⟨(c::r).toArray⟩))] ?_
    refine wG dC (A7 BY e0 g0 e1 e2 e3 el) ?_;refine fiGenO [.tmp 2,.tmp 3] (finG dC) ?_
    all_goals exact wkG aC
   ·have el: ¬((r.length+1:Nat):Int)≥3:=by omega
    refine pcEnt 49 Tryz.func195 rfl [(0,.im (.string ⟨(c::r).toArray⟩))] ?_
    refine wG dC (A7 BY e0 g0 e1 e2 e3 el) ?_;refine fiGenO [.tmp 2,.tmp 3] (finG dC) ?_
    all_goals exact wkG aC
  have e3:(c.toNat:Int)=120:=by omega
  have hR:escP (c::r)=Ip r:=by simp[escP,h1,h2,h3]
  by_cases hl:2≤r.length
  case neg =>
   have el: ¬((r.length+1:Nat):Int)≥3:=by omega
   rw[show qX (c::r)=(0,0) by
    unfold qX;rw[hR]
    match r with
    | []=>rfl
    | [_]=>rfl
    | _::_::_=>simp at hl]
   refine pcEnt 49 Tryz.func195 rfl [(0,.im (.string ⟨(c::r).toArray⟩))] ?_
   refine wG dC (A7 BY e0 g0 e1 e2 e3 el) ?_;refine fiGenO [.tmp 2,.tmp 3] (finG dC) ?_
   all_goals exact wkG aC
  match r with
  | []=>simp at hl
  | [_]=>simp at hl
  | a::b::t =>
  have el:((t.length+1+1+1:Nat):Int)≥3:=by omega
  have g1:(c::a::b::t)[1]? =some a:=rfl;have g2:(c::a::b::t)[2]? =some b:=rfl;have q1:=Hb a;have q2:=Hb b;cases ha:hexv a with
  | none =>
   rw[Jx ha]at q1;rw[show qX (c::a::b::t)=(0,0) by simp[qX,hR,Ip,ha]]
   have f1: ¬(-1:Int)≥0:=by decide
   refine pcEnt 49 Tryz.func195 rfl [(0,.im (.string ⟨(c::a::b::t).toArray⟩))] ?_
   refine wG dC (A8 BY e0 g0 e1 e2 e3 el g1) ?_;refine AR.callP q1 TI aC ?_;refine goG dC f1 ?_;refine wG dC f1 ?_;refine fiGenO [.tmp 2,.tmp 3] (finG dC) ?_
   all_goals exact wkG aC
  | some x =>
  rw[Jw ha]at q1;have hx:=Xw ha;have f1:(x:Int)≥0:=by omega
  cases hb:hexv b with
  | none =>
   rw[Jx hb]at q2;rw[show qX (c::a::b::t)=(0,0) by simp[qX,hR,Ip,ha,hb]]
   have f2: ¬(-1:Int)≥0:=by decide
   refine pcEnt 49 Tryz.func195 rfl [(0,.im (.string ⟨(c::a::b::t).toArray⟩))] ?_
   refine wG dC (A8 BY e0 g0 e1 e2 e3 el g1) ?_;refine AR.callP q1 TI aC ?_;refine goG dC (A3 BY f1 g2) ?_;refine AR.callP q2 TI aC ?_;refine goG dC f2 ?_;refine wG dC f2 ?_;refine fiGenO [.tmp 2,.tmp 3] (finG dC) ?_
   all_goals exact wkG aC
  | some y =>
   rw[Jw hb]at q2;have hy:=Xw hb;have f2:(y:Int)≥0:=by omega
   have f3:=hex2 x y hx hy;rw[show qX (c::a::b::t)=(UInt8.ofNat (16*x+y),3) by simp[qX,hR,Ip,ha,hb]]
   refine pcEnt 49 Tryz.func195 rfl [(0,.im (.string ⟨(c::a::b::t).toArray⟩))] ?_
   refine wG dC (A8 BY e0 g0 e1 e2 e3 el g1) ?_;refine AR.callP q1 TI aC ?_;refine goG dC (A3 BY f1 g2) ?_;refine AR.callP q2 TI aC ?_;refine goG dC f2 ?_;refine wG dC f2 ?_;refine wdG dC (AI BY g1) ?_;refine AR.callP q1 TI aC ?_;refine goG dC (AI BY g2) ?_;refine AR.callP q2 TI aC ?_;refine goG dC f3 ?_;refine wdG dC TI ?_;refine fiGenO [.tmp 2,.tmp 3] (finG dC) ?_
   all_goals exact wkG aC
def quoR(r:Bs):Bs×Nat×Bool:=match quoP r with
 | some (t,m)=>(t,m+1,true)
 | none=>([],0,false)
theorem CH{s:Bs}(h:escP s=none):qX s=(0,0):=by unfold qX;rw[h]
theorem CG{s:Bs}{x:UInt8}{n:Nat}(h:escP s=some (x,n)):qX s=(x,n):=by unfold qX;rw[h]
theorem oY{r:Bs}(h:quoP r=none):quoR r=([],0,false):=by unfold quoR;rw[h]
theorem At{r t:Bs}{m:Nat}(h:quoP r=some (t,m)):quoR r=(t,m+1,true):=by unfold quoR;rw[h]
def gI:=A9 @Hz @Hy @lH @tO @yH @rF @rE @tI @iC
theorem KI(s:Bs)(hs:s.length≤4194304)(h0:s≠[]):PC Tryz.prog 135 [.im (.string ⟨(s).toArray⟩)] (.tu [.im (.string ⟨((quoR (s.drop 1)).1).toArray⟩),(.im (.int .i64 (((quoR (s.drop 1)).2.1:Int)))),(.im (.bool ((quoR (s.drop 1)).2.2)))]):=by
 have hpos:1≤s.length:=by cases s with
  | nil=>exact absurd rfl h0
  | cons c r=>simp
 refine pcEnt 57 Tryz.func135 rfl [(0,.im (.string ⟨(s).toArray⟩))] ?_
 refine wG gI TI ?_
 refine aP ?_
 refine ALp.ghost 5 [] .nl 5 1 ?_
 suffices H: ∀(k m:Nat) (A:Bs),s.length-m=k→1≤m→m≤s.length→A.length≤m→(quoP (s.drop 1)=(quoP (s.drop m)).map fun p=>(A++p.1,p.2+(m-1)))→ALp _ _ _ _ _ ⟨dn 57 [(0,.im (.string ⟨(s).toArray⟩)),(5,.sl (A.map byB) (.own 0)),(6,(.im (.int .i64 ((((m:Nat)):Int)))))],ofl [.tip 5 1 A.length]⟩ by
  refine ALp.cutP 1 [(0,.im (.string ⟨(s).toArray⟩)),(5,.sl (([]:Bs).map byB) (.own 0)),(6,(.im (.int .i64 ((((1:Nat)):Int)))))] [.tip 5 1 ([]:Bs).length] aC ?_;exact H _ 1 [] rfl (Nat.le_refl _) hpos (Nat.zero_le _) (by cases quoP (s.drop 1)<;>simp)
 intro k
 induction k using Nat.strongRecOn with
 | _ k ih =>
 intro m A hk hm1 hml hA hq
 refine dF ?_
 by_cases hlt:m<s.length
 case neg =>
  obtain rfl:m=s.length:=by omega
  have hn: ¬(s.length:Int)<(s.length:Int):=by omega
  rw[oY (r:=s.drop 1) (by rw[hq,List.drop_length];rfl)]
  clear ih;refine wG gI (A3 BY hn dB) ?_;refine fiGenO [.tmp 2,.tmp 3,.tmp 4] (finG gI) ?_
  all_goals exact wkG aC
 have hlt':(m:Int)<(s.length:Int):=by omega
 have hw1:=aK hlt (by omega)
 have hg:s[m]? =some s[m]:=List.getElem?_eq_getElem hlt
 have hd:s.drop m=s[m]::s.drop (m+1):=List.drop_eq_getElem_cons hlt
 generalize s[m]=c at hg hd
 rw[hd,mL]at hq
 by_cases h34:c.toNat=34
 ·have e1:(c.toNat:Int)=34:=by omega
  rw[if_pos h34]at hq;rw[At (r:=s.drop 1) (t:=A) (m:=m) (by rw[hq];simp;omega)]
  have hb:=nU A;clear ih;refine wG gI (A7 BY hlt' dB hg e1 hb hw1) ?_;refine fiGenO [.tmp 2,.tmp 3,.tmp 4] (finG gI) ?_
  all_goals exact wkG aC
 have e1: ¬(c.toNat:Int)=34:=by omega
 rw[if_neg h34]at hq
 by_cases h92:c.toNat=92
 ·have e2:(c.toNat:Int)=92:=by omega
  rw[if_pos h92]at hq;have hsl:(s.drop (m+1)).take (s.length-(m+1))=s.drop (m+1):=List.take_of_length_le (by rw[List.length_drop];omega)
  have hle:((m+1:Nat):Int)≤(s.length:Int):=by omega
  have qe:=KX (s.drop (m+1)) (by rw[List.length_drop];omega)
  cases he:escP (s.drop (m+1))with
  | none =>
   rw[CH he]at qe;rw[he]at hq;rw[oY (r:=s.drop 1) (by rw[hq];rfl)]
   clear ih;refine wG gI (A10 BY GDS hlt' dB hg e1 e2 hw1 hle hsl) ?_;refine AR.callP qe TI aC ?_;refine goG gI TI ?_;refine wG gI TI ?_;refine fiGenO [.tmp 2,.tmp 3,.tmp 4] (finG gI) ?_
   all_goals exact wkG aC
  | some xn =>
  obtain⟨x,n⟩:=xn;rw[CG he]at qe;have hn:=zK he;rw[List.length_drop]at hn;rw[he]at hq;have hn0: ¬(n:Int)=0:=by omega
  have hw2:IntKind.i64.wrap ((m:Int)+(n:Int))=((m+n:Nat):Int):=by rw[cU (by omega)];omega
  have hw3:IntKind.i64.wrap (((m+n:Nat):Int)+1)=((m+n+1:Nat):Int):=by rw[cU (by omega)];omega
  obtain⟨B,hB⟩: ∃B,B=A++[x]:=⟨_,rfl⟩
  have hAs:A.map byB++[V.im (.int .u8 x.toNat)]=B.map byB:=by rw[hB,List.map_append];rfl
  have hAl:A.length+1=B.length:=by rw[hB];simp
  have hbl:B.length≤140737488355328:=by omega
  have hI:=ih (s.length-(m+n+1)) (by omega) (m+n+1) B rfl (by omega) (by omega) (by omega) (by
   rw[hq];dsimp only;rw[List.drop_drop,show m+1+n=m+n+1 by omega,hB]
   cases quoP (s.drop (m+n+1))with
   | none=>rfl
   | some p=>obtain⟨t,k⟩:=p;simp;omega)
  clear ih hB;refine wG gI (A10 BY GDS hlt' dB hg e1 e2 hw1 hle hsl) ?_;refine AR.callP qe TI aC ?_;refine goG gI TI ?_;refine wG gI (A8 hn0 hAs hAl hbl hw2 hw3 @List.length_map.{0,0} @Nat.mul_one) ?_;refine ALp.cutP 1 [(0,.im (.string ⟨(s).toArray⟩)),(5,.sl (B.map byB) (.own 0)),(6,(.im (.int .i64 ((((m+n+1:Nat)):Int)))))] [.tip 5 1 B.length] aC ?_;exact hI
 have e2: ¬(c.toNat:Int)=92:=by omega
 rw[if_neg h92]at hq
 by_cases hlo:c.toNat<32
 ·have e3:(c.toNat:Int)<32:=by omega
  rw[if_pos (.inl hlo)]at hq;rw[oY (r:=s.drop 1) (by rw[hq];rfl)]
  clear ih;refine wG gI (A7 BY hlt' dB hg e1 e2 e3) ?_;refine fiGenO [.tmp 2,.tmp 3,.tmp 4] (finG gI) ?_
  all_goals exact wkG aC
 have e3: ¬(c.toNat:Int)<32:=by omega
 by_cases hhi:126<c.toNat
 ·have e4:(c.toNat:Int)>126:=by omega
  rw[if_pos (.inr hhi)]at hq;rw[oY (r:=s.drop 1) (by rw[hq];rfl)]
  clear ih;refine wG gI (A8 BY hlt' dB hg e1 e2 e3 e4) ?_;refine fiGenO [.tmp 2,.tmp 3,.tmp 4] (finG gI) ?_
  all_goals exact wkG aC
 have e4: ¬(c.toNat:Int)>126:=by omega
 rw[if_neg (by omega)]at hq
 obtain⟨B,hB⟩: ∃B,B=A++[c]:=⟨_,rfl⟩
 have hAs:A.map byB++[V.im (.int .u8 c.toNat)]=B.map byB:=by rw[hB,List.map_append];rfl
 have hAl:A.length+1=B.length:=by rw[hB];simp
 have hbl:B.length≤140737488355328:=by omega
 have hI:=ih (s.length-(m+1)) (by omega) (m+1) B rfl (by omega) (by omega) (by omega) (by
  rw[hq,hB];cases quoP (s.drop (m+1))with
  | none=>rfl
  | some p=>obtain⟨t,n⟩:=p;simp;omega)
 clear ih hB
 refine wG gI (A14 BY hlt' dB hg e1 e2 e3 e4 hAs hAl hbl hw1 @List.length_map.{0,0} @Nat.mul_one) ?_
 refine ALp.cutP 1 [(0,.im (.string ⟨(s).toArray⟩)),(5,.sl (B.map byB) (.own 0)),(6,(.im (.int .i64 ((((m+1:Nat)):Int)))))] [.tip 5 1 B.length] aC ?_
 exact hI
def symR(s:Bs):Bs×Bool:=match symP s with
 | some op=>(op,true)
 | none=>(s.take 1,false)
def tst(p s:Bs):Bool:=pre p s&&nW (s.drop p.length)
def L1V:List V:=[.im (.string ⟨(([62,62,115]:Bs)).toArray⟩),.im (.string ⟨(([60,115]:Bs)).toArray⟩)]
def L2V:List V:=[.im (.string ⟨(([61,61]:Bs)).toArray⟩),.im (.string ⟨(([33,61]:Bs)).toArray⟩),.im (.string ⟨(([60,60]:Bs)).toArray⟩),.im (.string ⟨(([62,62]:Bs)).toArray⟩)]
theorem RK{m:Nat}(h:m<2): ∃p:Bs,L1V[m]? =some (.im (.string ⟨(p).toArray⟩))∧(m=0∧p=[62,62,115]∨m=1∧p=[60,115]):=by
 rcases(show m=0∨m=1 by omega)with rfl|rfl
 ·exact⟨[62,62,115],rfl,.inl ⟨rfl,rfl⟩⟩
 ·exact⟨[60,115],rfl,.inr ⟨rfl,rfl⟩⟩
theorem RJ{m:Nat}(h:m<4): ∃p:Bs,L2V[m]? =some (.im (.string ⟨(p).toArray⟩))∧(m=0∧p=[61,61]∨m=1∧p=[33,61]∨m=2∧p=[60,60]∨m=3∧p=[62,62]):=by
 rcases(show m=0∨m=1∨m=2∨m=3 by omega)with rfl|rfl|rfl|rfl
 ·exact⟨[61,61],rfl,.inl ⟨rfl,rfl⟩⟩
 ·exact⟨[33,61],rfl,.inr (.inl ⟨rfl,rfl⟩)⟩
 ·exact⟨[60,60],rfl,.inr (.inr (.inl ⟨rfl,rfl⟩))⟩
 ·exact⟨[62,62],rfl,.inr (.inr (.inr ⟨rfl,rfl⟩))⟩
theorem XX:[V.im (.string ⟨#[62,62,115]⟩),V.im (.string ⟨#[60,115]⟩)]=L1V:=rfl
theorem XW:[V.im (.string ⟨#[61,61]⟩),V.im (.string ⟨#[33,61]⟩),V.im (.string ⟨#[60,60]⟩),V.im (.string ⟨#[62,62]⟩)]=L2V:=rfl
theorem yD:L1V.length=2:=rfl
theorem Ho:L2V.length=4:=rfl
theorem TL{s p:Bs}{m:Nat}(hm:m=0∧p=[62,62,115]∨m=1∧p=[60,115])(h0:1≤m→tst [62,62,115] s=false)(h:tst p s=true):symR s=(p,true):=by
 unfold symR symP
 rcases hm with ⟨rfl,rfl⟩|⟨rfl,rfl⟩
 ·rw[if_pos (show(pre [62,62,115] s&&nW (s.drop 3))=true from h)]
 ·have:=h0 (Nat.le_refl _)
  rw[if_neg (show ¬(pre [62,62,115] s&&nW (s.drop 3))=true by rw[show(pre [62,62,115] s&&nW (s.drop 3))=false from this];decide),if_pos (show(pre [60,115] s&&nW (s.drop 2))=true from h)]
theorem EW{s:Bs}(h1:tst [62,62,115] s=false)(h2:tst [60,115] s=false):symP s=if pre [61,61] s then some [61,61]
  else if pre [33,61] s then some [33,61]
  else if pre [60,60] s then some [60,60]
  else if pre [62,62] s then some [62,62]
  else match s with
   | []=>none
   | c::_=>if ops1.contains c then some [c]else none:=by
 unfold symP
 rw[if_neg (show ¬(pre [62,62,115] s&&nW (s.drop 3))=true by rw[show(pre [62,62,115] s&&nW (s.drop 3))=false from h1];decide),if_neg (show ¬(pre [60,115] s&&nW (s.drop 2))=true by rw[show(pre [60,115] s&&nW (s.drop 2))=false from h2];decide)]
 cases s<;>rfl
theorem TK{s p:Bs}{m:Nat}(h1:tst [62,62,115] s=false)(h2:tst [60,115] s=false)(hm:m=0∧p=[61,61]∨m=1∧p=[33,61]∨m=2∧p=[60,60]∨m=3∧p=[62,62])
  (hI:(1≤m→pre [61,61] s=false)∧(2≤m→pre [33,61] s=false)∧(3≤m→pre [60,60] s=false)) (h:pre p s=true):symR s=(p,true):=by
 unfold symR
 rw[EW h1 h2]
 obtain⟨i1,i2,i3⟩:=hI
 rcases hm with ⟨rfl,rfl⟩|⟨rfl,rfl⟩|⟨rfl,rfl⟩|⟨rfl,rfl⟩
 ·simp[h]
 ·simp[h,i1 (by omega)]
 ·simp[h,i1 (by omega),i2 (by omega)]
 ·simp[h,i1 (by omega),i2 (by omega),i3 (by omega)]
theorem TJ{c:UInt8}{r:Bs}(h1:tst [62,62,115] (c::r)=false)(h2:tst [60,115] (c::r)=false)(h3:pre [61,61] (c::r)=false)(h4:pre [33,61] (c::r)=false)(h5:pre [60,60] (c::r)=false)(h6:pre [62,62] (c::r)=false):symR (c::r)=([c],ops1.contains c):=by
 unfold symR
 rw[EW h1 h2,h3,h4,h5,h6]
 simp only[Bool.false_eq_true,if_false]
 cases h:ops1.contains c<;>simp
def cX:=A9 @dR @mJ @jN @Zf @Oj @dA @Zc @rE @iC
theorem KA(s:Bs)(hs:s.length≤4194304)(h0:s≠[]):PC Tryz.prog 136 [.im (.string ⟨(s).toArray⟩)] (.tu [.im (.string ⟨((symR s).1).toArray⟩),(.im (.bool ((symR s).2)))]):=by
 refine pcEnt 59 Tryz.func136 rfl [(0,.im (.string ⟨(s).toArray⟩))] ?_
 refine wG cX (AI XX yD) ?_
 refine aP ?_
 refine ALp.cutP 0 [(0,.im (.string ⟨(s).toArray⟩)),(2,.im (.string ⟨(([]:Bs)).toArray⟩)),(3,(.im (.bool (false)))),(10,.sl L1V .full),(11,(.im (.int .i64 (2)))),(12,(.im (.int .i64 ((((0:Nat)):Int)))))] [] aC ?_
 refine aW 2 (fun m=>(1≤m→tst [62,62,115] s=false)∧(2≤m→tst [60,115] s=false)) (fun m=>⟨dn 59 [(0,.im (.string ⟨(s).toArray⟩)),(2,.im (.string ⟨(([]:Bs)).toArray⟩)),(3,(.im (.bool (false)))),(10,.sl L1V .full),(11,(.im (.int .i64 (2)))),(12,(.im (.int .i64 ((((m:Nat)):Int)))))],ofl []⟩) ?_ 0 (Nat.zero_le _) ⟨fun h=>by omega,fun h=>by omega⟩
 intro m hm hI hnext
 by_cases hlt:m<2
 case neg =>
  obtain rfl:m=2:=by omega
  clear hnext;have hn: ¬(2:Int)<2:=by omega
  refine wG cX (A3 hn XW Ho) ?_;refine aP ?_;refine ALp.cutP 0 [(0,.im (.string ⟨(s).toArray⟩)),(2,.im (.string ⟨(([]:Bs)).toArray⟩)),(3,(.im (.bool (false)))),(43,.sl L2V .full),(44,(.im (.int .i64 (4)))),(45,(.im (.int .i64 ((((0:Nat)):Int)))))] [] aC ?_;obtain⟨h1,h2⟩:tst [62,62,115] s=false∧tst [60,115] s=false:=⟨hI.1 (by omega),hI.2 (by omega)⟩
  clear hI hm hlt;refine aW 4 (fun m=>(1≤m→pre [61,61] s=false)∧(2≤m→pre [33,61] s=false)∧(3≤m→pre [60,60] s=false)∧(4≤m→pre [62,62] s=false)) (fun m=>⟨dn 59 [(0,.im (.string ⟨(s).toArray⟩)),(2,.im (.string ⟨(([]:Bs)).toArray⟩)),(3,(.im (.bool (false)))),(43,.sl L2V .full),(44,(.im (.int .i64 (4)))),(45,(.im (.int .i64 ((((m:Nat)):Int)))))],ofl []⟩) ?_ 0 (Nat.zero_le _) ⟨fun h=>by omega,fun h=>by omega,fun h=>by omega,fun h=>by omega⟩
  intro m hm hI hnext
  by_cases hlt:m<4
  case neg =>
   obtain rfl:m=4:=by omega
   clear hnext;have hn: ¬(4:Int)<4:=by omega
   cases s with
   | nil=>exact absurd rfl h0
   | cons c r =>
   rw[TJ h1 h2 (hI.1 (by omega)) (hI.2.1 (by omega)) (hI.2.2.1 (by omega)) (hI.2.2.2 (by omega))]
   have q:=pL ⟨#[40,41,123,125,91,93,44,59,58,63,61,43,45,42,38,124,94,33,60]⟩ ⟨#[c]⟩ (of_decide_eq_true (by kernel_rfl))
   rw[show Lib.contains (ByteArray.mk #[40,41,123,125,91,93,44,59,58,63,61,43,45,42,38,124,94,33,60]).data.toList (ByteArray.mk #[c]).data.toList=ops1.contains c from zN ops1 c]at q
   generalize ops1.contains c=b at q;have hle:(1:Int)≤((r.length+1:Nat):Int):=by omega
   refine wG cX hn ?_;refine wdG cX (A4 BY GDS dB hle) ?_;refine AR.callP q TI aC ?_;refine goG cX TI ?_;refine wdG cX TI ?_;refine fiGenO [.tmp 2,.tmp 3] (finG cX) ?_
   all_goals exact wkG aC
  have hlt':(m:Int)<4:=by omega
  have hw1:=aK hlt (by omega)
  obtain⟨p,hg,hp⟩:=RJ hlt;have hY:pre p s=true→symR s=(p,true):=fun h=>TK h1 h2 hp ⟨hI.1,hI.2.1,hI.2.2.1⟩ h
  have hN:pre p s=false→_:=fun h=>hnext (m+1) (by omega) (by omega) (by
   obtain⟨i1,i2,i3,i4⟩:=hI;rcases hp with ⟨rfl,rfl⟩|⟨rfl,rfl⟩|⟨rfl,rfl⟩|⟨rfl,rfl⟩
   ·exact⟨fun _=>h,fun h=>by omega,fun h=>by omega,fun h=>by omega⟩
   ·exact⟨fun _=>i1 (by omega),fun _=>h,fun h=>by omega,fun h=>by omega⟩
   ·exact⟨fun _=>i1 (by omega),fun _=>i2 (by omega),fun _=>h,fun h=>by omega⟩
   ·exact⟨fun _=>i1 (by omega),fun _=>i2 (by omega),fun _=>i3 (by omega),fun _=>h⟩)
  have q:=Sa s p;clear hnext hI hp;refine wG cX (A4 BY hlt' hg Ho) ?_;cases b1:pre p s with
  | true =>
   rw[b1]at q;rw[hY b1];clear hN;refine AR.callP q TI aC ?_;refine goG cX TI ?_;refine wG cX TI ?_;refine fiGenO [.tmp 2,.tmp 3] (finG cX) ?_
   all_goals exact wkG aC
  | false =>
   rw[b1]at q;have hN:=hN b1;refine AR.callP q TI aC ?_;refine goG cX TI ?_;refine wG cX hw1 ?_;refine ALp.cutP 0 [(0,.im (.string ⟨(s).toArray⟩)),(2,.im (.string ⟨(([]:Bs)).toArray⟩)),(3,(.im (.bool (false)))),(43,.sl L2V .full),(44,(.im (.int .i64 (4)))),(45,(.im (.int .i64 ((((m+1:Nat)):Int)))))] [] aC ?_;exact hN
 have hlt':(m:Int)<2:=by omega
 have hw1:=aK hlt (by omega)
 obtain⟨p,hg,hp⟩:=RK hlt
 have hI2:tst p s=false→(1≤m+1→tst [62,62,115] s=false)∧(2≤m+1→tst [60,115] s=false):=fun h=>by
  rcases hp with ⟨rfl,rfl⟩|⟨rfl,rfl⟩
  ·exact⟨fun _=>h,fun h=>by omega⟩
  ·exact⟨fun _=>hI.1 (Nat.le_refl _),fun _=>h⟩
 have hY:tst p s=true→symR s=(p,true):=fun h=>TL hp hI.1 h
 have hN:=fun h=>hnext (m+1) (by omega) (by omega) (hI2 h)
 clear hnext hI2 hp hI
 have qc:=Sd s p
 cases b1:pre p s with
 | false =>
  have hN:=hN (by unfold tst;rw[b1];rfl)
  rw[b1,Gw b1]at qc;refine wG cX (A4 BY hlt' hg yD) ?_;refine AR.callP qc TI aC ?_;refine goG cX TI ?_;refine wG cX hw1 ?_;refine ALp.cutP 0 [(0,.im (.string ⟨(s).toArray⟩)),(2,.im (.string ⟨(([]:Bs)).toArray⟩)),(3,(.im (.bool (false)))),(10,.sl L1V .full),(11,(.im (.int .i64 (2)))),(12,(.im (.int .i64 ((((m+1:Nat)):Int)))))] [] aC ?_;exact hN
 | true =>
 rw[b1,Kk b1]at qc
 unfold tst at hN hY
 rw[b1,Bool.true_and]at hN hY
 generalize s.drop p.length=x at qc hN hY
 refine wG cX (A4 BY hlt' hg yD) ?_
 refine AR.callP qc TI aC ?_
 refine goG cX TI ?_
 cases x with
 | nil =>
  have e0:(([]:Bs)==[])=true:=rfl;rw[hY rfl];clear hN;refine wG cX (AI BY e0) ?_;refine fiGenO [.tmp 2,.tmp 3] (finG cX) ?_
  all_goals exact wkG aC
 | cons d y =>
 have e0:((d::y)==([]:Bs))=false:=rfl
 have g0:(d::y)[0]? =some d:=rfl
 have w32:IntKind.i32.wrap (d.toNat:Int)=d.toNat:=by
  have:=d.toNat_lt;exact IntWalk.i32_in _ (by omega)
 have hW:nW (d::y)= !(isL d||isD d):=rfl
 have q1:=Gz (d.toNat:Int)
 have q2:=Yp (d.toNat:Int)
 rw[Mb]at q1
 rw[Yf]at q2
 refine wG cX (A4 BY e0 g0 w32) ?_
 cases b2:isL d with
 | true =>
  rw[b2]at q1;have hN:=hN (by rw[hW,b2];rfl)
  refine AR.callP q1 TI aC ?_;refine goG cX TI ?_;refine wG cX hw1 ?_;refine ALp.cutP 0 [(0,.im (.string ⟨(s).toArray⟩)),(2,.im (.string ⟨(([]:Bs)).toArray⟩)),(3,(.im (.bool (false)))),(10,.sl L1V .full),(11,(.im (.int .i64 (2)))),(12,(.im (.int .i64 ((((m+1:Nat)):Int)))))] [] aC ?_;exact hN
 | false =>
 rw[b2]at q1
 refine AR.callP q1 TI aC ?_
 refine goG cX (A3 BY g0 w32) ?_
 cases b3:isD d with
 | true =>
  rw[b3]at q2;have hN:=hN (by rw[hW,b2,b3];rfl)
  refine AR.callP q2 TI aC ?_;refine goG cX TI ?_;refine wG cX hw1 ?_;refine ALp.cutP 0 [(0,.im (.string ⟨(s).toArray⟩)),(2,.im (.string ⟨(([]:Bs)).toArray⟩)),(3,(.im (.bool (false)))),(10,.sl L1V .full),(11,(.im (.int .i64 (2)))),(12,(.im (.int .i64 ((((m+1:Nat)):Int)))))] [] aC ?_;exact hN
 | false =>
  rw[b3]at q2;rw[hY (by rw[hW,b2,b3];rfl)]
  clear hN;refine AR.callP q2 TI aC ?_;refine goG cX TI ?_;refine wG cX TI ?_;refine fiGenO [.tmp 2,.tmp 3] (finG cX) ?_
  all_goals exact wkG aC
def nxtR(s:Bs):Tk×Nat×Bool :=
 if 0<(s.takeWhile isW).length then((uC (s.takeWhile isW)).1,(s.takeWhile isW).length,(uC (s.takeWhile isW)).2)
 else if s.head? =some 34 then(⟨4,(quoR (s.drop 1)).1,0,0,0⟩,(quoR (s.drop 1)).2.1,(quoR (s.drop 1)).2.2)
 else(⟨5,(symR s).1,0,0,0⟩,(symR s).1.length,(symR s).2)
theorem VM{c:UInt8}(h:isW c=true):c.toNat<128:=by
 have:=pD (fun c=> !isW c||decide (c.toNat<128)) (by decide +kernel) c
 rw[h]at this
 simpa using this
def iF:=A8 @pS @dR @kM @nB @vM @gU @dA @iC
theorem XB(s:Bs)(p:Int×Int)(ts:List Tk)(hs:s.length≤4194304)(h0:s≠[]):DC Tryz.prog 68 [.pt 0 0] [.box [.im (.string ⟨(s).toArray⟩),(.im (.int .i64 (p.1))),(.im (.int .i64 (p.2))),.sl (ts.map tkV) (.mine 1)],.tip 122 5 ts.length] (.tu [tkV (nxtR s).1,(.im (.int .i64 (((nxtR s).2.1:Int)))),(.im (.bool ((nxtR s).2.2)))]) [.box [.im (.string ⟨(s).toArray⟩),(.im (.int .i64 (p.1))),(.im (.int .i64 (p.2))),.sl (ts.map tkV) (.mine 1)],.tip 122 5 ts.length]:=by
 have qw:=WQ s p ts
 have htk:(s.takeWhile isW).length≤s.length:=(List.takeWhile_prefix isW).length_le
 have hpre:s.take (s.takeWhile isW).length=s.takeWhile isW:=(List.prefix_iff_eq_take.1 (List.takeWhile_prefix isW)).symm
 by_cases hw:0<(s.takeWhile isW).length
 ·have hR:nxtR s=((uC (s.takeWhile isW)).1,(s.takeWhile isW).length,(uC (s.takeWhile isW)).2):=if_pos hw
  have qn:=QK (s.takeWhile isW) (by omega) (fun h=>by rw[h]at hw;exact absurd hw (by decide)) (fun c hc=>VM (AA c hc))
  rw[hR];generalize s.takeWhile isW=w at qw htk hpre hw qn;have hw':(w.length:Int)>0:=by omega
  have hle:(w.length:Int)≤(s.length:Int):=by omega
  refine dcEnt 62 Tryz.func68 rfl [(0,.pt 0 0)] ?_
  refine wG iF TI ?_;refine cA [0,1] qw TI (A3 bC aX aC) (A3 fE fF cH) ?_;refine goG iF TI ?_;refine wG iF (A5 BY GDS hw' hle hpre) ?_;refine AR.callP qn TI (A3 bC aX aC) ?_;refine goG iF TKT ?_;refine wG iF TKT ?_;refine fiGen [.cell 2 122,.tmp 3,.tmp 4] (finG iF) ?_ rfl (idG (A3 bC aX aC))
  all_goals exact wkG (A3 bC aX aC)
 have hR:nxtR s=if s.head? =some 34 then(⟨4,(quoR (s.drop 1)).1,0,0,0⟩,(quoR (s.drop 1)).2.1,(quoR (s.drop 1)).2.2)else(⟨5,(symR s).1,0,0,0⟩,(symR s).1.length,(symR s).2):=if_neg hw
 have qq:=KI s hs h0
 have qs:=KA s hs h0
 rw[show(s.takeWhile isW).length=0 by omega]at qw
 clear hpre htk hw
 cases s with
 | nil=>exact absurd rfl h0
 | cons c r =>
 have g0:(c::r)[0]? =some c:=rfl
 have hgt: ¬(0:Int)>0:=by decide
 by_cases h34:c.toNat=34
 ·have e1:(((34:UInt8).toNat:Nat):Int)=34:=rfl
  obtain rfl:c=34:=toNat_inj h34;rw[hR,if_pos (show((34:UInt8)::r).head? =some 34 from rfl)]
  generalize quoR (List.drop 1 ((34:UInt8)::r))=q at qq;obtain⟨t,n,b⟩:=q;refine dcEnt 62 Tryz.func68 rfl [(0,.pt 0 0)] ?_
  refine wG iF TI ?_;refine cA [0,1] qw TI (A3 bC aX aC) (A3 fE fF cH) ?_;refine goG iF TI ?_;refine wG iF (A5 BY GDS hgt g0 e1) ?_;refine AR.callP qq TI (A3 bC aX aC) ?_;refine goG iF TI ?_;refine wG iF TI ?_;refine fiGen [.cell 2 122,.tmp 3,.tmp 4] (finG iF) ?_ rfl (idG (A3 bC aX aC))
  all_goals exact wkG (A3 bC aX aC)
 ·have e1: ¬(c.toNat:Int)=34:=by omega
  rw[hR,if_neg (show ¬(c::r).head? =some 34 from fun h=>h34 (by rw[Option.some.inj h];rfl))]
  generalize symR (c::r)=q at qs;obtain⟨t,b⟩:=q;refine dcEnt 62 Tryz.func68 rfl [(0,.pt 0 0)] ?_
  refine wG iF TI ?_;refine cA [0,1] qw TI (A3 bC aX aC) (A3 fE fF cH) ?_;refine goG iF TI ?_;refine wG iF (A5 BY GDS hgt g0 e1) ?_;refine AR.callP qs TI (A3 bC aX aC) ?_;refine goG iF TI ?_;refine wG iF (AI BY dB) ?_;refine fiGen [.cell 2 122,.tmp 3,.tmp 4] (finG iF) ?_ rfl (idG (A3 bC aX aC))
  all_goals exact wkG (A3 bC aX aC)
theorem nS: ∀(s:Bs) (b:Bool),skpG false (skpG b s)=skpG b s
 | [],b=>by cases b<;>rfl
 | c::r,true=>by
  by_cases h:c.toNat=10
  ·have e:skpG true (c::r)=skpG false r:=by rw[skpG,if_pos h]
   rw[e];exact nS r false
  ·have e:skpG true (c::r)=skpG true r:=by rw[skpG,if_neg h]
   rw[e];exact nS r true
 | c::r,false=>by
  by_cases h1:isS c=true
  ·have e:skpG false (c::r)=skpG false r:=by rw[skpG,if_pos h1]
   rw[e];exact nS r false
  ·by_cases h2:c.toNat=47∧r.head? =some 47
   ·have e:skpG false (c::r)=skpG true r:=by rw[skpG,if_neg h1,if_pos h2]
    rw[e];exact nS r true
   ·have e:skpG false (c::r)=c::r:=by rw[skpG,if_neg h1,if_neg h2]
    rw[e,e]
theorem vS: ∀(s:Bs) (b:Bool),skpG b s <:+ s
 | [],b=>by cases b<;>exact List.suffix_refl _
 | c::r,true=>by
  by_cases h:c.toNat=10
  ·have e:skpG true (c::r)=skpG false r:=by rw[skpG,if_pos h]
   rw[e];exact(vS r false).trans (List.suffix_cons c r)
  ·have e:skpG true (c::r)=skpG true r:=by rw[skpG,if_neg h]
   rw[e];exact(vS r true).trans (List.suffix_cons c r)
 | c::r,false=>by
  by_cases h1:isS c=true
  ·have e:skpG false (c::r)=skpG false r:=by rw[skpG,if_pos h1]
   rw[e];exact(vS r false).trans (List.suffix_cons c r)
  ·by_cases h2:c.toNat=47∧r.head? =some 47
   ·have e:skpG false (c::r)=skpG true r:=by rw[skpG,if_neg h1,if_pos h2]
    rw[e];exact(vS r true).trans (List.suffix_cons c r)
   ·have e:skpG false (c::r)=c::r:=by rw[skpG,if_neg h1,if_neg h2]
    rw[e];exact List.suffix_refl _
theorem Fa{x:Bs}(h:skpG false x=x)(q:Int×Int):skq x q=q:=by
 unfold skq
 rw[h,Nat.sub_self,List.take_zero]
 rfl
theorem HG{r:Bs}(h:(quoR r).2.2=true):1≤(quoR r).2.1∧(quoR r).2.1≤r.length+1:=by
 cases hq:quoP r with
 | none=>rw[oY hq]at h;cases h
 | some p =>
  obtain⟨t,m⟩:=p;rw[At hq];have:=yX _ hq;exact⟨by simp,by simp only;omega⟩
theorem EV{s op:Bs}(h:symP s=some op):pre op s=true∧op≠[]:=by
 unfold symP at h
 split at h
 ·rename_i h1
  cases h
  exact⟨(Bool.and_eq_true _ _▸h1).1,by simp⟩
 split at h
 ·rename_i h1
  cases h
  exact⟨(Bool.and_eq_true _ _▸h1).1,by simp⟩
 split at h
 ·rename_i h1;cases h;exact⟨h1,by simp⟩
 split at h
 ·rename_i h1;cases h;exact⟨h1,by simp⟩
 split at h
 ·rename_i h1;cases h;exact⟨h1,by simp⟩
 split at h
 ·rename_i h1;cases h;exact⟨h1,by simp⟩
 split at h
 ·cases h
 ·split at h
  ·cases h;exact⟨by simp[pre,List.isPrefixOf],by simp⟩
  ·cases h
theorem HR{s:Bs}(h0:s≠[])(h:(nxtR s).2.2=true):1≤(nxtR s).2.1∧(nxtR s).2.1≤s.length:=by
 unfold nxtR at h ⊢
 split
 ·rename_i h1
  exact⟨h1,(List.takeWhile_prefix isW).length_le⟩
 ·rename_i h1
  rw[if_neg h1]at h
  have hs:1≤s.length:=by cases s with
   | nil=>exact absurd rfl h0
   | cons c r=>simp
  split
  ·rename_i h2
   rw[if_pos h2]at h;have:=HG h;rw[List.length_drop]at this;exact⟨this.1,by simp only;omega⟩
  ·rename_i h2
   rw[if_neg h2]at h;unfold symR at h ⊢;cases hs:symP s with
   | none=>rw[hs]at h;cases h
   | some op =>
    obtain⟨h3,h4⟩:=EV hs;simp only;obtain⟨x,rfl⟩:=jV.1 h3;refine⟨?_,by simp⟩
    cases op with
    | nil=>exact absurd rfl h4
    | cons c r=>simp
def rN:Nat→Bs→Int×Int→List Tk×Bool
 | 0,_,_=>([],true)
 | f+1,s,p=>if skpG false s=[]then([],true)
  else if(nxtR (skpG false s)).2.2 then((nxtR (skpG false s)).1.at_ (skq s p)::(rN f ((skpG false s).drop (nxtR (skpG false s)).2.1) (advs (skq s p) ((skpG false s).take (nxtR (skpG false s)).2.1))).1,(rN f ((skpG false s).drop (nxtR (skpG false s)).2.1) (advs (skq s p) ((skpG false s).take (nxtR (skpG false s)).2.1))).2)
  else([⟨6,[],0,(skq s p).1,(skq s p).2⟩],false)
def Uc(s:Bs):List Tk×Bool:=rN (s.length+1) s (1,1)
theorem Pt(f:Nat)(s:Bs)(p:Int×Int):rN f s p=rN f (skpG false s) (skq s p):=by
 cases f with
 | zero=>rfl
 | succ f =>
  unfold rN;rw[nS,Fa (nS s false)]
theorem GI(f:Nat)(p:Int×Int):rN f [] p=([],true):=by
 cases f with
 | zero=>rfl
 | succ f=>unfold rN;rw[if_pos (show skpG false []=[]from rfl)]
theorem NP{f:Nat}{x:Bs}(hx:skpG false x=x)(h0:x≠[])(h:(nxtR x).2.2=true)(q:Int×Int):rN (f+1) x q=((nxtR x).1.at_ q::(rN f (x.drop (nxtR x).2.1) (advs q (x.take (nxtR x).2.1))).1,(rN f (x.drop (nxtR x).2.1) (advs q (x.take (nxtR x).2.1))).2):=by
 conv=>lhs;unfold rN
 rw[hx,Fa hx,if_neg h0,if_pos h]
theorem NQ{f:Nat}{x:Bs}(hx:skpG false x=x)(h0:x≠[])(h:(nxtR x).2.2=false)(q:Int×Int):rN (f+1) x q=([⟨6,[],0,q.1,q.2⟩],false):=by
 conv=>lhs;unfold rN
 rw[hx,Fa hx,if_neg h0,if_neg (by rw[h];decide)]
theorem Rg(b:Nat)(hb:b=10∨b=16)(c:UInt8):(∀d,d<b→(dgv c=some d↔hexv c=some d)):=by
 have key: ∀n,n<16→(dgv c=some n↔hexv c=some n):=by
  intro n hn;have:=pD (fun c=>(List.range 16).all fun n=>(dgv c==some n)==(hexv c==some n)) (by decide +kernel) c
  have h2:=List.all_eq_true.1 this n (by simpa using hn)
  have h3:=beq_iff_eq.1 h2;constructor
  ·intro h
   have:(hexv c==some n)=true:=by rw[←h3,h];simp
   exact beq_iff_eq.1 this
  ·intro h
   have:(dgv c==some n)=true:=by rw[h3,h];simp
   exact beq_iff_eq.1 this
 intro d hd
 exact key d (by omega)
theorem PU{b:Nat}(hb:1≤b)(s:Bs): ∀a n,digV b a s=some n→a≤n:=by
 induction s with
 | nil=>intro a n h;cases h;exact Nat.le_refl _
 | cons c r ih =>
  intro a n h;rw[digV]at h;split at h
  ·split at h
   ·have h1:=ih _ _ h
    have:a*1≤a*b:=Nat.mul_le_mul_left a hb;omega
   ·cases h
  ·cases h
theorem HM{b:Nat}(hb:b=10∨b=16)(s:Bs): ∀a n,digV b a s=some n→n≤4294967295→puF b a s=(n,0):=by
 induction s with
 | nil=>intro a n h _;cases h;rfl
 | cons c r ih =>
  intro a n h hn;rw[digV]at h;split at h
  ·rename_i d hd
   split at h
   ·rename_i hlt
    have h1:=PU (show 1≤b by omega) r _ _ h
    rw[puF,(Rg b hb c d hlt).2 hd];simp only;rw[if_neg (by omega),if_neg (by omega)]
    exact ih _ _ h hn
   ·cases h
  ·cases h
theorem HL{b:Nat}(hb:b=10∨b=16)(s:Bs): ∀a,(puF b a s).2=0→digV b a s=some (puF b a s).1:=by
 induction s with
 | nil=>intro a _;rfl
 | cons c r ih =>
  intro a h;rw[puF]at h ⊢;cases hd:dgv c with
  | none=>rw[hd]at h;cases h
  | some d =>
   rw[hd]at h;simp only at h ⊢
   by_cases h1:b≤d
   ·rw[if_pos h1]at h;cases h
   ·rw[if_neg h1]at h ⊢
    by_cases h2:4294967295<a*b+d
    ·rw[if_pos h2]at h;cases h
    ·rw[if_neg h2]at h ⊢
     rw[digV,(Rg b hb c d (by omega)).1 hd]
     simp only;rw[if_pos (by omega)]
     exact ih _ h
theorem Re{b:Nat}(s:Bs): ∀a n,digV b a s=some n→ ∀c∈s,(hexv c).isSome=true:=by
 induction s with
 | nil=>intro a n _ c hc;cases hc
 | cons x r ih =>
  intro a n h c hc;rw[digV]at h;split at h
  ·rename_i d hd
   split at h
   ·rcases List.mem_cons.1 hc with rfl|hc
    ·rw[hd];rfl
    ·exact ih _ _ h c hc
   ·cases h
  ·cases h
theorem Jr{s:Bs}(h: ∀c∈s,(hexv c).isSome=true):Lib.containsAny s [95,43,45]=false:=by
 unfold Lib.containsAny
 rw[Lib.indexAny_none (fun j b _ hb=> ?_)]
 ·decide
 ·have h1:=h b (List.mem_of_getElem? hb)
  have h2:=pD (fun c=> !(hexv c).isSome|| !([95,43,45]:List UInt8).contains c) (by decide +kernel) b
  simp only[h1,Bool.not_true,Bool.false_or]at h2;simpa using h2
theorem CL(s:Bs): ∀a n,digV 16 a s=some n→n<(a+1)*16^s.length:=by
 induction s with
 | nil=>intro a n h;cases h;simp
 | cons c r ih =>
  intro a n h;rw[digV]at h;split at h
  ·rename_i d hd
   split at h
   ·rename_i hlt
    have h1:=ih _ _ h;have h2:(a*16+d+1)*16^r.length≤((a+1)*16)*16^r.length:=Nat.mul_le_mul_right _ (by omega)
    rw[List.length_cons,Nat.pow_succ,Nat.mul_comm (16^r.length) 16,←Nat.mul_assoc];omega
   ·cases h
  ·cases h
theorem Zn{w:Bs}{n:Nat}(h:valP w=some n):valR w=(n,true):=by
 unfold valP at h
 unfold valR
 split at h
 ·rename_i hp
  rw[if_pos hp];split at h
  ·rename_i hl
   have h16:n≤4294967295:=by
    have:=CL _ _ _ h;have h2:16^(List.drop 2 w).length≤16^8:=Nat.pow_le_pow_right (by decide) hl.2
    have h3:(16:Nat)^8=4294967296:=by decide
    omega
   have hne:List.drop 2 w≠[]:=fun e=>by rw[e]at hl;exact absurd hl.1 (by decide)
   have hpu:puR 16 (List.drop 2 w)=(n,0):=by
    unfold puR;rw[if_neg hne];exact HM (.inr rfl) _ _ _ h h16
   rw[hpu,Jr (Re _ _ _ h),decide_eq_true hl.2];rfl
  ·cases h
 ·rename_i hp
  rw[if_neg hp];split at h
  ·cases h
  ·rename_i hz
   split at h
   ·rename_i m hm
    split at h
    ·rename_i hlt
     cases h
     have hne:w≠[]:=fun e=>hz (.inl (by rw[e];rfl))
     have hpu:puR 10 w=(n,0):=by
      unfold puR;rw[if_neg hne];exact HM (.inl rfl) _ _ _ hm (by omega)
     rw[hpu,Jr (Re _ _ _ hm)]
     have hz2:(w==[48]||decide (w.head? ≠some 48))=true:=by
      by_cases q:w.head? =some 48
      ·have: ¬1<w.length:=fun k=>hz (.inr ⟨k,q⟩)
       obtain⟨x,rfl⟩: ∃x,w=[x]:=List.length_eq_one_iff.1 (by have:=List.length_pos_iff.2 hne;omega)
       cases q;rfl
      ·rw[decide_eq_true q,Bool.or_true]
     rw[hz2];rfl
    ·cases h
   ·cases h
theorem Zo{w:Bs}(h:valP w=none):(valR w).2=false:=by
 rw[←Bool.not_eq_true]
 intro hc
 unfold valR at hc
 unfold valP at h
 by_cases hp:pre [48,120] w=true
 ·rw[if_pos hp]at hc h
  simp only[Bool.and_eq_true,decide_eq_true_eq]at hc;have hne:List.drop 2 w≠[]:=fun e=>by rw[e]at hc;exact absurd hc.1 (by decide)
  unfold puR at hc;rw[if_neg hne]at hc;rw[if_pos ⟨List.length_pos_iff.2 hne,hc.2.1⟩,HL (.inr rfl) _ _ hc.1]at h;cases h
 ·rw[if_neg hp]at hc h
  simp only[Bool.and_eq_true,decide_eq_true_eq]at hc;have hne:w≠[]:=fun e=>by rw[e]at hc;exact absurd hc.1 (by decide)
  have hz: ¬(w.length=0∨(1<w.length∧w.head? =some 48)):=by
   rintro(k|⟨k1,k2⟩)
   ·exact hne (List.length_eq_zero_iff.1 k)
   ·have h3:=hc.2.1
    rw[decide_eq_false (show ¬(w.head? ≠some 48)from fun k=>k k2),Bool.or_false]at h3
    have h4:=beq_iff_eq.1 h3;rw[h4]at k1;exact absurd k1 (by decide)
  have hpu:puR 10 w=puF 10 0 w:=if_neg hne;have hle:(puF 10 0 w).1≤4294967295:=HN 10 w 0 (by decide)
  rw[hpu]at hc;rw[if_neg hz,HL (.inl rfl) _ _ hc.1]at h;simp only at h;rw[if_pos (by omega)]at h
  cases h
theorem BK{w:Bs}{t:Tk}(h:namP w=some t):uC w=(t,true):=by
 unfold namP at h
 unfold uC
 split
 ·rename_i q
  rw[if_pos q]at h;cases h;rfl
 ·rename_i q
  rw[if_neg q]at h;split
  ·rename_i q2
   rw[if_pos q2]at h;split at h
   ·rename_i q3
    cases h
    rw[decide_eq_true q3]
   ·cases h
  ·rename_i q2
   rw[if_neg q2]at h;cases hv:valP w with
   | none=>rw[hv]at h;cases h
   | some n =>
    rw[hv]at h;cases h
    rw[Zn hv]
theorem BL{w:Bs}(h:namP w=none):(uC w).2=false:=by
 unfold namP at h
 unfold uC
 split
 ·rename_i q
  rw[if_pos q]at h;cases h
 ·rename_i q
  rw[if_neg q]at h;split
  ·rename_i q2
   rw[if_pos q2]at h;split at h
   ·cases h
   ·rename_i q3
    exact decide_eq_false q3
  ·rename_i q2
   rw[if_neg q2]at h;cases hv:valP w with
   | none=>exact Zo hv
   | some n=>rw[hv]at h;cases h
theorem BG{s:Bs}{t:Tk}{n:Nat}(h:tokP s=some (t,n)):nxtR s=(t,n,true):=by
 unfold tokP at h
 unfold nxtR
 split
 ·rename_i q
  rw[if_pos q]at h;cases hn:namP (s.takeWhile isW)with
  | none=>rw[hn]at h;cases h
  | some u=>rw[hn]at h;cases h;rw[BK hn]
 ·rename_i q
  rw[if_neg q]at h;split
  ·rename_i q2
   rw[if_pos q2]at h;cases hq:quoP (s.drop 1)with
   | none=>rw[hq]at h;cases h
   | some u=>obtain⟨u,m⟩:=u;rw[hq]at h;cases h;rw[At hq]
  ·rename_i q2
   rw[if_neg q2]at h;cases hq:symP s with
   | none=>rw[hq]at h;cases h
   | some u=>rw[hq]at h;cases h;unfold symR;rw[hq]
theorem BH{s:Bs}(h:tokP s=none):(nxtR s).2.2=false:=by
 unfold tokP at h
 unfold nxtR
 split
 ·rename_i q
  rw[if_pos q]at h;cases hn:namP (s.takeWhile isW)with
  | none=>exact BL hn
  | some u=>rw[hn]at h;cases h
 ·rename_i q
  rw[if_neg q]at h;split
  ·rename_i q2
   rw[if_pos q2]at h;cases hq:quoP (s.drop 1)with
   | none=>rw[oY hq]
   | some u=>obtain⟨u,m⟩:=u;rw[hq]at h;cases h
  ·rename_i q2
   rw[if_neg q2]at h;cases hq:symP s with
   | none=>unfold symR;rw[hq]
   | some u=>rw[hq]at h;cases h
theorem Jj: ∀(f:Nat) (s:Bs) (p:Int×Int),rN f s p=qV f s p
 | 0,s,p=>rfl
 | f+1,s,p=>by
  rw[rN,qV]
  by_cases q:skpG false s=[]
  ·rw[if_pos q,if_pos q]
  rw[if_neg q,if_neg q];cases h:tokP (skpG false s)with
  | none =>
   rw[if_neg (by rw[BH h];decide)]
  | some u =>
   obtain⟨t,n⟩:=u;rw[BG h,if_pos rfl,Jj f]
theorem Jl(s:Bs):Uc s=scan s:=Jj _ s (1,1)
theorem RY(c:UInt8):((c.toNat:Nat):Int).fdiv (2^min 4 IntKind.u8.bits)=((c.toNat/16:Nat):Int) :=
 of_decide_eq_true (pD (fun c=>decide (((c.toNat:Nat):Int).fdiv (2^min 4 IntKind.u8.bits)=((c.toNat/16:Nat):Int))) (by decide +kernel) c)
theorem RX(c:UInt8):IntKind.u8.wrap ↑(BitVec.ofInt IntKind.u8.bits ↑c.toNat&&&BitVec.ofInt IntKind.u8.bits 15).toNat=((c.toNat%16:Nat):Int) :=
 of_decide_eq_true (pD (fun c=>decide (IntKind.u8.wrap ↑(BitVec.ofInt IntKind.u8.bits ↑c.toNat&&&BitVec.ofInt IntKind.u8.bits 15).toNat=((c.toNat%16:Nat):Int))) (by decide +kernel) c)
theorem Qo: ∀ {n:Nat},n<16→([48,49,50,51,52,53,54,55,56,57,97,98,99,100,101,102]:Bs)[n]? =some (hexD n):=by
 intro n h
 have: ∀n<16,([48,49,50,51,52,53,54,55,56,57,97,98,99,100,101,102]:Bs)[n]? =some (hexD n):=by decide
 exact this n h
def scnR(s:Bs):List Tk×Int:=if 65536<s.length then([],6)else((Uc s).1,if(Uc s).2 then 0 else 3)
def fO:=A16 @pS @cO @Ei @dR @Sz @kM @Sx @oU @nB @yO @yN @Hw @yM @yL @Su (A6 @vM @gU @cN @Ec @dA @iC)
theorem Ng(s:Bs)(hs:s.length≤4194304):PC Tryz.prog 28 [.im (.string ⟨(s).toArray⟩)] (.tu [.sl ((scnR s).1.map tkV) .ro,.im (.int .i64 (scnR s).2)]):=by
 by_cases hbig:65536<s.length
 ·have hb:(s.length:Int)>65536:=by omega
  rw[show scnR s=([],6)from if_pos hbig]
  refine pcEnt 73 Tryz.func28 rfl [(0,.im (.string ⟨(s).toArray⟩))] ?_
  refine wG fO (A3 BY dB hb) ?_;refine fiGenO [.tmp 2,.tmp 3] (finG fO) ?_
  all_goals exact wkG (A3 bC aX aC)
 have hb: ¬(s.length:Int)>65536:=by omega
 rw[show scnR s=((Uc s).1,if(Uc s).2 then 0 else 3)from if_neg hbig]
 refine pcEnt 73 Tryz.func28 rfl [(0,.im (.string ⟨(s).toArray⟩))] ?_
 refine AWp.seq ?_
 refine AWp.tail (fun _:Unit=>⟨dn 73 [(0,.im (.string ⟨(s).toArray⟩)),(2,.sl [] .nl),(3,.im (.int .i64 0))],ofl []⟩) (fun _=> ?_) (fun rest ht=> ?_)
 case refine_2 =>
  refine wG fO TI ?_;refine AWp.cutP 0 [(0,.im (.string ⟨(s).toArray⟩)),(2,.sl [] .nl),(3,.im (.int .i64 0))] [] (A4 bC aX aC TI) ?_;exact ht ()
 refine AWp.seq ?_
 refine AWp.tail (fun _:Unit=>⟨dn 73 [(0,.im (.string ⟨(s).toArray⟩)),(2,.sl [] .nl),(3,.im (.int .i64 0))],ofl []⟩) (fun _=> ?_) (fun rest ht=> ?_)
 case refine_2 =>
  refine wG fO (A3 BY dB hb) ?_;refine AWp.cutP 0 [(0,.im (.string ⟨(s).toArray⟩)),(2,.sl [] .nl),(3,.im (.int .i64 0))] [] (A4 bC aX aC TI) ?_;exact ht ()
 refine AWp.seq ?_
 refine AWp.tail (fun _:Unit=>⟨dn 73 [(0,.im (.string ⟨(s).toArray⟩)),(2,.sl [] .nl),(3,.im (.int .i64 0)),(4,.pt 0 0)],ofl [.box [.im (.string ⟨(s).toArray⟩),(.im (.int .i64 (1))),(.im (.int .i64 (1))),.sl [] .nl]]⟩) (fun _=> ?_) (fun rest ht=> ?_)
 case refine_2 =>
  refine wG fO BY ?_;refine AWp.cutP 1 [(0,.im (.string ⟨(s).toArray⟩)),(2,.sl [] .nl),(3,.im (.int .i64 0)),(4,.pt 0 0)] [.box [.im (.string ⟨(s).toArray⟩),(.im (.int .i64 (1))),(.im (.int .i64 (1))),.sl [] .nl]] (A4 bC aX aC TI) ?_;exact ht ()
 refine AWp.ghostB 0 3 [.im (.string ⟨(s).toArray⟩),(.im (.int .i64 (1))),(.im (.int .i64 (1))),.sl [] .nl] 122 5 ?_
 have qb:=Ys s (1,1) [] (by decide) (by decide) hs
 refine wG fO TI ?_
 refine aA [0,1] qb TI (A3 bC aX aC) (A3 fE fF cH) ?_
 refine goG fO TI ?_
 refine wG fO TI ?_
 refine aP ?_
 suffices H: ∀(k f:Nat) (x:Bs) (q:Int×Int) (ts:List Tk),x.length=k→x.length<f→skpG false x=x→Uc s=(ts++(rN f x q).1,(rN f x q).2)→ts.length+x.length≤s.length →
   (x=s.drop (s.length-x.length))→(q=advs (1,1) (s.take (s.length-x.length)))→ALp _ _ _ _ _ ⟨dn 73 [(0,.im (.string ⟨(s).toArray⟩)),(4,.pt 0 0)],ofl [.box [.im (.string ⟨(x).toArray⟩),(.im (.int .i64 (q.1))),(.im (.int .i64 (q.2))),.sl (ts.map tkV) (.mine 1)],.tip 122 5 ts.length]⟩ by
  refine ALp.cutP 2 [(0,.im (.string ⟨(s).toArray⟩)),(4,.pt 0 0)] [.box [.im (.string ⟨(skpG false s).toArray⟩),(.im (.int .i64 ((skq s (1,1)).1))),(.im (.int .i64 ((skq s (1,1)).2))),.sl (([]:List Tk).map tkV) (.mine 1)],.tip 122 5 ([]:List Tk).length] (A3 bC aX aC) ?_;exact H _ (s.length+1) _ _ [] rfl (by have:=qU false s;omega) (nS s false) (by rw[List.nil_append,←Pt];rfl) (by have:=qU false s;simp;exact this) (List.suffix_iff_eq_drop.1 (vS s false)) rfl
 intro k
 induction k using Nat.strongRecOn with
 | _ k ih =>
 intro f x q ts hk hf hx hE hts hq1 hq2
 refine dF ?_
 cases x with
 | nil =>
  have e0:(([]:Bs)==[])=true:=rfl;rw[GI,List.append_nil]at hE;rw[hE];clear ih;refine wG fO (AI BY e0) ?_;refine fiGenO [.tmp 2,.tmp 3] (finG fO) ?_
  all_goals exact wkG (A3 bC aX aC)
 | cons c r =>
 have e0:((c::r)==([]:Bs))=false:=rfl
 have hxl:(c::r).length≤4194304:=by omega
 have qn:=XB (c::r) q ts hxl (by simp)
 cases f with
 | zero=>omega
 | succ f =>
 have hN:=NQ (f:=f) hx (by simp)
 have hY:=NP (f:=f) hx (by simp)
 have hlen:=HR (s:=c::r) (by simp)
 generalize nxtR (c::r)=v at qn hN hY hlen
 obtain⟨tk,n,b⟩:=v
 have hal:ts.length+1≤140737488355328:=by rw[List.length_cons]at hts;omega
 cases b with
 | false =>
  rw[hN rfl q]at hE;rw[hE];obtain⟨B,hB⟩: ∃B,B=ts++[(⟨6,[],0,q.1,q.2⟩:Tk)]:=⟨_,rfl⟩
  have hAs:ts.map tkV++[V.ag [.im (.int .i64 6),.im (.string ByteArray.empty),.im (.int .u32 0),.im (.int .i64 q.1),.im (.int .i64 q.2)]]=B.map tkV:=by rw[hB,List.map_append];rfl
  have hAl:ts.length+1=B.length:=by rw[hB];simp
  have hbl:B.length*48≤140737488355328:=by rw[List.length_cons]at hts;omega
  simp only[←hB];clear ih hN hY hlen;refine wG fO (AI BY e0) ?_;refine cA [0,1] qn TI (A3 bC aX aC) (A3 fE fF cH) ?_;refine goG fO TKT ?_;refine wG fO TKT ?_;refine wdG fO (A7 BY GDS TKT hAs hAl hbl @List.length_map.{0,0}) ?_;refine fiGenO [.tmp 2,.tmp 3] (finG fO) ?_
  all_goals exact wkG (A3 bC aX aC)
 | true =>
  rw[hY rfl q]at hE;have hn:=hlen rfl;clear hN hY hlen;simp only at hn hE;obtain⟨B,hB⟩: ∃B,B=ts++[tk.at_ q]:=⟨_,rfl⟩
  have hAs:ts.map tkV++[V.ag [.im (.int .i64 tk.kind),.im (.string ⟨tk.text.toArray⟩),.im (.int .u32 tk.n),.im (.int .i64 q.1),.im (.int .i64 q.2)]]=B.map tkV:=by rw[hB,List.map_append];rfl
  have hAl:ts.length+1=B.length:=by rw[hB];simp
  have hbl:B.length*48≤140737488355328:=by rw[List.length_cons]at hts;omega
  obtain⟨a,ha⟩: ∃a,a=s.length-(c::r).length:=⟨_,rfl⟩
  rw[←ha]at hq1 hq2;have hal2:a+(c::r).length=s.length:=by omega
  have hbq:=sZ (s.take a) (1,1) (by decide) (by decide)
  rw[←hq2,List.length_take]at hbq;have hs1:=KC (c::r) q B n hn.2 (by omega) (by omega) hxl
  have hq3:advs q ((c::r).take n)=advs (1,1) (s.take (a+n)):=by rw[hq2,hq1];exact Bz (1,1) s a n
  have hx3:(c::r).drop n=s.drop (a+n):=by rw[hq1,List.drop_drop]
  have hbq2:=sZ (s.take (a+n)) (1,1) (by decide) (by decide)
  rw[List.length_take]at hbq2;rw[hq3]at hs1 hE;rw[hx3]at hs1 hE;have hyl:(s.drop (a+n)).length=s.length-(a+n):=List.length_drop;have hs2:=Ys (s.drop (a+n)) (advs (1,1) (s.take (a+n))) B (by omega) (by omega) (by omega)
  have hle:=qU false (s.drop (a+n))
  have hq4:skq (s.drop (a+n)) (advs (1,1) (s.take (a+n)))=advs (1,1) (s.take (s.length-(skpG false (s.drop (a+n))).length)):=by
   unfold skq;rw[Bz,hyl,show a+n+(s.length-(a+n)-(skpG false (s.drop (a+n))).length)=s.length-(skpG false (s.drop (a+n))).length by omega]
  have hE2:Uc s=(B++(rN f (skpG false (s.drop (a+n))) (skq (s.drop (a+n)) (advs (1,1) (s.take (a+n))))).1,(rN f (skpG false (s.drop (a+n))) (skq (s.drop (a+n)) (advs (1,1) (s.take (a+n))))).2):=by
   rw[←Pt,hE,hB,List.append_assoc];rfl
  have hrec:=ih (skpG false (s.drop (a+n))).length (by omega) f _ _ B rfl (by omega) (nS _ false) hE2 (by omega) (List.suffix_iff_eq_drop.1 ((vS _ false).trans (List.drop_suffix _ _))) hq4
  clear ih hE hE2 hq4 hle hyl hbq hbq2 hq3 hx3 hq1 hq2 hts;generalize skq (s.drop (a+n)) (advs (1,1) (s.take (a+n)))=q4 at hs2 hrec;generalize skpG false (s.drop (a+n))=x4 at hs2 hrec;generalize advs (1,1) (s.take (a+n))=q3 at hs1 hs2;generalize s.drop (a+n)=x3 at hs1 hs2;refine wG fO (AI BY e0) ?_;refine cA [0,1] qn TI (A3 bC aX aC) (A3 fE fF cH) ?_;refine goG fO TKT ?_;refine wG fO TKT ?_;refine wdG fO (A7 BY GDS TKT hAs hAl hbl @List.length_map.{0,0}) ?_;refine aA [0,1] hs1 TI (A3 bC aX aC) (A3 fE fF cH) ?_;refine goG fO TI ?_;refine wG fO TI ?_;refine aA [0,1] hs2 TI (A3 bC aX aC) (A3 fE fF cH) ?_;refine goG fO TI ?_;refine wG fO TI ?_;refine ALp.cutP 2 [(0,.im (.string ⟨(s).toArray⟩)),(4,.pt 0 0)] [.box [.im (.string ⟨(x4).toArray⟩),(.im (.int .i64 (q4.1))),(.im (.int .i64 (q4.2))),.sl (B.map tkV) (.mine 1)],.tip 122 5 B.length] (A3 bC aX aC) ?_;exact hrec
def qH:=A3 @Eh @nO @oS
theorem Nf:Catch Tryz.prog 76 61:=by
 refine Catch.of (N:=19) Tryz.func76 rfl (by decide) rfl rfl rfl Tryz.results76 (fun u v a b=> ?_) (fun u v=> ?_)
 ·refine wG qH TI ?_
  refine vP false ?_;refine goG qH TI ?_;refine wG qH TI ?_;refine Wp ?_;refine goG qH TI ?_;refine wG qH TI ?_;exact⟨rfl,rfl⟩
 ·refine wG qH TI ?_
  refine vP true ?_;refine goG qH TI ?_;refine wG qH TI ?_;exact⟨rfl,rfl⟩
def prsV{α:Type}(val:α→V)(zero:V):Rs α→V
 | .ok x _ _=> .tu [val x,.ag [(.im (.int .i64 (0))),(.im (.int .i64 (0)))]]
 | .bad b e=> .tu [zero,.ag [(.im (.int .i64 ((b:Nat)))),(.im (.int .i64 (e)))]]
def zR:=A3 @fB @kR @dK
def rC:=A4 aX bC @aE @aD
def Hn:=A4 fE fF @aQ @aR
theorem Ym{ts:List Tk}(hts:ts.length≤4194304)(f:Nat)(r:Rs Ex)(h:exM ts f (.ex 1) 0 0=some r):XC Tryz.prog 58 [.pt 0 0] ts 0 0 exV r:=by
 cases r with
 | bad b e =>
  refine xcEnt 5 Tryz.func58 rfl [(0,.pt 0 0)] ?_
  refine wG zR TI ?_;exact PA.callP [0] ((xF hts f 1 0 0 (by decide) (by decide) _ h).fails) i1 rC Hn (fun _=>PFin.i rfl rfl)
 | ok x b p =>
  refine xcEnt 5 Tryz.func58 rfl [(0,.pt 0 0)] ?_
  refine wG zR TI ?_;refine aA [0] ((xF hts f 1 0 0 (by decide) (by decide) _ h).good) i1 rC Hn ?_
  refine goG zR BN01 ?_;refine wG zR BN01 ?_;refine fiGen [.cell 2 46] (finG zR) ?_ rfl (idG rC)
  rw[bH x]
  all_goals exact wkG rC
def oO:=A14 @cO @fB @Eh @Ib @kR @nO @oU @fP @Hr @Ee @gU @cN @dK @oS
theorem Ko{ts:List Tk}(hts:ts.length≤4194304)(f:Nat)(z:Rs Ex)(hz:allM ts (exM ts f (.ex 1) 0 0)=some z):PC Tryz.prog 57 [.sl (ts.map tkV) .ro,.fn (.func 58) [] []] (prsV exV (exV (.mk 0 0 ByteArray.empty 0 [])) z):=by
 refine yA (s:=[(0,.sl (ts.map tkV) .ro),(1,.fn (.func 58) [] [])]) (s1:=[(0,.sl (ts.map tkV) .ro),(1,.fn (.func 58) [] []),(4,.pt 0 0),(5,.pt 1 0)]) (l1:=[.box [(.im (.int .i64 (0))),.im (.int .u32 0),.im (.string ByteArray.empty),(.im (.int .i64 (0))),.sl [] .nl],.box [(.im (.int .i64 (0))),(.im (.int .i64 (0)))]]) 1 25 Nf Tryz.func57 rfl (by decide) rfl rfl rfl ?_ rfl ?_
 ·rw[Tx]
  refine goG oO TI ?_;exact⟨(fun e=>by cases e),rfl,rfl⟩
 rcases aU hz with ⟨b1,e1,h1,rfl⟩|⟨x,a1,o1,h1,h⟩
 ·refine wG oO TI ?_
  refine PA.callS [2] ((Ym hts f _ h1).fails) TI rC Hn ?_;show FinD _ _ _ _ _ _ ⟨_,ofl [.box [(.im (.int .i64 (0))),.im (.int .u32 0),.im (.string ByteArray.empty),(.im (.int .i64 (0))),.sl [] .nl],.box [(.im (.int .i64 (0))),(.im (.int .i64 (0)))],.box (List.replicate 3 .dead)]⟩
  refine FinD.pan 1 (by simp) rfl ?_
  refine fiGenO [.cell 4 46,.cell 5 61] (finG oO) ?_
  all_goals exact wkG rC
 refine wG oO TI ?_
 refine aA [2] ((Ym hts f _ h1).good) TI rC Hn ?_
 refine goG oO BN01 ?_
 rcases aI h with ⟨hlt,h⟩|⟨hlt,h⟩
 ·have hl:(a1:Int)<(ts.length:Int):=by omega
  cases h
  refine wG oO (AI hl @List.length_map.{0,0}) ?_;refine PA.callS [2] (oG ts a1 o1 3) TI rC Hn ?_;show FinD _ _ _ _ _ _ ⟨_,ofl [.box [(.im (.int .i64 (0))),.im (.int .u32 0),.im (.string ByteArray.empty),(.im (.int .i64 (0))),.sl [] .nl],.box [(.im (.int .i64 (0))),(.im (.int .i64 (0)))],.box (List.replicate 3 .dead),_]⟩
  refine FinD.pan 1 (by simp) rfl ?_
  refine fiGenO [.cell 4 46,.cell 5 61] (finG oO) ?_
  all_goals exact wkG rC
 ·have hl: ¬(a1:Int)<(ts.length:Int):=by omega
  cases h
  refine wG oO (A3 hl @List.length_map.{0,0} BN01) ?_;refine FinD.ret 1 rfl ?_;refine fiGenO [.cell 4 46,.cell 5 61] (finG oO) ?_
  show WkF _ _ _ (.tu [exV x,.ag [(.im (.int .i64 (0))),(.im (.int .i64 (0)))]]);rw[bH x]
  all_goals exact wkG rC
def oP:=A14 @cO @nQ @Eh @Ib @tT @nO @oU @fP @Hr @Ee @gU @cN @lG @oS
def oI:=A10 aX bC @aN @aL gG eU pH kU aG uI
def Cb:=A10 fE fF @bE @bD oK pV Mn Mo bI MV
theorem Kn{ts:List Tk}(hts:ts.length≤4194304)(hok: ∀t∈ts,TkOk t)(f:Nat)(z:Rs Fun)(hz:allM ts (funM ts f 0 0)=some z):PC Tryz.prog 51 [.sl (ts.map tkV) .ro,.fn (.func 52) [] []] (prsV fnV (fnV ⟨ByteArray.empty,[],[]⟩) z):=by
 refine yA (s:=[(0,.sl (ts.map tkV) .ro),(1,.fn (.func 52) [] [])]) (s1:=[(0,.sl (ts.map tkV) .ro),(1,.fn (.func 52) [] []),(4,.pt 0 0),(5,.pt 1 0)]) (l1:=[.box [.im (.string ByteArray.empty),.sl [] .nl,.sl [] .nl],.box [(.im (.int .i64 (0))),(.im (.int .i64 (0)))]]) 1 25 Nf Tryz.func51 rfl (by decide) rfl rfl rfl ?_ rfl ?_
 ·rw[Tx]
  refine goG oP TI ?_;exact⟨(fun e=>by cases e),rfl,rfl⟩
 rcases aU hz with ⟨b1,e1,h1,rfl⟩|⟨x,a1,o1,h1,h⟩
 ·refine wG oP TI ?_
  refine PA.callS [2] ((Du hts hok 0 0 (by decide) _ h1).fails) TI oI Cb ?_
  show FinD _ _ _ _ _ _ ⟨_,ofl [.box [.im (.string ByteArray.empty),.sl [] .nl,.sl [] .nl],.box [(.im (.int .i64 (0))),(.im (.int .i64 (0)))],.box (List.replicate 3 .dead)]⟩
  refine FinD.pan 1 (by simp) rfl ?_
  refine fiGenO [.cell 4 37,.cell 5 61] (finG oP) ?_
  all_goals exact wkG oI
 refine wG oP TI ?_
 refine aA [2] ((Du hts hok 0 0 (by decide) _ h1).good) TI oI Cb ?_
 refine goG oP FU ?_
 rcases aI h with ⟨hlt,h⟩|⟨hlt,h⟩
 ·have hl:(a1:Int)<(ts.length:Int):=by omega
  cases h
  refine wG oP (AI hl @List.length_map.{0,0}) ?_;refine PA.callS [2] (oG ts a1 o1 3) TI oI Cb ?_;show FinD _ _ _ _ _ _ ⟨_,ofl [.box [.im (.string ByteArray.empty),.sl [] .nl,.sl [] .nl],.box [(.im (.int .i64 (0))),(.im (.int .i64 (0)))],.box (List.replicate 3 .dead),_]⟩
  refine FinD.pan 1 (by simp) rfl ?_
  refine fiGenO [.cell 4 37,.cell 5 61] (finG oP) ?_
  all_goals exact wkG oI
 ·have hl: ¬(a1:Int)<(ts.length:Int):=by omega
  cases h
  refine wG oP (A3 hl @List.length_map.{0,0} FU) ?_;refine FinD.ret 1 rfl ?_;refine fiGenO [.cell 4 37,.cell 5 61] (finG oP) ?_
  show WkF _ _ _ (.tu [fnV x,.ag [(.im (.int .i64 (0))),(.im (.int .i64 (0)))]]);rw[jH x]
  all_goals exact wkG oI
def UNT:=A6 @EN @Zs @EL @EK @EM @Zt
def oQ:=A14 @qP @cO @Eh @Ib @tU @nO @oU @fP @Hr @Ee @gU @oT @cN @oS
theorem wT{ts:List Tk}(hts:ts.length≤4194304)(hok: ∀t∈ts,TkOk t)(f:Nat)(z:Rs Un)(hz:allM ts (uniM ts f ⟨[],[],[]⟩ 0 0)=some z):PC Tryz.prog 33 [.sl (ts.map tkV) .ro,.fn (.func 34) [] []] (prsV unV (unV ⟨[],[],[]⟩) z):=by
 refine yA (s:=[(0,.sl (ts.map tkV) .ro),(1,.fn (.func 34) [] [])]) (s1:=[(0,.sl (ts.map tkV) .ro),(1,.fn (.func 34) [] []),(4,.pt 0 0),(5,.pt 1 0)]) (l1:=[.box [.sl [] .nl,.sl [] .nl,.sl [] .nl],.box [(.im (.int .i64 (0))),(.im (.int .i64 (0)))]]) 1 25 Nf Tryz.func33 rfl (by decide) rfl rfl rfl ?_ rfl ?_
 ·rw[Tx]
  refine goG oQ TI ?_;exact⟨(fun e=>by cases e),rfl,rfl⟩
 rcases aU hz with ⟨b1,e1,h1,rfl⟩|⟨x,a1,o1,h1,h⟩
 ·refine wG oQ TI ?_
  refine PA.callS [2] ((JZ hts hok _ h1).fails) TI oI Cb ?_;show FinD _ _ _ _ _ _ ⟨_,ofl [.box [.sl [] .nl,.sl [] .nl,.sl [] .nl],.box [(.im (.int .i64 (0))),(.im (.int .i64 (0)))],.box (List.replicate 3 .dead)]⟩
  refine FinD.pan 1 (by simp) rfl ?_
  refine fiGenO [.cell 4 27,.cell 5 61] (finG oQ) ?_
  all_goals exact wkG oI
 refine wG oQ TI ?_
 refine aA [2] ((JZ hts hok _ h1).good) TI oI Cb ?_
 refine goG oQ UNT ?_
 rcases aI h with ⟨hlt,h⟩|⟨hlt,h⟩
 ·have hl:(a1:Int)<(ts.length:Int):=by omega
  cases h
  refine wG oQ (AI hl @List.length_map.{0,0}) ?_;refine PA.callS [2] (oG ts a1 o1 3) TI oI Cb ?_;show FinD _ _ _ _ _ _ ⟨_,ofl [.box [.sl [] .nl,.sl [] .nl,.sl [] .nl],.box [(.im (.int .i64 (0))),(.im (.int .i64 (0)))],.box (List.replicate 3 .dead),_]⟩
  refine FinD.pan 1 (by simp) rfl ?_
  refine fiGenO [.cell 4 27,.cell 5 61] (finG oQ) ?_
  all_goals exact wkG oI
 ·have hl: ¬(a1:Int)<(ts.length:Int):=by omega
  cases h
  refine wG oQ (A3 hl @List.length_map.{0,0} UNT) ?_;refine FinD.ret 1 rfl ?_;refine fiGenO [.cell 4 27,.cell 5 61] (finG oQ) ?_
  show WkF _ _ _ (.tu [unV x,.ag [(.im (.int .i64 (0))),(.im (.int .i64 (0)))]]);rw[kS x]
  all_goals exact wkG oI
end Go.Proofs.YtmbmmckagcdapaaGreatDoor
