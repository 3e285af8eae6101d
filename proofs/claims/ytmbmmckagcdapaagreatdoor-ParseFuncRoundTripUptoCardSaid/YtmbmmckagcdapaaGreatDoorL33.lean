import Derived.Test.YtmbmmckagcdapaaGreatDoorL13
import Derived.Test.YtmbmmckagcdapaaGreatDoorL34
import Derived.Test.YtmbmmckagcdapaaGreatDoorL27
import Derived.Test.YtmbmmckagcdapaaGreatDoorL29
import Derived.Test.YtmbmmckagcdapaaGreatDoorL23
import Derived.Test.YtmbmmckagcdapaaGreatDoorL17
set_option linter.all false
namespace Go.Proofs.YtmbmmckagcdapaaGreatDoor
open Go.RowKit
def symT(vs:List Va)(fs ls:List ByteArray)(s:Nd):Bool:=s.e.all (knw vs)&&(if s.kind==1||s.kind==3 then has vs s.name else if s.kind==5 then fs.any (fun x=>eqS s.name x)else if s.kind==12 then ls.any (fun x=>eqS s.name x)else true)
def gT:=A16 @cL @Lq @gV @eU @Ln @eC @kD @gG @Ti @Th @Ez @iN @mE @gY @cK (A5 @Lf @gU @dG @Lc @dD)
theorem Zh(vs:List Va)(hv:vs.length≤4194304)(fs ls sn:List ByteArray)(hfs:fs.length≤4194304)(hls:ls.length≤4194304)(s:Nd)(hf:fitN s)(hfm: ∀x∈s.e,efm x=true):DC Tryz.prog 164 [.pt 0 0,ndV s] [.box [(V.fn (.func 154) [] [.pt 1 0]),.sl (fs.map tsV) .ro,.sl (ls.map tsV) (.own 2),.sl ((sn).map tsV) (.own 3)],.box [(V.sl (vs.map vaV) .ro)],.tip 9 1 ls.length,.tip 9 1 (sn).length] (.im (.bool (symT vs fs ls s))) [.box [(V.fn (.func 154) [] [.pt 1 0]),.sl (fs.map tsV) .ro,.sl (ls.map tsV) (.own 2),.sl ((sn).map tsV) (.own 3)],.box [(V.sl (vs.map vaV) .ro)],.tip 9 1 ls.length,.tip 9 1 (sn).length]:=by
 obtain⟨hI,hsz,⟨he1,he2⟩,h4,h5,h6,h7⟩:=dN hf
 have h1:=Ee vs hv s.name
 have h2:=pD fs hfs s.name
 have h3:=pD ls hls s.name
 refine DC.enter 52 Tryz.func164 rfl (by decide) rfl rfl (s:=[(0,.pt 0 0),(1,ndV s)]) (by rfl) ?_
 rw[dZ s]
 refine wG gT TI ?_
 refine aV ?_
 refine ALp.cutP 5 [(0,.pt 0 0),(3,.pt 4 0),(4,(.im (.bool (false)))),(8,.sl (s.e.map exV) .ro),(9,(.im (.int .i64 (s.e.length)))),(10,(.im (.int .i64 ((((0:Nat)):Int)))))] [.box [(V.fn (.func 154) [] [.pt 1 0]),.sl (fs.map tsV) .ro,.sl (ls.map tsV) (.own 2),.sl ((sn).map tsV) (.own 3)],.box [(V.sl (vs.map vaV) .ro)],.tip 9 1 ls.length,.tip 9 1 (sn).length,.box [.im (.int .i64 (s).kind),.im (.int .i64 (s).width),.im (.string (s).name),.sl ((s).e.map exV) .ro,.sl ((s).l.map ndV) .ro,.sl ((s).el.map ndV) .ro,.sl ((s).cs.map nlV) .ro]] BN02 ?_
 refine ALp.upto s.e.length (AllTo (knw vs) s.e) (fun m=>⟨dn 52 [(0,.pt 0 0),(3,.pt 4 0),(4,(.im (.bool (false)))),(8,.sl (s.e.map exV) .ro),(9,(.im (.int .i64 (s.e.length)))),(10,(.im (.int .i64 ((((m:Nat)):Int)))))],ofl [.box [(V.fn (.func 154) [] [.pt 1 0]),.sl (fs.map tsV) .ro,.sl (ls.map tsV) (.own 2),.sl ((sn).map tsV) (.own 3)],.box [(V.sl (vs.map vaV) .ro)],.tip 9 1 ls.length,.tip 9 1 (sn).length,.box [.im (.int .i64 (s).kind),.im (.int .i64 (s).width),.im (.string (s).name),.sl ((s).e.map exV) .ro,.sl ((s).l.map ndV) .ro,.sl ((s).el.map ndV) .ro,.sl ((s).cs.map nlV) .ro]]⟩) ?_ 0 (Nat.zero_le _) (AllTo.zero _ _)
 intro m hm hI hnext
 by_cases hlt:m<s.e.length
 ·have hlt':(m:Int)<(s.e.length:Int):=by omega
  have hm1:=aP hlt (by omega)
  have hg:=bE hlt;have hc:=MO vs hv s.e[m] (he2 _ (List.getElem_mem hlt)) (hfm _ (List.getElem_mem hlt));refine wdG gT (A3 hlt' hg EX) ?_;cases b:knw vs s.e[m]with
  | false =>
   rw[b]at hc;have hr:symT vs fs ls s=false:=by unfold symT;rw[oC hlt b,Bool.false_and]
   rw[hr];refine bX [1] hc @bI BN02 NL ?_;refine goG gT TI ?_;refine wdG gT TI ?_;exact bO BN02
  | true =>
   rw[b]at hc;refine bX [1] hc @bI BN02 NL ?_;refine goG gT TI ?_;refine wdG gT hm1 ?_;refine ALp.cutP 5 [(0,.pt 0 0),(3,.pt 4 0),(4,(.im (.bool (false)))),(8,.sl (s.e.map exV) .ro),(9,(.im (.int .i64 (s.e.length)))),(10,(.im (.int .i64 ((((m+1:Nat)):Int)))))] [.box [(V.fn (.func 154) [] [.pt 1 0]),.sl (fs.map tsV) .ro,.sl (ls.map tsV) (.own 2),.sl ((sn).map tsV) (.own 3)],.box [(V.sl (vs.map vaV) .ro)],.tip 9 1 ls.length,.tip 9 1 (sn).length,.box [.im (.int .i64 (s).kind),.im (.int .i64 (s).width),.im (.string (s).name),.sl ((s).e.map exV) .ro,.sl ((s).l.map ndV) .ro,.sl ((s).el.map ndV) .ro,.sl ((s).cs.map nlV) .ro]] BN02 ?_;exact hnext (m+1) (by omega) (by omega) (hI.succ hlt b)
 obtain rfl:m=s.e.length:=by omega
 clear hnext
 have hall:s.e.all (knw vs)=true:=List.all_eq_true.2 fun x hx=>by
  obtain⟨j,hj,rfl⟩:=List.getElem_of_mem hx;exact hI j hj hj
 unfold symT
 rw[hall,Bool.true_and]
 by_cases k1:s.kind=1
 ·rw[if_pos (by simp[k1])]
  refine wdG gT (AI @Int.lt_irrefl k1) ?_;refine bX [1] h1 TI BN02 NL ?_;refine goG gT TI ?_;refine wdG gT TI ?_;exact bO BN02
 by_cases k3:s.kind=3
 ·rw[if_pos (by simp[k3])]
  refine wdG gT (AI @Int.lt_irrefl k3) ?_;refine bX [1] h1 TI BN02 NL ?_;refine goG gT TI ?_;refine wdG gT TI ?_;exact bO BN02
 rw[if_neg (by simp[k1,k3])]
 by_cases k5:s.kind=5
 ·rw[if_pos (by simp[k5])]
  refine wdG gT (AI @Int.lt_irrefl k5) ?_;refine AR.callP h2 TI BN02 ?_;refine goG gT TI ?_;refine wdG gT TI ?_;exact bO BN02
 rw[if_neg (by simp[k5])]
 by_cases k12:s.kind=12
 ·rw[if_pos (by simp[k12])]
  refine wdG gT (AI @Int.lt_irrefl k12) ?_;refine dE h3 TI BN02 ?_;refine goG gT TI ?_;refine wdG gT TI ?_;exact bO BN02
 rw[if_neg (by simp[k12])]
 refine wdG gT (A5 @Int.lt_irrefl k1 k3 k5 k12) ?_
 exact bO BN02
def Kv:=AI @eU @dG
theorem HK{x:Ex}{r:Bool}(h:PC Tryz.prog 73 [exV x,(.im (.int .i64 (64)))] (.im (.bool (r)))):PC Tryz.prog 163 [exV x] (.im (.bool (!r))):=by
 refine PC.enter 6 Tryz.func163 rfl (by decide) rfl rfl (s:=[(0,exV x)]) (by rfl) ?_
 rw[bI x]at h ⊢
 refine wG Kv TI ?_
 refine AR.callP h TI BN02 ?_
 refine goG Kv TI ?_
 refine wG Kv TI ?_
 exact aC
theorem lI{P:Program}{N:Nat}{ops:Array Oper}{dr:Bool}{Q:Exit→St→Prop}{d:Option Tmp}{c:Operand}{args:Array Operand}{tys:Array TypeId}{ty:TypeId}{pos:String}{af:Array Edge}{g:Option (Nat×Bool)}{os:List Oper}{k:Nat}{s:List (Nat×V)}{l:List Ent}
  {acc:List (Nat×List Nat×List Nat)} {f:FuncId} {us vs xs xs':List V} {r r':V} {l0:List Ent} {F E M:Prop} (js:List Nat) (h:DC P f xs l0 r l0) (fa:F) (fi:E) (fr:M)
  (n:AR P ops dr Q os (k+1) ⟨dn N (eW s d r'),ofl l⟩ ((k,(fL js 0 l0).map Prod.fst,[])::acc)) (hg:gd ops ⟨d,.call {callee:= .value c,args:=args,argTypes:=tys},ty,pos,af,g⟩ ⟨dn N s,ofl l⟩=some true:=by rfl) (hc:St.ev ⟨dn N s,ofl l⟩ c= .fn (.func f) us vs:=by rfl)
  (hx:M→V.renL (gOf js) xs=xs':=by intro f;first|(simp only[SR,f];done)|(simp only[SR,f];with_reducible exact rfl)) (hr:M→V.ren (gOf js) r=r':=by intro f;first|(simp only[SR,f];done)|(simp only[SR,f];with_reducible exact rfl))
  (hw:F→WkL (us++args.toList.map (St.ev ⟨dn N s,ofl l⟩)++vs) xs':=by intro f;exact hX (by simp only[St.ev,V.ofVal,V.ofCell,V.size_im,fP,dA,iB,Nat.reduceLT,Nat.reduceEqDiff,reduceIte,if_true,if_false,List.map_cons,List.map_nil,List.nil_append,List.cons_append,List.append_nil,f])) (hi:E→V.idsL (ltB js.length) xs=true:=by intro f;first|rfl|simp only[List.length_cons,List.length_nil,Nat.reduceAdd,V.ids,V.idsL,idsA,entOk,List.all_cons,List.all_nil,Bool.and_self,Bool.and_true,Bool.true_and,ltB,noId,Nat.reduceLT,decide_true,Bool.true_eq_false,bR,bT,bS,bU,f])
  (hnd:decide js.Nodup=true:=by rfl) (h0:l0.length=js.length:=by rfl) (he:E→l0.all (entOk (ltB js.length))=true:=by intro f;first|rfl|simp only[List.length_cons,List.length_nil,Nat.reduceAdd,V.ids,V.idsL,idsA,entOk,List.all_cons,List.all_nil,Bool.and_self,Bool.and_true,Bool.true_and,ltB,noId,Nat.reduceLT,decide_true,Bool.true_eq_false,bR,bT,bS,bU,f])
  (hl:M→ ∀p∈fL js 0 l0,ofl l p.1=p.2:=by intro f p hp;simp only[fL,SR,Ent.ren,List.mem_cons,List.not_mem_nil,or_false,f]at hp;first|(rcases hp with rfl|rfl|rfl|rfl<;>rfl)|(rcases hp with rfl|rfl|rfl|rfl|rfl<;>rfl)|(rcases hp with rfl<;>rfl)|(rcases hp with rfl|rfl<;>rfl)|(rcases hp with rfl|rfl|rfl<;>rfl)) :
  AR P ops dr Q (⟨d,.call {callee:= .value c,args:=args,argTypes:=tys},ty,pos,af,g⟩::os) k ⟨dn N s,ofl l⟩ acc:=Qb js h hg hc (hx fr) (hr fr) (hw fa) (hi fi) hnd h0 (he fi) (hl fr) n
def chk1(vs:List Va)(fs ls sn:List ByteArray)(p:Nd×Bool):Int :=
 if !(p.1.e.all fun x=>esh x 64)then 20 else if !stT p.1 then 2 else if !symT vs fs ls p.1 then 17 else if(p.1.kind==10||p.1.kind==11)&& !p.2 then 21 else if p.1.kind==13&&sn.any (fun x=>eqS p.1.name x)then 8 else 0
def nxt(sn:List ByteArray)(p:Nd×Bool):List ByteArray:=if p.1.kind==13 then sn++[p.1.name]else sn
theorem JV{s:Nd}(h:stT s=true): ∀x∈s.e,efm x=true:=by
 unfold stT at h
 simp only[Bool.and_eq_true,List.all_eq_true]at h
 exact h.2
def bN:=A16 @iJ @cL @IY @gV @Ln @eC @mG @Tl @jN @Tg @iN @mE @gY @wT @Tf (A6 @gP @cK @IA @gU @Lc @dD)
set_option maxHeartbeats 1000000 in
theorem HJ(vs:List Va)(hv:vs.length≤4194304)(fs ls sn:List ByteArray)(hfs:fs.length≤4194304)(hls:ls.length≤4194304)(hsn:sn.length≤4194304)(p:Nd×Bool)(hf:fitN p.1) :
  DC Tryz.prog 97 [.pt 0 0,plV p] [.box [(V.fn (.func 154) [] [.pt 1 0]),.sl (fs.map tsV) .ro,.sl (ls.map tsV) (.own 2),.sl ((sn).map tsV) (.own 3)],.box [(V.sl (vs.map vaV) .ro)],.tip 9 1 ls.length,.tip 9 1 (sn).length] (.im (.int .i64 (chk1 vs fs ls sn p))) [.box [(V.fn (.func 154) [] [.pt 1 0]),.sl (fs.map tsV) .ro,.sl (ls.map tsV) (.own 2),.sl ((if chk1 vs fs ls sn p=0 then nxt sn p else sn).map tsV) (.own 3)],.box [(V.sl (vs.map vaV) .ro)],.tip 9 1 ls.length,.tip 9 1 (if chk1 vs fs ls sn p=0 then nxt sn p else sn).length]:=by
 obtain⟨s,lp⟩:=p
 obtain⟨hI,hsz,⟨he1,he2⟩,h4,h5,h6,h7⟩:=dN hf
 have h1:=nI (gs:=s.e) (F:=163) (fun x=> !esh x 64) he1 (fun t ht=>HK (Ed t (he2 t ht) 64 (by decide)))
 rw[←List.not_all_eq_any_not]at h1
 have h2:=Al s hf
 have h5:=pD sn hsn s.name
 unfold chk1
 simp only
 cases b1:s.e.all fun x=>esh x 64 with
 | false =>
  rw[b1]at h1;simp only[Bool.not_false,if_true,show ¬(20:Int)=0 by decide,if_false]
  refine DC.enter 62 Tryz.func97 rfl (by decide) rfl rfl (s:=[(0,.pt 0 0),(1,plV (s,lp))]) (by rfl) ?_
  simp only[mW];refine wG bN TI ?_;refine AR.callP h1 TI BN02 ?_;refine goG bN TI ?_;refine wG bN TI ?_;exact bO BN02
 | true =>
 rw[b1]at h1
 simp only[Bool.not_true,Bool.false_eq_true,if_false]
 cases b2:stT s with
 | false =>
  rw[b2]at h2;simp only[Bool.not_false,if_true,show ¬(2:Int)=0 by decide,if_false]
  refine DC.enter 62 Tryz.func97 rfl (by decide) rfl rfl (s:=[(0,.pt 0 0),(1,plV (s,lp))]) (by rfl) ?_
  simp only[mW];refine wG bN TI ?_;refine AR.callP h1 TI BN02 ?_;refine goG bN TI ?_;refine wG bN TI ?_;refine AR.callP h2 dZ BN02 ?_;refine goG bN TI ?_;refine wG bN TI ?_;exact bO BN02
 | true =>
 rw[b2]at h2
 simp only[Bool.not_true,Bool.false_eq_true,if_false]
 have h3:=Zh vs hv fs ls sn hfs hls s hf (JV b2)
 cases b3:symT vs fs ls s with
 | false =>
  rw[b3]at h3;simp only[Bool.not_false,if_true,show ¬(17:Int)=0 by decide,if_false]
  refine DC.enter 62 Tryz.func97 rfl (by decide) rfl rfl (s:=[(0,.pt 0 0),(1,plV (s,lp))]) (by rfl) ?_
  simp only[mW];refine wG bN TI ?_;refine AR.callP h1 TI BN02 ?_;refine goG bN TI ?_;refine wG bN TI ?_;refine AR.callP h2 dZ BN02 ?_;refine goG bN TI ?_;refine wG bN TI ?_;refine lI [0,1,2,3] h3 dZ BN02 Pz ?_;refine goG bN TI ?_;refine wG bN TI ?_;exact bO BN02
 | true =>
 rw[b3]at h3
 simp only[Bool.not_true,Bool.false_eq_true,if_false]
 by_cases k10:s.kind=10
 ·have e13:nxt sn (s,lp)=sn:=by simp[nxt,k10]
  cases lp with
  | false =>
   rw[if_pos (by simp[k10])]
   simp only[show ¬(21:Int)=0 by decide,if_false]
   refine DC.enter 62 Tryz.func97 rfl (by decide) rfl rfl (s:=[(0,.pt 0 0),(1,plV (s,false))]) (by rfl) ?_
   simp only[mW];refine wG bN TI ?_;refine AR.callP h1 TI BN02 ?_;refine goG bN TI ?_;refine wG bN TI ?_;refine AR.callP h2 dZ BN02 ?_;refine goG bN TI ?_;refine wG bN TI ?_;refine lI [0,1,2,3] h3 dZ BN02 Pz ?_;refine goG bN TI ?_;refine wG bN k10 ?_;exact bO BN02
  | true =>
   rw[if_neg (by simp),if_neg (by simp[k10])]
   simp only[if_true,e13];refine DC.enter 62 Tryz.func97 rfl (by decide) rfl rfl (s:=[(0,.pt 0 0),(1,plV (s,true))]) (by rfl) ?_
   simp only[mW];refine wG bN TI ?_;refine AR.callP h1 TI BN02 ?_;refine goG bN TI ?_;refine wG bN TI ?_;refine AR.callP h2 dZ BN02 ?_;refine goG bN TI ?_;refine wG bN TI ?_;refine lI [0,1,2,3] h3 dZ BN02 Pz ?_;refine goG bN TI ?_;refine wG bN k10 ?_;exact bO BN02
 by_cases k11:s.kind=11
 ·have e13:nxt sn (s,lp)=sn:=by simp[nxt,k11]
  cases lp with
  | false =>
   rw[if_pos (by simp[k11])]
   simp only[show ¬(21:Int)=0 by decide,if_false]
   refine DC.enter 62 Tryz.func97 rfl (by decide) rfl rfl (s:=[(0,.pt 0 0),(1,plV (s,false))]) (by rfl) ?_
   simp only[mW];refine wG bN TI ?_;refine AR.callP h1 TI BN02 ?_;refine goG bN TI ?_;refine wG bN TI ?_;refine AR.callP h2 dZ BN02 ?_;refine goG bN TI ?_;refine wG bN TI ?_;refine lI [0,1,2,3] h3 dZ BN02 Pz ?_;refine goG bN TI ?_;refine wG bN (AI k10 k11) ?_;exact bO BN02
  | true =>
   rw[if_neg (by simp),if_neg (by simp[k11])]
   simp only[if_true,e13];refine DC.enter 62 Tryz.func97 rfl (by decide) rfl rfl (s:=[(0,.pt 0 0),(1,plV (s,true))]) (by rfl) ?_
   simp only[mW];refine wG bN TI ?_;refine AR.callP h1 TI BN02 ?_;refine goG bN TI ?_;refine wG bN TI ?_;refine AR.callP h2 dZ BN02 ?_;refine goG bN TI ?_;refine wG bN TI ?_;refine lI [0,1,2,3] h3 dZ BN02 Pz ?_;refine goG bN TI ?_;refine wG bN (AI k10 k11) ?_;exact bO BN02
 rw[if_neg (by simp[k10,k11])]
 by_cases k13:s.kind=13
 case neg =>
  have e13:nxt sn (s,lp)=sn:=by simp[nxt,k13]
  rw[if_neg (by simp[k13])]
  simp only[if_true,e13];refine DC.enter 62 Tryz.func97 rfl (by decide) rfl rfl (s:=[(0,.pt 0 0),(1,plV (s,lp))]) (by rfl) ?_
  simp only[mW];refine wG bN TI ?_;refine AR.callP h1 TI BN02 ?_;refine goG bN TI ?_;refine wG bN TI ?_;refine AR.callP h2 dZ BN02 ?_;refine goG bN TI ?_;refine wG bN TI ?_;refine lI [0,1,2,3] h3 dZ BN02 Pz ?_;refine goG bN TI ?_;refine wG bN (A3 k10 k11 k13) ?_;exact bO BN02
 have e13:nxt sn (s,lp)=sn++[s.name]:=by simp[nxt,k13]
 cases b4:sn.any fun x=>eqS s.name x with
 | true =>
  rw[b4]at h5;rw[if_pos (by simp[k13])]
  simp only[show ¬(8:Int)=0 by decide,if_false]
  refine DC.enter 62 Tryz.func97 rfl (by decide) rfl rfl (s:=[(0,.pt 0 0),(1,plV (s,lp))]) (by rfl) ?_
  simp only[mW];refine wG bN TI ?_;refine AR.callP h1 TI BN02 ?_;refine goG bN TI ?_;refine wG bN TI ?_;refine AR.callP h2 dZ BN02 ?_;refine goG bN TI ?_;refine wG bN TI ?_;refine lI [0,1,2,3] h3 dZ BN02 Pz ?_;refine goG bN TI ?_;refine wdG bN (A3 k10 k11 k13) ?_;refine dE h5 TI BN02 ?_;refine goG bN TI ?_;refine wdG bN TI ?_;exact bO BN02
 | false =>
  rw[b4]at h5;rw[if_neg (by simp)]
  have hap:sn.map tsV++[.im (.string s.name)]=(sn++[s.name]).map tsV:=by simp[tsV]
  have hln:sn.length+1=(sn++[s.name]).length:=by simp
  have hA:(sn++[s.name]).length*16≤140737488355328:=by simp;omega
  simp only[if_true,e13];generalize sn++[s.name]=sn' at hap hln hA ⊢;refine DC.enter 62 Tryz.func97 rfl (by decide) rfl rfl (s:=[(0,.pt 0 0),(1,plV (s,lp))]) (by rfl) ?_
  simp only[mW];refine wG bN TI ?_;refine AR.callP h1 TI BN02 ?_;refine goG bN TI ?_;refine wG bN TI ?_;refine AR.callP h2 dZ BN02 ?_;refine goG bN TI ?_;refine wG bN TI ?_;refine lI [0,1,2,3] h3 dZ BN02 Pz ?_;refine goG bN TI ?_;refine wdG bN (A3 k10 k11 k13) ?_;refine dE h5 TI BN02 ?_;refine goG bN TI ?_;refine wdG bN (A4 hap hln hA @List.length_map.{0,0}) ?_;exact bO BN02
def labs(l:List (Nd×Bool)):List ByteArray:=l.flatMap fun p=>if p.1.kind==13 then [p.1.name]else []
theorem Yg{l:List (Nd×Bool)}{m:Nat}(h:m<l.length):labs (l.take (m+1))=if l[m].1.kind==13 then labs (l.take m)++[l[m].1.name]else labs (l.take m):=by
 unfold labs
 rw[←rP _ h]
 split<;>simp
def runS(vs:List Va)(fs ls:List ByteArray):List ByteArray→List (Nd×Bool)→Int
 | _,[]=>0
 | sn,p::r=>if chk1 vs fs ls sn p=0 then runS vs fs ls (nxt sn p) r else chk1 vs fs ls sn p
theorem Xt(vs:List Va)(fs ls sn:List ByteArray)(p:Nd×Bool)(r:List (Nd×Bool)):runS vs fs ls sn (p::r)=if chk1 vs fs ls sn p=0 then runS vs fs ls (nxt sn p) r else chk1 vs fs ls sn p:=rfl
def seenS:List ByteArray→List (Nd×Bool)→List ByteArray
 | sn,[]=>sn
 | sn,p::r=>seenS (nxt sn p) r
theorem Iy(sn:List ByteArray)(a b:List (Nd×Bool)):seenS sn (a++b)=seenS (seenS sn a) b:=by
 induction a generalizing sn with
 | nil=>rfl
 | cons x a ih=>exact ih _
theorem Xr(sn:List ByteArray)(l:List (Nd×Bool)):(seenS sn l).length≤sn.length+l.length:=by
 induction l generalizing sn with
 | nil=>exact Nat.le_refl _
 | cons x l ih =>
  have:=ih (nxt sn x);have h2:(nxt sn x).length≤sn.length+1:=by unfold nxt;split<;>simp
  simp only[seenS,List.length_cons];omega
theorem Np(l:List (Nd×Bool)):(labs l).length≤l.length:=by
 induction l with
 | nil=>exact Nat.le_refl _
 | cons x l ih =>
  unfold labs at ih ⊢;rw[List.flatMap_cons,List.length_append,List.length_cons];have:(if x.1.kind==13 then [x.1.name]else []).length≤1:=by split<;>simp
  omega
theorem Kk: ∀(l:List Nd),fitNL l→ ∀lp,∀p∈allL l lp,fitN p.1:=by
 refine mO fun l hl hf lp p hp=> ?_
 obtain⟨t,ht,hp⟩:=List.mem_flatMap.1 hp
 rw[Bk]at hp
 rcases List.mem_cons.1 hp with rfl|hp
 ·exact hf.2 t ht
 ·obtain⟨c,hc,hp⟩:=List.mem_flatMap.1 hp
  exact hl t ht c hc ((Dq (hf.2 t ht)).2 c hc) _ p hp
def bodyE(gs:List Va)(f:Fun)(fs:List ByteArray):Int :=
 if 256<gs.length+f.vars.length then 6 else if vErr gs f.vars≠0 then vErr gs f.vars else if 64<dep f.body then 20 else if 1024<cnt f.body then 6 else runS (gs++f.vars) fs (labs (allL f.body false)) [] (allL f.body false)
theorem jY(g:Nat→Nat)(x:Nd×Bool):V.ren g (plV x)=plV x:=V.ren_id g _ (fE _ x)
theorem PL:type_of%(A8 @tJ @qO @tH @tG @tI @qP @List.getElem?_map.{0,0} @Int.natCast_nonneg) :=
 A8 @tJ @qO @tH @tG @tI @qP @List.getElem?_map.{0,0} @Int.natCast_nonneg
def fN:=A16 @iJ @Py @lT @cL @jC @Ln @eC @IV @Fg @NK @mG @Tl @Ff @Pw @kC (A16 @jN @Ez @iN @mE @wT @qY @mD @oA @IG @gP @Et @kB @cK @iI @Lc (AI @dD @jM))
set_option maxHeartbeats 2000000 in
theorem SO(u:Un)(f:Fun)(fs:List ByteArray)(hg:u.globals.length≤2097152)(hv:f.vars.length≤2097152)(hvn:xQ f.vars)(hb:fitNL f.body)(hc:cnt f.body≤4194304)(hfs:fs.length≤4194304) :
  PC Tryz.prog 45 [unV u,fnV f,.sl (fs.map tsV) .ro] (.im (.int .i64 (bodyE u.globals f fs))):=by
 have h1:=xV u.globals f.vars (by omega) hvn
 have h2:=Vn f.body hb hc
 have h3:=OE f.body hb hc false
 have hlen:=Ej f.body false
 have hw:IntKind.i64.wrap ((u.globals.length:Int)+(f.vars.length:Int))=(u.globals.length:Int)+(f.vars.length:Int):=cU (by omega)
 unfold bodyE
 refine PC.enter 87 Tryz.func45 rfl (by decide) rfl rfl (s:=[(0,unV u),(1,fnV f),(2,.sl (fs.map tsV) .ro)]) (by rfl) ?_
 simp only[sZ,kU]
 by_cases b1:256<u.globals.length+f.vars.length
 ·have b1':(256:Int)<(u.globals.length:Int)+(f.vars.length:Int):=by omega
  rw[if_pos b1];refine wG fN (A3 hw b1' @List.length_map.{0,0}) ?_;exact aC
 have b1': ¬(256:Int)<(u.globals.length:Int)+(f.vars.length:Int):=by omega
 rw[if_neg b1]
 refine wG fN (A3 hw b1' @List.length_map.{0,0}) ?_
 refine AR.callP h1 TI BN06 ?_
 by_cases b2:vErr u.globals f.vars=0
 case neg =>
  rw[if_pos b2];refine goG fN b2 ?_;refine wG fN b2 ?_;exact aC
 rw[if_neg (by simp[b2])]
 rw[b2]
 refine goG fN TI ?_
 refine wG fN TI ?_
 refine AR.callP h2 TI BN06 ?_
 by_cases b3:64<dep f.body
 ·rw[if_pos b3]
  refine goG fN b3 ?_;refine wG fN b3 ?_;exact aC
 rw[if_neg b3]
 refine goG fN b3 ?_
 refine wG fN b3 ?_
 refine AR.callP h3 TI BN06 ?_
 by_cases b4:1024<cnt f.body
 ·have b4':(1024:Int)<(cnt f.body:Int):=by omega
  rw[if_pos b4];refine goG fN TI ?_;refine wG fN (A3 b4' @List.length_map.{0,0} hlen) ?_;exact aC
 have b4': ¬(1024:Int)<(cnt f.body:Int):=by omega
 rw[if_neg b4]
 refine goG fN TI ?_
 refine wG fN (A3 b4' @List.length_map.{0,0} hlen) ?_
 have h4:=Zx (xss:=[u.globals.map vaV,f.vars.map vaV]) (by simp) (by
  intro xs hx;simp only[List.mem_cons,List.not_mem_nil,or_false]at hx;rcases hx with rfl|rfl
  ·exact Ip _
  ·exact Ip _) (by
  intro p xs hx;simp only[List.mem_cons,List.not_mem_nil,or_false]at hx;rcases hx with rfl|rfl
  ·exact aL _ _
  ·exact aL _ _) (by simp;omega)
 have e1:[u.globals.map vaV,f.vars.map vaV].flatten=(u.globals++f.vars).map vaV:=by simp
 rw[e1]at h4
 simp only[List.map_cons,List.map_nil]at h4
 have h5:=Vq (u.globals++f.vars)
 have hvs:(u.globals++f.vars).length≤4194304:=by rw[List.length_append];omega
 generalize u.globals++f.vars=vs at h4 h5 hvs ⊢
 have hfa:=Kk f.body hb false
 have hlb:=Np (allL f.body false)
 generalize allL f.body false=its at h3 hlen hfa hlb ⊢
 refine dE h4 TI BN06 ?_
 refine goG fN TI ?_
 refine aA [2] h5 TI BN06 (A9 @aR @aS @bF @bD iW bK bM cA jY) ?_
 refine goG fN TI ?_
 refine wG fN @List.length_map.{0,0} ?_
 rw[←hlen]at b4
 clear h1 h2 h3 h4 h5 hw b1 b1' b2 b3 b4' hlen hvn
 refine aV ?_
 refine ALp.ghostB 3 2 [(V.fn (.func 154) [] [.pt 2 0]),.sl (fs.map tsV) .ro,.sl [] .nl,.sl [] .nl] 9 1 ?_
 have hlbl: ∀m,(labs (its.take m)).length≤its.length:=fun m=>by
  have:=Np (its.take m);rw[List.length_take]at this;omega
 refine ALp.cutP 5 [(8,.sl (its.map plV) .ro),(9,.pt 3 0),(51,.sl (its.map plV) .ro),(52,(.im (.int .i64 (its.length)))),(53,(.im (.int .i64 ((((0:Nat)):Int)))))] [.box [.sl (u.globals.map vaV) .ro,.sl (u.data.map scV) .ro,.sl (u.funcs.map fnV) .ro],.box [.im (.string f.name),.sl (f.vars.map vaV) .ro,.sl (f.body.map ndV) .ro],.box [.sl (vs.map vaV) .ro],.box [(V.fn (.func 154) [] [.pt 2 0]),.sl (fs.map tsV) .ro,.sl ((labs (its.take (0))).map tsV) (.own 4),.sl [] .nl],.tip 9 1 (labs (its.take (0))).length] BN06 ?_
 refine ALp.upto its.length (fun _=>True) (fun m=>⟨dn 87 [(8,.sl (its.map plV) .ro),(9,.pt 3 0),(51,.sl (its.map plV) .ro),(52,(.im (.int .i64 (its.length)))),(53,(.im (.int .i64 ((((m:Nat)):Int)))))],ofl [.box [.sl (u.globals.map vaV) .ro,.sl (u.data.map scV) .ro,.sl (u.funcs.map fnV) .ro],.box [.im (.string f.name),.sl (f.vars.map vaV) .ro,.sl (f.body.map ndV) .ro],.box [.sl (vs.map vaV) .ro],.box [(V.fn (.func 154) [] [.pt 2 0]),.sl (fs.map tsV) .ro,.sl ((labs (its.take (m))).map tsV) (.own 4),.sl [] .nl],.tip 9 1 (labs (its.take (m))).length]⟩) ?_ 0 (Nat.zero_le _) trivial
 intro m hm _ hnext
 by_cases hlt:m<its.length
 ·have hlt':(m:Int)<(its.length:Int):=by omega
  have hm1:=aP hlt (by omega)
  have hg:=bE hlt;have hst:=Yg hlt
  by_cases k13:its[m].1.kind=13
  ·rw[if_pos (by simp[k13])]at hst
   have hap:(labs (its.take m)).map tsV++[.im (.string its[m].1.name)]=(labs (its.take (m+1))).map tsV:=by rw[hst];simp[tsV]
   have hln:(labs (its.take m)).length+1=(labs (its.take (m+1))).length:=by rw[hst];simp
   have hA:(labs (its.take (m+1))).length*16≤140737488355328:=by have:=hlbl (m+1);omega
   clear hst;refine wdG fN (A9 hlt' hg k13 hap hln hA hm1 @List.length_map.{0,0} PL) ?_;refine ALp.cutP 5 [(8,.sl (its.map plV) .ro),(9,.pt 3 0),(51,.sl (its.map plV) .ro),(52,(.im (.int .i64 (its.length)))),(53,(.im (.int .i64 ((((m+1:Nat)):Int)))))] [.box [.sl (u.globals.map vaV) .ro,.sl (u.data.map scV) .ro,.sl (u.funcs.map fnV) .ro],.box [.im (.string f.name),.sl (f.vars.map vaV) .ro,.sl (f.body.map ndV) .ro],.box [.sl (vs.map vaV) .ro],.box [(V.fn (.func 154) [] [.pt 2 0]),.sl (fs.map tsV) .ro,.sl ((labs (its.take (m+1))).map tsV) (.own 4),.sl [] .nl],.tip 9 1 (labs (its.take (m+1))).length] BN06 ?_;exact hnext (m+1) (by omega) (by omega) trivial
  ·rw[if_neg (by simp[k13])]at hst
   refine wdG fN (A5 hlt' hg k13 hm1 PL) ?_;rw[←hst];refine ALp.cutP 5 [(8,.sl (its.map plV) .ro),(9,.pt 3 0),(51,.sl (its.map plV) .ro),(52,(.im (.int .i64 (its.length)))),(53,(.im (.int .i64 ((((m+1:Nat)):Int)))))] [.box [.sl (u.globals.map vaV) .ro,.sl (u.data.map scV) .ro,.sl (u.funcs.map fnV) .ro],.box [.im (.string f.name),.sl (f.vars.map vaV) .ro,.sl (f.body.map ndV) .ro],.box [.sl (vs.map vaV) .ro],.box [(V.fn (.func 154) [] [.pt 2 0]),.sl (fs.map tsV) .ro,.sl ((labs (its.take (m+1))).map tsV) (.own 4),.sl [] .nl],.tip 9 1 (labs (its.take (m+1))).length] BN06 ?_;exact hnext (m+1) (by omega) (by omega) trivial
 obtain rfl:m=its.length:=by omega
 clear hnext hlbl
 rw[List.take_length]
 refine whG fN @Int.lt_irrefl ?_
 refine Blk'.here (Thn.n ?_)
 generalize labs its=ls at hlb ⊢
 refine wG fN @List.length_map.{0,0} ?_
 refine aV ?_
 refine ALp.ghostB 3 3 [(V.fn (.func 154) [] [.pt 2 0]),.sl (fs.map tsV) .ro,.sl (ls.map tsV) (.own 4),.sl [] .nl] 9 1 ?_
 refine ALp.cutP 6 [(9,.pt 3 0),(74,.sl (its.map plV) .ro),(75,(.im (.int .i64 (its.length)))),(76,(.im (.int .i64 ((((0:Nat)):Int)))))] [.box [.sl (u.globals.map vaV) .ro,.sl (u.data.map scV) .ro,.sl (u.funcs.map fnV) .ro],.box [.im (.string f.name),.sl (f.vars.map vaV) .ro,.sl (f.body.map ndV) .ro],.box [.sl (vs.map vaV) .ro],.box [(V.fn (.func 154) [] [.pt 2 0]),.sl (fs.map tsV) .ro,.sl (ls.map tsV) (.own 4),.sl ((seenS [] (its.take (0))).map tsV) (.own 5)],.tip 9 1 ls.length,.tip 9 1 (seenS [] (its.take (0))).length] BN06 ?_
 refine ALp.upto its.length (fun m=>runS vs fs ls (seenS [] (its.take m)) (its.drop m)=runS vs fs ls [] its) (fun m=>⟨dn 87 [(9,.pt 3 0),(74,.sl (its.map plV) .ro),(75,(.im (.int .i64 (its.length)))),(76,(.im (.int .i64 ((((m:Nat)):Int)))))],ofl [.box [.sl (u.globals.map vaV) .ro,.sl (u.data.map scV) .ro,.sl (u.funcs.map fnV) .ro],.box [.im (.string f.name),.sl (f.vars.map vaV) .ro,.sl (f.body.map ndV) .ro],.box [.sl (vs.map vaV) .ro],.box [(V.fn (.func 154) [] [.pt 2 0]),.sl (fs.map tsV) .ro,.sl (ls.map tsV) (.own 4),.sl ((seenS [] (its.take (m))).map tsV) (.own 5)],.tip 9 1 ls.length,.tip 9 1 (seenS [] (its.take (m))).length]⟩) ?_ 0 (Nat.zero_le _) rfl
 intro m hm hV hnext
 rw[←hV]
 by_cases hlt:m<its.length
 ·have hlt':(m:Int)<(its.length:Int):=by omega
  have hm1:=aP hlt (by omega)
  have hg:=bE hlt;have hsl:=Xr [] (its.take m);rw[List.length_take]at hsl;simp only[List.length_nil]at hsl
  have hsn:nxt (seenS [] (its.take m)) its[m]=seenS [] (its.take (m+1)):=by
   rw[List.take_succ_eq_append_getElem hlt,Iy];rfl
  have hc:=HJ vs hvs fs ls (seenS [] (its.take m)) hfs (by omega) (by omega) its[m] (hfa _ (List.getElem_mem hlt))
  have hd:its.drop m=its[m]::its.drop (m+1):=List.drop_eq_getElem_cons hlt;rw[hd]at hV ⊢;rw[Xt]at hV ⊢
  by_cases b:chk1 vs fs ls (seenS [] (its.take m)) its[m]=0
  ·rw[if_pos b]at hV ⊢
   rw[b,if_pos rfl,hsn]at hc;rw[hsn]at hV ⊢;refine wG fN (A3 hlt' hg PL) ?_;refine AR.callS [3,2,4,5] hc rfl rfl (by first|(simp only[SR,aR,aS,bF,bD,iW,bK,bM,cA,jY];done)|(simp only[SR,aR,aS,bF,bD,iW,bK,bM,cA,jY];with_reducible exact rfl)) (by first|(simp only[SR,aR,aS,bF,bD,iW,bK,bM,cA,jY];done)|(simp only[SR,aR,aS,bF,bD,iW,bK,bM,cA,jY];with_reducible exact rfl)) (hX (by simp only[St.ev,V.ofVal,V.ofCell,V.size_im,fP,dA,iB,Nat.reduceLT,Nat.reduceEqDiff,reduceIte,if_true,if_false,List.map_cons,List.map_nil,List.nil_append,List.cons_append,List.append_nil,mW])) (by first|rfl|simp only[List.length_cons,List.length_nil,Nat.reduceAdd,V.ids,V.idsL,idsA,entOk,List.all_cons,List.all_nil,Bool.and_self,Bool.and_true,Bool.true_and,ltB,noId,Nat.reduceLT,decide_true,Bool.true_eq_false,bR,bT,bS,bU,aD,aL,aE,aO,oB,aH,aI,aT,dQ,fE,fM,lV]) rfl rfl rfl (by first|rfl|simp only[List.length_cons,List.length_nil,Nat.reduceAdd,V.ids,V.idsL,idsA,entOk,List.all_cons,List.all_nil,Bool.and_self,Bool.and_true,Bool.true_and,ltB,noId,Nat.reduceLT,decide_true,Bool.true_eq_false,bR,bT,bS,bU,aD,aL,aE,aO,oB,aH,aI,aT,dQ,fE,fM,lV]) (by intro p hp;simp only[fL,SR,Ent.ren,List.mem_cons,List.not_mem_nil,or_false,aR,aS,bF,bD,iW,bK,bM,cA,jY]at hp;rcases hp with rfl|rfl|rfl|rfl<;>rfl) (by simp only[fL,Ent.ren,SR,aR,aS,bF,bD,iW,bK,bM,cA,jY,wrl,putE,SC,SD,Nat.reduceBEq,Nat.reduceLT,Nat.reduceSub,Nat.reduceAdd,Nat.reduceMul,Nat.reduceLeDiff,Nat.reduceEqDiff,reduceCtorEq,Int.reduceLT,Int.reduceLE,Int.reduceEq,Int.reduceNe,Int.reduceBEq,Int.reduceBNe,Int.reduceAdd,Int.reduceSub,Int.reduceMul,Int.reduceToNat];with_reducible exact rfl) ?_
   refine goG fN TI ?_;refine wG fN hm1 ?_;refine ALp.cutP 6 [(9,.pt 3 0),(74,.sl (its.map plV) .ro),(75,(.im (.int .i64 (its.length)))),(76,(.im (.int .i64 ((((m+1:Nat)):Int)))))] [.box [.sl (u.globals.map vaV) .ro,.sl (u.data.map scV) .ro,.sl (u.funcs.map fnV) .ro],.box [.im (.string f.name),.sl (f.vars.map vaV) .ro,.sl (f.body.map ndV) .ro],.box [.sl (vs.map vaV) .ro],.box [(V.fn (.func 154) [] [.pt 2 0]),.sl (fs.map tsV) .ro,.sl (ls.map tsV) (.own 4),.sl ((seenS [] (its.take (m+1))).map tsV) (.own 5)],.tip 9 1 ls.length,.tip 9 1 (seenS [] (its.take (m+1))).length] BN06 ?_;rw[hV];exact hnext (m+1) (by omega) (by omega) hV
  ·rw[if_neg b]
   rw[if_neg b]at hc;refine wG fN (A3 hlt' hg PL) ?_;refine AR.callS [3,2,4,5] hc rfl rfl (by first|(simp only[SR,aR,aS,bF,bD,iW,bK,bM,cA,jY];done)|(simp only[SR,aR,aS,bF,bD,iW,bK,bM,cA,jY];with_reducible exact rfl)) (by first|(simp only[SR,aR,aS,bF,bD,iW,bK,bM,cA,jY];done)|(simp only[SR,aR,aS,bF,bD,iW,bK,bM,cA,jY];with_reducible exact rfl)) (hX (by simp only[St.ev,V.ofVal,V.ofCell,V.size_im,fP,dA,iB,Nat.reduceLT,Nat.reduceEqDiff,reduceIte,if_true,if_false,List.map_cons,List.map_nil,List.nil_append,List.cons_append,List.append_nil,mW])) (by first|rfl|simp only[List.length_cons,List.length_nil,Nat.reduceAdd,V.ids,V.idsL,idsA,entOk,List.all_cons,List.all_nil,Bool.and_self,Bool.and_true,Bool.true_and,ltB,noId,Nat.reduceLT,decide_true,Bool.true_eq_false,bR,bT,bS,bU,aD,aL,aE,aO,oB,aH,aI,aT,dQ,fE,fM,lV]) rfl rfl rfl (by first|rfl|simp only[List.length_cons,List.length_nil,Nat.reduceAdd,V.ids,V.idsL,idsA,entOk,List.all_cons,List.all_nil,Bool.and_self,Bool.and_true,Bool.true_and,ltB,noId,Nat.reduceLT,decide_true,Bool.true_eq_false,bR,bT,bS,bU,aD,aL,aE,aO,oB,aH,aI,aT,dQ,fE,fM,lV]) (by intro p hp;simp only[fL,SR,Ent.ren,List.mem_cons,List.not_mem_nil,or_false,aR,aS,bF,bD,iW,bK,bM,cA,jY]at hp;rcases hp with rfl|rfl|rfl|rfl<;>rfl) (by simp only[fL,Ent.ren,SR,aR,aS,bF,bD,iW,bK,bM,cA,jY,wrl,putE,SC,SD,Nat.reduceBEq,Nat.reduceLT,Nat.reduceSub,Nat.reduceAdd,Nat.reduceMul,Nat.reduceLeDiff,Nat.reduceEqDiff,reduceCtorEq,Int.reduceLT,Int.reduceLE,Int.reduceEq,Int.reduceNe,Int.reduceBEq,Int.reduceBNe,Int.reduceAdd,Int.reduceSub,Int.reduceMul,Int.reduceToNat];with_reducible exact rfl) ?_
   refine goG fN b ?_;refine wG fN b ?_;exact aC
 obtain rfl:m=its.length:=by omega
 clear hnext
 rw[List.drop_length]
 refine wG fN @Int.lt_irrefl ?_
 exact aC
def pG:=A3 @Bx @nQ @pI
theorem Ke:Catch Tryz.prog 76 61:=by
 refine Catch.of (N:=19) Tryz.func76 rfl (by decide) rfl rfl rfl Tryz.results76 (fun u v a b=> ?_) (fun u v=> ?_)
 ·refine wG pG TI ?_
  refine uH false ?_;refine goG pG TI ?_;refine wG pG TI ?_;refine Tm ?_;refine goG pG TI ?_;refine wG pG TI ?_;exact⟨rfl,rfl⟩
 ·refine wG pG TI ?_
  refine uH true ?_;refine goG pG TI ?_;refine wG pG TI ?_;exact⟨rfl,rfl⟩
def prsV{α:Type}(val:α→V)(zero:V):Rs α→V
 | .ok x _ _=> .tu [val x,.ag [(.im (.int .i64 (0))),(.im (.int .i64 (0)))]]
 | .bad b e=> .tu [zero,.ag [(.im (.int .i64 ((b:Nat)))),(.im (.int .i64 (e)))]]
def xY:=A3 @eU @kD @dG
def qB:=A4 aZ bC @aE @aD
def Eo:=A4 eY eZ @aR @aS
theorem Vj{ts:List Tk}(hts:ts.length≤4194304)(f:Nat)(r:Rs Ex)(h:exM ts f (.ex 1) 0 0=some r):XC Tryz.prog 58 [.pt 0 0] ts 0 0 exV r:=by
 cases r with
 | bad b e =>
  refine XC.enter 5 Tryz.func58 rfl (by decide) rfl rfl (s:=[(0,.pt 0 0)]) (by rfl) ?_
  refine wG xY TI ?_;exact PA.callP [0] ((vS hts f 1 0 0 (by decide) (by decide) _ h).fails) i1 qB Eo (fun _=>PFin.i rfl rfl)
 | ok x b p =>
  refine XC.enter 5 Tryz.func58 rfl (by decide) rfl rfl (s:=[(0,.pt 0 0)]) (by rfl) ?_
  refine wG xY TI ?_;refine aA [0] ((vS hts f 1 0 0 (by decide) (by decide) _ h).good) i1 qB Eo ?_
  refine goG xY BN01 ?_;refine wG xY BN01 ?_;refine aQ (rs:=[.cell 2 46]) rfl (by first|exact .inl rfl|exact .inr rfl) (finG xY) ?_ rfl (idG qB)
  rw[bI x]
  all_goals exact wkG qB
def nJ:=A14 @cL @eU @Bx @Fh @kD @nQ @pM @fK @Eu @Bu @gX @cK @dG @pI
theorem Hy{ts:List Tk}(hts:ts.length≤4194304)(f:Nat)(z:Rs Ex)(hz:allM ts (exM ts f (.ex 1) 0 0)=some z):PC Tryz.prog 57 [.sl (ts.map tkV) .ro,.fn (.func 58) [] []] (prsV exV (exV (.mk 0 0 ByteArray.empty 0 [])) z):=by
 refine wM (s:=[(0,.sl (ts.map tkV) .ro),(1,.fn (.func 58) [] [])]) (s1:=[(0,.sl (ts.map tkV) .ro),(1,.fn (.func 58) [] []),(4,.pt 0 0),(5,.pt 1 0)]) (l1:=[.box [(.im (.int .i64 (0))),.im (.int .u32 0),.im (.string ByteArray.empty),(.im (.int .i64 (0))),.sl [] .nl],.box [(.im (.int .i64 (0))),(.im (.int .i64 (0)))]]) 1 25 Ke Tryz.func57 rfl (by decide) rfl rfl rfl ?_ rfl ?_
 ·rw[Qt]
  refine goG nJ TI ?_;exact⟨(fun e=>by cases e),rfl,rfl⟩
 rcases aW hz with ⟨b1,e1,h1,rfl⟩|⟨x,a1,o1,h1,h⟩
 ·refine wG nJ TI ?_
  refine PA.callS [2] ((Vj hts f _ h1).fails) TI qB Eo ?_;show FinD _ _ _ _ _ _ ⟨_,ofl [.box [(.im (.int .i64 (0))),.im (.int .u32 0),.im (.string ByteArray.empty),(.im (.int .i64 (0))),.sl [] .nl],.box [(.im (.int .i64 (0))),(.im (.int .i64 (0)))],.box (List.replicate 3 .dead)]⟩
  refine FinD.pan 1 (by simp) rfl ?_
  refine aG (rs:=[.cell 4 46,.cell 5 61]) rfl (by first|exact .inl rfl|exact .inr rfl) (finG nJ) ?_
  all_goals exact wkG qB
 refine wG nJ TI ?_
 refine aA [2] ((Vj hts f _ h1).good) TI qB Eo ?_
 refine goG nJ BN01 ?_
 rcases aK h with ⟨hlt,h⟩|⟨hlt,h⟩
 ·have hl:(a1:Int)<(ts.length:Int):=by omega
  cases h
  refine wG nJ (AI hl @List.length_map.{0,0}) ?_;refine PA.callS [2] (nA ts a1 o1 3) TI qB Eo ?_;show FinD _ _ _ _ _ _ ⟨_,ofl [.box [(.im (.int .i64 (0))),.im (.int .u32 0),.im (.string ByteArray.empty),(.im (.int .i64 (0))),.sl [] .nl],.box [(.im (.int .i64 (0))),(.im (.int .i64 (0)))],.box (List.replicate 3 .dead),_]⟩
  refine FinD.pan 1 (by simp) rfl ?_
  refine aG (rs:=[.cell 4 46,.cell 5 61]) rfl (by first|exact .inl rfl|exact .inr rfl) (finG nJ) ?_
  all_goals exact wkG qB
 ·have hl: ¬(a1:Int)<(ts.length:Int):=by omega
  cases h
  refine wG nJ (A3 hl @List.length_map.{0,0} BN01) ?_;refine FinD.ret 1 rfl ?_;refine aG (rs:=[.cell 4 46,.cell 5 61]) rfl (by first|exact .inl rfl|exact .inr rfl) (finG nJ) ?_
  show WkF _ _ _ (.tu [exV x,.ag [(.im (.int .i64 (0))),(.im (.int .i64 (0)))]]);rw[bI x]
  all_goals exact wkG qB
def nK:=A14 @cL @sL @Bx @Fh @vQ @nQ @pM @fK @Eu @Bu @gX @cK @nN @pI
def nC:=A10 aZ bC @aO @aL hU fM tQ lV aH Cb
def zU:=A10 eY eZ @bF @bD oT rK Uu Uv bK JJ
theorem Hx{ts:List Tk}(hts:ts.length≤4194304)(hok: ∀t∈ts,TkOk t)(f:Nat)(z:Rs Fun)(hz:allM ts (funM ts f 0 0)=some z):PC Tryz.prog 51 [.sl (ts.map tkV) .ro,.fn (.func 52) [] []] (prsV fnV (fnV ⟨ByteArray.empty,[],[]⟩) z):=by
 refine wM (s:=[(0,.sl (ts.map tkV) .ro),(1,.fn (.func 52) [] [])]) (s1:=[(0,.sl (ts.map tkV) .ro),(1,.fn (.func 52) [] []),(4,.pt 0 0),(5,.pt 1 0)]) (l1:=[.box [.im (.string ByteArray.empty),.sl [] .nl,.sl [] .nl],.box [(.im (.int .i64 (0))),(.im (.int .i64 (0)))]]) 1 25 Ke Tryz.func51 rfl (by decide) rfl rfl rfl ?_ rfl ?_
 ·rw[Qt]
  refine goG nK TI ?_;exact⟨(fun e=>by cases e),rfl,rfl⟩
 rcases aW hz with ⟨b1,e1,h1,rfl⟩|⟨x,a1,o1,h1,h⟩
 ·refine wG nK TI ?_
  refine PA.callS [2] ((Bi hts hok 0 0 (by decide) _ h1).fails) TI nC zU ?_
  show FinD _ _ _ _ _ _ ⟨_,ofl [.box [.im (.string ByteArray.empty),.sl [] .nl,.sl [] .nl],.box [(.im (.int .i64 (0))),(.im (.int .i64 (0)))],.box (List.replicate 3 .dead)]⟩
  refine FinD.pan 1 (by simp) rfl ?_
  refine aG (rs:=[.cell 4 37,.cell 5 61]) rfl (by first|exact .inl rfl|exact .inr rfl) (finG nK) ?_
  all_goals exact wkG nC
 refine wG nK TI ?_
 refine aA [2] ((Bi hts hok 0 0 (by decide) _ h1).good) TI nC zU ?_
 refine goG nK FU ?_
 rcases aK h with ⟨hlt,h⟩|⟨hlt,h⟩
 ·have hl:(a1:Int)<(ts.length:Int):=by omega
  cases h
  refine wG nK (AI hl @List.length_map.{0,0}) ?_;refine PA.callS [2] (nA ts a1 o1 3) TI nC zU ?_;show FinD _ _ _ _ _ _ ⟨_,ofl [.box [.im (.string ByteArray.empty),.sl [] .nl,.sl [] .nl],.box [(.im (.int .i64 (0))),(.im (.int .i64 (0)))],.box (List.replicate 3 .dead),_]⟩
  refine FinD.pan 1 (by simp) rfl ?_
  refine aG (rs:=[.cell 4 37,.cell 5 61]) rfl (by first|exact .inl rfl|exact .inr rfl) (finG nK) ?_
  all_goals exact wkG nC
 ·have hl: ¬(a1:Int)<(ts.length:Int):=by omega
  cases h
  refine wG nK (A3 hl @List.length_map.{0,0} FU) ?_;refine FinD.ret 1 rfl ?_;refine aG (rs:=[.cell 4 37,.cell 5 61]) rfl (by first|exact .inl rfl|exact .inr rfl) (finG nK) ?_
  show WkF _ _ _ (.tu [fnV x,.ag [(.im (.int .i64 (0))),(.im (.int .i64 (0)))]]);rw[kU x]
  all_goals exact wkG nC
def UNT:=A6 @BI @Wp @BG @BF @BH @Wq
def nL:=A14 @yM @cL @Bx @Fh @yK @nQ @pM @fK @Eu @Bu @gX @vI @cK @pI
theorem vD{ts:List Tk}(hts:ts.length≤4194304)(hok: ∀t∈ts,TkOk t)(f:Nat)(z:Rs Un)(hz:allM ts (uniM ts f ⟨[],[],[]⟩ 0 0)=some z):PC Tryz.prog 33 [.sl (ts.map tkV) .ro,.fn (.func 34) [] []] (prsV unV (unV ⟨[],[],[]⟩) z):=by
 refine wM (s:=[(0,.sl (ts.map tkV) .ro),(1,.fn (.func 34) [] [])]) (s1:=[(0,.sl (ts.map tkV) .ro),(1,.fn (.func 34) [] []),(4,.pt 0 0),(5,.pt 1 0)]) (l1:=[.box [.sl [] .nl,.sl [] .nl,.sl [] .nl],.box [(.im (.int .i64 (0))),(.im (.int .i64 (0)))]]) 1 25 Ke Tryz.func33 rfl (by decide) rfl rfl rfl ?_ rfl ?_
 ·rw[Qt]
  refine goG nL TI ?_;exact⟨(fun e=>by cases e),rfl,rfl⟩
 rcases aW hz with ⟨b1,e1,h1,rfl⟩|⟨x,a1,o1,h1,h⟩
 ·refine wG nL TI ?_
  refine PA.callS [2] ((GJ hts hok _ h1).fails) TI nC zU ?_;show FinD _ _ _ _ _ _ ⟨_,ofl [.box [.sl [] .nl,.sl [] .nl,.sl [] .nl],.box [(.im (.int .i64 (0))),(.im (.int .i64 (0)))],.box (List.replicate 3 .dead)]⟩
  refine FinD.pan 1 (by simp) rfl ?_
  refine aG (rs:=[.cell 4 27,.cell 5 61]) rfl (by first|exact .inl rfl|exact .inr rfl) (finG nL) ?_
  all_goals exact wkG nC
 refine wG nL TI ?_
 refine aA [2] ((GJ hts hok _ h1).good) TI nC zU ?_
 refine goG nL UNT ?_
 rcases aK h with ⟨hlt,h⟩|⟨hlt,h⟩
 ·have hl:(a1:Int)<(ts.length:Int):=by omega
  cases h
  refine wG nL (AI hl @List.length_map.{0,0}) ?_;refine PA.callS [2] (nA ts a1 o1 3) TI nC zU ?_;show FinD _ _ _ _ _ _ ⟨_,ofl [.box [.sl [] .nl,.sl [] .nl,.sl [] .nl],.box [(.im (.int .i64 (0))),(.im (.int .i64 (0)))],.box (List.replicate 3 .dead),_]⟩
  refine FinD.pan 1 (by simp) rfl ?_
  refine aG (rs:=[.cell 4 27,.cell 5 61]) rfl (by first|exact .inl rfl|exact .inr rfl) (finG nL) ?_
  all_goals exact wkG nC
 ·have hl: ¬(a1:Int)<(ts.length:Int):=by omega
  cases h
  refine wG nL (A3 hl @List.length_map.{0,0} UNT) ?_;refine FinD.ret 1 rfl ?_;refine aG (rs:=[.cell 4 27,.cell 5 61]) rfl (by first|exact .inl rfl|exact .inr rfl) (finG nL) ?_
  show WkF _ _ _ (.tu [unV x,.ag [(.im (.int .i64 (0))),(.im (.int .i64 (0)))]]);rw[sZ x]
  all_goals exact wkG nC
def Jv(k:Int):V:=if k=0 then .im .nilIface else .ifc
theorem KG(b:Nat)(s:Bs): ∀a,(puF b a s).2=0∨(puF b a s).2=1∨(puF b a s).2=2:=by
 induction s with
 | nil=>intro a;exact .inl rfl
 | cons c r ih =>
  intro a;unfold puF;split
  ·exact .inr (.inr rfl)
  ·split
   ·exact .inr (.inr rfl)
   ·split
    ·exact .inr (.inl rfl)
    ·exact ih _
theorem Ub(b:Nat)(s:Bs):(puR b s).2=0∨(puR b s).2=1∨(puR b s).2=2:=by
 unfold puR
 split
 ·exact .inr (.inr rfl)
 ·exact KG b s 0
theorem OC(s:Bs)(b:Int)(n k:Int)(hs:s.length≤4194304)(hk:k=0∨k=1∨k=2)(h:PC Tryz.prog 266 [.im (.string ⟨(s).toArray⟩),(.im (.int .i64 (b))),(.im (.int .i64 (32)))] (.tu [.im (.int .u64 (n)),FX k])):PC Tryz.prog 245 [.im (.string ⟨(s).toArray⟩),(.im (.int .i64 (b))),(.im (.int .i64 (32)))] (.tu [.im (.int .u64 (n)),Jv k]):=by
 refine PC.enter 26 Tryz.func245 rfl (by decide) rfl rfl (s:=[(0,.im (.string ⟨(s).toArray⟩)),(1,(.im (.int .i64 (b)))),(2,(.im (.int .i64 (32))))]) (by rfl) ?_
 rcases hk with rfl|hk
 ·rw[show FX 0= .im .nilIface from rfl]at h
  rw[show Jv 0= .im .nilIface from rfl]
  refine wG TI TI ?_;refine AR.callP h TI TI ?_;refine goG TI TI ?_;refine wG TI TI ?_;refine uH true ?_;refine goG TI TI ?_;refine wG TI TI ?_;refine aG (rs:=[.tmp 6,.tmp 7]) rfl (by first|exact .inl rfl|exact .inr rfl) (finG TI) ?_
  all_goals exact wkG TI
 ·have h0:k≠0:=by omega
  rw[show FX k= .im (.iface 291 (.int .i64 k))from if_neg h0]at h
  rw[show Jv k= .ifc from if_neg h0]
  refine wG TI TI ?_;refine AR.callP h TI TI ?_;refine goG TI TI ?_;refine wG TI TI ?_;refine uH false ?_;refine goG TI TI ?_;refine wG TI TI ?_;refine AR.callP ((MG k hk ⟨#[80,97,114,115,101,85,105,110,116]⟩ ⟨s.toArray⟩ b 32 (by show s.toArray.size≤_;simpa using hs))) TI TI ?_
  refine goG TI TI ?_;refine wG TI TI ?_;refine aG (rs:=[.tmp 6,.tmp 7]) rfl (by first|exact .inl rfl|exact .inr rfl) (finG TI) ?_
  all_goals exact wkG TI
theorem SE(s:Bs)(hs:s.length≤4194304):PC Tryz.prog 245 [.im (.string ⟨(s).toArray⟩),(.im (.int .i64 (10))),(.im (.int .i64 (32)))] (.tu [.im (.int .u64 (((puR 10 s).1:Int))),Jv (puR 10 s).2]):=OC s 10 _ _ hs (Ub 10 s) (RY s hs)
theorem RZ(s:Bs)(hs:s.length≤4194304):PC Tryz.prog 245 [.im (.string ⟨(s).toArray⟩),(.im (.int .i64 (16))),(.im (.int .i64 (32)))] (.tu [.im (.int .u64 (((puR 16 s).1:Int))),Jv (puR 16 s).2]):=OC s 16 _ _ hs (Ub 16 s) (RX s hs)
theorem DU(b:Nat)(s:Bs): ∀a,a≤4294967295→(puF b a s).1≤4294967295:=by
 induction s with
 | nil=>intro a h;exact h
 | cons c r ih =>
  intro a h;unfold puF;split
  ·exact Nat.zero_le _
  ·split
   ·exact Nat.zero_le _
   ·split
    ·exact Nat.le_refl _
    ·exact ih _ (by omega)
theorem DR(b:Nat)(s:Bs):(puR b s).1≤4294967295:=by
 unfold puR
 split
 ·exact Nat.zero_le _
 ·exact DU b s 0 (Nat.zero_le _)
def valR(w:Bs):Nat×Bool :=
 if pre [48,120] w then((puR 16 (w.drop 2)).1,decide ((puR 16 (w.drop 2)).2=0)&&(decide ((w.drop 2).length≤8)&& !Lib.containsAny (w.drop 2) [95,43,45]))
 else((puR 10 w).1,decide ((puR 10 w).2=0)&&((w==[48]||decide (w.head? ≠some 48))&& !Lib.containsAny w [95,43,45]))
theorem BJ{n:Nat}(h:n≤4294967295):IntKind.u32.wrap (n:Int)=n:=IntWalk.u32_in _ (by omega)
theorem Hu{p s:Bs}(h:pre p s=true):cutP p s=s.drop p.length:=if_pos h
theorem Dx{p s:Bs}(h:pre p s=false):cutP p s=s:=by unfold cutP;rw[h];rfl
def cM:=A5 @qU @sH @qT @sF @iU
set_option maxHeartbeats 1000000 in
theorem MF(w:Bs)(hw:w.length≤4194304)(ha: ∀c∈w,c.toNat<128):PC Tryz.prog 194 [.im (.string ⟨(w).toArray⟩)] (.tu [.im (.int .u32 (((valR w).1:Int))),(.im (.bool ((valR w).2)))]):=by
 have hp:=Pe w [48,120]
 cases hx:pre [48,120] w with
 | true =>
  rw[hx,Hu hx,show List.length ([48,120]:Bs)=2 from rfl]at hp
  obtain⟨x,ex⟩: ∃x,w.drop 2=x:=⟨_,rfl⟩
  have hxl:x.length≤4194304:=by rw[←ex,List.length_drop];omega
  have hxa: ∀c∈x,c.toNat<128:=fun c hc=>ha c (List.mem_of_mem_drop (ex▸hc))
  have hv:valR w=((puR 16 x).1,decide ((puR 16 x).2=0)&&(decide (x.length≤8)&& !Lib.containsAny x [95,43,45])):=by
   unfold valR;rw[hx,if_pos rfl,ex]
  have hq:=RZ x hxl;have hn:=DR 16 x;have hc:=vX x hxl hxa;rw[ex]at hp;generalize puR 16 x=nk at hq hn hv;obtain⟨n,k⟩:=nk;have hwr:=BJ hn;simp only at hq hwr hv;rw[hv];generalize Lib.containsAny x [95,43,45]=b at hc;refine PC.enter 58 Tryz.func194 rfl (by decide) rfl rfl (s:=[(0,.im (.string ⟨(w).toArray⟩))]) (by rfl) ?_
  refine wG cM TI ?_;refine AR.callP hp TI aB ?_;refine goG cM TI ?_;refine wG cM TI ?_;refine AR.callP hq TI aB ?_
  by_cases hk:k=0
  ·subst hk
   rw[show Jv 0= .im .nilIface from rfl]
   refine goG cM TI ?_;refine wG cM hwr ?_;refine uH true ?_
   by_cases h8:x.length≤8
   ·have h8i:(x.length:Int)≤8:=by omega
    refine goG cM (AI h8i fY) ?_;refine AR.callP hc TI aB ?_;refine goG cM TI ?_;rw[show(decide ((0:Int)=0)&&(decide (x.length≤8)&& !b))= !b by simp[h8]]
    refine wG cM TI ?_;refine aG (rs:=[.tmp 2,.tmp 3]) rfl (by first|exact .inl rfl|exact .inr rfl) (finG cM) ?_
    all_goals exact wkG aB
   ·have h8i: ¬(x.length:Int)≤8:=by omega
    refine goG cM (AI h8i fY) ?_;rw[show(decide ((0:Int)=0)&&(decide (x.length≤8)&& !b))=false by simp[h8]]
    refine wG cM TI ?_;refine aG (rs:=[.tmp 2,.tmp 3]) rfl (by first|exact .inl rfl|exact .inr rfl) (finG cM) ?_
    all_goals exact wkG aB
  ·rw[show Jv k= .ifc from if_neg hk]
   refine goG cM TI ?_;refine wG cM hwr ?_;refine uH false ?_;refine goG cM TI ?_;rw[show(decide (k=0)&&(decide (x.length≤8)&& !b))=false by simp[hk]]
   refine wG cM TI ?_;refine aG (rs:=[.tmp 2,.tmp 3]) rfl (by first|exact .inl rfl|exact .inr rfl) (finG cM) ?_
   all_goals exact wkG aB
 | false =>
  rw[hx,Dx hx]at hp
  have hv:valR w=((puR 10 w).1,decide ((puR 10 w).2=0)&&((w==[48]||decide (w.head? ≠some 48))&& !Lib.containsAny w [95,43,45])):=by
   unfold valR;rw[hx];rfl
  have hq:=SE w hw;have hn:=DR 10 w;have hc:=vX w hw ha;have hne:w=[]→(puR 10 w).2=2:=fun h=>by rw[h];rfl
  generalize puR 10 w=nk at hq hn hv hne;obtain⟨n,k⟩:=nk;have hwr:=BJ hn;simp only at hq hwr hv hne;rw[hv];generalize Lib.containsAny w [95,43,45]=b at hc;refine PC.enter 58 Tryz.func194 rfl (by decide) rfl rfl (s:=[(0,.im (.string ⟨(w).toArray⟩))]) (by rfl) ?_
  refine wG cM TI ?_;refine AR.callP hp TI aB ?_;refine goG cM TI ?_;refine wG cM TI ?_;refine AR.callP hq TI aB ?_
  by_cases hk:k=0
  ·subst hk
   rw[show Jv 0= .im .nilIface from rfl]
   refine goG cM TI ?_;refine wG cM hwr ?_;refine uH true ?_;cases he:(w==([48]:Bs))with
   | true =>
    refine goG cM (AI BY he) ?_;refine AR.callP hc TI aB ?_;refine goG cM TI ?_;rw[show(decide ((0:Int)=0)&&((true||decide (w.head? ≠some 48))&& !b))= !b by simp]
    refine wG cM TI ?_;refine aG (rs:=[.tmp 2,.tmp 3]) rfl (by first|exact .inl rfl|exact .inr rfl) (finG cM) ?_
    all_goals exact wkG aB
   | false =>
    cases w with
    | nil=>exact absurd (hne rfl) (by decide)
    | cons c r =>
     have g0:(c::r)[0]? =some c:=rfl
     by_cases h48:c.toNat=48
     ·have e:c=48:=toNat_inj h48
      subst e;have e48:(((48:UInt8).toNat:Nat):Int)=48:=rfl;refine goG cM (A4 BY he g0 e48) ?_;rw[show(decide ((0:Int)=0)&&((false||decide (((48:UInt8)::r).head? ≠some 48))&& !b))=false by simp]
      refine wG cM TI ?_;refine aG (rs:=[.tmp 2,.tmp 3]) rfl (by first|exact .inl rfl|exact .inr rfl) (finG cM) ?_
      all_goals exact wkG aB
     ·have e: ¬c=48:=fun h=>h48 (by rw[h];rfl)
      have h48i: ¬(c.toNat:Int)=48:=by omega
      refine goG cM (A4 BY he g0 h48i) ?_;refine AR.callP hc TI aB ?_;refine goG cM TI ?_;rw[show(decide ((0:Int)=0)&&((false||decide ((c::r).head? ≠some 48))&& !b))= !b by simp[e]]
      refine wG cM TI ?_;refine aG (rs:=[.tmp 2,.tmp 3]) rfl (by first|exact .inl rfl|exact .inr rfl) (finG cM) ?_
      all_goals exact wkG aB
  ·rw[show Jv k= .ifc from if_neg hk]
   refine goG cM TI ?_;refine wG cM hwr ?_;refine uH false ?_;refine goG cM TI ?_;rw[show(decide (k=0)&&((w==[48]||decide (w.head? ≠some 48))&& !b))=false by simp[hk]]
   refine wG cM TI ?_;refine aG (rs:=[.tmp 2,.tmp 3]) rfl (by first|exact .inl rfl|exact .inr rfl) (finG cM) ?_
   all_goals exact wkG aB
def sQ(w:Bs):Tk×Bool:=if isK w then(⟨2,w,0,0,0⟩,true)else if w.head?.elim false isL then(⟨1,w,0,0,0⟩,decide (w.length≤32))else(⟨3,[],(valR w).1,0,0⟩,(valR w).2)
theorem KR(c:UInt8):ltr (c.toNat:Int)=isL c:=Jh c
def fB:=A9 @rA @kM @Wa @Lh @yH @gX @Vx @sE @iU
set_option maxHeartbeats 1000000 in
theorem MM(w:Bs)(hw:w.length≤4194304)(h0:w≠[])(ha: ∀c∈w,c.toNat<128):PC Tryz.prog 134 [.im (.string ⟨(w).toArray⟩)] (.tu [tkV (sQ w).1,(.im (.bool ((sQ w).2)))]):=by
 have hK:=AK w hw
 cases w with
 | nil=>exact absurd rfl h0
 | cons c r =>
 cases hx:isK (c::r)with
 | true =>
  rw[hx]at hK;rw[show sQ (c::r)=(⟨2,c::r,0,0,0⟩,true) by unfold sQ;rw[hx];rfl]
  refine PC.enter 29 Tryz.func134 rfl (by decide) rfl rfl (s:=[(0,.im (.string ⟨(c::r).toArray⟩))]) (by rfl) ?_
  refine wG fB TI ?_;refine AR.callP hK TI (AI aB aZ) ?_;refine goG fB TI ?_;refine wG fB TI ?_;refine aG (rs:=[.cell 2 122,.tmp 3]) rfl (by first|exact .inl rfl|exact .inr rfl) (finG fB) ?_
  all_goals exact wkG (AI aB aZ)
 | false =>
  rw[hx]at hK;have hL:=Ea (c.toNat:Int);rw[KR]at hL;have g0:(c::r)[0]? =some c:=rfl
  have w32:IntKind.i32.wrap (c.toNat:Int)=c.toNat:=by
   have:=c.toNat_lt;exact IntWalk.i32_in _ (by omega)
  cases hl:isL c with
  | true =>
   rw[hl]at hL
   by_cases h32:(c::r).length≤32
   ·have e32:((r.length+1:Nat):Int)≤32:=by rw[List.length_cons]at h32;omega
    rw[show sQ (c::r)=(⟨1,c::r,0,0,0⟩,true) by unfold sQ;rw[hx,if_neg (by decide),if_pos (show(c::r).head?.elim false isL=true from hl),decide_eq_true h32]]
    refine PC.enter 29 Tryz.func134 rfl (by decide) rfl rfl (s:=[(0,.im (.string ⟨(c::r).toArray⟩))]) (by rfl) ?_
    refine wG fB TI ?_;refine AR.callP hK TI (AI aB aZ) ?_;refine goG fB TI ?_;refine wG fB (A3 BY g0 w32) ?_;refine AR.callP hL TI (AI aB aZ) ?_;refine goG fB TI ?_;refine wG fB (AI BY e32) ?_;refine aG (rs:=[.cell 2 122,.tmp 3]) rfl (by first|exact .inl rfl|exact .inr rfl) (finG fB) ?_
    all_goals exact wkG (AI aB aZ)
   ·have e32: ¬((r.length+1:Nat):Int)≤32:=by rw[List.length_cons]at h32;omega
    rw[show sQ (c::r)=(⟨1,c::r,0,0,0⟩,false) by unfold sQ;rw[hx,if_neg (by decide),if_pos (show(c::r).head?.elim false isL=true from hl),decide_eq_false h32]]
    refine PC.enter 29 Tryz.func134 rfl (by decide) rfl rfl (s:=[(0,.im (.string ⟨(c::r).toArray⟩))]) (by rfl) ?_
    refine wG fB TI ?_;refine AR.callP hK TI (AI aB aZ) ?_;refine goG fB TI ?_;refine wG fB (A3 BY g0 w32) ?_;refine AR.callP hL TI (AI aB aZ) ?_;refine goG fB TI ?_;refine wG fB (AI BY e32) ?_;refine aG (rs:=[.cell 2 122,.tmp 3]) rfl (by first|exact .inl rfl|exact .inr rfl) (finG fB) ?_
    all_goals exact wkG (AI aB aZ)
  | false =>
   rw[hl]at hL;rw[show sQ (c::r)=(⟨3,[],(valR (c::r)).1,0,0⟩,(valR (c::r)).2) by unfold sQ;rw[hx,if_neg (by decide),if_neg (show ¬(c::r).head?.elim false isL=true by rw[show(c::r).head?.elim false isL=isL c from rfl,hl];decide)]]
   have hV:=MF (c::r) hw ha;generalize valR (c::r)=v at hV;obtain⟨n,b⟩:=v;refine PC.enter 29 Tryz.func134 rfl (by decide) rfl rfl (s:=[(0,.im (.string ⟨(c::r).toArray⟩))]) (by rfl) ?_
   refine wG fB TI ?_;refine AR.callP hK TI (AI aB aZ) ?_;refine goG fB TI ?_;refine wG fB (A3 BY g0 w32) ?_;refine AR.callP hL TI (AI aB aZ) ?_;refine goG fB TI ?_;refine wG fB TI ?_;refine AR.callP hV TI (AI aB aZ) ?_;refine goG fB TI ?_;refine wG fB TI ?_;refine aG (rs:=[.cell 2 122,.tmp 3]) rfl (by first|exact .inl rfl|exact .inr rfl) (finG fB) ?_
   all_goals exact wkG (AI aB aZ)
def pW(s:Bs):UInt8×Nat:=match escP s with
 | some (c,n)=>(c,n)
 | none=>(0,0)
theorem Hg{c:UInt8}(h:hexv c=none):hexI c= -1:=by unfold hexI;rw[h]
theorem Hf{c:UInt8}{d:Nat}(h:hexv c=some d):hexI c=d:=by unfold hexI;rw[h]
theorem Uq{c:UInt8}{d:Nat}(h:hexv c=some d):d<16:=by
 unfold hexv at h
 split at h
 ·cases h;omega
 ·split at h
  ·cases h;omega
  ·split at h
   ·cases h;omega
   ·cases h
theorem hex2(x y:Nat)(hx:x<16)(hy:y<16):IntKind.u8.wrap (IntKind.i64.wrap ↑(BitVec.ofInt IntKind.i64.bits (IntKind.i64.wrap ((x:Int)*2^min 4 IntKind.i64.bits))|||BitVec.ofInt IntKind.i64.bits (y:Int)).toNat)=((UInt8.ofNat (16*x+y)).toNat:Int):=by
 have:=(show ∀x:_root_.Fin 16,∀y:_root_.Fin 16,IntKind.u8.wrap (IntKind.i64.wrap ↑(BitVec.ofInt IntKind.i64.bits (IntKind.i64.wrap (((x:Nat):Int)*2^min 4 IntKind.i64.bits))|||BitVec.ofInt IntKind.i64.bits ((y:Nat):Int)).toNat)=((UInt8.ofNat (16*(x:Nat)+(y:Nat))).toNat:Int) by decide +kernel) ⟨x,hx⟩ ⟨y,hy⟩
 exact this
def cZ:=A5 @uF @Lh @uE @sE @iU
set_option maxHeartbeats 1000000 in
theorem HG(s:Bs)(hs:s.length≤4194304):PC Tryz.prog 195 [.im (.string ⟨(s).toArray⟩)] (.tu [.im (.int .u8 (((pW s).1.toNat:Int))),(.im (.int .i64 (((pW s).2:Int))))]):=by
 cases s with
 | nil =>
  rw[show pW []=(0,0)from rfl]
  have e0:(([]:Bs)==[])=true:=rfl;have e3: ¬(((0:Nat)):Int)≥3:=by decide
  have e4: ¬(0:Int)≥3:=by decide
  have e5:ByteArray.size ⟨#[]⟩=0:=rfl;refine PC.enter 49 Tryz.func195 rfl (by decide) rfl rfl (s:=[(0,.im (.string ⟨(([]:Bs)).toArray⟩))]) (by rfl) ?_
  refine wG cZ (A3 BY e0 e3) ?_;refine wG cZ (AI e4 e5) ?_;refine wG cZ TI ?_;refine aG (rs:=[.tmp 2,.tmp 3]) rfl (by first|exact .inl rfl|exact .inr rfl) (finG cZ) ?_
  all_goals exact wkG aB
 | cons c r =>
  have e0:((c::r)==([]:Bs))=false:=rfl;have g0:(c::r)[0]? =some c:=rfl
  by_cases h1:c.toNat=34
  ·have e1:(((34:UInt8).toNat:Nat):Int)=34:=rfl
   rw[show pW (c::r)=(c,1) by simp[pW,escP,h1]]
   obtain rfl:c=34:=toNat_inj h1;refine PC.enter 49 Tryz.func195 rfl (by decide) rfl rfl (s:=[(0,.im (.string ⟨((34:UInt8)::r).toArray⟩))]) (by rfl) ?_
   refine wG cZ (A4 BY e0 g0 e1) ?_;refine aG (rs:=[.tmp 2,.tmp 3]) rfl (by first|exact .inl rfl|exact .inr rfl) (finG cZ) ?_
   all_goals exact wkG aB
  have e1: ¬(c.toNat:Int)=34:=by omega
  by_cases h2:c.toNat=92
  ·have e2:(((92:UInt8).toNat:Nat):Int)=92:=rfl
   rw[show pW (c::r)=(c,1) by simp[pW,escP,h2]]
   obtain rfl:c=92:=toNat_inj h2;refine PC.enter 49 Tryz.func195 rfl (by decide) rfl rfl (s:=[(0,.im (.string ⟨((92:UInt8)::r).toArray⟩))]) (by rfl) ?_
   refine wG cZ (A5 BY e0 g0 e1 e2) ?_;refine aG (rs:=[.tmp 2,.tmp 3]) rfl (by first|exact .inl rfl|exact .inr rfl) (finG cZ) ?_
   all_goals exact wkG aB
  have e2: ¬(c.toNat:Int)=92:=by omega
  by_cases h3:c.toNat=120
  case neg =>
   have e3: ¬(c.toNat:Int)=120:=by omega
   rw[show pW (c::r)=(0,0) by simp[pW,escP,h1,h2,h3]]
   by_cases hl:2≤r.length
   ·have el:((r.length+1:Nat):Int)≥3:=by omega
    refine PC.enter 49 Tryz.func195 rfl (by decide) rfl rfl (s:=[(0,.im (.string ⟨(c::r).toArray⟩))]) (by rfl) ?_
    refine wG cZ (A7 BY e0 g0 e1 e2 e3 el) ?_;refine aG (rs:=[.tmp 2,.tmp 3]) rfl (by first|exact .inl rfl|exact .inr rfl) (finG cZ) ?_
    all_goals exact wkG aB
   ·have el: ¬((r.length+1:Nat):Int)≥3:=by omega
    refine PC.enter 49 Tryz.func195 rfl (by decide) rfl rfl (s:=[(0,.im (.string ⟨(c::r).toArray⟩))]) (by rfl) ?_
    refine wG cZ (A7 BY e0 g0 e1 e2 e3 el) ?_;refine aG (rs:=[.tmp 2,.tmp 3]) rfl (by first|exact .inl rfl|exact .inr rfl) (finG cZ) ?_
    all_goals exact wkG aB
  have e3:(c.toNat:Int)=120:=by omega
  have hR:escP (c::r)=Ju r:=by simp[escP,h1,h2,h3]
  by_cases hl:2≤r.length
  case neg =>
   have el: ¬((r.length+1:Nat):Int)≥3:=by omega
   rw[show pW (c::r)=(0,0) by
    unfold pW;rw[hR]
    match r with
    | []=>rfl
    | [_]=>rfl
    | _::_::_=>simp at hl]
   refine PC.enter 49 Tryz.func195 rfl (by decide) rfl rfl (s:=[(0,.im (.string ⟨(c::r).toArray⟩))]) (by rfl) ?_
   refine wG cZ (A7 BY e0 g0 e1 e2 e3 el) ?_;refine aG (rs:=[.tmp 2,.tmp 3]) rfl (by first|exact .inl rfl|exact .inr rfl) (finG cZ) ?_
   all_goals exact wkG aB
  match r with
  | []=>simp at hl
  | [_]=>simp at hl
  | a::b::t =>
  have el:((t.length+1+1+1:Nat):Int)≥3:=by omega
  have g1:(c::a::b::t)[1]? =some a:=rfl;have g2:(c::a::b::t)[2]? =some b:=rfl;have q1:=Ec a;have q2:=Ec b;cases ha:hexv a with
  | none =>
   rw[Hg ha]at q1;rw[show pW (c::a::b::t)=(0,0) by simp[pW,hR,Ju,ha]]
   have f1: ¬(-1:Int)≥0:=by decide
   refine PC.enter 49 Tryz.func195 rfl (by decide) rfl rfl (s:=[(0,.im (.string ⟨(c::a::b::t).toArray⟩))]) (by rfl) ?_
   refine wG cZ (A8 BY e0 g0 e1 e2 e3 el g1) ?_;refine AR.callP q1 TI aB ?_;refine goG cZ f1 ?_;refine wG cZ f1 ?_;refine aG (rs:=[.tmp 2,.tmp 3]) rfl (by first|exact .inl rfl|exact .inr rfl) (finG cZ) ?_
   all_goals exact wkG aB
  | some x =>
  rw[Hf ha]at q1;have hx:=Uq ha;have f1:(x:Int)≥0:=by omega
  cases hb:hexv b with
  | none =>
   rw[Hg hb]at q2;rw[show pW (c::a::b::t)=(0,0) by simp[pW,hR,Ju,ha,hb]]
   have f2: ¬(-1:Int)≥0:=by decide
   refine PC.enter 49 Tryz.func195 rfl (by decide) rfl rfl (s:=[(0,.im (.string ⟨(c::a::b::t).toArray⟩))]) (by rfl) ?_
   refine wG cZ (A8 BY e0 g0 e1 e2 e3 el g1) ?_;refine AR.callP q1 TI aB ?_;refine goG cZ (A3 BY f1 g2) ?_;refine AR.callP q2 TI aB ?_;refine goG cZ f2 ?_;refine wG cZ f2 ?_;refine aG (rs:=[.tmp 2,.tmp 3]) rfl (by first|exact .inl rfl|exact .inr rfl) (finG cZ) ?_
   all_goals exact wkG aB
  | some y =>
   rw[Hf hb]at q2;have hy:=Uq hb;have f2:(y:Int)≥0:=by omega
   have f3:=hex2 x y hx hy;rw[show pW (c::a::b::t)=(UInt8.ofNat (16*x+y),3) by simp[pW,hR,Ju,ha,hb]]
   refine PC.enter 49 Tryz.func195 rfl (by decide) rfl rfl (s:=[(0,.im (.string ⟨(c::a::b::t).toArray⟩))]) (by rfl) ?_
   refine wG cZ (A8 BY e0 g0 e1 e2 e3 el g1) ?_;refine AR.callP q1 TI aB ?_;refine goG cZ (A3 BY f1 g2) ?_;refine AR.callP q2 TI aB ?_;refine goG cZ f2 ?_;refine wG cZ f2 ?_;refine wdG cZ (AI BY g1) ?_;refine AR.callP q1 TI aB ?_;refine goG cZ (AI BY g2) ?_;refine AR.callP q2 TI aB ?_;refine goG cZ f3 ?_;refine wdG cZ TI ?_;refine aG (rs:=[.tmp 2,.tmp 3]) rfl (by first|exact .inl rfl|exact .inr rfl) (finG cZ) ?_
   all_goals exact wkG aB
def quoR(r:Bs):Bs×Nat×Bool:=match quoP r with
 | some (t,m)=>(t,m+1,true)
 | none=>([],0,false)
theorem Za{s:Bs}(h:escP s=none):pW s=(0,0):=by unfold pW;rw[h]
theorem Yz{s:Bs}{x:UInt8}{n:Nat}(h:escP s=some (x,n)):pW s=(x,n):=by unfold pW;rw[h]
theorem nT{r:Bs}(h:quoP r=none):quoR r=([],0,false):=by unfold quoR;rw[h]
theorem yX{r t:Bs}{m:Nat}(h:quoP r=some (t,m)):quoR r=(t,m+1,true):=by unfold quoR;rw[h]
def gA:=A9 @Ll @Lj @nO @vJ @zY @wR @sE @vG @iU
set_option maxHeartbeats 2000000 in
theorem GS(s:Bs)(hs:s.length≤4194304)(h0:s≠[]):PC Tryz.prog 135 [.im (.string ⟨(s).toArray⟩)] (.tu [.im (.string ⟨((quoR (s.drop 1)).1).toArray⟩),(.im (.int .i64 (((quoR (s.drop 1)).2.1:Int)))),(.im (.bool ((quoR (s.drop 1)).2.2)))]):=by
 have hpos:1≤s.length:=by cases s with
  | nil=>exact absurd rfl h0
  | cons c r=>simp
 refine PC.enter 57 Tryz.func135 rfl (by decide) rfl rfl (s:=[(0,.im (.string ⟨(s).toArray⟩))]) (by rfl) ?_
 refine wG gA TI ?_
 refine aV ?_
 refine ALp.ghost 5 [] .nl 5 1 ?_
 suffices H: ∀(k m:Nat) (A:Bs),s.length-m=k→1≤m→m≤s.length→A.length≤m→(quoP (s.drop 1)=(quoP (s.drop m)).map fun p=>(A++p.1,p.2+(m-1)))→ALp _ _ _ _ _ ⟨dn 57 [(0,.im (.string ⟨(s).toArray⟩)),(5,.sl (A.map byB) (.own 0)),(6,(.im (.int .i64 ((((m:Nat)):Int)))))],ofl [.tip 5 1 A.length]⟩ by
  refine ALp.cutP 1 [(0,.im (.string ⟨(s).toArray⟩)),(5,.sl (([]:Bs).map byB) (.own 0)),(6,(.im (.int .i64 ((((1:Nat)):Int)))))] [.tip 5 1 ([]:Bs).length] aB ?_;exact H _ 1 [] rfl (Nat.le_refl _) hpos (Nat.zero_le _) (by cases quoP (s.drop 1)<;>simp)
 intro k
 induction k using Nat.strongRecOn with
 | _ k ih =>
 intro m A hk hm1 hml hA hq
 refine dM ?_
 by_cases hlt:m<s.length
 case neg =>
  obtain rfl:m=s.length:=by omega
  have hn: ¬(s.length:Int)<(s.length:Int):=by omega
  rw[nT (r:=s.drop 1) (by rw[hq,List.drop_length];rfl)]
  clear ih;refine wG gA (A3 BY hn fY) ?_;refine aG (rs:=[.tmp 2,.tmp 3,.tmp 4]) rfl (by first|exact .inl rfl|exact .inr rfl) (finG gA) ?_
  all_goals exact wkG aB
 have hlt':(m:Int)<(s.length:Int):=by omega
 have hw1:=aP hlt (by omega)
 have hg:s[m]? =some s[m]:=List.getElem?_eq_getElem hlt
 have hd:s.drop m=s[m]::s.drop (m+1):=List.drop_eq_getElem_cons hlt
 generalize s[m]=c at hg hd
 rw[hd,yZ]at hq
 by_cases h34:c.toNat=34
 ·have e1:(c.toNat:Int)=34:=by omega
  rw[if_pos h34]at hq;rw[yX (r:=s.drop 1) (t:=A) (m:=m) (by rw[hq];simp;omega)]
  have hb:=pE A;clear ih;refine wG gA (A7 BY hlt' fY hg e1 hb hw1) ?_;refine aG (rs:=[.tmp 2,.tmp 3,.tmp 4]) rfl (by first|exact .inl rfl|exact .inr rfl) (finG gA) ?_
  all_goals exact wkG aB
 have e1: ¬(c.toNat:Int)=34:=by omega
 rw[if_neg h34]at hq
 by_cases h92:c.toNat=92
 ·have e2:(c.toNat:Int)=92:=by omega
  rw[if_pos h92]at hq;have hsl:(s.drop (m+1)).take (s.length-(m+1))=s.drop (m+1):=List.take_of_length_le (by rw[List.length_drop];omega)
  have hle:((m+1:Nat):Int)≤(s.length:Int):=by omega
  have qe:=HG (s.drop (m+1)) (by rw[List.length_drop];omega)
  cases he:escP (s.drop (m+1))with
  | none =>
   rw[Za he]at qe;rw[he]at hq;rw[nT (r:=s.drop 1) (by rw[hq];rfl)]
   clear ih;refine wG gA (A10 BY GDS hlt' fY hg e1 e2 hw1 hle hsl) ?_;refine AR.callP qe TI aB ?_;refine goG gA TI ?_;refine wG gA TI ?_;refine aG (rs:=[.tmp 2,.tmp 3,.tmp 4]) rfl (by first|exact .inl rfl|exact .inr rfl) (finG gA) ?_
   all_goals exact wkG aB
  | some xn =>
  obtain⟨x,n⟩:=xn;rw[Yz he]at qe;have hn:=xR he;rw[List.length_drop]at hn;rw[he]at hq;have hn0: ¬(n:Int)=0:=by omega
  have hw2:IntKind.i64.wrap ((m:Int)+(n:Int))=((m+n:Nat):Int):=by rw[cU (by omega)];omega
  have hw3:IntKind.i64.wrap (((m+n:Nat):Int)+1)=((m+n+1:Nat):Int):=by rw[cU (by omega)];omega
  obtain⟨B,hB⟩: ∃B,B=A++[x]:=⟨_,rfl⟩
  have hAs:A.map byB++[V.im (.int .u8 x.toNat)]=B.map byB:=by rw[hB,List.map_append];rfl
  have hAl:A.length+1=B.length:=by rw[hB];simp
  have hbl:B.length≤140737488355328:=by omega
  have hI:=ih (s.length-(m+n+1)) (by omega) (m+n+1) B rfl (by omega) (by omega) (by omega) (by
   rw[hq];dsimp only;rw[List.drop_drop,show m+1+n=m+n+1 by omega,hB]
   cases quoP (s.drop (m+n+1))with
   | none=>rfl
   | some p=>obtain⟨t,k⟩:=p;simp;omega)
  clear ih hB;refine wG gA (A10 BY GDS hlt' fY hg e1 e2 hw1 hle hsl) ?_;refine AR.callP qe TI aB ?_;refine goG gA TI ?_;refine wG gA (A8 hn0 hAs hAl hbl hw2 hw3 @List.length_map.{0,0} @Nat.mul_one) ?_;refine ALp.cutP 1 [(0,.im (.string ⟨(s).toArray⟩)),(5,.sl (B.map byB) (.own 0)),(6,(.im (.int .i64 ((((m+n+1:Nat)):Int)))))] [.tip 5 1 B.length] aB ?_;exact hI
 have e2: ¬(c.toNat:Int)=92:=by omega
 rw[if_neg h92]at hq
 by_cases hlo:c.toNat<32
 ·have e3:(c.toNat:Int)<32:=by omega
  rw[if_pos (.inl hlo)]at hq;rw[nT (r:=s.drop 1) (by rw[hq];rfl)]
  clear ih;refine wG gA (A7 BY hlt' fY hg e1 e2 e3) ?_;refine aG (rs:=[.tmp 2,.tmp 3,.tmp 4]) rfl (by first|exact .inl rfl|exact .inr rfl) (finG gA) ?_
  all_goals exact wkG aB
 have e3: ¬(c.toNat:Int)<32:=by omega
 by_cases hhi:126<c.toNat
 ·have e4:(c.toNat:Int)>126:=by omega
  rw[if_pos (.inr hhi)]at hq;rw[nT (r:=s.drop 1) (by rw[hq];rfl)]
  clear ih;refine wG gA (A8 BY hlt' fY hg e1 e2 e3 e4) ?_;refine aG (rs:=[.tmp 2,.tmp 3,.tmp 4]) rfl (by first|exact .inl rfl|exact .inr rfl) (finG gA) ?_
  all_goals exact wkG aB
 have e4: ¬(c.toNat:Int)>126:=by omega
 rw[if_neg (by omega)]at hq
 obtain⟨B,hB⟩: ∃B,B=A++[c]:=⟨_,rfl⟩
 have hAs:A.map byB++[V.im (.int .u8 c.toNat)]=B.map byB:=by rw[hB,List.map_append];rfl
 have hAl:A.length+1=B.length:=by rw[hB];simp
 have hbl:B.length≤140737488355328:=by omega
 have hI:=ih (s.length-(m+1)) (by omega) (m+1) B rfl (by omega) (by omega) (by omega) (by
  rw[hq,hB];cases quoP (s.drop (m+1))with
  | none=>rfl
  | some p=>obtain⟨t,n⟩:=p;simp;omega)
 clear ih hB
 refine wG gA (A14 BY hlt' fY hg e1 e2 e3 e4 hAs hAl hbl hw1 @List.length_map.{0,0} @Nat.mul_one) ?_
 refine ALp.cutP 1 [(0,.im (.string ⟨(s).toArray⟩)),(5,.sl (B.map byB) (.own 0)),(6,(.im (.int .i64 ((((m+1:Nat)):Int)))))] [.tip 5 1 B.length] aB ?_
 exact hI
def symR(s:Bs):Bs×Bool:=match symP s with
 | some op=>(op,true)
 | none=>(s.take 1,false)
def tst(p s:Bs):Bool:=pre p s&&nW (s.drop p.length)
def L1V:List V:=[.im (.string ⟨(([62,62,115]:Bs)).toArray⟩),.im (.string ⟨(([60,115]:Bs)).toArray⟩)]
def L2V:List V:=[.im (.string ⟨(([61,61]:Bs)).toArray⟩),.im (.string ⟨(([33,61]:Bs)).toArray⟩),.im (.string ⟨(([60,60]:Bs)).toArray⟩),.im (.string ⟨(([62,62]:Bs)).toArray⟩)]
theorem NC{m:Nat}(h:m<2): ∃p:Bs,L1V[m]? =some (.im (.string ⟨(p).toArray⟩))∧(m=0∧p=[62,62,115]∨m=1∧p=[60,115]):=by
 rcases(show m=0∨m=1 by omega)with rfl|rfl
 ·exact⟨[62,62,115],rfl,.inl ⟨rfl,rfl⟩⟩
 ·exact⟨[60,115],rfl,.inr ⟨rfl,rfl⟩⟩
theorem NB{m:Nat}(h:m<4): ∃p:Bs,L2V[m]? =some (.im (.string ⟨(p).toArray⟩))∧(m=0∧p=[61,61]∨m=1∧p=[33,61]∨m=2∧p=[60,60]∨m=3∧p=[62,62]):=by
 rcases(show m=0∨m=1∨m=2∨m=3 by omega)with rfl|rfl|rfl|rfl
 ·exact⟨[61,61],rfl,.inl ⟨rfl,rfl⟩⟩
 ·exact⟨[33,61],rfl,.inr (.inl ⟨rfl,rfl⟩)⟩
 ·exact⟨[60,60],rfl,.inr (.inr (.inl ⟨rfl,rfl⟩))⟩
 ·exact⟨[62,62],rfl,.inr (.inr (.inr ⟨rfl,rfl⟩))⟩
theorem TC:[V.im (.string ⟨#[62,62,115]⟩),V.im (.string ⟨#[60,115]⟩)]=L1V:=rfl
theorem TB:[V.im (.string ⟨#[61,61]⟩),V.im (.string ⟨#[33,61]⟩),V.im (.string ⟨#[60,60]⟩),V.im (.string ⟨#[62,62]⟩)]=L2V:=rfl
theorem wO:L1V.length=2:=rfl
theorem Ep:L2V.length=4:=rfl
theorem OP{s p:Bs}{m:Nat}(hm:m=0∧p=[62,62,115]∨m=1∧p=[60,115])(h0:1≤m→tst [62,62,115] s=false)(h:tst p s=true):symR s=(p,true):=by
 unfold symR symP
 rcases hm with ⟨rfl,rfl⟩|⟨rfl,rfl⟩
 ·rw[if_pos (show(pre [62,62,115] s&&nW (s.drop 3))=true from h)]
 ·have:=h0 (Nat.le_refl _)
  rw[if_neg (show ¬(pre [62,62,115] s&&nW (s.drop 3))=true by rw[show(pre [62,62,115] s&&nW (s.drop 3))=false from this];decide),if_pos (show(pre [60,115] s&&nW (s.drop 2))=true from h)]
theorem BR{s:Bs}(h1:tst [62,62,115] s=false)(h2:tst [60,115] s=false):symP s=if pre [61,61] s then some [61,61]
  else if pre [33,61] s then some [33,61]
  else if pre [60,60] s then some [60,60]
  else if pre [62,62] s then some [62,62]
  else match s with
   | []=>none
   | c::_=>if ops1.contains c then some [c]else none:=by
 unfold symP
 rw[if_neg (show ¬(pre [62,62,115] s&&nW (s.drop 3))=true by rw[show(pre [62,62,115] s&&nW (s.drop 3))=false from h1];decide),if_neg (show ¬(pre [60,115] s&&nW (s.drop 2))=true by rw[show(pre [60,115] s&&nW (s.drop 2))=false from h2];decide)]
 cases s<;>rfl
theorem OO{s p:Bs}{m:Nat}(h1:tst [62,62,115] s=false)(h2:tst [60,115] s=false)(hm:m=0∧p=[61,61]∨m=1∧p=[33,61]∨m=2∧p=[60,60]∨m=3∧p=[62,62])
  (hI:(1≤m→pre [61,61] s=false)∧(2≤m→pre [33,61] s=false)∧(3≤m→pre [60,60] s=false)) (h:pre p s=true):symR s=(p,true):=by
 unfold symR
 rw[BR h1 h2]
 obtain⟨i1,i2,i3⟩:=hI
 rcases hm with ⟨rfl,rfl⟩|⟨rfl,rfl⟩|⟨rfl,rfl⟩|⟨rfl,rfl⟩
 ·simp[h]
 ·simp[h,i1 (by omega)]
 ·simp[h,i1 (by omega),i2 (by omega)]
 ·simp[h,i1 (by omega),i2 (by omega),i3 (by omega)]
theorem ON{c:UInt8}{r:Bs}(h1:tst [62,62,115] (c::r)=false)(h2:tst [60,115] (c::r)=false)(h3:pre [61,61] (c::r)=false)(h4:pre [33,61] (c::r)=false)(h5:pre [60,60] (c::r)=false)(h6:pre [62,62] (c::r)=false):symR (c::r)=([c],ops1.contains c):=by
 unfold symR
 rw[BR h1 h2,h3,h4,h5,h6]
 simp only[Bool.false_eq_true,if_false]
 cases h:ops1.contains c<;>simp
def cW:=A9 @eC @mG @jN @Wa @Lh @dD @Vx @sE @iU
set_option maxHeartbeats 2000000 in
theorem GK(s:Bs)(hs:s.length≤4194304)(h0:s≠[]):PC Tryz.prog 136 [.im (.string ⟨(s).toArray⟩)] (.tu [.im (.string ⟨((symR s).1).toArray⟩),(.im (.bool ((symR s).2)))]):=by
 refine PC.enter 59 Tryz.func136 rfl (by decide) rfl rfl (s:=[(0,.im (.string ⟨(s).toArray⟩))]) (by rfl) ?_
 refine wG cW (AI TC wO) ?_
 refine aV ?_
 refine ALp.cutP 0 [(0,.im (.string ⟨(s).toArray⟩)),(2,.im (.string ⟨(([]:Bs)).toArray⟩)),(3,(.im (.bool (false)))),(10,.sl L1V .full),(11,(.im (.int .i64 (2)))),(12,(.im (.int .i64 ((((0:Nat)):Int)))))] [] aB ?_
 refine ALp.upto 2 (fun m=>(1≤m→tst [62,62,115] s=false)∧(2≤m→tst [60,115] s=false)) (fun m=>⟨dn 59 [(0,.im (.string ⟨(s).toArray⟩)),(2,.im (.string ⟨(([]:Bs)).toArray⟩)),(3,(.im (.bool (false)))),(10,.sl L1V .full),(11,(.im (.int .i64 (2)))),(12,(.im (.int .i64 ((((m:Nat)):Int)))))],ofl []⟩) ?_ 0 (Nat.zero_le _) ⟨fun h=>by omega,fun h=>by omega⟩
 intro m hm hI hnext
 by_cases hlt:m<2
 case neg =>
  obtain rfl:m=2:=by omega
  clear hnext;have hn: ¬(2:Int)<2:=by omega
  refine wG cW (A3 hn TB Ep) ?_;refine aV ?_;refine ALp.cutP 0 [(0,.im (.string ⟨(s).toArray⟩)),(2,.im (.string ⟨(([]:Bs)).toArray⟩)),(3,(.im (.bool (false)))),(43,.sl L2V .full),(44,(.im (.int .i64 (4)))),(45,(.im (.int .i64 ((((0:Nat)):Int)))))] [] aB ?_;obtain⟨h1,h2⟩:tst [62,62,115] s=false∧tst [60,115] s=false:=⟨hI.1 (by omega),hI.2 (by omega)⟩
  clear hI hm hlt;refine ALp.upto 4 (fun m=>(1≤m→pre [61,61] s=false)∧(2≤m→pre [33,61] s=false)∧(3≤m→pre [60,60] s=false)∧(4≤m→pre [62,62] s=false)) (fun m=>⟨dn 59 [(0,.im (.string ⟨(s).toArray⟩)),(2,.im (.string ⟨(([]:Bs)).toArray⟩)),(3,(.im (.bool (false)))),(43,.sl L2V .full),(44,(.im (.int .i64 (4)))),(45,(.im (.int .i64 ((((m:Nat)):Int)))))],ofl []⟩) ?_ 0 (Nat.zero_le _) ⟨fun h=>by omega,fun h=>by omega,fun h=>by omega,fun h=>by omega⟩
  intro m hm hI hnext
  by_cases hlt:m<4
  case neg =>
   obtain rfl:m=4:=by omega
   clear hnext;have hn: ¬(4:Int)<4:=by omega
   cases s with
   | nil=>exact absurd rfl h0
   | cons c r =>
   rw[ON h1 h2 (hI.1 (by omega)) (hI.2.1 (by omega)) (hI.2.2.1 (by omega)) (hI.2.2.2 (by omega))]
   have q:=oI ⟨#[40,41,123,125,91,93,44,59,58,63,61,43,45,42,38,124,94,33,60]⟩ ⟨#[c]⟩ (of_decide_eq_true (by kernel_rfl))
   rw[show Lib.contains (ByteArray.mk #[40,41,123,125,91,93,44,59,58,63,61,43,45,42,38,124,94,33,60]).data.toList (ByteArray.mk #[c]).data.toList=ops1.contains c from xU ops1 c]at q
   generalize ops1.contains c=b at q;have hle:(1:Int)≤((r.length+1:Nat):Int):=by omega
   refine wG cW hn ?_;refine wdG cW (A4 BY GDS fY hle) ?_;refine AR.callP q TI aB ?_;refine goG cW TI ?_;refine wdG cW TI ?_;refine aG (rs:=[.tmp 2,.tmp 3]) rfl (by first|exact .inl rfl|exact .inr rfl) (finG cW) ?_
   all_goals exact wkG aB
  have hlt':(m:Int)<4:=by omega
  have hw1:=aP hlt (by omega)
  obtain⟨p,hg,hp⟩:=NB hlt;have hY:pre p s=true→symR s=(p,true):=fun h=>OO h1 h2 hp ⟨hI.1,hI.2.1,hI.2.2.1⟩ h
  have hN:pre p s=false→_:=fun h=>hnext (m+1) (by omega) (by omega) (by
   obtain⟨i1,i2,i3,i4⟩:=hI;rcases hp with ⟨rfl,rfl⟩|⟨rfl,rfl⟩|⟨rfl,rfl⟩|⟨rfl,rfl⟩
   ·exact⟨fun _=>h,fun h=>by omega,fun h=>by omega,fun h=>by omega⟩
   ·exact⟨fun _=>i1 (by omega),fun _=>h,fun h=>by omega,fun h=>by omega⟩
   ·exact⟨fun _=>i1 (by omega),fun _=>i2 (by omega),fun _=>h,fun h=>by omega⟩
   ·exact⟨fun _=>i1 (by omega),fun _=>i2 (by omega),fun _=>i3 (by omega),fun _=>h⟩)
  have q:=Pc s p;clear hnext hI hp;refine wG cW (A4 BY hlt' hg Ep) ?_;cases b1:pre p s with
  | true =>
   rw[b1]at q;rw[hY b1];clear hN;refine AR.callP q TI aB ?_;refine goG cW TI ?_;refine wG cW TI ?_;refine aG (rs:=[.tmp 2,.tmp 3]) rfl (by first|exact .inl rfl|exact .inr rfl) (finG cW) ?_
   all_goals exact wkG aB
  | false =>
   rw[b1]at q;have hN:=hN b1;refine AR.callP q TI aB ?_;refine goG cW TI ?_;refine wG cW hw1 ?_;refine ALp.cutP 0 [(0,.im (.string ⟨(s).toArray⟩)),(2,.im (.string ⟨(([]:Bs)).toArray⟩)),(3,(.im (.bool (false)))),(43,.sl L2V .full),(44,(.im (.int .i64 (4)))),(45,(.im (.int .i64 ((((m+1:Nat)):Int)))))] [] aB ?_;exact hN
 have hlt':(m:Int)<2:=by omega
 have hw1:=aP hlt (by omega)
 obtain⟨p,hg,hp⟩:=NC hlt
 have hI2:tst p s=false→(1≤m+1→tst [62,62,115] s=false)∧(2≤m+1→tst [60,115] s=false):=fun h=>by
  rcases hp with ⟨rfl,rfl⟩|⟨rfl,rfl⟩
  ·exact⟨fun _=>h,fun h=>by omega⟩
  ·exact⟨fun _=>hI.1 (Nat.le_refl _),fun _=>h⟩
 have hY:tst p s=true→symR s=(p,true):=fun h=>OP hp hI.1 h
 have hN:=fun h=>hnext (m+1) (by omega) (by omega) (hI2 h)
 clear hnext hI2 hp hI
 have qc:=Pe s p
 cases b1:pre p s with
 | false =>
  have hN:=hN (by unfold tst;rw[b1];rfl)
  rw[b1,Dx b1]at qc;refine wG cW (A4 BY hlt' hg wO) ?_;refine AR.callP qc TI aB ?_;refine goG cW TI ?_;refine wG cW hw1 ?_;refine ALp.cutP 0 [(0,.im (.string ⟨(s).toArray⟩)),(2,.im (.string ⟨(([]:Bs)).toArray⟩)),(3,(.im (.bool (false)))),(10,.sl L1V .full),(11,(.im (.int .i64 (2)))),(12,(.im (.int .i64 ((((m+1:Nat)):Int)))))] [] aB ?_;exact hN
 | true =>
 rw[b1,Hu b1]at qc
 unfold tst at hN hY
 rw[b1,Bool.true_and]at hN hY
 generalize s.drop p.length=x at qc hN hY
 refine wG cW (A4 BY hlt' hg wO) ?_
 refine AR.callP qc TI aB ?_
 refine goG cW TI ?_
 cases x with
 | nil =>
  have e0:(([]:Bs)==[])=true:=rfl;rw[hY rfl];clear hN;refine wG cW (AI BY e0) ?_;refine aG (rs:=[.tmp 2,.tmp 3]) rfl (by first|exact .inl rfl|exact .inr rfl) (finG cW) ?_
  all_goals exact wkG aB
 | cons d y =>
 have e0:((d::y)==([]:Bs))=false:=rfl
 have g0:(d::y)[0]? =some d:=rfl
 have w32:IntKind.i32.wrap (d.toNat:Int)=d.toNat:=by
  have:=d.toNat_lt;exact IntWalk.i32_in _ (by omega)
 have hW:nW (d::y)= !(isL d||isD d):=rfl
 have q1:=Ea (d.toNat:Int)
 have q2:=Vm (d.toNat:Int)
 rw[Jh]at q1
 rw[Vd]at q2
 refine wG cW (A4 BY e0 g0 w32) ?_
 cases b2:isL d with
 | true =>
  rw[b2]at q1;have hN:=hN (by rw[hW,b2];rfl)
  refine AR.callP q1 TI aB ?_;refine goG cW TI ?_;refine wG cW hw1 ?_;refine ALp.cutP 0 [(0,.im (.string ⟨(s).toArray⟩)),(2,.im (.string ⟨(([]:Bs)).toArray⟩)),(3,(.im (.bool (false)))),(10,.sl L1V .full),(11,(.im (.int .i64 (2)))),(12,(.im (.int .i64 ((((m+1:Nat)):Int)))))] [] aB ?_;exact hN
 | false =>
 rw[b2]at q1
 refine AR.callP q1 TI aB ?_
 refine goG cW (A3 BY g0 w32) ?_
 cases b3:isD d with
 | true =>
  rw[b3]at q2;have hN:=hN (by rw[hW,b2,b3];rfl)
  refine AR.callP q2 TI aB ?_;refine goG cW TI ?_;refine wG cW hw1 ?_;refine ALp.cutP 0 [(0,.im (.string ⟨(s).toArray⟩)),(2,.im (.string ⟨(([]:Bs)).toArray⟩)),(3,(.im (.bool (false)))),(10,.sl L1V .full),(11,(.im (.int .i64 (2)))),(12,(.im (.int .i64 ((((m+1:Nat)):Int)))))] [] aB ?_;exact hN
 | false =>
  rw[b3]at q2;rw[hY (by rw[hW,b2,b3];rfl)]
  clear hN;refine AR.callP q2 TI aB ?_;refine goG cW TI ?_;refine wG cW TI ?_;refine aG (rs:=[.tmp 2,.tmp 3]) rfl (by first|exact .inl rfl|exact .inr rfl) (finG cW) ?_
  all_goals exact wkG aB
def nxtR(s:Bs):Tk×Nat×Bool :=
 if 0<(s.takeWhile isW).length then((sQ (s.takeWhile isW)).1,(s.takeWhile isW).length,(sQ (s.takeWhile isW)).2)
 else if s.head? =some 34 then(⟨4,(quoR (s.drop 1)).1,0,0,0⟩,(quoR (s.drop 1)).2.1,(quoR (s.drop 1)).2.2)
 else(⟨5,(symR s).1,0,0,0⟩,(symR s).1.length,(symR s).2)
theorem QO{c:UInt8}(h:isW c=true):c.toNat<128:=by
 have:=rB (fun c=> !isW c||decide (c.toNat<128)) (by decide +kernel) c
 rw[h]at this
 simpa using this
def hM:=A8 @rA @eC @kM @oP @yH @gX @dD @iU
set_option maxHeartbeats 2000000 in
theorem SH(s:Bs)(p:Int×Int)(ts:List Tk)(hs:s.length≤4194304)(h0:s≠[]):DC Tryz.prog 68 [.pt 0 0] [.box [.im (.string ⟨(s).toArray⟩),(.im (.int .i64 (p.1))),(.im (.int .i64 (p.2))),.sl (ts.map tkV) (.mine 1)],.tip 122 5 ts.length] (.tu [tkV (nxtR s).1,(.im (.int .i64 (((nxtR s).2.1:Int)))),(.im (.bool ((nxtR s).2.2)))]) [.box [.im (.string ⟨(s).toArray⟩),(.im (.int .i64 (p.1))),(.im (.int .i64 (p.2))),.sl (ts.map tkV) (.mine 1)],.tip 122 5 ts.length]:=by
 have qw:=RT s p ts
 have htk:(s.takeWhile isW).length≤s.length:=(List.takeWhile_prefix isW).length_le
 have hpre:s.take (s.takeWhile isW).length=s.takeWhile isW:=(List.prefix_iff_eq_take.1 (List.takeWhile_prefix isW)).symm
 by_cases hw:0<(s.takeWhile isW).length
 ·have hR:nxtR s=((sQ (s.takeWhile isW)).1,(s.takeWhile isW).length,(sQ (s.takeWhile isW)).2):=if_pos hw
  have qn:=MM (s.takeWhile isW) (by omega) (fun h=>by rw[h]at hw;exact absurd hw (by decide)) (fun c hc=>QO (Wx c hc))
  rw[hR];generalize s.takeWhile isW=w at qw htk hpre hw qn;have hw':(w.length:Int)>0:=by omega
  have hle:(w.length:Int)≤(s.length:Int):=by omega
  refine DC.enter 62 Tryz.func68 rfl (by decide) rfl rfl (s:=[(0,.pt 0 0)]) (by rfl) ?_
  refine wG hM TI ?_;refine bX [0,1] qw TI (A3 bC aZ aB) (A3 eY eZ cF) ?_;refine goG hM TI ?_;refine wG hM (A5 BY GDS hw' hle hpre) ?_;refine AR.callP qn TI (A3 bC aZ aB) ?_;refine goG hM TKT ?_;refine wG hM TKT ?_;refine aQ (rs:=[.cell 2 122,.tmp 3,.tmp 4]) rfl (by first|exact .inl rfl|exact .inr rfl) (finG hM) ?_ rfl (idG (A3 bC aZ aB))
  all_goals exact wkG (A3 bC aZ aB)
 have hR:nxtR s=if s.head? =some 34 then(⟨4,(quoR (s.drop 1)).1,0,0,0⟩,(quoR (s.drop 1)).2.1,(quoR (s.drop 1)).2.2)else(⟨5,(symR s).1,0,0,0⟩,(symR s).1.length,(symR s).2):=if_neg hw
 have qq:=GS s hs h0
 have qs:=GK s hs h0
 rw[show(s.takeWhile isW).length=0 by omega]at qw
 clear hpre htk hw
 cases s with
 | nil=>exact absurd rfl h0
 | cons c r =>
 have g0:(c::r)[0]? =some c:=rfl
 have hgt: ¬(0:Int)>0:=by decide
 by_cases h34:c.toNat=34
 ·have e1:(((34:UInt8).toNat:Nat):Int)=34:=rfl
  obtain rfl:c=34:=toNat_inj h34;rw[hR,if_pos (show((34:UInt8)::r).head? =some 34 from rfl)]
  generalize quoR (List.drop 1 ((34:UInt8)::r))=q at qq;obtain⟨t,n,b⟩:=q;refine DC.enter 62 Tryz.func68 rfl (by decide) rfl rfl (s:=[(0,.pt 0 0)]) (by rfl) ?_
  refine wG hM TI ?_;refine bX [0,1] qw TI (A3 bC aZ aB) (A3 eY eZ cF) ?_;refine goG hM TI ?_;refine wG hM (A5 BY GDS hgt g0 e1) ?_;refine AR.callP qq TI (A3 bC aZ aB) ?_;refine goG hM TI ?_;refine wG hM TI ?_;refine aQ (rs:=[.cell 2 122,.tmp 3,.tmp 4]) rfl (by first|exact .inl rfl|exact .inr rfl) (finG hM) ?_ rfl (idG (A3 bC aZ aB))
  all_goals exact wkG (A3 bC aZ aB)
 ·have e1: ¬(c.toNat:Int)=34:=by omega
  rw[hR,if_neg (show ¬(c::r).head? =some 34 from fun h=>h34 (by rw[Option.some.inj h];rfl))]
  generalize symR (c::r)=q at qs;obtain⟨t,b⟩:=q;refine DC.enter 62 Tryz.func68 rfl (by decide) rfl rfl (s:=[(0,.pt 0 0)]) (by rfl) ?_
  refine wG hM TI ?_;refine bX [0,1] qw TI (A3 bC aZ aB) (A3 eY eZ cF) ?_;refine goG hM TI ?_;refine wG hM (A5 BY GDS hgt g0 e1) ?_;refine AR.callP qs TI (A3 bC aZ aB) ?_;refine goG hM TI ?_;refine wG hM (AI BY fY) ?_;refine aQ (rs:=[.cell 2 122,.tmp 3,.tmp 4]) rfl (by first|exact .inl rfl|exact .inr rfl) (finG hM) ?_ rfl (idG (A3 bC aZ aB))
  all_goals exact wkG (A3 bC aZ aB)
theorem mP: ∀(s:Bs) (b:Bool),skpG false (skpG b s)=skpG b s
 | [],b=>by cases b<;>rfl
 | c::r,true=>by
  by_cases h:c.toNat=10
  ·have e:skpG true (c::r)=skpG false r:=by rw[skpG,if_pos h]
   rw[e];exact mP r false
  ·have e:skpG true (c::r)=skpG true r:=by rw[skpG,if_neg h]
   rw[e];exact mP r true
 | c::r,false=>by
  by_cases h1:isS c=true
  ·have e:skpG false (c::r)=skpG false r:=by rw[skpG,if_pos h1]
   rw[e];exact mP r false
  ·by_cases h2:c.toNat=47∧r.head? =some 47
   ·have e:skpG false (c::r)=skpG true r:=by rw[skpG,if_neg h1,if_pos h2]
    rw[e];exact mP r true
   ·have e:skpG false (c::r)=c::r:=by rw[skpG,if_neg h1,if_neg h2]
    rw[e,e]
theorem uK: ∀(s:Bs) (b:Bool),skpG b s <:+ s
 | [],b=>by cases b<;>exact List.suffix_refl _
 | c::r,true=>by
  by_cases h:c.toNat=10
  ·have e:skpG true (c::r)=skpG false r:=by rw[skpG,if_pos h]
   rw[e];exact(uK r false).trans (List.suffix_cons c r)
  ·have e:skpG true (c::r)=skpG true r:=by rw[skpG,if_neg h]
   rw[e];exact(uK r true).trans (List.suffix_cons c r)
 | c::r,false=>by
  by_cases h1:isS c=true
  ·have e:skpG false (c::r)=skpG false r:=by rw[skpG,if_pos h1]
   rw[e];exact(uK r false).trans (List.suffix_cons c r)
  ·by_cases h2:c.toNat=47∧r.head? =some 47
   ·have e:skpG false (c::r)=skpG true r:=by rw[skpG,if_neg h1,if_pos h2]
    rw[e];exact(uK r true).trans (List.suffix_cons c r)
   ·have e:skpG false (c::r)=c::r:=by rw[skpG,if_neg h1,if_neg h2]
    rw[e];exact List.suffix_refl _
theorem Cn{x:Bs}(h:skpG false x=x)(q:Int×Int):skq x q=q:=by
 unfold skq
 rw[h,Nat.sub_self,List.take_zero]
 rfl
theorem DN{r:Bs}(h:(quoR r).2.2=true):1≤(quoR r).2.1∧(quoR r).2.1≤r.length+1:=by
 cases hq:quoP r with
 | none=>rw[nT hq]at h;cases h
 | some p =>
  obtain⟨t,m⟩:=p;rw[yX hq];have:=xE _ hq;exact⟨by simp,by simp only;omega⟩
theorem BQ{s op:Bs}(h:symP s=some op):pre op s=true∧op≠[]:=by
 unfold symP at h
 split at h
 ·rename_i h1
  cases h
  exact⟨(Bool.and_eq_true _ _▸h1).1,by simp⟩
 split at h
 ·rename_i h1
  cases h
  exact⟨(Bool.and_eq_true _ _▸h1).1,by simp⟩
 split at h
 ·rename_i h1;cases h;exact⟨h1,by simp⟩
 split at h
 ·rename_i h1;cases h;exact⟨h1,by simp⟩
 split at h
 ·rename_i h1;cases h;exact⟨h1,by simp⟩
 split at h
 ·rename_i h1;cases h;exact⟨h1,by simp⟩
 split at h
 ·cases h
 ·split at h
  ·cases h;exact⟨by simp[pre,List.isPrefixOf],by simp⟩
  ·cases h
theorem DZ{s:Bs}(h0:s≠[])(h:(nxtR s).2.2=true):1≤(nxtR s).2.1∧(nxtR s).2.1≤s.length:=by
 unfold nxtR at h ⊢
 split
 ·rename_i h1
  exact⟨h1,(List.takeWhile_prefix isW).length_le⟩
 ·rename_i h1
  rw[if_neg h1]at h
  have hs:1≤s.length:=by cases s with
   | nil=>exact absurd rfl h0
   | cons c r=>simp
  split
  ·rename_i h2
   rw[if_pos h2]at h;have:=DN h;rw[List.length_drop]at this;exact⟨this.1,by simp only;omega⟩
  ·rename_i h2
   rw[if_neg h2]at h;unfold symR at h ⊢;cases hs:symP s with
   | none=>rw[hs]at h;cases h
   | some op =>
    obtain⟨h3,h4⟩:=BQ hs;simp only;obtain⟨x,rfl⟩:=jI.1 h3;refine⟨?_,by simp⟩
    cases op with
    | nil=>exact absurd rfl h4
    | cons c r=>simp
def qM:Nat→Bs→Int×Int→List Tk×Bool
 | 0,_,_=>([],true)
 | f+1,s,p=>if skpG false s=[]then([],true)
  else if(nxtR (skpG false s)).2.2 then((nxtR (skpG false s)).1.at_ (skq s p)::(qM f ((skpG false s).drop (nxtR (skpG false s)).2.1) (advs (skq s p) ((skpG false s).take (nxtR (skpG false s)).2.1))).1,(qM f ((skpG false s).drop (nxtR (skpG false s)).2.1) (advs (skq s p) ((skpG false s).take (nxtR (skpG false s)).2.1))).2)
  else([⟨6,[],0,(skq s p).1,(skq s p).2⟩],false)
def Qy(s:Bs):List Tk×Bool:=qM (s.length+1) s (1,1)
theorem Mu(f:Nat)(s:Bs)(p:Int×Int):qM f s p=qM f (skpG false s) (skq s p):=by
 cases f with
 | zero=>rfl
 | succ f =>
  unfold qM;rw[mP,Cn (mP s false)]
theorem DA(f:Nat)(p:Int×Int):qM f [] p=([],true):=by
 cases f with
 | zero=>rfl
 | succ f=>unfold qM;rw[if_pos (show skpG false []=[]from rfl)]
theorem KB{f:Nat}{x:Bs}(hx:skpG false x=x)(h0:x≠[])(h:(nxtR x).2.2=true)(q:Int×Int):qM (f+1) x q=((nxtR x).1.at_ q::(qM f (x.drop (nxtR x).2.1) (advs q (x.take (nxtR x).2.1))).1,(qM f (x.drop (nxtR x).2.1) (advs q (x.take (nxtR x).2.1))).2):=by
 conv=>lhs;unfold qM
 rw[hx,Cn hx,if_neg h0,if_pos h]
theorem KC{f:Nat}{x:Bs}(hx:skpG false x=x)(h0:x≠[])(h:(nxtR x).2.2=false)(q:Int×Int):qM (f+1) x q=([⟨6,[],0,q.1,q.2⟩],false):=by
 conv=>lhs;unfold qM
 rw[hx,Cn hx,if_neg h0,if_neg (by rw[h];decide)]
def scnR(s:Bs):List Tk×Int:=if 65536<s.length then([],6)else((Qy s).1,if(Qy s).2 then 0 else 3)
def fJ:=A16 @rA @cL @Lp @eC @IW @kM @IM @pM @oP @Fe @Fd @Tj @Fc @Fb @II (A6 @yH @gX @cK @Ld @dD @iU)
set_option maxHeartbeats 2000000 in
theorem Kf(s:Bs)(hs:s.length≤4194304):PC Tryz.prog 28 [.im (.string ⟨(s).toArray⟩)] (.tu [.sl ((scnR s).1.map tkV) .ro,.im (.int .i64 (scnR s).2)]):=by
 by_cases hbig:65536<s.length
 ·have hb:(s.length:Int)>65536:=by omega
  rw[show scnR s=([],6)from if_pos hbig]
  refine PC.enter 73 Tryz.func28 rfl (by decide) rfl rfl (s:=[(0,.im (.string ⟨(s).toArray⟩))]) (by rfl) ?_
  refine wG fJ (A3 BY fY hb) ?_;refine aG (rs:=[.tmp 2,.tmp 3]) rfl (by first|exact .inl rfl|exact .inr rfl) (finG fJ) ?_
  all_goals exact wkG (A3 bC aZ aB)
 have hb: ¬(s.length:Int)>65536:=by omega
 rw[show scnR s=((Qy s).1,if(Qy s).2 then 0 else 3)from if_neg hbig]
 refine PC.enter 73 Tryz.func28 rfl (by decide) rfl rfl (s:=[(0,.im (.string ⟨(s).toArray⟩))]) (by rfl) ?_
 refine AWp.seq ?_
 refine AWp.tail (fun _:Unit=>⟨dn 73 [(0,.im (.string ⟨(s).toArray⟩)),(2,.sl [] .nl),(3,.im (.int .i64 0))],ofl []⟩) (fun _=> ?_) (fun rest ht=> ?_)
 case refine_2 =>
  refine wG fJ TI ?_;refine AWp.cutP 0 [(0,.im (.string ⟨(s).toArray⟩)),(2,.sl [] .nl),(3,.im (.int .i64 0))] [] (A4 bC aZ aB TI) ?_;exact ht ()
 refine AWp.seq ?_
 refine AWp.tail (fun _:Unit=>⟨dn 73 [(0,.im (.string ⟨(s).toArray⟩)),(2,.sl [] .nl),(3,.im (.int .i64 0))],ofl []⟩) (fun _=> ?_) (fun rest ht=> ?_)
 case refine_2 =>
  refine wG fJ (A3 BY fY hb) ?_;refine AWp.cutP 0 [(0,.im (.string ⟨(s).toArray⟩)),(2,.sl [] .nl),(3,.im (.int .i64 0))] [] (A4 bC aZ aB TI) ?_;exact ht ()
 refine AWp.seq ?_
 refine AWp.tail (fun _:Unit=>⟨dn 73 [(0,.im (.string ⟨(s).toArray⟩)),(2,.sl [] .nl),(3,.im (.int .i64 0)),(4,.pt 0 0)],ofl [.box [.im (.string ⟨(s).toArray⟩),(.im (.int .i64 (1))),(.im (.int .i64 (1))),.sl [] .nl]]⟩) (fun _=> ?_) (fun rest ht=> ?_)
 case refine_2 =>
  refine wG fJ BY ?_;refine AWp.cutP 1 [(0,.im (.string ⟨(s).toArray⟩)),(2,.sl [] .nl),(3,.im (.int .i64 0)),(4,.pt 0 0)] [.box [.im (.string ⟨(s).toArray⟩),(.im (.int .i64 (1))),(.im (.int .i64 (1))),.sl [] .nl]] (A4 bC aZ aB TI) ?_;exact ht ()
 refine AWp.ghostB 0 3 [.im (.string ⟨(s).toArray⟩),(.im (.int .i64 (1))),(.im (.int .i64 (1))),.sl [] .nl] 122 5 ?_
 have qb:=Vp s (1,1) [] (by decide) (by decide) hs
 refine wG fJ TI ?_
 refine aA [0,1] qb TI (A3 bC aZ aB) (A3 eY eZ cF) ?_
 refine goG fJ TI ?_
 refine wG fJ TI ?_
 refine aV ?_
 suffices H: ∀(k f:Nat) (x:Bs) (q:Int×Int) (ts:List Tk),x.length=k→x.length<f→skpG false x=x→Qy s=(ts++(qM f x q).1,(qM f x q).2)→ts.length+x.length≤s.length →
   (x=s.drop (s.length-x.length))→(q=advs (1,1) (s.take (s.length-x.length)))→ALp _ _ _ _ _ ⟨dn 73 [(0,.im (.string ⟨(s).toArray⟩)),(4,.pt 0 0)],ofl [.box [.im (.string ⟨(x).toArray⟩),(.im (.int .i64 (q.1))),(.im (.int .i64 (q.2))),.sl (ts.map tkV) (.mine 1)],.tip 122 5 ts.length]⟩ by
  refine ALp.cutP 2 [(0,.im (.string ⟨(s).toArray⟩)),(4,.pt 0 0)] [.box [.im (.string ⟨(skpG false s).toArray⟩),(.im (.int .i64 ((skq s (1,1)).1))),(.im (.int .i64 ((skq s (1,1)).2))),.sl (([]:List Tk).map tkV) (.mine 1)],.tip 122 5 ([]:List Tk).length] (A3 bC aZ aB) ?_;exact H _ (s.length+1) _ _ [] rfl (by have:=pT false s;omega) (mP s false) (by rw[List.nil_append,←Mu];rfl) (by have:=pT false s;simp;exact this) (List.suffix_iff_eq_drop.1 (uK s false)) rfl
 intro k
 induction k using Nat.strongRecOn with
 | _ k ih =>
 intro f x q ts hk hf hx hE hts hq1 hq2
 refine dM ?_
 cases x with
 | nil =>
  have e0:(([]:Bs)==[])=true:=rfl;rw[DA,List.append_nil]at hE;rw[hE];clear ih;refine wG fJ (AI BY e0) ?_;refine aG (rs:=[.tmp 2,.tmp 3]) rfl (by first|exact .inl rfl|exact .inr rfl) (finG fJ) ?_
  all_goals exact wkG (A3 bC aZ aB)
 | cons c r =>
 have e0:((c::r)==([]:Bs))=false:=rfl
 have hxl:(c::r).length≤4194304:=by omega
 have qn:=SH (c::r) q ts hxl (by simp)
 cases f with
 | zero=>omega
 | succ f =>
 have hN:=KC (f:=f) hx (by simp)
 have hY:=KB (f:=f) hx (by simp)
 have hlen:=DZ (s:=c::r) (by simp)
 generalize nxtR (c::r)=v at qn hN hY hlen
 obtain⟨tk,n,b⟩:=v
 have hal:ts.length+1≤140737488355328:=by rw[List.length_cons]at hts;omega
 cases b with
 | false =>
  rw[hN rfl q]at hE;rw[hE];obtain⟨B,hB⟩: ∃B,B=ts++[(⟨6,[],0,q.1,q.2⟩:Tk)]:=⟨_,rfl⟩
  have hAs:ts.map tkV++[V.ag [.im (.int .i64 6),.im (.string ByteArray.empty),.im (.int .u32 0),.im (.int .i64 q.1),.im (.int .i64 q.2)]]=B.map tkV:=by rw[hB,List.map_append];rfl
  have hAl:ts.length+1=B.length:=by rw[hB];simp
  have hbl:B.length*48≤140737488355328:=by rw[List.length_cons]at hts;omega
  simp only[←hB];clear ih hN hY hlen;refine wG fJ (AI BY e0) ?_;refine bX [0,1] qn TI (A3 bC aZ aB) (A3 eY eZ cF) ?_;refine goG fJ TKT ?_;refine wG fJ TKT ?_;refine wdG fJ (A7 BY GDS TKT hAs hAl hbl @List.length_map.{0,0}) ?_;refine aG (rs:=[.tmp 2,.tmp 3]) rfl (by first|exact .inl rfl|exact .inr rfl) (finG fJ) ?_
  all_goals exact wkG (A3 bC aZ aB)
 | true =>
  rw[hY rfl q]at hE;have hn:=hlen rfl;clear hN hY hlen;simp only at hn hE;obtain⟨B,hB⟩: ∃B,B=ts++[tk.at_ q]:=⟨_,rfl⟩
  have hAs:ts.map tkV++[V.ag [.im (.int .i64 tk.kind),.im (.string ⟨tk.text.toArray⟩),.im (.int .u32 tk.n),.im (.int .i64 q.1),.im (.int .i64 q.2)]]=B.map tkV:=by rw[hB,List.map_append];rfl
  have hAl:ts.length+1=B.length:=by rw[hB];simp
  have hbl:B.length*48≤140737488355328:=by rw[List.length_cons]at hts;omega
  obtain⟨a,ha⟩: ∃a,a=s.length-(c::r).length:=⟨_,rfl⟩
  rw[←ha]at hq1 hq2;have hal2:a+(c::r).length=s.length:=by omega
  have hbq:=rV (s.take a) (1,1) (by decide) (by decide)
  rw[←hq2,List.length_take]at hbq;have hs1:=GN (c::r) q B n hn.2 (by omega) (by omega) hxl
  have hq3:advs q ((c::r).take n)=advs (1,1) (s.take (a+n)):=by rw[hq2,hq1];exact zS (1,1) s a n
  have hx3:(c::r).drop n=s.drop (a+n):=by rw[hq1,List.drop_drop]
  have hbq2:=rV (s.take (a+n)) (1,1) (by decide) (by decide)
  rw[List.length_take]at hbq2;rw[hq3]at hs1 hE;rw[hx3]at hs1 hE;have hyl:(s.drop (a+n)).length=s.length-(a+n):=List.length_drop;have hs2:=Vp (s.drop (a+n)) (advs (1,1) (s.take (a+n))) B (by omega) (by omega) (by omega)
  have hle:=pT false (s.drop (a+n))
  have hq4:skq (s.drop (a+n)) (advs (1,1) (s.take (a+n)))=advs (1,1) (s.take (s.length-(skpG false (s.drop (a+n))).length)):=by
   unfold skq;rw[zS,hyl,show a+n+(s.length-(a+n)-(skpG false (s.drop (a+n))).length)=s.length-(skpG false (s.drop (a+n))).length by omega]
  have hE2:Qy s=(B++(qM f (skpG false (s.drop (a+n))) (skq (s.drop (a+n)) (advs (1,1) (s.take (a+n))))).1,(qM f (skpG false (s.drop (a+n))) (skq (s.drop (a+n)) (advs (1,1) (s.take (a+n))))).2):=by
   rw[←Mu,hE,hB,List.append_assoc];rfl
  have hrec:=ih (skpG false (s.drop (a+n))).length (by omega) f _ _ B rfl (by omega) (mP _ false) hE2 (by omega) (List.suffix_iff_eq_drop.1 ((uK _ false).trans (List.drop_suffix _ _))) hq4
  clear ih hE hE2 hq4 hle hyl hbq hbq2 hq3 hx3 hq1 hq2 hts;generalize skq (s.drop (a+n)) (advs (1,1) (s.take (a+n)))=q4 at hs2 hrec;generalize skpG false (s.drop (a+n))=x4 at hs2 hrec;generalize advs (1,1) (s.take (a+n))=q3 at hs1 hs2;generalize s.drop (a+n)=x3 at hs1 hs2;refine wG fJ (AI BY e0) ?_;refine bX [0,1] qn TI (A3 bC aZ aB) (A3 eY eZ cF) ?_;refine goG fJ TKT ?_;refine wG fJ TKT ?_;refine wdG fJ (A7 BY GDS TKT hAs hAl hbl @List.length_map.{0,0}) ?_;refine aA [0,1] hs1 TI (A3 bC aZ aB) (A3 eY eZ cF) ?_;refine goG fJ TI ?_;refine wG fJ TI ?_;refine aA [0,1] hs2 TI (A3 bC aZ aB) (A3 eY eZ cF) ?_;refine goG fJ TI ?_;refine wG fJ TI ?_;refine ALp.cutP 2 [(0,.im (.string ⟨(s).toArray⟩)),(4,.pt 0 0)] [.box [.im (.string ⟨(x4).toArray⟩),(.im (.int .i64 (q4.1))),(.im (.int .i64 (q4.2))),.sl (B.map tkV) (.mine 1)],.tip 122 5 B.length] (A3 bC aZ aB) ?_;exact hrec
theorem Oo(b:Nat)(hb:b=10∨b=16)(c:UInt8):(∀d,d<b→(dgv c=some d↔hexv c=some d)):=by
 have key: ∀n,n<16→(dgv c=some n↔hexv c=some n):=by
  intro n hn;have:=rB (fun c=>(List.range 16).all fun n=>(dgv c==some n)==(hexv c==some n)) (by decide +kernel) c
  have h2:=List.all_eq_true.1 this n (by simpa using hn)
  have h3:=beq_iff_eq.1 h2;constructor
  ·intro h
   have:(hexv c==some n)=true:=by rw[←h3,h];simp
   exact beq_iff_eq.1 this
  ·intro h
   have:(dgv c==some n)=true:=by rw[h3,h];simp
   exact beq_iff_eq.1 this
 intro d hd
 exact key d (by omega)
theorem LY{b:Nat}(hb:1≤b)(s:Bs): ∀a n,digV b a s=some n→a≤n:=by
 induction s with
 | nil=>intro a n h;cases h;exact Nat.le_refl _
 | cons c r ih =>
  intro a n h;rw[digV]at h;split at h
  ·split at h
   ·have h1:=ih _ _ h
    have:a*1≤a*b:=Nat.mul_le_mul_left a hb;omega
   ·cases h
  ·cases h
theorem DT{b:Nat}(hb:b=10∨b=16)(s:Bs): ∀a n,digV b a s=some n→n≤4294967295→puF b a s=(n,0):=by
 induction s with
 | nil=>intro a n h _;cases h;rfl
 | cons c r ih =>
  intro a n h hn;rw[digV]at h;split at h
  ·rename_i d hd
   split at h
   ·rename_i hlt
    have h1:=LY (show 1≤b by omega) r _ _ h
    rw[puF,(Oo b hb c d hlt).2 hd];simp only;rw[if_neg (by omega),if_neg (by omega)]
    exact ih _ _ h hn
   ·cases h
  ·cases h
theorem DS{b:Nat}(hb:b=10∨b=16)(s:Bs): ∀a,(puF b a s).2=0→digV b a s=some (puF b a s).1:=by
 induction s with
 | nil=>intro a _;rfl
 | cons c r ih =>
  intro a h;rw[puF]at h ⊢;cases hd:dgv c with
  | none=>rw[hd]at h;cases h
  | some d =>
   rw[hd]at h;simp only at h ⊢
   by_cases h1:b≤d
   ·rw[if_pos h1]at h;cases h
   ·rw[if_neg h1]at h ⊢
    by_cases h2:4294967295<a*b+d
    ·rw[if_pos h2]at h;cases h
    ·rw[if_neg h2]at h ⊢
     rw[digV,(Oo b hb c d (by omega)).1 hd]
     simp only;rw[if_pos (by omega)]
     exact ih _ h
theorem Om{b:Nat}(s:Bs): ∀a n,digV b a s=some n→ ∀c∈s,(hexv c).isSome=true:=by
 induction s with
 | nil=>intro a n _ c hc;cases hc
 | cons x r ih =>
  intro a n h c hc;rw[digV]at h;split at h
  ·rename_i d hd
   split at h
   ·rcases List.mem_cons.1 hc with rfl|hc
    ·rw[hd];rfl
    ·exact ih _ _ h c hc
   ·cases h
  ·cases h
theorem Gz{s:Bs}(h: ∀c∈s,(hexv c).isSome=true):Lib.containsAny s [95,43,45]=false:=by
 unfold Lib.containsAny
 rw[Lib.indexAny_none (fun j b _ hb=> ?_)]
 ·decide
 ·have h1:=h b (List.mem_of_getElem? hb)
  have h2:=rB (fun c=> !(hexv c).isSome|| !([95,43,45]:List UInt8).contains c) (by decide +kernel) b
  simp only[h1,Bool.not_true,Bool.false_or]at h2;simpa using h2
theorem Zd(s:Bs): ∀a n,digV 16 a s=some n→n<(a+1)*16^s.length:=by
 induction s with
 | nil=>intro a n h;cases h;simp
 | cons c r ih =>
  intro a n h;rw[digV]at h;split at h
  ·rename_i d hd
   split at h
   ·rename_i hlt
    have h1:=ih _ _ h;have h2:(a*16+d+1)*16^r.length≤((a+1)*16)*16^r.length:=Nat.mul_le_mul_right _ (by omega)
    rw[List.length_cons,Nat.pow_succ,Nat.mul_comm (16^r.length) 16,←Nat.mul_assoc];omega
   ·cases h
  ·cases h
theorem Wl{w:Bs}{n:Nat}(h:valP w=some n):valR w=(n,true):=by
 unfold valP at h
 unfold valR
 split at h
 ·rename_i hp
  rw[if_pos hp];split at h
  ·rename_i hl
   have h16:n≤4294967295:=by
    have:=Zd _ _ _ h;have h2:16^(List.drop 2 w).length≤16^8:=Nat.pow_le_pow_right (by decide) hl.2
    have h3:(16:Nat)^8=4294967296:=by decide
    omega
   have hne:List.drop 2 w≠[]:=fun e=>by rw[e]at hl;exact absurd hl.1 (by decide)
   have hpu:puR 16 (List.drop 2 w)=(n,0):=by
    unfold puR;rw[if_neg hne];exact DT (.inr rfl) _ _ _ h h16
   rw[hpu,Gz (Om _ _ _ h),decide_eq_true hl.2];rfl
  ·cases h
 ·rename_i hp
  rw[if_neg hp];split at h
  ·cases h
  ·rename_i hz
   split at h
   ·rename_i m hm
    split at h
    ·rename_i hlt
     cases h
     have hne:w≠[]:=fun e=>hz (.inl (by rw[e];rfl))
     have hpu:puR 10 w=(n,0):=by
      unfold puR;rw[if_neg hne];exact DT (.inl rfl) _ _ _ hm (by omega)
     rw[hpu,Gz (Om _ _ _ hm)]
     have hz2:(w==[48]||decide (w.head? ≠some 48))=true:=by
      by_cases q:w.head? =some 48
      ·have: ¬1<w.length:=fun k=>hz (.inr ⟨k,q⟩)
       obtain⟨x,rfl⟩: ∃x,w=[x]:=List.length_eq_one_iff.1 (by have:=List.length_pos_iff.2 hne;omega)
       cases q;rfl
      ·rw[decide_eq_true q,Bool.or_true]
     rw[hz2];rfl
    ·cases h
   ·cases h
theorem Wm{w:Bs}(h:valP w=none):(valR w).2=false:=by
 rw[←Bool.not_eq_true]
 intro hc
 unfold valR at hc
 unfold valP at h
 by_cases hp:pre [48,120] w=true
 ·rw[if_pos hp]at hc h
  simp only[Bool.and_eq_true,decide_eq_true_eq]at hc;have hne:List.drop 2 w≠[]:=fun e=>by rw[e]at hc;exact absurd hc.1 (by decide)
  unfold puR at hc;rw[if_neg hne]at hc;rw[if_pos ⟨List.length_pos_iff.2 hne,hc.2.1⟩,DS (.inr rfl) _ _ hc.1]at h;cases h
 ·rw[if_neg hp]at hc h
  simp only[Bool.and_eq_true,decide_eq_true_eq]at hc;have hne:w≠[]:=fun e=>by rw[e]at hc;exact absurd hc.1 (by decide)
  have hz: ¬(w.length=0∨(1<w.length∧w.head? =some 48)):=by
   rintro(k|⟨k1,k2⟩)
   ·exact hne (List.length_eq_zero_iff.1 k)
   ·have h3:=hc.2.1
    rw[decide_eq_false (show ¬(w.head? ≠some 48)from fun k=>k k2),Bool.or_false]at h3
    have h4:=beq_iff_eq.1 h3;rw[h4]at k1;exact absurd k1 (by decide)
  have hpu:puR 10 w=puF 10 0 w:=if_neg hne;have hle:(puF 10 0 w).1≤4294967295:=DU 10 w 0 (by decide)
  rw[hpu]at hc;rw[if_neg hz,DS (.inl rfl) _ _ hc.1]at h;simp only at h;rw[if_pos (by omega)]at h
  cases h
theorem Yd{w:Bs}{t:Tk}(h:namP w=some t):sQ w=(t,true):=by
 unfold namP at h
 unfold sQ
 split
 ·rename_i q
  rw[if_pos q]at h;cases h;rfl
 ·rename_i q
  rw[if_neg q]at h;split
  ·rename_i q2
   rw[if_pos q2]at h;split at h
   ·rename_i q3
    cases h
    rw[decide_eq_true q3]
   ·cases h
  ·rename_i q2
   rw[if_neg q2]at h;cases hv:valP w with
   | none=>rw[hv]at h;cases h
   | some n =>
    rw[hv]at h;cases h
    rw[Wl hv]
theorem Ye{w:Bs}(h:namP w=none):(sQ w).2=false:=by
 unfold namP at h
 unfold sQ
 split
 ·rename_i q
  rw[if_pos q]at h;cases h
 ·rename_i q
  rw[if_neg q]at h;split
  ·rename_i q2
   rw[if_pos q2]at h;split at h
   ·cases h
   ·rename_i q3
    exact decide_eq_false q3
  ·rename_i q2
   rw[if_neg q2]at h;cases hv:valP w with
   | none=>exact Wm hv
   | some n=>rw[hv]at h;cases h
theorem Xz{s:Bs}{t:Tk}{n:Nat}(h:tokP s=some (t,n)):nxtR s=(t,n,true):=by
 unfold tokP at h
 unfold nxtR
 split
 ·rename_i q
  rw[if_pos q]at h;cases hn:namP (s.takeWhile isW)with
  | none=>rw[hn]at h;cases h
  | some u=>rw[hn]at h;cases h;rw[Yd hn]
 ·rename_i q
  rw[if_neg q]at h;split
  ·rename_i q2
   rw[if_pos q2]at h;cases hq:quoP (s.drop 1)with
   | none=>rw[hq]at h;cases h
   | some u=>obtain⟨u,m⟩:=u;rw[hq]at h;cases h;rw[yX hq]
  ·rename_i q2
   rw[if_neg q2]at h;cases hq:symP s with
   | none=>rw[hq]at h;cases h
   | some u=>rw[hq]at h;cases h;unfold symR;rw[hq]
theorem Ya{s:Bs}(h:tokP s=none):(nxtR s).2.2=false:=by
 unfold tokP at h
 unfold nxtR
 split
 ·rename_i q
  rw[if_pos q]at h;cases hn:namP (s.takeWhile isW)with
  | none=>exact Ye hn
  | some u=>rw[hn]at h;cases h
 ·rename_i q
  rw[if_neg q]at h;split
  ·rename_i q2
   rw[if_pos q2]at h;cases hq:quoP (s.drop 1)with
   | none=>rw[nT hq]
   | some u=>obtain⟨u,m⟩:=u;rw[hq]at h;cases h
  ·rename_i q2
   rw[if_neg q2]at h;cases hq:symP s with
   | none=>unfold symR;rw[hq]
   | some u=>rw[hq]at h;cases h
theorem Gp: ∀(f:Nat) (s:Bs) (p:Int×Int),qM f s p=pU f s p
 | 0,s,p=>rfl
 | f+1,s,p=>by
  rw[qM,pU]
  by_cases q:skpG false s=[]
  ·rw[if_pos q,if_pos q]
  rw[if_neg q,if_neg q];cases h:tokP (skpG false s)with
  | none =>
   rw[if_neg (by rw[Ya h];decide)]
  | some u =>
   obtain⟨t,n⟩:=u;rw[Xz h,if_pos rfl,Gp f]
theorem Gr(s:Bs):Qy s=scan s:=Gp _ s (1,1)
end Go.Proofs.YtmbmmckagcdapaaGreatDoor
