import Derived.Test.YtmbmmckagcdapaaGreatDoorM11
import Derived.Test.YtmbmmckagcdapaaGreatDoorM35
import Derived.Test.YtmbmmckagcdapaaGreatDoorM29
set_option linter.all false
namespace Go.Proofs.YtmbmmckagcdapaaGreatDoor
open Go.RowKit
def dsU(l:List Sec):Nat:=(l.map fun d=>min d.data.length 3000).sum
theorem HV{l:List Sec}{m:Nat}(h:m<l.length):dsU (l.take (m+1))=dsU (l.take m)+min l[m].data.length 3000:=by
 unfold dsU
 rw[List.take_succ_eq_append_getElem h,List.map_append,List.sum_append]
 simp
theorem UL(l:List Sec)(m:Nat):dsU (l.take m)≤dsU l:=by
 conv=>rhs;rw[←List.take_append_drop m l]
 unfold dsU
 rw[List.map_append,List.sum_append]
 exact Nat.le_add_right _ _
def fJ:=A16 @kI @zE @wF @zD @tF @gK @kG @tB @wE @lA @lN @oI @mM @rH @oF (A9 @jD @vW @sW @sU @qP @sS @pS @gI @jO)
def mK:=A16 @aD @aO @aE @aQ aW aH @bS @bU @bT @bV eO gA kL oN tQ (AI aX bD)
theorem IK(u:Un)(hu:fitU u)(hd: ∀d∈u.data,d.data.length≤4194304):PC Tryz.prog 32 [unV u] (.im (.bool (smU u))):=by
 have hgl:=hu.gl
 have hdl:=hu.dl
 have hfl:=hu.fl
 unfold smU
 rw[kJ]
 by_cases c1:u.globals.length≤300
 case neg =>
  have c1':(u.globals.length:Int)>300:=by omega
  rw[decide_eq_false (fun h=>c1 h.1),Bool.false_and]
  refine PC.enter 71 Tryz.func32 rfl (by decide) rfl rfl (s:=[(0,.ag [.sl (u.globals.map vaV) .ro,.sl (u.data.map scV) .ro,.sl (u.funcs.map fnV) .ro])]) (by rfl) ?_
  refine wG fJ (AI @List.length_map.{0,0} c1') ?_;exact aC
 have c1': ¬(u.globals.length:Int)>300:=by omega
 by_cases c2:u.data.length≤20
 case neg =>
  have c2':(u.data.length:Int)>20:=by omega
  rw[decide_eq_false (fun h=>c2 h.2.1),Bool.false_and]
  refine PC.enter 71 Tryz.func32 rfl (by decide) rfl rfl (s:=[(0,.ag [.sl (u.globals.map vaV) .ro,.sl (u.data.map scV) .ro,.sl (u.funcs.map fnV) .ro])]) (by rfl) ?_
  refine wG fJ (A3 @List.length_map.{0,0} c1' c2') ?_;exact aC
 have c2': ¬(u.data.length:Int)>20:=by omega
 by_cases c3:u.funcs.length≤70
 case neg =>
  have c3':(u.funcs.length:Int)>70:=by omega
  rw[decide_eq_false (fun h=>c3 h.2.2),Bool.false_and]
  refine PC.enter 71 Tryz.func32 rfl (by decide) rfl rfl (s:=[(0,.ag [.sl (u.globals.map vaV) .ro,.sl (u.data.map scV) .ro,.sl (u.funcs.map fnV) .ro])]) (by rfl) ?_
  refine wG fJ (A4 @List.length_map.{0,0} c1' c2' c3') ?_;exact aC
 have c3': ¬(u.funcs.length:Int)>70:=by omega
 rw[decide_eq_true ⟨c1,c2,c3⟩,Bool.true_and]
 show PC _ _ _ (.im (.bool (decide (dsU u.data<3000)&&_)))
 refine PC.enter 71 Tryz.func32 rfl (by decide) rfl rfl (s:=[(0,.ag [.sl (u.globals.map vaV) .ro,.sl (u.data.map scV) .ro,.sl (u.funcs.map fnV) .ro])]) (by rfl) ?_
 refine wG fJ (A4 @List.length_map.{0,0} c1' c2' c3') ?_
 refine aP ?_
 refine ALp.cutP 1 [(1,.pt 0 0),(3,(.im (.int .i64 (((dsU (u.data.take (0)):Nat):Int))))),(4,(.im (.int .i64 ((((0:Nat)):Int)))))] [.box [.sl (u.globals.map vaV) .ro,.sl (u.data.map scV) .ro,.sl (u.funcs.map fnV) .ro]] mK ?_
 refine ALp.upto u.data.length (fun m=>dsU (u.data.take m)<3000) (fun m=>⟨dn 71 [(1,.pt 0 0),(3,(.im (.int .i64 (((dsU (u.data.take (m)):Nat):Int))))),(4,(.im (.int .i64 ((((m:Nat)):Int)))))],ofl [.box [.sl (u.globals.map vaV) .ro,.sl (u.data.map scV) .ro,.sl (u.funcs.map fnV) .ro]]⟩) ?_ 0 (Nat.zero_le _) (show dsU []<3000 by decide)
 intro m hm hI hnext
 by_cases hlt:m<u.data.length
 ·have hlt':(m:Int)<(u.data.length:Int):=by omega
  have hm1:=aL hlt (by omega)
  have hg:=bB hlt;have hst:=HV hlt;have hdd:=hd _ (List.getElem_mem hlt);have hle:=UL u.data (m+1);have hmin:(if(3000:Int)<(u.data[m].data.length:Int)then(3000:Int)else(u.data[m].data.length:Int))=((min u.data[m].data.length 3000:Nat):Int):=by split<;>omega
  have hw:=cU (n:=((dsU (u.data.take m):Nat):Int)+((min u.data[m].data.length 3000:Nat):Int)) (by omega)
  have hw2:((dsU (u.data.take m):Nat):Int)+((min u.data[m].data.length 3000:Nat):Int)=((dsU (u.data.take (m+1)):Nat):Int):=by omega
  generalize u.data[m]=d at hg hmin hw hw2 hst;rw[hw2]at hw;have hnx:=hnext (m+1) (by omega) (by omega)
  clear hnext;generalize dsU (u.data.take m)=n0 at hw hw2 hI;generalize dsU (u.data.take (m+1))=n1 at hw hw2 hle hnx
  by_cases hq:n1<3000
  ·have hq': ¬(n1:Int)≥3000:=by omega
   refine wG fJ (A9 hlt' hg SCT @List.length_map.{0,0} hmin hw2 hw hq' hm1) ?_;refine ALp.cutP 1 [(1,.pt 0 0),(3,(.im (.int .i64 (((n1:Nat):Int))))),(4,(.im (.int .i64 ((((m+1:Nat)):Int)))))] [.box [.sl (u.globals.map vaV) .ro,.sl (u.data.map scV) .ro,.sl (u.funcs.map fnV) .ro]] mK ?_;exact hnx hq
  ·have hq':(n1:Int)≥3000:=by omega
   rw[decide_eq_false (by omega),Bool.false_and]
   refine wG fJ (A8 hlt' hg SCT @List.length_map.{0,0} hmin hw2 hw hq') ?_;exact aC
 obtain rfl:m=u.data.length:=by omega
 clear hnext
 rw[List.take_length]at hI
 rw[decide_eq_true hI,Bool.true_and]
 refine whG fJ (AI @Int.lt_irrefl @List.length_map.{0,0}) ?_
 refine Blk'.here (Thn.n ?_)
 refine wG fJ TI ?_
 refine aP ?_
 refine ALp.cutP 1 [(1,.pt 0 0),(5,(.im (.int .i64 ((((0:Nat)):Int)))))] [.box [.sl (u.globals.map vaV) .ro,.sl (u.data.map scV) .ro,.sl (u.funcs.map fnV) .ro]] mK ?_
 refine ALp.upto u.globals.length (toP (fun v=>smallT v.ty 70) u.globals) (fun m=>⟨dn 71 [(1,.pt 0 0),(5,(.im (.int .i64 ((((m:Nat)):Int)))))],ofl [.box [.sl (u.globals.map vaV) .ro,.sl (u.data.map scV) .ro,.sl (u.funcs.map fnV) .ro]]⟩) ?_ 0 (Nat.zero_le _) (toP.zero _ _)
 intro m hm hJ hnext
 by_cases hlt:m<u.globals.length
 ·have hlt':(m:Int)<(u.globals.length:Int):=by omega
  have hm1:=aL hlt (by omega)
  have hg:=bB hlt;have hc:=Py u.globals[m].ty (hu.gn _ (List.getElem_mem hlt)).1 70 (by decide) (by decide)
  cases b:smallT u.globals[m].ty 70 with
  | false =>
   rw[b]at hc;rw[Ul hlt b,Bool.false_and];refine wG fJ (A4 hlt' hg VA @List.length_map.{0,0}) ?_;refine AR.callP hc @bP mK ?_;refine goG fJ TI ?_;refine wG fJ TI ?_;exact aC
  | true =>
   rw[b]at hc;refine wG fJ (A4 hlt' hg VA @List.length_map.{0,0}) ?_;refine AR.callP hc @bP mK ?_;refine goG fJ TI ?_;refine wG fJ hm1 ?_;refine ALp.cutP 1 [(1,.pt 0 0),(5,(.im (.int .i64 ((((m+1:Nat)):Int)))))] [.box [.sl (u.globals.map vaV) .ro,.sl (u.data.map scV) .ro,.sl (u.funcs.map fnV) .ro]] mK ?_;exact hnext (m+1) (by omega) (by omega) (hJ.succ hlt b)
 obtain rfl:m=u.globals.length:=by omega
 clear hnext
 rw[hJ.all,Bool.true_and]
 refine whG fJ (AI @Int.lt_irrefl @List.length_map.{0,0}) ?_
 refine Blk'.here (Thn.n ?_)
 refine wG fJ TI ?_
 refine aP ?_
 refine ALp.cutP 1 [(1,.pt 0 0),(6,(.im (.int .i64 ((((0:Nat)):Int)))))] [.box [.sl (u.globals.map vaV) .ro,.sl (u.data.map scV) .ro,.sl (u.funcs.map fnV) .ro]] mK ?_
 refine ALp.upto u.funcs.length (toP smF u.funcs) (fun m=>⟨dn 71 [(1,.pt 0 0),(6,(.im (.int .i64 ((((m:Nat)):Int)))))],ofl [.box [.sl (u.globals.map vaV) .ro,.sl (u.data.map scV) .ro,.sl (u.funcs.map fnV) .ro]]⟩) ?_ 0 (Nat.zero_le _) (toP.zero _ _)
 intro m hm hK hnext
 by_cases hlt:m<u.funcs.length
 ·have hlt':(m:Int)<(u.funcs.length:Int):=by omega
  have hm1:=aL hlt (by omega)
  have hg:=bB hlt;have hc:=IL u.funcs[m] (hu.fn _ (List.getElem_mem hlt));cases b:smF u.funcs[m]with
  | false =>
   rw[b]at hc;rw[Ul hlt b];refine wG fJ (A4 hlt' hg FU @List.length_map.{0,0}) ?_;refine AR.callP hc oO mK ?_;refine goG fJ TI ?_;refine wG fJ TI ?_;exact aC
  | true =>
   rw[b]at hc;refine wG fJ (A4 hlt' hg FU @List.length_map.{0,0}) ?_;refine AR.callP hc oO mK ?_;refine goG fJ TI ?_;refine wG fJ hm1 ?_;refine ALp.cutP 1 [(1,.pt 0 0),(6,(.im (.int .i64 ((((m+1:Nat)):Int)))))] [.box [.sl (u.globals.map vaV) .ro,.sl (u.data.map scV) .ro,.sl (u.funcs.map fnV) .ro]] mK ?_;exact hnext (m+1) (by omega) (by omega) (hK.succ hlt b)
 obtain rfl:m=u.funcs.length:=by omega
 clear hnext
 rw[hK.all]
 refine wG fJ (AI @Int.lt_irrefl @List.length_map.{0,0}) ?_
 exact aC
def Xk:=A16 @pA @cO @Db @dT @Rh @kA @Rc @pV @mP @xM @xL @Gq @xK @xJ @Qy (A6 @uQ @gZ @cN @Cu @dC @iB)
theorem Ua(s:Bs)(h:65536<s.length)(hs:s.length≤140737488355328):PC Tryz.prog 28 [.im (.string ⟨(s).toArray⟩)] (.tu [.sl [] .nl,(.im (.int .i64 (6)))]):=by
 have h':(s.length:Int)>65536:=by omega
 refine PC.enter 73 Tryz.func28 rfl (by decide) rfl rfl (s:=[(0,.im (.string ⟨(s).toArray⟩))]) (by rfl) ?_
 refine wG Xk (AI BY h') ?_
 refine aG (rs:=[.tmp 2,.tmp 3]) rfl (by first|exact .inl rfl|exact .inr rfl) (finG Xk) ?_
 all_goals exact wkG mK
theorem Hn{s:Bs}(h:65536<s.length):zI s=(uz0,6):=by
 have e:scnR s=([],6):=by unfold scnR;rw[if_pos h]
 unfold zI
 rw[e,if_pos (by decide)]
def Ct:=A9 @pY @Dc @tD @pW @wC @Xo @nY @Cv @sT
theorem OW(s:Bs)(h:65536<s.length)(hs:s.length≤140737488355328):PC Tryz.prog 13 [.im (.string ⟨(s).toArray⟩)] (.tu [unV (zI s).1,(.im (.int .i64 ((zI s).2)))]):=by
 have h1:=Ua s h hs
 rw[Hn h]
 refine PC.enter 36 Tryz.func13 rfl (by decide) rfl rfl (s:=[(0,.im (.string ⟨(s).toArray⟩))]) (by rfl) ?_
 refine wG Ct TI ?_
 refine AR.callP h1 TI mK ?_
 refine goG Ct TI ?_
 refine wG Ct TI ?_
 refine aG (rs:=[.cell 2 27,.tmp 3]) rfl (by first|exact .inl rfl|exact .inr rfl) (finG Ct) ?_
 all_goals exact wkG mK
theorem OX(s:Bs)(hs:s.length≤140737488355328):PC Tryz.prog 13 [.im (.string ⟨(s).toArray⟩)] (.tu [unV (zI s).1,(.im (.int .i64 ((zI s).2)))]):=by
 by_cases h:65536<s.length
 ·exact OW s h hs
 ·exact Tz s (by omega)
end Go.Proofs.YtmbmmckagcdapaaGreatDoor
namespace Go.Proofs.YtmbmmckagcdapaaGreatDoor
theorem Aa{α β γ δ:Type}{f:α→γ}{f':β→γ}{g:α→δ}{g':β→δ}: ∀ {l:List α} {m:List β},l.map f=m.map f'→(∀x∈l,∀y∈m,f x=f' y→g x=g' y)→l.map g=m.map g'
 | [],[],_,_=>rfl
 | x::l,y::m,h,k=>by
  rw[List.map_cons,List.map_cons,List.cons.injEq]at h;rw[List.map_cons,List.map_cons,k x (by simp) y (by simp) h.1,Aa h.2 fun a ha b hb=>k a (by simp[ha]) b (by simp[hb])]
theorem wY{α:Type}{p q:α→Bool}{l m:List α}(h:l.map p=m.map q):l.all p=m.all q:=by
 have e: ∀(r:α→Bool) (l:List α),l.all r=(l.map r).all id:=fun r l=>by rw[List.all_map];rfl
 rw[e p,e q,h]
theorem Ab{α β γ:Type}{f:α→γ}{f':β→γ}{l:List α}{m:List β}(h:l.map f=m.map f'):l.length=m.length:=by
 have:=congrArg List.length h
 rwa [List.length_map,List.length_map]at this
theorem LI{a b:Ty}(h:tyV a=tyV b):a.kind=b.kind∧a.size=b.size∧a.count=b.count∧a.elem.map tyV=b.elem.map tyV∧a.fields.map fdV=b.fields.map fdV:=by
 rw[bP,bP]at h
 injection h with h
 injection h with h1 h
 injection h with h2 h
 injection h with h3 h
 injection h with h4 h
 injection h with h5 h
 injection h1 with h1
 injection h1 with _ h1
 injection h2 with h2
 injection h2 with _ h2
 injection h3 with h3
 injection h3 with _ h3
 injection h4 with h4
 injection h5 with h5
 exact⟨h1,h2,h3,h4,h5⟩
theorem Lc{a b:Ty}(h:fdV a=fdV b):a.off=b.off∧tyV a=tyV b:=by
 rw[lX,lX]at h
 rw[bP,bP]
 injection h with h
 injection h with h1 h
 refine⟨?_,by rw[h]⟩
 injection h1 with h1
 injection h1 with _ h1
theorem AU: ∀a b:Ty,tyV a=tyV b→(∀n,shal a n=shal b n)∧siz a=siz b∧frm a=frm b∧wit a=wit b:=by
 refine Ty.induct fun o k s c es fs hE hF=> ?_
 intro b h
 obtain⟨o',k',s',c',es',fs'⟩:=b
 obtain⟨h1,h2,h3,h4,h5⟩:=LI h
 simp only[Ty.kind,Ty.size,Ty.count,Ty.elem,Ty.fields]at h1 h2 h3 h4 h5
 subst h1 h2 h3
 have le:=Ab h4
 have lf:=Ab h5
 have off:fs.map Ty.off=fs'.map Ty.off:=Aa h5 fun x hx y hy e=>(Lc e).1
 have qe: ∀ {δ:Type} {g:Ty→δ},(∀x∈es,∀y,tyV x=tyV y→g x=g y)→es.map g=es'.map g:=fun hg=>Aa h4 fun x hx y hy e=>hg x hx y e
 have qf: ∀ {δ:Type} {g:Ty→δ},(∀x∈fs,∀y,x.off=y.off→tyV x=tyV y→g x=g y)→fs.map g=fs'.map g:=fun hg=>Aa h5 fun x hx y hy e=>hg x hx y (Lc e).1 (Lc e).2
 have hs:siz (.mk o k s c es fs)=siz (.mk o' k s c es' fs'):=by
  rw[Dt,Dt,qe (g:=siz) fun x hx y e=>(hE x hx y e).2.1,qf (g:=fun f=>f.off+siz f) fun x hx y e1 e=>by rw[e1,(hF x hx y e).2.1]]
 refine⟨fun n=> ?_,hs,?_,?_⟩
 ·rw[rS,rS,wY (qe (g:=fun t=>shal t (n-1)) fun x hx y e=>(hE x hx y e).1 _),wY (qf (g:=fun t=>shal t (n-1)) fun x hx y _ e=>(hF x hx y e).1 _)]
 ·have ha:asc fs=asc fs':=by
   have hk:fok fs=fok fs':=by funext i;unfold fok;rw[off]
   unfold asc;rw[hk,lf]
  rw[wU,wU,le,lf,ha,wY (qe (g:=frm) fun x hx y e=>(hE x hx y e).2.2.1),wY (qf (g:=frm) fun x hx y _ e=>(hF x hx y e).2.2.1)]
 ·rw[Df,Df,lf,hs,wY (qe (g:=wit) fun x hx y e=>(hE x hx y e).2.2.2),wY (qf (g:=wit) fun x hx y _ e=>(hF x hx y e).2.2.2)]
theorem YD{a b:Ty}(h:tyV a=tyV b):chk a=chk b:=by
 obtain⟨h1,_,h3,h4⟩:=AU a b h
 unfold chk
 rw[h1,h3,h4]
theorem Vf{a b:Va}(h:vaV a=vaV b):a.name=b.name∧tyV a.ty=tyV b.ty:=by
 rw[qA,qA]at h
 rw[bP,bP]
 injection h with h
 injection h with h1 h
 refine⟨?_,by rw[h]⟩
 injection h1 with h1
 injection h1
def nmE(l m:List Va):Prop:=l.map Va.name=m.map Va.name
theorem Sp{l m:List Va}(h:l.map vaV=m.map vaV):nmE l m:=Aa h fun x _ y _ e=>(Vf e).1
theorem Vt{a b c d:List Va}(h:nmE a b)(k:nmE c d):nmE (a++c) (b++d):=by unfold nmE at *;rw[List.map_append,List.map_append,h,k]
theorem GO{l m:List Va}(h:nmE l m):has l=has m:=by
 funext s
 have e: ∀l:List Va,has l s=(l.map Va.name).any fun n=>eqS n s:=fun l=>by unfold has;rw[List.any_map];rfl
 rw[e,e,h]
theorem XD{l m:List Va}(h:nmE l m):knw l=knw m:=by
 funext e
 induction e using Ex.induct with
 | h o n s w es ih =>
 rw[Su,Su,GO h]
 have:es.all (knw l)=es.all (knw m):=wY (List.map_congr_left ih)
 rw[this]
theorem EU{l m:List Va}(h:nmE l m)(fs ls:List ByteArray): ∀(q:List (Nd×Bool)) (sn:List ByteArray),runS l fs ls sn q=runS m fs ls sn q
 | [],_=>rfl
 | p::r,sn=>by
  have hc:chk1 l fs ls sn p=chk1 m fs ls sn p:=by unfold chk1 symT;rw[XD h,GO h]
  rw[uY,uY,hc,EU h fs ls r]
theorem Rn: ∀ {l m s t:List Va},l.map vaV=m.map vaV→nmE s t→vErr s l=vErr t m
 | [],[],s,t,_,_=>by rw[vErr,vErr]
 | x::l,y::m,s,t,h,k=>by
  rw[List.map_cons,List.map_cons,List.cons.injEq]at h;obtain⟨e1,e2⟩:=Vf h.1;have h1:nmE [x] [y]:=by show [x.name]=[y.name];rw[e1]
  rw[vErr,vErr,e1,GO k,YD e2,Rn h.2 (Vt k h1)]
theorem OY{gs gs':List Va}{f g:Fun}(hg:gs.map vaV=gs'.map vaV)(h:fnQ f=fnQ g)(fs:List ByteArray):bodyE gs f fs=bodyE gs' g fs:=by
 unfold fnQ at h
 rw[Prod.mk.injEq,Prod.mk.injEq]at h
 obtain⟨h1,h2,h3⟩:=h
 unfold bodyE
 rw[Ab hg,Ab h2,Rn h2 (Sp hg),h3,EU (Vt (Sp hg) (Sp h2))]
theorem GW{f g:Fun}(h:fnQ f=fnQ g):f.name=g.name:=(Prod.mk.inj h).1
theorem QS: ∀ {l m:List Fun} (s:List ByteArray),l.map fnQ=m.map fnQ→fnE s l=fnE s m
 | [],[],s,_=>rfl
 | x::l,y::m,s,h=>by
  rw[List.map_cons,List.map_cons,List.cons.injEq]at h;rw[fnE,fnE,GW h.1,QS _ h.2]
theorem QW{gs gs':List Va}(hg:gs.map vaV=gs'.map vaV)(fs:List ByteArray): ∀ {l m:List Fun},l.map fnQ=m.map fnQ→bdE gs fs l=bdE gs' fs m
 | [],[],_=>rfl
 | x::l,y::m,h=>by
  rw[List.map_cons,List.map_cons,List.cons.injEq]at h;rw[bdE,bdE,OY hg h.1,QW hg fs h.2]
theorem WF{u v:Un}(h:unQ u=unQ v):unE u=unE v:=by
 unfold unQ at h
 rw[Prod.mk.injEq,Prod.mk.injEq]at h
 obtain⟨h1,h2,h3⟩:=h
 have h4:u.funcs.map Fun.name=v.funcs.map Fun.name:=Aa h3 fun x _ y _ e=>GW e
 unfold unE
 rw[Ab h1,h2,Ab h3,Rn h1 (s:=[]) (t:=[]) rfl,QS [] h3,h4,QW h1 _ h3]
end Go.Proofs.YtmbmmckagcdapaaGreatDoor
namespace Go.Proofs.YtmbmmckagcdapaaGreatDoor
open Go.RowKit
theorem RA{u:Un}(h:unE u=0):uniT u≠[]:=by
 intro e
 have hf:u.funcs.length≠0:=fun h0=>by
  unfold unE at h;rcases aI h with ⟨_,h⟩|⟨_,h⟩
  ·cases h
  ·rw[if_pos h0]at h;cases h
 cases hl:u.funcs with
 | nil=>rw[hl]at hf;exact hf rfl
 | cons f r =>
  have e:(uniT u).length=0:=by rw[e];rfl
  unfold uniT at e;rw[hl,List.map_cons,List.flatten_cons]at e;unfold funT at e;simp only[List.length_append,mR]at e;omega
def dB:=A4 @pY @tD @nY @iB
def kP:=A15 @aD @aO @aE @aQ aW aH @bS @bU @bT @bV eO gA kL oN tQ
theorem VB(u:Un)(hu:fitU u)(hd: ∀d∈u.data,d.data.length≤4194304)(hA: ∀d∈u.data,0≤d.addr∧d.addr<4294967296):PC Tryz.prog 11 [unV u] (.im (.bool (true))):=by
 have qx:=YJ
 have q1:=IK u hu hd
 have q2:=uH u hu
 cases b:smU u with
 | false =>
  rw[b]at q1;rw[kJ]at q1 ⊢;refine PC.enter 40 Tryz.func11 rfl (by decide) rfl rfl (s:=[(0,.ag [.sl (u.globals.map vaV) .ro,.sl (u.data.map scV) .ro,.sl (u.funcs.map fnV) .ro])]) (by rfl) ?_
  refine wG dB TI ?_;refine AR.callP q1 TI kP ?_;refine goG dB TI ?_;refine wG dB TI ?_;refine AR.callP qx TI kP ?_;refine goG dB TI ?_;refine wG dB TI ?_;exact aC
 | true =>
 rw[b]at q1
 by_cases he:unE u=0
 case neg =>
  rw[kJ]at q1 q2 ⊢;refine PC.enter 40 Tryz.func11 rfl (by decide) rfl rfl (s:=[(0,.ag [.sl (u.globals.map vaV) .ro,.sl (u.data.map scV) .ro,.sl (u.funcs.map fnV) .ro])]) (by rfl) ?_
  refine wG dB TI ?_;refine AR.callP q1 TI kP ?_;refine goG dB TI ?_;refine AR.callP q2 TI kP ?_;refine goG dB he ?_;refine wG dB he ?_;refine AR.callP qx TI kP ?_;refine goG dB TI ?_;refine wG dB TI ?_;exact aC
 rw[he]at q2
 obtain⟨k1,k2,k3,k4,k5⟩:=LF hu hA he
 have hlen:=CQ k1 k2 k3 b
 have q3:=CA u hu k1 hd (fun f hf=>(k4 f hf).1) k5 he (RA he) (by omega)
 have hlaw:= @Xz u k1
 have qs:=OH u hu hd
 rw[kJ]at q1 q2 q3 qs ⊢
 generalize uniT u=s at q3 hlen hlaw
 have q4:=OX s (by omega)
 by_cases hl:65536<s.length
 ·have hl':(s.length:Int)>65536:=by omega
  rw[Hn hl]at q4;simp only[kJ,uz0,List.map_nil]at q4;refine PC.enter 40 Tryz.func11 rfl (by decide) rfl rfl (s:=[(0,.ag [.sl (u.globals.map vaV) .ro,.sl (u.data.map scV) .ro,.sl (u.funcs.map fnV) .ro])]) (by rfl) ?_
  refine wG dB TI ?_;refine AR.callP q1 TI kP ?_;refine goG dB TI ?_;refine AR.callP q2 TI kP ?_;refine goG dB TI ?_;refine wG dB TI ?_;refine AR.callP q3 TI kP ?_;refine goG dB TI ?_;refine wG dB TI ?_;refine AR.callP q4 TI kP ?_;refine goG dB TI ?_;refine wG dB (AI BY hl') ?_;refine AR.callP qx TI kP ?_;refine goG dB TI ?_;refine wG dB TI ?_;exact aC
 have hl': ¬(s.length:Int)>65536:=by omega
 obtain⟨v,hv,e1⟩:=hlaw (by omega)
 have e2:unE v=unE u:=WF hv
 rw[e1,e2,he,if_neg (by decide)]at q4
 simp only at q4
 rw[WE hv,kJ]at q4
 refine PC.enter 40 Tryz.func11 rfl (by decide) rfl rfl (s:=[(0,.ag [.sl (u.globals.map vaV) .ro,.sl (u.data.map scV) .ro,.sl (u.funcs.map fnV) .ro])]) (by rfl) ?_
 refine wG dB TI ?_
 refine AR.callP q1 TI kP ?_
 refine goG dB TI ?_
 refine AR.callP q2 TI kP ?_
 refine goG dB TI ?_
 refine wG dB TI ?_
 refine AR.callP q3 TI kP ?_
 refine goG dB TI ?_
 refine wG dB TI ?_
 refine AR.callP q4 TI kP ?_
 refine goG dB TI ?_
 refine wG dB (AI BY hl') ?_
 refine AR.callP qs TI kP ?_
 refine goG dB TI ?_
 refine AR.callP qx TI kP ?_
 refine goG dB TI ?_
 refine wG dB TI ?_
 exact aC
end Go.Proofs.YtmbmmckagcdapaaGreatDoor
