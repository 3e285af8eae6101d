import Derived.Test.YtmbmmckagcdapaaGreatDoorN11
import Derived.Test.YtmbmmckagcdapaaGreatDoorN19
import Derived.Test.YtmbmmckagcdapaaGreatDoorN02
set_option linter.all false
namespace Go.Proofs.YtmbmmckagcdapaaGreatDoor
open Go.RowKit
theorem IE{k s c:Int}{ne nf:Nat}(h:base k s c ne nf=true):ne=0∨ne=1:=by
 rcases oB h with h|h|h|h|h<;>omega
def iT:=A14 @tY @vJ @sL @iK @qQ @sI @sH @lZ @nM @jU @oH @uW @nG @iI
set_option maxHeartbeats 1000000 in
theorem GZ: ∀(t:Ty),fit t→frm t=true→PC Tryz.prog 159 [tyV t] (.im (.bool (wit t))):=by
 refine Ty.induct fun o k s c es fs hE hF=> ?_
 intro hfit hfrm
 obtain⟨hl1,hl2,hfE,hfF⟩:=nU hfit
 obtain⟨hb,hof,hfs,hes⟩:=rC hfrm
 have hs:=TG _ hfit hfrm
 refine PC.enter 37 Tryz.func159 rfl (by decide) rfl rfl (s:=[(0,tyV (.mk o k s c es fs))]) (by rfl) ?_
 simp only[eP]
 by_cases h1:(fs.length:Int)>64
 ·have e:wit (.mk o k s c es fs)=false:=by rw[Cm];simp;omega
  rw[e];refine wG iT h1 ?_;exact aD
 refine wG iT h1 ?_
 refine AR.callP hs @eP TI ?_
 by_cases h2:siz (.mk o k s c es fs)>65536
 ·have e:wit (.mk o k s c es fs)=false:=by rw[Cm];simp;omega
  rw[e];refine goG iT (AI h1 h2) ?_;refine wG iT TI ?_;exact aD
 refine goG iT (AI h1 h2) ?_
 have e0:wit (.mk o k s c es fs)=(fs.all wit&&es.all wit):=by
  rw[Cm];have a1:decide (fs.length≤64)=true:=by simp;omega
  have a2:decide (siz (.mk o k s c es fs)≤65536)=true:=by simp;omega
  rw[a1,a2];simp
 rw[e0]
 clear hs h2 e0
 refine wG iT TI ?_
 refine aW ?_
 refine ALp.cutP 1 [(0,.ag [.im (.int .i64 k),.im (.int .i64 s),.im (.int .i64 c),.sl (es.map tyV) .ro,.sl (fs.map fdV) .ro]),(1,.pt 0 0),(15,.sl (fs.map fdV) .ro),(16,(.im (.int .i64 (fs.length)))),(17,(.im (.int .i64 ((((0:Nat)):Int)))))] [.box [.im (.int .i64 k),.im (.int .i64 s),.im (.int .i64 c),.sl (es.map tyV) .ro,.sl (fs.map fdV) .ro]] TI ?_
 refine ALp.upto fs.length (AllTo wit fs) (fun m=>⟨dn 37 [(0,.ag [.im (.int .i64 k),.im (.int .i64 s),.im (.int .i64 c),.sl (es.map tyV) .ro,.sl (fs.map fdV) .ro]),(1,.pt 0 0),(15,.sl (fs.map fdV) .ro),(16,(.im (.int .i64 (fs.length)))),(17,(.im (.int .i64 ((((m:Nat)):Int)))))],ofl [.box [.im (.int .i64 k),.im (.int .i64 s),.im (.int .i64 c),.sl (es.map tyV) .ro,.sl (fs.map fdV) .ro]]⟩) ?_ 0 (Nat.zero_le _) (AllTo.zero _ _)
 intro m hm hI hnext
 by_cases hlt:m<fs.length
 ·have hlt':(m:Int)<(fs.length:Int):=by omega
  have hg:=bJ hlt;have hm1:=aT hlt (by omega)
  have hc:=hF fs[m] (List.getElem_mem hlt) (hfF _ (List.getElem_mem hlt)) (hfs _ (List.getElem_mem hlt));refine wG iT (A16 @eI @eL @dG @dI @eG @eF @eH @dH @dT @dS @eK @dJ @List.getElem?_map.{0,0} @Int.natCast_nonneg hlt' (AI hg hm1)) ?_
  by_cases b:wit fs[m]=true
  ·rw[b]at hc
   refine AR.callP hc @cF TI ?_;refine goG iT TI ?_;refine wG iT hm1 ?_;refine ALp.cutP 1 [(0,.ag [.im (.int .i64 k),.im (.int .i64 s),.im (.int .i64 c),.sl (es.map tyV) .ro,.sl (fs.map fdV) .ro]),(1,.pt 0 0),(15,.sl (fs.map fdV) .ro),(16,(.im (.int .i64 (fs.length)))),(17,(.im (.int .i64 ((((m+1:Nat)):Int)))))] [.box [.im (.int .i64 k),.im (.int .i64 s),.im (.int .i64 c),.sl (es.map tyV) .ro,.sl (fs.map fdV) .ro]] TI ?_;exact hnext (m+1) (by omega) (by omega) (hI.succ hlt b)
  ·have b:wit fs[m]=false:=by simpa using b
   rw[b]at hc;refine AR.callP hc @cF TI ?_;refine goG iT TI ?_;refine wG iT hm1 ?_;rw[nR hlt b,Bool.false_and];exact aD
 ·have hall:=hI.done (by omega)
  have hlt': ¬(m:Int)<(fs.length:Int):=by omega
  clear hnext hI hm hlt;rw[hall,Bool.true_and];rcases IE hb with he|he
  ·obtain rfl:=List.length_eq_zero_iff.1 he
   refine wG iT hlt' ?_;exact aD
  ·obtain⟨x,rfl⟩:=List.length_eq_one_iff.1 he
   have hc:=hE x (by simp) (hfE x (by simp)) (hes x (by simp))
   refine wG iT (A15 @eI @eL @dG @dI @eG @eF @eH @dH @dT @dS @eK @dJ @List.getElem?_map.{0,0} @Int.natCast_nonneg hlt') ?_;refine AR.callP hc @cF TI ?_;refine goG iT TI ?_;simp only[List.all_cons,List.all_nil,Bool.and_true];refine wG iT TI ?_;exact aD
def lT:=AI @iK @iI
theorem RU:I64 64:=by unfold I64;omega
theorem Vr(t:Ty)(hfit:fit t):PC Tryz.prog 89 [tyV t] (.im (.int .i64 (chk t))):=by
 have h1:=Zu t hfit 64 RU
 have h2:=HU t hfit
 have h3:frm t=true→_:=GZ t hfit
 refine PC.enter 15 Tryz.func89 rfl (by decide) rfl rfl (s:=[(0,tyV t)]) (by rfl) ?_
 simp only[cF]
 unfold chk
 refine wG lT TI ?_
 by_cases b1:shal t 64=true
 case neg =>
  have b1:shal t 64=false:=by simpa using b1
  rw[b1]at h1 ⊢;refine AR.callP h1 @cF TI ?_;refine goG lT TI ?_;refine wG lT TI ?_;exact aD
 rw[b1]at h1 ⊢
 refine AR.callP h1 @cF TI ?_
 refine goG lT TI ?_
 refine wG lT TI ?_
 by_cases b2:frm t=true
 case neg =>
  have b2:frm t=false:=by simpa using b2
  rw[b2]at h2 ⊢;refine AR.callP h2 @cF TI ?_;refine goG lT TI ?_;refine wG lT TI ?_;exact aD
 have h3:=h3 b2
 rw[b2]at h2 ⊢
 refine AR.callP h2 @cF TI ?_
 refine goG lT TI ?_
 refine wG lT TI ?_
 by_cases b3:wit t=true
 case neg =>
  have b3:wit t=false:=by simpa using b3
  rw[b3]at h3 ⊢;refine AR.callP h3 @cF TI ?_;refine goG lT TI ?_;refine wG lT TI ?_;exact aD
 rw[b3]at h3 ⊢
 refine AR.callP h3 @cF TI ?_
 refine goG lT TI ?_
 refine wG lT TI ?_
 exact aD
def Lb:=AI @iK @iI
theorem TP(t:Ty)(hfit:fit t):PC Tryz.prog 147 [tyV t] (.im (.bool (good t))):=by
 have h1:=Vr t hfit
 refine PC.enter 6 Tryz.func147 rfl (by decide) rfl rfl (s:=[(0,tyV t)]) (by rfl) ?_
 simp only[cF]
 have e:good t=decide (chk t=0):=rfl
 rw[e]
 refine wG Lb TI ?_
 refine AR.callP h1 @cF TI ?_
 refine goG Lb TI ?_
 refine wG Lb TI ?_
 exact aD
theorem Jo(c:List Nd):nlV c= .sl (c.map ndV) .ro:=rfl
theorem RH(l:List (List Nd)):jZ 1 (l.map nlV)=true:=by
 unfold jZ
 rw[List.all_map]
 exact List.all_eq_true.2 fun x _=>rfl
theorem Ee{t:Nd}(h:fitN t):(subs t).length≤4194306∧ ∀c∈subs t,lN c:=by
 obtain⟨_,_,_,h4,h5,h6,h7⟩:=dR h
 refine⟨by simp[subs];omega,fun c hc=> ?_⟩
 unfold subs at hc
 rcases List.mem_cons.1 hc with rfl|hc
 ·exact h4
 ·rcases List.mem_cons.1 hc with rfl|hc
  ·exact h5
  ·exact h7 c hc
def Bv:=A11 @oK @kL @JD @Ll @lK @Pv @mC @mB @mA @oI @jH
theorem Vn(t:Nd)(ht:t.cs.length≤4194304):PC Tryz.prog 161 [ndV t] (.sl ((subs t).map nlV) .ro):=by
 obtain⟨k,w,n,e,l,el,cs⟩:=t
 have ht:cs.length≤4194304:=ht
 have h:=AF (xss:=[[nlV l,nlV el],cs.map nlV]) (by simp) (by
  intro xs hx;simp only[List.mem_cons,List.not_mem_nil,or_false]at hx;rcases hx with rfl|rfl
  ·rfl
  ·exact RH cs) (by
  intro p xs hx;simp only[List.mem_cons,List.not_mem_nil,or_false]at hx;rcases hx with rfl|rfl
  ·simp only[V.idsL,aZ,Bool.and_self]
  ·exact aK p cs) (by simp;omega)
 have e1:[[nlV l,nlV el],cs.map nlV].flatten=(subs (.mk k w n e l el cs)).map nlV:=by simp[subs,Nd.l,Nd.el,Nd.cs]
 rw[e1]at h
 simp only[List.map_cons,List.map_nil]at h
 refine PC.enter 12 Tryz.func161 rfl (by decide) rfl rfl (s:=[(0,ndV (.mk k w n e l el cs))]) (by rfl) ?_
 rw[eR]
 refine wG Bv TI ?_
 refine dD h TI (A4 aV aJ aK aZ) ?_
 refine goG Bv TI ?_
 refine wG Bv TI ?_
 refine aI (rs:=[.tmp 2]) rfl (by first|exact .inl rfl|exact .inr rfl) (finG Bv) ?_
 all_goals exact wkG (A4 aV aJ aK aZ)
theorem RO{α:Type}(f:α→Int){l:List α}{m:Nat}(h:m<l.length):(if f l[m]>mx ((l.take m).map f)then f l[m]else mx ((l.take m).map f))=mx ((l.take (m+1)).map f):=by
 rw[←Uq f h]
 split<;>omega
theorem LB{α:Type}(f:α→Int){l:List α}{m:Nat}(h:m<l.length):(if 1+f l[m]>1+mx ((l.take m).map f)then 1+f l[m]else 1+mx ((l.take m).map f))=1+mx ((l.take (m+1)).map f):=by
 rw[←Uq f h]
 split<;>omega
def pO:=A7 @jB @kL @kD @lK @pD @iA @jH
theorem NG: ∀l:List Nd,lN l→cnt l≤4194304→PC Tryz.prog 94 [.sl (l.map ndV) .ro] (.im (.int .i64 (dep l))):=by
 refine mR fun l hl hf hc=> ?_
 have hl1:=hf.1
 show PC _ _ _ (.im (.int .i64 (mx (l.map depT))))
 refine PC.enter 33 Tryz.func94 rfl (by decide) rfl rfl (s:=[(0,.sl (l.map ndV) .ro)]) (by rfl) ?_
 refine wG pO TI ?_
 refine aW ?_
 refine ALp.cutP 0 [(3,(.im (.int .i64 (mx ((l.take (0)).map depT))))),(9,.sl (l.map ndV) .ro),(10,(.im (.int .i64 (l.length)))),(11,(.im (.int .i64 ((((0:Nat)):Int)))))] [] (A4 aV aJ aK aZ) ?_
 refine ALp.upto l.length (fun _=>True) (fun m=>⟨dn 33 [(3,(.im (.int .i64 (mx ((l.take (m)).map depT))))),(9,.sl (l.map ndV) .ro),(10,(.im (.int .i64 (l.length)))),(11,(.im (.int .i64 ((((m:Nat)):Int)))))],ofl []⟩) ?_ 0 (Nat.zero_le _) trivial
 intro m hm _ hnext
 by_cases hlt:m<l.length
 ·have hlt':(m:Int)<(l.length:Int):=by omega
  have hm1:=aT hlt (by omega)
  have hg:=bJ hlt;have ht:=hf.2 _ (List.getElem_mem hlt);have hx:=Vn l[m] (dR ht).2.2.2.2.2.1;obtain⟨hs1,hs2⟩:=Ee ht;have hcs: ∀c∈subs l[m],1+cnt c≤cnt l:=fun c hc=>Vh (List.getElem_mem hlt) hc
  have hR:=fun c hc'=>hl l[m] (List.getElem_mem hlt) c hc' (hs2 c hc') (by have:=hcs c hc';omega)
  have hmx:=RO depT hlt;rw[Bn]at hmx;generalize subs l[m]=sb at hx hs1 hs2 hcs hR hmx;refine wG pO (A3 hlt' hg ND) ?_;refine AR.callP hx eS (A4 aV aJ aK aZ) ?_;refine goG pO @List.length_map.{0,0} ?_;refine wG pO @List.length_map.{0,0} ?_;refine aW ?_;refine ALp.cutP 0 [(3,(.im (.int .i64 (mx ((l.take m).map depT))))),(6,(.im (.int .i64 (1+mx ((sb.take (0)).map dep))))),(9,.sl (l.map ndV) .ro),(10,(.im (.int .i64 (l.length)))),(11,(.im (.int .i64 ((m:Int))))),(16,.sl (sb.map nlV) .ro),(17,(.im (.int .i64 (sb.length)))),(18,(.im (.int .i64 ((((0:Nat)):Int)))))] [] (A4 aV aJ aK aZ) ?_;refine ALp.upto sb.length (fun _=>True) (fun j=>⟨dn 33 [(3,(.im (.int .i64 (mx ((l.take m).map depT))))),(6,(.im (.int .i64 (1+mx ((sb.take (j)).map dep))))),(9,.sl (l.map ndV) .ro),(10,(.im (.int .i64 (l.length)))),(11,(.im (.int .i64 ((m:Int))))),(16,.sl (sb.map nlV) .ro),(17,(.im (.int .i64 (sb.length)))),(18,(.im (.int .i64 ((((j:Nat)):Int)))))],ofl []⟩) ?_ 0 (Nat.zero_le _) trivial
  intro j hj _ hnext2
  by_cases hlu:j<sb.length
  ·have hlu':(j:Int)<(sb.length:Int):=by omega
   have hj1:=aT hlu (by omega)
   have hg2:=bJ hlu;have hc2:=hR sb[j] (List.getElem_mem hlu);have hd0:=rH sb[j];have hd1:=Rw sb[j];have hd2:=hcs sb[j] (List.getElem_mem hlu);have hw:IntKind.i64.wrap (1+dep sb[j])=1+dep sb[j]:=dL (by omega)
   have hmx2:=LB dep hlu;refine wG pO (A3 hlu' hg2 ND) ?_;refine AR.callP hc2 Jo (A4 aV aJ aK aZ) ?_;refine goG pO (AI hw hmx2) ?_;refine wG pO hj1 ?_;refine ALp.cutP 0 [(3,(.im (.int .i64 (mx ((l.take m).map depT))))),(6,(.im (.int .i64 (1+mx ((sb.take (j+1)).map dep))))),(9,.sl (l.map ndV) .ro),(10,(.im (.int .i64 (l.length)))),(11,(.im (.int .i64 ((m:Int))))),(16,.sl (sb.map nlV) .ro),(17,(.im (.int .i64 (sb.length)))),(18,(.im (.int .i64 ((((j+1:Nat)):Int)))))] [] (A4 aV aJ aK aZ) ?_;exact hnext2 (j+1) (by omega) (by omega) trivial
  obtain rfl:j=sb.length:=by omega
  clear hnext2;rw[List.take_length];refine whG pO @Int.lt_irrefl ?_;refine Blk'.here (Thn.n ?_);refine wG pO (AI hmx hm1) ?_;refine ALp.cutP 0 [(3,(.im (.int .i64 (mx ((l.take (m+1)).map depT))))),(9,.sl (l.map ndV) .ro),(10,(.im (.int .i64 (l.length)))),(11,(.im (.int .i64 ((((m+1:Nat)):Int)))))] [] (A4 aV aJ aK aZ) ?_;exact hnext (m+1) (by omega) (by omega) trivial
 obtain rfl:m=l.length:=by omega
 clear hnext
 rw[List.take_length]
 refine wG pO @Int.lt_irrefl ?_
 exact aD
def BN09:=A15 Du zE tI tH xH uG Ds zC Dq Dp Dr zD Jo @List.getElem?_map.{0,0} @Int.natCast_nonneg
def plV(p:Nd×Bool):V:= .ag [.im (.int .i64 p.1.kind),.im (.int .i64 p.1.width),.im (.string p.1.name),.sl (p.1.e.map exV) .ro,.sl (p.1.l.map ndV) .ro,.sl (p.1.el.map ndV) .ro,.sl (p.1.cs.map nlV) .ro,.im (.bool p.2)]
theorem mY(p:Nd×Bool):plV p= .ag [.im (.int .i64 p.1.kind),.im (.int .i64 p.1.width),.im (.string p.1.name),.sl (p.1.e.map exV) .ro,.sl (p.1.l.map ndV) .ro,.sl (p.1.el.map ndV) .ro,.sl (p.1.cs.map nlV) .ro,.im (.bool p.2)]:=rfl
theorem Nc(p:Nd×Bool):(plV p).live=true:=rfl
theorem Nb(p:Nd×Bool):(plV p).size=8:=rfl
theorem Nf(p:Nd×Bool):(plV p).isAg=true:=rfl
theorem Ng(p:Nd×Bool):(plV p).firm=true:=rfl
theorem He(g:Bool)(p:Nd×Bool):strip g (plV p)=plV p:=rfl
theorem Hf(p:Nd×Bool):(plV p).cells=[.im (.int .i64 p.1.kind),.im (.int .i64 p.1.width),.im (.string p.1.name),.sl (p.1.e.map exV) .ro,.sl (p.1.l.map ndV) .ro,.sl (p.1.el.map ndV) .ro,.sl (p.1.cs.map nlV) .ro,.im (.bool p.2)]:=rfl
theorem gQ(p:Nat→Bool)(x:Nd×Bool):(plV x).ids p=true:=by simp[plV,V.ids,V.idsL,aC,aJ,aK]
theorem fU(p:Nat→Bool)(l:List (Nd×Bool)):V.idsL p (l.map plV)=true:=fY (gQ p) l
theorem EJ(l:List (Nd×Bool)):jZ 8 (l.map plV)=true:=by
 unfold jZ
 rw[List.all_map]
 exact List.all_eq_true.2 fun x _=>rfl
theorem rE{α β:Type}(f:α→List β){l:List α}{m:Nat}(h:m<l.length):(l.take m).flatMap f++f l[m]=(l.take (m+1)).flatMap f:=by
 rw[List.take_succ_eq_append_getElem h,List.flatMap_append]
 simp
theorem vZ{α β:Type}(f:α→List β)(l:List α)(m:Nat):((l.take m).flatMap f).length≤(l.flatMap f).length:=by
 have h:l.flatMap f=(l.take m).flatMap f++(l.drop m).flatMap f:=by rw[←List.flatMap_append,List.take_append_drop]
 rw[h,List.length_append]
 omega
def oD:=A15 @jB @cN @kL @kD @Qa @IV @Px @lK @pD @iE @IS @iA @Ps @cM @jH
theorem WL: ∀l:List Nd,lN l→cnt l≤4194304→ ∀lp:Bool,PC Tryz.prog 95 [.sl (l.map ndV) .ro,(.im (.bool (lp)))] (.sl ((allL l lp).map plV) .ro):=by
 refine mR fun l hl hf hc lp=> ?_
 have hl1:=hf.1
 have hlen:=Pl l lp
 unfold allL at hlen ⊢
 refine PC.enter 47 Tryz.func95 rfl (by decide) rfl rfl (s:=[(0,.sl (l.map ndV) .ro),(1,(.im (.bool (lp))))]) (by rfl) ?_
 refine wG oD TI ?_
 refine aW ?_
 refine ALp.ghost 5 [] .nl 167 8 ?_
 refine ALp.cutP 1 [(1,(.im (.bool (lp)))),(5,.sl (((l.take (0)).flatMap fun t=>allT t lp).map plV) (.own 0)),(10,.sl (l.map ndV) .ro),(11,(.im (.int .i64 (l.length)))),(12,(.im (.int .i64 ((((0:Nat)):Int)))))] [.tip 167 8 ((l.take (0)).flatMap fun t=>allT t lp).length] (A7 aV aJ aK aZ gQ fU @aC) ?_
 refine ALp.upto l.length (fun _=>True) (fun m=>⟨dn 47 [(1,(.im (.bool (lp)))),(5,.sl (((l.take (m)).flatMap fun t=>allT t lp).map plV) (.own 0)),(10,.sl (l.map ndV) .ro),(11,(.im (.int .i64 (l.length)))),(12,(.im (.int .i64 ((((m:Nat)):Int)))))],ofl [.tip 167 8 ((l.take (m)).flatMap fun t=>allT t lp).length]⟩) ?_ 0 (Nat.zero_le _) trivial
 intro m hm _ hnext
 by_cases hlt:m<l.length
 ·have hlt':(m:Int)<(l.length:Int):=by omega
  have hm1:=aT hlt (by omega)
  have hg:=bJ hlt;have ht:=hf.2 _ (List.getElem_mem hlt);have hx:=Vn l[m] (dR ht).2.2.2.2.2.1;obtain⟨hs1,hs2⟩:=Ee ht;have hcs: ∀c∈subs l[m],1+cnt c≤cnt l:=fun c hc=>Vh (List.getElem_mem hlt) hc
  have hR:=fun c hc'=>hl l[m] (List.getElem_mem hlt) c hc' (hs2 c hc') (by have:=hcs c hc';omega) (inL l[m] lp)
  have hsn:=rE (fun t=>allT t lp) hlt
  have hle:=vZ (fun t=>allT t lp) l (m+1)
  have hle0:=vZ (fun t=>allT t lp) l m
  simp only[Bq l[m]]at hsn;generalize hA:(l.take m).flatMap (fun t=>allT t lp)=A at hsn hle0 ⊢
  generalize hsb:subs l[m]=sb at hx hs1 hs2 hcs hR hsn;obtain⟨Bf,hBf⟩: ∃Bf:Nat→List (Nd×Bool),∀j,Bf j=A++(l[m],lp)::(sb.take j).flatMap fun c=>allL c (inL l[m] lp):=⟨_,fun _=>rfl⟩
  have hap:A.map plV++[.ag [.im (.int .i64 l[m].kind),.im (.int .i64 l[m].width),.im (.string l[m].name),.sl (l[m].e.map exV) .ro,.sl (l[m].l.map ndV) .ro,.sl (l[m].el.map ndV) .ro,.sl (l[m].cs.map nlV) .ro,.im (.bool lp)]]=(Bf 0).map plV:=by
   rw[hBf];simp[plV]
  have hone:A.length+1=(Bf 0).length:=by rw[hBf];simp
  have hend:Bf sb.length=(l.take (m+1)).flatMap fun t=>allT t lp:=by
   rw[hBf,List.take_length,←hsn]
  have hstep: ∀j (hj:j<sb.length),Bf j++allL sb[j] (inL l[m] lp)=Bf (j+1):=fun j hj=>by
   rw[hBf,hBf,←rE _ hj,List.append_assoc,List.cons_append]
  have hlen2: ∀j,(Bf j).length≤(Bf sb.length).length:=fun j=>by
   rw[hBf,hBf,List.length_append,List.length_append,List.length_cons,List.length_cons,List.take_length];have:=vZ (fun c=>allL c (inL l[m] lp)) sb j
   omega
  rw[hend]at hlen2;have hb:(A.length+1)*136≤140737488355328:=by omega
  have hb0:(Bf 0).length*136≤140737488355328:=by have:=hlen2 0;omega
  refine wG oD (A7 hlt' hg hb hb0 hap hone ND) ?_;refine AR.callP hx eS (A7 aV aJ aK aZ gQ fU @aC) ?_;refine goG oD (AI @List.length_map.{0,0} ND) ?_;refine wG oD (AI @List.length_map.{0,0} ND) ?_;refine aW ?_;refine ALp.cutP 2 [(1,(.im (.bool (lp)))),(5,.sl ((Bf (0)).map plV) (.own 0)),(7,.pt 1 0),(10,.sl (l.map ndV) .ro),(11,(.im (.int .i64 (l.length)))),(12,(.im (.int .i64 ((m:Int))))),(23,.sl (sb.map nlV) .ro),(24,(.im (.int .i64 (sb.length)))),(25,(.im (.int .i64 ((((0:Nat)):Int)))))] [.tip 167 8 (Bf (0)).length,.box [.im (.int .i64 l[m].kind),.im (.int .i64 l[m].width),.im (.string l[m].name),.sl (l[m].e.map exV) .ro,.sl (l[m].l.map ndV) .ro,.sl (l[m].el.map ndV) .ro,.sl (l[m].cs.map nlV) .ro]] (A7 aV aJ aK aZ gQ fU @aC) ?_;refine ALp.upto sb.length (fun _=>True) (fun j=>⟨dn 47 [(1,(.im (.bool (lp)))),(5,.sl ((Bf (j)).map plV) (.own 0)),(7,.pt 1 0),(10,.sl (l.map ndV) .ro),(11,(.im (.int .i64 (l.length)))),(12,(.im (.int .i64 ((m:Int))))),(23,.sl (sb.map nlV) .ro),(24,(.im (.int .i64 (sb.length)))),(25,(.im (.int .i64 ((((j:Nat)):Int)))))],ofl [.tip 167 8 (Bf (j)).length,.box [.im (.int .i64 l[m].kind),.im (.int .i64 l[m].width),.im (.string l[m].name),.sl (l[m].e.map exV) .ro,.sl (l[m].l.map ndV) .ro,.sl (l[m].el.map ndV) .ro,.sl (l[m].cs.map nlV) .ro]]⟩) ?_ 0 (Nat.zero_le _) trivial
  intro j hj _ hnext2
  by_cases hlu:j<sb.length
  ·have hlu':(j:Int)<(sb.length:Int):=by omega
   have hj1:=aT hlu (by omega)
   have hg2:=bJ hlu;have hc2:=hR sb[j] (List.getElem_mem hlu);have hs3:=congrArg (List.map plV) (hstep j hlu);rw[List.map_append]at hs3;have hs4:=congrArg List.length (hstep j hlu);rw[List.length_append]at hs4;have hb1:(Bf (j+1)).length*136≤140737488355328:=by have:=hlen2 (j+1);omega
   refine wG oD (A3 hlu' hg2 ND) ?_;have hin:inL l[m] lp=(lp||decide (l[m].kind=7)||decide (l[m].kind=8)):=rfl;refine AR.callP hc2 (AI Jo hin) (A7 aV aJ aK aZ gQ fU @aC) ?_;refine goG oD (A5 hs3 hs4 hb1 EJ @List.length_map.{0,0}) ?_;refine wG oD hj1 ?_;refine ALp.cutP 2 [(1,(.im (.bool (lp)))),(5,.sl ((Bf (j+1)).map plV) (.own 0)),(7,.pt 1 0),(10,.sl (l.map ndV) .ro),(11,(.im (.int .i64 (l.length)))),(12,(.im (.int .i64 ((m:Int))))),(23,.sl (sb.map nlV) .ro),(24,(.im (.int .i64 (sb.length)))),(25,(.im (.int .i64 ((((j+1:Nat)):Int)))))] [.tip 167 8 (Bf (j+1)).length,.box [.im (.int .i64 l[m].kind),.im (.int .i64 l[m].width),.im (.string l[m].name),.sl (l[m].e.map exV) .ro,.sl (l[m].l.map ndV) .ro,.sl (l[m].el.map ndV) .ro,.sl (l[m].cs.map nlV) .ro]] (A7 aV aJ aK aZ gQ fU @aC) ?_;exact hnext2 (j+1) (by omega) (by omega) trivial
  obtain rfl:j=sb.length:=by omega
  clear hnext2;rw[hend];refine whG oD @Int.lt_irrefl ?_;refine Blk'.here (Thn.n ?_);refine wG oD hm1 ?_;refine ALp.cutP 1 [(1,(.im (.bool (lp)))),(5,.sl (((l.take (m+1)).flatMap fun t=>allT t lp).map plV) (.own 0)),(10,.sl (l.map ndV) .ro),(11,(.im (.int .i64 (l.length)))),(12,(.im (.int .i64 ((((m+1:Nat)):Int)))))] [.tip 167 8 ((l.take (m+1)).flatMap fun t=>allT t lp).length] (A7 aV aJ aK aZ gQ fU @aC) ?_
  exact hnext (m+1) (by omega) (by omega) trivial
 obtain rfl:m=l.length:=by omega
 clear hnext
 rw[List.take_length]
 refine wG oD @Int.lt_irrefl ?_
 refine aI (rs:=[.tmp 4]) rfl (by first|exact .inl rfl|exact .inr rfl) (finG oD) ?_
 all_goals exact wkG (A7 aV aJ aK aZ gQ fU @aC)
def XB:=A7 aV aJ aK aZ gQ fU @aC
theorem NS{α β:Type}{p:α→β→Bool}{l:List α}{m:List β}(h:l.length≠m.length):all2 p l m=false:=by
 rw[←Bool.not_eq_true,tQ]
 exact fun k=>h k.1
theorem NT{α β:Type}{p:α→β→Bool}{l:List α}{m:List β}{i:Nat}(h1:i<l.length)(h2:i<m.length)(h:p l[i] m[i]=false):all2 p l m=false:=by
 rw[←Bool.not_eq_true,tQ]
 exact fun k=>by rw[k.2 i h1 h2]at h;cases h
def to2{α β:Type}(p:α→β→Bool)(l:List α)(k:List β)(m:Nat):Prop:= ∀j (h1:j<l.length) (h2:j<k.length),j<m→p l[j] k[j]=true
theorem to2.zero{α β:Type}(p:α→β→Bool)(l:List α)(k:List β):to2 p l k 0:=fun j _ _ h=>absurd h (Nat.not_lt_zero j)
theorem to2.succ{α β:Type}{p:α→β→Bool}{l:List α}{k:List β}{m:Nat}(h:to2 p l k m)(h1:m<l.length)(h2:m<k.length)(hp:p l[m] k[m]=true):to2 p l k (m+1):=fun j j1 j2 hj=>by
 rcases Nat.lt_succ_iff_lt_or_eq.1 hj with hj|rfl
 ·exact h j j1 j2 hj
 ·exact hp
theorem to2.all{α β:Type}{p:α→β→Bool}{l:List α}{k:List β}(h:to2 p l k l.length)(he:l.length=k.length):all2 p l k=true:=tQ.2 ⟨he,fun j j1 j2=>h j j1 j2 j1⟩
end Go.Proofs.YtmbmmckagcdapaaGreatDoor
