import Derived.Test.YtmbmmckagcdapaaGreatDoorQ17
import Derived.Test.YtmbmmckagcdapaaGreatDoorQ07
set_option maxHeartbeats 2000000
set_option linter.all false
namespace Go.Proofs.YtmbmmckagcdapaaGreatDoor
open Go.RowKit
theorem Ma(c:List Nd):nlV c= .sl (c.map ndV) .ro:=rfl
theorem UZ(l:List (List Nd)):kV 1 (l.map nlV)=true:=by
 unfold kV
 rw[List.all_map]
 exact List.all_eq_true.2 fun x _=>rfl
theorem Gn{t:Nd}(h:fitN t):(subs t).length≤4194306∧ ∀c∈subs t,lT c:=by
 obtain⟨_,_,_,h4,h5,h6,h7⟩:=dU h
 refine⟨by simp[subs];omega,fun c hc=> ?_⟩
 unfold subs at hc
 rcases List.mem_cons.1 hc with rfl|hc
 ·exact h4
 ·rcases List.mem_cons.1 hc with rfl|hc
  ·exact h5
  ·exact h7 c hc
def Ea:=A11 @oB @jO @MJ @Om @lA @Sv @lO @lN @lM @oA @iQ
theorem Yo(t:Nd)(ht:t.cs.length≤4194304):PC Tryz.prog 161 [ndV t] (.sl ((subs t).map nlV) .ro):=by
 obtain⟨k,w,n,e,l,el,cs⟩:=t
 have ht:cs.length≤4194304:=ht
 have h:=DI (xss:=[[nlV l,nlV el],cs.map nlV]) (by simp) (by
  intro xs hx;simp only[List.mem_cons,List.not_mem_nil,or_false]at hx;rcases hx with rfl|rfl
  ·rfl
  ·exact UZ cs) (by
  intro p xs hx;simp only[List.mem_cons,List.not_mem_nil,or_false]at hx;rcases hx with rfl|rfl
  ·simp only[V.idsL,aV,Bool.and_self]
  ·exact aH p cs) (by simp;omega)
 have e1:[[nlV l,nlV el],cs.map nlV].flatten=(subs (.mk k w n e l el cs)).map nlV:=by simp[subs,Nd.l,Nd.el,Nd.cs]
 rw[e1]at h
 simp only[List.map_cons,List.map_nil]at h
 refine pcEnt 12 Tryz.func161 rfl [(0,ndV (.mk k w n e l el cs))] ?_
 rw[eW]
 refine wG Ea TI ?_
 refine dI h TI (A4 aS aG aH aV) ?_
 refine goG Ea TI ?_
 refine wG Ea TI ?_
 refine fiGenO [.tmp 2] (finG Ea) ?_
 all_goals exact wkG (A4 aS aG aH aV)
theorem VH{α:Type}(f:α→Int){l:List α}{m:Nat}(h:m<l.length):(if f l[m]>mx ((l.take m).map f)then f l[m]else mx ((l.take m).map f))=mx ((l.take (m+1)).map f):=by
 rw[←Xq f h]
 split<;>omega
theorem OD{α:Type}(f:α→Int){l:List α}{m:Nat}(h:m<l.length):(if 1+f l[m]>1+mx ((l.take m).map f)then 1+f l[m]else 1+mx ((l.take m).map f))=1+mx ((l.take (m+1)).map f):=by
 rw[←Xq f h]
 split<;>omega
def qZ:=A7 @iR @jO @kL @lA @oV @gT @iQ
theorem Yq: ∀l:List Nd,lT l→cnt l≤4194304→PC Tryz.prog 94 [.sl (l.map ndV) .ro] (.im (.int .i64 (dep l))):=by
 refine nR fun l hl hf hc=> ?_
 have hl1:=hf.1
 show PC _ _ _ (.im (.int .i64 (mx (l.map depT))))
 refine pcEnt 33 Tryz.func94 rfl [(0,.sl (l.map ndV) .ro)] ?_
 refine wG qZ TI ?_
 refine aP ?_
 refine ALp.cutP 0 [(3,(.im (.int .i64 (mx ((l.take (0)).map depT))))),(9,.sl (l.map ndV) .ro),(10,(.im (.int .i64 (l.length)))),(11,(.im (.int .i64 ((((0:Nat)):Int)))))] [] (A4 aS aG aH aV) ?_
 refine aW l.length (fun _=>True) (fun m=>⟨dn 33 [(3,(.im (.int .i64 (mx ((l.take (m)).map depT))))),(9,.sl (l.map ndV) .ro),(10,(.im (.int .i64 (l.length)))),(11,(.im (.int .i64 ((((m:Nat)):Int)))))],ofl []⟩) ?_ 0 (Nat.zero_le _) trivial
 intro m hm _ hnext
 by_cases hlt:m<l.length
 ·have hlt':(m:Int)<(l.length:Int):=by omega
  have hm1:=aK hlt (by omega)
  have hg:=bB hlt;have ht:=hf.2 _ (List.getElem_mem hlt);have hx:=Yo l[m] (dU ht).2.2.2.2.2.1;obtain⟨hs1,hs2⟩:=Gn ht;have hcs: ∀c∈subs l[m],1+cnt c≤cnt l:=fun c hc=>Yh (List.getElem_mem hlt) hc
  have hR:=fun c hc'=>hl l[m] (List.getElem_mem hlt) c hc' (hs2 c hc') (by have:=hcs c hc';omega)
  have hmx:=VH depT hlt;rw[Ds]at hmx;generalize subs l[m]=sb at hx hs1 hs2 hcs hR hmx;refine wG qZ (A3 hlt' hg ND) ?_;refine AR.callP hx eF (A4 aS aG aH aV) ?_;refine goG qZ @List.length_map.{0,0} ?_;refine wG qZ @List.length_map.{0,0} ?_;refine aP ?_;refine ALp.cutP 0 [(3,(.im (.int .i64 (mx ((l.take m).map depT))))),(6,(.im (.int .i64 (1+mx ((sb.take (0)).map dep))))),(9,.sl (l.map ndV) .ro),(10,(.im (.int .i64 (l.length)))),(11,(.im (.int .i64 ((m:Int))))),(16,.sl (sb.map nlV) .ro),(17,(.im (.int .i64 (sb.length)))),(18,(.im (.int .i64 ((((0:Nat)):Int)))))] [] (A4 aS aG aH aV) ?_;refine aW sb.length (fun _=>True) (fun j=>⟨dn 33 [(3,(.im (.int .i64 (mx ((l.take m).map depT))))),(6,(.im (.int .i64 (1+mx ((sb.take (j)).map dep))))),(9,.sl (l.map ndV) .ro),(10,(.im (.int .i64 (l.length)))),(11,(.im (.int .i64 ((m:Int))))),(16,.sl (sb.map nlV) .ro),(17,(.im (.int .i64 (sb.length)))),(18,(.im (.int .i64 ((((j:Nat)):Int)))))],ofl []⟩) ?_ 0 (Nat.zero_le _) trivial
  intro j hj _ hnext2
  by_cases hlu:j<sb.length
  ·have hlu':(j:Int)<(sb.length:Int):=by omega
   have hj1:=aK hlu (by omega)
   have hg2:=bB hlu;have hc2:=hR sb[j] (List.getElem_mem hlu);have hd0:=sU sb[j];have hd1:=Uz sb[j];have hd2:=hcs sb[j] (List.getElem_mem hlu);have hw:IntKind.i64.wrap (1+dep sb[j])=1+dep sb[j]:=cU (by omega)
   have hmx2:=OD dep hlu;refine wG qZ (A3 hlu' hg2 ND) ?_;refine AR.callP hc2 Ma (A4 aS aG aH aV) ?_;refine goG qZ (AI hw hmx2) ?_;refine wG qZ hj1 ?_;refine ALp.cutP 0 [(3,(.im (.int .i64 (mx ((l.take m).map depT))))),(6,(.im (.int .i64 (1+mx ((sb.take (j+1)).map dep))))),(9,.sl (l.map ndV) .ro),(10,(.im (.int .i64 (l.length)))),(11,(.im (.int .i64 ((m:Int))))),(16,.sl (sb.map nlV) .ro),(17,(.im (.int .i64 (sb.length)))),(18,(.im (.int .i64 ((((j+1:Nat)):Int)))))] [] (A4 aS aG aH aV) ?_;exact hnext2 (j+1) (by omega) (by omega) trivial
  obtain rfl:j=sb.length:=by omega
  clear hnext2;rw[List.take_length];refine whG qZ @Int.lt_irrefl ?_;refine Blk'.here (Thn.n ?_);refine wG qZ (AI hmx hm1) ?_;refine ALp.cutP 0 [(3,(.im (.int .i64 (mx ((l.take (m+1)).map depT))))),(9,.sl (l.map ndV) .ro),(10,(.im (.int .i64 (l.length)))),(11,(.im (.int .i64 ((((m+1:Nat)):Int)))))] [] (A4 aS aG aH aV) ?_;exact hnext (m+1) (by omega) (by omega) trivial
 obtain rfl:m=l.length:=by omega
 clear hnext
 rw[List.take_length]
 refine wG qZ @Int.lt_irrefl ?_
 exact aB
def BN05:=A15 Gc Bb uW uV zA wA Ga Ay Fy Fx Fz Az Ma @List.getElem?_map.{0,0} @Int.natCast_nonneg
def plV(p:Nd×Bool):V:= .ag [.im (.int .i64 p.1.kind),.im (.int .i64 p.1.width),.im (.string p.1.name),.sl (p.1.e.map exV) .ro,.sl (p.1.l.map ndV) .ro,.sl (p.1.el.map ndV) .ro,.sl (p.1.cs.map nlV) .ro,.im (.bool p.2)]
theorem oD(p:Nd×Bool):plV p= .ag [.im (.int .i64 p.1.kind),.im (.int .i64 p.1.width),.im (.string p.1.name),.sl (p.1.e.map exV) .ro,.sl (p.1.l.map ndV) .ro,.sl (p.1.el.map ndV) .ro,.sl (p.1.cs.map nlV) .ro,.im (.bool p.2)]:=rfl
theorem uP(p:Nd×Bool):(plV p).live=true:=rfl
theorem uO(p:Nd×Bool):(plV p).size=8:=rfl
theorem uQ(p:Nd×Bool):(plV p).isAg=true:=rfl
theorem uR(p:Nd×Bool):(plV p).firm=true:=rfl
theorem rP(g:Bool)(p:Nd×Bool):strip g (plV p)=plV p:=rfl
theorem rQ(p:Nd×Bool):(plV p).cells=[.im (.int .i64 p.1.kind),.im (.int .i64 p.1.width),.im (.string p.1.name),.sl (p.1.e.map exV) .ro,.sl (p.1.l.map ndV) .ro,.sl (p.1.el.map ndV) .ro,.sl (p.1.cs.map nlV) .ro,.im (.bool p.2)]:=rfl
theorem fI(p:Nat→Bool)(x:Nd×Bool):(plV x).ids p=true:=by simp[plV,V.ids,V.idsL,aD,aG,aH]
theorem dS(p:Nat→Bool)(l:List (Nd×Bool)):V.idsL p (l.map plV)=true:=gH (fI p) l
theorem HO(l:List (Nd×Bool)):kV 8 (l.map plV)=true:=by
 unfold kV
 rw[List.all_map]
 exact List.all_eq_true.2 fun x _=>rfl
theorem sR{α β:Type}(f:α→List β){l:List α}{m:Nat}(h:m<l.length):(l.take m).flatMap f++f l[m]=(l.take (m+1)).flatMap f:=by
 rw[List.take_succ_eq_append_getElem h,List.flatMap_append]
 simp
theorem xU{α β:Type}(f:α→List β)(l:List α)(m:Nat):((l.take m).flatMap f).length≤(l.flatMap f).length:=by
 have h:l.flatMap f=(l.take m).flatMap f++(l.drop m).flatMap f:=by rw[←List.flatMap_append,List.take_append_drop]
 rw[h,List.length_append]
 omega
def pN:=A15 @iR @cO @jO @kL @Ia @MB @Hx @lA @oV @iV @LY @gT @Hq @cN @iQ
theorem SV: ∀l:List Nd,lT l→cnt l≤4194304→ ∀lp:Bool,PC Tryz.prog 95 [.sl (l.map ndV) .ro,(.im (.bool (lp)))] (.sl ((allL l lp).map plV) .ro):=by
 refine nR fun l hl hf hc lp=> ?_
 have hl1:=hf.1
 have hlen:=Hi l lp
 unfold allL at hlen ⊢
 refine pcEnt 47 Tryz.func95 rfl [(0,.sl (l.map ndV) .ro),(1,(.im (.bool (lp))))] ?_
 refine wG pN TI ?_
 refine aP ?_
 refine ALp.ghost 5 [] .nl 167 8 ?_
 refine ALp.cutP 1 [(1,(.im (.bool (lp)))),(5,.sl (((l.take (0)).flatMap fun t=>allT t lp).map plV) (.own 0)),(10,.sl (l.map ndV) .ro),(11,(.im (.int .i64 (l.length)))),(12,(.im (.int .i64 ((((0:Nat)):Int)))))] [.tip 167 8 ((l.take (0)).flatMap fun t=>allT t lp).length] (A7 aS aG aH aV fI dS @aD) ?_
 refine aW l.length (fun _=>True) (fun m=>⟨dn 47 [(1,(.im (.bool (lp)))),(5,.sl (((l.take (m)).flatMap fun t=>allT t lp).map plV) (.own 0)),(10,.sl (l.map ndV) .ro),(11,(.im (.int .i64 (l.length)))),(12,(.im (.int .i64 ((((m:Nat)):Int)))))],ofl [.tip 167 8 ((l.take (m)).flatMap fun t=>allT t lp).length]⟩) ?_ 0 (Nat.zero_le _) trivial
 intro m hm _ hnext
 by_cases hlt:m<l.length
 ·have hlt':(m:Int)<(l.length:Int):=by omega
  have hm1:=aK hlt (by omega)
  have hg:=bB hlt;have ht:=hf.2 _ (List.getElem_mem hlt);have hx:=Yo l[m] (dU ht).2.2.2.2.2.1;obtain⟨hs1,hs2⟩:=Gn ht;have hcs: ∀c∈subs l[m],1+cnt c≤cnt l:=fun c hc=>Yh (List.getElem_mem hlt) hc
  have hR:=fun c hc'=>hl l[m] (List.getElem_mem hlt) c hc' (hs2 c hc') (by have:=hcs c hc';omega) (inL l[m] lp)
  have hsn:=sR (fun t=>allT t lp) hlt
  have hle:=xU (fun t=>allT t lp) l (m+1)
  have hle0:=xU (fun t=>allT t lp) l m
  simp only[Dw l[m]]at hsn;generalize hA:(l.take m).flatMap (fun t=>allT t lp)=A at hsn hle0 ⊢
  generalize hsb:subs l[m]=sb at hx hs1 hs2 hcs hR hsn;obtain⟨Bf,hBf⟩: ∃Bf:Nat→List (Nd×Bool),∀j,Bf j=A++(l[m],lp)::(sb.take j).flatMap fun c=>allL c (inL l[m] lp):=⟨_,fun _=>rfl⟩
  have hap:A.map plV++[.ag [.im (.int .i64 l[m].kind),.im (.int .i64 l[m].width),.im (.string l[m].name),.sl (l[m].e.map exV) .ro,.sl (l[m].l.map ndV) .ro,.sl (l[m].el.map ndV) .ro,.sl (l[m].cs.map nlV) .ro,.im (.bool lp)]]=(Bf 0).map plV:=by
   rw[hBf];simp[plV]
  have hone:A.length+1=(Bf 0).length:=by rw[hBf];simp
  have hend:Bf sb.length=(l.take (m+1)).flatMap fun t=>allT t lp:=by
   rw[hBf,List.take_length,←hsn]
  have hstep: ∀j (hj:j<sb.length),Bf j++allL sb[j] (inL l[m] lp)=Bf (j+1):=fun j hj=>by
   rw[hBf,hBf,←sR _ hj,List.append_assoc,List.cons_append]
  have hlen2: ∀j,(Bf j).length≤(Bf sb.length).length:=fun j=>by
   rw[hBf,hBf,List.length_append,List.length_append,List.length_cons,List.length_cons,List.take_length];have:=xU (fun c=>allL c (inL l[m] lp)) sb j
   omega
  rw[hend]at hlen2;have hb:(A.length+1)*136≤140737488355328:=by omega
  have hb0:(Bf 0).length*136≤140737488355328:=by have:=hlen2 0;omega
  refine wG pN (A7 hlt' hg hb hb0 hap hone ND) ?_;refine AR.callP hx eF (A7 aS aG aH aV fI dS @aD) ?_;refine goG pN (AI @List.length_map.{0,0} ND) ?_;refine wG pN (AI @List.length_map.{0,0} ND) ?_;refine aP ?_;refine ALp.cutP 2 [(1,(.im (.bool (lp)))),(5,.sl ((Bf (0)).map plV) (.own 0)),(7,.pt 1 0),(10,.sl (l.map ndV) .ro),(11,(.im (.int .i64 (l.length)))),(12,(.im (.int .i64 ((m:Int))))),(23,.sl (sb.map nlV) .ro),(24,(.im (.int .i64 (sb.length)))),(25,(.im (.int .i64 ((((0:Nat)):Int)))))] [.tip 167 8 (Bf (0)).length,.box [.im (.int .i64 l[m].kind),.im (.int .i64 l[m].width),.im (.string l[m].name),.sl (l[m].e.map exV) .ro,.sl (l[m].l.map ndV) .ro,.sl (l[m].el.map ndV) .ro,.sl (l[m].cs.map nlV) .ro]] (A7 aS aG aH aV fI dS @aD) ?_;refine aW sb.length (fun _=>True) (fun j=>⟨dn 47 [(1,(.im (.bool (lp)))),(5,.sl ((Bf (j)).map plV) (.own 0)),(7,.pt 1 0),(10,.sl (l.map ndV) .ro),(11,(.im (.int .i64 (l.length)))),(12,(.im (.int .i64 ((m:Int))))),(23,.sl (sb.map nlV) .ro),(24,(.im (.int .i64 (sb.length)))),(25,(.im (.int .i64 ((((j:Nat)):Int)))))],ofl [.tip 167 8 (Bf (j)).length,.box [.im (.int .i64 l[m].kind),.im (.int .i64 l[m].width),.im (.string l[m].name),.sl (l[m].e.map exV) .ro,.sl (l[m].l.map ndV) .ro,.sl (l[m].el.map ndV) .ro,.sl (l[m].cs.map nlV) .ro]]⟩) ?_ 0 (Nat.zero_le _) trivial
  intro j hj _ hnext2
  by_cases hlu:j<sb.length
  ·have hlu':(j:Int)<(sb.length:Int):=by omega
   have hj1:=aK hlu (by omega)
   have hg2:=bB hlu;have hc2:=hR sb[j] (List.getElem_mem hlu);have hs3:=congrArg (List.map plV) (hstep j hlu);rw[List.map_append]at hs3;have hs4:=congrArg List.length (hstep j hlu);rw[List.length_append]at hs4;have hb1:(Bf (j+1)).length*136≤140737488355328:=by have:=hlen2 (j+1);omega
   refine wG pN (A3 hlu' hg2 ND) ?_;have hin:inL l[m] lp=(lp||decide (l[m].kind=7)||decide (l[m].kind=8)):=rfl;refine AR.callP hc2 (AI Ma hin) (A7 aS aG aH aV fI dS @aD) ?_;refine goG pN (A5 hs3 hs4 hb1 HO @List.length_map.{0,0}) ?_;refine wG pN hj1 ?_;refine ALp.cutP 2 [(1,(.im (.bool (lp)))),(5,.sl ((Bf (j+1)).map plV) (.own 0)),(7,.pt 1 0),(10,.sl (l.map ndV) .ro),(11,(.im (.int .i64 (l.length)))),(12,(.im (.int .i64 ((m:Int))))),(23,.sl (sb.map nlV) .ro),(24,(.im (.int .i64 (sb.length)))),(25,(.im (.int .i64 ((((j+1:Nat)):Int)))))] [.tip 167 8 (Bf (j+1)).length,.box [.im (.int .i64 l[m].kind),.im (.int .i64 l[m].width),.im (.string l[m].name),.sl (l[m].e.map exV) .ro,.sl (l[m].l.map ndV) .ro,.sl (l[m].el.map ndV) .ro,.sl (l[m].cs.map nlV) .ro]] (A7 aS aG aH aV fI dS @aD) ?_;exact hnext2 (j+1) (by omega) (by omega) trivial
  obtain rfl:j=sb.length:=by omega
  clear hnext2;rw[hend];refine whG pN @Int.lt_irrefl ?_;refine Blk'.here (Thn.n ?_);refine wG pN hm1 ?_;refine ALp.cutP 1 [(1,(.im (.bool (lp)))),(5,.sl (((l.take (m+1)).flatMap fun t=>allT t lp).map plV) (.own 0)),(10,.sl (l.map ndV) .ro),(11,(.im (.int .i64 (l.length)))),(12,(.im (.int .i64 ((((m+1:Nat)):Int)))))] [.tip 167 8 ((l.take (m+1)).flatMap fun t=>allT t lp).length] (A7 aS aG aH aV fI dS @aD) ?_
  exact hnext (m+1) (by omega) (by omega) trivial
 obtain rfl:m=l.length:=by omega
 clear hnext
 rw[List.take_length]
 refine wG pN @Int.lt_irrefl ?_
 refine fiGenO [.tmp 4] (finG pN) ?_
 all_goals exact wkG (A7 aS aG aH aV fI dS @aD)
def E7:=A7 aS aG aH aV fI dS @aD
def seen(fs:List Ty)(m:Nat):Prop:= ∀j (hj:j<fs.length),j<m→fok fs j=true∧frm fs[j]=true
theorem seen.succ{fs:List Ty}{m:Nat}(h:seen fs m)(hm:m<fs.length)(h1:fok fs m=true)(h2:frm fs[m]=true):seen fs (m+1):=by
 intro j hj hlt
 rcases Nat.lt_succ_iff_lt_or_eq.1 hlt with h3|rfl
 ·exact h j hj h3
 ·exact⟨h1,h2⟩
theorem seen.done{fs:List Ty}(h:seen fs fs.length):(asc fs&&fs.all frm)=true:=by
 simp only[Bool.and_eq_true,asc,List.all_eq_true,List.mem_range]
 refine⟨fun i hi=>(h i hi hi).1,fun t ht=> ?_⟩
 obtain⟨i,hi,rfl⟩:=List.getElem_of_mem ht
 exact(h i hi hi).2
theorem unseen{fs:List Ty}{m:Nat}(hm:m<fs.length)(h: ¬(fok fs m=true∧frm fs[m]=true)):(asc fs&&fs.all frm)=false:=by
 rw[Bool.eq_false_iff]
 intro hn
 simp only[Bool.and_eq_true,asc,List.all_eq_true,List.mem_range]at hn
 exact h ⟨hn.1 m hm,hn.2 _ (List.getElem_mem hm)⟩
theorem IK{fs:List Ty}(hi:0<fs.length):fok fs 0=(decide (0≤fs[0].off)&&decide (fs[0].off<65536)):=by
 unfold fok
 have e:(fs.map Ty.off).getD 0 0=fs[0].off:=by simp[List.getD,hi]
 rw[e]
 simp
theorem IL{fs:List Ty}{j:Nat}(hi:j+1<fs.length):fok fs (j+1)=(decide (0≤fs[j+1].off)&&decide (fs[j+1].off<65536)&&decide (fs[j].off<fs[j+1].off)):=by
 unfold fok
 have hj:j<fs.length:=by omega
 have e:(fs.map Ty.off).getD (j+1) 0=fs[j+1].off:=by simp[List.getD,hi]
 have e2:(fs.map Ty.off).getD (j+1-1) 0=fs[j].off:=by simp[List.getD,hj]
 rw[e,e2]
 simp
theorem OV{fs:List Ty}{m:Nat}(hm:m<fs.length):fok fs m=true↔0≤fs[m].off∧fs[m].off<65536∧(m=0∨(fs[m-1]'(by omega)).off<fs[m].off):=by
 cases m with
 | zero=>rw[IK hm];simp
 | succ j=>rw[IL hm];simp[and_assoc]
theorem pG{o:Int}{fs:List Ty}{m:Nat}(hm:m<fs.length)(h: ¬(fok fs m=true∧frm fs[m]=true)):frm (.mk o 5 0 0 [] fs)=false:=by
 rw[xT]
 have:=unseen hm h
 simp only[Bool.and_eq_false_iff]at this ⊢
 exact .inl (this.elim (fun h=> .inl (.inr h)) .inr)
theorem pY{o k s c:Int}{es fs:List Ty}(h:base k s c es.length fs.length=false):frm (.mk o k s c es fs)=false:=by rw[xT,h];rfl
theorem Mj{o k s c:Int}{es fs:List Ty}(hb:base k s c es.length fs.length=true)(hf:fs=[]):frm (.mk o k s c es fs)=es.all frm:=by
 subst hf
 rw[xT,hb]
 simp[asc]
def cI:=A16 @vO @cO @tV @qO @gF @sD @Ac @qM @qL @tQ @lL @rZ @wY @wX @mW (A7 @jU @Ed @nZ @cN @tK @nM @gD)
set_option maxRecDepth 100000 in
theorem formed5{o s c:Int}{es fs:List Ty}(hF: ∀t∈fs,fit t→PC Tryz.prog 158 [tyV t] (.im (.bool (frm t))))(hfit:fit (.mk o 5 s c es fs)):PC Tryz.prog 158 [tyV (.mk o 5 s c es fs)] (.im (.bool (frm (.mk o 5 s c es fs)))):=by
 obtain⟨hl1,hl2,hfE,hfF⟩:=pI hfit
 refine pcEnt 131 Tryz.func158 rfl [(0,tyV (.mk o 5 s c es fs))] ?_
 simp only[eE]
 refine wdG cI TI ?_
 refine nC rfl rfl (fun h=> ?_) (fun h=> ?_)
 ·rw[pY (by simp[base, -List.length_eq_zero_iff]at h ⊢;omega)]
  refine wG cI TI ?_;exact aB
 ·obtain⟨rfl,rfl,he⟩:s=0∧c=0∧es.length=0:=by simp[-List.length_eq_zero_iff]at h;omega
  obtain rfl:=List.length_eq_zero_iff.1 he;refine wdG cI TI ?_;refine aP ?_;refine ALp.cutP 1 [(0,.ag [.im (.int .i64 5),.im (.int .i64 0),.im (.int .i64 0),.sl [] .ro,.sl (fs.map fdV) .ro]),(1,.pt 0 0),(4,(.im (.int .i64 (0)))),(5,(.im (.bool (true)))),(84,.sl (fs.map fdV) .ro),(85,(.im (.int .i64 (fs.length)))),(86,(.im (.int .i64 (((0:Nat):Int)))))] [.box [.im (.int .i64 5),.im (.int .i64 0),.im (.int .i64 0),.sl [] .ro,.sl (fs.map fdV) .ro]] TI ?_;refine aW fs.length (fun m=>seen fs m) (fun m=>⟨dn 131 [(0,.ag [.im (.int .i64 5),.im (.int .i64 0),.im (.int .i64 0),.sl [] .ro,.sl (fs.map fdV) .ro]),(1,.pt 0 0),(4,(.im (.int .i64 (0)))),(5,(.im (.bool (true)))),(84,.sl (fs.map fdV) .ro),(85,(.im (.int .i64 (fs.length)))),(86,(.im (.int .i64 (((m:Nat):Int)))))],ofl [.box [.im (.int .i64 5),.im (.int .i64 0),.im (.int .i64 0),.sl [] .ro,.sl (fs.map fdV) .ro]]⟩) ?_ 0 (Nat.zero_le _) (fun j _ hj=>absurd hj (Nat.not_lt_zero _))
  intro m hm hI hnext
  by_cases hlt:m<fs.length
  ·have hlt':(m:Int)<(fs.length:Int):=by omega
   have hg:=bB hlt;have hm1:=aK hlt (by omega)
   have hk:=OV hlt
   by_cases a1:fs[m].off<0
   ·rw[pG hlt (fun h=>by have:=hk.1 h.1;omega)]
    refine wdG cI (A16 @eT @eY @dL @dN @eR @eQ @eS @dM @eB @eA @eX @dO @List.getElem?_map.{0,0} @Int.natCast_nonneg hlt' (A3 hg hm1 a1)) ?_;exact aB
   by_cases a2:fs[m].off≥65536
   ·rw[pG hlt (fun h=>by have:=hk.1 h.1;omega)]
    refine wdG cI (A16 @eT @eY @dL @dN @eR @eQ @eS @dM @eB @eA @eX @dO @List.getElem?_map.{0,0} @Int.natCast_nonneg hlt' (A4 hg hm1 a1 a2)) ?_;exact aB
   have hc:=hF fs[m] (List.getElem_mem hlt) (hfF _ (List.getElem_mem hlt))
   by_cases a3:(m:Int)>0
   ·have hg2:=bB (l:=fs) (m:=m-1) (by omega)
    have hp:IntKind.i64.wrap ((m:Int)-1)=((m-1:Nat):Int):=by rw[cU (by omega)];omega
    by_cases a4:fs[m].off≤(fs[m-1]'(by omega)).off
    ·rw[pG hlt (fun h=>by have:=hk.1 h.1;omega)]
     refine wdG cI (A16 @eT @eY @dL @dN @eR @eQ @eS @dM @eB @eA @eX @dO @List.getElem?_map.{0,0} @Int.natCast_nonneg hlt' (A8 hg hm1 a1 a2 a3 hg2 hp a4)) ?_;exact aB
    ·have hk2:fok fs m=true:=hk.2 (by omega)
     refine wdG cI (A16 @eT @eY @dL @dN @eR @eQ @eS @dM @eB @eA @eX @dO @List.getElem?_map.{0,0} @Int.natCast_nonneg hlt' (A8 hg hm1 a1 a2 a3 hg2 hp a4)) ?_
     by_cases b:frm fs[m]=true
     ·rw[b]at hc
      refine AR.callP hc @bM TI ?_;refine goG cI TI ?_;refine wdG cI hm1 ?_;refine ALp.cutP 1 [(0,.ag [.im (.int .i64 5),.im (.int .i64 0),.im (.int .i64 0),.sl [] .ro,.sl (fs.map fdV) .ro]),(1,.pt 0 0),(4,(.im (.int .i64 (0)))),(5,(.im (.bool (true)))),(84,.sl (fs.map fdV) .ro),(85,(.im (.int .i64 (fs.length)))),(86,(.im (.int .i64 (((m+1:Nat):Int)))))] [.box [.im (.int .i64 5),.im (.int .i64 0),.im (.int .i64 0),.sl [] .ro,.sl (fs.map fdV) .ro]] TI ?_;exact hnext (m+1) (by omega) (by omega) (hI.succ hlt hk2 b)
     ·rw[pG hlt (fun h=>b h.2)]
      rw[Bool.eq_false_iff.2 b]at hc;refine AR.callP hc @bM TI ?_;refine goG cI TI ?_;refine wdG cI hm1 ?_;exact aB
   ·have hk2:fok fs m=true:=hk.2 (by omega)
    refine wdG cI (A16 @eT @eY @dL @dN @eR @eQ @eS @dM @eB @eA @eX @dO @List.getElem?_map.{0,0} @Int.natCast_nonneg hlt' (A5 hg hm1 a1 a2 a3)) ?_
    by_cases b:frm fs[m]=true
    ·rw[b]at hc
     refine AR.callP hc @bM TI ?_;refine goG cI TI ?_;refine wdG cI hm1 ?_;refine ALp.cutP 1 [(0,.ag [.im (.int .i64 5),.im (.int .i64 0),.im (.int .i64 0),.sl [] .ro,.sl (fs.map fdV) .ro]),(1,.pt 0 0),(4,(.im (.int .i64 (0)))),(5,(.im (.bool (true)))),(84,.sl (fs.map fdV) .ro),(85,(.im (.int .i64 (fs.length)))),(86,(.im (.int .i64 (((m+1:Nat):Int)))))] [.box [.im (.int .i64 5),.im (.int .i64 0),.im (.int .i64 0),.sl [] .ro,.sl (fs.map fdV) .ro]] TI ?_;exact hnext (m+1) (by omega) (by omega) (hI.succ hlt hk2 b)
    ·rw[pG hlt (fun h=>b h.2)]
     rw[Bool.eq_false_iff.2 b]at hc;refine AR.callP hc @bM TI ?_;refine goG cI TI ?_;refine wdG cI hm1 ?_;exact aB
  ·obtain rfl:m=fs.length:=by omega
   have hlt': ¬(fs.length:Int)<(fs.length:Int):=by omega
   clear hnext
   have e:frm (.mk o 5 0 0 [] fs)=true:=by
    rw[xT,show base 5 0 0 ([]:List Ty).length fs.length=true from by simp[base]]
    simpa using hI.done
   rw[e];refine wdG cI hlt' ?_;exact aB
set_option maxRecDepth 100000 in
theorem KW: ∀(t:Ty),fit t→PC Tryz.prog 158 [tyV t] (.im (.bool (frm t))):=by
 refine Ty.induct fun o k s c es fs hE hF=> ?_
 intro hfit
 obtain⟨hl1,hl2,hfE,hfF⟩:=pI hfit
 by_cases k5:k=5
 ·subst k5
  exact formed5 hF hfit
 refine pcEnt 131 Tryz.func158 rfl [(0,tyV (.mk o k s c es fs))] ?_
 simp only[eE]
 by_cases k0:k=0∨k=6
 ·rcases k0 with rfl|rfl
  all_goals
   refine wdG cI TI ?_;refine nC rfl rfl (fun h=> ?_) (fun h=> ?_)
   ·rw[pY (by simp[base, -List.length_eq_zero_iff]at h ⊢;omega)]
    refine wG cI TI ?_;exact aB
   ·obtain⟨rfl,rfl,he,hf⟩:s=0∧c=0∧es.length=0∧fs.length=0:=by simp[-List.length_eq_zero_iff]at h;omega
    obtain rfl:=List.length_eq_zero_iff.1 he;obtain rfl:=List.length_eq_zero_iff.1 hf;rw[Mj (by decide) rfl]
    refine wdG cI TI ?_;refine aP (dF ?_);refine wG cI TI ?_;exact aB
 by_cases k1:k=1∨k=2
 ·rcases k1 with rfl|rfl
  all_goals
   refine wdG cI TI ?_;refine nC rfl rfl (fun h=> ?_) (fun h=> ?_)
   ·rw[pY (by simp[base, -List.length_eq_zero_iff]at h ⊢;omega)]
    refine wG cI TI ?_;exact aB
   ·have hs:s=1∨s=2∨s=4:=by simp[-List.length_eq_zero_iff]at h;omega
    refine wdG cI TI ?_;refine nC rfl rfl (fun h=> ?_) (fun h=> ?_)
    ·rw[pY (by simp[base, -List.length_eq_zero_iff]at h ⊢;omega)]
     refine wG cI TI ?_;exact aB
    ·obtain⟨rfl,he,hf⟩:c=0∧es.length=0∧fs.length=0:=by simp[-List.length_eq_zero_iff]at h;omega
     obtain rfl:=List.length_eq_zero_iff.1 he;obtain rfl:=List.length_eq_zero_iff.1 hf;rw[Mj (by simp[base, -List.length_eq_zero_iff];omega) rfl]
     refine wdG cI TI ?_;refine aP (dF ?_);refine wG cI TI ?_;exact aB
 by_cases k3:k=3
 ·subst k3
  refine wdG cI TI ?_;refine nC rfl rfl (fun h=> ?_) (fun h=> ?_)
  ·rw[pY (by simp[base, -List.length_eq_zero_iff]at h ⊢;omega)]
   refine wG cI TI ?_;exact aB
  ·obtain⟨rfl,rfl,he,hf⟩:s=0∧c=0∧es.length=1∧fs.length=0:=by simp[-List.length_eq_zero_iff]at h;omega
   obtain⟨x,rfl⟩:=List.length_eq_one_iff.1 he;obtain rfl:=List.length_eq_zero_iff.1 hf;have hc:=hE x (by simp) (hfE x (by simp))
   rw[Mj (by simp[base]) rfl]
   refine wdG cI TI ?_;refine aP (dF ?_);refine wdG cI BN03 ?_;refine AR.callP hc @bM TI ?_;refine goG cI TI ?_;simp only[List.all_cons,List.all_nil,Bool.and_true];refine wdG cI TI ?_;exact aB
 by_cases k4:k=4
 ·subst k4
  refine wdG cI TI ?_;refine nC rfl rfl (fun h=> ?_) (fun h=> ?_)
  ·rw[pY (by simp[base, -List.length_eq_zero_iff]at h ⊢;omega)]
   refine wG cI TI ?_;exact aB
  ·have hs:1≤c∧c≤65536:=by simp[-List.length_eq_zero_iff]at h;omega
   refine wdG cI TI ?_;refine nC rfl rfl (fun h=> ?_) (fun h=> ?_)
   ·rw[pY (by simp[base, -List.length_eq_zero_iff]at h ⊢;omega)]
    refine wG cI TI ?_;exact aB
   ·obtain⟨rfl,he,hf⟩:s=0∧es.length=1∧fs.length=0:=by simp[-List.length_eq_zero_iff]at h;omega
    obtain⟨x,rfl⟩:=List.length_eq_one_iff.1 he;obtain rfl:=List.length_eq_zero_iff.1 hf;have hc:=hE x (by simp) (hfE x (by simp))
    rw[Mj (by simp[base, -List.length_eq_zero_iff];omega) rfl]
    refine wdG cI TI ?_;refine aP (dF ?_);refine wdG cI BN03 ?_;refine AR.callP hc @bM TI ?_;refine goG cI TI ?_;simp only[List.all_cons,List.all_nil,Bool.and_true];refine wdG cI TI ?_;exact aB
 have k6: ¬k=6:=by omega
 have k2: ¬k=2:=by omega
 replace k0: ¬k=0:=by omega
 replace k1: ¬k=1:=by omega
 rw[pY (by simp[base,k0,k1,k2,k3,k4,k5,k6])]
 refine wdG cI (A7 k0 k1 k2 k3 k4 k5 k6) ?_
 exact aB
theorem LJ{k s c:Int}{ne nf:Nat}(h:base k s c ne nf=true):ne=0∨ne=1:=by
 rcases mP h with h|h|h|h|h<;>omega
def jJ:=A14 @vO @tV @qO @gF @sD @qM @qL @lL @mW @jU @nZ @tK @nM @gD
theorem JY: ∀(t:Ty),fit t→frm t=true→PC Tryz.prog 159 [tyV t] (.im (.bool (wit t))):=by
 refine Ty.induct fun o k s c es fs hE hF=> ?_
 intro hfit hfrm
 obtain⟨hl1,hl2,hfE,hfF⟩:=pI hfit
 obtain⟨hb,hof,hfs,hes⟩:=pX hfrm
 have hs:=WT _ hfit hfrm
 refine pcEnt 37 Tryz.func159 rfl [(0,tyV (.mk o k s c es fs))] ?_
 simp only[eE]
 by_cases h1:(fs.length:Int)>64
 ·have e:wit (.mk o k s c es fs)=false:=by rw[El];simp;omega
  rw[e];refine wG jJ h1 ?_;exact aB
 refine wG jJ h1 ?_
 refine AR.callP hs @eE TI ?_
 by_cases h2:siz (.mk o k s c es fs)>65536
 ·have e:wit (.mk o k s c es fs)=false:=by rw[El];simp;omega
  rw[e];refine goG jJ (AI h1 h2) ?_;refine wG jJ TI ?_;exact aB
 refine goG jJ (AI h1 h2) ?_
 have e0:wit (.mk o k s c es fs)=(fs.all wit&&es.all wit):=by
  rw[El];have a1:decide (fs.length≤64)=true:=by simp;omega
  have a2:decide (siz (.mk o k s c es fs)≤65536)=true:=by simp;omega
  rw[a1,a2];simp
 rw[e0]
 clear hs h2 e0
 refine wG jJ TI ?_
 refine aP ?_
 refine ALp.cutP 1 [(0,.ag [.im (.int .i64 k),.im (.int .i64 s),.im (.int .i64 c),.sl (es.map tyV) .ro,.sl (fs.map fdV) .ro]),(1,.pt 0 0),(15,.sl (fs.map fdV) .ro),(16,(.im (.int .i64 (fs.length)))),(17,(.im (.int .i64 ((((0:Nat)):Int)))))] [.box [.im (.int .i64 k),.im (.int .i64 s),.im (.int .i64 c),.sl (es.map tyV) .ro,.sl (fs.map fdV) .ro]] TI ?_
 refine aW fs.length (AllTo wit fs) (fun m=>⟨dn 37 [(0,.ag [.im (.int .i64 k),.im (.int .i64 s),.im (.int .i64 c),.sl (es.map tyV) .ro,.sl (fs.map fdV) .ro]),(1,.pt 0 0),(15,.sl (fs.map fdV) .ro),(16,(.im (.int .i64 (fs.length)))),(17,(.im (.int .i64 ((((m:Nat)):Int)))))],ofl [.box [.im (.int .i64 k),.im (.int .i64 s),.im (.int .i64 c),.sl (es.map tyV) .ro,.sl (fs.map fdV) .ro]]⟩) ?_ 0 (Nat.zero_le _) (AllTo.zero _ _)
 intro m hm hI hnext
 by_cases hlt:m<fs.length
 ·have hlt':(m:Int)<(fs.length:Int):=by omega
  have hg:=bB hlt;have hm1:=aK hlt (by omega)
  have hc:=hF fs[m] (List.getElem_mem hlt) (hfF _ (List.getElem_mem hlt)) (hfs _ (List.getElem_mem hlt));refine wG jJ (A16 @eT @eY @dL @dN @eR @eQ @eS @dM @eB @eA @eX @dO @List.getElem?_map.{0,0} @Int.natCast_nonneg hlt' (AI hg hm1)) ?_
  by_cases b:wit fs[m]=true
  ·rw[b]at hc
   refine AR.callP hc @bM TI ?_;refine goG jJ TI ?_;refine wG jJ hm1 ?_;refine ALp.cutP 1 [(0,.ag [.im (.int .i64 k),.im (.int .i64 s),.im (.int .i64 c),.sl (es.map tyV) .ro,.sl (fs.map fdV) .ro]),(1,.pt 0 0),(15,.sl (fs.map fdV) .ro),(16,(.im (.int .i64 (fs.length)))),(17,(.im (.int .i64 ((((m+1:Nat)):Int)))))] [.box [.im (.int .i64 k),.im (.int .i64 s),.im (.int .i64 c),.sl (es.map tyV) .ro,.sl (fs.map fdV) .ro]] TI ?_;exact hnext (m+1) (by omega) (by omega) (hI.succ hlt b)
  ·have b:wit fs[m]=false:=by simpa using b
   rw[b]at hc;refine AR.callP hc @bM TI ?_;refine goG jJ TI ?_;refine wG jJ hm1 ?_;rw[pF hlt b,Bool.false_and];exact aB
 ·have hall:=hI.done (by omega)
  have hlt': ¬(m:Int)<(fs.length:Int):=by omega
  clear hnext hI hm hlt;rw[hall,Bool.true_and];rcases LJ hb with he|he
  ·obtain rfl:=List.length_eq_zero_iff.1 he
   refine wG jJ hlt' ?_;exact aB
  ·obtain⟨x,rfl⟩:=List.length_eq_one_iff.1 he
   have hc:=hE x (by simp) (hfE x (by simp)) (hes x (by simp))
   refine wG jJ (A15 @eT @eY @dL @dN @eR @eQ @eS @dM @eB @eA @eX @dO @List.getElem?_map.{0,0} @Int.natCast_nonneg hlt') ?_;refine AR.callP hc @bM TI ?_;refine goG jJ TI ?_;simp only[List.all_cons,List.all_nil,Bool.and_true];refine wG jJ TI ?_;exact aB
def mQ:=AI @gF @gD
theorem VO:I64 64:=by unfold I64;omega
theorem Nc(t:Ty)(hfit:fit t):PC Tryz.prog 89 [tyV t] (.im (.int .i64 (chk t))):=by
 have h1:=CW t hfit 64 VO
 have h2:=KW t hfit
 have h3:frm t=true→_:=JY t hfit
 refine pcEnt 15 Tryz.func89 rfl [(0,tyV t)] ?_
 simp only[bM]
 unfold chk
 refine wG mQ TI ?_
 by_cases b1:shal t 64=true
 case neg =>
  have b1:shal t 64=false:=by simpa using b1
  rw[b1]at h1 ⊢;refine AR.callP h1 @bM TI ?_;refine goG mQ TI ?_;refine wG mQ TI ?_;exact aB
 rw[b1]at h1 ⊢
 refine AR.callP h1 @bM TI ?_
 refine goG mQ TI ?_
 refine wG mQ TI ?_
 by_cases b2:frm t=true
 case neg =>
  have b2:frm t=false:=by simpa using b2
  rw[b2]at h2 ⊢;refine AR.callP h2 @bM TI ?_;refine goG mQ TI ?_;refine wG mQ TI ?_;exact aB
 have h3:=h3 b2
 rw[b2]at h2 ⊢
 refine AR.callP h2 @bM TI ?_
 refine goG mQ TI ?_
 refine wG mQ TI ?_
 by_cases b3:wit t=true
 case neg =>
  have b3:wit t=false:=by simpa using b3
  rw[b3]at h3 ⊢;refine AR.callP h3 @bM TI ?_;refine goG mQ TI ?_;refine wG mQ TI ?_;exact aB
 rw[b3]at h3 ⊢
 refine AR.callP h3 @bM TI ?_
 refine goG mQ TI ?_
 refine wG mQ TI ?_
 exact aB
def Nz:=AI @gF @gD
theorem XE(t:Ty)(hfit:fit t):PC Tryz.prog 147 [tyV t] (.im (.bool (good t))):=by
 have h1:=Nc t hfit
 refine pcEnt 6 Tryz.func147 rfl [(0,tyV t)] ?_
 simp only[bM]
 have e:good t=decide (chk t=0):=rfl
 rw[e]
 refine wG Nz TI ?_
 refine AR.callP h1 @bM TI ?_
 refine goG Nz TI ?_
 refine wG Nz TI ?_
 exact aB
theorem AM{P:Program}{o:Oper}{ev:Operand→V}{t:TypeId}{id:Nat}{x:Operand}{y x1:V}{q:Nat}(ht:q%1000000=t∧q/1000000=1)(ho:o.op= .box t x)(hx:ev x= .ag [.im (.pointer none),y,x1]):Step P o ev [(id,.free)] ⟨.pt id 0,[(id,.box [.nb id q,y,x1])]⟩:=by
 intro C ρ hC hR hf
 have hf':C.st id= .free:=hf (id,.free) (by simp)
 have h0:=hR x (by simp[ho,Op.operands])
 rw[hx]at h0
 obtain⟨h1,h2⟩:=h0.live rfl
 have hr:(execOp ρ o).run P C.w= .ok (.value (.pointer (some ⟨C.w.heap.size,0,none⟩))) (C.w.alloc (.cells (ρ x).cells t)):=by
  simp only[execOp,ho,Instr.box,Sem.run_bind,sM,Result.andThen_ok,Sem.run_pure]
 rw[hr]
 obtain⟨bs,hbs⟩: ∃bs,bs=(ρ x).cells:=⟨_,rfl⟩
 rw[←hbs]at h1 h2 ⊢
 have hz:bs.size=3:=h1
 obtain⟨D,hD⟩: ∃D,D=C.newId id (.cells bs t) (.box [.im (.pointer none),y,x1]):=⟨_,rfl⟩
 have hE:Ev C D:=by rw[hD];exact Ev.newId hf'
 have hO:Ok D:=by
  rw[hD];exact hC.newId hf' (fun cs' e=>by cases e;exact⟨bs,t,rfl,Nat.le_of_eq h1.symm,fun j hj=>(h2 j hj).1,fun j hj=>(h2 j hj).2⟩) (fun _ _ _ e=>by cases e) (fun _ _ e=>by cases e)
 have dw:D.w=C.w.alloc (.cells bs t):=by rw[hD];rfl
 have dσ:D.σ id=some C.w.heap.size:=by rw[hD];simp[Cf.newId]
 have dst:D.st id= .box [.im (.pointer none),y,x1]:=by rw[hD];simp[Cf.newId,upd]
 have dh:D.w.heap[C.w.heap.size]? =some (.cells bs t (0,0)):=by
  rw[dw];show(Array.push C.w.heap _)[C.w.heap.size]? =_
  exact Array.getElem?_push_size
 have hk:Kin D.st (upd D.st id (.box [.nb id q,y,x1])):=fun i=>by
  by_cases hi:i=id
  ·subst hi
   exact .inr ⟨_,[.nb i q,y,x1],dst,by simp[upd]⟩
  ·exact .inl (by simp[upd,hi])
 have hst:upd D.st id (.box [.nb id q,y,x1])=wrs C.st [(id,.box [.nb id q,y,x1])]:=by
  rw[hD]
  funext i
  simp only[Cf.newId,wrs,upd];split<;>rfl
 refine⟨D.wst (upd D.st id (.box [.nb id q,y,x1])),dw,hst,hO.wst hk fun i cs hb=> ?_,hE.trans (Ev.wst hk),.pt (cs:=[.nb id q,y,x1]) dσ (by simp[Cf.wst,upd])⟩
 by_cases hi:i=id
 ·subst hi
  have hb:Ent.box [.nb i q,y,x1]= .box cs:=by simpa[upd]using hb
  cases hb
  refine⟨C.w.heap.size,bs,t,dσ,dh,by simp[hz],fun j hj=>(h2 j hj).1,fun j hj=> ?_⟩
  match j,hj with
  | 0,_ =>
   have h3:=(h2 0 (by simp[V.cells])).2
   have h3:R C (.im (.pointer none)) (bs.getD 0 undef):=h3;have e:=h3.im_eq;exact .nb (cs:=[.nb i q,y,x1]) dσ (by simp[Cf.wst,upd]) (by rw[ht.1];exact dh) (by rw[hz,ht.2]) (.inl e)
  | 1,_ =>
   have h3:R C y (bs.getD 1 undef):=(h2 1 (by simp[V.cells])).2
   exact(h3.mono hE).wst hk
  | 2,_ =>
   have h3:R C x1 (bs.getD 2 undef):=(h2 2 (by simp[V.cells])).2
   exact(h3.mono hE).wst hk
 ·have hb:D.st i= .box cs:=by simpa[upd,hi]using hb
  obtain⟨g,bs',t',e1,e2,e3,e4,e5⟩:=hO.box i cs hb;exact⟨g,bs',t',e1,e2,e3,e4,fun j hj=>(e5 j hj).wst hk⟩
theorem Zi{P:Program}{N:Nat}{ops:Array Oper}{dr:Bool}{Q:Exit→St→Prop}{d:Option Tmp}{t ty:TypeId}{x:Operand}{pos:String}{af:Array Edge}{os:List Oper}{k:Nat}{s:List (Nat×V)}{l:List Ent}{acc:List (Nat×List Nat×List Nat)}{y x1:V}
  {q:Nat} (ht:q%1000000=t∧q/1000000=1) (hx:St.ev ⟨dn N s,ofl l⟩ x= .ag [.im (.pointer none),y,x1]) (hn:AR P ops dr Q os (k+1) ⟨dn N (eV s d (.pt l.length 0)),ofl (l++[.box [.nb l.length q,y,x1]])⟩ ((k,[l.length],[l.length])::acc)) :
  AR P ops dr Q (⟨d,.box t x,ty,pos,af,none⟩::os) k ⟨dn N s,ofl l⟩ acc :=
 .inr (.inl ⟨rfl,[(l.length,.free)],⟨.pt l.length 0,[(l.length,.box [.nb l.length q,y,x1])]⟩,AM ht rfl hx,fun p hp=>by
  obtain rfl:=List.mem_singleton.1 hp;exact vY l,by
  have e:ofl (l++[.box [.nb l.length q,y,x1]])=wrs (ofl l) [(l.length,.box [.nb l.length q,y,x1])]:=by
   rw[←uT];rfl
  rw[e,←kT N s (ofl l)]at hn
  exact hn⟩)
theorem AN{P:Program}{o:Oper}{ev:Operand→V}{t:TypeId}{id:Nat}{x:Operand}{y:V}(ht:t<1000000)(ho:o.op= .box t x)(hx:ev x= .ag [.im (.pointer none),y]):Step P o ev [(id,.free)] ⟨.pt id 0,[(id,.box [.nb id t,y])]⟩:=by
 intro C ρ hC hR hf
 have hf':C.st id= .free:=hf (id,.free) (by simp)
 have h0:=hR x (by simp[ho,Op.operands])
 rw[hx]at h0
 obtain⟨h1,h2⟩:=h0.live rfl
 have hr:(execOp ρ o).run P C.w= .ok (.value (.pointer (some ⟨C.w.heap.size,0,none⟩))) (C.w.alloc (.cells (ρ x).cells t)):=by
  simp only[execOp,ho,Instr.box,Sem.run_bind,sM,Result.andThen_ok,Sem.run_pure]
 rw[hr]
 obtain⟨bs,hbs⟩: ∃bs,bs=(ρ x).cells:=⟨_,rfl⟩
 rw[←hbs]at h1 h2 ⊢
 have hz:bs.size=2:=h1
 obtain⟨D,hD⟩: ∃D,D=C.newId id (.cells bs t) (.box [.im (.pointer none),y]):=⟨_,rfl⟩
 have hE:Ev C D:=by rw[hD];exact Ev.newId hf'
 have hO:Ok D:=by
  rw[hD];exact hC.newId hf' (fun cs' e=>by cases e;exact⟨bs,t,rfl,Nat.le_of_eq h1.symm,fun j hj=>(h2 j hj).1,fun j hj=>(h2 j hj).2⟩) (fun _ _ _ e=>by cases e) (fun _ _ e=>by cases e)
 have dw:D.w=C.w.alloc (.cells bs t):=by rw[hD];rfl
 have dσ:D.σ id=some C.w.heap.size:=by rw[hD];simp[Cf.newId]
 have dst:D.st id= .box [.im (.pointer none),y]:=by rw[hD];simp[Cf.newId,upd]
 have dh:D.w.heap[C.w.heap.size]? =some (.cells bs t (0,0)):=by
  rw[dw];show(Array.push C.w.heap _)[C.w.heap.size]? =_
  exact Array.getElem?_push_size
 have hk:Kin D.st (upd D.st id (.box [.nb id t,y])):=fun i=>by
  by_cases hi:i=id
  ·subst hi
   exact .inr ⟨_,[.nb i t,y],dst,by simp[upd]⟩
  ·exact .inl (by simp[upd,hi])
 have hst:upd D.st id (.box [.nb id t,y])=wrs C.st [(id,.box [.nb id t,y])]:=by
  rw[hD]
  funext i
  simp only[Cf.newId,wrs,upd];split<;>rfl
 refine⟨D.wst (upd D.st id (.box [.nb id t,y])),dw,hst,hO.wst hk fun i cs hb=> ?_,hE.trans (Ev.wst hk),.pt (cs:=[.nb id t,y]) dσ (by simp[Cf.wst,upd])⟩
 by_cases hi:i=id
 ·subst hi
  have hb:Ent.box [.nb i t,y]= .box cs:=by simpa[upd]using hb
  cases hb
  refine⟨C.w.heap.size,bs,t,dσ,dh,by simp[hz],fun j hj=>(h2 j hj).1,fun j hj=> ?_⟩
  match j,hj with
  | 0,_ =>
   have h3:=(h2 0 (by simp[V.cells])).2
   have h3:R C (.im (.pointer none)) (bs.getD 0 undef):=h3;have e:=h3.im_eq;exact .nb (cs:=[.nb i t,y]) dσ (by simp[Cf.wst,upd]) (by rw[Nat.mod_eq_of_lt ht];exact dh) (by rw[hz,Nat.div_eq_of_lt ht]) (.inl e)
  | 1,_ =>
   have h3:R C y (bs.getD 1 undef):=(h2 1 (by simp[V.cells])).2
   exact(h3.mono hE).wst hk
 ·have hb:D.st i= .box cs:=by simpa[upd,hi]using hb
  obtain⟨g,bs',t',e1,e2,e3,e4,e5⟩:=hO.box i cs hb;exact⟨g,bs',t',e1,e2,e3,e4,fun j hj=>(e5 j hj).wst hk⟩
theorem RV{P:Program}{N:Nat}{ops:Array Oper}{dr:Bool}{Q:Exit→St→Prop}{d:Option Tmp}{t ty:TypeId}{x:Operand}{pos:String}{af:Array Edge}{os:List Oper}{k:Nat}{s:List (Nat×V)}{l:List Ent}{acc:List (Nat×List Nat×List Nat)}{y:V}
  (ht:t<1000000) (hx:St.ev ⟨dn N s,ofl l⟩ x= .ag [.im (.pointer none),y]) (hn:AR P ops dr Q os (k+1) ⟨dn N (eV s d (.pt l.length 0)),ofl (l++[.box [.nb l.length t,y]])⟩ ((k,[l.length],[l.length])::acc)) :
  AR P ops dr Q (⟨d,.box t x,ty,pos,af,none⟩::os) k ⟨dn N s,ofl l⟩ acc :=
 .inr (.inl ⟨rfl,[(l.length,.free)],⟨.pt l.length 0,[(l.length,.box [.nb l.length t,y])]⟩,AN ht rfl hx,fun p hp=>by
  obtain rfl:=List.mem_singleton.1 hp;exact vY l,by
  have e:ofl (l++[.box [.nb l.length t,y]])=wrs (ofl l) [(l.length,.box [.nb l.length t,y])]:=by
   rw[←uT];rfl
  rw[e,←kT N s (ofl l)]at hn
  exact hn⟩)
def PDC(P:Program)(f:FuncId)(xs:List V)(l0:List Ent)(v:Value)(l1:List Ent):Prop :=
 Bj P f=true∧ ∀(C:Cf) (vs:Array Value),C.st=ofl l0→Ok C→vs.size=xs.length→(∀i (h:i<xs.length),R C xs[i] (vs.getD i undef)) →
  Calls P f vs C.w fun e w'=>e= .panicked (chn v)∧Beh C (ofl l1) w'
theorem Ey{P:Program}{o:Oper}{ev:Operand→V}{c:Operand}{args:Array Operand}{tys:Array TypeId}{f:FuncId}{us vs xs:List V}{v:Value}{l0 l1:List Ent}(js:List Nat)(ho:o.op= .call {callee:= .value c,args:=args,argTypes:=tys})(hc:ev c= .fn (.func f) us vs)(h:PDC P f xs l0 v l1)
  (hw:WkL (us++args.toList.map ev++vs) (V.renL (gOf js) xs)) (hi:V.idsL (ltB js.length) xs=true) (hnd:js.Nodup) (h0:l0.length=js.length) (h1:l1.length=js.length) (he:l0.all (entOk (ltB js.length))=true) :
  PStep P o ev (fQ js 0 l0) (fQ js 0 l1) v:=by
 refine⟨(fun c hc=>by rw[ho]at hc;cases hc),?_⟩
 intro C ρ hC hR hfp
 have hF:Fits C js l0:=⟨hnd,h0,fun i hi=>by
  have:=hfp _ (Fo (js:=js) (l:=l0) (i:=0) (j:=i) (by omega))
  simpa using this⟩
 have hcr:=hR c (by simp[ho,Op.operands,Call.operands])
 rw[hc]at hcr
 generalize hu:ρ c=u at hcr
 cases hcr with
 | @fn _ _ _ us' vs' k1 k2 k3 k4 =>
  have hrun:(execOp ρ o).run P C.w= .ok (.enter f (us'++args.map ρ++vs')) C.w:=by
   simp only[execOp,ho,resolve,hu,Deferred.ofValue,invoke,Sem.run_bind,Sem.run_pure,Result.andThen_ok,oL h.1]
  rw[hrun];have hlen:=hw.length;rw[V.renL_length]at hlen
  have hsz:(us'++args.map ρ++vs').size=xs.length:=by
   rw[←hlen];simp[k1,k2]
  refine(h.2 (C.sub js l0) _ rfl (hC.sub hF he) hsz (fun i hi'=> ?_)).mono ?_
  ·have hi2:i<(us++args.toList.map ev++vs).length:=by omega
   have hi3:i<(V.renL (gOf js) xs).length:=by rw[V.renL_length];exact hi'
   have hwi:Wk (us++args.toList.map ev++vs)[i] (V.renL (gOf js) xs)[i]:=hw.get i hi2 hi3
   have hraw:R C (us++args.toList.map ev++vs)[i] ((us'++args.map ρ++vs').getD i undef):=by
    rw[Array.getD_eq_getD_getElem?,Array.getElem?_append,Array.getElem?_append];simp only[Array.size_append,Array.size_map,k1];simp only[List.getElem_append,List.length_append,List.length_map,Array.length_toList]
    by_cases q1:i<us.length
    ·have q0:i<us.length+args.size:=by omega
     have q2:i<us'.size:=by omega
     have:=k3 i q1;simpa[q1,q0,q2]using this
    ·by_cases q2:i<us.length+args.size
     ·have q3:i-us.length<args.size:=by omega
      have:=hR args[i-us.length] (by simp[ho,Op.operands,Call.operands])
      simpa[q1,q2,q3]using this
     ·have hi3:i<us.length+args.size+vs.length:=by simp at hi2;omega
      have q3:i-(us.length+args.size)<vs.length:=by omega
      have q4:i-(us.length+args.size)<vs'.size:=by omega
      have:=k4 _ q3;simpa[q1,q2,q4]using this
   exact(hwi C _ hraw).sub hF _ (V.renL_get _ hi' _) (V.idsL_get hi i hi')
  ·rintro e w' ⟨rfl,D,rfl,h2,h3,h4⟩
   refine⟨rfl,C.sup js D,rfl,?_,hC.sup hF h4 h3 h2 h1,Ev.sup hC hF h4⟩
   funext k
   rw[Ek (st:=C.st) (fun a b h6 h7=>fun e=>by have:=Mh hnd (by omega) (by omega) e;omega)]
   show(if k∈js then(D.st (js.idxOf k)).ren (gOf js)else C.st k)=_
   by_cases hk:k∈js
   ·rw[if_pos hk]
    have hx:=List.idxOf_lt_length_of_mem hk;cases hfind:(List.range l1.length).find? (fun j=>gOf js (0+j)==k)with
    | none =>
     rw[List.find?_eq_none]at hfind;have:=hfind (js.idxOf k) (by simp;omega)
     simp[iW hk]at this
    | some j =>
     have hj:=List.find?_some hfind;have hjm:=List.mem_of_find?_eq_some hfind;simp only[Nat.zero_add,beq_iff_eq]at hj;have hjl:j<js.length:=by simp at hjm;omega
     have:js.idxOf k=j:=by rw[←hj];exact pW hnd hjl
     rw[this,h2]
   ·rw[if_neg hk]
    cases hfind:(List.range l1.length).find? (fun j=>gOf js (0+j)==k)with
    | none=>rfl
    | some j =>
     have hj:=List.find?_some hfind;have hjm:=List.mem_of_find?_eq_some hfind;simp only[Nat.zero_add,beq_iff_eq]at hj;exact absurd (hj▸mE (by simp at hjm;omega)) hk
theorem Pi{P:Program}{o:Oper}{ev:Operand→V}{x:Operand}{t:TypeId}{u:Value}(ho:o.op= .panic x)(hx:ev x= .im (.iface t u)):PStep P o ev [] [] (.iface t u):=by
 refine⟨(fun c hc=>by rw[ho]at hc;cases hc),?_⟩
 intro C ρ hC hR _
 have h1:=hR x (by simp[ho,Op.operands])
 rw[hx]at h1
 have e1:ρ x= .iface t u:=h1.im_eq
 have hrun:(execOp ρ o).run P C.w= .halt (.panic (.iface t u)) C.w:=by
  simp only[execOp,ho,e1,Instr.panic];rfl
 rw[hrun]
 exact⟨rfl,C,rfl,rfl,hC,Ev.refl C⟩
def PFin(n:Nat)(v:Value)(e:Exit)(A:St):Prop:=e= .panic (chn v)∧ ∃cs,A.st 0= .box cs∧cs.length=n
theorem PDC.enter{P:Program}{f:FuncId}{fn:Func}{c:Code}{xs:List V}{s:List (Nat×V)}{cs0:List V}{v:Value}{n:Nat}(N:Nat)(hf:P.funcs[f]? =some fn)(hb:fn.body=some c)(hn:fn.name≠ "runtime.NumGoroutine")(hN:fn.ntmps=N)(hx:Nat.ble xs.length N=true)(hs:enum 0 xs=s)
  (h:AWp P (ofl [.box cs0]) c (PFin n v) ⟨dn N s,ofl [.box cs0]⟩):PDC P f xs [.box cs0] v [.box (List.replicate n .dead)]:=by
 subst hs hN
 rw[←zL (by simpa using hx)]at h
 refine⟨by simp[Bj,hf,hb,hn],fun C vs hst hC hsz hR=> ?_⟩
 refine callsIn_wide.1 (callsIn_of_wp_marks (F:=Fence.wide) (n:=0) hf hb trivial (wpIn_mono (h C C {tmps:=vs++Array.replicate (fn.ntmps-vs.size) undef,defers:=[]} {r:=none} 0 rfl hst (Ev.refl C) ⟨hst,hC,.nil,by simp[hsz],fun t ht=> ?_⟩) ?_))
 ·by_cases h1:t<xs.length
  ·have h2:=hR t h1
   have h3:t<vs.size:=by omega
   simpa[List.getD,List.getElem?_append,h1,Array.getElem?_append,h3]using h2
  ·have:(xs++List.replicate (fn.ntmps-xs.length) V.dead).getD t .dead= .dead:=by
    simp only[List.getD,List.getElem?_append,if_neg h1,List.getElem?_replicate];split<;>rfl
   rw[this];exact .dead
 ·rintro e a' w' ⟨A',D,⟨rfl,cs,q1,q2⟩,hS,rfl,hE⟩
  have fin: ∀D':Cf,D'.st=A'.st→Ok D'→Ev C D'→Beh C (ofl [.box (List.replicate n .dead)]) D'.w:=by
   intro D' e1 hO hE';have hb0:D'.st 0= .box cs:=by rw[e1];exact q1
   have hk:Kin D'.st (upd D'.st 0 (.box (List.replicate n .dead))):=fun i=>by
    by_cases hi:i=0
    ·subst hi;exact .inr ⟨cs,List.replicate n .dead,hb0,by simp[upd]⟩
    ·exact .inl (by simp[upd,hi])
   have hO2:Ok (D'.wst (upd D'.st 0 (.box (List.replicate n .dead)))):=hO.wst hk fun i cs' hb=>by
    by_cases hi:i=0
    ·subst hi
     have hb:Ent.box (List.replicate n V.dead)= .box cs':=by simpa[upd]using hb
     cases hb
     obtain⟨g,bs,t,k1,k2,k3,k4,_⟩:=hO.box 0 cs hb0;refine⟨g,bs,t,k1,k2,by simpa[←q2]using k3,fun j hj=>k4 j (by simpa[q2]using hj),fun j hj=> ?_⟩
     rw[List.getElem_replicate];exact .dead
    ·have hb:D'.st i= .box cs':=by simpa[upd,hi]using hb
     obtain⟨g,bs,t,k1,k2,k3,k4,k5⟩:=hO.box i cs' hb;exact⟨g,bs,t,k1,k2,k3,k4,fun j hj=>(k5 j hj).wst hk⟩
   have hE2:Ev C (D'.wst (upd D'.st 0 (.box (List.replicate n .dead)))):=hE'.trans (Ev.wst hk);refine⟨(D'.wst (upd D'.st 0 (.box (List.replicate n .dead)))).only (fun i=>i==0),rfl,?_,hO2.only fun i cs' hb hi=> ?_,hE2.only fun i hi=> ?_⟩
   ·funext i
    show(if(i==0)=true then upd D'.st 0 (.box (List.replicate n .dead)) i else .free)=_
    cases i with
    | zero=>simp[upd,ofl]
    | succ i=>simp[ofl]
   ·obtain rfl:i=0:=by simpa using hi
    have hb:Ent.box (List.replicate n V.dead)= .box cs':=by simpa[Cf.wst,upd]using hb
    cases hb
    have: ∀m,V.idsL (fun i=>i==0) (List.replicate m V.dead)=true:=fun m=>by
     induction m with
     | zero=>rfl
     | succ m ih=>simpa[List.replicate_succ,V.idsL,V.ids]using ih
    exact this n
   ·have:=qW (by rw[←hst];exact hi)
    simp at this;simp[this]
  have lv: ∀(bs:List Nat) (D:Cf),D.st=A'.st→Ok D→Ev C D→bs.Nodup→(∀b∈bs,C.w.heap.size≤b∧D.w.heap[b]? =some (.deferred (some []))∧ ∀i,D.σ i=some b→D.st i= .free) →
    LeavesInM Fence.wide 0 P fn a'.tmps (fun e w'=>e= .panicked (chn v)∧Beh C (ofl [.box (List.replicate n .dead)]) w') (bs.map fun b=>{target:= .collected b,args:= #[]}) (.panicking (chn v)) D.w:=by
   intro bs
   induction bs with
   | nil=>intro D r1 r2 r4 _ _;exact⟨rfl,fin D r1 r2 r4⟩
   | cons b bs ih =>
    intro D r1 r2 r4 r5 r6;obtain⟨hlo,hbk,hs⟩:=r6 b (by simp)
    refine⟨by simp,.inl ⟨b,_,rfl,run_takeDeferred hbk,?_⟩⟩
    have hnc: ∀cs t fr,Obj.deferred (some [])≠ .cells cs t fr:=fun _ _ _ e=>by cases e
    obtain⟨s1,s2⟩:=r2.turned (o':= .deferred none) hbk hnc (fun _ _ e=>by cases e) hs
    have s3:=(r2.turn (o':= .deferred none) hbk hnc hs).2;refine ih (D.withW (D.w.putObj b (.deferred none))) r1 s1 (Lj r4 r2 hlo hbk hnc hs) (List.nodup_cons.1 r5).2 fun b' hb'=> ?_
    obtain⟨t1,t2,t3⟩:=r6 b' (by simp[hb'])
    exact⟨t1,(s3 b' (fun e=>(List.nodup_cons.1 r5).1 (e▸hb'))).trans t2,t3⟩
  obtain⟨bs,d1,d2,d3⟩:=hS.defers
  replace d1:=d1.trans (List.append_nil _)
  show LeavesInM Fence.wide 0 P fn a'.tmps _ a'.defers (.panicking (chn v)) D.w
  rw[d1];refine lv bs D hS.st hS.ok hE d2 fun b hb=> ?_
  obtain⟨⟨lo,e1,e2⟩,k2,k3⟩:=d3 b hb;cases e1
  exact⟨e2,k2,k3⟩
theorem Sq{P:Program}{N:Nat}{ops:Array Oper}{dr:Bool}{Q:Exit→St→Prop}{d:Option Tmp}{c:Operand}{args:Array Operand}{tys:Array TypeId}{ty:TypeId}{pos:String}{af:Array Edge}{g:Option (Nat×Bool)}{os:List Oper}{k:Nat}{s:List (Nat×V)}{l:List Ent}
  {acc:List (Nat×List Nat×List Nat)} {f:FuncId} {us vs xs xs':List V} {v:Value} {l0 l1 l':List Ent} {F E M:Prop} (js:List Nat) (hd:dr=true→ ∃L F,Run P ops ⟨dn N s,ofl l⟩ L F∧OI ops k (acc.reverse++L.map Itm.key)=true) (h:PDC P f xs l0 v l1) (fa:F) (fi:E) (fr:M)
  (n: ∀s',Q (.panic (chn v)) ⟨s',ofl l'⟩) (hg:gd ops ⟨d,.call {callee:= .value c,args:=args,argTypes:=tys},ty,pos,af,g⟩ ⟨dn N s,ofl l⟩=some true:=by rfl) (hc:St.ev ⟨dn N s,ofl l⟩ c= .fn (.func f) us vs:=by rfl)
  (hx:M→V.renL (gOf js) xs=xs':=by intro f;first|(simp only[SR,f];done)|(simp only[SR,f];with_reducible exact rfl))
  (hw:F→WkL (us++args.toList.map (St.ev ⟨dn N s,ofl l⟩)++vs) xs':=by intro f;exact iH (by simp only[St.ev,V.ofVal,V.ofCell,V.size_im,fT,dE,iJ,Nat.reduceLT,Nat.reduceEqDiff,reduceIte,if_true,if_false,List.map_cons,List.map_nil,List.nil_append,List.cons_append,List.append_nil,f])) (hi:E→V.idsL (ltB js.length) xs=true:=by intro f;first|rfl|simp only[List.length_cons,List.length_nil,Nat.reduceAdd,V.ids,V.idsL,idsA,entOk,List.all_cons,List.all_nil,Bool.and_self,Bool.and_true,Bool.true_and,ltB,noId,Nat.reduceLT,decide_true,Bool.true_eq_false,bQ,bS,bR,bT,f])
  (hnd:decide js.Nodup=true:=by rfl) (h0:l0.length=js.length:=by rfl) (h1:l1.length=js.length:=by rfl) (he:E→l0.all (entOk (ltB js.length))=true:=by intro f;first|rfl|simp only[List.length_cons,List.length_nil,Nat.reduceAdd,V.ids,V.idsL,idsA,entOk,List.all_cons,List.all_nil,Bool.and_self,Bool.and_true,Bool.true_and,ltB,noId,Nat.reduceLT,decide_true,Bool.true_eq_false,bQ,bS,bR,bT,f])
  (hl:M→ ∀p∈fQ js 0 l0,ofl l p.1=p.2:=by intro f p hp;simp only[fQ,SR,Ent.ren,List.mem_cons,List.not_mem_nil,or_false,f]at hp;first|(rcases hp with rfl<;>rfl)|(rcases hp with rfl|rfl<;>rfl)|(rcases hp with rfl|rfl|rfl<;>rfl))
  (hl':M→wrl l (fQ js 0 l1)=l':=by intro f;first|rfl|(simp only[fQ,Ent.ren,SR,f,wrl,putE,SC,SD,Nat.reduceBEq,Nat.reduceLT,Nat.reduceSub,Nat.reduceAdd,Nat.reduceMul,Nat.reduceLeDiff,Nat.reduceEqDiff,reduceCtorEq];with_reducible exact rfl)) :
  AR P ops dr Q (⟨d,.call {callee:= .value c,args:=args,argTypes:=tys},ty,pos,af,g⟩::os) k ⟨dn N s,ofl l⟩ acc:=by
 have e1:=hx fr
 have e2:=hl' fr
 subst e1 e2
 refine .inr (.inr (.inr ⟨hg,_,_,v,Ey js rfl hc h (hw fa) (hi fi) (of_decide_eq_true hnd) h0 h1 (he fi),hl fr,fun s' _=> ?_,hd⟩))
 show Q _ ⟨s',wrs (ofl l) (fQ js 0 l1)⟩
 rw[←sN]
 exact n s'
theorem PA.callS{P:Program}{N:Nat}{ops:Array Oper}{Q:Exit→St→Prop}{d:Option Tmp}{c:Operand}{args:Array Operand}{tys:Array TypeId}{ty:TypeId}{pos:String}{af:Array Edge}{g:Option (Nat×Bool)}{os:List Oper}{k:Nat}{s:List (Nat×V)}{l:List Ent}
  {acc:List (Nat×List Nat×List Nat)} {f:FuncId} {us vs xs xs':List V} {v:Value} {l0 l1 l':List Ent} {F E M:Prop} (js:List Nat) (h:PDC P f xs l0 v l1) (fa:F) (fi:E) (fr:M)
  (n:Q (.panic (chn v)) ⟨dn N s,ofl l'⟩) (hg:gd ops ⟨d,.call {callee:= .value c,args:=args,argTypes:=tys},ty,pos,af,g⟩ ⟨dn N s,ofl l⟩=some true:=by rfl) (hc:St.ev ⟨dn N s,ofl l⟩ c= .fn (.func f) us vs:=by rfl)
  (hx:M→V.renL (gOf js) xs=xs':=by intro f;first|(simp only[SR,f];done)|(simp only[SR,f];with_reducible exact rfl))
  (hw:F→WkL (us++args.toList.map (St.ev ⟨dn N s,ofl l⟩)++vs) xs':=by intro f;exact iH (by simp only[St.ev,V.ofVal,V.ofCell,V.size_im,fT,dE,iJ,Nat.reduceLT,Nat.reduceEqDiff,reduceIte,if_true,if_false,List.map_cons,List.map_nil,List.nil_append,List.cons_append,List.append_nil,f])) (hi:E→V.idsL (ltB js.length) xs=true:=by intro f;first|rfl|simp only[List.length_cons,List.length_nil,Nat.reduceAdd,V.ids,V.idsL,idsA,entOk,List.all_cons,List.all_nil,Bool.and_self,Bool.and_true,Bool.true_and,ltB,noId,Nat.reduceLT,decide_true,Bool.true_eq_false,bQ,bS,bR,bT,f])
  (hnd:decide js.Nodup=true:=by rfl) (h0:l0.length=js.length:=by rfl) (h1:l1.length=js.length:=by rfl) (he:E→l0.all (entOk (ltB js.length))=true:=by intro f;first|rfl|simp only[List.length_cons,List.length_nil,Nat.reduceAdd,V.ids,V.idsL,idsA,entOk,List.all_cons,List.all_nil,Bool.and_self,Bool.and_true,Bool.true_and,ltB,noId,Nat.reduceLT,decide_true,Bool.true_eq_false,bQ,bS,bR,bT,f])
  (hl:M→ ∀p∈fQ js 0 l0,ofl l p.1=p.2:=by intro f p hp;simp only[fQ,SR,Ent.ren,List.mem_cons,List.not_mem_nil,or_false,f]at hp;first|(rcases hp with rfl<;>rfl)|(rcases hp with rfl|rfl<;>rfl)|(rcases hp with rfl|rfl|rfl<;>rfl))
  (hl':M→wrl l (fQ js 0 l1)=l':=by intro f;first|rfl|(simp only[fQ,Ent.ren,SR,f,wrl,putE,SC,SD,Nat.reduceBEq,Nat.reduceLT,Nat.reduceSub,Nat.reduceAdd,Nat.reduceMul,Nat.reduceLeDiff,Nat.reduceEqDiff,reduceCtorEq];with_reducible exact rfl)) :
  AR P ops false Q (⟨d,.call {callee:= .value c,args:=args,argTypes:=tys},ty,pos,af,g⟩::os) k ⟨dn N s,ofl l⟩ acc:=by
 have e1:=hx fr
 have e2:=hl' fr
 subst e1 e2
 refine .inr (.inr (.inr ⟨hg,_,_,v,Ey js rfl hc h (hw fa) (hi fi) (of_decide_eq_true hnd) h0 h1 (he fi),hl fr,fun s' hs'=> ?_,fun e=>by cases e⟩))
 obtain rfl:=hs' rfl
 show Q _ ⟨dn N s,wrs (ofl l) (fQ js 0 l1)⟩
 rw[←sN]
 exact n
theorem PA.callP{P:Program}{N:Nat}{ops:Array Oper}{Q:Exit→St→Prop}{d:Option Tmp}{c:Operand}{args:Array Operand}{tys:Array TypeId}{ty:TypeId}{pos:String}{af:Array Edge}{g:Option (Nat×Bool)}{os:List Oper}{k:Nat}{s:List (Nat×V)}{l:List Ent}
  {acc:List (Nat×List Nat×List Nat)} {f:FuncId} {us vs xs xs':List V} {v:Value} {l0 l1 l':List Ent} {F E M:Prop} (js:List Nat) (h:PDC P f xs l0 v l1) (fa:F) (fi:E) (fr:M)
  (n: ∀s',Q (.panic (chn v)) ⟨s',ofl l'⟩) (hg:gd ops ⟨d,.call {callee:= .value c,args:=args,argTypes:=tys},ty,pos,af,g⟩ ⟨dn N s,ofl l⟩=some true:=by rfl) (hc:St.ev ⟨dn N s,ofl l⟩ c= .fn (.func f) us vs:=by rfl)
  (hx:M→V.renL (gOf js) xs=xs':=by intro f;first|(simp only[SR,f];done)|(simp only[SR,f];with_reducible exact rfl))
  (hw:F→WkL (us++args.toList.map (St.ev ⟨dn N s,ofl l⟩)++vs) xs':=by intro f;exact iH (by simp only[St.ev,V.ofVal,V.ofCell,V.size_im,fT,dE,iJ,Nat.reduceLT,Nat.reduceEqDiff,reduceIte,if_true,if_false,List.map_cons,List.map_nil,List.nil_append,List.cons_append,List.append_nil,f])) (hi:E→V.idsL (ltB js.length) xs=true:=by intro f;first|rfl|simp only[List.length_cons,List.length_nil,Nat.reduceAdd,V.ids,V.idsL,idsA,entOk,List.all_cons,List.all_nil,Bool.and_self,Bool.and_true,Bool.true_and,ltB,noId,Nat.reduceLT,decide_true,Bool.true_eq_false,bQ,bS,bR,bT,f])
  (hnd:decide js.Nodup=true:=by rfl) (h0:l0.length=js.length:=by rfl) (h1:l1.length=js.length:=by rfl) (he:E→l0.all (entOk (ltB js.length))=true:=by intro f;first|rfl|simp only[List.length_cons,List.length_nil,Nat.reduceAdd,V.ids,V.idsL,idsA,entOk,List.all_cons,List.all_nil,Bool.and_self,Bool.and_true,Bool.true_and,ltB,noId,Nat.reduceLT,decide_true,Bool.true_eq_false,bQ,bS,bR,bT,f])
  (hl:M→ ∀p∈fQ js 0 l0,ofl l p.1=p.2:=by intro f p hp;simp only[fQ,SR,Ent.ren,List.mem_cons,List.not_mem_nil,or_false,f]at hp;first|(rcases hp with rfl<;>rfl)|(rcases hp with rfl|rfl<;>rfl)|(rcases hp with rfl|rfl|rfl<;>rfl))
  (hl':M→wrl l (fQ js 0 l1)=l':=by intro f;first|rfl|(simp only[fQ,Ent.ren,SR,f,wrl,putE,SC,SD,Nat.reduceBEq,Nat.reduceLT,Nat.reduceSub,Nat.reduceAdd,Nat.reduceMul,Nat.reduceLeDiff,Nat.reduceEqDiff,reduceCtorEq];with_reducible exact rfl)) :
  AR P ops false Q (⟨d,.call {callee:= .value c,args:=args,argTypes:=tys},ty,pos,af,g⟩::os) k ⟨dn N s,ofl l⟩ acc :=
 Sq js (fun e=>by cases e) h fa fi fr n hg hc hx hw hi hnd h0 h1 he hl hl'
theorem pQ{P:Program}{N:Nat}{ops:Array Oper}{Q:Exit→St→Prop}{d:Option Tmp}{c:Operand}{args:Array Operand}{tys:Array TypeId}{ty:TypeId}{pos:String}{af:Array Edge}{g:Option (Nat×Bool)}{os:List Oper}{k:Nat}{s:List (Nat×V)}{l:List Ent}
  {acc:List (Nat×List Nat×List Nat)} {f:FuncId} {us vs xs xs':List V} {v:Value} {l0 l1 l':List Ent} {F E M:Prop} (js:List Nat) (h:PDC P f xs l0 v l1) (fa:F) (fi:E) (fr:M)
  (n: ∀s',Q (.panic (chn v)) ⟨s',ofl l'⟩) (hd: ∃L F,Run P ops ⟨dn N s,ofl l⟩ L F∧OI ops k (acc.reverse++L.map Itm.key)=true) (hg:gd ops ⟨d,.call {callee:= .value c,args:=args,argTypes:=tys},ty,pos,af,g⟩ ⟨dn N s,ofl l⟩=some true:=by rfl) (hc:St.ev ⟨dn N s,ofl l⟩ c= .fn (.func f) us vs:=by rfl)
  (hx:M→V.renL (gOf js) xs=xs':=by intro f;first|(simp only[SR,f];done)|(simp only[SR,f];with_reducible exact rfl))
  (hw:F→WkL (us++args.toList.map (St.ev ⟨dn N s,ofl l⟩)++vs) xs':=by intro f;exact iH (by simp only[St.ev,V.ofVal,V.ofCell,V.size_im,fT,dE,iJ,Nat.reduceLT,Nat.reduceEqDiff,reduceIte,if_true,if_false,List.map_cons,List.map_nil,List.nil_append,List.cons_append,List.append_nil,f])) (hi:E→V.idsL (ltB js.length) xs=true:=by intro f;first|rfl|simp only[List.length_cons,List.length_nil,Nat.reduceAdd,V.ids,V.idsL,idsA,entOk,List.all_cons,List.all_nil,Bool.and_self,Bool.and_true,Bool.true_and,ltB,noId,Nat.reduceLT,decide_true,Bool.true_eq_false,bQ,bS,bR,bT,f])
  (hnd:decide js.Nodup=true:=by rfl) (h0:l0.length=js.length:=by rfl) (h1:l1.length=js.length:=by rfl) (he:E→l0.all (entOk (ltB js.length))=true:=by intro f;first|rfl|simp only[List.length_cons,List.length_nil,Nat.reduceAdd,V.ids,V.idsL,idsA,entOk,List.all_cons,List.all_nil,Bool.and_self,Bool.and_true,Bool.true_and,ltB,noId,Nat.reduceLT,decide_true,Bool.true_eq_false,bQ,bS,bR,bT,f])
  (hl:M→ ∀p∈fQ js 0 l0,ofl l p.1=p.2:=by intro f p hp;simp only[fQ,SR,Ent.ren,List.mem_cons,List.not_mem_nil,or_false,f]at hp;first|(rcases hp with rfl<;>rfl)|(rcases hp with rfl|rfl<;>rfl)|(rcases hp with rfl|rfl|rfl<;>rfl))
  (hl':M→wrl l (fQ js 0 l1)=l':=by intro f;first|rfl|(simp only[fQ,Ent.ren,SR,f,wrl,putE,SC,SD,Nat.reduceBEq,Nat.reduceLT,Nat.reduceSub,Nat.reduceAdd,Nat.reduceMul,Nat.reduceLeDiff,Nat.reduceEqDiff,reduceCtorEq];with_reducible exact rfl)) :
  AR P ops true Q (⟨d,.call {callee:= .value c,args:=args,argTypes:=tys},ty,pos,af,g⟩::os) k ⟨dn N s,ofl l⟩ acc :=
 Sq js (fun _=>hd) h fa fi fr n hg hc hx hw hi hnd h0 h1 he hl hl'
theorem wD{P:Program}{ops:Array Oper}{A:St}{i:Nat}{d:Option Tmp}{t ft ty:TypeId}{f off z id k:Nat}{x:Operand}{pos:String}{af:Array Edge}(ho:ops[i]? =some ⟨d,.fieldAddr t x f,ty,pos,af,none⟩)(hx:A.ev x= .pt id k)(h:dZ P t f=some (off,ft))(hz:szOf P ft=some z)(hz0:z≠0):Valid P ops A ⟨i,[],⟨.pt id (k+off),[]⟩⟩ :=
 ⟨_,ho,.inl ⟨rfl,uK rfl hx h hz hz0,fun p hp=>by cases hp⟩⟩
theorem PA.panic{P:Program}{N:Nat}{ops:Array Oper}{Q:Exit→St→Prop}{d:Option Tmp}{x:Operand}{ty t:TypeId}{pos:String}{af:Array Edge}{g:Option (Nat×Bool)}{os:List Oper}{k:Nat}{s:List (Nat×V)}{l:List Ent}{acc:List (Nat×List Nat×List Nat)}{u:Value}
  (n: ∀s',Q (.panic (chn (.iface t u))) ⟨s',ofl l⟩) (hg:gd ops ⟨d,.panic x,ty,pos,af,g⟩ ⟨dn N s,ofl l⟩=some true:=by rfl) (hx:St.ev ⟨dn N s,ofl l⟩ x= .im (.iface t u):=by rfl) :
  AR P ops false Q (⟨d,.panic x,ty,pos,af,g⟩::os) k ⟨dn N s,ofl l⟩ acc :=
 .inr (.inr (.inr ⟨hg,[],[],_,Pi rfl hx,(fun p hp=>by cases hp),fun s' _=>n s',fun e=>by cases e⟩))
theorem AJ{P:Program}{o:Oper}{ev:Operand→V}{t:TypeId}{x:Operand}{a b:Value}(ho:o.op= .makeInterface t x)(ht:ifT P t=some false)(hx:ev x= .ag [.im a,.im b]):Step P o ev [] ⟨.im (.iface t (.agg #[a,b])),[]⟩ :=
 Step.look fun C ρ _ hR _=>by
  have h1:=hR x (by simp[ho,Op.operands])
  rw[hx]at h1
  have e1:ρ x= .agg #[a,b]:=by
   generalize ρ x=v at h1;cases h1 with
   | @ag _ us hn h0 h =>
    have ha:R C (.im a) (us.getD 0 undef):=h 0 (by simp)
    have hb:R C (.im b) (us.getD 1 undef):=h 1 (by simp)
    have ea:=ha.im_eq;have eb:=hb.im_eq;have hn:us.size=2:=hn
    congr 1
    apply Array.ext
    ·simpa using hn
    ·intro i h1 h2
     match i,h1 with
     | 0,h1=>simpa[Array.getD_eq_getD_getElem?,h1]using ea
     | 1,h1=>simpa[Array.getD_eq_getD_getElem?,h1]using eb
     | i+2,h1=>omega
  refine⟨.iface t (.agg #[a,b]),?_,.im rfl⟩;unfold ifT at ht;cases hu:P.underlying t with
  | none=>rw[hu]at ht;cases ht
  | some d =>
   rw[hu]at ht;simp only[execOp,ho,e1,Instr.makeInterface,run_underlying hu,Sem.run_bind,Result.andThen_ok];cases d<;>first|rfl|(simp at ht)
theorem RT{P:Program}{N:Nat}{ops:Array Oper}{dr:Bool}{Q:Exit→St→Prop}{d:Option Tmp}{t:TypeId}{x:Operand}{ty:TypeId}{pos:String}{af:Array Edge}{g:Option (Nat×Bool)}{os:List Oper}{k:Nat}{s:List (Nat×V)}{l:List Ent}{acc:List (Nat×List Nat×List Nat)}{a b:Value}
  (hn:AR P ops dr Q os (k+1) ⟨dn N (eV s d (.im (.iface t (.agg #[a,b])))),ofl l⟩ ((k,[],[])::acc)) (ht:ifT P t=some false:=by kernel_rfl) (hx:St.ev ⟨dn N s,ofl l⟩ x= .ag [.im a,.im b]:=by rfl) (hg:gd ops ⟨d,.makeInterface t x,ty,pos,af,g⟩ ⟨dn N s,ofl l⟩=some true:=by rfl) :
  AR P ops dr Q (⟨d,.makeInterface t x,ty,pos,af,g⟩::os) k ⟨dn N s,ofl l⟩ acc:=by
 refine .inr (.inl ⟨hg,[],⟨_,[]⟩,AJ rfl ht hx,(fun p hp=>by cases hp),?_⟩)
 rw[←kT N s (ofl l)]at hn
 exact hn
theorem RF{α β:Type}{p:α→β→Bool}{l:List α}{m:List β}(h:l.length≠m.length):all2 p l m=false:=by
 rw[←Bool.not_eq_true,vF]
 exact fun k=>h k.1
theorem RG{α β:Type}{p:α→β→Bool}{l:List α}{m:List β}{i:Nat}(h1:i<l.length)(h2:i<m.length)(h:p l[i] m[i]=false):all2 p l m=false:=by
 rw[←Bool.not_eq_true,vF]
 exact fun k=>by rw[k.2 i h1 h2]at h;cases h
def to2{α β:Type}(p:α→β→Bool)(l:List α)(k:List β)(m:Nat):Prop:= ∀j (h1:j<l.length) (h2:j<k.length),j<m→p l[j] k[j]=true
theorem to2.zero{α β:Type}(p:α→β→Bool)(l:List α)(k:List β):to2 p l k 0:=fun j _ _ h=>absurd h (Nat.not_lt_zero j)
theorem to2.succ{α β:Type}{p:α→β→Bool}{l:List α}{k:List β}{m:Nat}(h:to2 p l k m)(h1:m<l.length)(h2:m<k.length)(hp:p l[m] k[m]=true):to2 p l k (m+1):=fun j j1 j2 hj=>by
 rcases Nat.lt_succ_iff_lt_or_eq.1 hj with hj|rfl
 ·exact h j j1 j2 hj
 ·exact hp
theorem to2.all{α β:Type}{p:α→β→Bool}{l:List α}{k:List β}(h:to2 p l k l.length)(he:l.length=k.length):all2 p l k=true:=vF.2 ⟨he,fun j j1 j2=>h j j1 j2 j1⟩
end Go.Proofs.YtmbmmckagcdapaaGreatDoor
