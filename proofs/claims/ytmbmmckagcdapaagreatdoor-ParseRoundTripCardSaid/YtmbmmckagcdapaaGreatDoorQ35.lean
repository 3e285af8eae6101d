import Derived.Test.YtmbmmckagcdapaaGreatDoorQ08
set_option linter.all false
namespace Go.Proofs.YtmbmmckagcdapaaGreatDoor
theorem Rm{t:Ty}(h:chk t=0):shal t 64=true:=by
 unfold chk at h
 cases q:shal t 64 with
 | true=>rfl
 | false=>rw[q]at h;simp at h
theorem zI{f:Fun}(h:prtB f=true)(hF:fitFn f):FunOk f:=by
 obtain⟨h1,h2,h3,h4⟩:=Fr h
 have hfit:=Nm f.body hF.bd false
 refine⟨h1,fun v hv=>⟨(h3 v hv).1,Gf (zH (h3 v hv).2),Rm (h3 v hv).2⟩,fun t ht=>⟨Yv h t ht,VX (lp:=false) qE fun q hq=> ?_⟩,h2⟩
 have hm:q∈allL f.body false:=List.mem_flatMap.2 ⟨t,ht,hq⟩
 rw[List.all_eq_true]
 intro x hx
 obtain⟨k1,k2⟩:=h4 q hm
 have hfe:=(dU (hfit q hm)).2.2.1.2 x hx
 have hg:=(ZI x ((iI k2).2.2.1 x hx) 63 (k1 x hx)).1
 unfold qE
 rw[OB x hfe,decide_eq_true hg]
 rfl
theorem nF(k:Nat)(s:Bs):(lnT k s).length=2*k+s.length+1:=by
 have h:(Lib.repeatL ([32,32]:Bs) k).length=2*k:=by rw[Lib.repeatL_length];show k*2=_;omega
 unfold lnT
 rw[List.length_append,List.length_append,h]
 rfl
theorem Xr{α:Type}{f:α→Nat}{x:α}: ∀ {l:List α},x∈l→f x≤(l.map f).sum
 | y::l,h=>by
  rw[List.map_cons,List.sum_cons];rcases List.mem_cons.1 h with rfl|h
  ·omega
  ·have:=Xr (f:=f) h;omega
theorem Ll{α:Type}{f:α→Nat}{B:Nat}: ∀ {l:List α},(∀x∈l,f x≤B)→(l.map f).sum≤l.length*B
 | [],_=>by simp
 | x::l,h=>by
  have h1:=h x (by simp)
  have h2:=Ll (l:=l) fun y hy=>h y (by simp[hy])
  rw[List.map_cons,List.sum_cons,List.length_cons,Nat.add_mul];omega
theorem IW(l:List Ex)(i:Nat):(In l i).length≤(l.map fun x=>(txE x).length).sum:=by
 unfold In
 cases h:l[i]? with
 | none=>exact Nat.zero_le _
 | some x=>exact Xr (f:=fun x=>(txE x).length) (List.mem_of_getElem? h)
theorem wL{α:Type}(f:α→Bs)(l:List α):((l.map f).flatten).length=(l.map fun x=>(f x).length).sum:=by
 rw[List.length_flatten,List.map_map]
 rfl
theorem Yi(k:Nat)(hk:k≤140): ∀(cs:List (List Nd)) (j:Nat),j+cs.length≤1000→(((cs.zipIdx j).map (caS k)).flatten).length≤700*cs.length+(cs.map fun c=>(lsT c (k+2)).length).sum
 | [],j,_=>by simp
 | c::cs,j,h=>by
  rw[List.length_cons]at h;have ih:=Yi k hk cs (j+1) (by omega)
  have hi:=uX (c:=(j:Int)) (by omega) (by omega)
  have h1:(caS k (c,j)).length≤700+(lsT c (k+2)).length:=by
   unfold caS;simp only[List.length_append,nF,List.length_cons,List.length_nil];omega
  rw[List.zipIdx_cons,List.map_cons,List.flatten_cons,List.length_append,List.map_cons,List.sum_cons,List.length_cons];omega
theorem Pq{t:Nd}(h:stT t=true):t.name.data.toList.length≤32∧t.cs.length≤64:=by
 unfold stT at h
 simp only[Bool.and_eq_true,decide_eq_true_eq,List.all_eq_true]at h
 obtain⟨⟨⟨⟨⟨⟨⟨⟨h1,h2⟩,h3⟩,h4⟩,h5⟩,h6⟩,h7⟩,h8⟩,h9⟩:=h
 constructor
 ·split at h4
  ·have:=(mM h4).2.2.2
   have e:t.name.data.toList.length=t.name.size:=by simp
   omega
  ·rw[wO]at h4
   rw[h4]
   decide
 ·split at h8
  ·simp only[Bool.and_eq_true,decide_eq_true_eq]at h8
   exact h8.2
  ·rw[decide_eq_true_eq]at h8
   omega
theorem NN{t:Nd}(h:stT t=true):(simT t).length≤100+(t.e.map fun x=>(txE x).length).sum:=by
 obtain⟨hn,_⟩:=Pq h
 have he:=(iI h).2.1
 have h0:=IW t.e 0
 by_cases hk:t.kind=2
 ·rw[hk]at he
  obtain⟨a,b,hab⟩:=ER he;unfold simT;rw[if_neg (by omega),if_pos hk,hab]
  simp only[In,wB,List.length_append,List.length_cons,List.length_nil,List.map_cons,List.map_nil,List.sum_cons,List.sum_nil,List.getElem?_cons_zero,List.getElem?_cons_succ];omega
 ·unfold simT
  repeat' split
  all_goals first|omega|(simp only[List.length_append,List.length_cons,List.length_nil];omega)
theorem Xj{f:Int→Int}{n:Int}(h:0≤nxq f n):0≤n∧nxq f n=f n:=by
 unfold nxq at h ⊢
 split at h
 ·rename_i h0;exact⟨h0,if_pos h0⟩
 ·omega
theorem Jo{α:Type}{f:α→Int→Int}{l:List α}{n:Int}(h:0≤pfold f l n):0≤n:=Int.not_lt.1 fun hneg=>by
 rw[jG _ (by omega)]at h
 omega
theorem VC{t:Nd}(hst:stT t=true){k:Nat}(hk:k≤140):(ndT t k).length≤46800+((t.e.map fun x=>(txE x).length).sum+((lsT t.l (k+1)).length+((lsT t.el (k+1)).length+(t.cs.map fun c=>(lsT c (k+2)).length).sum))):=by
 have hse:=NN hst
 obtain⟨_,hcl⟩:=Pq hst
 have hinv:=iI hst
 obtain⟨kd,w,nm,e,l,el,cs⟩:=t
 simp only[Nd.e,Nd.l,Nd.el,Nd.cs,Nd.kind]at hse hcl hinv ⊢
 by_cases k6:kd=6
 ·subst k6
  obtain⟨a,rfl⟩:=yZ hinv.2.1;rw[nd6];simp only[List.map_cons,List.map_nil,List.sum_cons,List.sum_nil];split<;>simp only[List.length_append,nF,List.length_cons,List.length_nil]<;>omega
 by_cases k7:kd=7
 ·subst k7
  obtain⟨a,rfl⟩:=yZ hinv.2.1;rw[nd7];simp only[List.map_cons,List.map_nil,List.sum_cons,List.sum_nil,List.length_append,nF,List.length_cons,List.length_nil];omega
 by_cases k8:kd=8
 ·subst k8
  rw[nd8];simp only[List.length_append,nF,List.length_cons,List.length_nil];omega
 by_cases k9:kd=9
 ·subst k9
  obtain⟨a,rfl⟩:=yZ hinv.2.1;rw[nd9];have:=Yi k (by omega) cs 0 (by omega)
  simp only[List.map_cons,List.map_nil,List.sum_cons,List.sum_nil,List.length_append,nF,List.length_cons,List.length_nil];omega
 ·have e1:ndT (.mk kd w nm e l el cs) k=lnT k (simT (.mk kd w nm e l el cs)):=by
   rw[kH];show(if kd=6 then _ else if kd=7 then _ else if kd=8 then _ else if kd=9 then _ else lnT k (simT (.mk kd w nm e l el cs)))=_
   rw[if_neg k6,if_neg k7,if_neg k8,if_neg k9]
  rw[e1,nF];omega
def NdL(t:Nd):Prop:=okT t=true→exA qE t=true→ ∀(most n:Int) (k:Nat),1≤most→0≤n→(k:Int)+2*most≤141→0≤ndp t most n→((ndT t k).length:Int)≤50000*(n-ndp t most n)
theorem Dp{l:List Nd}(ih: ∀t∈l,NdL t)(ho:l.all okT=true)(hx:l.all (exA qE)=true){most n:Int}{k:Nat}(hn:0≤n)(hk:(k:Int)+2*most≤141)(hp:0≤lpa l most n):((lsT l k).length:Int)≤50000*(n-lpa l most n):=by
 unfold lpa at hp ⊢
 split at hp
 ·omega
 rename_i hc
 rw[if_neg hc]
 unfold lsT
 rw[wL]
 rw[List.all_eq_true]at ho hx
 exact vV (f:=fun t n=>ndp t most n) (g:=fun t=>(ndT t k).length) (C:=50000) (by decide) (fun t ht n hn=>⟨(Js t most n hn).2,fun h=>ih t ht (ho t ht) (hx t ht) most n k (by omega) hn hk h⟩) n hn hp
theorem VB: ∀t,NdL t:=by
 refine Nd.induct fun kd w nm e l el cs h1 h2 h3=> ?_
 intro hok hex most n k hm hn hk hp
 rw[Ax]at hok
 rw[Mr]at hex
 simp only[Bool.and_eq_true]at hok hex
 obtain⟨hst,ol,oel,ocs⟩:=hok
 obtain⟨xe,xl,xel,xcs⟩:=hex
 rw[List.all_eq_true]at ocs xcs xe
 have hinv:=iI hst
 rw[Ba]at hp ⊢
 split at hp
 ·omega
 rename_i hc
 rw[if_neg hc]
 simp only[Nd.e,Nd.l,Nd.el,Nd.cs,Nd.kind]at hp hinv ⊢
 have p3:=Jo hp
 obtain⟨p2,e3⟩:=Xj p3
 rw[e3]at hp p3 ⊢
 obtain⟨p1,e2⟩:=Xj p2
 rw[e2]at hp p2 p3 ⊢
 have p0:=Jo p1
 have s1:=vV (f:=fun x n=>epa x 70 n) (g:=fun x=>(txE x).length) (C:=40) (by decide) (l:=e) (fun x hx n hn=>⟨(mO x 70 n hn).2,fun h=>by
  have q:=PS x 70 n hn h;have:=NC x (hinv.2.2.1 x hx) (HI x (xe x hx)) (n+1) (by omega)
  omega⟩) (n-1) p0 p1
 have s2:=Dp (k:=k+1) h1 ol xl (n:=pfold (fun x n=>epa x 70 n) e (n-1)) p1 (by omega) p2
 have s3:=Dp (k:=k+1) h2 oel xel (n:=lpa l (most-1) (pfold (fun x n=>epa x 70 n) e (n-1))) p2 (by omega) p3
 have s4:=vV (f:=fun c n=>lpa c (most-1) n) (g:=fun c=>(lsT c (k+2)).length) (C:=50000) (by decide) (l:=cs) (fun c hc n hn=>⟨(kP c (most-1) n hn).2,fun h=>Dp (h3 c hc) (ocs c hc) (xcs c hc) hn (by omega) h⟩) _ p3 hp
 generalize pfold (fun x n=>epa x 70 n) e (n-1)=q1 at *
 generalize lpa l (most-1) q1=q2 at *
 generalize lpa el (most-1) q2=q3 at *
 generalize pfold (fun c n=>lpa c (most-1) n) cs q3=q4 at *
 have hkey:=VC hst (k:=k) (by omega)
 simp only[Nd.e,Nd.l,Nd.el,Nd.cs]at hkey
 omega
theorem VI{l:List Nd}(h: ∀t∈l,okT t=true∧exA qE t=true)(hp:0≤lpa l 70 5000):(lsT l 1).length≤250000000:=by
 have:=Dp (l:=l) (k:=1) (fun t _=>VB t) (List.all_eq_true.2 fun t ht=>(h t ht).1) (List.all_eq_true.2 fun t ht=>(h t ht).2) (n:=5000) (by decide) (by decide) hp
 omega
theorem Ua{v:Va}(h:VaOk v)(hs:smallT v.ty 70=true)(k:Nat)(hk:k≤1):(varT k v).length≤121000:=by
 have h1:=Zu h.ty hs
 have h2:=(mM h.name).2.2.2
 have e:v.name.data.toList.length=v.name.size:=by simp
 unfold varT
 simp only[List.length_append,nF,List.length_cons,List.length_nil]
 omega
theorem Wr{l:List Va}(h: ∀v∈l,VaOk v)(hs: ∀v∈l,smallT v.ty 70=true)(hl:l.length≤300)(k:Nat)(hk:k≤1):(vasT k l).length≤36300000:=by
 unfold vasT
 rw[wL]
 have:=Ll (f:=fun v=>(varT k v).length) (B:=121000) (l:=l) fun v hv=>Ua (h v hv) (hs v hv) k hk
 omega
theorem Mi{f:Fun}(h:FunOk f)(hs:smF f=true):(funT f).length≤300000000:=by
 unfold smF at hs
 simp only[Bool.and_eq_true,decide_eq_true_eq,List.all_eq_true]at hs
 obtain⟨h1,h2,h3⟩:=hs
 have l1:=Wr h.vars h3 h1 1 (by decide)
 have l2:=VI h.body h2
 have h4:=(mM h.name).2.2.2
 have e:f.name.data.toList.length=f.name.size:=by simp
 unfold funT
 simp only[List.length_append,nF,List.length_cons,List.length_nil]
 omega
theorem JU{vs:List Va}{fs ls sn:List ByteArray}{p:Nd×Bool}(h:chk1 vs fs ls sn p=0):(p.1.e.all fun x=>esh x 64)=true∧stT p.1=true:=by
 unfold chk1 at h
 rcases aI h with ⟨_,h⟩|⟨h1,h⟩
 ·cases h
 rcases aI h with ⟨_,h⟩|⟨h2,h⟩
 ·cases h
 exact⟨by simpa using h1,by simpa using h2⟩
theorem Pu{vs:List Va}{fs ls:List ByteArray}: ∀ {l:List (Nd×Bool)} {sn:List ByteArray},runS vs fs ls sn l=0→ ∀p∈l,(p.1.e.all fun x=>esh x 64)=true∧stT p.1=true
 | [],_,_,p,hp=>by cases hp
 | q::r,sn,h,p,hp=>by
  rw[vU]at h;rcases aI h with ⟨h1,h⟩|⟨h1,h⟩
  ·rcases List.mem_cons.1 hp with rfl|hp
   ·exact JU h1
   ·exact Pu h p hp
  ·exact absurd h h1
theorem Em: ∀ {l seen:List Va},vErr seen l=0→ ∀v∈l,nameT v.name=true∧chk v.ty=0
 | [],_,_,v,hv=>by cases hv
 | x::r,seen,h,v,hv=>by
  rw[vErr]at h;rcases aI h with ⟨_,h⟩|⟨h1,h⟩
  ·cases h
  rcases aI h with ⟨_,h⟩|⟨h2,h⟩
  ·cases h
  rcases aI h with ⟨h3,h⟩|⟨h3,h⟩
  ·exact absurd h h3
  rcases List.mem_cons.1 hv with rfl|hv
  ·exact⟨by simpa using h1,Classical.not_not.1 h3⟩
  ·exact Em h v hv
theorem Rj: ∀ {l seen:List Sec},dErr seen l=0→ ∀d∈l,nameT d.name=true∧d.data.length≤65536
 | [],_,_,v,hv=>by cases hv
 | x::r,seen,h,v,hv=>by
  rw[dErr]at h;rcases aI h with ⟨_,h⟩|⟨h1,h⟩
  ·cases h
  rcases aI h with ⟨_,h⟩|⟨h2,h⟩
  ·cases h
  rcases aI h with ⟨_,h⟩|⟨h3,h⟩
  ·cases h
  rcases List.mem_cons.1 hv with rfl|hv
  ·exact⟨by simpa using h1,by omega⟩
  ·exact Rj h v hv
theorem Ya: ∀ {l:List Fun} {seen:List ByteArray},fnE seen l=0→ ∀f∈l,nameT f.name=true
 | [],_,_,v,hv=>by cases hv
 | x::r,seen,h,v,hv=>by
  rw[fnE]at h;rcases aI h with ⟨_,h⟩|⟨h1,h⟩
  ·cases h
  rcases aI h with ⟨_,h⟩|⟨h2,h⟩
  ·cases h
  rcases List.mem_cons.1 hv with rfl|hv
  ·simpa using h1
  ·exact Ya h v hv
theorem Yw{gs:List Va}{fs:List ByteArray}: ∀ {l:List Fun},bdE gs fs l=0→ ∀f∈l,bodyE gs f fs=0
 | [],_,v,hv=>by cases hv
 | x::r,h,v,hv=>by
  rw[bdE]at h;rcases aI h with ⟨h1,h⟩|⟨h1,h⟩
  ·rcases List.mem_cons.1 hv with rfl|hv
   ·exact h1
   ·exact Yw h v hv
  ·exact absurd h h1
theorem DU{gs:List Va}{f:Fun}{fs:List ByteArray}(hn:nameT f.name=true)(h:bodyE gs f fs=0):prtB f=true∧f.vars.length≤256∧cnt f.body≤1024:=by
 unfold bodyE at h
 rcases aI h with ⟨_,h⟩|⟨h1,h⟩
 ·cases h
 rcases aI h with ⟨h2,h⟩|⟨h2,h⟩
 ·exact absurd h h2
 rcases aI h with ⟨_,h⟩|⟨h3,h⟩
 ·cases h
 rcases aI h with ⟨_,h⟩|⟨h4,h⟩
 ·cases h
 refine⟨?_,by omega,by omega⟩
 have hv:=Em (Classical.not_not.1 h2)
 have hr:=Pu h
 unfold prtB Lw Fq
 simp only[Bool.and_eq_true,decide_eq_true_eq,List.all_eq_true,Bool.not_eq_true',List.any_eq_false,Bool.not_eq_eq_eq_not,Bool.not_true,Bool.not_eq_false]
 refine⟨hn,by omega,hv,fun q hq=>⟨fun x hx=> ?_,(hr q hq).2⟩⟩
 have:=List.all_eq_true.1 (hr q hq).1 x hx
 simpa using this
theorem MW{u:Un}(hu:fitU u)(hA: ∀d∈u.data,0≤d.addr∧d.addr<4294967296)(h:unE u=0):UnOk u∧(u.globals.length≤256∧u.data.length≤16∧u.funcs.length≤64)∧(∀d∈u.data,d.data.length≤65536)∧(∀f∈u.funcs,prtB f=true∧f.vars.length≤256∧cnt f.body≤1024)∧ ∀v∈u.globals,good v.ty=true:=by
 unfold unE at h
 rcases aI h with ⟨_,h⟩|⟨h1,h⟩
 ·cases h
 rcases aI h with ⟨_,h⟩|⟨h2,h⟩
 ·cases h
 rcases aI h with ⟨h3,h⟩|⟨h3,h⟩
 ·exact absurd h h3
 rcases aI h with ⟨h4,h⟩|⟨h4,h⟩
 ·exact absurd h h4
 rcases aI h with ⟨h5,h⟩|⟨h5,h⟩
 ·exact absurd h h5
 have hv:=Em (Classical.not_not.1 h3)
 have hd:=Rj (Classical.not_not.1 h4)
 have hf:=Ya (Classical.not_not.1 h5)
 have hb: ∀f∈u.funcs,prtB f=true∧f.vars.length≤256∧cnt f.body≤1024:=fun f hm=>DU (hf f hm) (Yw h f hm)
 refine⟨⟨fun v hm=>⟨(hv v hm).1,Gf (zH (hv v hm).2),Rm (hv v hm).2⟩,fun d hm=>⟨(hd d hm).1,hA d hm⟩,fun f hm=>zI (hb f hm).1 (hu.fn f hm)⟩,by omega,fun d hm=>(hd d hm).2,hb,fun v hm=>zH (hv v hm).2⟩
def smU(u:Un):Bool:=decide (u.globals.length≤300∧u.data.length≤20∧u.funcs.length≤70)&&(decide ((u.data.map fun d=>min d.data.length 3000).sum<3000)&&(u.globals.all (fun v=>smallT v.ty 70)&&u.funcs.all smF))
theorem ID{n:Nat}(h:n<4294967296):(lX n).length≤8:=rV 7 (n+1) n (by omega) (by omega)
theorem PW{d:Sec}(h:SecOk d){D:Nat}(hd:d.data.length≤D):(datT d).length≤4*D+100:=by
 have h1:=(mM h.name).2.2.2
 have e:d.name.data.toList.length=d.name.size:=by simp
 have h2:=ID (n:=d.addr.toNat) (by have:=h.addr;omega)
 have h3:=Qt d.data
 unfold datT Dj Pv quoS
 cases d.wr<;>cases d.exe<;>simp only[if_true,if_false,Bool.false_eq_true,List.length_append,nF,List.length_cons,List.length_nil]<;>omega
theorem EI{u:Un}(h:UnOk u)(hl:u.globals.length≤256∧u.data.length≤16∧u.funcs.length≤64)(hd: ∀d∈u.data,d.data.length≤65536)(hs:smU u=true):(uniT u).length≤20000000000:=by
 unfold smU at hs
 simp only[Bool.and_eq_true,decide_eq_true_eq,List.all_eq_true]at hs
 obtain⟨h1,h2,h3,h4⟩:=hs
 have l1:=Wr h.globals h3 (by omega) 0 (by decide)
 have l2:=Ll (f:=fun d=>(datT d).length) (B:=262244) (l:=u.data) fun d hm=>PW (h.data d hm) (hd d hm)
 have l3:=Ll (f:=fun f=>(funT f).length) (B:=300000000) (l:=u.funcs) fun f hm=>Mi (h.funcs f hm) (h4 f hm)
 have m2:u.data.length*262244≤16*262244:=Nat.mul_le_mul_right _ hl.2.1
 have m3:u.funcs.length*300000000≤64*300000000:=Nat.mul_le_mul_right _ hl.2.2
 unfold uniT
 rw[List.length_append,List.length_append,wL,wL]
 omega
open Go.RowKit
theorem vW{α:Type}{f:α→Int→Int}{l:List α}{n:Int}(h:0≤pfold f l n):0≤n:=by
 refine Classical.byContradiction fun hn=> ?_
 rw[jG _ hn]at h
 exact hn h
theorem xS{α:Type}{f:α→Int→Int}{c:α→Nat}: ∀ {l:List α},(∀t∈l,∀n,0≤n→n≤4194304→0≤f t n→(c t:Int)+f t n≤n)→ ∀ {n:Int},n≤4194304→0≤pfold f l n→(((l.map c).sum:Nat):Int)+pfold f l n≤n∧ ∀x∈l,∃m,m≤n∧0≤m∧0≤f x m
 | [],_,n,_,h=>⟨by show((0:Nat):Int)+n≤n;omega,fun x hx=>by cases hx⟩
 | y::r,hb,n,hn,h=>by
  have h1:=vW h
  have h3:pfold f (y::r) n=pfold f r (f y n):=by
   unfold pfold;rw[List.foldl_cons,if_pos h1]
  rw[h3]at h ⊢;have hp:=vW h;have hy:=hb y (List.mem_cons_self ..) n h1 hn hp;obtain⟨i1,i2⟩:=xS (fun t ht=>hb t (List.mem_cons_of_mem _ ht)) (by omega) h
  refine⟨by rw[List.map_cons,List.sum_cons];omega,fun x hx=> ?_⟩
  rcases List.mem_cons.1 hx with rfl|hx
  ·exact⟨n,Int.le_refl _,h1,hp⟩
  ·obtain⟨m,m1,m2,m3⟩:=i2 x hx
   exact⟨m,by omega,m2,m3⟩
theorem Xk{f:Int→Int}{n:Int}(h:0≤nxq f n):0≤n∧nxq f n=f n:=by
 by_cases hn:0≤n
 ·exact⟨hn,by unfold nxq;rw[if_pos hn]⟩
 ·unfold nxq at h
  rw[if_neg hn]at h;exact absurd h hn
theorem PD: ∀l:List Nd,FitNLW l→ ∀most n:Int,n≤4194304→0≤lpa l most n→lT l∧(cnt l:Int)+lpa l most n≤n:=by
 refine Nd.listInduct fun l hl hf most n hn h=> ?_
 have hone: ∀t∈l,∀m:Int,0≤m→m≤4194304→0≤ndp t most m→fitN t∧(cntT t:Int)+ndp t most m≤m:=fun t ht m hm hm2 hp=>by
  obtain⟨r1,r2,r3⟩:=hl t ht;obtain⟨q1,q2,⟨he1,he2⟩,hL,hEl,hC1,hC2⟩:=Kh (hf.2 t ht);rw[Ba]at hp ⊢;split at hp
  ·omega
  rename_i hc;rw[if_neg hc];have p3:=vW hp;obtain⟨p2,e2⟩:=Xk p3;obtain⟨p1,e1⟩:=Xk p2;rw[e2]at hp p3 ⊢;rw[e1]at hp p3 p2 ⊢;have a0:=dQ (f:=fun x n=>epa x 70 n) (l:=t.e) (fun x _ k hk=>mO x _ k hk) (m-1) (by have:=vW p1;omega)
  have a2:=(rR p1).2;obtain⟨b1,b2⟩:=r1 hL _ _ (by omega) p2
  obtain⟨c1,c2⟩:=r2 hEl _ _ (by omega) p3
  obtain⟨d1,d2⟩:=xS (f:=fun c k=>lpa c (most-1) k) (c:=cnt) (fun c hc k hk hk2 hkp=>(r3 c hc (hC2 c hc) _ k hk2 hkp).2) (by omega) hp
  refine⟨?_,?_⟩
  ·obtain⟨k,w,s,e,l1,el,cs⟩:=t
   simp only[Nd.e,Nd.l,Nd.el,Nd.cs,Nd.kind,Nd.width,Nd.name]at *;refine IQ q1 q2 ⟨by omega,b1.1,c1.1,by omega⟩ (fun x hx=> ?_) b1.2 c1.2 fun c hc=> ?_
   ·obtain⟨k2,k3⟩:=a2 x hx
    exact PE x (he2 x hx) _ _ k3
   ·obtain⟨k2,k3,k4,k5⟩:=d2 c hc
    exact(r3 c hc (hC2 c hc) _ k2 (by omega) k5).1
  ·rw[nH]
   simp only[subs,List.map_cons,List.sum_cons];omega
 unfold lpa at h ⊢
 split at h
 ·omega
 rename_i hc
 rw[if_neg hc]
 obtain⟨i1,i2⟩:=xS (f:=fun t n=>ndp t most n) (c:=cntT) (fun t ht m hm hm2 hp=>(hone t ht m hm hm2 hp).2) hn h
 refine⟨⟨by omega,fun t ht=> ?_⟩,by unfold cnt;exact i1⟩
 obtain⟨m,m1,m2,m3⟩:=i2 t ht
 exact(hone t ht m m2 (by omega) m3).1
theorem Kg{vs:List Va}(h:Oe vs)(hs:vs.all (fun v=>smallT v.ty 70)=true):fitVN vs:=fun v hv =>
 ⟨Us (h v hv).1 (List.all_eq_true.1 hs v hv),(h v hv).2⟩
theorem Yb{f:Fun}(h:FitFnW f)(hs:smF f=true):fitFn f:=by
 unfold smF at hs
 rw[Bool.and_eq_true,Bool.and_eq_true,decide_eq_true_eq,decide_eq_true_eq]at hs
 obtain⟨h1,h2,h3⟩:=hs
 obtain⟨i1,i2⟩:=PD f.body h.bd _ _ (by decide) h2
 exact⟨by omega,Kg h.vn h3,i1,by omega,h.nm⟩
theorem OY{u:Un}(h:FitUW u)(hs:smU u=true):fitU u∧ ∀d∈u.data,d.data.length≤4194304:=by
 unfold smU at hs
 rw[Bool.and_eq_true,Bool.and_eq_true,Bool.and_eq_true,decide_eq_true_eq,decide_eq_true_eq]at hs
 obtain⟨⟨h1,h2,h3⟩,h4,h5,h6⟩:=hs
 refine⟨⟨by omega,Kg h.gn h5,by omega,h.dn,by omega,fun f hf=>Yb (h.fn f hf) (List.all_eq_true.1 h6 f hf)⟩,fun d hd=> ?_⟩
 have hm:min d.data.length 3000≤(u.data.map fun d=>min d.data.length 3000).sum:=by
  generalize u.data=l at hd
  induction l with
  | nil=>cases hd
  | cons y r ih =>
   rw[List.map_cons,List.sum_cons];rcases List.mem_cons.1 hd with rfl|hd
   ·omega
   ·have:=ih hd
    omega
 omega
theorem QL(b x y z u v w q s r:Bs)(hr:b++lnT 0 (x++(y++(z++(u++(v++(w++(q++s)))))))=r)(hlen:r.length≤140737488355328):DC Tryz.prog 36 [.pt 0 0,.sl [.im (.string ⟨(x).toArray⟩),.im (.string ⟨(y).toArray⟩),.im (.string ⟨(z).toArray⟩),.im (.string ⟨(u).toArray⟩),.im (.string ⟨(v).toArray⟩),.im (.string ⟨(w).toArray⟩),.im (.string ⟨(q).toArray⟩),.im (.string ⟨(s).toArray⟩)] .full] [.box [.nb 0 PQ,.sl ((b).map byB) (.mine 1),(.im (.int .i64 (0)))],.tip 5 1 (b).length] (.tu []) [.box [.nb 0 PQ,.sl ((r).map byB) (.mine 1),(.im (.int .i64 (0)))],.tip 5 1 (r).length]:=by
 subst hr
 exact Ag<|Mw b [x,y,z,u,v,w,q,s] (x++(y++(z++(u++(v++(w++(q++s))))))) (by simp) 0 (by simp) hlen
theorem Gl{α:Type}(g:α→Bs){l:List α}{m:Nat}(h:m<l.length):((l.take (m+1)).map g).flatten=((l.take m).map g).flatten++g l[m]:=by
 rw[List.take_succ_eq_append_getElem h,List.map_append,List.flatten_append]
 simp
theorem Qu{α:Type}(g:α→Bs)(l:List α)(m:Nat):(((l.take m).map g).flatten).length≤((l.map g).flatten).length:=by
 conv=>rhs;rw[←List.take_append_drop m l]
 rw[List.map_append,List.flatten_append,List.length_append]
 exact Nat.le_add_right _ _
theorem TC(p:Nat→Bool)(l:Bs):V.idsL p (l.map fun b=>V.im (.int .u8 b.toNat))=true:=aC p l
theorem D7:(ByteArray.mk #[32,119,114,105,116,101]).size+(ByteArray.mk #[32,101,120,101,99]).size≤9223372036854775807∧(ByteArray.mk #[]).size+(ByteArray.mk #[32,101,120,101,99]).size≤9223372036854775807:=by decide
theorem D8:ByteArray.mk #[32,119,114,105,116,101]++ByteArray.mk #[32,101,120,101,99]=ByteArray.mk (Pv true true).toArray∧ByteArray.mk #[]++ByteArray.mk #[32,101,120,101,99]=ByteArray.mk (Pv false true).toArray :=
 ⟨Bv [32,119,114,105,116,101] [32,101,120,101,99],Bv [] [32,101,120,101,99]⟩
def cQ:=A16 @kA @Af @xE @qP @nQ @Oq @nP @tX @tW @Eg @dR @tT @Ol @Ef @mJ (A16 @tS @xD @jN @lV @pC @mY @xA @wZ @Kz @sA @Ch @Cg @Oi @iZ @wW (A9 @tN @oT @lG @Og @nN @tM @tL @qK @dA))
def gZ:=A16 TC aS aG aH aV @aD @aE aZ aC fI dS @aL @aN eU gG (A3 kU pH uI)
def yB:=A14 cC bI bK @aQ @aR fC cH eH @bE @bD oK pV Mn Mo
theorem DR(u:Un)(hu:fitU u)(hA:UnOk u)(hd: ∀d∈u.data,d.data.length≤4194304)(hp: ∀f∈u.funcs,prtB f=true)(hgd: ∀v∈u.globals,good v.ty=true)(h0:unE u=0)(hne:uniT u≠[])(hl:(uniT u).length≤140737488355328):PC Tryz.prog 14 [unV u] (.im (.string ⟨(uniT u).toArray⟩)):=by
 have hc:=vD u hu
 rw[h0]at hc
 obtain⟨Bf,hBf⟩: ∃Bf:Nat→Bs,∀m,Bf m=vasT 0 u.globals++((u.data.take m).map datT).flatten:=⟨_,fun _=>rfl⟩
 obtain⟨Bg,hBg⟩: ∃Bg:Nat→Bs,∀m,Bg m=Bf u.data.length++((u.funcs.take m).map funT).flatten:=⟨_,fun _=>rfl⟩
 have hend:Bg u.funcs.length=uniT u:=by rw[hBg,hBf,List.take_length,List.take_length,List.append_assoc];rfl
 have hbf0:Bf 0=[]++vasT 0 u.globals:=by rw[hBf];simp
 have hbg0:Bg 0=Bf u.data.length:=by rw[hBg];simp
 have hul:=hl
 unfold uniT at hul
 rw[List.length_append,List.length_append]at hul
 have hfl: ∀m,(Bf m).length≤140737488355328:=fun m=>by
  rw[hBf,List.length_append];have:=Qu datT u.data m;omega
 have hgl: ∀m,(Bg m).length≤140737488355328:=fun m=>by
  rw[hBg,hBf,List.length_append,List.length_append,List.take_length];have:=Qu funT u.funcs m;omega
 have hv:=Yk u.globals 0 [] (Nat.le_trans hu.gl (by decide)) hu.gn hgd (by rw[←hbf0];exact hfl 0)
 rw[←hbf0]at hv
 have hs:=Kr ⟨(uniT u).toArray⟩ (.im (.int .i64 (0))) (by rw[dB];intro e;exact hne (List.length_eq_zero_iff.1 e))
 rw[Nj,dB]at hs
 have hdl:=hu.dl
 have hfnl:=hu.fl
 rw[kS]at hc ⊢
 refine pcEnt 59 Tryz.func14 rfl [(0,.ag [.sl (u.globals.map vaV) .ro,.sl (u.data.map scV) .ro,.sl (u.funcs.map fnV) .ro])] ?_
 refine wG cQ TI ?_
 refine AR.callP hc TI gZ ?_
 refine goG cQ TI ?_
 repeat (with_reducible first|refine AWp.seq ?_|refine nD ?_|refine Thn.n ?_|refine jE ?_)
 with_reducible apply jP
 case ht=>rfl
 case hc=>rfl
 repeat (with_reducible first|refine AWp.seq ?_|refine nD ?_|refine Thn.n ?_|refine jE ?_)
 refine AWp.region ?_
 refine AR.one rfl (by simp only[↓iG,↓reduceIte,SA,SB,SC,SD,cQ,oC,fpsG,evO,evB,evA,nT,oE,eqF,eqC,kB,iA,slB,slK,gd,St.ev,eV,ofl,wrl,putE,V.ofVal,V.ofCell,bin2,un1,seg,iL,dT,Value.oneCell',Nat.reduceBEq,Nat.reduceLT,Nat.reduceSub,Nat.reduceAdd,Nat.reduceMul,Nat.reduceLeDiff,Nat.reduceEqDiff,reduceCtorEq,Int.reduceLT,Int.reduceLE,Int.reduceEq,Int.reduceNe,Int.reduceBEq,Int.reduceBNe,Int.reduceAdd,Int.reduceSub,Int.reduceMul,Int.reduceToNat];with_reducible exact rfl) (by simp only[↓iG,↓reduceIte,SA,SB,SC,SD,cQ,oC,fpsG,evO,evB,evA,nT,oE,eqF,eqC,kB,iA,slB,slK,gd,St.ev,eV,ofl,wrl,putE,V.ofVal,V.ofCell,bin2,un1,seg,iL,dT,Value.oneCell',Nat.reduceBEq,Nat.reduceLT,Nat.reduceSub,Nat.reduceAdd,Nat.reduceMul,Nat.reduceLeDiff,Nat.reduceEqDiff,reduceCtorEq,Int.reduceLT,Int.reduceLE,Int.reduceEq,Int.reduceNe,Int.reduceBEq,Int.reduceBNe,Int.reduceAdd,Int.reduceSub,Int.reduceMul,Int.reduceToNat];with_reducible exact rfl) (by simp only[↓iG,↓reduceIte,SA,SB,SC,SD,cQ,oC,fpsG,evO,evB,evA,nT,oE,eqF,eqC,kB,iA,slB,slK,gd,St.ev,eV,ofl,wrl,putE,V.ofVal,V.ofCell,bin2,un1,seg,iL,dT,Value.oneCell',Nat.reduceBEq,Nat.reduceLT,Nat.reduceSub,Nat.reduceAdd,Nat.reduceMul,Nat.reduceLeDiff,Nat.reduceEqDiff,reduceCtorEq,Int.reduceLT,Int.reduceLE,Int.reduceEq,Int.reduceNe,Int.reduceBEq,Int.reduceBNe,Int.reduceAdd,Int.reduceSub,Int.reduceMul,Int.reduceToNat];with_reducible exact rfl) ?_
 refine Zi (q:=PQ) SX rfl ?_
 refine goG cQ TI ?_
 repeat (with_reducible first|refine AWp.seq ?_|refine nD ?_|refine Thn.n ?_|refine jE ?_)
 refine AWp.ghostB 1 1 [.nb 1 PQ,.sl [] .nl,(.im (.int .i64 (0)))] 5 1 ?_
 simp only[List.set_cons_succ,List.set_cons_zero,List.cons_append,List.nil_append,List.length_cons,List.length_nil,Nat.reduceAdd]
 rw[show(([]:Bs).map byB)=[]from rfl,show([]:Bs).length=0 from rfl,show((0:Nat):Int)=0 from rfl]at hv
 refine wG cQ TI ?_
 refine aA [1,2] hv TI gZ yB ?_
 refine goG cQ TI ?_
 refine wG cQ @List.length_map.{0,0} ?_
 refine aP ?_
 refine ALp.cutP 3 [(1,.pt 0 0),(3,.pt 1 0),(19,.sl (u.data.map scV) .ro),(20,(.im (.int .i64 (u.data.length)))),(21,(.im (.int .i64 ((((0:Nat)):Int)))))] [.box [.sl (u.globals.map vaV) .ro,.sl (u.data.map scV) .ro,.sl (u.funcs.map fnV) .ro],.box [.nb 1 PQ,.sl (((Bf 0)).map byB) (.mine 2),(.im (.int .i64 (0)))],.tip 5 1 ((Bf 0)).length] gZ ?_
 refine aW u.data.length (fun _=>True) (fun m=>⟨dn 59 [(1,.pt 0 0),(3,.pt 1 0),(19,.sl (u.data.map scV) .ro),(20,(.im (.int .i64 (u.data.length)))),(21,(.im (.int .i64 ((((m:Nat)):Int)))))],ofl [.box [.sl (u.globals.map vaV) .ro,.sl (u.data.map scV) .ro,.sl (u.funcs.map fnV) .ro],.box [.nb 1 PQ,.sl (((Bf m)).map byB) (.mine 2),(.im (.int .i64 (0)))],.tip 5 1 ((Bf m)).length]⟩) ?_ 0 (Nat.zero_le _) trivial
 intro m hm _ hnext
 by_cases hlt:m<u.data.length
 ·have hlt':(m:Int)<(u.data.length:Int):=by omega
  have hm1:=aK hlt (by omega)
  have hg:=bB hlt;have hB:Bf m++datT u.data[m]=Bf (m+1):=by rw[hBf,hBf,Gl datT hlt,List.append_assoc]
  have hBl:=hfl (m+1);have hok:=hA.data _ (List.getElem_mem hlt);have hdd:=hd _ (List.getElem_mem hlt);have hnx:=hnext (m+1) (by omega) (by omega) trivial
  clear hnext;generalize u.data[m]=d at hg hB hok hdd;generalize Bf m=b0 at hB;generalize Bf (m+1)=b1 at hB hBl hnx;have hq:PC Tryz.prog 38 [.sl (d.data.map fun b=>V.im (.int .u8 b.toNat)) .ro] (.im (.string ⟨(quoS d.data).toArray⟩)):=QJ d.data hdd
  have hn:((d.addr.toNat:Nat):Int)=d.addr:=by have:=hok.addr;omega
  have ha:=Kq d.addr.toNat (by have:=hok.addr;omega)
  rw[hn]at ha;have hline:=QL b0 [100,97,116,97,32] d.name.data.toList [32] (Dj d.addr.toNat) (Pv d.wr d.exe) [32,61,32] (quoS d.data) [59] b1 hB hBl;rw[Sl]at hline;unfold Dj at hline;obtain⟨hr1,hr2⟩:=D8;obtain⟨hz1,hz2⟩:=D7;cases hw:d.wr<;>cases hx:d.exe<;>rw[hw,hx]at hline
  ·rw[show Pv false false=[]from rfl]at hline
   refine wdG cQ (A5 hlt' hg SCT hw hx) ?_;refine AR.callP ha TI gZ ?_;refine goG cQ TI ?_;refine AR.callP hq TI gZ ?_;refine goG cQ TI ?_;refine aA [1,2] hline TI gZ yB ?_;refine goG cQ TI ?_;refine wdG cQ hm1 ?_;refine ALp.cutP 3 [(1,.pt 0 0),(3,.pt 1 0),(19,.sl (u.data.map scV) .ro),(20,(.im (.int .i64 (u.data.length)))),(21,(.im (.int .i64 ((((m+1:Nat)):Int)))))] [.box [.sl (u.globals.map vaV) .ro,.sl (u.data.map scV) .ro,.sl (u.funcs.map fnV) .ro],.box [.nb 1 PQ,.sl ((b1).map byB) (.mine 2),(.im (.int .i64 (0)))],.tip 5 1 (b1).length] gZ ?_;exact hnx
  ·refine wdG cQ (A7 hlt' hg SCT hw hx hr2 hz2) ?_
   refine AR.callP ha TI gZ ?_;refine goG cQ TI ?_;refine AR.callP hq TI gZ ?_;refine goG cQ TI ?_;refine aA [1,2] hline TI gZ yB ?_;refine goG cQ TI ?_;refine wdG cQ hm1 ?_;refine ALp.cutP 3 [(1,.pt 0 0),(3,.pt 1 0),(19,.sl (u.data.map scV) .ro),(20,(.im (.int .i64 (u.data.length)))),(21,(.im (.int .i64 ((((m+1:Nat)):Int)))))] [.box [.sl (u.globals.map vaV) .ro,.sl (u.data.map scV) .ro,.sl (u.funcs.map fnV) .ro],.box [.nb 1 PQ,.sl ((b1).map byB) (.mine 2),(.im (.int .i64 (0)))],.tip 5 1 (b1).length] gZ ?_;exact hnx
  ·rw[show Pv true false=[32,119,114,105,116,101]from rfl]at hline
   refine wdG cQ (A5 hlt' hg SCT hw hx) ?_;refine AR.callP ha TI gZ ?_;refine goG cQ TI ?_;refine AR.callP hq TI gZ ?_;refine goG cQ TI ?_;refine aA [1,2] hline TI gZ yB ?_;refine goG cQ TI ?_;refine wdG cQ hm1 ?_;refine ALp.cutP 3 [(1,.pt 0 0),(3,.pt 1 0),(19,.sl (u.data.map scV) .ro),(20,(.im (.int .i64 (u.data.length)))),(21,(.im (.int .i64 ((((m+1:Nat)):Int)))))] [.box [.sl (u.globals.map vaV) .ro,.sl (u.data.map scV) .ro,.sl (u.funcs.map fnV) .ro],.box [.nb 1 PQ,.sl ((b1).map byB) (.mine 2),(.im (.int .i64 (0)))],.tip 5 1 (b1).length] gZ ?_;exact hnx
  ·refine wdG cQ (A7 hlt' hg SCT hw hx hr1 hz1) ?_
   refine AR.callP ha TI gZ ?_;refine goG cQ TI ?_;refine AR.callP hq TI gZ ?_;refine goG cQ TI ?_;refine aA [1,2] hline TI gZ yB ?_;refine goG cQ TI ?_;refine wdG cQ hm1 ?_;refine ALp.cutP 3 [(1,.pt 0 0),(3,.pt 1 0),(19,.sl (u.data.map scV) .ro),(20,(.im (.int .i64 (u.data.length)))),(21,(.im (.int .i64 ((((m+1:Nat)):Int)))))] [.box [.sl (u.globals.map vaV) .ro,.sl (u.data.map scV) .ro,.sl (u.funcs.map fnV) .ro],.box [.nb 1 PQ,.sl ((b1).map byB) (.mine 2),(.im (.int .i64 (0)))],.tip 5 1 (b1).length] gZ ?_;exact hnx
 obtain rfl:m=u.data.length:=by omega
 clear hnext
 rw[←hbg0]
 refine whG cQ @Int.lt_irrefl ?_
 refine Blk'.here (Thn.n ?_)
 refine wG cQ @List.length_map.{0,0} ?_
 refine aP ?_
 refine ALp.cutP 3 [(1,.pt 0 0),(3,.pt 1 0),(45,.sl (u.funcs.map fnV) .ro),(46,(.im (.int .i64 (u.funcs.length)))),(47,(.im (.int .i64 ((((0:Nat)):Int)))))] [.box [.sl (u.globals.map vaV) .ro,.sl (u.data.map scV) .ro,.sl (u.funcs.map fnV) .ro],.box [.nb 1 PQ,.sl (((Bg 0)).map byB) (.mine 2),(.im (.int .i64 (0)))],.tip 5 1 ((Bg 0)).length] gZ ?_
 refine aW u.funcs.length (fun _=>True) (fun m=>⟨dn 59 [(1,.pt 0 0),(3,.pt 1 0),(45,.sl (u.funcs.map fnV) .ro),(46,(.im (.int .i64 (u.funcs.length)))),(47,(.im (.int .i64 ((((m:Nat)):Int)))))],ofl [.box [.sl (u.globals.map vaV) .ro,.sl (u.data.map scV) .ro,.sl (u.funcs.map fnV) .ro],.box [.nb 1 PQ,.sl (((Bg m)).map byB) (.mine 2),(.im (.int .i64 (0)))],.tip 5 1 ((Bg m)).length]⟩) ?_ 0 (Nat.zero_le _) trivial
 intro m hm _ hnext
 by_cases hlt:m<u.funcs.length
 ·have hlt':(m:Int)<(u.funcs.length:Int):=by omega
  have hm1:=aK hlt (by omega)
  have hg:=bB hlt;have hB:Bg m++funT u.funcs[m]=Bg (m+1):=by rw[hBg,hBg,Gl funT hlt,List.append_assoc]
  have hfun:=ST u.funcs[m] (hu.fn _ (List.getElem_mem hlt)) (hp _ (List.getElem_mem hlt)) (Bg m) (by rw[hB];exact hgl (m+1))
  rw[hB]at hfun;have hnx:=hnext (m+1) (by omega) (by omega) trivial
  clear hnext hB;generalize u.funcs[m]=f at hg hfun;generalize Bg m=b0 at hfun;generalize Bg (m+1)=b1 at hfun hnx;rw[jH,show((0:Nat):Int)=0 from rfl]at hfun
  refine wG cQ (A3 hlt' hg FU) ?_;refine aA [1,2] hfun TI gZ yB ?_;refine goG cQ TI ?_;refine wG cQ hm1 ?_;refine ALp.cutP 3 [(1,.pt 0 0),(3,.pt 1 0),(45,.sl (u.funcs.map fnV) .ro),(46,(.im (.int .i64 (u.funcs.length)))),(47,(.im (.int .i64 ((((m+1:Nat)):Int)))))] [.box [.sl (u.globals.map vaV) .ro,.sl (u.data.map scV) .ro,.sl (u.funcs.map fnV) .ro],.box [.nb 1 PQ,.sl ((b1).map byB) (.mine 2),(.im (.int .i64 (0)))],.tip 5 1 (b1).length] gZ ?_;exact hnx
 obtain rfl:m=u.funcs.length:=by omega
 clear hnext
 rw[hend]
 generalize uniT u=T at hs
 refine wG cQ @Int.lt_irrefl ?_
 refine aA [1,2] hs TI gZ yB ?_
 refine goG cQ TI ?_
 refine wG cQ TI ?_
 refine fiGenO [.tmp 2] (finG cQ) ?_
 all_goals exact wkG gZ
def cL:=A16 @oB @iR @jO @hU @fB @kL @lA @oV @gM @iD @lO @lN @lM @oA @gT (A3 @iQ @hM @dK)
def jK:=A12 @aD @aL @aE @aN aS aG aH aV @bQ @bS @bR @bT
theorem Ry: ∀l:List Nd,FitNLW l→ ∀most n:Int,0≤most→most≤4194304→0≤n→n≤4194304→PC Tryz.prog 48 [.sl (l.map ndV) .ro,(.im (.int .i64 (most))),(.im (.int .i64 (n)))] (.im (.int .i64 (lpa l most n))):=by
 refine Nd.listInduct fun l ih=> ?_
 intro hl most n hq hq2 hn hn2
 obtain⟨hll,hf⟩:=hl
 unfold lpa
 refine pcEnt 101 Tryz.func48 rfl [(0,.sl (l.map ndV) .ro),(1,(.im (.int .i64 (most)))),(2,(.im (.int .i64 (n))))] ?_
 refine wG cL @List.length_map.{0,0} ?_
 refine cY rfl rfl (fun hE=> ?_) (fun hE=> ?_)
 ·simp only[Bool.or_eq_true,decide_eq_true_eq]at hE
  rw[if_pos (by omega)]
  refine wG cL TI ?_;exact aB
 simp only[Bool.or_eq_false_iff,decide_eq_false_iff_not]at hE
 rw[if_neg (by omega)]
 have hv:IntKind.i64.wrap (most-1)=most-1:=cU (by omega)
 refine wG cL TI ?_
 refine aP ?_
 refine ALp.cutP 0 [(0,.sl (l.map ndV) .ro),(1,(.im (.int .i64 (most)))),(7,(.im (.int .i64 (pfold (fun t n=>ndp t most n) (l.take (0)) n)))),(8,(.im (.int .i64 ((((0:Nat)):Int)))))] [] jK ?_
 refine aW l.length (fun _=>True) (fun m=>⟨dn 101 [(0,.sl (l.map ndV) .ro),(1,(.im (.int .i64 (most)))),(7,(.im (.int .i64 (pfold (fun t n=>ndp t most n) (l.take (m)) n)))),(8,(.im (.int .i64 ((((m:Nat)):Int)))))],ofl []⟩) ?_ 0 (Nat.zero_le _) trivial
 intro m hm _ hnext
 refine wG cL (AI @Int.natCast_nonneg @List.length_map.{0,0}) ?_
 refine cY rfl rfl (fun hE=> ?_) (fun hE=> ?_)
 ·obtain⟨hlt,hp⟩:=kG hE
  have hlt':(m:Int)<(l.length:Int):=by omega
  have hm1:=aK hlt (by omega)
  have hb:=dQ (f:=fun t n=>ndp t most n) (l:=l.take m) (fun t _ n hn=>Js t _ n hn) n (by omega)
  have hg:=bB hlt;have hst:=kE (f:=fun t n=>ndp t most n) hlt hp
  obtain⟨i1,i2,i3⟩:=ih l[m] (List.getElem_mem hlt);have hfi:=Kh (hf _ (List.getElem_mem hlt));have hn3:=hnext (m+1) (by omega) (by omega) trivial
  rw[hst,Ba]at hn3;have hall:pfold (fun t n=>ndp t most n) (l.take m) n=pfold (fun t n=>ndp t most n) (l.take m) n:=rfl
  have hend: ∀r,ndp l[m] most (pfold (fun t n=>ndp t most n) (l.take m) n)=r→ ¬0≤r→pfold (fun t n=>ndp t most n) l n=r:=fun r h1 h2=>by
   rw[←hst]at h1;rw[←h1]at h2 ⊢;exact Jp h2
  rw[Ba]at hend;clear hnext hall hst hE;generalize pfold (fun t n=>ndp t most n) (l.take m) n=n0 at *
  generalize l[m]=t at *;obtain⟨_,hnm,⟨hel,hex⟩,hfl,hfel,hcl,hcx⟩:=hfi;refine wG cL (A3 hlt' hg BN05) ?_;refine cY rfl rfl (fun hE=> ?_) (fun hE=> ?_)
  ·simp only[Bool.or_eq_true,decide_eq_true_eq]at hE
   rw[hend (-1) (by rw[if_pos (by omega)]) (by omega)]
   refine wG cL TI ?_;exact aB
  simp only[Bool.or_eq_false_iff,decide_eq_false_iff_not]at hE;rw[if_neg (by omega)]at hn3
  clear hend;have hw:IntKind.i64.wrap (n0-1)=n0-1:=cU (by omega)
  refine wG cL hw ?_;refine aP ?_;refine ALp.cutP 1 [(0,.sl (l.map ndV) .ro),(1,(.im (.int .i64 (most)))),(7,(.im (.int .i64 (pfold (fun x n=>epa x 70 n) (t.e.take (0)) (n0-1))))),(8,(.im (.int .i64 ((m:Int))))),(9,.pt 0 0),(10,(.im (.int .i64 ((((0:Nat)):Int)))))] [.box [.im (.int .i64 (t).kind),.im (.int .i64 (t).width),.im (.string (t).name),.sl ((t).e.map exV) .ro,.sl ((t).l.map ndV) .ro,.sl ((t).el.map ndV) .ro,.sl ((t).cs.map nlV) .ro]] jK ?_
  refine aW t.e.length (fun _=>True) (fun j=>⟨dn 101 [(0,.sl (l.map ndV) .ro),(1,(.im (.int .i64 (most)))),(7,(.im (.int .i64 (pfold (fun x n=>epa x 70 n) (t.e.take (j)) (n0-1))))),(8,(.im (.int .i64 ((m:Int))))),(9,.pt 0 0),(10,(.im (.int .i64 ((((j:Nat)):Int)))))],ofl [.box [.im (.int .i64 (t).kind),.im (.int .i64 (t).width),.im (.string (t).name),.sl ((t).e.map exV) .ro,.sl ((t).l.map ndV) .ro,.sl ((t).el.map ndV) .ro,.sl ((t).cs.map nlV) .ro]]⟩) ?_ 0 (Nat.zero_le _) trivial
  intro j hj _ hnext;refine wG cL (AI @Int.natCast_nonneg @List.length_map.{0,0}) ?_;refine cY rfl rfl (fun hE=> ?_) (fun hE=> ?_)
  ·obtain⟨hlj,hpj⟩:=kG hE
   have hlj':(j:Int)<(t.e.length:Int):=by omega
   have hj1:=aK hlj (by omega)
   have hbj:=dQ (f:=fun x n=>epa x 70 n) (l:=t.e.take j) (fun x _ n hn=>mO x _ n hn) (n0-1) (by omega)
   have hgj:=bB hlj;have hc:=KY t.e[j] (hex _ (List.getElem_mem hlj)) 70 _ (by decide) (by decide) hpj (by omega)
   rw[←kE (f:=fun x n=>epa x 70 n) hlj hpj]at hc
   have hnj:=hnext (j+1) (by omega) (by omega) trivial
   clear hnext;refine wG cL (A3 hlj' hgj BN01) ?_;refine AR.callP hc @bH jK ?_;refine goG cL TI ?_;refine wG cL hj1 ?_;refine ALp.cutP 1 [(0,.sl (l.map ndV) .ro),(1,(.im (.int .i64 (most)))),(7,(.im (.int .i64 (pfold (fun x n=>epa x 70 n) (t.e.take (j+1)) (n0-1))))),(8,(.im (.int .i64 ((m:Int))))),(9,.pt 0 0),(10,(.im (.int .i64 ((((j+1:Nat)):Int)))))] [.box [.im (.int .i64 (t).kind),.im (.int .i64 (t).width),.im (.string (t).name),.sl ((t).e.map exV) .ro,.sl ((t).l.map ndV) .ro,.sl ((t).el.map ndV) .ro,.sl ((t).cs.map nlV) .ro]] jK ?_
   exact hnj
  rw[kF hj hE];clear hnext hE;have b1:=dQ (f:=fun x n=>epa x 70 n) (l:=t.e) (fun x _ n hn=>mO x _ n hn) (n0-1) (by omega)
  generalize pfold (fun x n=>epa x 70 n) t.e (n0-1)=n1 at *
  refine whG cL TI ?_;refine Blk'.here (Thn.n ?_)
  by_cases k1:0≤n1
  case neg =>
   have e3:nxq (lpa t.el (most-1)) (nxq (lpa t.l (most-1)) n1)=n1:=by unfold nxq;rw[if_neg k1,if_neg k1]
   rw[e3]at hn3;have k1': ¬n1≥0:=by omega
   have b3: -1≤n1∧n1≤4194304:=by omega
   generalize n1=n3 at *;refine wG cL k1' ?_;refine aP ?_;refine ALp.cutP 1 [(0,.sl (l.map ndV) .ro),(1,(.im (.int .i64 (most)))),(7,(.im (.int .i64 (pfold (fun c n=>lpa c (most-1) n) (t.cs.take (0)) n3)))),(8,(.im (.int .i64 ((m:Int))))),(9,.pt 0 0),(11,(.im (.int .i64 ((((0:Nat)):Int)))))] [.box [.im (.int .i64 (t).kind),.im (.int .i64 (t).width),.im (.string (t).name),.sl ((t).e.map exV) .ro,.sl ((t).l.map ndV) .ro,.sl ((t).el.map ndV) .ro,.sl ((t).cs.map nlV) .ro]] jK ?_
   refine aW t.cs.length (fun _=>True) (fun j=>⟨dn 101 [(0,.sl (l.map ndV) .ro),(1,(.im (.int .i64 (most)))),(7,(.im (.int .i64 (pfold (fun c n=>lpa c (most-1) n) (t.cs.take (j)) n3)))),(8,(.im (.int .i64 ((m:Int))))),(9,.pt 0 0),(11,(.im (.int .i64 ((((j:Nat)):Int)))))],ofl [.box [.im (.int .i64 (t).kind),.im (.int .i64 (t).width),.im (.string (t).name),.sl ((t).e.map exV) .ro,.sl ((t).l.map ndV) .ro,.sl ((t).el.map ndV) .ro,.sl ((t).cs.map nlV) .ro]]⟩) ?_ 0 (Nat.zero_le _) trivial
   intro j hj _ hnext;refine wG cL (AI @Int.natCast_nonneg @List.length_map.{0,0}) ?_;refine cY rfl rfl (fun hE=> ?_) (fun hE=> ?_)
   ·obtain⟨hlj,hpj⟩:=kG hE
    have hlj':(j:Int)<(t.cs.length:Int):=by omega
    have hj1:=aK hlj (by omega)
    have hbj:=dQ (f:=fun c n=>lpa c (most-1) n) (l:=t.cs.take j) (fun c _ n hn=>kP c _ n hn) n3 (by omega)
    have hgj:=bB hlj;have hc:=i3 t.cs[j] (List.getElem_mem hlj) (hcx _ (List.getElem_mem hlj)) (most-1) _ (by omega) (by omega) hpj (by omega)
    rw[←kE (f:=fun c n=>lpa c (most-1) n) hlj hpj]at hc
    have hnj:=hnext (j+1) (by omega) (by omega) trivial
    clear hnext;refine wG cL (A4 hlj' hgj hv BN05) ?_;refine AR.callP hc TI jK ?_;refine goG cL TI ?_;refine wG cL hj1 ?_;refine ALp.cutP 1 [(0,.sl (l.map ndV) .ro),(1,(.im (.int .i64 (most)))),(7,(.im (.int .i64 (pfold (fun c n=>lpa c (most-1) n) (t.cs.take (j+1)) n3)))),(8,(.im (.int .i64 ((m:Int))))),(9,.pt 0 0),(11,(.im (.int .i64 ((((j+1:Nat)):Int)))))] [.box [.im (.int .i64 (t).kind),.im (.int .i64 (t).width),.im (.string (t).name),.sl ((t).e.map exV) .ro,.sl ((t).l.map ndV) .ro,.sl ((t).el.map ndV) .ro,.sl ((t).cs.map nlV) .ro]] jK ?_
    exact hnj
   rw[kF hj hE];clear hnext hE;refine whG cL TI ?_;refine Blk'.here (Blk'.n (Thn.n ?_));refine wG cL hm1 ?_;refine ALp.cutP 0 [(0,.sl (l.map ndV) .ro),(1,(.im (.int .i64 (most)))),(7,(.im (.int .i64 (pfold (fun c n=>lpa c (most-1) n) t.cs n3)))),(8,(.im (.int .i64 ((((m+1:Nat)):Int)))))] [] jK ?_
   exact hn3
  have c1:=i1 hfl (most-1) n1 (by omega) (by omega) k1 (by omega)
  have b2:=kP t.l (most-1) n1 k1;have k1':n1≥0:=k1;have e2:nxq (lpa t.l (most-1)) n1=lpa t.l (most-1) n1:=by unfold nxq;rw[if_pos k1]
  rw[e2]at hn3;generalize lpa t.l (most-1) n1=n2 at *
  by_cases k2:0≤n2
  case neg =>
   have e3:nxq (lpa t.el (most-1)) n2=n2:=by unfold nxq;rw[if_neg k2]
   rw[e3]at hn3;have k2': ¬n2≥0:=by omega
   have b3: -1≤n2∧n2≤4194304:=by omega
   generalize n2=n3 at *;refine wG cL (A3 k1' hv BN05) ?_;refine AR.callP c1 TI jK ?_;refine goG cL TI ?_;refine wG cL k2' ?_;refine aP ?_;refine ALp.cutP 1 [(0,.sl (l.map ndV) .ro),(1,(.im (.int .i64 (most)))),(7,(.im (.int .i64 (pfold (fun c n=>lpa c (most-1) n) (t.cs.take (0)) n3)))),(8,(.im (.int .i64 ((m:Int))))),(9,.pt 0 0),(11,(.im (.int .i64 ((((0:Nat)):Int)))))] [.box [.im (.int .i64 (t).kind),.im (.int .i64 (t).width),.im (.string (t).name),.sl ((t).e.map exV) .ro,.sl ((t).l.map ndV) .ro,.sl ((t).el.map ndV) .ro,.sl ((t).cs.map nlV) .ro]] jK ?_
   refine aW t.cs.length (fun _=>True) (fun j=>⟨dn 101 [(0,.sl (l.map ndV) .ro),(1,(.im (.int .i64 (most)))),(7,(.im (.int .i64 (pfold (fun c n=>lpa c (most-1) n) (t.cs.take (j)) n3)))),(8,(.im (.int .i64 ((m:Int))))),(9,.pt 0 0),(11,(.im (.int .i64 ((((j:Nat)):Int)))))],ofl [.box [.im (.int .i64 (t).kind),.im (.int .i64 (t).width),.im (.string (t).name),.sl ((t).e.map exV) .ro,.sl ((t).l.map ndV) .ro,.sl ((t).el.map ndV) .ro,.sl ((t).cs.map nlV) .ro]]⟩) ?_ 0 (Nat.zero_le _) trivial
   intro j hj _ hnext;refine wG cL (AI @Int.natCast_nonneg @List.length_map.{0,0}) ?_;refine cY rfl rfl (fun hE=> ?_) (fun hE=> ?_)
   ·obtain⟨hlj,hpj⟩:=kG hE
    have hlj':(j:Int)<(t.cs.length:Int):=by omega
    have hj1:=aK hlj (by omega)
    have hbj:=dQ (f:=fun c n=>lpa c (most-1) n) (l:=t.cs.take j) (fun c _ n hn=>kP c _ n hn) n3 (by omega)
    have hgj:=bB hlj;have hc:=i3 t.cs[j] (List.getElem_mem hlj) (hcx _ (List.getElem_mem hlj)) (most-1) _ (by omega) (by omega) hpj (by omega)
    rw[←kE (f:=fun c n=>lpa c (most-1) n) hlj hpj]at hc
    have hnj:=hnext (j+1) (by omega) (by omega) trivial
    clear hnext;refine wG cL (A4 hlj' hgj hv BN05) ?_;refine AR.callP hc TI jK ?_;refine goG cL TI ?_;refine wG cL hj1 ?_;refine ALp.cutP 1 [(0,.sl (l.map ndV) .ro),(1,(.im (.int .i64 (most)))),(7,(.im (.int .i64 (pfold (fun c n=>lpa c (most-1) n) (t.cs.take (j+1)) n3)))),(8,(.im (.int .i64 ((m:Int))))),(9,.pt 0 0),(11,(.im (.int .i64 ((((j+1:Nat)):Int)))))] [.box [.im (.int .i64 (t).kind),.im (.int .i64 (t).width),.im (.string (t).name),.sl ((t).e.map exV) .ro,.sl ((t).l.map ndV) .ro,.sl ((t).el.map ndV) .ro,.sl ((t).cs.map nlV) .ro]] jK ?_
    exact hnj
   rw[kF hj hE];clear hnext hE;refine whG cL TI ?_;refine Blk'.here (Blk'.n (Thn.n ?_));refine wG cL hm1 ?_;refine ALp.cutP 0 [(0,.sl (l.map ndV) .ro),(1,(.im (.int .i64 (most)))),(7,(.im (.int .i64 (pfold (fun c n=>lpa c (most-1) n) t.cs n3)))),(8,(.im (.int .i64 ((((m+1:Nat)):Int)))))] [] jK ?_
   exact hn3
  have c2:=i2 hfel (most-1) n2 (by omega) (by omega) k2 (by omega)
  have b3:=kP t.el (most-1) n2 k2;have k2':n2≥0:=k2;have e3:nxq (lpa t.el (most-1)) n2=lpa t.el (most-1) n2:=by unfold nxq;rw[if_pos k2]
  rw[e3]at hn3;generalize lpa t.el (most-1) n2=n3 at *;refine wG cL (A3 k1' hv BN05) ?_;refine AR.callP c1 TI jK ?_;refine goG cL TI ?_;refine wG cL (A3 k2' hv BN05) ?_;refine AR.callP c2 TI jK ?_;refine goG cL TI ?_;refine wG cL TI ?_;refine aP ?_;refine ALp.cutP 1 [(0,.sl (l.map ndV) .ro),(1,(.im (.int .i64 (most)))),(7,(.im (.int .i64 (pfold (fun c n=>lpa c (most-1) n) (t.cs.take (0)) n3)))),(8,(.im (.int .i64 ((m:Int))))),(9,.pt 0 0),(11,(.im (.int .i64 ((((0:Nat)):Int)))))] [.box [.im (.int .i64 (t).kind),.im (.int .i64 (t).width),.im (.string (t).name),.sl ((t).e.map exV) .ro,.sl ((t).l.map ndV) .ro,.sl ((t).el.map ndV) .ro,.sl ((t).cs.map nlV) .ro]] jK ?_
  refine aW t.cs.length (fun _=>True) (fun j=>⟨dn 101 [(0,.sl (l.map ndV) .ro),(1,(.im (.int .i64 (most)))),(7,(.im (.int .i64 (pfold (fun c n=>lpa c (most-1) n) (t.cs.take (j)) n3)))),(8,(.im (.int .i64 ((m:Int))))),(9,.pt 0 0),(11,(.im (.int .i64 ((((j:Nat)):Int)))))],ofl [.box [.im (.int .i64 (t).kind),.im (.int .i64 (t).width),.im (.string (t).name),.sl ((t).e.map exV) .ro,.sl ((t).l.map ndV) .ro,.sl ((t).el.map ndV) .ro,.sl ((t).cs.map nlV) .ro]]⟩) ?_ 0 (Nat.zero_le _) trivial
  intro j hj _ hnext;refine wG cL (AI @Int.natCast_nonneg @List.length_map.{0,0}) ?_;refine cY rfl rfl (fun hE=> ?_) (fun hE=> ?_)
  ·obtain⟨hlj,hpj⟩:=kG hE
   have hlj':(j:Int)<(t.cs.length:Int):=by omega
   have hj1:=aK hlj (by omega)
   have hbj:=dQ (f:=fun c n=>lpa c (most-1) n) (l:=t.cs.take j) (fun c _ n hn=>kP c _ n hn) n3 (by omega)
   have hgj:=bB hlj;have hc:=i3 t.cs[j] (List.getElem_mem hlj) (hcx _ (List.getElem_mem hlj)) (most-1) _ (by omega) (by omega) hpj (by omega)
   rw[←kE (f:=fun c n=>lpa c (most-1) n) hlj hpj]at hc
   have hnj:=hnext (j+1) (by omega) (by omega) trivial
   clear hnext;refine wG cL (A4 hlj' hgj hv BN05) ?_;refine AR.callP hc TI jK ?_;refine goG cL TI ?_;refine wG cL hj1 ?_;refine ALp.cutP 1 [(0,.sl (l.map ndV) .ro),(1,(.im (.int .i64 (most)))),(7,(.im (.int .i64 (pfold (fun c n=>lpa c (most-1) n) (t.cs.take (j+1)) n3)))),(8,(.im (.int .i64 ((m:Int))))),(9,.pt 0 0),(11,(.im (.int .i64 ((((j+1:Nat)):Int)))))] [.box [.im (.int .i64 (t).kind),.im (.int .i64 (t).width),.im (.string (t).name),.sl ((t).e.map exV) .ro,.sl ((t).l.map ndV) .ro,.sl ((t).el.map ndV) .ro,.sl ((t).cs.map nlV) .ro]] jK ?_
   exact hnj
  rw[kF hj hE];clear hnext hE;refine whG cL TI ?_;refine Blk'.here (Blk'.n (Thn.n ?_));refine wG cL hm1 ?_;refine ALp.cutP 0 [(0,.sl (l.map ndV) .ro),(1,(.im (.int .i64 (most)))),(7,(.im (.int .i64 (pfold (fun c n=>lpa c (most-1) n) t.cs n3)))),(8,(.im (.int .i64 ((((m+1:Nat)):Int)))))] [] jK ?_
  exact hn3
 rw[kF hm hE]
 clear hnext hE
 refine wG cL TI ?_
 exact aB
def jW:=A11 @kA @jO @gF @jZ @mX @pB @mV @iZ @iQ @gD @jM
def Cd:=A10 @aD @aL @aE @aN aS aG @bQ @bS @bR @bT
theorem Rv(f:Fun)(hF:FitFnW f):PC Tryz.prog 17 [fnV f] (.im (.bool (smF f))):=by
 have q1:=Ry f.body hF.bd 70 5000 (by decide) (by decide) (by decide) (by decide)
 have hvl:=hF.vl
 unfold smF
 rw[jH]
 by_cases h1:f.vars.length≤300
 case neg =>
  have h1':(f.vars.length:Int)>300:=by omega
  rw[decide_eq_false h1,Bool.false_and];refine pcEnt 29 Tryz.func17 rfl [(0,.ag [.im (.string f.name),.sl (f.vars.map vaV) .ro,.sl (f.body.map ndV) .ro])] ?_
  refine wG jW (AI @List.length_map.{0,0} h1') ?_;exact aB
 have h1': ¬(f.vars.length:Int)>300:=by omega
 rw[decide_eq_true h1,Bool.true_and]
 by_cases h2:0≤lpa f.body 70 5000
 case neg =>
  have h2':lpa f.body 70 5000<0:=by omega
  rw[decide_eq_false h2,Bool.false_and];refine pcEnt 29 Tryz.func17 rfl [(0,.ag [.im (.string f.name),.sl (f.vars.map vaV) .ro,.sl (f.body.map ndV) .ro])] ?_
  refine wG jW (AI @List.length_map.{0,0} h1') ?_;refine AR.callP q1 TI Cd ?_;refine goG jW h2' ?_;refine wG jW h2' ?_;exact aB
 have h2': ¬lpa f.body 70 5000<0:=by omega
 rw[decide_eq_true h2,Bool.true_and]
 refine pcEnt 29 Tryz.func17 rfl [(0,.ag [.im (.string f.name),.sl (f.vars.map vaV) .ro,.sl (f.body.map ndV) .ro])] ?_
 refine wG jW (AI @List.length_map.{0,0} h1') ?_
 refine AR.callP q1 TI Cd ?_
 refine goG jW h2' ?_
 refine wG jW h2' ?_
 refine aP ?_
 refine ALp.cutP 1 [(1,.pt 0 0),(3,(.im (.int .i64 ((((0:Nat)):Int)))))] [.box [.im (.string f.name),.sl (f.vars.map vaV) .ro,.sl (f.body.map ndV) .ro]] Cd ?_
 refine aW f.vars.length (toP (fun v=>smallT v.ty 70) f.vars) (fun m=>⟨dn 29 [(1,.pt 0 0),(3,(.im (.int .i64 ((((m:Nat)):Int)))))],ofl [.box [.im (.string f.name),.sl (f.vars.map vaV) .ro,.sl (f.body.map ndV) .ro]]⟩) ?_ 0 (Nat.zero_le _) (toP.zero _ _)
 intro m hm hI hnext
 by_cases hlt:m<f.vars.length
 ·have hlt':(m:Int)<(f.vars.length:Int):=by omega
  have hm1:=aK hlt (by omega)
  have hg:=bB hlt;have hc:=Ru f.vars[m].ty (hF.vn _ (List.getElem_mem hlt)).1 70 (by decide) (by decide)
  cases b:smallT f.vars[m].ty 70 with
  | false =>
   rw[b]at hc;rw[Bx hlt b];refine wdG jW (A3 hlt' hg VA) ?_;refine AR.callP hc @bM Cd ?_;refine goG jW TI ?_;refine wdG jW TI ?_;exact aB
  | true =>
   rw[b]at hc;refine wdG jW (A3 hlt' hg VA) ?_;refine AR.callP hc @bM Cd ?_;refine goG jW TI ?_;refine wdG jW hm1 ?_;refine ALp.cutP 1 [(1,.pt 0 0),(3,(.im (.int .i64 ((((m+1:Nat)):Int)))))] [.box [.im (.string f.name),.sl (f.vars.map vaV) .ro,.sl (f.body.map ndV) .ro]] Cd ?_;exact hnext (m+1) (by omega) (by omega) (hI.succ hlt b)
 obtain rfl:m=f.vars.length:=by omega
 rw[hI.all]
 clear hnext hI
 refine wG jW @Int.lt_irrefl ?_
 exact aB
def dsU(l:List Sec):Nat:=(l.map fun d=>min d.data.length 3000).sum
theorem JL{l:List Sec}{m:Nat}(h:m<l.length):dsU (l.take (m+1))=dsU (l.take m)+min l[m].data.length 3000:=by
 unfold dsU
 rw[List.take_succ_eq_append_getElem h,List.map_append,List.sum_append]
 simp
theorem WH(l:List Sec)(m:Nat):dsU (l.take m)≤dsU l:=by
 conv=>rhs;rw[←List.take_append_drop m l]
 unfold dsU
 rw[List.map_append,List.sum_append]
 exact Nat.le_add_right _ _
def fN:=A16 @kA @Af @xE @nQ @tX @gF @jZ @tS @xD @lH @lV @pC @mY @sA @mV (A9 @iZ @wW @tN @lG @rF @tM @qK @gD @jM)
def mT:=A16 @aD @aL @aE @aN aS aG @bQ @bS @bR @bT eU gG kU pH uI (AI aX bC)
theorem KB(u:Un)(hu:FitUW u)(hd: ∀d∈u.data,d.data.length≤140737488355328):PC Tryz.prog 32 [unV u] (.im (.bool (smU u))):=by
 have hgl:=hu.gl
 have hdl:=hu.dl
 have hfl:=hu.fl
 unfold smU
 rw[kS]
 by_cases c1:u.globals.length≤300
 case neg =>
  have c1':(u.globals.length:Int)>300:=by omega
  rw[decide_eq_false (fun h=>c1 h.1),Bool.false_and]
  refine pcEnt 71 Tryz.func32 rfl [(0,.ag [.sl (u.globals.map vaV) .ro,.sl (u.data.map scV) .ro,.sl (u.funcs.map fnV) .ro])] ?_
  refine wG fN (AI @List.length_map.{0,0} c1') ?_;exact aB
 have c1': ¬(u.globals.length:Int)>300:=by omega
 by_cases c2:u.data.length≤20
 case neg =>
  have c2':(u.data.length:Int)>20:=by omega
  rw[decide_eq_false (fun h=>c2 h.2.1),Bool.false_and]
  refine pcEnt 71 Tryz.func32 rfl [(0,.ag [.sl (u.globals.map vaV) .ro,.sl (u.data.map scV) .ro,.sl (u.funcs.map fnV) .ro])] ?_
  refine wG fN (A3 @List.length_map.{0,0} c1' c2') ?_;exact aB
 have c2': ¬(u.data.length:Int)>20:=by omega
 by_cases c3:u.funcs.length≤70
 case neg =>
  have c3':(u.funcs.length:Int)>70:=by omega
  rw[decide_eq_false (fun h=>c3 h.2.2),Bool.false_and]
  refine pcEnt 71 Tryz.func32 rfl [(0,.ag [.sl (u.globals.map vaV) .ro,.sl (u.data.map scV) .ro,.sl (u.funcs.map fnV) .ro])] ?_
  refine wG fN (A4 @List.length_map.{0,0} c1' c2' c3') ?_;exact aB
 have c3': ¬(u.funcs.length:Int)>70:=by omega
 rw[decide_eq_true ⟨c1,c2,c3⟩,Bool.true_and]
 show PC _ _ _ (.im (.bool (decide (dsU u.data<3000)&&_)))
 refine pcEnt 71 Tryz.func32 rfl [(0,.ag [.sl (u.globals.map vaV) .ro,.sl (u.data.map scV) .ro,.sl (u.funcs.map fnV) .ro])] ?_
 refine wG fN (A4 @List.length_map.{0,0} c1' c2' c3') ?_
 refine aP ?_
 refine ALp.cutP 1 [(1,.pt 0 0),(3,(.im (.int .i64 (((dsU (u.data.take (0)):Nat):Int))))),(4,(.im (.int .i64 ((((0:Nat)):Int)))))] [.box [.sl (u.globals.map vaV) .ro,.sl (u.data.map scV) .ro,.sl (u.funcs.map fnV) .ro]] mT ?_
 refine aW u.data.length (fun m=>dsU (u.data.take m)<3000) (fun m=>⟨dn 71 [(1,.pt 0 0),(3,(.im (.int .i64 (((dsU (u.data.take (m)):Nat):Int))))),(4,(.im (.int .i64 ((((m:Nat)):Int)))))],ofl [.box [.sl (u.globals.map vaV) .ro,.sl (u.data.map scV) .ro,.sl (u.funcs.map fnV) .ro]]⟩) ?_ 0 (Nat.zero_le _) (show dsU []<3000 by decide)
 intro m hm hI hnext
 by_cases hlt:m<u.data.length
 ·have hlt':(m:Int)<(u.data.length:Int):=by omega
  have hm1:=aK hlt (by omega)
  have hg:=bB hlt;have hst:=JL hlt;have hdd:=hd _ (List.getElem_mem hlt);have hle:=WH u.data (m+1);have hmin:(if(3000:Int)<(u.data[m].data.length:Int)then(3000:Int)else(u.data[m].data.length:Int))=((min u.data[m].data.length 3000:Nat):Int):=by split<;>omega
  have hw:=cU (n:=((dsU (u.data.take m):Nat):Int)+((min u.data[m].data.length 3000:Nat):Int)) (by omega)
  have hw2:((dsU (u.data.take m):Nat):Int)+((min u.data[m].data.length 3000:Nat):Int)=((dsU (u.data.take (m+1)):Nat):Int):=by omega
  generalize u.data[m]=d at hg hmin hw hw2 hst;rw[hw2]at hw;have hnx:=hnext (m+1) (by omega) (by omega)
  clear hnext;generalize dsU (u.data.take m)=n0 at hw hw2 hI;generalize dsU (u.data.take (m+1))=n1 at hw hw2 hle hnx
  by_cases hq:n1<3000
  ·have hq': ¬(n1:Int)≥3000:=by omega
   refine wG fN (A9 hlt' hg SCT @List.length_map.{0,0} hmin hw2 hw hq' hm1) ?_;refine ALp.cutP 1 [(1,.pt 0 0),(3,(.im (.int .i64 (((n1:Nat):Int))))),(4,(.im (.int .i64 ((((m+1:Nat)):Int)))))] [.box [.sl (u.globals.map vaV) .ro,.sl (u.data.map scV) .ro,.sl (u.funcs.map fnV) .ro]] mT ?_;exact hnx hq
  ·have hq':(n1:Int)≥3000:=by omega
   rw[decide_eq_false (by omega),Bool.false_and]
   refine wG fN (A8 hlt' hg SCT @List.length_map.{0,0} hmin hw2 hw hq') ?_;exact aB
 obtain rfl:m=u.data.length:=by omega
 clear hnext
 rw[List.take_length]at hI
 rw[decide_eq_true hI,Bool.true_and]
 refine whG fN (AI @Int.lt_irrefl @List.length_map.{0,0}) ?_
 refine Blk'.here (Thn.n ?_)
 refine wG fN TI ?_
 refine aP ?_
 refine ALp.cutP 1 [(1,.pt 0 0),(5,(.im (.int .i64 ((((0:Nat)):Int)))))] [.box [.sl (u.globals.map vaV) .ro,.sl (u.data.map scV) .ro,.sl (u.funcs.map fnV) .ro]] mT ?_
 refine aW u.globals.length (toP (fun v=>smallT v.ty 70) u.globals) (fun m=>⟨dn 71 [(1,.pt 0 0),(5,(.im (.int .i64 ((((m:Nat)):Int)))))],ofl [.box [.sl (u.globals.map vaV) .ro,.sl (u.data.map scV) .ro,.sl (u.funcs.map fnV) .ro]]⟩) ?_ 0 (Nat.zero_le _) (toP.zero _ _)
 intro m hm hJ hnext
 by_cases hlt:m<u.globals.length
 ·have hlt':(m:Int)<(u.globals.length:Int):=by omega
  have hm1:=aK hlt (by omega)
  have hg:=bB hlt;have hc:=Ru u.globals[m].ty (hu.gn _ (List.getElem_mem hlt)).1 70 (by decide) (by decide)
  cases b:smallT u.globals[m].ty 70 with
  | false =>
   rw[b]at hc;rw[Bx hlt b,Bool.false_and];refine wG fN (A4 hlt' hg VA @List.length_map.{0,0}) ?_;refine AR.callP hc @bM mT ?_;refine goG fN TI ?_;refine wG fN TI ?_;exact aB
  | true =>
   rw[b]at hc;refine wG fN (A4 hlt' hg VA @List.length_map.{0,0}) ?_;refine AR.callP hc @bM mT ?_;refine goG fN TI ?_;refine wG fN hm1 ?_;refine ALp.cutP 1 [(1,.pt 0 0),(5,(.im (.int .i64 ((((m+1:Nat)):Int)))))] [.box [.sl (u.globals.map vaV) .ro,.sl (u.data.map scV) .ro,.sl (u.funcs.map fnV) .ro]] mT ?_;exact hnext (m+1) (by omega) (by omega) (hJ.succ hlt b)
 obtain rfl:m=u.globals.length:=by omega
 clear hnext
 rw[hJ.all,Bool.true_and]
 refine whG fN (AI @Int.lt_irrefl @List.length_map.{0,0}) ?_
 refine Blk'.here (Thn.n ?_)
 refine wG fN TI ?_
 refine aP ?_
 refine ALp.cutP 1 [(1,.pt 0 0),(6,(.im (.int .i64 ((((0:Nat)):Int)))))] [.box [.sl (u.globals.map vaV) .ro,.sl (u.data.map scV) .ro,.sl (u.funcs.map fnV) .ro]] mT ?_
 refine aW u.funcs.length (toP smF u.funcs) (fun m=>⟨dn 71 [(1,.pt 0 0),(6,(.im (.int .i64 ((((m:Nat)):Int)))))],ofl [.box [.sl (u.globals.map vaV) .ro,.sl (u.data.map scV) .ro,.sl (u.funcs.map fnV) .ro]]⟩) ?_ 0 (Nat.zero_le _) (toP.zero _ _)
 intro m hm hK hnext
 by_cases hlt:m<u.funcs.length
 ·have hlt':(m:Int)<(u.funcs.length:Int):=by omega
  have hm1:=aK hlt (by omega)
  have hg:=bB hlt;have hc:=Rv u.funcs[m] (hu.fn _ (List.getElem_mem hlt));cases b:smF u.funcs[m]with
  | false =>
   rw[b]at hc;rw[Bx hlt b];refine wG fN (A4 hlt' hg FU @List.length_map.{0,0}) ?_;refine AR.callP hc jH mT ?_;refine goG fN TI ?_;refine wG fN TI ?_;exact aB
  | true =>
   rw[b]at hc;refine wG fN (A4 hlt' hg FU @List.length_map.{0,0}) ?_;refine AR.callP hc jH mT ?_;refine goG fN TI ?_;refine wG fN hm1 ?_;refine ALp.cutP 1 [(1,.pt 0 0),(6,(.im (.int .i64 ((((m+1:Nat)):Int)))))] [.box [.sl (u.globals.map vaV) .ro,.sl (u.data.map scV) .ro,.sl (u.funcs.map fnV) .ro]] mT ?_;exact hnext (m+1) (by omega) (by omega) (hK.succ hlt b)
 obtain rfl:m=u.funcs.length:=by omega
 clear hnext
 rw[hK.all]
 refine wG fN (AI @Int.lt_irrefl @List.length_map.{0,0}) ?_
 exact aB
def Yy:=A16 @pS @cO @Ei @dR @Sz @kM @Sx @oU @nB @yO @yN @Hw @yM @yL @Su (A6 @vM @gU @cN @Ec @dA @iC)
theorem Vt(s:Bs)(h:65536<s.length)(hs:s.length≤140737488355328):PC Tryz.prog 28 [.im (.string ⟨(s).toArray⟩)] (.tu [.sl [] .nl,(.im (.int .i64 (6)))]):=by
 have h':(s.length:Int)>65536:=by omega
 refine pcEnt 73 Tryz.func28 rfl [(0,.im (.string ⟨(s).toArray⟩))] ?_
 refine wG Yy (AI BY h') ?_
 refine fiGenO [.tmp 2,.tmp 3] (finG Yy) ?_
 all_goals exact wkG mT
theorem Ix{s:Bs}(h:65536<s.length):Aj s=(uz0,6):=by
 have e:scnR s=([],6):=by unfold scnR;rw[if_pos h]
 unfold Aj
 rw[e,if_pos (by decide)]
def Eb:=A9 @qP @Ae @tU @nO @sC @Ze @oT @zY @oS
theorem QU(s:Bs)(h:65536<s.length)(hs:s.length≤140737488355328):PC Tryz.prog 13 [.im (.string ⟨(s).toArray⟩)] (.tu [unV (Aj s).1,(.im (.int .i64 ((Aj s).2)))]):=by
 have h1:=Vt s h hs
 rw[Ix h]
 refine pcEnt 36 Tryz.func13 rfl [(0,.im (.string ⟨(s).toArray⟩))] ?_
 refine wG Eb TI ?_
 refine AR.callP h1 TI mT ?_
 refine goG Eb TI ?_
 refine wG Eb TI ?_
 refine fiGenO [.cell 2 27,.tmp 3] (finG Eb) ?_
 all_goals exact wkG mT
theorem QV(s:Bs)(hs:s.length≤140737488355328):PC Tryz.prog 13 [.im (.string ⟨(s).toArray⟩)] (.tu [unV (Aj s).1,(.im (.int .i64 ((Aj s).2)))]):=by
 by_cases h:65536<s.length
 ·exact QU s h hs
 ·exact Vs s (by omega)
theorem Be{α β γ δ:Type}{f:α→γ}{f':β→γ}{g:α→δ}{g':β→δ}: ∀ {l:List α} {m:List β},l.map f=m.map f'→(∀x∈l,∀y∈m,f x=f' y→g x=g' y)→l.map g=m.map g'
 | [],[],_,_=>rfl
 | x::l,y::m,h,k=>by
  rw[List.map_cons,List.map_cons,List.cons.injEq]at h;rw[List.map_cons,List.map_cons,k x (by simp) y (by simp) h.1,Be h.2 fun a ha b hb=>k a (by simp[ha]) b (by simp[hb])]
theorem xY{α:Type}{p q:α→Bool}{l m:List α}(h:l.map p=m.map q):l.all p=m.all q:=by
 have e: ∀(r:α→Bool) (l:List α),l.all r=(l.map r).all id:=fun r l=>by rw[List.all_map];rfl
 rw[e p,e q,h]
theorem Bh{α β γ:Type}{f:α→γ}{f':β→γ}{l:List α}{m:List β}(h:l.map f=m.map f'):l.length=m.length:=by
 have:=congrArg List.length h
 rwa [List.length_map,List.length_map]at this
theorem MZ{a b:Ty}(h:tyV a=tyV b):a.kind=b.kind∧a.size=b.size∧a.count=b.count∧a.elem.map tyV=b.elem.map tyV∧a.fields.map fdV=b.fields.map fdV:=by
 rw[bM,bM]at h
 injection h with h
 injection h with h1 h
 injection h with h2 h
 injection h with h3 h
 injection h with h4 h
 injection h with h5 h
 injection h1 with h1
 injection h1 with _ h1
 injection h2 with h2
 injection h2 with _ h2
 injection h3 with h3
 injection h3 with _ h3
 injection h4 with h4
 injection h5 with h5
 exact⟨h1,h2,h3,h4,h5⟩
theorem Mp{a b:Ty}(h:fdV a=fdV b):a.off=b.off∧tyV a=tyV b:=by
 rw[mF,mF]at h
 rw[bM,bM]
 injection h with h
 injection h with h1 h
 refine⟨?_,by rw[h]⟩
 injection h1 with h1
 injection h1 with _ h1
theorem CM: ∀a b:Ty,tyV a=tyV b→(∀n,shal a n=shal b n)∧siz a=siz b∧frm a=frm b∧wit a=wit b:=by
 refine Ty.induct fun o k s c es fs hE hF=> ?_
 intro b h
 obtain⟨o',k',s',c',es',fs'⟩:=b
 obtain⟨h1,h2,h3,h4,h5⟩:=MZ h
 simp only[Ty.kind,Ty.size,Ty.count,Ty.elem,Ty.fields]at h1 h2 h3 h4 h5
 subst h1 h2 h3
 have le:=Bh h4
 have lf:=Bh h5
 have off:fs.map Ty.off=fs'.map Ty.off:=Be h5 fun x hx y hy e=>(Mp e).1
 have qe: ∀ {δ:Type} {g:Ty→δ},(∀x∈es,∀y,tyV x=tyV y→g x=g y)→es.map g=es'.map g:=fun hg=>Be h4 fun x hx y hy e=>hg x hx y e
 have qf: ∀ {δ:Type} {g:Ty→δ},(∀x∈fs,∀y,x.off=y.off→tyV x=tyV y→g x=g y)→fs.map g=fs'.map g:=fun hg=>Be h5 fun x hx y hy e=>hg x hx y (Mp e).1 (Mp e).2
 have hs:siz (.mk o k s c es fs)=siz (.mk o' k s c es' fs'):=by
  rw[Fc,Fc,qe (g:=siz) fun x hx y e=>(hE x hx y e).2.1,qf (g:=fun f=>f.off+siz f) fun x hx y e1 e=>by rw[e1,(hF x hx y e).2.1]]
 refine⟨fun n=> ?_,hs,?_,?_⟩
 ·rw[sL,sL,xY (qe (g:=fun t=>shal t (n-1)) fun x hx y e=>(hE x hx y e).1 _),xY (qf (g:=fun t=>shal t (n-1)) fun x hx y _ e=>(hF x hx y e).1 _)]
 ·have ha:asc fs=asc fs':=by
   have hk:fok fs=fok fs':=by funext i;unfold fok;rw[off]
   unfold asc;rw[hk,lf]
  rw[xT,xT,le,lf,ha,xY (qe (g:=frm) fun x hx y e=>(hE x hx y e).2.2.1),xY (qf (g:=frm) fun x hx y _ e=>(hF x hx y e).2.2.1)]
 ·rw[El,El,lf,hs,xY (qe (g:=wit) fun x hx y e=>(hE x hx y e).2.2.2),xY (qf (g:=wit) fun x hx y _ e=>(hF x hx y e).2.2.2)]
theorem ZS{a b:Ty}(h:tyV a=tyV b):chk a=chk b:=by
 obtain⟨h1,_,h3,h4⟩:=CM a b h
 unfold chk
 rw[h1,h3,h4]
theorem Wv{a b:Va}(h:vaV a=vaV b):a.name=b.name∧tyV a.ty=tyV b.ty:=by
 rw[qR,qR]at h
 rw[bM,bM]
 injection h with h
 injection h with h1 h
 refine⟨?_,by rw[h]⟩
 injection h1 with h1
 injection h1
def nmE(l m:List Va):Prop:=l.map Va.name=m.map Va.name
theorem Ui{l m:List Va}(h:l.map vaV=m.map vaV):nmE l m:=Be h fun x _ y _ e=>(Wv e).1
theorem Xl{a b c d:List Va}(h:nmE a b)(k:nmE c d):nmE (a++c) (b++d):=by unfold nmE at *;rw[List.map_append,List.map_append,h,k]
theorem IE{l m:List Va}(h:nmE l m):has l=has m:=by
 funext s
 have e: ∀l:List Va,has l s=(l.map Va.name).any fun n=>eqS n s:=fun l=>by unfold has;rw[List.any_map];rfl
 rw[e,e,h]
theorem YU{l m:List Va}(h:nmE l m):knw l=knw m:=by
 funext e
 induction e using Ex.induct with
 | h o n s w es ih =>
 rw[Um,Um,IE h]
 have:es.all (knw l)=es.all (knw m):=xY (List.map_congr_left ih)
 rw[this]
theorem GQ{l m:List Va}(h:nmE l m)(fs ls:List ByteArray): ∀(q:List (Nd×Bool)) (sn:List ByteArray),runS l fs ls sn q=runS m fs ls sn q
 | [],_=>rfl
 | p::r,sn=>by
  have hc:chk1 l fs ls sn p=chk1 m fs ls sn p:=by unfold chk1 symT;rw[YU h,IE h]
  rw[vU,vU,hc,GQ h fs ls r]
theorem Th: ∀ {l m s t:List Va},l.map vaV=m.map vaV→nmE s t→vErr s l=vErr t m
 | [],[],s,t,_,_=>by rw[vErr,vErr]
 | x::l,y::m,s,t,h,k=>by
  rw[List.map_cons,List.map_cons,List.cons.injEq]at h;obtain⟨e1,e2⟩:=Wv h.1;have h1:nmE [x] [y]:=by show [x.name]=[y.name];rw[e1]
  rw[vErr,vErr,e1,IE k,ZS e2,Th h.2 (Xl k h1)]
theorem QX{gs gs':List Va}{f g:Fun}(hg:gs.map vaV=gs'.map vaV)(h:fnQ f=fnQ g)(fs:List ByteArray):bodyE gs f fs=bodyE gs' g fs:=by
 unfold fnQ at h
 rw[Prod.mk.injEq,Prod.mk.injEq]at h
 obtain⟨h1,h2,h3⟩:=h
 unfold bodyE
 rw[Bh hg,Bh h2,Th h2 (Ui hg),h3,GQ (Xl (Ui hg) (Ui h2))]
theorem IM{f g:Fun}(h:fnQ f=fnQ g):f.name=g.name:=(Prod.mk.inj h).1
theorem SO: ∀ {l m:List Fun} (s:List ByteArray),l.map fnQ=m.map fnQ→fnE s l=fnE s m
 | [],[],s,_=>rfl
 | x::l,y::m,s,h=>by
  rw[List.map_cons,List.map_cons,List.cons.injEq]at h;rw[fnE,fnE,IM h.1,SO _ h.2]
theorem SW{gs gs':List Va}(hg:gs.map vaV=gs'.map vaV)(fs:List ByteArray): ∀ {l m:List Fun},l.map fnQ=m.map fnQ→bdE gs fs l=bdE gs' fs m
 | [],[],_=>rfl
 | x::l,y::m,h=>by
  rw[List.map_cons,List.map_cons,List.cons.injEq]at h;rw[bdE,bdE,QX hg h.1,SW hg fs h.2]
theorem YD{u v:Un}(h:unQ u=unQ v):unE u=unE v:=by
 unfold unQ at h
 rw[Prod.mk.injEq,Prod.mk.injEq]at h
 obtain⟨h1,h2,h3⟩:=h
 have h4:u.funcs.map Fun.name=v.funcs.map Fun.name:=Be h3 fun x _ y _ e=>IM e
 unfold unE
 rw[Bh h1,h2,Bh h3,Th h1 (s:=[]) (t:=[]) rfl,SO [] h3,h4,SW h1 _ h3]
end Go.Proofs.YtmbmmckagcdapaaGreatDoor
