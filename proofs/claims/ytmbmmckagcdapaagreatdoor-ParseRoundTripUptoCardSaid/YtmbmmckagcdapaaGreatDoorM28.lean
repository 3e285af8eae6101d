import Derived.Test.YtmbmmckagcdapaaGreatDoorM11
import Derived.Test.YtmbmmckagcdapaaGreatDoorM32
import Derived.Test.YtmbmmckagcdapaaGreatDoorM33
import Derived.Test.YtmbmmckagcdapaaGreatDoorM22
import Derived.Test.YtmbmmckagcdapaaGreatDoorM04
set_option linter.all false
namespace Go.Proofs.YtmbmmckagcdapaaGreatDoor
open Go.RowKit
theorem ZD(a b c d r:Bs)(hr:a++(b++(c++d))=r)(hlen:r.length≤140737488355328):PC Tryz.prog 83 [.sl [.im (.string ⟨(a).toArray⟩),.im (.string ⟨(b).toArray⟩),.im (.string ⟨(c).toArray⟩),.im (.string ⟨(d).toArray⟩)] .ro] (.im (.string ⟨(r).toArray⟩)):=BF [a,b,c,d] r (by simpa using hr) (by simp) hlen
theorem ZC(a b c d e f g r:Bs)(hr:a++(b++(c++(d++(e++(f++g)))))=r)(hlen:r.length≤140737488355328):PC Tryz.prog 83 [.sl [.im (.string ⟨(a).toArray⟩),.im (.string ⟨(b).toArray⟩),.im (.string ⟨(c).toArray⟩),.im (.string ⟨(d).toArray⟩),.im (.string ⟨(e).toArray⟩),.im (.string ⟨(f).toArray⟩),.im (.string ⟨(g).toArray⟩)] .ro] (.im (.string ⟨(r).toArray⟩)):=BF [a,b,c,d,e,f,g] r (by simpa using hr) (by simp) hlen
theorem Qo(s:ByteArray):Value.string ⟨s.data.toList.toArray⟩=Value.string s:=rfl
def dJ:=A15 @cO @iA @fE @dT @mB @gJ @jE @iP @xI @mN @iO @cN @hX @dP @dC
theorem BD(w:Int)(n:ByteArray)(e:List Ex)(l el:List Nd)(cs:List (List Nd))(hf:fitN (.mk 1 w n e l el cs))(hs:stT (.mk 1 w n e l el cs)=true)(hlen:(simT (.mk 1 w n e l el cs)).length≤140737488355328):PC Tryz.prog 210 [ndV (.mk 1 w n e l el cs)] (.im (.string ⟨(simT (.mk 1 w n e l el cs)).toArray⟩)):=by
 obtain⟨_,h2,h3,h4⟩:=iD hs
 obtain⟨_,_,⟨_,he⟩,_⟩:=dR hf
 simp only[Nd.kind,Nd.width,Nd.name,Nd.e]at h2 h3 h4 he
 obtain⟨a,rfl⟩:=xX h2
 have e1:simT (.mk 1 w n [a] l el cs)=n.data.toList++([32,61,32]++(txE a++[59])):=rfl
 rw[e1]at hlen ⊢
 have hl0:=hlen
 simp only[List.length_append]at hl0
 have qa:=wW a (he a (by simp)) (h3 a (by simp)) (by omega)
 have qj:=ZD n.data.toList [32,61,32] (txE a) [59] _ rfl hlen
 rw[Qo]at qj
 clear hlen e1
 refine PC.enter 72 Tryz.func210 rfl (by decide) rfl rfl (s:=[(0,ndV (.mk 1 w n [a] l el cs))]) (by rfl) ?_
 simp only[eP]
 refine wdG dJ EX ?_
 refine AR.callP qa @bI (A7 aW aH aJ aZ @aD @aE bC) ?_
 refine goG dJ TI ?_
 refine dH qj TI (A7 aW aH aJ aZ @aD @aE bC) ?_
 refine goG dJ TI ?_
 refine wdG dJ TI ?_
 exact aC
theorem BC(w:Int)(n:ByteArray)(e:List Ex)(l el:List Nd)(cs:List (List Nd))(hf:fitN (.mk 2 w n e l el cs))(hs:stT (.mk 2 w n e l el cs)=true)(hlen:(simT (.mk 2 w n e l el cs)).length≤140737488355328):PC Tryz.prog 210 [ndV (.mk 2 w n e l el cs)] (.im (.string ⟨(simT (.mk 2 w n e l el cs)).toArray⟩)):=by
 obtain⟨_,h2,h3,h4⟩:=iD hs
 obtain⟨_,_,⟨_,he⟩,_⟩:=dR hf
 simp only[Nd.kind,Nd.width,Nd.name,Nd.e]at h2 h3 h4 he
 obtain⟨a,b,rfl⟩:=CZ h2
 have e1:simT (.mk 2 w n [a,b] l el cs)=[115,116,111,114,101]++(wB w++([40]++(txE a++([44,32]++(txE b++[41,59]))))):=rfl
 rw[e1]at hlen ⊢
 have hl0:=hlen
 simp only[List.length_append]at hl0
 have qa:=wW a (he a (by simp)) (h3 a (by simp)) (by omega)
 have qb:=wW b (he b (by simp)) (h3 b (by simp)) (by omega)
 have h4:=h4 trivial
 have qw:=uG w (by omega) (by omega)
 rw[Sv h4]at qw
 have qj:=ZC [115,116,111,114,101] (wB w) [40] (txE a) [44,32] (txE b) [41,59] _ rfl hlen
 clear hlen e1
 refine PC.enter 72 Tryz.func210 rfl (by decide) rfl rfl (s:=[(0,ndV (.mk 2 w n [a,b] l el cs))]) (by rfl) ?_
 simp only[eP]
 refine wdG dJ EX ?_
 refine AR.callP qw TI (A7 aW aH aJ aZ @aD @aE bC) ?_
 refine goG dJ EX ?_
 refine AR.callP qa @bI (A7 aW aH aJ aZ @aD @aE bC) ?_
 refine goG dJ EX ?_
 refine AR.callP qb @bI (A7 aW aH aJ aZ @aD @aE bC) ?_
 refine goG dJ TI ?_
 refine dH qj TI (A7 aW aH aJ aZ @aD @aE bC) ?_
 refine goG dJ TI ?_
 refine wdG dJ TI ?_
 exact aC
theorem BB(w:Int)(n:ByteArray)(e:List Ex)(l el:List Nd)(cs:List (List Nd))(hf:fitN (.mk 3 w n e l el cs))(hs:stT (.mk 3 w n e l el cs)=true)(hlen:(simT (.mk 3 w n e l el cs)).length≤140737488355328):PC Tryz.prog 210 [ndV (.mk 3 w n e l el cs)] (.im (.string ⟨(simT (.mk 3 w n e l el cs)).toArray⟩)):=by
 obtain⟨_,h2,h3,h4⟩:=iD hs
 obtain⟨_,_,⟨_,he⟩,_⟩:=dR hf
 simp only[Nd.kind,Nd.width,Nd.name,Nd.e]at h2 h3 h4 he
 have e1:simT (.mk 3 w n e l el cs)=n.data.toList++[32,61,32,105,110,59]:=rfl
 rw[e1]at hlen ⊢
 have qj:=JA n.data.toList [32,61,32,105,110,59] _ rfl hlen
 rw[Qo]at qj
 clear hlen e1
 refine PC.enter 72 Tryz.func210 rfl (by decide) rfl rfl (s:=[(0,ndV (.mk 3 w n e l el cs))]) (by rfl) ?_
 simp only[eP]
 refine wG dJ EX ?_
 refine dH qj TI (A7 aW aH aJ aZ @aD @aE bC) ?_
 refine goG dJ TI ?_
 refine wG dJ TI ?_
 exact aC
theorem BA(w:Int)(n:ByteArray)(e:List Ex)(l el:List Nd)(cs:List (List Nd))(hf:fitN (.mk 4 w n e l el cs))(hs:stT (.mk 4 w n e l el cs)=true)(hlen:(simT (.mk 4 w n e l el cs)).length≤140737488355328):PC Tryz.prog 210 [ndV (.mk 4 w n e l el cs)] (.im (.string ⟨(simT (.mk 4 w n e l el cs)).toArray⟩)):=by
 obtain⟨_,h2,h3,h4⟩:=iD hs
 obtain⟨_,_,⟨_,he⟩,_⟩:=dR hf
 simp only[Nd.kind,Nd.width,Nd.name,Nd.e]at h2 h3 h4 he
 obtain⟨a,rfl⟩:=xX h2
 have e1:simT (.mk 4 w n [a] l el cs)=[111,117,116,32]++(txE a++[59]):=rfl
 rw[e1]at hlen ⊢
 have hl0:=hlen
 simp only[List.length_append]at hl0
 have qa:=wW a (he a (by simp)) (h3 a (by simp)) (by omega)
 have qj:=IZ [111,117,116,32] (txE a) [59] _ rfl hlen
 clear hlen e1
 refine PC.enter 72 Tryz.func210 rfl (by decide) rfl rfl (s:=[(0,ndV (.mk 4 w n [a] l el cs))]) (by rfl) ?_
 simp only[eP]
 refine wG dJ EX ?_
 refine AR.callP qa @bI (A7 aW aH aJ aZ @aD @aE bC) ?_
 refine goG dJ TI ?_
 refine dH qj TI (A7 aW aH aJ aZ @aD @aE bC) ?_
 refine goG dJ TI ?_
 refine wG dJ TI ?_
 exact aC
theorem AZ(w:Int)(n:ByteArray)(e:List Ex)(l el:List Nd)(cs:List (List Nd))(hf:fitN (.mk 5 w n e l el cs))(hs:stT (.mk 5 w n e l el cs)=true)(hlen:(simT (.mk 5 w n e l el cs)).length≤140737488355328):PC Tryz.prog 210 [ndV (.mk 5 w n e l el cs)] (.im (.string ⟨(simT (.mk 5 w n e l el cs)).toArray⟩)):=by
 obtain⟨_,h2,h3,h4⟩:=iD hs
 obtain⟨_,_,⟨_,he⟩,_⟩:=dR hf
 simp only[Nd.kind,Nd.width,Nd.name,Nd.e]at h2 h3 h4 he
 have e1:simT (.mk 5 w n e l el cs)=[99,97,108,108,32]++(n.data.toList++[59]):=rfl
 rw[e1]at hlen ⊢
 have qj:=IZ [99,97,108,108,32] n.data.toList [59] _ rfl hlen
 rw[Qo]at qj
 clear hlen e1
 refine PC.enter 72 Tryz.func210 rfl (by decide) rfl rfl (s:=[(0,ndV (.mk 5 w n e l el cs))]) (by rfl) ?_
 simp only[eP]
 refine wG dJ EX ?_
 refine dH qj TI (A7 aW aH aJ aZ @aD @aE bC) ?_
 refine goG dJ TI ?_
 refine wG dJ TI ?_
 exact aC
theorem Tl(w:Int)(n:ByteArray)(e:List Ex)(l el:List Nd)(cs:List (List Nd))(hf:fitN (.mk 12 w n e l el cs))(hs:stT (.mk 12 w n e l el cs)=true)(hlen:(simT (.mk 12 w n e l el cs)).length≤140737488355328):PC Tryz.prog 210 [ndV (.mk 12 w n e l el cs)] (.im (.string ⟨(simT (.mk 12 w n e l el cs)).toArray⟩)):=by
 obtain⟨_,h2,h3,h4⟩:=iD hs
 obtain⟨_,_,⟨_,he⟩,_⟩:=dR hf
 simp only[Nd.kind,Nd.width,Nd.name,Nd.e]at h2 h3 h4 he
 have e1:simT (.mk 12 w n e l el cs)=[103,111,116,111,32]++(n.data.toList++[59]):=rfl
 rw[e1]at hlen ⊢
 have qj:=IZ [103,111,116,111,32] n.data.toList [59] _ rfl hlen
 rw[Qo]at qj
 clear hlen e1
 refine PC.enter 72 Tryz.func210 rfl (by decide) rfl rfl (s:=[(0,ndV (.mk 12 w n e l el cs))]) (by rfl) ?_
 simp only[eP]
 refine wG dJ EX ?_
 refine dH qj TI (A7 aW aH aJ aZ @aD @aE bC) ?_
 refine goG dJ TI ?_
 refine wG dJ TI ?_
 exact aC
theorem Tj(w:Int)(n:ByteArray)(e:List Ex)(l el:List Nd)(cs:List (List Nd))(hf:fitN (.mk 13 w n e l el cs))(hs:stT (.mk 13 w n e l el cs)=true)(hlen:(simT (.mk 13 w n e l el cs)).length≤140737488355328):PC Tryz.prog 210 [ndV (.mk 13 w n e l el cs)] (.im (.string ⟨(simT (.mk 13 w n e l el cs)).toArray⟩)):=by
 obtain⟨_,h2,h3,h4⟩:=iD hs
 obtain⟨_,_,⟨_,he⟩,_⟩:=dR hf
 simp only[Nd.kind,Nd.width,Nd.name,Nd.e]at h2 h3 h4 he
 have e1:simT (.mk 13 w n e l el cs)=n.data.toList++[58]:=rfl
 rw[e1]at hlen ⊢
 have qj:=JA n.data.toList [58] _ rfl hlen
 rw[Qo]at qj
 clear hlen e1
 refine PC.enter 72 Tryz.func210 rfl (by decide) rfl rfl (s:=[(0,ndV (.mk 13 w n e l el cs))]) (by rfl) ?_
 simp only[eP]
 refine wG dJ EX ?_
 refine dH qj TI (A7 aW aH aJ aZ @aD @aE bC) ?_
 refine goG dJ TI ?_
 refine wG dJ TI ?_
 exact aC
theorem Tn(w:Int)(n:ByteArray)(e:List Ex)(l el:List Nd)(cs:List (List Nd))(hf:fitN (.mk 10 w n e l el cs))(hs:stT (.mk 10 w n e l el cs)=true)(hlen:(simT (.mk 10 w n e l el cs)).length≤140737488355328):PC Tryz.prog 210 [ndV (.mk 10 w n e l el cs)] (.im (.string ⟨(simT (.mk 10 w n e l el cs)).toArray⟩)):=by
 obtain⟨_,h2,h3,h4⟩:=iD hs
 obtain⟨_,_,⟨_,he⟩,_⟩:=dR hf
 simp only[Nd.kind,Nd.width,Nd.name,Nd.e]at h2 h3 h4 he
 have e1:simT (.mk 10 w n e l el cs)=[98,114,101,97,107,59]:=rfl
 rw[e1]at hlen ⊢
 clear hlen e1
 refine PC.enter 72 Tryz.func210 rfl (by decide) rfl rfl (s:=[(0,ndV (.mk 10 w n e l el cs))]) (by rfl) ?_
 simp only[eP]
 refine wG dJ EX ?_
 exact aC
theorem Tm(w:Int)(n:ByteArray)(e:List Ex)(l el:List Nd)(cs:List (List Nd))(hf:fitN (.mk 11 w n e l el cs))(hs:stT (.mk 11 w n e l el cs)=true)(hlen:(simT (.mk 11 w n e l el cs)).length≤140737488355328):PC Tryz.prog 210 [ndV (.mk 11 w n e l el cs)] (.im (.string ⟨(simT (.mk 11 w n e l el cs)).toArray⟩)):=by
 obtain⟨_,h2,h3,h4⟩:=iD hs
 obtain⟨_,_,⟨_,he⟩,_⟩:=dR hf
 simp only[Nd.kind,Nd.width,Nd.name,Nd.e]at h2 h3 h4 he
 have e1:simT (.mk 11 w n e l el cs)=[99,111,110,116,105,110,117,101,59]:=rfl
 rw[e1]at hlen ⊢
 clear hlen e1
 refine PC.enter 72 Tryz.func210 rfl (by decide) rfl rfl (s:=[(0,ndV (.mk 11 w n e l el cs))]) (by rfl) ?_
 simp only[eP]
 refine wG dJ EX ?_
 exact aC
theorem Ti(w:Int)(n:ByteArray)(e:List Ex)(l el:List Nd)(cs:List (List Nd))(hf:fitN (.mk 14 w n e l el cs))(hs:stT (.mk 14 w n e l el cs)=true)(hlen:(simT (.mk 14 w n e l el cs)).length≤140737488355328):PC Tryz.prog 210 [ndV (.mk 14 w n e l el cs)] (.im (.string ⟨(simT (.mk 14 w n e l el cs)).toArray⟩)):=by
 obtain⟨_,h2,h3,h4⟩:=iD hs
 obtain⟨_,_,⟨_,he⟩,_⟩:=dR hf
 simp only[Nd.kind,Nd.width,Nd.name,Nd.e]at h2 h3 h4 he
 have e1:simT (.mk 14 w n e l el cs)=[114,101,116,117,114,110,59]:=rfl
 rw[e1]at hlen ⊢
 clear hlen e1
 refine PC.enter 72 Tryz.func210 rfl (by decide) rfl rfl (s:=[(0,ndV (.mk 14 w n e l el cs))]) (by rfl) ?_
 simp only[eP]
 refine wG dJ EX ?_
 exact aC
theorem Th(w:Int)(n:ByteArray)(e:List Ex)(l el:List Nd)(cs:List (List Nd))(hf:fitN (.mk 15 w n e l el cs))(hs:stT (.mk 15 w n e l el cs)=true)(hlen:(simT (.mk 15 w n e l el cs)).length≤140737488355328):PC Tryz.prog 210 [ndV (.mk 15 w n e l el cs)] (.im (.string ⟨(simT (.mk 15 w n e l el cs)).toArray⟩)):=by
 obtain⟨_,h2,h3,h4⟩:=iD hs
 obtain⟨_,_,⟨_,he⟩,_⟩:=dR hf
 simp only[Nd.kind,Nd.width,Nd.name,Nd.e]at h2 h3 h4 he
 have e1:simT (.mk 15 w n e l el cs)=[104,97,108,116,59]:=rfl
 rw[e1]at hlen ⊢
 clear hlen e1
 refine PC.enter 72 Tryz.func210 rfl (by decide) rfl rfl (s:=[(0,ndV (.mk 15 w n e l el cs))]) (by rfl) ?_
 simp only[eP]
 refine wG dJ EX ?_
 exact aC
theorem IN(t:Nd)(hf:fitN t)(hs:stT t=true)(hk:t.kind≠6∧t.kind≠7∧t.kind≠8∧t.kind≠9)(hlen:(simT t).length≤140737488355328):PC Tryz.prog 210 [ndV t] (.im (.string ⟨(simT t).toArray⟩)):=by
 obtain⟨h1,_⟩:=iD hs
 obtain⟨k,w,n,e,l,el,cs⟩:=t
 simp only[Nd.kind]at h1 hk
 have:k=1∨k=2∨k=3∨k=4∨k=5∨k=12∨k=13∨k=10∨k=11∨k=14∨k=15:=by omega
 rcases this with rfl|rfl|rfl|rfl|rfl|rfl|rfl|rfl|rfl|rfl|rfl
 ·exact BD w n e l el cs hf hs hlen
 ·exact BC w n e l el cs hf hs hlen
 ·exact BB w n e l el cs hf hs hlen
 ·exact BA w n e l el cs hf hs hlen
 ·exact AZ w n e l el cs hf hs hlen
 ·exact Tl w n e l el cs hf hs hlen
 ·exact Tj w n e l el cs hf hs hlen
 ·exact Tn w n e l el cs hf hs hlen
 ·exact Tm w n e l el cs hf hs hlen
 ·exact Ti w n e l el cs hf hs hlen
 ·exact Th w n e l el cs hf hs hlen
end Go.Proofs.YtmbmmckagcdapaaGreatDoor
namespace Go.Proofs.YtmbmmckagcdapaaGreatDoor
inductive TyF:Int→Int→Int→List Ty→List Ty→Prop
 | unk:TyF 0 0 0 [] []
 | any:TyF 6 0 0 [] []
 | num (k s:Int) (hk:k=1∨k=2) (hs:s=1∨s=2∨s=4):TyF k s 0 [] []
 | ptr (e:Ty):TyF 3 0 0 [e] []
 | arr (c:Int) (e:Ty) (hc:1≤c∧c≤65536):TyF 4 0 c [e] []
 | str (fs:List Ty):TyF 5 0 0 [] fs
theorem Ji{k s c:Int}{es fs:List Ty}(h:base k s c es.length fs.length=true):TyF k s c es fs:=by
 unfold base at h
 by_cases h1:(k==0||k==6)=true
 ·rw[if_pos h1]at h
  simp at h h1;obtain⟨⟨⟨rfl,rfl⟩,rfl⟩,rfl⟩:=h;rcases h1 with rfl|rfl
  ·exact .unk
  ·exact .any
 rw[if_neg h1]at h
 by_cases h2:(k==1||k==2)=true
 ·rw[if_pos h2]at h
  simp at h h2;obtain⟨⟨⟨hs,rfl⟩,rfl⟩,rfl⟩:=h;exact .num k s h2 (by omega)
 rw[if_neg h2]at h
 by_cases h3:(k==3)=true
 ·rw[if_pos h3]at h
  simp at h h3;obtain⟨⟨⟨rfl,rfl⟩,he⟩,rfl⟩:=h;subst h3;obtain⟨e,rfl⟩:=List.length_eq_one_iff.1 he;exact .ptr e
 rw[if_neg h3]at h
 by_cases h4:(k==4)=true
 ·rw[if_pos h4]at h
  simp at h h4;obtain⟨⟨⟨⟨rfl,hc1⟩,hc2⟩,he⟩,rfl⟩:=h;subst h4;obtain⟨e,rfl⟩:=List.length_eq_one_iff.1 he;exact .arr c e ⟨hc1,hc2⟩
 rw[if_neg h4]at h
 by_cases h5:(k==5)=true
 ·rw[if_pos h5]at h
  simp at h h5;obtain⟨⟨rfl,rfl⟩,rfl⟩:=h;subst h5;exact .str fs
 rw[if_neg h5]at h
 cases h
def Ha(k s:Int):Bs:=(if k=1 then [105,110,116]else [117,105,110,116])++(if s=1 then [56]else if s=2 then [49,54]else [51,50])
def pcK(p:Int×List Tk):List Tk:=nuT p.1.toNat::opT [58]::p.2
def tlK:List (Int×List Tk)→List Tk
 | []=>[]
 | p::r=>opT [44]::(pcK p++tlK r)
def flK:List (Int×List Tk)→List Tk
 | []=>[]
 | p::r=>pcK p++tlK r
def WG(t:Ty)(es fs:List (List Tk)):List Tk :=
 if t.kind=0 then [opT [63]]else if t.kind=6 then [idT [97,110,121]]else if t.kind=1∨t.kind=2 then [idT (Ha t.kind t.size)]
 else if t.kind=3 then opT [42]::es.headD []else if t.kind=4 then opT [91]::nuT t.count.toNat::opT [93]::es.headD []
 else opT [123]::(flK ((t.fields.map Ty.off).zip fs)++[opT [125]])
def tyK:Ty→List Tk:=Ty.para WG
theorem lR(o k s c:Int)(es fs:List Ty):tyK (.mk o k s c es fs) =
  if k=0 then [opT [63]]else if k=6 then [idT [97,110,121]]else if k=1∨k=2 then [idT (Ha k s)]
  else if k=3 then opT [42]::(es.map tyK).headD []else if k=4 then opT [91]::nuT c.toNat::opT [93]::(es.map tyK).headD []
  else opT [123]::(flK (fs.map fun f=>(f.off,tyK f))++[opT [125]]):=by
 have e:tyK (.mk o k s c es fs)=WG (.mk o k s c es fs) (es.map tyK) (fs.map tyK):=Ty.para_mk _ o k s c es fs
 rw[e]
 have hz:(List.map Ty.off fs).zip (List.map tyK fs)=fs.map fun f=>(f.off,tyK f):=List.zip_map' ..
 rw[←hz]
 rfl
theorem TM:Lib.itoa 8=[56]:=by simp[Lib.itoa,Lib.decDigits]
theorem MT:Lib.itoa 16=[49,54]:=by simp[Lib.itoa,Lib.decDigits]
theorem MS:Lib.itoa 32=[51,50]:=by simp[Lib.itoa,Lib.decDigits]
theorem MJ{k s:Int}(hk:k=1∨k=2)(hs:s=1∨s=2∨s=4)(o:Int):txT (.mk o k s 0 [] [])=Ha k s:=by
 rw[rN]
 rcases hk with rfl|rfl<;>rcases hs with rfl|rfl|rfl<;>simp[Ha,TM,MT,MS]
theorem SZ{k s:Int}(hk:k=1∨k=2)(hs:s=1∨s=2∨s=4){r:Bs}{l:List Tk}(hr:nW r=true)(h:Sc r l):Sc (Ha k s++r) (idT (Ha k s)::l):=by
 rcases hk with rfl|rfl<;>rcases hs with rfl|rfl|rfl<;>exact Sc.id (by decide) (by decide) (by decide) (by decide) (by decide) hr h
theorem XA{k s:Int}(hk:k=1∨k=2)(hs:s=1∨s=2∨s=4):intR (Ha k s)=some (k,s):=by
 rcases hk with rfl|rfl<;>rcases hs with rfl|rfl|rfl<;>decide
def ScT(t:Ty):Prop:= ∀s l,nW s=true→Sc s l→Sc (txT t++s) (tyK t++l)
theorem Wf{fs:List Ty}(h: ∀i,i<fs.length→fok fs i=true): ∀f∈fs,0≤f.off∧f.off<65536:=by
 intro f hf
 obtain⟨i,hi,rfl⟩:=List.getElem_of_mem hf
 have:=h i hi
 unfold fok at this
 simp only[Bool.and_eq_true,decide_eq_true_eq]at this
 have e:(fs.map Ty.off).getD i 0=fs[i].off:=by simp[List.getD,hi]
 rw[e]at this
 exact this.1
theorem QJ{f:Ty}(hf:ScT f)(ho:0≤f.off∧f.off<65536){s:Bs}{l:List Tk}(hs:nW s=true)(h:Sc s l):Sc (pcT (f.off,txT f)++s) (pcK (f.off,tyK f)++l):=by
 unfold pcT pcK
 obtain⟨n,hn⟩: ∃n:Nat,f.off=n:=⟨f.off.toNat,by omega⟩
 simp only[hn,Int.toNat_natCast,List.append_assoc,List.cons_append,List.nil_append]
 exact Sc.itoa (by omega) rfl (Sc.op (by decide) (Sc.sp (hf s l hs h)))
theorem QI: ∀(r:List Ty),(∀f∈r,ScT f∧0≤f.off∧f.off<65536)→ ∀s l,nW s=true→Sc s l→Sc (((r.map fun f=>(f.off,txT f)).map fun q=>[44,32]++pcT q).flatten++s) (tlK (r.map fun f=>(f.off,tyK f))++l)
 | [],_,s,l,_,h=>h
 | f::r,hr,s,l,hs,h=>by
  have ih:=QI r (fun x hx=>hr x (by simp[hx])) s l hs h
  simp only[List.map_cons,List.flatten_cons,List.append_assoc,List.cons_append,List.nil_append,tlK];refine Sc.op (by decide) (Sc.sp (QJ (hr f (by simp)).1 (hr f (by simp)).2 ?_ ih))
  cases r with
  | nil=>exact hs
  | cons g r=>rfl
theorem WJ: ∀t:Ty,frm t=true→ScT t:=by
 intro t
 induction t using Ty.induct with
 | h o k s c es fs ie iff_ =>
 intro hf r l hr h
 obtain⟨hb,hfo,h1,h2⟩:=pH hf
 cases Ji hb with
 | unk=>rw[rN,lR];exact Sc.op (by decide) h
 | any=>rw[rN,lR];exact Sc.id (w:=[97,110,121]) (by decide) (by decide) (by decide) (by decide) (by decide) hr h
 | num k s hk hs =>
  rw[MJ hk hs,lR,if_neg (by omega),if_neg (by omega),if_pos hk]
  exact SZ hk hs hr h
 | ptr e =>
  rw[rN,lR];exact Sc.op (by decide) (ie e (by simp) (h2 e (by simp)) r l hr h)
 | arr c e hc =>
  have e1:txT (.mk o 4 0 c [e] [])=([91]++Lib.itoa c++[93])++txT e:=by rw[rN];rfl
  have e2:tyK (.mk o 4 0 c [e] [])=opT [91]::nuT c.toNat::opT [93]::tyK e:=by rw[lR];rfl
  obtain⟨n,rfl⟩: ∃n:Nat,c=n:=⟨c.toNat,by omega⟩
  rw[e1,e2];simp only[Int.toNat_natCast,List.append_assoc,List.cons_append,List.nil_append];exact Sc.op (by decide) (Sc.itoa (by omega) rfl (Sc.op (by decide) (ie e (by simp) (h2 e (by simp)) r l hr h)))
 | str fs =>
  have e1:txT (.mk o 5 0 0 [] fs)=[123]++fldT (fs.map fun f=>(f.off,txT f))++[125]:=by rw[rN];rfl
  have e2:tyK (.mk o 5 0 0 [] fs)=opT [123]::(flK (fs.map fun f=>(f.off,tyK f))++[opT [125]]):=by rw[lR];rfl
  have hoff:=Wf hfo;rw[e1,e2];simp only[List.append_assoc,List.cons_append,List.nil_append];refine Sc.op (by decide) ?_
  have hend:Sc (125::r) (opT [125]::l):=Sc.op (by decide) h
  cases fs with
  | nil=>exact hend
  | cons f fs =>
   show Sc ((pcT (f.off,txT f)++((fs.map fun f=>(f.off,txT f)).map fun q=>[44,32]++pcT q).flatten)++125::r) ((pcK (f.off,tyK f)++tlK (fs.map fun f=>(f.off,tyK f)))++opT [125]::l)
   rw[List.append_assoc,List.append_assoc];have H: ∀x∈f::fs,ScT x:=fun x hx=>iff_ x hx (h1 x hx)
   refine QJ (H f (by simp)) (hoff f (by simp)) ?_ (QI fs (fun x hx=>⟨H x (by simp[hx]),hoff x (by simp[hx])⟩) _ _ rfl hend)
   cases fs with
   | nil=>rfl
   | cons g fs=>rfl
section
variable {ts:List Tk}
def YY(ts:List Tk)(m:Md5)(a o:Nat)(z:Rs Ty):Prop:= ∃F,∀f,F≤f→tyM ts f m a o=some z
def RdT(ts:List Tk)(t:Ty):Prop:= ∀(n a o:Nat) (rest:List Tk),shal t n=true→o+n≤256→ts.drop a=tyK t++rest→ ∃t',YY ts .ty a o (.ok t' (a+(tyK t).length) o)∧tyV t'=tyV t
theorem Rw{a o n:Nat}{l:List Tk}(h:ts.drop a=nuT n::l):takM ts 3 a o=some (.ok (nuT n) (a+1) o):=DD h
theorem TZ{t' f:Ty}(h:tyV t'=tyV f){n:Int}(hn:n=f.off):fdV (t'.at_ n)=fdV f:=by
 subst hn
 rw[bP,bP]at h
 rw[lX,lX]
 injection h with h
 injection h with h1 h
 injection h with h2 h
 injection h with h3 h
 injection h with h4 h
 injection h with h5 h
 show V.ag [.im (.int .i64 f.off),.im (.int .i64 t'.kind),.im (.int .i64 t'.size),.im (.int .i64 t'.count),.sl (t'.elem.map tyV) .ro,.sl (t'.fields.map fdV) .ro]=_
 rw[h1,h2,h3,h4,h5]
theorem QL: ∀(fs:List Ty),(∀f∈fs,RdT ts f∧0≤f.off)→ ∀(n:Nat),(∀f∈fs,shal f n=true)→ ∀(acc:List Ty) (a o:Nat) (rest:List Tk),o+n≤256 →
  ts.drop a=(if acc.length=0 then flK (fs.map fun f=>(f.off,tyK f))else tlK (fs.map fun f=>(f.off,tyK f)))++opT [125]::rest →
  ∃fs',YY ts (.fl acc) a o (.ok (.mk 0 5 0 0 [] (acc++fs')) (a+(if acc.length=0 then flK (fs.map fun f=>(f.off,tyK f))else tlK (fs.map fun f=>(f.off,tyK f))).length+1) (o-1))∧fs'.map fdV=fs.map fdV
 | [],_,n,_,acc,a,o,rest,ho,hd=>by
  have e:(if acc.length=0 then flK (([]:List Ty).map fun f=>(f.off,tyK f))else tlK (([]:List Ty).map fun f=>(f.off,tyK f)))=[]:=by split<;>rfl
  rw[e]at hd ⊢;rw[List.nil_append]at hd;refine⟨[],⟨1,fun f hf=> ?_⟩,rfl⟩
  cases f with
  | zero=>omega
  | succ f =>
   rw[tyM,if_pos (by rw[eD hd];decide),Ak hd,bX,List.append_nil]
   rfl
 | g::fs,hR,n,hsh,acc,a,o,rest,ho,hd=>by
  obtain⟨hg,hoff⟩:=hR g (by simp)
  have main: ∀(a1:Nat),ts.drop a1=pcK (g.off,tyK g)++(tlK (fs.map fun f=>(f.off,tyK f))++opT [125]::rest) →
    ∃fs' F,(∀f,F≤f→(rb (takM ts 3 a1 o) fun n a o=>rb (expM ts [58] a o) fun _ a o=>rb (tyM ts f .ty a o) fun x a o=>tyM ts f (.fl (acc++[x.at_ n.n])) a o)=some (.ok (.mk 0 5 0 0 [] (acc++fs')) (a1+(pcK (g.off,tyK g)).length+(tlK (fs.map fun f=>(f.off,tyK f))).length+1) (o-1)))∧fs'.map fdV=(g::fs).map fdV:=by
   intro a1 h1;unfold pcK at h1;simp only[List.cons_append]at h1;have h2:=cA h1;have h3:=cA h2;obtain⟨t',⟨F,hF⟩,ht⟩:=hg n _ o _ (hsh g (by simp)) ho h3
   have h4:=jX h3;have hne: ¬(acc++[t'.at_ ((g.off.toNat:Nat):Int)]).length=0:=by simp
   obtain⟨fs',⟨G,hG⟩,hfs⟩:=QL fs (fun x hx=>hR x (by simp[hx])) n (fun x hx=>hsh x (by simp[hx])) (acc++[t'.at_ ((g.off.toNat:Nat):Int)]) _ o rest ho (by rw[if_neg hne];exact h4)
   rw[if_neg hne]at hG;refine⟨t'.at_ ((g.off.toNat:Nat):Int)::fs',F+G,fun f hf=> ?_,?_⟩
   ·rw[Rw h1,bX,jW h2,bX,hF f (by omega),bX]
    show tyM ts f (.fl (acc++[t'.at_ ((g.off.toNat:Nat):Int)])) _ _=_
    rw[hG f (by omega),List.append_assoc]
    show some _=some _
    congr 2
    simp only[pcK,List.length_cons];omega
   ·rw[List.map_cons,List.map_cons,hfs,TZ ht (by omega)]
  by_cases h0:acc.length=0
  ·rw[if_pos h0]at hd ⊢
   rw[List.map_cons]at hd ⊢;unfold flK at hd ⊢;rw[List.append_assoc]at hd;obtain⟨fs',F,hF,hfs⟩:=main a hd;refine⟨fs',⟨F+1,fun f hf=> ?_⟩,hfs⟩
   cases f with
   | zero=>omega
   | succ f =>
    have hs:sees ts a [125]=false:=by
     unfold pcK at hd;unfold sees;rw[cI hd];rfl
    rw[tyM,if_neg (by rw[hs];decide),if_neg (by omega)]
    show rb (takM ts 3 a o) _=_
    rw[hF f (by omega),List.length_append,Nat.add_assoc a]
  ·rw[if_neg h0]at hd ⊢
   rw[List.map_cons]at hd ⊢;unfold tlK at hd ⊢;rw[List.cons_append,List.append_assoc]at hd;obtain⟨fs',F,hF,hfs⟩:=main (a+1) (cA hd);refine⟨fs',⟨F+1,fun f hf=> ?_⟩,hfs⟩
   cases f with
   | zero=>omega
   | succ f =>
    rw[tyM,if_neg (by rw[eD hd];decide),if_pos (by omega),jW hd,bX,hF f (by omega)]
    show some _=some _
    congr 2
    simp only[List.length_cons,List.length_append];omega
theorem WM: ∀t:Ty,frm t=true→RdT ts t:=by
 intro t
 induction t using Ty.induct with
 | h o k s c es fs ie iff_ =>
 intro hf n a p rest hsh ho hd
 obtain⟨hb,hfo,h1,h2⟩:=pH hf
 rw[rS]at hsh
 simp only[Bool.and_eq_true,decide_eq_true_eq,List.all_eq_true]at hsh
 obtain⟨⟨hn1,se⟩,sf⟩:=hsh
 obtain⟨m,rfl⟩: ∃m,n=m+1:=⟨n-1,by omega⟩
 rw[show((m+1:Nat):Int)-1=(m:Int) by omega]at se sf
 cases Ji hb with
 | unk =>
  have hd:ts.drop a=opT [63]::rest:=by rw[hd,lR];rfl
  refine⟨.mk 0 0 0 0 [] [],⟨1,fun f hf=> ?_⟩,by rw[eB,eB]⟩
  cases f with
  | zero=>omega
  | succ f =>
   rw[tyM,if_neg (by rw[cI hd];decide),if_pos (by rw[eD hd];decide),lR]
   rfl
 | any =>
  have hd:ts.drop a=idT [97,110,121]::rest:=by rw[hd,lR];rfl
  refine⟨.mk 0 6 0 0 [] [],⟨1,fun f hf=> ?_⟩,by rw[eB,eB]⟩
  cases f with
  | zero=>omega
  | succ f =>
   rw[tyM,if_pos (by rw[cI hd];rfl),cI hd,lR]
   rfl
 | num k s hk hs =>
  have hK:tyK (.mk o k s 0 [] [])=[idT (Ha k s)]:=by rw[lR,if_neg (by omega),if_neg (by omega),if_pos hk]
  rw[hK]at hd ⊢;have hd:ts.drop a=idT (Ha k s)::rest:=hd;refine⟨.mk 0 k s 0 [] [],⟨1,fun f hf=> ?_⟩,by rw[eB,eB]⟩
  cases f with
  | zero=>omega
  | succ f =>
   rw[tyM,if_pos (by rw[cI hd];rfl),cI hd,show intR (idT (Ha k s)).text=some (k,s)from XA hk hs]
   rfl
 | ptr e =>
  have hK:tyK (.mk o 3 0 0 [e] [])=opT [42]::tyK e:=by rw[lR];rfl
  rw[hK]at hd ⊢;rw[List.cons_append]at hd;obtain⟨t',⟨F,hF⟩,ht⟩:=ie e (by simp) (h2 e (by simp)) m _ (p+1) rest (se e (by simp)) (by omega) (cA hd)
  refine⟨.mk 0 3 0 0 [t'] [],⟨F+1,fun f hf=> ?_⟩,by rw[eB,eB,List.map_cons,List.map_cons,ht]⟩
  cases f with
  | zero=>omega
  | succ f =>
   rw[tyM,if_neg (by rw[cI hd];decide),if_neg (by rw[eD hd];decide),if_pos (by rw[eD hd];decide),sF hd (by omega),bX,hF f (by omega),bX]
   show some _=some _
   congr 2<;>(simp only[List.length_cons]<;>omega)
 | arr c e hc =>
  have hK:tyK (.mk o 4 0 c [e] [])=opT [91]::nuT c.toNat::opT [93]::tyK e:=by rw[lR];rfl
  rw[hK]at hd ⊢;simp only[List.cons_append]at hd;have d2:=cA hd;have d3:=cA d2;obtain⟨t',⟨F,hF⟩,ht⟩:=ie e (by simp) (h2 e (by simp)) m _ (p+1) rest (se e (by simp)) (by omega) (cA d3)
  refine⟨.mk 0 4 0 ((c.toNat:Nat):Int) [t'] [],⟨F+1,fun f hf=> ?_⟩,by rw[eB,eB,List.map_cons,List.map_cons,ht,show((c.toNat:Nat):Int)=c by omega]⟩
  cases f with
  | zero=>omega
  | succ f =>
   rw[tyM,if_neg (by rw[cI hd];decide),if_neg (by rw[eD hd];decide),if_neg (by rw[eD hd];decide),if_pos (by rw[eD hd];decide),sF hd (by omega),bX,Rw d2,bX,jW d3,bX,hF f (by omega),bX]
   show some _=some _
   congr 2<;>(simp only[List.length_cons]<;>omega)
 | str fs =>
  have hK:tyK (.mk o 5 0 0 [] fs)=opT [123]::(flK (fs.map fun f=>(f.off,tyK f))++[opT [125]]):=by rw[lR];rfl
  rw[hK]at hd ⊢;simp only[List.cons_append,List.append_assoc,List.nil_append]at hd;have hoff:=Wf hfo;obtain⟨fs',⟨F,hF⟩,hfs⟩:=QL fs (fun f hf=>⟨iff_ f hf (h1 f hf),(hoff f hf).1⟩) m sf [] (a+1) (p+1) rest (by omega) (cA hd)
  refine⟨.mk 0 5 0 0 [] fs',⟨F+1,fun f hf=> ?_⟩,by rw[eB,eB,hfs]⟩
  cases f with
  | zero=>omega
  | succ f =>
   rw[tyM,if_neg (by rw[cI hd];decide),if_neg (by rw[eD hd];decide),if_neg (by rw[eD hd];decide),if_neg (by rw[eD hd];decide),if_pos (by rw[eD hd];decide),sF hd (by omega),bX,hF f (by omega)]
   show some _=some _
   congr 2
   show _+(flK (fs.map fun f=>(f.off,tyK f))).length+1=_
   simp only[List.length_cons,List.length_append,List.length_nil];omega
end
end Go.Proofs.YtmbmmckagcdapaaGreatDoor
