import Derived.Test.YtmbmmckagcdapaaGreatDoorU10
import Derived.Test.YtmbmmckagcdapaaGreatDoorU30
import Derived.Test.YtmbmmckagcdapaaGreatDoorU28
import Derived.Test.YtmbmmckagcdapaaGreatDoorU25
import Derived.KernelRfl
set_option linter.all false
namespace Go.Proofs.YtmbmmckagcdapaaGreatDoor
open Go.RowKit
def Pc(r:Bs):UInt8×Nat:=match escP r with
 | some (c,k)=>(c,k+1)
 | none=>(0,0)
theorem yO{r:Bs}{c:UInt8}{k:Nat}(h:escP r=some (c,k)):Pc r=(c,k+1):=by unfold Pc;rw[h]
theorem rA{r:Bs}(h:escP r=none):Pc r=(0,0):=by unfold Pc;rw[h]
theorem KS(x y:Nat)(hx:x<16)(hy:y<16):IntKind.u8.wrap (((16*x+y:Nat)):Int)=(((UInt8.ofNat (16*x+y)).toNat:Nat):Int):=by
 rw[IntWalk.u8_in _ (by omega),UInt8.toNat_ofNat_of_lt' (by show 16*x+y<256;omega)]
theorem Cq{x y:UInt8}{r:Bs}:escP (120::x::y::r)=(match hexv x,hexv y with
  | some a,some b=>some (UInt8.ofNat (16*a+b),3)
  | _,_=>none):=by
 rw[escP,if_neg (by decide),if_pos (by decide),Lu]
 cases hexv x<;>cases hexv y<;>rfl
theorem Pb{r:Bs}(h:r.length<2):escP (120::r)=none:=by
 rw[escP,if_neg (by decide),if_pos (by decide)]
 match r,h with
 | [],_=>rfl
 | [a],_=>rfl
def eJ:=A5 @nQ @vP @nP @oZ @gB
set_option maxHeartbeats 2000000 in
theorem JW(s:Bs)(a:Nat)(ha:a<s.length)(hs:s.length≤4194304):PC Tryz.prog 224 [.im (.string ⟨(s).toArray⟩),(.im (.int .i64 ((a:Int))))] (.tu [.im (.int .u8 (((Pc (s.drop (a+1))).1.toNat:Int))),(.im (.int .i64 (((Pc (s.drop (a+1))).2:Int))))]):=by
 have w1:IntKind.i64.wrap ((a:Int)+1)=((a+1:Nat):Int):=by rw[cM (by omega)];omega
 have w2:IntKind.i64.wrap ((a:Int)+2)=((a+2:Nat):Int):=by rw[cM (by omega)];omega
 have w3:IntKind.i64.wrap ((a:Int)+3)=((a+3:Nat):Int):=by rw[cM (by omega)];omega
 by_cases h1:a+1<s.length
 case neg =>
  have e1:((a+1:Nat):Int)≥(s.length:Int):=by omega
  rw[show s.drop (a+1)=[]from List.drop_eq_nil_of_le (by omega),show Pc []=(0,0)from rfl]
  refine PC.enter 68 Tryz.func224 rfl (by decide) rfl rfl (s:=[(0,.im (.string ⟨(s).toArray⟩)),(1,(.im (.int .i64 ((a:Int)))))]) (by rfl) ?_
  refine wG eJ (A3 BY w1 e1) ?_;refine aJ (rs:=[.tmp 4,.tmp 5]) rfl (by first|exact .inl rfl|exact .inr rfl) (finG eJ) ?_
  all_goals exact wkG aF
 have e1: ¬((a+1:Nat):Int)≥(s.length:Int):=by omega
 have g1:s[a+1]? =some s[a+1]:=List.getElem?_eq_getElem h1
 have d1:s.drop (a+1)=s[a+1]::s.drop (a+2):=List.drop_eq_getElem_cons h1
 generalize s[a+1]=c at g1 d1
 by_cases h34:c.toNat=34∨c.toNat=92
 ·rw[d1,yO (show escP (c::s.drop (a+2))=some (c,1) by rw[escP,if_pos h34])]
  by_cases k:c.toNat=34
  ·have e2:(c.toNat:Int)=34:=by omega
   rw[e2];refine PC.enter 68 Tryz.func224 rfl (by decide) rfl rfl (s:=[(0,.im (.string ⟨(s).toArray⟩)),(1,(.im (.int .i64 ((a:Int)))))]) (by rfl) ?_
   refine wG eJ (A5 BY w1 e1 g1 e2) ?_;refine aJ (rs:=[.tmp 4,.tmp 5]) rfl (by first|exact .inl rfl|exact .inr rfl) (finG eJ) ?_
   all_goals exact wkG aF
  ·have e2: ¬(c.toNat:Int)=34:=by omega
   have e3:(c.toNat:Int)=92:=by omega
   rw[e3];refine PC.enter 68 Tryz.func224 rfl (by decide) rfl rfl (s:=[(0,.im (.string ⟨(s).toArray⟩)),(1,(.im (.int .i64 ((a:Int)))))]) (by rfl) ?_
   refine wG eJ (A6 BY w1 e1 g1 e2 e3) ?_;refine aJ (rs:=[.tmp 4,.tmp 5]) rfl (by first|exact .inl rfl|exact .inr rfl) (finG eJ) ?_
   all_goals exact wkG aF
 have e2: ¬(c.toNat:Int)=34:=by omega
 have e3: ¬(c.toNat:Int)=92:=by omega
 by_cases h120:c.toNat=120
 case neg =>
  have e4: ¬(c.toNat:Int)=120:=by omega
  rw[d1,rA (show escP (c::s.drop (a+2))=none by rw[escP,if_neg h34,if_neg h120])]
  refine PC.enter 68 Tryz.func224 rfl (by decide) rfl rfl (s:=[(0,.im (.string ⟨(s).toArray⟩)),(1,(.im (.int .i64 ((a:Int)))))]) (by rfl) ?_
  refine wG eJ (A7 BY w1 e1 g1 e2 e3 e4) ?_;refine aJ (rs:=[.tmp 4,.tmp 5]) rfl (by first|exact .inl rfl|exact .inr rfl) (finG eJ) ?_
  all_goals exact wkG aF
 have e4:(c.toNat:Int)=120:=by omega
 have hc:c=120:=toNat_inj h120
 by_cases h3:a+3<s.length
 case neg =>
  have e5:((a+3:Nat):Int)≥(s.length:Int):=by omega
  rw[d1,hc,rA (Pb (by rw[List.length_drop];omega))]
  refine PC.enter 68 Tryz.func224 rfl (by decide) rfl rfl (s:=[(0,.im (.string ⟨(s).toArray⟩)),(1,(.im (.int .i64 ((a:Int)))))]) (by rfl) ?_
  refine wG eJ (A9 BY w1 w3 e1 g1 e2 e3 e4 e5) ?_;refine aJ (rs:=[.tmp 4,.tmp 5]) rfl (by first|exact .inl rfl|exact .inr rfl) (finG eJ) ?_
  all_goals exact wkG aF
 have e5: ¬((a+3:Nat):Int)≥(s.length:Int):=by omega
 have g2:s[a+2]? =some s[a+2]:=List.getElem?_eq_getElem (by omega)
 have g3:s[a+3]? =some s[a+3]:=List.getElem?_eq_getElem h3
 have d2:s.drop (a+2)=s[a+2]::s.drop (a+3):=List.drop_eq_getElem_cons (by omega)
 have d3:s.drop (a+3)=s[a+3]::s.drop (a+4):=List.drop_eq_getElem_cons h3
 have qx:=Ai s[a+2]
 have qy:=Ai s[a+3]
 rw[d1,hc,d2,d3]
 generalize s[a+2]=x at g2 qx
 generalize s[a+3]=y at g3 qy
 cases hx:hexv x with
 | none =>
  rw[mJ hx]at qx;rw[rA (by rw[Cq,hx])]
  refine PC.enter 68 Tryz.func224 rfl (by decide) rfl rfl (s:=[(0,.im (.string ⟨(s).toArray⟩)),(1,(.im (.int .i64 ((a:Int)))))]) (by rfl) ?_
  refine wG eJ (A12 BY w1 w2 w3 e1 g1 g2 g3 e2 e3 e4 e5) ?_;refine AR.callP qx TI aF ?_;refine goG eJ (A6 BY w1 w2 w3 g2 g3) ?_;refine wG eJ TI ?_;refine aJ (rs:=[.tmp 4,.tmp 5]) rfl (by first|exact .inl rfl|exact .inr rfl) (finG eJ) ?_
  all_goals exact wkG aF
 | some u =>
 have hu:=Ae hx
 have hu0: ¬(u:Int)<0:=by omega
 rw[kL hx]at qx
 cases hy:hexv y with
 | none =>
  rw[mJ hy]at qy;rw[rA (by rw[Cq,hx,hy])]
  refine PC.enter 68 Tryz.func224 rfl (by decide) rfl rfl (s:=[(0,.im (.string ⟨(s).toArray⟩)),(1,(.im (.int .i64 ((a:Int)))))]) (by rfl) ?_
  refine wG eJ (A12 BY w1 w2 w3 e1 g1 g2 g3 e2 e3 e4 e5) ?_;refine AR.callP qx TI aF ?_;refine goG eJ (A7 BY w1 w2 w3 g2 g3 hu0) ?_;refine AR.callP qy TI aF ?_;refine goG eJ TI ?_;refine wG eJ TI ?_;refine aJ (rs:=[.tmp 4,.tmp 5]) rfl (by first|exact .inl rfl|exact .inr rfl) (finG eJ) ?_
  all_goals exact wkG aF
 | some v =>
  have hv:=Ae hy;have hv0: ¬(v:Int)<0:=by omega
  rw[kL hy]at qy;rw[yO (by rw[Cq,hx,hy])]
  have m1:IntKind.i64.wrap (16*(u:Int))=((16*u:Nat):Int):=by rw[cM (by omega)];omega
  have m2:IntKind.i64.wrap (((16*u:Nat):Int)+(v:Int))=((16*u+v:Nat):Int):=by rw[cM (by omega)];omega
  have m3:=KS u v hu hv;refine PC.enter 68 Tryz.func224 rfl (by decide) rfl rfl (s:=[(0,.im (.string ⟨(s).toArray⟩)),(1,(.im (.int .i64 ((a:Int)))))]) (by rfl) ?_
  refine wG eJ (A12 BY w1 w2 w3 e1 g1 g2 g3 e2 e3 e4 e5) ?_;refine AR.callP qx TI aF ?_;refine goG eJ (A7 BY w1 w2 w3 g2 g3 hu0) ?_;refine AR.callP qy TI aF ?_;refine goG eJ (AI hu0 hv0) ?_;refine wdG eJ (A8 BY w1 w2 w3 g2 g3 hu0 hv0) ?_;refine AR.callP qx TI aF ?_;refine goG eJ (A7 BY w1 w2 w3 g2 g3 m1) ?_;refine AR.callP qy TI aF ?_;refine goG eJ (A3 m1 m2 m3) ?_;refine wdG eJ (A3 m1 m2 m3) ?_;refine aJ (rs:=[.tmp 4,.tmp 5]) rfl (by first|exact .inl rfl|exact .inr rfl) (finG eJ) ?_
  all_goals exact wkG aF
def Kp(s:Bs)(a:Nat):Bs×Int:=match quoP (s.drop (a+1))with
 | some (t,n)=>(t,((a+1+n:Nat):Int))
 | none=>([], -1)
theorem Fe{s:Bs}{a n:Nat}{t:Bs}(h:quoP (s.drop (a+1))=some (t,n)):Kp s a=(t,((a+1+n:Nat):Int)):=by unfold Kp;rw[h]
theorem qW{s:Bs}{a:Nat}(h:quoP (s.drop (a+1))=none):Kp s a=([], -1):=by unfold Kp;rw[h]
def iU:=A9 @Px @BJ @sK @uO @yY @yX @oZ @uM @gB
set_option maxHeartbeats 2000000 in
theorem JK(s:Bs)(a:Nat)(ha:a<s.length)(hs:s.length≤4194304):PC Tryz.prog 171 [.im (.string ⟨(s).toArray⟩),(.im (.int .i64 ((a:Int))))] (.tu [.im (.string ⟨((Kp s a).1).toArray⟩),(.im (.int .i64 ((Kp s a).2)))]):=by
 have w1:IntKind.i64.wrap ((a:Int)+1)=((a+1:Nat):Int):=by rw[cM (by omega)];omega
 refine PC.enter 66 Tryz.func171 rfl (by decide) rfl rfl (s:=[(0,.im (.string ⟨(s).toArray⟩)),(1,(.im (.int .i64 ((a:Int)))))]) (by rfl) ?_
 refine wG iU w1 ?_
 refine bH ?_
 refine ALp.ghost 6 [] .nl 5 1 ?_
 suffices H: ∀(k p:Nat) (A:Bs),s.length-p=k→a+1≤p→p≤s.length→A.length≤p→(quoP (s.drop (a+1))=(quoP (s.drop p)).map fun x=>(A++x.1,x.2+(p-(a+1))))→ALp _ _ _ _ _ ⟨dn 66 [(0,.im (.string ⟨(s).toArray⟩)),(1,(.im (.int .i64 ((((p):Nat):Int))))),(6,.sl (A.map byB) (.own 0))],ofl [.tip 5 1 A.length]⟩ by
  refine ALp.cutP 1 [(0,.im (.string ⟨(s).toArray⟩)),(1,(.im (.int .i64 (((a+1:Nat):Int))))),(6,.sl (([]:Bs).map byB) (.own 0))] [.tip 5 1 ([]:Bs).length] aF ?_;exact H _ (a+1) [] rfl (Nat.le_refl _) ha (Nat.zero_le _) (by cases quoP (s.drop (a+1))<;>simp)
 intro k
 induction k using Nat.strongRecOn with
 | _ k ih =>
 intro p A hk hap hpl hA hq
 refine cD ?_
 by_cases hlt:p<s.length
 case neg =>
  obtain rfl:p=s.length:=by omega
  have hn: ¬(s.length:Int)<(s.length:Int):=by omega
  have hn2:(s.length:Int)≥(s.length:Int):=by omega
  rw[qW (by rw[hq,List.drop_length];rfl)]
  clear ih;refine wG iU (A3 BY hn hn2) ?_;refine aJ (rs:=[.tmp 4,.tmp 5]) rfl (by first|exact .inl rfl|exact .inr rfl) (finG iU) ?_
  all_goals exact wkG aF
 have hlt':(p:Int)<(s.length:Int):=by omega
 have hge: ¬(p:Int)≥(s.length:Int):=by omega
 have hw1:=bD hlt (by omega)
 have hg:s[p]? =some s[p]:=List.getElem?_eq_getElem hlt
 have hd:s.drop p=s[p]::s.drop (p+1):=List.drop_eq_getElem_cons hlt
 generalize s[p]=c at hg hd
 rw[hd,Fd]at hq
 by_cases h34:c.toNat=34
 ·have e1:(c.toNat:Int)=34:=by omega
  rw[if_pos h34]at hq;rw[Fe (t:=A) (n:=p-a) (by rw[hq];simp;omega),show a+1+(p-a)=p+1 by omega]
  have hb:=nA A;clear ih;refine wG iU (A7 BY hlt' hg e1 hge hb hw1) ?_;refine aJ (rs:=[.tmp 4,.tmp 5]) rfl (by first|exact .inl rfl|exact .inr rfl) (finG iU) ?_
  all_goals exact wkG aF
 have e1: ¬(c.toNat:Int)=34:=by omega
 rw[if_neg h34]at hq
 by_cases h92:c.toNat=92
 ·have e2:(c.toNat:Int)=92:=by omega
  have e3: ¬(c.toNat:Int)<32:=by omega
  have e4: ¬(c.toNat:Int)>126:=by omega
  rw[if_pos h92]at hq;have qe:=JW s p hlt hs;cases he:escP (s.drop (p+1))with
  | none =>
   rw[rA he]at qe;rw[he]at hq;rw[qW (by rw[hq];rfl)]
   clear ih;refine wG iU (A7 BY hlt' hg e1 e2 e3 e4) ?_;refine AR.callP qe TI aF ?_;refine goG iU TI ?_;refine wG iU TI ?_;refine aJ (rs:=[.tmp 4,.tmp 5]) rfl (by first|exact .inl rfl|exact .inr rfl) (finG iU) ?_
   all_goals exact wkG aF
  | some xn =>
  obtain⟨x,n⟩:=xn;rw[yO he]at qe;have hn:=wR he;rw[List.length_drop]at hn;rw[he]at hq;have hn0: ¬((n+1:Nat):Int)=0:=by omega
  have hw2:IntKind.i64.wrap ((p:Int)+((n+1:Nat):Int))=((p+(n+1):Nat):Int):=by rw[cM (by omega)];omega
  obtain⟨B,hB⟩: ∃B,B=A++[x]:=⟨_,rfl⟩
  have hAs:A.map byB++[V.im (.int .u8 x.toNat)]=B.map byB:=by rw[hB,List.map_append];rfl
  have hAl:A.length+1=B.length:=by rw[hB];simp
  have hbl:B.length≤140737488355328:=by omega
  have hI:=ih (s.length-(p+(n+1))) (by omega) (p+(n+1)) B rfl (by omega) (by omega) (by omega) (by
   rw[hq];dsimp only;rw[List.drop_drop,show p+1+n=p+(n+1) by omega,hB]
   cases quoP (s.drop (p+(n+1)))with
   | none=>rfl
   | some y=>obtain⟨t,k⟩:=y;simp;omega)
  clear ih hB;refine wG iU (A7 BY hlt' hg e1 e2 e3 e4) ?_;refine AR.callP qe TI aF ?_;refine goG iU TI ?_;refine wG iU (A7 hn0 hAs hAl hbl hw2 @List.length_map.{0,0} @Nat.mul_one) ?_;refine ALp.cutP 1 [(0,.im (.string ⟨(s).toArray⟩)),(1,(.im (.int .i64 (((p+(n+1):Nat):Int))))),(6,.sl (B.map byB) (.own 0))] [.tip 5 1 B.length] aF ?_;exact hI
 have e2: ¬(c.toNat:Int)=92:=by omega
 rw[if_neg h92]at hq
 by_cases hlo:c.toNat<32
 ·have e3:(c.toNat:Int)<32:=by omega
  rw[if_pos (.inl hlo)]at hq;rw[qW (by rw[hq];rfl)]
  clear ih;refine wG iU (A6 BY hlt' hg e1 e2 e3) ?_;refine aJ (rs:=[.tmp 4,.tmp 5]) rfl (by first|exact .inl rfl|exact .inr rfl) (finG iU) ?_
  all_goals exact wkG aF
 have e3: ¬(c.toNat:Int)<32:=by omega
 by_cases hhi:126<c.toNat
 ·have e4:(c.toNat:Int)>126:=by omega
  rw[if_pos (.inr hhi)]at hq;rw[qW (by rw[hq];rfl)]
  clear ih;refine wG iU (A7 BY hlt' hg e1 e2 e3 e4) ?_;refine aJ (rs:=[.tmp 4,.tmp 5]) rfl (by first|exact .inl rfl|exact .inr rfl) (finG iU) ?_
  all_goals exact wkG aF
 have e4: ¬(c.toNat:Int)>126:=by omega
 rw[if_neg (by omega)]at hq
 obtain⟨B,hB⟩: ∃B,B=A++[c]:=⟨_,rfl⟩
 have hAs:A.map byB++[V.im (.int .u8 c.toNat)]=B.map byB:=by rw[hB,List.map_append];rfl
 have hAl:A.length+1=B.length:=by rw[hB];simp
 have hbl:B.length≤140737488355328:=by omega
 have hI:=ih (s.length-(p+1)) (by omega) (p+1) B rfl (by omega) (by omega) (by omega) (by
  rw[hq,hB];cases quoP (s.drop (p+1))with
  | none=>rfl
  | some y=>obtain⟨t,k⟩:=y;simp;omega)
 clear ih hB
 refine wG iU (A13 BY hlt' hg e1 e2 e3 e4 hAs hAl hbl hw1 @List.length_map.{0,0} @Nat.mul_one) ?_
 refine ALp.cutP 1 [(0,.im (.string ⟨(s).toArray⟩)),(1,(.im (.int .i64 (((p+1:Nat):Int))))),(6,.sl (B.map byB) (.own 0))] [.tip 5 1 B.length] aF ?_
 exact hI
def opsR:List Bs:=[[62,62,115],[61,61],[33,61],[60,60],[60,115],[62,62]]++ops1.map fun c=>[c]
def tstR(x op:Bs):Bool:=pre op x&&((op !=[60,115]&&op !=[62,62,115])||nW (x.drop op.length))
theorem CY:[V.im (.string ⟨#[62,62,115]⟩),V.im (.string ⟨#[61,61]⟩),V.im (.string ⟨#[33,61]⟩),V.im (.string ⟨#[60,60]⟩),V.im (.string ⟨#[60,115]⟩),V.im (.string ⟨#[62,62]⟩),V.im (.string ⟨#[40]⟩),V.im (.string ⟨#[41]⟩),V.im (.string ⟨#[123]⟩),V.im (.string ⟨#[125]⟩),V.im (.string ⟨#[91]⟩),V.im (.string ⟨#[93]⟩),V.im (.string ⟨#[44]⟩),V.im (.string ⟨#[59]⟩),V.im (.string ⟨#[58]⟩),V.im (.string ⟨#[63]⟩),V.im (.string ⟨#[61]⟩),V.im (.string ⟨#[43]⟩),V.im (.string ⟨#[45]⟩),V.im (.string ⟨#[42]⟩),V.im (.string ⟨#[38]⟩),V.im (.string ⟨#[124]⟩),V.im (.string ⟨#[94]⟩),V.im (.string ⟨#[33]⟩),V.im (.string ⟨#[60]⟩)]=opsR.map sV:=rfl
theorem Lt(c:UInt8)(r:Bs)(hc: ∀d:UInt8,tstR (c::r) [d]=(d==c)): ∀l:Bs,(l.map fun c=>[c]).find? (tstR (c::r))=if l.contains c then some [c]else none
 | []=>rfl
 | d::l=>by
  rw[List.map_cons,List.find?_cons,hc d]
  by_cases h:d=c
  ·subst h
   simp
  ·have h1:(d==c)=false:=beq_eq_false_iff_ne.2 h
   have h2:(c==d)=false:=beq_eq_false_iff_ne.2 fun e=>h e.symm
   rw[h1];simp only;rw[Lt c r hc l,List.contains_cons,h2,Bool.false_or]
theorem CC(c:UInt8)(r:Bs)(d:UInt8):tstR (c::r) [d]=(d==c):=by
 unfold tstR
 have h1:(([d]:Bs)!=[60,115])=true:=by simp[bne_iff_ne]
 have h2:(([d]:Bs)!=[62,62,115])=true:=by simp[bne_iff_ne]
 rw[h1,h2]
 simp[pre,List.isPrefixOf]
theorem Hg{p q x:Bs}{a b:UInt8}{i:Nat}(hp:p[i]? =some a)(hq:q[i]? =some b)(hab:a≠b)(h:pre p x=true):pre q x=false:=by
 rw[←Bool.not_eq_true]
 intro h2
 obtain⟨u,rfl⟩:=jC.1 h
 obtain⟨v,hv⟩:=jC.1 h2
 have h3:(p++u)[i]? =some a:=by rw[List.getElem?_append_left (List.getElem?_eq_some_iff.1 hp).1,hp]
 rw[hv,List.getElem?_append_left (List.getElem?_eq_some_iff.1 hq).1,hq]at h3
 exact hab (Option.some.inj h3).symm
theorem Ub(x:Bs):opsR.find? (tstR x)=symP x:=by
 have hs:(ops1.map fun c=>[c]).find? (tstR x)=match x with
   | []=>none
   | c::_=>if ops1.contains c then some [c]else none:=by
  cases x with
  | nil=>decide
  | cons c r=>exact Lt c r (CC c r) ops1
 have t1:tstR x [62,62,115]=(pre [62,62,115] x&&nW (x.drop 3)):=by
  unfold tstR;rw[show(([62,62,115]:Bs)!=[60,115]&&([62,62,115]:Bs)!=[62,62,115])=false from rfl,Bool.false_or]
  rfl
 have t2:tstR x [60,115]=(pre [60,115] x&&nW (x.drop 2)):=by
  unfold tstR;rw[show(([60,115]:Bs)!=[60,115]&&([60,115]:Bs)!=[62,62,115])=false from rfl,Bool.false_or]
  rfl
 have t3: ∀p:Bs,(p !=[60,115]&&p !=[62,62,115])=true→tstR x p=pre p x:=fun p h=>by
  unfold tstR;rw[h,Bool.true_or,Bool.and_true]
 unfold opsR
 rw[List.find?_append,hs]
 simp only[List.find?_cons,List.find?_nil,t1,t2,t3 [61,61] rfl,t3 [33,61] rfl,t3 [60,60] rfl,t3 [62,62] rfl]
 unfold symP
 by_cases h1:(pre [62,62,115] x&&nW (x.drop 3))=true
 ·simp[h1]
 by_cases h2:(pre [60,115] x&&nW (x.drop 2))=true
 ·have hp:=(Bool.and_eq_true _ _▸h2).1
  have e1:=Hg (i:=0) (p:=[60,115]) (q:=[61,61]) rfl rfl (by decide) hp
  have e2:=Hg (i:=0) (p:=[60,115]) (q:=[33,61]) rfl rfl (by decide) hp
  have e3:=Hg (i:=1) (p:=[60,115]) (q:=[60,60]) rfl rfl (by decide) hp
  simp[h1,h2,e1,e2,e3]
 by_cases h3:pre [61,61] x=true
 ·simp[h1,h2,h3]
 by_cases h4:pre [33,61] x=true
 ·simp[h1,h2,h3,h4]
 by_cases h5:pre [60,60] x=true
 ·simp[h1,h2,h3,h4,h5]
 by_cases h6:pre [62,62] x=true
 ·simp[h1,h2,h3,h4,h5,h6]
 simp[h1,h2,h3,h4,h5,h6]
 cases x<;>rfl
theorem II(y:Bs):nW y=decide ((y.takeWhile isW).length=0):=by
 cases y with
 | nil=>rfl
 | cons c r =>
  unfold nW;rw[List.takeWhile_cons];cases h:isW c with
  | true=>simp[h]
  | false=>simp[h]
theorem STC:type_of%(A9 @wD @tE @wB @wA @wC @tF @List.getElem?_map.{0,0} @List.length_map.{0,0} @Int.natCast_nonneg):=STB
def FT:=A3 @sL @kS @dR
theorem MB:PC Tryz.prog 225 [] (.sl (opsR.map sV) .full):=by
 refine PC.enter 2 Tryz.func225 rfl (by decide) rfl rfl (s:=[]) (by rfl) ?_
 refine wG FT CY ?_
 exact aM
theorem IA: ∀op∈opsR,1≤op.length∧op.length≤3:=by decide
theorem Xx:opsR.length=25:=rfl
def fC:=A4 @eF @kS @dR @gB
set_option maxHeartbeats 2000000 in
theorem MC(s:Bs)(a:Nat)(ha:a≤s.length)(hs:s.length≤4194304):PC Tryz.prog 172 [.im (.string ⟨(s).toArray⟩),(.im (.int .i64 ((a:Int))))] (.im (.string ⟨((symP (s.drop a)).getD []).toArray⟩)):=by
 rw[←Ub]
 have hdl:(s.drop a).length=s.length-a:=List.length_drop
 have hdr: ∀k,(s.drop a).drop k=s.drop (a+k):=fun k=>List.drop_drop
 obtain⟨x,hx⟩: ∃x,x=s.drop a:=⟨_,rfl⟩
 rw[←hx]at hdl hdr ⊢
 have qo:=MB
 have hol:=IA
 have h25:=Xx
 generalize opsR=L at qo hol h25
 refine PC.enter 60 Tryz.func172 rfl (by decide) rfl rfl (s:=[(0,.im (.string ⟨(s).toArray⟩)),(1,(.im (.int .i64 ((a:Int)))))]) (by rfl) ?_
 refine wG fC TI ?_
 refine AR.callP qo TI (AI aF aT) ?_
 refine goG fC TI ?_
 refine wG fC TI ?_
 refine bH ?_
 refine ALp.cutP 0 [(0,.im (.string ⟨(s).toArray⟩)),(1,(.im (.int .i64 ((a:Int))))),(5,.sl (L.map sV) .full),(6,(.im (.int .i64 ((((0):Nat):Int)))))] [] (AI aF aT) ?_
 refine ALp.upto L.length (fun m=>L.find? (tstR x)=(L.drop m).find? (tstR x)) (fun m=>⟨dn 60 [(0,.im (.string ⟨(s).toArray⟩)),(1,(.im (.int .i64 ((a:Int))))),(5,.sl (L.map sV) .full),(6,(.im (.int .i64 ((((m):Nat):Int)))))],ofl []⟩) ?_ 0 (Nat.zero_le _) rfl
 intro m hm hI hnext
 by_cases hlt:m<L.length
 case neg =>
  obtain rfl:m=L.length:=by omega
  have hn: ¬(L.length:Int)<(L.length:Int):=by omega
  rw[show(L.find? (tstR x)).getD []=[] by rw[hI,List.drop_length];rfl]
  clear hnext hI;refine wG fC (AI STC hn) ?_;exact aM
 have hlt':(m:Int)<(L.length:Int):=by omega
 have hm1:=bD hlt (by omega)
 have hg:L[m]? =some L[m]:=List.getElem?_eq_getElem hlt
 have hd:L.drop m=L[m]::L.drop (m+1):=List.drop_eq_getElem_cons hlt
 have hl:=hol L[m] (List.getElem_mem hlt)
 rw[hd,List.find?_cons]at hI
 generalize L[m]=op at hg hI hl
 have hw:IntKind.i64.wrap ((a:Int)+(op.length:Int))=((a+op.length:Nat):Int):=by rw[cM (by omega)];omega
 have hno:tstR x op=false→_:=fun h=>hnext (m+1) (by omega) (by omega) (by rw[hI,h])
 have hyes:tstR x op=true→(L.find? (tstR x)).getD []=op:=fun h=>by rw[hI,h];rfl
 clear hnext hI
 have hpre:=wI (p:=op) (s:=x)
 by_cases hto:a+op.length≤s.length
 case neg =>
  have e1:((a+op.length:Nat):Int)>(s.length:Int):=by omega
  have hn2:=hno (by unfold tstR;rw[hpre,decide_eq_false (by omega),Bool.false_and,Bool.false_and])
  clear hno hyes;refine wG fC (A5 BY STC hlt' hg hw) ?_;refine wdG fC (A7 BY STC hlt' hg hw e1 hm1) ?_;refine ALp.cutP 0 [(0,.im (.string ⟨(s).toArray⟩)),(1,(.im (.int .i64 ((a:Int))))),(5,.sl (L.map sV) .full),(6,(.im (.int .i64 ((((m+1):Nat):Int)))))] [] (AI aF aT) ?_;exact hn2
 have e1: ¬((a+op.length:Nat):Int)>(s.length:Int):=by omega
 rw[decide_eq_true (show op.length≤x.length by omega),Bool.true_and]at hpre
 have le1:(a:Int)≤((a+op.length:Nat):Int):=by omega
 have le2:((a+op.length:Nat):Int)≤(s.length:Int):=by omega
 have sb:a+op.length-a=op.length:=by omega
 cases ht:(x.take op.length==op)with
 | false =>
  have hn2:=hno (by unfold tstR;rw[hpre,ht,Bool.false_and])
  rw[hx]at ht;clear hno hyes;refine wG fC (A5 BY STC hlt' hg hw) ?_;refine wdG fC (A12 BY GDS STC hlt' hg hw e1 le1 le2 sb ht hm1) ?_;refine ALp.cutP 0 [(0,.im (.string ⟨(s).toArray⟩)),(1,(.im (.int .i64 ((a:Int))))),(5,.sl (L.map sV) .full),(6,(.im (.int .i64 ((((m+1):Nat):Int)))))] [] (AI aF aT) ?_;exact hn2
 | true =>
 rw[ht]at hpre
 have htx:=ht
 rw[hx]at ht
 have qw:=Gd s (a+op.length) hto hs
 have hnw:=II (x.drop op.length)
 rw[hdr]at hnw
 have key:tstR x op=((op !=[60,115]&&op !=[62,62,115])||nW (s.drop (a+op.length))):=by unfold tstR;rw[hpre,Bool.true_and,hdr]
 cases b1:(op==[60,115])with
 | false =>
  cases b2:(op==[62,62,115])with
  | false =>
   rw[hyes (by rw[key];unfold bne;rw[b1,b2];rfl)]
   clear hno hyes key;refine wG fC (A5 BY STC hlt' hg hw) ?_;refine wdG fC (A13 BY GDS STC hlt' hg hw e1 le1 le2 sb ht b1 b2) ?_;exact aM
  | true =>
   have key2:tstR x op=nW (s.drop (a+op.length)):=by rw[key];unfold bne;rw[b1,b2];rfl
   by_cases hz:((s.drop (a+op.length)).takeWhile isW).length=0
   ·rw[hz]at qw
    rw[hyes (by rw[key2,hnw];exact decide_eq_true hz)]
    clear hno hyes key key2 hnw;refine wG fC (A5 BY STC hlt' hg hw) ?_;refine wdG fC (A13 BY GDS STC hlt' hg hw e1 le1 le2 sb ht b1 b2) ?_;refine AR.callP qw TI (AI aF aT) ?_;refine goG fC TI ?_;refine wG fC (A4 BY STC hlt' hg) ?_;exact aM
   ·have hn2:=hno (by rw[key2,hnw];exact decide_eq_false hz)
    have hne: ¬((a+op.length+((s.drop (a+op.length)).takeWhile isW).length:Nat):Int)=((a+op.length:Nat):Int):=by omega
    clear hno hyes key key2 hnw hz;generalize ((s.drop (a+op.length)).takeWhile isW).length=z at qw hne;refine wG fC (A5 BY STC hlt' hg hw) ?_;refine wdG fC (A13 BY GDS STC hlt' hg hw e1 le1 le2 sb ht b1 b2) ?_;refine AR.callP qw TI (AI aF aT) ?_;refine goG fC hne ?_;refine wG fC hm1 ?_;refine ALp.cutP 0 [(0,.im (.string ⟨(s).toArray⟩)),(1,(.im (.int .i64 ((a:Int))))),(5,.sl (L.map sV) .full),(6,(.im (.int .i64 ((((m+1):Nat):Int)))))] [] (AI aF aT) ?_;exact hn2
 | true =>
  have key2:tstR x op=nW (s.drop (a+op.length)):=by rw[key];unfold bne;rw[b1];rfl
  by_cases hz:((s.drop (a+op.length)).takeWhile isW).length=0
  ·rw[hz]at qw
   rw[hyes (by rw[key2,hnw];exact decide_eq_true hz)]
   clear hno hyes key key2 hnw;refine wG fC (A5 BY STC hlt' hg hw) ?_;refine wdG fC (A12 BY GDS STC hlt' hg hw e1 le1 le2 sb ht b1) ?_;refine AR.callP qw TI (AI aF aT) ?_;refine goG fC TI ?_;refine wG fC (A4 BY STC hlt' hg) ?_;exact aM
  ·have hn2:=hno (by rw[key2,hnw];exact decide_eq_false hz)
   have hne: ¬((a+op.length+((s.drop (a+op.length)).takeWhile isW).length:Nat):Int)=((a+op.length:Nat):Int):=by omega
   clear hno hyes key key2 hnw hz;generalize ((s.drop (a+op.length)).takeWhile isW).length=z at qw hne;refine wG fC (A5 BY STC hlt' hg hw) ?_;refine wdG fC (A12 BY GDS STC hlt' hg hw e1 le1 le2 sb ht b1) ?_;refine AR.callP qw TI (AI aF aT) ?_;refine goG fC hne ?_;refine wG fC hm1 ?_;refine ALp.cutP 0 [(0,.im (.string ⟨(s).toArray⟩)),(1,(.im (.int .i64 ((a:Int))))),(5,.sl (L.map sV) .full),(6,(.im (.int .i64 ((((m+1):Nat):Int)))))] [] (AI aF aT) ?_;exact hn2
def wtR(w:Bs):Tk:=(namP w).getD ⟨6,[],0,0,0⟩
theorem Ye{c:UInt8}(h:isD c=true):isL c=false:=by
 have:=sZ (fun c=> !isD c|| !isL c) (by decide +kernel) c
 rw[h]at this
 simpa using this
def eC:=A5 @Dv @Dt @Nc @kG @gB
set_option maxHeartbeats 1000000 in
theorem EH(w:Bs)(hw:w.length≤4194304)(h0:w≠[])(ha: ∀c∈w,isW c=true):PC Tryz.prog 170 [.im (.string ⟨(w).toArray⟩)] (tkV (wtR w)):=by
 have qn:=Zy w hw
 have qk:=KD w
 have hNn: ∀n,valP w=some n→numR w=(n,true):=fun n=>To
 have hNo:valP w=none→(numR w).2=false:=Tp
 cases hE:w with
 | nil=>exact absurd hE h0
 | cons c r =>
 rw[hE]at qn qk hNn hNo hw
 have hcw:isW c=true:=ha c (by rw[hE];simp)
 have qd:=Id c
 have g0:(c::r)[0]? =some c:=rfl
 cases hd:isD c with
 | true =>
  rw[hd]at qd;have hL:=Ye hd
  have hK:isK (c::r)=false:=by
   rw[←Bool.not_eq_true];intro h;have:=(Cc (c::r) (rP.1 h)).1;rw[show(c::r).head?.elim false isL=isL c from rfl,hL]at this
   cases this
  have hnP:namP (c::r)=match valP (c::r)with
    | some n=>some ⟨3,[],n,0,0⟩
    | none=>none:=by
   unfold namP;rw[if_neg (by simp[hK]),if_neg (by rw[show(c::r).head?.elim false isL=isL c from rfl,hL];decide)]
   cases valP (c::r)<;>rfl
  cases hv:valP (c::r)with
  | none =>
   rw[show wtR (c::r)=⟨6,[],0,0,0⟩ by unfold wtR;rw[hnP,hv];rfl]
   have h2:=hNo hv;generalize numR (c::r)=v at qn h2;obtain⟨n,b⟩:=v;simp only at h2;subst h2;generalize c::r=w at *;refine PC.enter 28 Tryz.func170 rfl (by decide) rfl rfl (s:=[(0,.im (.string ⟨(w).toArray⟩))]) (by rfl) ?_
   refine wG eC (AI BY g0) ?_;refine AR.callP qd TI (AI aF aT) ?_;refine goG eC TI ?_;refine wG eC TI ?_;refine AR.callP qn TI (AI aF aT) ?_;refine goG eC TI ?_;refine wG eC TI ?_;refine aJ (rs:=[.cell 2 177]) rfl (by first|exact .inl rfl|exact .inr rfl) (finG eC) ?_
   all_goals exact wkG (AI aF aT)
  | some n =>
   rw[show wtR (c::r)=⟨3,[],n,0,0⟩ by unfold wtR;rw[hnP,hv];rfl]
   rw[hNn n hv]at qn;generalize c::r=w at *;refine PC.enter 28 Tryz.func170 rfl (by decide) rfl rfl (s:=[(0,.im (.string ⟨(w).toArray⟩))]) (by rfl) ?_
   refine wG eC (AI BY g0) ?_;refine AR.callP qd TI (AI aF aT) ?_;refine goG eC TI ?_;refine wG eC TI ?_;refine AR.callP qn TI (AI aF aT) ?_;refine goG eC TI ?_;refine wG eC TI ?_;refine aJ (rs:=[.cell 2 177]) rfl (by first|exact .inl rfl|exact .inr rfl) (finG eC) ?_
   all_goals exact wkG (AI aF aT)
 | false =>
 rw[hd]at qd
 have hL:isL c=true:=by
  unfold isW at hcw
  rwa [hd,Bool.or_false]at hcw
 cases hK:isK (c::r)with
 | true =>
  rw[hK]at qk;rw[show wtR (c::r)=⟨2,c::r,0,0,0⟩ by unfold wtR namP;rw[if_pos hK];rfl]
  generalize c::r=w at *;refine PC.enter 28 Tryz.func170 rfl (by decide) rfl rfl (s:=[(0,.im (.string ⟨(w).toArray⟩))]) (by rfl) ?_
  refine wG eC (AI BY g0) ?_;refine AR.callP qd TI (AI aF aT) ?_;refine goG eC TI ?_;refine wG eC TI ?_;refine AR.callP qk TI (AI aF aT) ?_;refine goG eC TI ?_;refine wG eC TI ?_;refine aJ (rs:=[.cell 2 177]) rfl (by first|exact .inl rfl|exact .inr rfl) (finG eC) ?_
  all_goals exact wkG (AI aF aT)
 | false =>
  rw[hK]at qk
  have hnP:namP (c::r)=if(c::r).length≤32 then some ⟨1,c::r,0,0,0⟩else none:=by
   unfold namP;rw[if_neg (by simp[hK]),if_pos (show(c::r).head?.elim false isL=true from hL)]
  by_cases h32:(c::r).length≤32
  ·rw[show wtR (c::r)=⟨1,c::r,0,0,0⟩ by unfold wtR;rw[hnP,if_pos h32];rfl]
   generalize c::r=w at *;have e32: ¬(w.length:Int)>32:=by omega
   refine PC.enter 28 Tryz.func170 rfl (by decide) rfl rfl (s:=[(0,.im (.string ⟨(w).toArray⟩))]) (by rfl) ?_
   refine wG eC (AI BY g0) ?_;refine AR.callP qd TI (AI aF aT) ?_;refine goG eC TI ?_;refine wG eC TI ?_;refine AR.callP qk TI (AI aF aT) ?_;refine goG eC TI ?_;refine wG eC (AI BY e32) ?_;refine aJ (rs:=[.cell 2 177]) rfl (by first|exact .inl rfl|exact .inr rfl) (finG eC) ?_
   all_goals exact wkG (AI aF aT)
  ·rw[show wtR (c::r)=⟨6,[],0,0,0⟩ by unfold wtR;rw[hnP,if_neg h32];rfl]
   generalize c::r=w at *;have e32:(w.length:Int)>32:=by omega
   refine PC.enter 28 Tryz.func170 rfl (by decide) rfl rfl (s:=[(0,.im (.string ⟨(w).toArray⟩))]) (by rfl) ?_
   refine wG eC (AI BY g0) ?_;refine AR.callP qd TI (AI aF aT) ?_;refine goG eC TI ?_;refine wG eC TI ?_;refine AR.callP qk TI (AI aF aT) ?_;refine goG eC TI ?_;refine wG eC (AI BY e32) ?_;refine aJ (rs:=[.cell 2 177]) rfl (by first|exact .inl rfl|exact .inr rfl) (finG eC) ?_
   all_goals exact wkG (AI aF aT)
def xF:= @gB
set_option maxHeartbeats 1000000 in
theorem EQ(s:Bs)(a:Nat)(ha:a≤s.length)(hs:s.length≤4194304):PC Tryz.prog 111 [.im (.string ⟨(s).toArray⟩),(.im (.int .i64 ((a:Int))))] (.tu [(.im (.int .i64 ((advs (1,1) (s.take a)).1))),(.im (.int .i64 ((advs (1,1) (s.take a)).2)))]):=by
 refine PC.enter 24 Tryz.func111 rfl (by decide) rfl rfl (s:=[(0,.im (.string ⟨(s).toArray⟩)),(1,(.im (.int .i64 ((a:Int)))))]) (by rfl) ?_
 refine wG xF TI ?_
 refine bH ?_
 refine ALp.cutP 0 [(0,.im (.string ⟨(s).toArray⟩)),(1,(.im (.int .i64 ((a:Int))))),(6,(.im (.int .i64 ((advs (1,1) (s.take (0))).1)))),(7,(.im (.int .i64 ((advs (1,1) (s.take (0))).2)))),(8,(.im (.int .i64 ((((0):Nat):Int)))))] [] (AI aF aT) ?_
 refine ALp.upto a (fun _=>True) (fun m=>⟨dn 24 [(0,.im (.string ⟨(s).toArray⟩)),(1,(.im (.int .i64 ((a:Int))))),(6,(.im (.int .i64 ((advs (1,1) (s.take (m))).1)))),(7,(.im (.int .i64 ((advs (1,1) (s.take (m))).2)))),(8,(.im (.int .i64 ((((m):Nat):Int)))))],ofl []⟩) ?_ 0 (Nat.zero_le _) trivial
 intro m hm _ hnext
 by_cases hlt:m<a
 case neg =>
  obtain rfl:m=a:=by omega
  have hn: ¬(m:Int)<(m:Int):=by omega
  clear hnext;generalize advs (1,1) (s.take m)=q;refine wG xF hn ?_;refine aJ (rs:=[.tmp 4,.tmp 5]) rfl (by first|exact .inl rfl|exact .inr rfl) (finG xF) ?_
  all_goals exact wkG (AI aF aT)
 have hlt':(m:Int)<(a:Int):=by omega
 have hml:m<s.length:=by omega
 have hm1:=bD hlt (by omega)
 have hg:s[m]? =some s[m]:=List.getElem?_eq_getElem hml
 have hn3:=hnext (m+1) (by omega) (by omega) trivial
 rw[Gm (1,1) hml]at hn3
 clear hnext
 have hb:=oT (s.take m) (1,1) (by decide) (by decide)
 rw[List.length_take]at hb
 generalize advs (1,1) (s.take m)=q at hn3 hb ⊢
 have hw1:IntKind.i64.wrap (q.1+1)=q.1+1:=cM (by omega)
 have hw2:IntKind.i64.wrap (q.2+1)=q.2+1:=cM (by omega)
 generalize s[m]=c at hg hn3
 by_cases hc:c.toNat=10
 ·have hc':(c.toNat:Int)=10:=by omega
  rw[show adv q c=(q.1+1,1) by unfold adv;rw[if_pos hc]]at hn3
  refine wG xF (A7 BY hlt' hg hw1 hw2 hc' hm1) ?_;refine ALp.cutP 0 [(0,.im (.string ⟨(s).toArray⟩)),(1,(.im (.int .i64 ((a:Int))))),(6,(.im (.int .i64 ((q.1+1,(1:Int)).1)))),(7,(.im (.int .i64 ((q.1+1,(1:Int)).2)))),(8,(.im (.int .i64 ((((m+1):Nat):Int)))))] [] (AI aF aT) ?_;exact hn3
 ·have hc': ¬(c.toNat:Int)=10:=by omega
  rw[show adv q c=(q.1,q.2+1) by unfold adv;rw[if_neg hc]]at hn3
  refine wG xF (A7 BY hlt' hg hw1 hw2 hc' hm1) ?_;refine ALp.cutP 0 [(0,.im (.string ⟨(s).toArray⟩)),(1,(.im (.int .i64 ((a:Int))))),(6,(.im (.int .i64 ((q.1,q.2+1).1)))),(7,(.im (.int .i64 ((q.1,q.2+1).2)))),(8,(.im (.int .i64 ((((m+1):Nat):Int)))))] [] (AI aF aT) ?_;exact hn3
def oneA(s:Bs)(a:Nat):Tk×Nat:=match tokP (s.drop a)with
 | some (t,n)=>(t,a+n)
 | none=>(⟨6,[],0,0,0⟩,a+((s.drop a).takeWhile isW).length)
theorem Vq{w:Bs}{t:Tk}(h:namP w=some t):wtR w=t:=by unfold wtR;rw[h];rfl
theorem Vr{w:Bs}(h:namP w=none):wtR w=⟨6,[],0,0,0⟩:=by unfold wtR;rw[h];rfl
theorem IG{b:Bs}(h:b≠[]):(b==[])=false:=beq_eq_false_iff_ne.2 h
def eD:=A5 @Dv @Dt @Nc @kG @gB
set_option maxHeartbeats 2000000 in
theorem MD(s:Bs)(a:Nat)(ha:a<s.length)(hs:s.length≤4194304):PC Tryz.prog 110 [.im (.string ⟨(s).toArray⟩),(.im (.int .i64 ((a:Int))))] (.tu [tkV (oneA s a).1,(.im (.int .i64 (((oneA s a).2:Int))))]):=by
 have qw:=Gd s a (by omega) hs
 have qo:=MC s a (by omega) hs
 have qq:=JK s a ha hs
 have hdl:(s.drop a).length=s.length-a:=List.length_drop
 have g0:s[a]? =some s[a]:=List.getElem?_eq_getElem ha
 have hd:s.drop a=s[a]::s.drop (a+1):=List.drop_eq_getElem_cons ha
 have hpre:(s.drop a).take ((s.drop a).takeWhile isW).length=(s.drop a).takeWhile isW:=(Sl _).symm
 have hwl:=Es (s.drop a)
 by_cases hw:0<((s.drop a).takeWhile isW).length
 ·have qn:=EH ((s.drop a).takeWhile isW) (by omega) (fun h=>by rw[h]at hw;exact absurd hw (by decide)) Et
  have hR:oneA s a=(wtR ((s.drop a).takeWhile isW),a+((s.drop a).takeWhile isW).length):=by
   unfold oneA tokP;rw[if_pos hw];cases hN:namP ((s.drop a).takeWhile isW)with
   | some t=>rw[Vq hN]
   | none=>rw[Vr hN]
  rw[hR];generalize (s.drop a).takeWhile isW=w at qw hpre hw qn hwl;have e1:((a+w.length:Nat):Int)>(a:Int):=by omega
  have le1:(a:Int)≤((a+w.length:Nat):Int):=by omega
  have le2:((a+w.length:Nat):Int)≤(s.length:Int):=by omega
  have sb:a+w.length-a=w.length:=by omega
  refine PC.enter 52 Tryz.func110 rfl (by decide) rfl rfl (s:=[(0,.im (.string ⟨(s).toArray⟩)),(1,(.im (.int .i64 ((a:Int)))))]) (by rfl) ?_
  refine wG eD TI ?_;refine AR.callP qw TI (A4 aC aB aF aT) ?_;refine goG eD TI ?_;refine wG eD (A7 BY GDS e1 le1 le2 sb hpre) ?_;refine AR.callP qn TI (A4 aC aB aF aT) ?_;refine goG eD TKT ?_;refine wdG eD TKT ?_;refine aJ (rs:=[.cell 4 177,.tmp 5]) rfl (by first|exact .inl rfl|exact .inr rfl) (finG eD) ?_
  all_goals exact wkG (A4 aC aB aF aT)
 have hz:((s.drop a).takeWhile isW).length=0:=by omega
 have hR:oneA s a=if(s.drop a).head? =some 34 then(match quoP ((s.drop a).drop 1)with
   | some (t,n)=>(⟨4,t,0,0,0⟩,a+(n+1))
   | none=>(⟨6,[],0,0,0⟩,a))else(match symP (s.drop a)with
   | some op=>(⟨5,op,0,0,0⟩,a+op.length)
   | none=>(⟨6,[],0,0,0⟩,a)):=by
  unfold oneA tokP;rw[if_neg hw,hz]
  by_cases h34:(s.drop a).head? =some 34
  ·rw[if_pos h34,if_pos h34]
   cases quoP ((s.drop a).drop 1)<;>rfl
  ·rw[if_neg h34,if_neg h34]
   cases symP (s.drop a)<;>rfl
 rw[hR]
 rw[hz,Nat.add_zero]at qw
 clear hpre hwl hw hz hR
 have hd1:(s.drop a).drop 1=s.drop (a+1):=List.drop_drop
 have hne: ¬(a:Int)>(a:Int):=by omega
 rw[hd1]
 have hqs: ∀t n,quoP (s.drop (a+1))=some (t,n)→Kp s a=(t,((a+1+n:Nat):Int)):=fun t n h=>Fe h
 have hqn:quoP (s.drop (a+1))=none→Kp s a=([], -1):=fun h=>qW h
 have hsl: ∀op,symP (s.drop a)=some op→op≠[]:=fun op h=>(Ay h).2
 have hsl2: ∀op,symP (s.drop a)=some op→op.length≤s.length-a:=fun op h=>by
  obtain⟨x,hx⟩:=jC.1 (Ay h).1;have:=congrArg List.length hx;rw[List.length_append]at this;omega
 by_cases h34:s[a].toNat=34
 ·rw[if_pos (show(s.drop a).head? =some 34 by rw[hd];rw[show s[a]=34 from toNat_inj h34];rfl)]
  have e34:(s[a].toNat:Int)=34:=by omega
  generalize s[a]=c at g0 e34;cases hqu:quoP (s.drop (a+1))with
  | none =>
   rw[hqn hqu]at qq;clear hqs hqn hsl hsl2 hd;refine PC.enter 52 Tryz.func110 rfl (by decide) rfl rfl (s:=[(0,.im (.string ⟨(s).toArray⟩)),(1,(.im (.int .i64 ((a:Int)))))]) (by rfl) ?_
   refine wG eD TI ?_;refine AR.callP qw TI (A4 aC aB aF aT) ?_;refine goG eD TI ?_;refine wG eD (A4 BY hne g0 e34) ?_;refine AR.callP qq TI (A4 aC aB aF aT) ?_;refine goG eD TI ?_;refine wdG eD TI ?_;refine aJ (rs:=[.cell 4 177,.tmp 5]) rfl (by first|exact .inl rfl|exact .inr rfl) (finG eD) ?_
   all_goals exact wkG (A4 aC aB aF aT)
  | some tn =>
   obtain⟨t,n⟩:=tn;rw[hqs t n hqu]at qq;have e0: ¬((a+1+n:Nat):Int)<0:=by omega
   simp only;rw[show a+(n+1)=a+1+n by omega]
   clear hqs hqn hsl hsl2 hd;refine PC.enter 52 Tryz.func110 rfl (by decide) rfl rfl (s:=[(0,.im (.string ⟨(s).toArray⟩)),(1,(.im (.int .i64 ((a:Int)))))]) (by rfl) ?_
   refine wG eD TI ?_;refine AR.callP qw TI (A4 aC aB aF aT) ?_;refine goG eD TI ?_;refine wG eD (A4 BY hne g0 e34) ?_;refine AR.callP qq TI (A4 aC aB aF aT) ?_;refine goG eD TI ?_;refine wdG eD e0 ?_;refine aJ (rs:=[.cell 4 177,.tmp 5]) rfl (by first|exact .inl rfl|exact .inr rfl) (finG eD) ?_
   all_goals exact wkG (A4 aC aB aF aT)
 ·rw[if_neg (show ¬(s.drop a).head? =some 34 by rw[hd];intro h;exact h34 (by rw[Option.some.inj h];rfl))]
  have e34: ¬(s[a].toNat:Int)=34:=by omega
  generalize s[a]=c at g0 e34;cases hsy:symP (s.drop a)with
  | none =>
   rw[hsy]at qo;have k1:(([]:Bs)==[])=true:=rfl;clear hqs hqn hsl hsl2 hd;refine PC.enter 52 Tryz.func110 rfl (by decide) rfl rfl (s:=[(0,.im (.string ⟨(s).toArray⟩)),(1,(.im (.int .i64 ((a:Int)))))]) (by rfl) ?_
   refine wG eD TI ?_;refine AR.callP qw TI (A4 aC aB aF aT) ?_;refine goG eD TI ?_;refine wG eD (A4 BY hne g0 e34) ?_;refine AR.callP qo TI (A4 aC aB aF aT) ?_;refine goG eD (AI BY k1) ?_;refine wdG eD (AI BY k1) ?_;refine aJ (rs:=[.cell 4 177,.tmp 5]) rfl (by first|exact .inl rfl|exact .inr rfl) (finG eD) ?_
   all_goals exact wkG (A4 aC aB aF aT)
  | some op =>
   rw[hsy]at qo;have qo:PC Tryz.prog 172 [.im (.string ⟨(s).toArray⟩),(.im (.int .i64 ((a:Int))))] (.im (.string ⟨(op).toArray⟩)):=qo;have k1:=IG (hsl op hsy);have hol:=hsl2 op hsy;have hw1:IntKind.i64.wrap ((a:Int)+(op.length:Int))=((a+op.length:Nat):Int):=by rw[cM (by omega)];omega
   simp only;clear hqs hqn hsl hsl2 hd;refine PC.enter 52 Tryz.func110 rfl (by decide) rfl rfl (s:=[(0,.im (.string ⟨(s).toArray⟩)),(1,(.im (.int .i64 ((a:Int)))))]) (by rfl) ?_
   refine wG eD TI ?_;refine AR.callP qw TI (A4 aC aB aF aT) ?_;refine goG eD TI ?_;refine wG eD (A4 BY hne g0 e34) ?_;refine AR.callP qo TI (A4 aC aB aF aT) ?_;refine goG eD (AI BY k1) ?_;refine wdG eD (A3 BY k1 hw1) ?_;refine aJ (rs:=[.cell 4 177,.tmp 5]) rfl (by first|exact .inl rfl|exact .inr rfl) (finG eD) ?_
   all_goals exact wkG (A4 aC aB aF aT)
theorem Ki(f:Nat)(s:Bs)(p:Int×Int):lT f s p=lT f (skpG false s) (skq s p):=by
 rw[←tX,←tX]
 exact Bj f s p
theorem CQ{f:Nat}{x:Bs}{t:Tk}{n:Nat}(hx:skpG false x=x)(h0:x≠[])(h:tokP x=some (t,n))(q:Int×Int):lT (f+1) x q=(t.at_ q::(lT f (x.drop n) (advs q (x.take n))).1,(lT f (x.drop n) (advs q (x.take n))).2):=by
 conv=>lhs;rw[lT]
 rw[hx,tD hx,if_neg h0,h]
theorem CR{f:Nat}{x:Bs}(hx:skpG false x=x)(h0:x≠[])(h:tokP x=none)(q:Int×Int):lT (f+1) x q=([⟨6,[],0,q.1,q.2⟩],false):=by
 conv=>lhs;rw[lT]
 rw[hx,tD hx,if_neg h0,h]
theorem Sk{s:Bs}{t:Tk}{n:Nat}(h:tokP s=some (t,n)):t.kind≠6:=by
 unfold tokP at h
 split at h
 ·split at h
  ·rename_i hN
   cases h
   unfold namP at hN;split at hN
   ·cases hN;simp
   split at hN
   ·split at hN
    ·cases hN;simp
    ·cases hN
   ·split at hN
    ·cases hN;simp
    ·cases hN
  ·cases h
 split at h
 ·split at h
  ·cases h;simp
  ·cases h
 ·split at h
  ·cases h;simp
  ·cases h
def jV:=A11 @Dv @cQ @Dt @BK @mD @vS @Pq @Pp @kG @cN @gB
set_option maxHeartbeats 2000000 in
theorem FF(s:Bs)(hs:s.length≤65536):PC Tryz.prog 54 [.im (.string ⟨(s).toArray⟩)] (.tu [.sl ((scan s).1.map tkV) .ro,(.im (.int .i64 (erN (scan s).2)))]):=by
 have qs0:PC Tryz.prog 109 [.im (.string ⟨(s).toArray⟩),(.im (.int .i64 (0)))] (.im (.int .i64 (((s.length-(skpG false s).length:Nat):Int)))):=by
  have q:=Zr s 0 (Nat.zero_le _) (by omega)
  rw[List.drop_zero]at q;exact q
 have hb: ¬(s.length:Int)>65536:=by omega
 refine PC.enter 43 Tryz.func54 rfl (by decide) rfl rfl (s:=[(0,.im (.string ⟨(s).toArray⟩))]) (by rfl) ?_
 refine wG jV (AI BY hb) ?_
 refine AR.callP qs0 TI (A4 aC aB aF aT) ?_
 refine goG jV TI ?_
 refine wG jV TI ?_
 refine bH ?_
 refine ALp.ghost 4 [] .nl 177 5 ?_
 suffices H: ∀(k f p:Nat) (A:List Tk),s.length-p=k→s.length-p<f→p≤s.length→skpG false (s.drop p)=s.drop p→scan s=(A++(lT f (s.drop p) (advs (1,1) (s.take p))).1,(lT f (s.drop p) (advs (1,1) (s.take p))).2)→A.length≤p→ALp _ _ _ _ _ ⟨dn 43 [(0,.im (.string ⟨(s).toArray⟩)),(4,.sl (A.map tkV) (.own 0)),(5,(.im (.int .i64 ((((p):Nat):Int)))))],ofl [.tip 177 5 A.length]⟩ by
  refine ALp.cutP 1 [(0,.im (.string ⟨(s).toArray⟩)),(4,.sl (([]:List Tk).map tkV) (.own 0)),(5,(.im (.int .i64 (((s.length-(skpG false s).length:Nat):Int)))))] [.tip 177 5 ([]:List Tk).length] (A4 aC aB aF aT) ?_;have hsuf:s.drop (s.length-(skpG false s).length)=skpG false s:=(List.suffix_iff_eq_drop.1 (pJ s false)).symm;exact H _ (s.length+1) _ [] rfl (by omega) (by omega) (by rw[hsuf];exact kW s false) (by rw[hsuf,List.nil_append];exact Ki (s.length+1) s (1,1)) (Nat.zero_le _)
 intro k
 induction k using Nat.strongRecOn with
 | _ k ih =>
 intro f p A hk hf hpl hx hE hA
 refine cD ?_
 by_cases hlt:p<s.length
 case neg =>
  obtain rfl:p=s.length:=by omega
  have hn: ¬(s.length:Int)<(s.length:Int):=by omega
  rw[List.drop_length,Xi,List.append_nil]at hE;rw[hE];clear ih;refine wG jV (AI BY hn) ?_;refine aJ (rs:=[.tmp 2,.tmp 3]) rfl (by first|exact .inl rfl|exact .inr rfl) (finG jV) ?_
  all_goals exact wkG (A4 aC aB aF aT)
 have hlt':(p:Int)<(s.length:Int):=by omega
 have q1:=MD s p hlt (by omega)
 have q2:=EQ s p hpl (by omega)
 have hne:s.drop p≠[]:=fun e=>by
  have:=congrArg List.length e;rw[List.length_drop,List.length_nil]at this;omega
 cases f with
 | zero=>omega
 | succ f =>
 cases hk2:tokP (s.drop p)with
 | none =>
  rw[CR hx hne hk2]at hE;rw[show oneA s p=(⟨6,[],0,0,0⟩,p+((s.drop p).takeWhile isW).length) by unfold oneA;rw[hk2]]at q1
  rw[hE];generalize advs (1,1) (s.take p)=q at q2;obtain⟨B,hB⟩: ∃B,B=A++[(⟨6,[],0,q.1,q.2⟩:Tk)]:=⟨_,rfl⟩
  have hAs:A.map tkV++[V.ag [.im (.int .i64 6),.im (.string ⟨#[]⟩),.im (.int .u32 0),.im (.int .i64 q.1),.im (.int .i64 q.2)]]=B.map tkV:=by rw[hB,List.map_append];rfl
  have hAl:A.length+1=B.length:=by rw[hB];simp
  have hbl:B.length*48≤140737488355328:=by omega
  simp only[←hB];clear ih hE hB;refine wG jV (AI BY hlt') ?_;refine AR.callP q1 TI (A4 aC aB aF aT) ?_;refine goG jV TKT ?_;refine wG jV TKT ?_;refine AR.callP q2 TI (A4 aC aB aF aT) ?_;refine goG jV TI ?_;refine wdG jV (A5 TKT hAs hAl hbl @List.length_map.{0,0}) ?_;refine aJ (rs:=[.tmp 2,.tmp 3]) rfl (by first|exact .inl rfl|exact .inr rfl) (finG jV) ?_
  all_goals exact wkG (A4 aC aB aF aT)
 | some tn =>
  obtain⟨t,n⟩:=tn;rw[CQ hx hne hk2]at hE;rw[show oneA s p=(t,p+n) by unfold oneA;rw[hk2]]at q1
  have hn:=vU hk2;rw[List.length_drop]at hn;have h6: ¬t.kind=6:=Sk hk2;have q3:=Zr s (p+n) (by omega) (by omega)
  have hx3:(s.drop p).drop n=s.drop (p+n):=List.drop_drop;have hq3:advs (advs (1,1) (s.take p)) ((s.drop p).take n)=advs (1,1) (s.take (p+n)):=rB (1,1) s p n;rw[hx3,hq3]at hE;have hyl:(s.drop (p+n)).length=s.length-(p+n):=List.length_drop;have hle:=qF false (s.drop (p+n));obtain⟨p',hp'⟩: ∃p',p'=s.length-(skpG false (s.drop (p+n))).length:=⟨_,rfl⟩
  have hsuf:s.drop p'=skpG false (s.drop (p+n)):=by
   rw[hp'];exact(List.suffix_iff_eq_drop.1 ((pJ _ false).trans (List.drop_suffix _ _))).symm
  have hq4:skq (s.drop (p+n)) (advs (1,1) (s.take (p+n)))=advs (1,1) (s.take p'):=by
   unfold skq;rw[rB,hyl,hp',show p+n+(s.length-(p+n)-(skpG false (s.drop (p+n))).length)=s.length-(skpG false (s.drop (p+n))).length by omega]
  obtain⟨B,hB⟩: ∃B,B=A++[t.at_ (advs (1,1) (s.take p))]:=⟨_,rfl⟩
  have hE2:scan s=(B++(lT f (s.drop p') (advs (1,1) (s.take p'))).1,(lT f (s.drop p') (advs (1,1) (s.take p'))).2):=by
   rw[hE,hB,Ki f (s.drop (p+n)),hq4,hsuf,List.append_assoc];rfl
  have hI:=ih (s.length-p') (by omega) f p' B rfl (by omega) (by omega) (by rw[hsuf];exact kW _ false) hE2 (by rw[hB];simp;omega)
  rw[←hp']at q3;generalize advs (1,1) (s.take p)=q at q2 hB;have hAs:A.map tkV++[V.ag [.im (.int .i64 t.kind),.im (.string ⟨t.text.toArray⟩),.im (.int .u32 t.n),.im (.int .i64 q.1),.im (.int .i64 q.2)]]=B.map tkV:=by rw[hB,List.map_append];rfl
  have hAl:A.length+1=B.length:=by rw[hB];simp
  have hbl:B.length*48≤140737488355328:=by omega
  clear ih hE hB hE2 hq4 hsuf hp' hle hyl hq3 hx3;refine wG jV (AI BY hlt') ?_;refine AR.callP q1 TI (A4 aC aB aF aT) ?_;refine goG jV TKT ?_;refine wG jV TKT ?_;refine AR.callP q2 TI (A4 aC aB aF aT) ?_;refine goG jV TI ?_;refine wdG jV (A6 TKT hAs hAl hbl @List.length_map.{0,0} h6) ?_;refine AR.callP q3 TI (A4 aC aB aF aT) ?_;refine goG jV TI ?_;refine wG jV TI ?_;refine ALp.cutP 1 [(0,.im (.string ⟨(s).toArray⟩)),(4,.sl (B.map tkV) (.own 0)),(5,(.im (.int .i64 (((p':Nat):Int)))))] [.tip 177 5 B.length] (A4 aC aB aF aT) ?_;exact hI
theorem IH{w:Bs}{t:Tk}(h:namP w=some t):TkW t:=by
 unfold namP at h
 split at h
 ·next hk=>cases h;exact⟨fun _=>hk,fun h=>by cases h⟩
 split at h
 ·split at h
  ·cases h;exact⟨(fun h=>by cases h),fun h=>by cases h⟩
  ·cases h
 ·split at h
  ·cases h;exact⟨(fun h=>by cases h),fun h=>by cases h⟩
  ·cases h
theorem HZ: ∀c∈ops1,isL c=false:=by decide
theorem HB{s op:Bs}(h:symP s=some op):op.head?.elim false isL=false:=by
 unfold symP at h
 split at h
 ·cases h;rfl
 split at h
 ·cases h;rfl
 split at h
 ·cases h;rfl
 split at h
 ·cases h;rfl
 split at h
 ·cases h;rfl
 split at h
 ·cases h;rfl
 split at h
 ·cases h
 ·split at h
  ·rename_i hc;cases h;exact HZ _ (by simpa using hc)
  ·cases h
theorem GX{s:Bs}{t:Tk}{n:Nat}(h:tokP s=some (t,n)):TkW t:=by
 unfold tokP at h
 split at h
 ·split at h
  ·next hn=>cases h;exact IH hn
  ·cases h
 split at h
 ·split at h
  ·cases h;exact⟨(fun h=>by cases h),fun h=>by cases h⟩
  ·cases h
 ·split at h
  ·next hs=>cases h;exact⟨(fun h=>by cases h),fun _=>HB hs⟩
  ·cases h
theorem HI: ∀(f:Nat) (s:Bs) (p:Int×Int),∀t∈(lT f s p).1,TkW t:=by
 intro f
 induction f with
 | zero=>intro s p t h;rw[lT]at h;cases h
 | succ f ih =>
  intro s p t h;rw[lT]at h;split at h
  ·cases h
  split at h
  ·simp only[List.mem_singleton]at h
   rw[h];exact⟨(fun h=>by cases h),fun h=>by cases h⟩
  ·next t' n ht =>
   simp only[List.mem_cons]at h;rcases h with rfl|h
   ·exact(show TkW t' from GX ht)
   ·exact ih _ _ t h
theorem Xg(s:Bs): ∀t∈(scnR s).1,TkW t:=by
 unfold scnR
 by_cases h:65536<s.length
 ·rw[if_pos h];intro t h;cases h
 ·rw[if_neg h,xV]
  exact HI _ _ _
theorem Rq(s:Bs)(hs:s.length≤65536):PC Tryz.prog 54 [.im (.string ⟨(s).toArray⟩)] (.tu [.sl ((scnR s).1.map tkV) .ro,(.im (.int .i64 ((scnR s).2)))]):=by
 have h:=FF s hs
 unfold scnR
 rw[if_neg (by omega),xV]
 exact h
end Go.Proofs.YtmbmmckagcdapaaGreatDoor
namespace Go.Proofs.YtmbmmckagcdapaaGreatDoor
open Go.RowKit
section
variable {α:Type} {ts:List Tk} {x:Bs} {m1 m2:Nat→Nat→Option (Rs α)} {s s':Sr} {y:α}
theorem postT(h:isR ts s.a s.e x=true)(q:Post m1 s y s'):Post (fun a o=>if sees ts a x=true then m1 a o else m2 a o) s y s':=Post.congr (fun _=>funext fun o=>if_pos (vH h).2.1) q
theorem postF(h:isR ts s.a s.e x=false)(q:Post m2 s y s'):Post (fun a o=>if sees ts a x=true then m1 a o else m2 a o) s y s':=Post.congr (fun he=>funext fun o=>if_neg (by rw[Yd h he];decide)) q
theorem preT(h:isR ts s.a s.e x=true)(q:Pre (fun a o=>if sees ts a x=true then m1 a o else m2 a o) s):Pre m1 s:=Pre.congr (fun _=>funext fun o=>if_pos (vH h).2.1) q
theorem KZ(h:isR ts s.a s.e x=false)(q:Pre (fun a o=>if sees ts a x=true then m1 a o else m2 a o) s):Pre m2 s:=Pre.congr (fun he=>funext fun o=>if_neg (by rw[Yd h he];decide)) q
end
theorem preShift{α:Type}{m:Nat→Nat→Option (Rs α)}{a o:Nat}(h:Pre (fun a o=>m (a+1) o) ⟨a,o,0⟩):Pre m ⟨a+1,o,0⟩:=fun _=>by
 obtain⟨p,hp,r⟩:=h rfl
 exact⟨p,hp,r⟩
def nam3(ts:List Tk)(f:Nat)(n:ByteArray)(a o:Nat):Option (Rs (List (List Nd))) :=
 if sees ts a [105,110]=true then(fun a o=>rb (expM ts [59] (a+1) o) fun _ a o=>ret (oneS (.mk 3 0 n [] [] [] [])) a o) a o
 else(fun a o=>rb (exM ts f (.ex 1) a o) fun x a o=>rb (expM ts [59] a o) fun _ a o=>ret (oneS (.mk 1 0 n [x] [] [] [])) a o) a o
theorem CZ(ts:List Tk)(f:Nat):Ky ts f=fun a o=>rb (nmM ts a o) fun n a o=>if sees ts a [58]=true then(fun a o=>ret (oneS (.mk 13 0 n [] [] [] [])) (a+1) o) a o else(fun a o=>rb (expM ts [61] a o) fun _ a o=>nam3 ts f n a o) a o:=rfl
def cW:=A8 @iJ @eO @hG @fG @fM @lC @gH @dG
set_option maxHeartbeats 4000000 in
theorem Zz{ts:List Tk}{f:Nat}(hts:ts.length≤4194304)(hE:ExR ts f)(s:Sr)(hp:Pre (Ky ts f) s): ∃x s',Post (Ky ts f) s x s'∧DC Tryz.prog 235 [.pt 0 0] [rbx ts s] (stV x) [rbx ts s']:=by
 rw[CZ]at hp ⊢
 obtain⟨n,⟨a1,o1,e1⟩,q1,b1,d1⟩:=rU ts hts s hp.fst
 have p1:=hp.snd q1
 have h2:=fJ ts a1 o1 e1 [58] hts
 obtain⟨a,o,e⟩:=s
 cases hb:isR ts a1 e1 [58]with
 | true =>
  obtain⟨rfl,_,hlt⟩:=vH hb;obtain⟨p,hpp,_⟩:=p1 rfl;have hpp:o1=(p:Int):=hpp;subst hpp;refine⟨oneS (.mk 13 0 n [] [] [] []),⟨a1+1,p,0⟩,q1.bind (postT hb (Post.of_ok rfl)),?_⟩;rw[hb,if_pos rfl]at h2;clear q1 p1 hp b1;simp only[rbx]at d1 ⊢;refine DC.enter 27 Tryz.func235 rfl (by decide) rfl rfl (s:=[(0,.pt 0 0)]) (by rfl) ?_
  refine wG cW TI ?_;refine aA [0] d1 TI fW kJ ?_;refine goG cW TI ?_;refine wG cW TI ?_;refine aA [0] h2 TI fW kJ ?_;refine goG cW TI ?_;refine wG cW TI ?_;refine aO (rs:=[.cell 2 165]) rfl (by first|exact .inl rfl|exact .inr rfl) (finG cW) ?_ rfl (idG fW)
  simp only[gJ,fO,List.map_nil]
  all_goals exact wkG fW
 | false =>
 rw[hb,if_neg (by decide)]at h2
 have p1:=KZ hb p1
 obtain⟨⟨a2,o2,e2⟩,q2,b2,d2⟩:=iL ts hts ⟨a1,o1,e1⟩ [61] p1.fst
 have p2:=p1.snd q2
 have h3:=fJ ts a2 o2 e2 [105,110] hts
 cases hc:isR ts a2 e2 [105,110]with
 | true =>
  obtain⟨rfl,_,hlt⟩:=vH hc;obtain⟨p,hpp,_⟩:=p2 rfl;have hpp:o2=(p:Int):=hpp;subst hpp;have p3:=preShift (m:=fun a o=>rb (expM ts [59] a o) fun _ a o=>ret (oneS (.mk 3 0 n [] [] [] [])) a o) (preT hc p2)
  obtain⟨⟨a3,o3,e3⟩,q3,b3,d3⟩:=iL ts hts ⟨a2+1,p,0⟩ [59] p3.fst;refine⟨oneS (.mk 3 0 n [] [] [] []),⟨a3,o3,e3⟩,q1.bind (postF hb (q2.bind (k:=fun _ a o=>nam3 ts f n a o) (postT hc (postShift (fun o=>rfl) (q3.bind (k:=fun _ a o=>ret (oneS (.mk 3 0 n [] [] [] [])) a o) (Post.ret (p3.snd q3))))))),?_⟩
  rw[hc,if_pos rfl]at h3;clear q1 q2 q3 p1 p2 p3 hp b1;simp only[rbx]at d1 d2 d3 ⊢;refine DC.enter 27 Tryz.func235 rfl (by decide) rfl rfl (s:=[(0,.pt 0 0)]) (by rfl) ?_
  refine wG cW TI ?_;refine aA [0] d1 TI fW kJ ?_;refine goG cW TI ?_;refine wG cW TI ?_;refine aA [0] h2 TI fW kJ ?_;refine goG cW TI ?_;refine wG cW TI ?_;refine aA [0] d2 TI fW kJ ?_;refine goG cW TI ?_;refine wG cW TI ?_;refine aA [0] h3 TI fW kJ ?_;refine goG cW TI ?_;refine wG cW TI ?_;refine aA [0] d3 TI fW kJ ?_;refine goG cW TI ?_;refine wG cW TI ?_;refine aO (rs:=[.cell 2 165]) rfl (by first|exact .inl rfl|exact .inr rfl) (finG cW) ?_ rfl (idG fW)
  simp only[gJ,fO,List.map_nil]
  all_goals exact wkG fW
 | false =>
 rw[hc,if_neg (by decide)]at h3
 have p2:=KZ hc p2
 obtain⟨x,⟨a3,o3,e3⟩,q3,d3⟩:=hE 1 (by decide) ⟨a2,o2,e2⟩ p2.fst
 have p3:=p2.snd q3
 obtain⟨⟨a4,o4,e4⟩,q4,b4,d4⟩:=iL ts hts ⟨a3,o3,e3⟩ [59] p3.fst
 refine⟨oneS (.mk 1 0 n [x] [] [] []),⟨a4,o4,e4⟩,q1.bind (postF hb (q2.bind (k:=fun _ a o=>nam3 ts f n a o) (postF hc (q3.bind (q4.bind (Post.ret (p3.snd q4))))))),?_⟩
 rw[Oq]at d3
 clear q1 q2 q3 q4 p1 p2 p3 hp b1
 simp only[rbx]at d1 d2 d3 d4 ⊢
 refine DC.enter 27 Tryz.func235 rfl (by decide) rfl rfl (s:=[(0,.pt 0 0)]) (by rfl) ?_
 refine wG cW TI ?_
 refine aA [0] d1 TI fW kJ ?_
 refine goG cW TI ?_
 refine wG cW TI ?_
 refine aA [0] h2 TI fW kJ ?_
 refine goG cW TI ?_
 refine wG cW TI ?_
 refine aA [0] d2 TI fW kJ ?_
 refine goG cW TI ?_
 refine wG cW TI ?_
 refine aA [0] h3 TI fW kJ ?_
 refine goG cW TI ?_
 refine wG cW TI ?_
 refine aA [0] d3 TI fW kJ ?_
 refine goG cW BN01 ?_
 refine wG cW BN01 ?_
 refine aA [0] d4 TI fW kJ ?_
 refine goG cW BN01 ?_
 refine wG cW BN01 ?_
 refine aO (rs:=[.cell 2 165]) rfl (by first|exact .inl rfl|exact .inr rfl) (finG cW) ?_ rfl (idG fW)
 simp only[gJ,fO,List.map_nil,List.map_cons];rw[cA x]
 all_goals exact wkG fW
def iS:=A11 @iJ @cQ @eO @hG @fG @fM @gX @lC @gH @cN @dG
set_option maxHeartbeats 4000000 in
theorem Cu{ts:List Tk}{f:Nat}(hts:ts.length≤4194304)(hE:ExR ts f)(w:Int)(a:Nat)(hlt:a<ts.length)(o:Int)(hp:Pre (storM ts f w) ⟨a+1,o,0⟩): ∃x s',Post (storM ts f w) ⟨a+1,o,0⟩ x s'∧DC Tryz.prog 236 [.pt 0 0,(.im (.int .i64 (w)))] [rbx ts ⟨a,o,0⟩] (stV x) [rbx ts s']:=by
 have hw:=bD (m:=a) (N:=4194304) (by omega) (by decide)
 unfold storM at hp ⊢
 obtain⟨⟨a1,o1,e1⟩,q1,b1,d1⟩:=kY ts hts ⟨a+1,o,0⟩ [40] hp.fst
 have p1:=hp.snd q1
 obtain⟨x,⟨a2,o2,e2⟩,q2,d2⟩:=hE 1 (by decide) ⟨a1,o1,e1⟩ p1.fst
 have p2:=p1.snd q2
 obtain⟨⟨a3,o3,e3⟩,q3,b3,d3⟩:=iL ts hts ⟨a2,o2,e2⟩ [44] p2.fst
 have p3:=p2.snd q3
 obtain⟨y,⟨a4,o4,e4⟩,q4,d4⟩:=hE 1 (by decide) ⟨a3,o3,e3⟩ p3.fst
 have p4:=p3.snd q4
 obtain⟨⟨a5,o5,e5⟩,q5,b5,d5⟩:=rW ts hts ⟨a4,o4,e4⟩ [41] (fun h=>by
  obtain⟨h3,k4⟩:=Ag q4 h;obtain⟨h1,k2⟩:=Ag q2 (q3.ok h3).1;have:=(b1 h1).2;rw[k4,b3,k2]
  exact this) p4.fst
 have p5:=p4.snd q5
 obtain⟨⟨a6,o6,e6⟩,q6,b6,d6⟩:=iL ts hts ⟨a5,o5,e5⟩ [59] p5.fst
 refine⟨oneS (.mk 2 w ByteArray.empty [x,y] [] [] []),⟨a6,o6,e6⟩,q1.bind (q2.bind (q3.bind (q4.bind (q5.bind (q6.bind (Post.ret (p5.snd q6))))))),?_⟩
 rw[Oq]at d2 d4
 clear q1 q2 q3 q4 q5 q6 p1 p2 p3 p4 p5 hp b1 b3 b5 b6
 simp only[rbx]at d1 d2 d3 d4 d5 d6 ⊢
 refine DC.enter 31 Tryz.func236 rfl (by decide) rfl rfl (s:=[(0,.pt 0 0),(1,(.im (.int .i64 (w))))]) (by rfl) ?_
 refine wG iS hw ?_
 refine aA [0] d1 TI fW kJ ?_
 refine goG iS TI ?_
 refine wG iS TI ?_
 refine aA [0] d2 TI fW kJ ?_
 refine goG iS BN01 ?_
 refine wG iS BN01 ?_
 refine aA [0] d3 TI fW kJ ?_
 refine goG iS TI ?_
 refine wG iS TI ?_
 refine aA [0] d4 TI fW kJ ?_
 refine goG iS BN01 ?_
 refine wG iS BN01 ?_
 refine aA [0] d5 TI fW kJ ?_
 refine goG iS TI ?_
 refine wG iS TI ?_
 refine aA [0] d6 TI fW kJ ?_
 refine goG iS BN01 ?_
 refine wG iS BN01 ?_
 refine aO (rs:=[.cell 4 165]) rfl (by first|exact .inl rfl|exact .inr rfl) (finG iS) ?_ rfl (idG fW)
 simp only[gJ,fO,List.map_nil,List.map_cons];rw[cA x,cA y]
 all_goals exact wkG fW
def BrR(ts:List Tk)(f:Nat):Prop:= ∀s:Sr,Pre (stM ts f .br) s→ ∃x s',Post (stM ts f .br) s x s'∧DC Tryz.prog 239 [.pt 0 0] [rbx ts s] (liV x) [rbx ts s']
def conM(ts:List Tk)(f:Nat)(a o:Nat):Option (Rs (List (List Nd))):=rb (exM ts f (.ex 1) a o) fun x a o=>rb (stM ts f .br a o) fun l a o =>
 if sees ts a [101,108,115,101]=true then(fun a o=>rb (stM ts f .br (a+1) o) fun e a o=>ret (oneS (.mk 6 0 ByteArray.empty [x] (l.headD []) (e.headD []) [])) a o) a o
 else(fun a o=>ret (oneS (.mk 6 0 ByteArray.empty [x] (l.headD []) [] [])) a o) a o
theorem Ac(l:List (List Nd)):liV l= .sl ((l.headD []).map ndV) .ro:=rfl
def gE:=A11 @iJ @mE @hG @fG @fM @pE @pD @lC @gH @kB @dG
set_option maxHeartbeats 4000000 in
theorem FC{ts:List Tk}{f:Nat}(hts:ts.length≤4194304)(hE:ExR ts f)(hB:BrR ts f)(s:Sr)(hp:Pre (conM ts f) s): ∃x s',Post (conM ts f) s x s'∧DC Tryz.prog 237 [.pt 0 0] [rbx ts s] (stV x) [rbx ts s']:=by
 unfold conM at hp ⊢
 obtain⟨x,⟨a1,o1,e1⟩,q1,d1⟩:=hE 1 (by decide) s hp.fst
 have p1:=hp.snd q1
 obtain⟨l,⟨a2,o2,e2⟩,q2,d2⟩:=hB ⟨a1,o1,e1⟩ p1.fst
 have p2:=p1.snd q2
 have h3:=fJ ts a2 o2 e2 [101,108,115,101] hts
 obtain⟨a,o,e⟩:=s
 rw[Oq]at d1
 rw[Ac]at d2
 obtain⟨B,hB1⟩: ∃B,B=[x]:=⟨_,rfl⟩
 have hAs:[exV x]=B.map exV:=by rw[hB1];rfl
 have hAs2:[V.ag [(.im (.int .i64 (x.op))),.im (.int .u32 x.n),.im (.string x.name),(.im (.int .i64 (x.width))),.sl (x.l.map exV) .ro]]=B.map exV:=by rw[hB1,List.map_cons,List.map_nil,cA x]
 cases hc:isR ts a2 e2 [101,108,115,101]with
 | true =>
  obtain⟨rfl,_,hlt⟩:=vH hc;obtain⟨p,hpp,_⟩:=p2 rfl;have hpp:o2=(p:Int):=hpp;subst hpp;have p3:=preShift (m:=fun a o=>rb (stM ts f .br a o) fun e a o=>ret (oneS (.mk 6 0 ByteArray.empty [x] (l.headD []) (e.headD []) [])) a o) (preT hc p2)
  obtain⟨l2,⟨a3,o3,e3⟩,q3,d3⟩:=hB ⟨a2+1,p,0⟩ p3.fst;refine⟨oneS (.mk 6 0 ByteArray.empty [x] (l.headD []) (l2.headD []) []),⟨a3,o3,e3⟩,q1.bind (q2.bind (postT hc (postShift (fun o=>rfl) (q3.bind (k:=fun e a o=>ret (oneS (.mk 6 0 ByteArray.empty [x] (l.headD []) (e.headD []) [])) a o) (Post.ret (p3.snd q3)))))),?_⟩
  rw[hc,if_pos rfl]at h3;rw[Ac]at d3;rw[←hB1];generalize l.headD []=l at d2 ⊢;generalize l2.headD []=l2 at d3 ⊢;clear q1 q2 q3 p1 p2 p3 hp;simp only[rbx]at d1 d2 d3 ⊢;refine DC.enter 17 Tryz.func237 rfl (by decide) rfl rfl (s:=[(0,.pt 0 0)]) (by rfl) ?_
  refine wG gE TI ?_;refine aA [0] d1 TI fW kJ ?_;refine goG gE (A10 @dX @dC @dU @dT @dW @dD @List.getElem?_map.{0,0} @Int.natCast_nonneg hAs hAs2) ?_;refine wG gE (A10 @dX @dC @dU @dT @dW @dD @List.getElem?_map.{0,0} @Int.natCast_nonneg hAs hAs2) ?_;refine aA [0] d2 TI fW kJ ?_;refine goG gE TI ?_;refine wG gE TI ?_;refine aA [0] h3 TI fW kJ ?_;refine goG gE TI ?_;refine wG gE TI ?_;refine aA [0] d3 TI fW kJ ?_;refine goG gE TI ?_;refine wG gE TI ?_;refine aO (rs:=[.cell 2 165]) rfl (by first|exact .inl rfl|exact .inr rfl) (finG gE) ?_ rfl (idG fW)
  simp only[gJ,fO,List.map_nil]
  all_goals exact wkG fW
 | false =>
 refine⟨oneS (.mk 6 0 ByteArray.empty [x] (l.headD []) [] []),⟨a2,o2,e2⟩,q1.bind (q2.bind (postF hc (Post.ret p2))),?_⟩
 rw[hc,if_neg (by decide)]at h3
 rw[←hB1]
 generalize l.headD []=l at d2 ⊢
 clear q1 q2 p1 p2 hp
 simp only[rbx]at d1 d2 ⊢
 refine DC.enter 17 Tryz.func237 rfl (by decide) rfl rfl (s:=[(0,.pt 0 0)]) (by rfl) ?_
 refine wG gE TI ?_
 refine aA [0] d1 TI fW kJ ?_
 refine goG gE (A10 @dX @dC @dU @dT @dW @dD @List.getElem?_map.{0,0} @Int.natCast_nonneg hAs hAs2) ?_
 refine wG gE (A10 @dX @dC @dU @dT @dW @dD @List.getElem?_map.{0,0} @Int.natCast_nonneg hAs hAs2) ?_
 refine aA [0] d2 TI fW kJ ?_
 refine goG gE TI ?_
 refine wG gE TI ?_
 refine aA [0] h3 TI fW kJ ?_
 refine goG gE TI ?_
 refine wG gE TI ?_
 refine aO (rs:=[.cell 2 165]) rfl (by first|exact .inl rfl|exact .inr rfl) (finG gE) ?_ rfl (idG fW)
 simp only[gJ,fO,List.map_nil]
 all_goals exact wkG fW
end Go.Proofs.YtmbmmckagcdapaaGreatDoor
namespace Go.Proofs.YtmbmmckagcdapaaGreatDoor
open Go.RowKit
def StR(ts:List Tk)(f:Nat):Prop:= ∀(a o:Nat),a<ts.length→Pre (stM ts f .st) ⟨a,o,0⟩→ ∃x s',Post (stM ts f .st) ⟨a,o,0⟩ x s'∧DC Tryz.prog 188 [.pt 0 0] [rbx ts ⟨a,o,0⟩] (stV x) [rbx ts s']
inductive LpL (ts:List Tk):List Nd→Sr→List Nd→Sr→Prop where
 | stop {l:List Nd} {s:Sr} (h:s.e≠0∨ts.length≤s.a∨sees ts s.a [125]=true):LpL ts l s l s
 | step {l l':List Nd} {a a1:Nat} {o o1 e1:Int} {x:Nd} {s':Sr} (hl:l.length≤4194304) (hlt:a<ts.length) (hn:sees ts a [125]=false)
   (d:DC Tryz.prog 188 [.pt 0 0] [rbx ts ⟨a,o,0⟩] (ndV x) [rbx ts ⟨a1,o1,e1⟩]) (r:LpL ts (l++[x]) ⟨a1,o1,e1⟩ l' s'):LpL ts l ⟨a,o,0⟩ l' s'
def PostL{α:Type}(ts:List Tk)(m:Nat→Nat→Option (Rs α))(s:Sr)(x:α)(s':Sr):Prop:=Post m s x s'∨(s.e=0∧ ∃o b p:Nat,s.o=o∧m s.a o=some (.bad b 3)∧s'=⟨b,p,0⟩∧ts.length≤b)
theorem PostL.bind{α β:Type}{ts:List Tk}{m:Nat→Nat→Option (Rs α)}{k:α→Nat→Nat→Option (Rs β)}{s s1 s2:Sr}{x:α}{y:β}(q:Post m s x s1)(r:PostL ts (k x) s1 y s2):PostL ts (fun a o=>rb (m a o) k) s y s2:=by
 rcases r with r|⟨h0,o,b,p,ho,hm,hs,hb⟩
 ·exact .inl (q.bind r)
 ·obtain⟨h1,o',a',p',e1,e2,e3⟩:=q.ok h0
  rw[e3]at ho hm;have ho:(p':Int)=o:=ho;obtain rfl:p'=o:=by omega
  exact .inr ⟨h1,o',b,p,e1,by show rb (m s.a o') k=_;rw[e2];exact hm,hs,hb⟩
theorem Qm{α β:Type}{ts:List Tk}{m:Nat→Nat→Option (Rs α)}{g:α→β}{s s1 s2:Sr}{x:α}(q:PostL ts m s x s1)(h:s1.e=0→ ∃o:Nat,s1.o=o)(r:Post (endM ts [125]) s1 () s2):Post (fun a o=>rb (m a o) fun l a o=>rb (endM ts [125] a o) fun _ a o=>ret (g l) a o) s (g x) s2:=by
 rcases q with q|⟨h0,o,b,p,ho,hm,rfl,hb⟩
 ·refine q.bind (r.bind (k:=fun _ a o=>ret (g x) a o) (Post.ret (m:=fun a o=>ret (g x) a o) fun h=> ?_))
  obtain⟨_,o4,a4,p4,_,_,w⟩:=r.ok h;rw[w];exact⟨p4,rfl,_,rfl⟩
 ·have hs:sees ts b [125]=false:=by
   rw[←Bool.not_eq_true];intro hh;have:=bX hh;omega
  obtain⟨o',ho',r⟩:=r.2 rfl;have hE:endM ts [125] b o'=some (.bad b 3):=by unfold endM;rw[if_pos hs]
  rcases r with ⟨a2,p2,z,_⟩|⟨b2,e2,z,z1,z2,z3⟩
  ·rw[hE]at z;cases z
  ·rw[hE]at z
   cases z
   exact⟨fun h=>absurd h0 h,fun _=>⟨o,ho,.inr ⟨b,3,by show rb (m s.a o) _=_;rw[hm];rfl,z1,z2,z3⟩⟩⟩
theorem HD{ts:List Tk}{f a o:Nat}(h:ts.length≤a):stM ts (f+1) .st a o=some (.bad a 3):=by
 have hs: ∀x,sees ts a x=false:=fun x=>by
  rw[←Bool.not_eq_true];intro hh;have:=bX hh;omega
 have hk: ¬(pk ts a).kind=1:=by rw[uZ h];decide
 rw[stM,if_neg hk]
 simp only[hs,Bool.false_eq_true,if_false]
theorem GJ{ts:List Tk}(hts:ts.length≤4194304): ∀(f:Nat),(∀g,g<f→StR ts g)→ ∀(l:List Nd) (s:Sr),Pre (stM ts f (.li l)) s→(s.e=0→l.length≤s.a) →
  ∃l' s',LpL ts l s l' s'∧PostL ts (stM ts f (.li l)) s [l'] s'∧(s'.e=0→s'.o=s.o):=by
 intro f
 induction f with
 | zero =>
  intro hS l s hp hb
  by_cases he:s.e=0
  ·obtain⟨o,_,r,hr⟩:=hp he
   cases hr
  ·exact⟨l,s,.stop (.inl he),.inl (Post.of_err he rfl rfl),fun h=>absurd h he⟩
 | succ f ih =>
  intro hS l s hp hb
  by_cases he:s.e=0
  case neg=>exact⟨l,s,.stop (.inl he),.inl (Post.of_err he rfl rfl),fun h=>absurd h he⟩
  obtain⟨a,o',e⟩:=s;cases he
  obtain⟨o,ho,r,hr⟩:=hp rfl;have ho:o'=(o:Int):=ho;subst ho;have hr:stM ts (f+1) (.li l) a o=some r:=hr;have hb:=hb rfl;simp only at hb
  by_cases hs:sees ts a [125]=true
  ·exact⟨l,⟨a,o,0⟩,.stop (.inr (.inr hs)),.inl (Post.of_ok (by rw[stM,if_pos hs];rfl)),fun _=>rfl⟩
  have hM: ∀o,stM ts (f+1) (.li l) a o=rb (stM ts f .st a o) fun s a o=>stM ts f (.li (l++[theS s])) a o:=fun o=>by rw[stM,if_neg hs]
  by_cases hlt:a<ts.length
  case neg =>
   refine⟨l,⟨a,o,0⟩,.stop (.inr (.inl (by show ts.length≤a;omega))),.inr ⟨rfl,o,a,o,rfl,?_,rfl,by omega⟩,fun _=>rfl⟩
   cases f with
   | zero=>rw[hM]at hr;cases hr
   | succ g=>exact(hM o).trans (by rw[HD (by omega)];rfl)
  have hp2:Pre (fun a o=>rb (stM ts f .st a o) fun s a o=>stM ts f (.li (l++[theS s])) a o) ⟨a,o,0⟩:=Pre.congr (fun _=>funext hM) hp
  obtain⟨x,⟨a1,o1,e1⟩,q,d⟩:=hS f (Nat.lt_succ_self f) a o hlt hp2.fst
  have hk:e1=0→o1=(o:Int)∧a<a1:=fun h=>by
   obtain⟨_,o2,a2,p2,w1,w2,w3⟩:=q.ok h;have w2:stM ts f .st a o2=some (.ok x a2 p2):=w2;have:=(fI ts f).1 _ _ _ _ _ w2;have w4:a1=a2:=congrArg Sr.a w3;have w5:o1=(p2:Int):=congrArg Sr.o w3;have w1:(o:Int)=o2:=w1;omega
  obtain⟨l',s',hL,hq,ho⟩:=ih (fun g hg=>hS g (by omega)) (l++[theS x]) ⟨a1,o1,e1⟩ (hp2.snd q) (fun h=>by
   have:=hk h;rw[List.length_append];show l.length+1≤a1
   omega)
  refine⟨l',s',.step (by omega) hlt (by rw[←Bool.not_eq_true];exact hs) d hL,?_,fun h=> ?_⟩
  ·have hh:=PostL.bind (k:=fun s a o=>stM ts f (.li (l++[theS s])) a o) q hq
   rcases hh with hh|⟨h0,o2,b,p,w1,w2,w3,w4⟩
   ·exact .inl (Post.congr (fun _=>funext hM) hh)
   ·exact .inr ⟨h0,o2,b,p,w1,by show stM ts (f+1) (.li l) a o2=_;rw[hM];exact w2,w3,w4⟩
  ·have h1:=ho h
   have he1:e1=0:=by
    rcases hq with hq|⟨h0,_⟩
    ·exact(hq.ok h).1
    ·exact h0
   rw[h1];exact(hk he1).1
def iW:=A15 @nJ @kE @cQ @hG @Nk @mD @uT @kI @gX @jB @nH @gH @kG @kC @cN
set_option maxHeartbeats 4000000 in
theorem Ic{ts:List Tk}(hts:ts.length≤4194304){s s':Sr}{l':List Nd}(hL:LpL ts [] s l' s'):DC Tryz.prog 129 [.pt 0 0] [rbx ts s] (.sl (l'.map ndV) .ro) [rbx ts s']:=by
 refine DC.enter 32 Tryz.func129 rfl (by decide) rfl rfl (s:=[(0,.pt 0 0)]) (by rfl) ?_
 refine wG iW TI ?_
 refine bH ?_
 refine ALp.ghost 3 [] .nl 165 7 ?_
 suffices H: ∀(l:List Nd) (s:Sr),LpL ts l s l' s'→ALp _ _ _ _ _ ⟨dn 32 [(0,.pt 0 0),(3,.sl ((l).map ndV) (.own 1))],ofl [rbx ts s,.tip 165 7 (l).length]⟩ by
  simp only[rbx]at H ⊢;refine ALp.cutP 2 [(0,.pt 0 0),(3,.sl ((([]:List Nd)).map ndV) (.own 1))] [.box [.sl (ts.map tkV) .ro,(.im (.int .i64 ((s.a:Nat)))),(.im (.int .i64 (s.o))),(.im (.int .i64 (s.e)))],.tip 165 7 (([]:List Nd)).length] fW ?_;exact H [] s hL
 clear hL
 intro l s hL
 induction hL with
 | @stop l s h =>
  obtain⟨a,o,e⟩:=s;simp only[rbx]at h ⊢;refine cD ?_
  by_cases he:e=0
  case neg =>
   refine wdG iW he ?_;refine aO (rs:=[.tmp 2]) rfl (by first|exact .inl rfl|exact .inr rfl) (finG iW) ?_ rfl (idG fW)
   show WkF _ _ _ (.sl (l.map ndV) .ro)
   all_goals exact wkG fW
  subst he
  by_cases hlt:a<ts.length
  case neg =>
   have hn: ¬(a:Int)<(ts.length:Int):=by omega
   refine wdG iW (AI hn @List.length_map.{0,0}) ?_;refine aO (rs:=[.tmp 2]) rfl (by first|exact .inl rfl|exact .inr rfl) (finG iW) ?_ rfl (idG fW)
   show WkF _ _ _ (.sl (l.map ndV) .ro)
   all_goals exact wkG fW
  have hs:sees ts a [125]=true:=by
   rcases h with h|h|h
   ·exact absurd rfl h
   ·omega
   ·exact h
  have hn:(a:Int)<(ts.length:Int):=by omega
  have hi:=oR ts a o 0 [125];rw[gI,hs]at hi;refine wdG iW (AI hn @List.length_map.{0,0}) ?_;refine aA [0] hi TI fW kJ ?_;refine goG iW TI ?_;refine wdG iW TI ?_;refine aO (rs:=[.tmp 2]) rfl (by first|exact .inl rfl|exact .inr rfl) (finG iW) ?_ rfl (idG fW)
  show WkF _ _ _ (.sl (l.map ndV) .ro)
  all_goals exact wkG fW
 | @step l l' a a1 o o1 e1 x s' hl hlt hn d r ih =>
  have hn':(a:Int)<(ts.length:Int):=by omega
  have hi:=oR ts a o 0 [125];rw[gI,hn]at hi;obtain⟨B,hB⟩: ∃B,B=l++[x]:=⟨_,rfl⟩
  have hAs:l.map ndV++[ndV x]=B.map ndV:=by rw[hB,List.map_append];rfl
  have hAl:l.length+1=B.length:=by rw[hB];simp
  have hbl:B.length*128≤140737488355328:=by omega
  rw[←hB]at ih;simp only[rbx]at d ih ⊢;refine cD ?_;refine wdG iW (AI hn' @List.length_map.{0,0}) ?_;refine aA [0] hi TI fW kJ ?_;refine goG iW TI ?_;refine wdG iW TI ?_;refine aA [0] d TI fW kJ ?_;refine goG iW (A6 ND hAs hAl hbl Hl @List.length_map.{0,0}) ?_;refine wG iW (A6 ND hAs hAl hbl Hl @List.length_map.{0,0}) ?_;refine ALp.cutP 2 [(0,.pt 0 0),(3,.sl ((B).map ndV) (.own 1))] [.box [.sl (ts.map tkV) .ro,(.im (.int .i64 ((a1:Nat)))),(.im (.int .i64 (o1))),(.im (.int .i64 (e1)))],.tip 165 7 (B).length] fW ?_;exact ih
set_option maxHeartbeats 2000000 in
theorem AQ{ts:List Tk}(hts:ts.length≤4194304)(f:Nat)(hS: ∀g,g<f→StR ts g):BrR ts (f+1):=by
 intro s hp
 have hM:stM ts (f+1) .br=fun a o=>rb (begM ts [123] a o) fun _ a o=>rb (stM ts f (.li []) a o) fun l a o=>rb (endM ts [125] a o) fun _ a o=>ret l a o:=by funext a o;rw[stM]
 rw[hM]at hp ⊢
 obtain⟨⟨a1,o1,e1⟩,q1,b1,d1⟩:=kY ts hts s [123] hp.fst
 have p1:=hp.snd q1
 obtain⟨l,⟨a2,o2,e2⟩,hL,q2,b2⟩:=GJ hts f hS [] ⟨a1,o1,e1⟩ p1.fst (fun _=>Nat.zero_le _)
 have he1:e2=0→e1=0:=fun h=>by
  rcases q2 with q|⟨h0,_⟩
  ·exact(q.ok h).1
  ·exact h0
 have hb2:e2=0→1≤o2∧o2≤256:=fun h=>by
  have h2:=b2 h;have h1:=(b1 (he1 h)).2;simp only at h1 h2;omega
 have hpe:Pre (endM ts [125]) ⟨a2,o2,e2⟩:=fun h=>by
  have:=hb2 h;exact⟨o2.toNat,by show o2=_;omega,_,rfl⟩
 obtain⟨⟨a3,o3,e3⟩,q3,b3,d3⟩:=rW ts hts ⟨a2,o2,e2⟩ [125] hb2 hpe
 refine⟨[l],⟨a3,o3,e3⟩,q1.bind (Qm (g:=id) q2 (fun h=>(hpe h).imp fun _ h=>h.1) q3),?_⟩
 have d2:=Ic hts hL
 obtain⟨a,o,e⟩:=s
 clear q1 q2 q3 p1 hp hL b1 b2 b3 hb2 hpe he1
 show DC _ _ _ _ (nlV l) _
 unfold nlV
 simp only[rbx]at d1 d2 d3 ⊢
 refine DC.enter 11 Tryz.func239 rfl (by decide) rfl rfl (s:=[(0,.pt 0 0)]) (by rfl) ?_
 refine wG TI TI ?_
 refine aA [0] d1 TI fW kJ ?_
 refine goG TI TI ?_
 refine wG TI TI ?_
 refine aA [0] d2 TI fW kJ ?_
 refine goG TI TI ?_
 refine wG TI TI ?_
 refine aA [0] d3 TI fW kJ ?_
 refine goG TI TI ?_
 refine wG TI TI ?_
 refine aO (rs:=[.tmp 2]) rfl (by first|exact .inl rfl|exact .inr rfl) (finG TI) ?_ rfl (idG fW)
 all_goals exact wkG fW
theorem Ml(ts:List Tk)(hts:ts.length≤4194304)(s:Sr)(he:s.e≠0): ∃x s',s'.a=s.a∧s'.e=s.e∧DC Tryz.prog 239 [.pt 0 0] [rbx ts s] (liV x) [rbx ts s']:=by
 obtain⟨⟨a1,o1,e1⟩,q1,b1,d1⟩:=kY ts hts s [123] (Pre.err he)
 have h1:e1≠0:=q1.err he
 have d2:=Ic hts (.stop (.inl h1):LpL ts [] ⟨a1,o1,e1⟩ [] ⟨a1,o1,e1⟩)
 obtain⟨⟨a3,o3,e3⟩,q3,b3,d3⟩:=rW ts hts ⟨a1,o1,e1⟩ [125] (fun h=>absurd h h1) (Pre.err h1)
 refine⟨[[]],⟨a3,o3,e3⟩,(q3.1 h1).1.trans (q1.1 he).1,(q3.1 h1).2.trans (q1.1 he).2,?_⟩
 obtain⟨a,o,e⟩:=s
 clear q1 q3 b1 b3
 show DC _ _ _ _ (nlV []) _
 unfold nlV
 simp only[rbx]at d1 d2 d3 ⊢
 refine DC.enter 11 Tryz.func239 rfl (by decide) rfl rfl (s:=[(0,.pt 0 0)]) (by rfl) ?_
 refine wG TI TI ?_
 refine aA [0] d1 TI fW kJ ?_
 refine goG TI TI ?_
 refine wG TI TI ?_
 refine aA [0] d2 TI fW kJ ?_
 refine goG TI TI ?_
 refine wG TI TI ?_
 refine aA [0] d3 TI fW kJ ?_
 refine goG TI TI ?_
 refine wG TI TI ?_
 refine aO (rs:=[.tmp 2]) rfl (by first|exact .inl rfl|exact .inr rfl) (finG TI) ?_ rfl (idG fW)
 all_goals exact wkG fW
theorem Uu{ts:List Tk}(hts:ts.length≤4194304)(hok: ∀t∈ts,TkOk t){f:Nat}(hT: ∀g,g≤f→TyR ts g)(s:Sr)(hp:Pre (fun a o=>rb (begM ts [123] a o) fun _ a o=>tyM ts f (.fl []) a o) s) :
  ∃x s',Post (fun a o=>rb (begM ts [123] a o) fun _ a o=>tyM ts f (.fl []) a o) s x s'∧DC Tryz.prog 226 [.pt 0 0] [rbx ts s] (tyV x) [rbx ts s']:=by
 obtain⟨s1,q1,b1,d1⟩:=kY ts hts s [123] hp.fst
 have p1:=hp.snd q1
 by_cases h1:s1.e=0
 case neg =>
  obtain⟨s2,q2,_,d2⟩:=rW ts hts s1 [125] (fun h=>absurd h h1) (Pre.err h1)
  exact⟨.mk 0 5 0 0 [] [],s2,q1.bind (Post.of_err h1 (q2.1 h1).1 (q2.1 h1).2),yR hts d1 (by rw[tJ h1];exact .stop (.inr h1)) d2⟩
 obtain⟨_,hb1,hb2⟩:=b1 h1
 have hlt:s1.a≤ts.length:=by
  obtain⟨_,o',a',p',_,w,w2⟩:=q1.ok h1;have:=cK w;have:=bX this.1;rw[w2];show a'≤_
  omega
 obtain⟨a1,o1,e1⟩:=s1
 cases h1
 obtain⟨p,hp1,r,hr⟩:=p1 rfl
 have hp1:o1=(p:Int):=hp1
 subst hp1
 have hr:tyM ts f (.fl []) a1 p=some r:=hr
 simp only at hb1 hb2 hlt
 cases f with
 | zero=>cases hr
 | succ g =>
 cases hs:sees ts a1 [125]with
 | true =>
  have hM: ∀o,tyM ts (g+1) (.fl []) a1 o=rb (endM ts [125] a1 o) fun _ a o=>ret (.mk 0 5 0 0 [] []) a o:=fun o=>by rw[tyM,if_pos hs]
  obtain⟨s2,q2,_,d2⟩:=rW ts hts ⟨a1,p,0⟩ [125] (fun _=>⟨hb1,hb2⟩) (fun _=>⟨p,rfl,_,rfl⟩)
  refine⟨.mk 0 5 0 0 [] [],s2,q1.bind (Post.congr (fun _=>funext hM) (q2.bind (k:=fun _ a o=>ret (.mk 0 5 0 0 [] []) a o) (Post.ret (m:=fun a o=>ret (.mk 0 5 0 0 [] []) a o) fun h=> ?_))),yR hts d1 (by show LpF ts [] (!isR ts a1 0 [125]) _ _ _;rw[gI,hs];exact .stop (.inl rfl)) d2⟩
  obtain⟨_,o4,a4,p4,_,_,w⟩:=q2.ok h;rw[w];exact⟨p4,rfl,_,rfl⟩
 | false =>
  have hM: ∀o,tyM ts (g+1) (.fl []) a1 o=flM ts g [] a1 o:=fun o=>by rw[tyM,if_neg (by rw[hs];decide),if_neg (by decide)];rfl
  obtain⟨l',s',hL,hpe,hbe,hq⟩:=LH hts hok g (fun h hh=>hT h (by omega)) [] ⟨a1,p,0⟩ (fun _=>⟨p,rfl,r,by show flM ts g [] a1 p=some r;rw[←hM];exact hr⟩) (fun _=>⟨⟨hb1,hb2⟩,Nat.zero_le _,hlt⟩)
  obtain⟨s2,q2,_,d2⟩:=rW ts hts s' [125] hbe hpe;exact⟨.mk 0 5 0 0 [] l',s2,q1.bind (Post.congr (fun _=>funext hM) (hq s2 q2)),yR hts d1 (by show LpF ts [] (!isR ts a1 0 [125]) _ _ _;rw[gI,hs];exact hL) d2⟩
def bA:=A16 @nJ @kE @cQ @eF @jG @oC @mD @sJ @kI @gX @sH @jB @vR @nQ @pZ (A9 @sF @nH @kG @kC @cN @dR @jF @nP @pX)
theorem Zp(ts:List Tk)(a:Nat)(o e:Int)(he:e≠0):DC Tryz.prog 173 [.pt 0 0] [.box [.sl (ts.map tkV) .ro,(.im (.int .i64 ((a:Nat)))),(.im (.int .i64 (o))),(.im (.int .i64 (e)))]] (tyV tyZ) [.box [.sl (ts.map tkV) .ro,(.im (.int .i64 ((a:Nat)))),(.im (.int .i64 (o))),(.im (.int .i64 (e)))]]:=by
 refine DC.enter 88 Tryz.func173 rfl (by decide) rfl rfl (s:=[(0,.pt 0 0)]) (by rfl) ?_
 refine wG bA he ?_
 refine aO (rs:=[.cell 2 94]) rfl (by first|exact .inl rfl|exact .inr rfl) (finG bA) ?_ rfl (idG BN02)
 simp only[tyZ,fY,List.map_nil]
 all_goals exact wkG BN02
set_option maxHeartbeats 4000000 in
theorem JH{ts:List Tk}{f:Nat}(hts:ts.length≤4194304)(hok: ∀t∈ts,TkOk t)(hT: ∀g,g≤f→TyR ts g):TyR ts (f+1):=by
 intro s hp
 by_cases hs:s.e=0
 case neg =>
  obtain⟨a,o,e⟩:=s;exact⟨tyZ,⟨a,o,e⟩,Post.of_err hs rfl rfl,Zp ts a o e hs⟩
 obtain⟨a,o',e⟩:=s
 cases hs
 obtain⟨o,ho,r,hr⟩:=hp rfl
 have ho:o'=(o:Int):=ho
 subst ho
 have hr:tyM ts (f+1) .ty a o=some r:=hr
 have i0:=fJ ts a o 0 [63] hts
 have i1:=oR ts a o 0 [42]
 have i2:=oR ts a o 0 [91]
 have i3:=oR ts a o 0 [123]
 have ik:=jM ts a o 0 1 (by decide)
 have hf:=rV ts a o 0
 rw[if_pos rfl]at hf
 rw[show decide ((0:Int)=0)=true from rfl,Bool.true_and]at ik
 rw[gI]at i0 i1 i2 i3
 by_cases k1:(pk ts a).kind=1
 ·have n2:(pk ts a).kind≠2:=by omega
  have n5:(pk ts a).kind≠5:=by omega
  rw[CN n2 n5]at i0 i1 i2 i3;rw[if_neg (by decide)]at i0
  rw[decide_eq_true k1]at ik;have hlt:=dQ k1 (by decide)
  obtain⟨hg,g0,gn⟩:=rtake hlt;have hw:=bD (m:=a) (N:=4194304) (by omega) (by decide)
  have hq:=Zx (pk ts a).text;cases hi:intR (pk ts a).text with
  | none =>
   rw[hi]at hq;refine⟨tyZ,⟨a,o,3⟩,Post.of_bad (by rw[tyM,if_pos k1,hi]) (by decide),?_⟩
   clear hp hr;unfold plR at hq;simp only[tyZ,fY,List.map_nil]at hq;simp only[rbx];generalize pk ts a=t at hg hq;refine DC.enter 88 Tryz.func173 rfl (by decide) rfl rfl (s:=[(0,.pt 0 0)]) (by rfl) ?_
   refine wG bA TI ?_;refine aA [0] i0 TI BN02 BN05 ?_;refine goG bA TI ?_;refine wG bA TI ?_;refine aA [0] i1 TI BN02 BN05 ?_;refine goG bA TI ?_;refine wG bA TI ?_;refine aA [0] i2 TI BN02 BN05 ?_;refine goG bA TI ?_;refine wG bA TI ?_;refine aA [0] i3 TI BN02 BN05 ?_;refine goG bA TI ?_;refine wG bA TI ?_;refine aA [0] ik TI BN02 BN05 ?_;refine goG bA TI ?_;refine wdG bA (A4 TKT hg g0 gn) ?_;refine AR.callP hq TI BN02 ?_;refine goG bA BN07 ?_;refine wdG bA BN07 ?_;refine aA [0] hf TI BN02 BN05 ?_;refine goG bA TI ?_;refine wG bA TI ?_;refine aO (rs:=[.cell 2 94]) rfl (by first|exact .inl rfl|exact .inr rfl) (finG bA) ?_ rfl (idG BN02)
   simp only[tyZ,fY,List.map_nil]
   all_goals exact wkG BN02
  | some w =>
   obtain⟨k,z⟩:=w;rw[hi]at hq;refine⟨.mk 0 k z 0 [] [],⟨a+1,o,0⟩,Post.of_ok (by rw[tyM,if_pos k1,hi];rfl),?_⟩
   clear hp hr;unfold plR at hq;simp only[fY,List.map_nil]at hq;simp only[rbx];generalize pk ts a=t at hg hq;refine DC.enter 88 Tryz.func173 rfl (by decide) rfl rfl (s:=[(0,.pt 0 0)]) (by rfl) ?_
   refine wG bA TI ?_;refine aA [0] i0 TI BN02 BN05 ?_;refine goG bA TI ?_;refine wG bA TI ?_;refine aA [0] i1 TI BN02 BN05 ?_;refine goG bA TI ?_;refine wG bA TI ?_;refine aA [0] i2 TI BN02 BN05 ?_;refine goG bA TI ?_;refine wG bA TI ?_;refine aA [0] i3 TI BN02 BN05 ?_;refine goG bA TI ?_;refine wG bA TI ?_;refine aA [0] ik TI BN02 BN05 ?_;refine goG bA TI ?_;refine wdG bA (A4 TKT hg g0 gn) ?_;refine AR.callP hq TI BN02 ?_;refine goG bA BN07 ?_;refine wdG bA (A15 @eS @eU @dK @dN @eQ @eP @eR @dL @eH @eG @eT @dO @List.getElem?_map.{0,0} @Int.natCast_nonneg hw) ?_;refine aO (rs:=[.cell 2 94]) rfl (by first|exact .inl rfl|exact .inr rfl) (finG bA) ?_ rfl (idG BN02)
   simp only[fY,List.map_nil]
   all_goals exact wkG BN02
 rw[decide_eq_false k1]at ik
 cases h63:sees ts a [63]with
 | true =>
  have hlt:=bX h63;rw[h63,if_pos rfl]at i0;refine⟨tyZ,⟨a+1,o,0⟩,Post.of_ok (by rw[tyM,if_neg k1,if_pos h63];rfl),?_⟩
  clear hp hr;simp only[rbx];refine DC.enter 88 Tryz.func173 rfl (by decide) rfl rfl (s:=[(0,.pt 0 0)]) (by rfl) ?_
  refine wG bA TI ?_;refine aA [0] i0 TI BN02 BN05 ?_;refine goG bA TI ?_;refine wG bA TI ?_;refine aO (rs:=[.cell 2 94]) rfl (by first|exact .inl rfl|exact .inr rfl) (finG bA) ?_ rfl (idG BN02)
  simp only[tyZ,fY,List.map_nil]
  all_goals exact wkG BN02
 | false =>
 rw[h63,if_neg (by decide)]at i0
 cases h42:sees ts a [42]with
 | true =>
  rw[h42]at i1;have hM: ∀o,tyM ts (f+1) .ty a o=rb (begM ts [42] a o) fun _ a o=>rb (tyM ts f .ty a o) fun x a o=>ret (Ty.mk 0 3 0 0 [x] []) a (o-1):=fun o=>by rw[tyM,if_neg k1,if_neg (by rw[h63];decide),if_pos h42]
  have hp:Pre (fun a o=>rb (begM ts [42] a o) fun _ a o=>rb (tyM ts f .ty a o) fun x a o=>ret (Ty.mk 0 3 0 0 [x] []) a (o-1)) ⟨a,o,0⟩:=Pre.congr (fun _=>funext hM) hp
  obtain⟨s1,q1,b1,d1⟩:=kY ts hts ⟨a,o,0⟩ [42] hp.fst;have p1:=hp.snd q1;obtain⟨x,s2,q2,d2⟩:=hT f (Nat.le_refl f) s1 p1.fst;have p2:=p1.snd q2;refine⟨.mk 0 3 0 0 [x] [],⟨s2.a,IntKind.i64.wrap (s2.o-1),s2.e⟩,Post.congr (m':=fun a o=>rb (begM ts [42] a o) fun _ a o=>rb (tyM ts f .ty a o) fun x a o=>ret (Ty.mk 0 3 0 0 [x] []) a (o-1)) (fun _=>funext hM) (q1.bind (q2.bind (postDec (fun h=>by obtain⟨h0,e⟩:=Gw q2 h;rw[e];exact(b1 h0).2) p2))),?_⟩
  obtain⟨a1,o1,e1⟩:=s1;obtain⟨a2,o2,e2⟩:=s2;clear q1 q2 p1 p2 hp b1 hM hr;simp only[rbx]at d1 d2 ⊢;refine DC.enter 88 Tryz.func173 rfl (by decide) rfl rfl (s:=[(0,.pt 0 0)]) (by rfl) ?_
  refine wG bA TI ?_;refine aA [0] i0 TI BN02 BN05 ?_;refine goG bA TI ?_;refine wG bA TI ?_;refine aA [0] i1 TI BN02 BN05 ?_;refine goG bA TI ?_;refine wG bA TI ?_;refine aA [0] d1 TI BN02 BN05 ?_;refine goG bA TI ?_;refine wG bA TI ?_;refine aA [0] d2 TI BN02 BN05 ?_;refine goG bA BN07 ?_;refine wG bA BN07 ?_;refine aO (rs:=[.cell 2 94]) rfl (by first|exact .inl rfl|exact .inr rfl) (finG bA) ?_ rfl (idG BN02)
  simp only[fY,List.map_nil,List.map_cons];rw[dS x]
  all_goals exact wkG BN02
 | false =>
 rw[h42]at i1
 cases h91:sees ts a [91]with
 | true =>
  rw[h91]at i2;have hM: ∀o,tyM ts (f+1) .ty a o=rb (begM ts [91] a o) fun _ a o=>rb (takM ts 3 a o) fun n a o=>rb (expM ts [93] a o) fun _ a o=>rb (tyM ts f .ty a o) fun x a o=>ret (Ty.mk 0 4 0 n.n [x] []) a (o-1):=fun o=>by rw[tyM,if_neg k1,if_neg (by rw[h63];decide),if_neg (by rw[h42];decide),if_pos h91]
  have hp:Pre (fun a o=>rb (begM ts [91] a o) fun _ a o=>rb (takM ts 3 a o) fun n a o=>rb (expM ts [93] a o) fun _ a o=>rb (tyM ts f .ty a o) fun x a o=>ret (Ty.mk 0 4 0 n.n [x] []) a (o-1)) ⟨a,o,0⟩:=Pre.congr (fun _=>funext hM) hp
  obtain⟨s1,q1,b1,d1⟩:=kY ts hts ⟨a,o,0⟩ [91] hp.fst;have p1:=hp.snd q1;obtain⟨n,s2,q2,b2,hn,d2⟩:=yP ts hts hok s1 p1.fst;have p2:=p1.snd q2;obtain⟨s3,q3,b3,d3⟩:=iL ts hts s2 [93] p2.fst;have p3:=p2.snd q3;obtain⟨x,s4,q4,d4⟩:=hT f (Nat.le_refl f) s3 p3.fst;have p4:=p3.snd q4;refine⟨.mk 0 4 0 n.n [x] [],⟨s4.a,IntKind.i64.wrap (s4.o-1),s4.e⟩,Post.congr (m':=fun a o=>rb (begM ts [91] a o) fun _ a o=>rb (takM ts 3 a o) fun n a o=>rb (expM ts [93] a o) fun _ a o=>rb (tyM ts f .ty a o) fun x a o=>ret (Ty.mk 0 4 0 n.n [x] []) a (o-1)) (fun _=>funext hM) (q1.bind (q2.bind (q3.bind (q4.bind (postDec (fun h=>by obtain⟨h0,e⟩:=Gw q4 h;rw[e,b3,b2];exact(b1 (q2.ok (q3.ok h0).1).1).2) p4))))),?_⟩
  have hwn:=cM (n:=n.n) (by omega)
  obtain⟨a1,o1,e1⟩:=s1;obtain⟨a2,o2,e2⟩:=s2;obtain⟨a3,o3,e3⟩:=s3;obtain⟨a4,o4,e4⟩:=s4;clear q1 q2 q3 q4 p1 p2 p3 p4 hp b1 b2 b3 hM hr;simp only[rbx]at d1 d2 d3 d4 ⊢;refine DC.enter 88 Tryz.func173 rfl (by decide) rfl rfl (s:=[(0,.pt 0 0)]) (by rfl) ?_
  refine wG bA TI ?_;refine aA [0] i0 TI BN02 BN05 ?_;refine goG bA TI ?_;refine wG bA TI ?_;refine aA [0] i1 TI BN02 BN05 ?_;refine goG bA TI ?_;refine wG bA TI ?_;refine aA [0] i2 TI BN02 BN05 ?_;refine goG bA TI ?_;refine wG bA TI ?_;refine aA [0] d1 TI BN02 BN05 ?_;refine goG bA TI ?_;refine wG bA TI ?_;refine aA [0] d2 TI BN02 BN05 ?_;refine goG bA TI ?_;refine wG bA TI ?_;refine aA [0] d3 TI BN02 BN05 ?_;refine goG bA TI ?_;refine wG bA TI ?_;refine aA [0] d4 TI BN02 BN05 ?_;refine goG bA BN07 ?_;refine wG bA (A15 @eS @eU @dK @dN @eQ @eP @eR @dL @eH @eG @eT @dO @List.getElem?_map.{0,0} @Int.natCast_nonneg hwn) ?_;refine aO (rs:=[.cell 2 94]) rfl (by first|exact .inl rfl|exact .inr rfl) (finG bA) ?_ rfl (idG BN02)
  simp only[fY,List.map_nil,List.map_cons];rw[dS x]
  all_goals exact wkG BN02
 | false =>
 rw[h91]at i2
 cases h123:sees ts a [123]with
 | true =>
  rw[h123]at i3;have hM: ∀o,tyM ts (f+1) .ty a o=rb (begM ts [123] a o) fun _ a o=>tyM ts f (.fl []) a o:=fun o=>by rw[tyM,if_neg k1,if_neg (by rw[h63];decide),if_neg (by rw[h42];decide),if_neg (by rw[h91];decide),if_pos h123]
  obtain⟨x,s',q,d⟩:=Uu hts hok hT ⟨a,o,0⟩ (Pre.congr (fun _=>funext hM) hp)
  refine⟨x,s',Post.congr (fun _=>funext hM) q,?_⟩
  obtain⟨a1,o1,e1⟩:=s';clear q hM hr hp;simp only[rbx]at d ⊢;refine DC.enter 88 Tryz.func173 rfl (by decide) rfl rfl (s:=[(0,.pt 0 0)]) (by rfl) ?_
  refine wG bA TI ?_;refine aA [0] i0 TI BN02 BN05 ?_;refine goG bA TI ?_;refine wG bA TI ?_;refine aA [0] i1 TI BN02 BN05 ?_;refine goG bA TI ?_;refine wG bA TI ?_;refine aA [0] i2 TI BN02 BN05 ?_;refine goG bA TI ?_;refine wG bA TI ?_;refine aA [0] i3 TI BN02 BN05 ?_;refine goG bA TI ?_;refine wG bA TI ?_;refine aA [0] d TI BN02 BN05 ?_;refine goG bA BN07 ?_;refine wG bA BN07 ?_;refine aO (rs:=[.cell 2 94]) rfl (by first|exact .inl rfl|exact .inr rfl) (finG bA) ?_ rfl (idG BN02)
  rw[dS x]
  all_goals exact wkG BN02
 | false =>
 rw[h123]at i3
 refine⟨tyZ,⟨a,o,3⟩,Post.of_bad (by rw[tyM,if_neg k1,if_neg (by rw[h63];decide),if_neg (by rw[h42];decide),if_neg (by rw[h91];decide),if_neg (by rw[h123];decide)]) (by decide),?_⟩
 clear hp hr
 simp only[rbx]
 refine DC.enter 88 Tryz.func173 rfl (by decide) rfl rfl (s:=[(0,.pt 0 0)]) (by rfl) ?_
 refine wG bA TI ?_
 refine aA [0] i0 TI BN02 BN05 ?_
 refine goG bA TI ?_
 refine wG bA TI ?_
 refine aA [0] i1 TI BN02 BN05 ?_
 refine goG bA TI ?_
 refine wG bA TI ?_
 refine aA [0] i2 TI BN02 BN05 ?_
 refine goG bA TI ?_
 refine wG bA TI ?_
 refine aA [0] i3 TI BN02 BN05 ?_
 refine goG bA TI ?_
 refine wG bA TI ?_
 refine aA [0] ik TI BN02 BN05 ?_
 refine goG bA TI ?_
 refine wG bA TI ?_
 refine aA [0] hf TI BN02 BN05 ?_
 refine goG bA TI ?_
 refine wG bA TI ?_
 refine aO (rs:=[.cell 2 94]) rfl (by first|exact .inl rfl|exact .inr rfl) (finG bA) ?_ rfl (idG BN02)
 simp only[tyZ,fY,List.map_nil]
 all_goals exact wkG BN02
theorem JG{ts:List Tk}(hts:ts.length≤4194304)(hok: ∀t∈ts,TkOk t): ∀f,TyR ts f:=by
 have key: ∀F f,f≤F→TyR ts f:=by
  intro F
  induction F with
  | zero =>
   intro f hf;obtain rfl:f=0:=by omega
   intro s hp
   by_cases he:s.e=0
   ·obtain⟨o,_,r,hr⟩:=hp he
    cases hr
   ·obtain⟨a,o,e⟩:=s
    exact⟨tyZ,⟨a,o,e⟩,Post.of_err he rfl rfl,Zp ts a o e he⟩
  | succ F ih =>
   intro f hf
   by_cases hle:f≤F
   ·exact ih f hle
   obtain rfl:f=F+1:=by omega
   exact JH hts hok ih
 exact fun f=>key f f (Nat.le_refl f)
theorem wX(u:Un)(hu:fitU u):PC Tryz.prog 15 [.ag [.sl (u.globals.map vaV) .ro,.sl (u.data.map scV) .ro,.sl (u.funcs.map fnV) .ro]] (.im (.int .i64 (unE u))):=Mm u hu
def jE:=A9 @kE @sN @qC @oD @uP @Ap @kC @oA @pY
def eN:=A10 aB aC @aX @aU cR dP jL iB aG kT
theorem KE(s:Bs)(hs:s.length≤4194304):PC Tryz.prog 19 [.im (.string ⟨(s).toArray⟩)] (.tu [fnV (funP s).1,(.im (.int .i64 ((funP s).2)))]):=by
 have h1:=Ij s hs
 obtain⟨hok,hts,hes⟩:=pM s
 unfold funP
 generalize scnR s=q at h1 hok hts hes
 obtain⟨ts,e⟩:=q
 simp only at h1 hok hts hes ⊢
 by_cases he:e=0
 case neg =>
  rw[if_pos he];refine PC.enter 29 Tryz.func19 rfl (by decide) rfl rfl (s:=[(0,.im (.string ⟨(s).toArray⟩))]) (by rfl) ?_
  refine wG jE TI ?_;refine AR.callP h1 TI eN ?_;refine goG jE TI ?_;refine wG jE he ?_;refine aJ (rs:=[.cell 2 37,.tmp 3]) rfl (by first|exact .inl rfl|exact .inr rfl) (finG jE) ?_
  all_goals exact wkG eN
 subst he
 rw[if_neg (by decide)]
 rcases yI ts with ⟨b,e,hz,hx,he,hb⟩|⟨x,b,p,hz,hx,hr⟩
 ·have h2:=Ge (by omega) hok _ _ hz
  change PC _ _ _ (.tu [fnV ⟨ByteArray.empty,[],[]⟩,.ag [(.im (.int .i64 ((b:Nat)))),(.im (.int .i64 (e)))]])at h2;have he: ¬e=0:=Uj he;rw[hx,if_pos he];refine PC.enter 29 Tryz.func19 rfl (by decide) rfl rfl (s:=[(0,.im (.string ⟨(s).toArray⟩))]) (by rfl) ?_
  refine wG jE TI ?_;refine AR.callP h1 TI eN ?_;refine goG jE TI ?_;refine wG jE TI ?_;refine AR.callP h2 TI eN ?_;refine goG jE FU ?_;refine wdG jE he ?_;refine aJ (rs:=[.cell 2 37,.tmp 3]) rfl (by first|exact .inl rfl|exact .inr rfl) (finG jE) ?_
  all_goals exact wkG eN
 have h2:=Ge (by omega) hok _ _ hz
 change PC _ _ _ (.tu [fnV x,.ag [(.im (.int .i64 (0))),(.im (.int .i64 (0)))]])at h2
 rw[hx,if_neg (fun h=>h rfl)]
 simp only
 refine PC.enter 29 Tryz.func19 rfl (by decide) rfl rfl (s:=[(0,.im (.string ⟨(s).toArray⟩))]) (by rfl) ?_
 refine wG jE TI ?_
 refine AR.callP h1 TI eN ?_
 refine goG jE TI ?_
 refine wG jE TI ?_
 refine AR.callP h2 TI eN ?_
 refine goG jE FU ?_
 refine wG jE FU ?_
 refine aJ (rs:=[.cell 2 37,.tmp 3]) rfl (by first|exact .inl rfl|exact .inr rfl) (finG jE) ?_
 rw[qG x]
 all_goals exact wkG eN
def fD:=A9 @xM @kE @xK @oD @uP @GA @uN @kC @pY
theorem AT(s:Bs)(hs:s.length≤4194304):PC Tryz.prog 13 [.im (.string ⟨(s).toArray⟩)] (.tu [unV (Vx s).1,(.im (.int .i64 ((Vx s).2)))]):=by
 have h1:=Ij s hs
 obtain⟨hok,hts,hes⟩:=pM s
 unfold Vx
 generalize scnR s=q at h1 hok hts hes
 obtain⟨ts,e⟩:=q
 simp only at h1 hok hts hes ⊢
 by_cases he:e=0
 case neg =>
  rw[if_pos he];refine PC.enter 36 Tryz.func13 rfl (by decide) rfl rfl (s:=[(0,.im (.string ⟨(s).toArray⟩))]) (by rfl) ?_
  refine wG fD TI ?_;refine AR.callP h1 TI eN ?_;refine goG fD TI ?_;refine wG fD he ?_;refine aJ (rs:=[.cell 2 27,.tmp 3]) rfl (by first|exact .inl rfl|exact .inr rfl) (finG fD) ?_
  all_goals exact wkG eN
 subst he
 rw[if_neg (by decide)]
 rcases Ek ts with ⟨b,e,hz,hx,he,hb⟩|⟨x,b,p,hz,hx,hr⟩
 ·have h2:=uJ (by omega) hok _ _ hz
  change PC _ _ _ (.tu [unV ⟨[],[],[]⟩,.ag [(.im (.int .i64 ((b:Nat)))),(.im (.int .i64 (e)))]])at h2;have he: ¬e=0:=Uj he;rw[hx,if_pos he];refine PC.enter 36 Tryz.func13 rfl (by decide) rfl rfl (s:=[(0,.im (.string ⟨(s).toArray⟩))]) (by rfl) ?_
  refine wG fD TI ?_;refine AR.callP h1 TI eN ?_;refine goG fD TI ?_;refine wG fD TI ?_;refine AR.callP h2 TI eN ?_;refine goG fD UNT ?_;refine wdG fD he ?_;refine aJ (rs:=[.cell 2 27,.tmp 3]) rfl (by first|exact .inl rfl|exact .inr rfl) (finG fD) ?_
  all_goals exact wkG eN
 have h2:=uJ (by omega) hok _ _ hz
 change PC _ _ _ (.tu [unV x,.ag [(.im (.int .i64 (0))),(.im (.int .i64 (0)))]])at h2
 have h3:=wX x (Ej hok hts hr)
 rw[hx,if_neg (fun h=>h rfl)]
 simp only
 by_cases hu:unE x=0
 case neg =>
  rw[if_pos hu];refine PC.enter 36 Tryz.func13 rfl (by decide) rfl rfl (s:=[(0,.im (.string ⟨(s).toArray⟩))]) (by rfl) ?_
  refine wG fD TI ?_;refine AR.callP h1 TI eN ?_;refine goG fD TI ?_;refine wG fD TI ?_;refine AR.callP h2 TI eN ?_;refine goG fD UNT ?_;refine wG fD UNT ?_;refine AR.callP h3 TI eN ?_;refine goG fD TI ?_;refine wG fD hu ?_;refine aJ (rs:=[.cell 2 27,.tmp 3]) rfl (by first|exact .inl rfl|exact .inr rfl) (finG fD) ?_
  all_goals exact wkG eN
 rw[if_neg (fun h=>h hu)]
 rw[hu]at h3
 refine PC.enter 36 Tryz.func13 rfl (by decide) rfl rfl (s:=[(0,.im (.string ⟨(s).toArray⟩))]) (by rfl) ?_
 refine wG fD TI ?_
 refine AR.callP h1 TI eN ?_
 refine goG fD TI ?_
 refine wG fD TI ?_
 refine AR.callP h2 TI eN ?_
 refine goG fD UNT ?_
 refine wG fD UNT ?_
 refine AR.callP h3 TI eN ?_
 refine goG fD TI ?_
 refine wG fD TI ?_
 refine aJ (rs:=[.cell 2 27,.tmp 3]) rfl (by first|exact .inl rfl|exact .inr rfl) (finG fD) ?_
 rw[sY x]
 all_goals exact wkG eN
def fA:=A13 @xM @kE @cQ @xK @oD @qA @Vm @uP @iI @uN @kC @cN @pY
theorem Vd(s:Bs)(hs:s.length≤4194304):PC Tryz.prog 25 [.im (.string ⟨(s).toArray⟩)] (.tu [(.im (.int .i64 ((Zf s).1.1))),(.im (.int .i64 ((Zf s).1.2))),(.im (.int .i64 ((Zf s).2)))]):=by
 have h1:=Ij s hs
 obtain⟨hok,hts,hes⟩:=pM s
 unfold Zf
 generalize scnR s=q at h1 hok hts hes
 obtain⟨ts,e⟩:=q
 simp only at h1 hok hts hes ⊢
 by_cases he3:e=3
 ·subst he3
  rw[if_pos rfl];have hw:=cM (n:=(ts.length:Int)-1) (by omega)
  have h2:=Da ts ((ts.length:Int)-1) (by omega)
  refine PC.enter 55 Tryz.func25 rfl (by decide) rfl rfl (s:=[(0,.im (.string ⟨(s).toArray⟩))]) (by rfl) ?_
  refine wG fA TI ?_;refine AR.callP h1 TI eN ?_;refine goG fA TI ?_;refine wG fA (AI hw @List.length_map.{0,0}) ?_;refine AR.callP h2 TI eN ?_;refine goG fA TI ?_;refine wG fA TI ?_;refine aJ (rs:=[.tmp 2,.tmp 3,.tmp 4]) rfl (by first|exact .inl rfl|exact .inr rfl) (finG fA) ?_
  all_goals exact wkG eN
 rw[if_neg he3]
 by_cases he:e=0
 case neg =>
  rw[if_pos he];refine PC.enter 55 Tryz.func25 rfl (by decide) rfl rfl (s:=[(0,.im (.string ⟨(s).toArray⟩))]) (by rfl) ?_
  refine wG fA TI ?_;refine AR.callP h1 TI eN ?_;refine goG fA TI ?_;refine wG fA (AI he he3) ?_;refine aJ (rs:=[.tmp 2,.tmp 3,.tmp 4]) rfl (by first|exact .inl rfl|exact .inr rfl) (finG fA) ?_
  all_goals exact wkG eN
 subst he
 rw[if_neg (by decide)]
 rcases Ek ts with ⟨b,e,hz,hx,he,hb⟩|⟨x,b,p,hz,hx,hr⟩
 ·have h2:=uJ (by omega) hok _ _ hz
  change PC _ _ _ (.tu [unV ⟨[],[],[]⟩,.ag [(.im (.int .i64 ((b:Nat)))),(.im (.int .i64 (e)))]])at h2;have he: ¬e=0:=Uj he;have h3:=Da ts (b:Int) (by omega)
  rw[hx,if_pos he];refine PC.enter 55 Tryz.func25 rfl (by decide) rfl rfl (s:=[(0,.im (.string ⟨(s).toArray⟩))]) (by rfl) ?_
  refine wG fA TI ?_;refine AR.callP h1 TI eN ?_;refine goG fA TI ?_;refine wG fA TI ?_;refine AR.callP h2 TI eN ?_;refine goG fA UNT ?_;refine wG fA he ?_;refine AR.callP h3 TI eN ?_;refine goG fA TI ?_;refine wdG fA TI ?_;refine aJ (rs:=[.tmp 2,.tmp 3,.tmp 4]) rfl (by first|exact .inl rfl|exact .inr rfl) (finG fA) ?_
  all_goals exact wkG eN
 have h2:=uJ (by omega) hok _ _ hz
 change PC _ _ _ (.tu [unV x,.ag [(.im (.int .i64 (0))),(.im (.int .i64 (0)))]])at h2
 have h3:=wX x (Ej hok hts hr)
 rw[hx,if_neg (fun h=>h rfl)]
 simp only
 refine PC.enter 55 Tryz.func25 rfl (by decide) rfl rfl (s:=[(0,.im (.string ⟨(s).toArray⟩))]) (by rfl) ?_
 refine wG fA TI ?_
 refine AR.callP h1 TI eN ?_
 refine goG fA TI ?_
 refine wG fA TI ?_
 refine AR.callP h2 TI eN ?_
 refine goG fA UNT ?_
 refine wG fA UNT ?_
 refine AR.callP h3 TI eN ?_
 refine goG fA TI ?_
 refine wG fA TI ?_
 refine aJ (rs:=[.tmp 2,.tmp 3,.tmp 4]) rfl (by first|exact .inl rfl|exact .inr rfl) (finG fA) ?_
 all_goals exact wkG eN
def nmX(s:Bs):Ex:= .mk 2 0 ⟨s.toArray⟩ 0 []
def coX(n:Int):Ex:= .mk 1 n ByteArray.empty 0 []
def twX(o:Int)(a b:Ex):Ex:= .mk o 0 ByteArray.empty 0 [a,b]
def s1X:Bs:=[114,48,32,45,32,49,32,45,32,114,49,32,42,32,50]
def s2X:Bs:=[45,114,48,32,42,32,50]
def s3X:Bs:=[114,48,32,43]
def s4X:Bs:=[102,117,110,99,32,109,97,105,110,32,123,32,114,48,32,61,32,49,59,32,104,97,108,116,59,32,125]
def s5X:Bs:=[118,97,114,32,114,48,58,32,117,105,110,116,51,50,59,32,102,117,110,99,32,109,97,105,110,32,123,32,114,48,32,61,32,49,59,32,104,97,108,116,59,32,125]
def s6X:Bs:=[102,117,110,99,32,102,32,123,10,32,32,104,97,108,116,10,125]
theorem e1X:expP s1X=(twX 4 (twX 4 (nmX [114,48]) (coX 1)) (twX 5 (nmX [114,49]) (coX 2)),0):=by kernel_rfl
theorem e2X:expP s2X=(twX 5 (mkU 17 0 (nmX [114,48])) (coX 2),0):=by kernel_rfl
theorem e3X:expP s3X=(ex0,3):=by kernel_rfl
theorem e4X:Vx s4X=(uz0,17):=by kernel_rfl
def v5X:Va:=⟨⟨#[114,48]⟩,.mk 0 2 4 0 [] []⟩
def f5X:Fun:=⟨⟨#[109,97,105,110]⟩,[],[.mk 1 0 ⟨#[114,48]⟩ [coX 1] [] [] [],.mk 15 0 ByteArray.empty [] [] [] []]⟩
theorem e5X:Vx s5X=(⟨[v5X],[],[f5X]⟩,0):=by kernel_rfl
theorem e6X:Zf s6X=((3,1),3):=by kernel_rfl
def jZ:=A16 @oF @Jj @cQ @kD @xK @fG @mC @Jc @fM @rH @uS @uQ @mQ @mB @An (A6 @uN @cN @oA @kA @dG @kQ)
def vO:=A12 aB aC @aE @aD @aX @aU cR dP jL iB aG kT
set_option maxRecDepth 4000 in
set_option maxHeartbeats 4000000 in
theorem GQ:PC Tryz.prog 12 [] (.im (.bool (true))):=by
 have h1:=Ik s1X (by decide)
 have h2:=Ik s2X (by decide)
 have h3:=Ik s3X (by decide)
 have h4:=AT s4X (by decide)
 have h5:=AT s5X (by decide)
 have h6:=Vd s6X (by decide)
 rw[e1X]at h1
 rw[e2X]at h2
 rw[e3X]at h3
 rw[e4X]at h4
 rw[e5X]at h5
 rw[e6X]at h6
 simp only[twX,nmX,coX,mkU,ex0,jH,List.map_cons,List.map_nil,sY,uz0]at h1 h2 h3 h4 h5 h6
 unfold s1X at h1
 unfold s2X at h2
 unfold s3X at h3
 unfold s4X at h4
 unfold s5X at h5
 unfold s6X at h6
 generalize vaV v5X=va at h5
 generalize fnV f5X=fa at h5
 refine PC.enter 127 Tryz.func12 rfl (by decide) rfl rfl (s:=[]) (by rfl) ?_
 simp only[List.append]
 refine wG jZ TI ?_
 refine AR.callP h1 TI vO ?_
 refine goG jZ TI ?_
 refine wG jZ TI ?_
 refine AR.callP h2 TI vO ?_
 refine goG jZ TI ?_
 refine wG jZ TI ?_
 refine AR.callP h3 TI vO ?_
 refine goG jZ TI ?_
 refine wG jZ TI ?_
 refine AR.callP h4 TI vO ?_
 refine goG jZ TI ?_
 refine wG jZ TI ?_
 refine AR.callP h5 TI vO ?_
 refine goG jZ TI ?_
 refine wG jZ TI ?_
 refine AR.callP h6 TI vO ?_
 refine goG jZ TI ?_
 refine wG jZ TI ?_
 refine aJ (rs:=[.tmp 0]) rfl (by first|exact .inl rfl|exact .inr rfl) (finG jZ) ?_
 all_goals exact wkG vO
end Go.Proofs.YtmbmmckagcdapaaGreatDoor
