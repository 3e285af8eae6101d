import Derived.Test.YtmbmmckagcdapaaGreatDoorV30
set_option maxHeartbeats 4000000
set_option linter.all false
namespace Go.Proofs.YtmbmmckagcdapaaGreatDoor
open Go.RowKit
def Ru(r:Bs):UInt8×Nat:=match escP r with
 | some (c,k)=>(c,k+1)
 | none=>(0,0)
theorem Bl{r:Bs}{c:UInt8}{k:Nat}(h:escP r=some (c,k)):Ru r=(c,k+1):=by unfold Ru;rw[h]
theorem tC{r:Bs}(h:escP r=none):Ru r=(0,0):=by unfold Ru;rw[h]
theorem OU(x y:Nat)(hx:x<16)(hy:y<16):IntKind.u8.wrap (((16*x+y:Nat)):Int)=(((UInt8.ofNat (16*x+y)).toNat:Nat):Int):=by
 rw[IntWalk.u8_in _ (by omega),UInt8.toNat_ofNat_of_lt' (by show 16*x+y<256;omega)]
theorem Fr{x y:UInt8}{r:Bs}:escP (120::x::y::r)=(match hexv x,hexv y with
  | some a,some b=>some (UInt8.ofNat (16*a+b),3)
  | _,_=>none):=by
 rw[escP,if_neg (by decide),if_pos (by decide),Og]
 cases hexv x<;>cases hexv y<;>rfl
theorem Rt{r:Bs}(h:r.length<2):escP (120::r)=none:=by
 rw[escP,if_neg (by decide),if_pos (by decide)]
 match r,h with
 | [],_=>rfl
 | [a],_=>rfl
def fK:=A5 @pU @xT @pT @pS @gI
theorem NY(s:Bs)(a:Nat)(ha:a<s.length)(hs:s.length≤4194304):PC Tryz.prog 224 [.im (.string ⟨(s).toArray⟩),(.im (.int .i64 ((a:Int))))] (.tu [.im (.int .u8 (((Ru (s.drop (a+1))).1.toNat:Int))),(.im (.int .i64 (((Ru (s.drop (a+1))).2:Int))))]):=by
 have w1:IntKind.i64.wrap ((a:Int)+1)=((a+1:Nat):Int):=by rw[cI (by omega)];omega
 have w2:IntKind.i64.wrap ((a:Int)+2)=((a+2:Nat):Int):=by rw[cI (by omega)];omega
 have w3:IntKind.i64.wrap ((a:Int)+3)=((a+3:Nat):Int):=by rw[cI (by omega)];omega
 by_cases h1:a+1<s.length
 case neg =>
  have e1:((a+1:Nat):Int)≥(s.length:Int):=by omega
  rw[show s.drop (a+1)=[]from List.drop_eq_nil_of_le (by omega),show Ru []=(0,0)from rfl]
  refine pcEnt 68 Tryz.func224 rfl [(0,.im (.string ⟨(s).toArray⟩)),(1,(.im (.int .i64 ((a:Int)))))] ?_
  refine wG fK (A3 BY w1 e1) ?_;refine fiGenO [.tmp 4,.tmp 5] (finG fK) ?_
  all_goals exact wkG aH
 have e1: ¬((a+1:Nat):Int)≥(s.length:Int):=by omega
 have g1:s[a+1]? =some s[a+1]:=List.getElem?_eq_getElem h1
 have d1:s.drop (a+1)=s[a+1]::s.drop (a+2):=List.drop_eq_getElem_cons h1
 generalize s[a+1]=c at g1 d1
 by_cases h34:c.toNat=34∨c.toNat=92
 ·rw[d1,Bl (show escP (c::s.drop (a+2))=some (c,1) by rw[escP,if_pos h34])]
  by_cases k:c.toNat=34
  ·have e2:(c.toNat:Int)=34:=by omega
   rw[e2];refine pcEnt 68 Tryz.func224 rfl [(0,.im (.string ⟨(s).toArray⟩)),(1,(.im (.int .i64 ((a:Int)))))] ?_
   refine wG fK (A5 BY w1 e1 g1 e2) ?_;refine fiGenO [.tmp 4,.tmp 5] (finG fK) ?_
   all_goals exact wkG aH
  ·have e2: ¬(c.toNat:Int)=34:=by omega
   have e3:(c.toNat:Int)=92:=by omega
   rw[e3];refine pcEnt 68 Tryz.func224 rfl [(0,.im (.string ⟨(s).toArray⟩)),(1,(.im (.int .i64 ((a:Int)))))] ?_
   refine wG fK (A6 BY w1 e1 g1 e2 e3) ?_;refine fiGenO [.tmp 4,.tmp 5] (finG fK) ?_
   all_goals exact wkG aH
 have e2: ¬(c.toNat:Int)=34:=by omega
 have e3: ¬(c.toNat:Int)=92:=by omega
 by_cases h120:c.toNat=120
 case neg =>
  have e4: ¬(c.toNat:Int)=120:=by omega
  rw[d1,tC (show escP (c::s.drop (a+2))=none by rw[escP,if_neg h34,if_neg h120])]
  refine pcEnt 68 Tryz.func224 rfl [(0,.im (.string ⟨(s).toArray⟩)),(1,(.im (.int .i64 ((a:Int)))))] ?_
  refine wG fK (A7 BY w1 e1 g1 e2 e3 e4) ?_;refine fiGenO [.tmp 4,.tmp 5] (finG fK) ?_
  all_goals exact wkG aH
 have e4:(c.toNat:Int)=120:=by omega
 have hc:c=120:=toNat_inj h120
 by_cases h3:a+3<s.length
 case neg =>
  have e5:((a+3:Nat):Int)≥(s.length:Int):=by omega
  rw[d1,hc,tC (Rt (by rw[List.length_drop];omega))]
  refine pcEnt 68 Tryz.func224 rfl [(0,.im (.string ⟨(s).toArray⟩)),(1,(.im (.int .i64 ((a:Int)))))] ?_
  refine wG fK (A9 BY w1 w3 e1 g1 e2 e3 e4 e5) ?_;refine fiGenO [.tmp 4,.tmp 5] (finG fK) ?_
  all_goals exact wkG aH
 have e5: ¬((a+3:Nat):Int)≥(s.length:Int):=by omega
 have g2:s[a+2]? =some s[a+2]:=List.getElem?_eq_getElem (by omega)
 have g3:s[a+3]? =some s[a+3]:=List.getElem?_eq_getElem h3
 have d2:s.drop (a+2)=s[a+2]::s.drop (a+3):=List.drop_eq_getElem_cons (by omega)
 have d3:s.drop (a+3)=s[a+3]::s.drop (a+4):=List.drop_eq_getElem_cons h3
 have qx:=Dh s[a+2]
 have qy:=Dh s[a+3]
 rw[d1,hc,d2,d3]
 generalize s[a+2]=x at g2 qx
 generalize s[a+3]=y at g3 qy
 cases hx:hexv x with
 | none =>
  rw[oR hx]at qx;rw[tC (by rw[Fr,hx])]
  refine pcEnt 68 Tryz.func224 rfl [(0,.im (.string ⟨(s).toArray⟩)),(1,(.im (.int .i64 ((a:Int)))))] ?_
  refine wG fK (A12 BY w1 w2 w3 e1 g1 g2 g3 e2 e3 e4 e5) ?_;refine AR.callP qx TI aH ?_;refine goG fK (A6 BY w1 w2 w3 g2 g3) ?_;refine wG fK TI ?_;refine fiGenO [.tmp 4,.tmp 5] (finG fK) ?_
  all_goals exact wkG aH
 | some u =>
 have hu:=Da hx
 have hu0: ¬(u:Int)<0:=by omega
 rw[mG hx]at qx
 cases hy:hexv y with
 | none =>
  rw[oR hy]at qy;rw[tC (by rw[Fr,hx,hy])]
  refine pcEnt 68 Tryz.func224 rfl [(0,.im (.string ⟨(s).toArray⟩)),(1,(.im (.int .i64 ((a:Int)))))] ?_
  refine wG fK (A12 BY w1 w2 w3 e1 g1 g2 g3 e2 e3 e4 e5) ?_;refine AR.callP qx TI aH ?_;refine goG fK (A7 BY w1 w2 w3 g2 g3 hu0) ?_;refine AR.callP qy TI aH ?_;refine goG fK TI ?_;refine wG fK TI ?_;refine fiGenO [.tmp 4,.tmp 5] (finG fK) ?_
  all_goals exact wkG aH
 | some v =>
  have hv:=Da hy;have hv0: ¬(v:Int)<0:=by omega
  rw[mG hy]at qy;rw[Bl (by rw[Fr,hx,hy])]
  have m1:IntKind.i64.wrap (16*(u:Int))=((16*u:Nat):Int):=by rw[cI (by omega)];omega
  have m2:IntKind.i64.wrap (((16*u:Nat):Int)+(v:Int))=((16*u+v:Nat):Int):=by rw[cI (by omega)];omega
  have m3:=OU u v hu hv;refine pcEnt 68 Tryz.func224 rfl [(0,.im (.string ⟨(s).toArray⟩)),(1,(.im (.int .i64 ((a:Int)))))] ?_
  refine wG fK (A12 BY w1 w2 w3 e1 g1 g2 g3 e2 e3 e4 e5) ?_;refine AR.callP qx TI aH ?_;refine goG fK (A7 BY w1 w2 w3 g2 g3 hu0) ?_;refine AR.callP qy TI aH ?_;refine goG fK (AI hu0 hv0) ?_;refine wdG fK (A8 BY w1 w2 w3 g2 g3 hu0 hv0) ?_;refine AR.callP qx TI aH ?_;refine goG fK (A7 BY w1 w2 w3 g2 g3 m1) ?_;refine AR.callP qy TI aH ?_;refine goG fK (A3 m1 m2 m3) ?_;refine wdG fK (A3 m1 m2 m3) ?_;refine fiGenO [.tmp 4,.tmp 5] (finG fK) ?_
  all_goals exact wkG aH
def Na(s:Bs)(a:Nat):Bs×Int:=match quoP (s.drop (a+1))with
 | some (t,n)=>(t,((a+1+n:Nat):Int))
 | none=>([], -1)
theorem Ih{s:Bs}{a n:Nat}{t:Bs}(h:quoP (s.drop (a+1))=some (t,n)):Na s a=(t,((a+1+n:Nat):Int)):=by unfold Na;rw[h]
theorem sY{s:Bs}{a:Nat}(h:quoP (s.drop (a+1))=none):Na s a=([], -1):=by unfold Na;rw[h]
def kE:=A9 @Sx @FD @pG @uL @xS @vW @pS @uJ @gI
theorem NM(s:Bs)(a:Nat)(ha:a<s.length)(hs:s.length≤4194304):PC Tryz.prog 171 [.im (.string ⟨(s).toArray⟩),(.im (.int .i64 ((a:Int))))] (.tu [.im (.string ⟨((Na s a).1).toArray⟩),(.im (.int .i64 ((Na s a).2)))]):=by
 have w1:IntKind.i64.wrap ((a:Int)+1)=((a+1:Nat):Int):=by rw[cI (by omega)];omega
 refine pcEnt 66 Tryz.func171 rfl [(0,.im (.string ⟨(s).toArray⟩)),(1,(.im (.int .i64 ((a:Int)))))] ?_
 refine wG kE w1 ?_
 refine aT ?_
 refine ALp.ghost 6 [] .nl 5 1 ?_
 suffices H: ∀(k p:Nat) (A:Bs),s.length-p=k→a+1≤p→p≤s.length→A.length≤p→(quoP (s.drop (a+1))=(quoP (s.drop p)).map fun x=>(A++x.1,x.2+(p-(a+1))))→ALp _ _ _ _ _ ⟨dn 66 [(0,.im (.string ⟨(s).toArray⟩)),(1,(.im (.int .i64 ((((p):Nat):Int))))),(6,.sl (A.map byB) (.own 0))],ofl [.tip 5 1 A.length]⟩ by
  refine ALp.cutP 1 [(0,.im (.string ⟨(s).toArray⟩)),(1,(.im (.int .i64 (((a+1:Nat):Int))))),(6,.sl (([]:Bs).map byB) (.own 0))] [.tip 5 1 ([]:Bs).length] aH ?_;exact H _ (a+1) [] rfl (Nat.le_refl _) ha (Nat.zero_le _) (by cases quoP (s.drop (a+1))<;>simp)
 intro k
 induction k using Nat.strongRecOn with
 | _ k ih =>
 intro p A hk hap hpl hA hq
 refine cG ?_
 by_cases hlt:p<s.length
 case neg =>
  obtain rfl:p=s.length:=by omega
  have hn: ¬(s.length:Int)<(s.length:Int):=by omega
  have hn2:(s.length:Int)≥(s.length:Int):=by omega
  rw[sY (by rw[hq,List.drop_length];rfl)]
  clear ih;refine wG kE (A3 BY hn hn2) ?_;refine fiGenO [.tmp 4,.tmp 5] (finG kE) ?_
  all_goals exact wkG aH
 have hlt':(p:Int)<(s.length:Int):=by omega
 have hge: ¬(p:Int)≥(s.length:Int):=by omega
 have hw1:=aQ hlt (by omega)
 have hg:s[p]? =some s[p]:=List.getElem?_eq_getElem hlt
 have hd:s.drop p=s[p]::s.drop (p+1):=List.drop_eq_getElem_cons hlt
 generalize s[p]=c at hg hd
 rw[hd,Ig]at hq
 by_cases h34:c.toNat=34
 ·have e1:(c.toNat:Int)=34:=by omega
  rw[if_pos h34]at hq;rw[Ih (t:=A) (n:=p-a) (by rw[hq];simp;omega),show a+1+(p-a)=p+1 by omega]
  have hb:=pJ A;clear ih;refine wG kE (A7 BY hlt' hg e1 hge hb hw1) ?_;refine fiGenO [.tmp 4,.tmp 5] (finG kE) ?_
  all_goals exact wkG aH
 have e1: ¬(c.toNat:Int)=34:=by omega
 rw[if_neg h34]at hq
 by_cases h92:c.toNat=92
 ·have e2:(c.toNat:Int)=92:=by omega
  have e3: ¬(c.toNat:Int)<32:=by omega
  have e4: ¬(c.toNat:Int)>126:=by omega
  rw[if_pos h92]at hq;have qe:=NY s p hlt hs;cases he:escP (s.drop (p+1))with
  | none =>
   rw[tC he]at qe;rw[he]at hq;rw[sY (by rw[hq];rfl)]
   clear ih;refine wG kE (A7 BY hlt' hg e1 e2 e3 e4) ?_;refine AR.callP qe TI aH ?_;refine goG kE TI ?_;refine wG kE TI ?_;refine fiGenO [.tmp 4,.tmp 5] (finG kE) ?_
   all_goals exact wkG aH
  | some xn =>
  obtain⟨x,n⟩:=xn;rw[Bl he]at qe;have hn:=yX he;rw[List.length_drop]at hn;rw[he]at hq;have hn0: ¬((n+1:Nat):Int)=0:=by omega
  have hw2:IntKind.i64.wrap ((p:Int)+((n+1:Nat):Int))=((p+(n+1):Nat):Int):=by rw[cI (by omega)];omega
  obtain⟨B,hB⟩: ∃B,B=A++[x]:=⟨_,rfl⟩
  have hAs:A.map byB++[V.im (.int .u8 x.toNat)]=B.map byB:=by rw[hB,List.map_append];rfl
  have hAl:A.length+1=B.length:=by rw[hB];simp
  have hbl:B.length≤140737488355328:=by omega
  have hI:=ih (s.length-(p+(n+1))) (by omega) (p+(n+1)) B rfl (by omega) (by omega) (by omega) (by
   rw[hq];dsimp only;rw[List.drop_drop,show p+1+n=p+(n+1) by omega,hB]
   cases quoP (s.drop (p+(n+1)))with
   | none=>rfl
   | some y=>obtain⟨t,k⟩:=y;simp;omega)
  clear ih hB;refine wG kE (A7 BY hlt' hg e1 e2 e3 e4) ?_;refine AR.callP qe TI aH ?_;refine goG kE TI ?_;refine wG kE (A7 hn0 hAs hAl hbl hw2 @List.length_map.{0,0} @Nat.mul_one) ?_;refine ALp.cutP 1 [(0,.im (.string ⟨(s).toArray⟩)),(1,(.im (.int .i64 (((p+(n+1):Nat):Int))))),(6,.sl (B.map byB) (.own 0))] [.tip 5 1 B.length] aH ?_;exact hI
 have e2: ¬(c.toNat:Int)=92:=by omega
 rw[if_neg h92]at hq
 by_cases hlo:c.toNat<32
 ·have e3:(c.toNat:Int)<32:=by omega
  rw[if_pos (.inl hlo)]at hq;rw[sY (by rw[hq];rfl)]
  clear ih;refine wG kE (A6 BY hlt' hg e1 e2 e3) ?_;refine fiGenO [.tmp 4,.tmp 5] (finG kE) ?_
  all_goals exact wkG aH
 have e3: ¬(c.toNat:Int)<32:=by omega
 by_cases hhi:126<c.toNat
 ·have e4:(c.toNat:Int)>126:=by omega
  rw[if_pos (.inr hhi)]at hq;rw[sY (by rw[hq];rfl)]
  clear ih;refine wG kE (A7 BY hlt' hg e1 e2 e3 e4) ?_;refine fiGenO [.tmp 4,.tmp 5] (finG kE) ?_
  all_goals exact wkG aH
 have e4: ¬(c.toNat:Int)>126:=by omega
 rw[if_neg (by omega)]at hq
 obtain⟨B,hB⟩: ∃B,B=A++[c]:=⟨_,rfl⟩
 have hAs:A.map byB++[V.im (.int .u8 c.toNat)]=B.map byB:=by rw[hB,List.map_append];rfl
 have hAl:A.length+1=B.length:=by rw[hB];simp
 have hbl:B.length≤140737488355328:=by omega
 have hI:=ih (s.length-(p+1)) (by omega) (p+1) B rfl (by omega) (by omega) (by omega) (by
  rw[hq,hB];cases quoP (s.drop (p+1))with
  | none=>rfl
  | some y=>obtain⟨t,k⟩:=y;simp;omega)
 clear ih hB
 refine wG kE (A13 BY hlt' hg e1 e2 e3 e4 hAs hAl hbl hw1 @List.length_map.{0,0} @Nat.mul_one) ?_
 refine ALp.cutP 1 [(0,.im (.string ⟨(s).toArray⟩)),(1,(.im (.int .i64 (((p+1:Nat):Int))))),(6,.sl (B.map byB) (.own 0))] [.tip 5 1 B.length] aH ?_
 exact hI
inductive LpE (ts:List Tk) (l:Nat):Ex→Sr→Ex→Sr→Prop where
 | stop {x:Ex} {s:Sr} (h:(stRR ts s.a s.e).1=0∨(stRR ts s.a s.e).2<l):LpE ts l x s x s
 | step {x y z:Ex} {a a1:Nat} {o o1 e1:Int} {s':Sr} (h0:(stRR ts a 0).1≠0) (h1: ¬(stRR ts a 0).2<l) (hlt:a<ts.length) (h8:(stRR ts a 0).2≤8)
   (d:DC Tryz.prog 61 [.pt 0 0,(.im (.int .i64 ((((stRR ts a 0).2+1:Nat)))))] [rbx ts ⟨a+1,o,0⟩] (exV y) [rbx ts ⟨a1,o1,e1⟩])
   (r:LpE ts l (.mk (stRR ts a 0).1 0 ByteArray.empty 0 [x,y]) ⟨a1,o1,e1⟩ z s'):LpE ts l x ⟨a,o,0⟩ z s'
theorem PI(s:Bs):(opR s).1=0↔(opR s).2=0:=by
 by_cases h:s∈opL
 ·revert s
  decide
 ·rw[Rc s h];simp
theorem KS(t:Tk):(stR t).1=0↔(stR t).2=0:=by
 unfold stR
 split
 ·exact PI _
 ·simp
theorem PH(s:Bs):(opR s).2≤8:=by
 by_cases h:s∈opL
 ·revert s
  decide
 ·rw[Rc s h];decide
theorem OY(t:Tk):(stR t).2≤8:=by
 unfold stR
 split
 ·exact PH _
 ·decide
theorem PJ{ts:List Tk}{l:Nat}: ∀(f:Nat),(∀g,g<f→ExR ts g)→ ∀(x:Ex) (s:Sr),Pre (exM ts f (.lo l x)) s→ ∃z s',Post (exM ts f (.lo l x)) s z s'∧LpE ts l x s z s':=by
 intro f
 induction f with
 | zero =>
  intro hE x s hp
  by_cases he:s.e=0
  ·obtain⟨o,_,r,hr⟩:=hp he
   cases hr
  ·exact⟨x,s,Post.of_err he rfl rfl,.stop (.inl (by unfold stRR;rw[if_neg he]))⟩
 | succ f ih =>
  intro hE x s hp
  by_cases he:s.e=0
  case neg=>exact⟨x,s,Post.of_err he rfl rfl,.stop (.inl (by unfold stRR;rw[if_neg he]))⟩
  obtain⟨a,o',e⟩:=s;cases he
  have hs:stRR ts a 0=stR (pk ts a):=by unfold stRR;rw[if_pos rfl]
  by_cases hz:(stR (pk ts a)).2=0∨(stR (pk ts a)).2<l
  ·obtain⟨o,ho,_⟩:=hp rfl
   have ho:o'=(o:Int):=ho;subst ho;refine⟨x,⟨a,o,0⟩,Post.of_ok (by rw[exM,if_pos hz];rfl),.stop ?_⟩
   show(stRR ts a 0).1=0∨(stRR ts a 0).2<l
   rw[hs];exact hz.imp (KS _).2 id
  have hM: ∀o,exM ts (f+1) (.lo l x) a o=rb (exM ts f (.ex ((stR (pk ts a)).2+1)) (a+1) o) fun y b p=>exM ts f (.lo l (.mk (stR (pk ts a)).1 0 ByteArray.empty 0 [x,y])) b p:=fun o=>by rw[exM,if_neg hz]
  have hlt:=Qu (ts:=ts) (a:=a) fun h=>hz (.inl h)
  have h8:=OY (pk ts a);obtain⟨o,ho,r,hr⟩:=hp rfl;have ho:o'=(o:Int):=ho;subst ho;have hp2:Pre (fun a' o=>rb (exM ts f (.ex ((stR (pk ts a)).2+1)) a' o) fun y b p=>exM ts f (.lo l (.mk (stR (pk ts a)).1 0 ByteArray.empty 0 [x,y])) b p) ⟨a+1,o,0⟩:=fun _=>⟨o,rfl,r,by rw[←hr,hM]⟩
  obtain⟨y,⟨a1,o1,e1⟩,q,d⟩:=hE f (Nat.lt_succ_self f) ((stR (pk ts a)).2+1) (by omega) ⟨a+1,o,0⟩ hp2.fst
  obtain⟨z,s',q2,r2⟩:=ih (fun g hg=>hE g (by omega)) (.mk (stR (pk ts a)).1 0 ByteArray.empty 0 [x,y]) ⟨a1,o1,e1⟩ (hp2.snd q)
  refine⟨z,s',postShift (fun o=>(hM o).symm) (q.bind (k:=fun y b p=>exM ts f (.lo l (.mk (stR (pk ts a)).1 0 ByteArray.empty 0 [x,y])) b p) q2),?_⟩
  rw[←hs]at d r2;exact .step (by rw[hs];exact fun h=>hz (.inl ((KS _).1 h))) (by rw[hs];exact fun h=>hz (.inr h)) hlt (by rw[hs];exact h8) d r2
def gK:=A8 @cJ @fD @gQ @fG @gP @rY @cH @eF
theorem JG(ts:List Tk)(a:Nat)(o e:Int)(l:Nat)(he:e≠0):DC Tryz.prog 61 [.pt 0 0,(.im (.int .i64 ((l:Nat))))] [.box [.sl (ts.map tkV) .ro,(.im (.int .i64 ((a:Nat)))),(.im (.int .i64 (o))),(.im (.int .i64 (e)))]] (exV ex0) [.box [.sl (ts.map tkV) .ro,(.im (.int .i64 ((a:Nat)))),(.im (.int .i64 (o))),(.im (.int .i64 (e)))]]:=by
 have h1:=Kw ts a o e he
 have h2:=Kv ts a o e
 have hs:stRR ts a e=(0,0):=by unfold stRR;rw[if_neg he]
 rw[hs]at h2
 rw[show(((0,0):Int×Nat).1)=0 from rfl,show((((0,0):Int×Nat).2:Nat):Int)=0 from rfl]at h2
 refine dcEnt 45 Tryz.func61 rfl [(0,.pt 0 0),(1,(.im (.int .i64 ((l:Nat)))))] ?_
 refine wG gK TI ?_
 refine aA [0] h1 TI (A4 aB aC @aF @aE) (A4 aI aJ @aN @aO) ?_
 refine goG gK BN01 ?_
 refine wG gK BN01 ?_
 refine aA [0] h2 TI (A4 aB aC @aF @aE) (A4 aI aJ @aN @aO) ?_
 refine goG gK TI ?_
 refine wG gK TI ?_
 refine aT ?_
 refine cG ?_
 refine wG gK BN01 ?_
 refine fiGen [.cell 4 46] (finG gK) ?_ rfl (idG (A4 aB aC @aF @aE))
 rw[bW ex0]
 all_goals exact wkG (A4 aB aC @aF @aE)
theorem JF{ts:List Tk}(hts:ts.length≤4194304){l:Nat}{s0:Sr}{x0:Ex}{s s':Sr}{z:Ex}(d0:DC Tryz.prog 123 [.pt 0 0] [rbx ts s0] (exV x0) [rbx ts s])(hL:LpE ts l x0 s z s') :
  DC Tryz.prog 61 [.pt 0 0,(.im (.int .i64 ((l:Nat))))] [rbx ts s0] (exV z) [rbx ts s']:=by
 have h2:=Kv ts s.a s.o s.e
 obtain⟨a0,o0,e0⟩:=s0
 simp only[rbx]at d0 ⊢
 refine dcEnt 45 Tryz.func61 rfl [(0,.pt 0 0),(1,(.im (.int .i64 ((l:Nat)))))] ?_
 refine wG gK TI ?_
 refine aA [0] d0 TI (A4 aB aC @aF @aE) (A4 aI aJ @aN @aO) ?_
 refine goG gK BN01 ?_
 refine wG gK BN01 ?_
 refine aA [0] h2 TI (A4 aB aC @aF @aE) (A4 aI aJ @aN @aO) ?_
 refine goG gK TI ?_
 refine wG gK TI ?_
 refine aT ?_
 refine cG ?_
 suffices H: ∀(x:Ex) (s:Sr),LpE ts l x s z s'→AWpK _ _ _ _ _ ⟨dn 45 [(0,.pt 0 0),(1,(.im (.int .i64 ((l:Nat))))),(4,.pt 1 0),(5,.pt 2 0),(6,(.im (.int .i64 ((stRR ts s.a s.e).1)))),(7,(.im (.int .i64 (((stRR ts s.a s.e).2:Nat)))))],ofl [rbx ts s,.box [(.im (.int .i64 (0))),.im (.int .u32 0),.im (.string ByteArray.empty),(.im (.int .i64 (0))),.sl [] .nl],.box [(.im (.int .i64 ((x).op))),.im (.int .u32 (x).n),.im (.string (x).name),(.im (.int .i64 ((x).width))),.sl ((x).l.map exV) .ro]]⟩ by
  simp only[rbx]at H;refine AWp.cutP 3 [(0,.pt 0 0),(1,(.im (.int .i64 ((l:Nat))))),(4,.pt 1 0),(5,.pt 2 0),(6,(.im (.int .i64 ((stRR ts s.a s.e).1)))),(7,(.im (.int .i64 (((stRR ts s.a s.e).2:Nat)))))] [.box [.sl (ts.map tkV) .ro,(.im (.int .i64 ((s.a:Nat)))),(.im (.int .i64 (s.o))),(.im (.int .i64 (s.e)))],.box [(.im (.int .i64 (0))),.im (.int .u32 0),.im (.string ByteArray.empty),(.im (.int .i64 (0))),.sl [] .nl],.box [(.im (.int .i64 ((x0).op))),.im (.int .u32 (x0).n),.im (.string (x0).name),(.im (.int .i64 ((x0).width))),.sl ((x0).l.map exV) .ro]] (A4 aB aC @aF @aE) ?_;exact H x0 s hL
 clear hL d0 h2
 intro x s hL
 induction hL with
 | @stop x s h =>
  simp only[rbx];rcases h with h|h
  ·refine wG gK (AI h BN01) ?_
   refine fiGen [.cell 4 46] (finG gK) ?_ rfl (idG (A4 aB aC @aF @aE))
   rw[bW x]
   all_goals exact wkG (A4 aB aC @aF @aE)
  ·by_cases h0:(stRR ts s.a s.e).1=0
   ·refine wG gK (AI h0 BN01) ?_
    refine fiGen [.cell 4 46] (finG gK) ?_ rfl (idG (A4 aB aC @aF @aE))
    rw[bW x]
    all_goals exact wkG (A4 aB aC @aF @aE)
   ·have h': ¬(((stRR ts s.a s.e).2:Nat):Int)≥(l:Int):=by omega
    refine wG gK (A3 h0 h' BN01) ?_;refine fiGen [.cell 4 46] (finG gK) ?_ rfl (idG (A4 aB aC @aF @aE))
    rw[bW x]
    all_goals exact wkG (A4 aB aC @aF @aE)
 | @step x y z a a1 o o1 e1 s' h0 h1 hlt h8 d r ih =>
  have h':(((stRR ts a 0).2:Nat):Int)≥(l:Int):=by omega
  have hw:=aQ (m:=a) (N:=4194304) (by omega) (by decide)
  have hw2:=aQ (m:=(stRR ts a 0).2) (N:=4194304) (by omega) (by decide)
  have h2:=Kv ts a1 o1 e1;simp only[rbx]at d ⊢;obtain⟨B,hB⟩: ∃B,B=[x,y]:=⟨_,rfl⟩
  have hAs:[V.ag [(.im (.int .i64 (x.op))),.im (.int .u32 x.n),.im (.string x.name),(.im (.int .i64 (x.width))),.sl (x.l.map exV) .ro],exV y]=B.map exV:=by rw[hB,List.map_cons,List.map_cons,List.map_nil,bW x]
  have hAs2:[V.ag [(.im (.int .i64 (x.op))),.im (.int .u32 x.n),.im (.string x.name),(.im (.int .i64 (x.width))),.sl (x.l.map exV) .ro],V.ag [(.im (.int .i64 (y.op))),.im (.int .u32 y.n),.im (.string y.name),(.im (.int .i64 (y.width))),.sl (y.l.map exV) .ro]]=B.map exV:=by rw[hB,List.map_cons,List.map_cons,List.map_nil,bW x,bW y]
  rw[←hB]at ih;refine wG gK (A5 h0 h' hw hw2 BN01) ?_;refine aA [0] d TI (A4 aB aC @aF @aE) (A4 aI aJ @aN @aO) ?_;refine goG gK BN01 ?_;refine wG gK (A10 @dJ @cQ @dH @dG @dI @cR @List.getElem?_map.{0,0} @Int.natCast_nonneg hAs hAs2) ?_;refine aA [0] h2 TI (A4 aB aC @aF @aE) (A4 aI aJ @aN @aO) ?_;refine goG gK TI ?_;refine wG gK TI ?_;refine cG ?_;refine Af 3 [(0,.pt 0 0),(1,(.im (.int .i64 ((l:Nat))))),(4,.pt 1 0),(5,.pt 2 0),(6,(.im (.int .i64 ((stRR ts a1 e1).1)))),(7,(.im (.int .i64 (((stRR ts a1 e1).2:Nat)))))] [.box [.sl (ts.map tkV) .ro,(.im (.int .i64 ((a1:Nat)))),(.im (.int .i64 (o1))),(.im (.int .i64 (e1)))],.box [(.im (.int .i64 (0))),.im (.int .u32 0),.im (.string ByteArray.empty),(.im (.int .i64 (0))),.sl [] .nl],.box [(.im (.int .i64 ((stRR ts a 0).1))),.im (.int .u32 0),.im (.string ByteArray.empty),(.im (.int .i64 (0))),.sl (B.map exV) .ro]] ?_ (by simp) (by repeat (first|exact WkFA.nil|refine WkFA.cons (by first|exact .of (Wk.refl _) (by first|rfl|simp only[List.length_cons,List.length_nil,Nat.reduceAdd,V.ids,V.idsL,idsA,entOk,List.all_cons,List.all_nil,Bool.and_self,Bool.and_true,Bool.true_and,ltB,noId,Nat.reduceLT,decide_true,Bool.true_eq_false,bN,bP,bO,bQ,aB,aC,aF,aE])|exact .of (Wk.ro _ _) (by simp[V.ids,V.idsL,aE])) ?_)) (by repeat (first|exact WkFE.nil|refine WkFE.box (by repeat (first|exact WkFL.nil|refine WkFL.cons (by first|exact .of (Wk.refl _) (by first|rfl|simp only[List.length_cons,List.length_nil,Nat.reduceAdd,V.ids,V.idsL,idsA,entOk,List.all_cons,List.all_nil,Bool.and_self,Bool.and_true,Bool.true_and,ltB,noId,Nat.reduceLT,decide_true,Bool.true_eq_false,bN,bP,bO,bQ,aB,aC,aF,aE])|exact .of (Wk.ro _ _) (by simp[V.ids,V.idsL,aE])) ?_)) ?_|refine WkFE.same (fun _ e=>by cases e) ?_)) (fun i hi=>by first|exact absurd rfl hi|exact Nat.lt_of_lt_of_le (oQ hi) (by simp))
  exact ih
theorem Ul{ts:List Tk}(hts:ts.length≤4194304)(F:Nat)(hO: ∀f,f<F→OpR ts f)(hE: ∀f,f<F→ExR ts f):ExR ts F:=by
 intro l hl s hp
 by_cases he:s.e=0
 case neg =>
  obtain⟨a,o,e⟩:=s;exact⟨ex0,⟨a,o,e⟩,Post.of_err he rfl rfl,JG ts a o e l he⟩
 cases F with
 | zero =>
  obtain⟨o,_,r,hr⟩:=hp he;cases hr
 | succ F =>
 have hM:exM ts (F+1) (.ex l)=fun a o=>rb (exM ts F .op a o) fun x b p=>exM ts F (.lo l x) b p:=by funext a o;rw[exM]
 rw[hM]at hp ⊢
 obtain⟨x,s1,q1,d1⟩:=hO F (Nat.lt_succ_self F) s hp.fst
 obtain⟨z,s2,q2,hL⟩:=PJ F (fun g hg=>hE g (by omega)) x s1 (hp.snd q1)
 exact⟨z,s2,q1.bind (k:=fun x b p=>exM ts F (.lo l x) b p) q2,JF hts d1 hL⟩
theorem NW{ts:List Tk}(hts:ts.length≤4194304)(hok: ∀t∈ts,TkOk t)(hW: ∀t∈ts,TkW t): ∀F f,f≤F→OpR ts f∧ExR ts f:=by
 intro F
 induction F with
 | zero =>
  intro f hf;obtain rfl:f=0:=by omega
  refine⟨fun s hp=> ?_,Ul hts 0 (fun f hf=>by omega) (fun f hf=>by omega)⟩
  by_cases he:s.e=0
  ·obtain⟨o,_,r,hr⟩:=hp he
   cases hr
  ·obtain⟨a,o,e⟩:=s
   exact⟨ex0,⟨a,o,e⟩,Post.of_err he rfl rfl,Kw ts a o e he⟩
 | succ F ih =>
  intro f hf
  by_cases hle:f≤F
  ·exact ih f hle
  obtain rfl:f=F+1:=by omega
  exact⟨Ry hts hok hW (ih F (Nat.le_refl _)).1 (ih F (Nat.le_refl _)).2,Ul hts (F+1) (fun f hf=>(ih f (by omega)).1) (fun f hf=>(ih f (by omega)).2)⟩
theorem QL{ts:List Tk}(hts:ts.length≤4194304)(hok: ∀t∈ts,TkOk t)(hW: ∀t∈ts,TkW t)(f:Nat):ExR ts f:=(NW hts hok hW f f (Nat.le_refl _)).2
end Go.Proofs.YtmbmmckagcdapaaGreatDoor
namespace Go.Proofs.YtmbmmckagcdapaaGreatDoor
open Go.RowKit
section
variable {α:Type} {ts:List Tk} {x:Bs} {m1 m2:Nat→Nat→Option (Rs α)} {s s':Sr} {y:α}
theorem postT(h:isR ts s.a s.e x=true)(q:Post m1 s y s'):Post (fun a o=>if sees ts a x=true then m1 a o else m2 a o) s y s':=Post.congr (fun _=>funext fun o=>if_pos (xJ h).2.1) q
theorem postF(h:isR ts s.a s.e x=false)(q:Post m2 s y s'):Post (fun a o=>if sees ts a x=true then m1 a o else m2 a o) s y s':=Post.congr (fun he=>funext fun o=>if_neg (by rw[BN h he];decide)) q
theorem preT(h:isR ts s.a s.e x=true)(q:Pre (fun a o=>if sees ts a x=true then m1 a o else m2 a o) s):Pre m1 s:=Pre.congr (fun _=>funext fun o=>if_pos (xJ h).2.1) q
theorem PD(h:isR ts s.a s.e x=false)(q:Pre (fun a o=>if sees ts a x=true then m1 a o else m2 a o) s):Pre m2 s:=Pre.congr (fun he=>funext fun o=>if_neg (by rw[BN h he];decide)) q
end
theorem preShift{α:Type}{m:Nat→Nat→Option (Rs α)}{a o:Nat}(h:Pre (fun a o=>m (a+1) o) ⟨a,o,0⟩):Pre m ⟨a+1,o,0⟩:=fun _=>by
 obtain⟨p,hp,r⟩:=h rfl
 exact⟨p,hp,r⟩
def nam3(ts:List Tk)(f:Nat)(n:ByteArray)(a o:Nat):Option (Rs (List (List Nd))) :=
 if sees ts a [105,110]=true then(fun a o=>rb (expM ts [59] (a+1) o) fun _ a o=>ret (oneS (.mk 3 0 n [] [] [] [])) a o) a o
 else(fun a o=>rb (exM ts f (.ex 1) a o) fun x a o=>rb (expM ts [59] a o) fun _ a o=>ret (oneS (.mk 1 0 n [x] [] [] [])) a o) a o
theorem HA(ts:List Tk)(f:Nat):Nk ts f=fun a o=>rb (nmM ts a o) fun n a o=>if sees ts a [58]=true then(fun a o=>ret (oneS (.mk 13 0 n [] [] [] [])) (a+1) o) a o else(fun a o=>rb (expM ts [61] a o) fun _ a o=>nam3 ts f n a o) a o:=rfl
def dZ:=A8 @iA @fD @iR @gQ @fG @nB @fH @eF
theorem DN{ts:List Tk}{f:Nat}(hts:ts.length≤4194304)(hE:ExR ts f)(s:Sr)(hp:Pre (Nk ts f) s): ∃x s',Post (Nk ts f) s x s'∧DC Tryz.prog 235 [.pt 0 0] [rbx ts s] (stV x) [rbx ts s']:=by
 rw[HA]at hp ⊢
 obtain⟨n,⟨a1,o1,e1⟩,q1,b1,d1⟩:=rQ ts hts s hp.fst
 have p1:=hp.snd q1
 have h2:=fR ts a1 o1 e1 [58] hts
 obtain⟨a,o,e⟩:=s
 cases hb:isR ts a1 e1 [58]with
 | true =>
  obtain⟨rfl,_,hlt⟩:=xJ hb;obtain⟨p,hpp,_⟩:=p1 rfl;have hpp:o1=(p:Int):=hpp;subst hpp;refine⟨oneS (.mk 13 0 n [] [] [] []),⟨a1+1,p,0⟩,q1.bind (postT hb (Post.of_ok rfl)),?_⟩;rw[hb,if_pos rfl]at h2;clear q1 p1 hp b1;simp only[rbx]at d1 ⊢;refine dcEnt 27 Tryz.func235 rfl [(0,.pt 0 0)] ?_
  refine wG dZ TI ?_;refine aA [0] d1 TI gS mD ?_;refine goG dZ TI ?_;refine wG dZ TI ?_;refine aA [0] h2 TI gS mD ?_;refine goG dZ TI ?_;refine wG dZ TI ?_;refine fiGen [.cell 2 165] (finG dZ) ?_ rfl (idG gS)
  simp only[iD,gH,List.map_nil]
  all_goals exact wkG gS
 | false =>
 rw[hb,if_neg (by decide)]at h2
 have p1:=PD hb p1
 obtain⟨⟨a2,o2,e2⟩,q2,b2,d2⟩:=gZ ts hts ⟨a1,o1,e1⟩ [61] p1.fst
 have p2:=p1.snd q2
 have h3:=fR ts a2 o2 e2 [105,110] hts
 cases hc:isR ts a2 e2 [105,110]with
 | true =>
  obtain⟨rfl,_,hlt⟩:=xJ hc;obtain⟨p,hpp,_⟩:=p2 rfl;have hpp:o2=(p:Int):=hpp;subst hpp;have p3:=preShift (m:=fun a o=>rb (expM ts [59] a o) fun _ a o=>ret (oneS (.mk 3 0 n [] [] [] [])) a o) (preT hc p2)
  obtain⟨⟨a3,o3,e3⟩,q3,b3,d3⟩:=gZ ts hts ⟨a2+1,p,0⟩ [59] p3.fst;refine⟨oneS (.mk 3 0 n [] [] [] []),⟨a3,o3,e3⟩,q1.bind (postF hb (q2.bind (k:=fun _ a o=>nam3 ts f n a o) (postT hc (postShift (fun o=>rfl) (q3.bind (k:=fun _ a o=>ret (oneS (.mk 3 0 n [] [] [] [])) a o) (Post.ret (p3.snd q3))))))),?_⟩
  rw[hc,if_pos rfl]at h3;clear q1 q2 q3 p1 p2 p3 hp b1;simp only[rbx]at d1 d2 d3 ⊢;refine dcEnt 27 Tryz.func235 rfl [(0,.pt 0 0)] ?_
  refine wG dZ TI ?_;refine aA [0] d1 TI gS mD ?_;refine goG dZ TI ?_;refine wG dZ TI ?_;refine aA [0] h2 TI gS mD ?_;refine goG dZ TI ?_;refine wG dZ TI ?_;refine aA [0] d2 TI gS mD ?_;refine goG dZ TI ?_;refine wG dZ TI ?_;refine aA [0] h3 TI gS mD ?_;refine goG dZ TI ?_;refine wG dZ TI ?_;refine aA [0] d3 TI gS mD ?_;refine goG dZ TI ?_;refine wG dZ TI ?_;refine fiGen [.cell 2 165] (finG dZ) ?_ rfl (idG gS)
  simp only[iD,gH,List.map_nil]
  all_goals exact wkG gS
 | false =>
 rw[hc,if_neg (by decide)]at h3
 have p2:=PD hc p2
 obtain⟨x,⟨a3,o3,e3⟩,q3,d3⟩:=hE 1 (by decide) ⟨a2,o2,e2⟩ p2.fst
 have p3:=p2.snd q3
 obtain⟨⟨a4,o4,e4⟩,q4,b4,d4⟩:=gZ ts hts ⟨a3,o3,e3⟩ [59] p3.fst
 refine⟨oneS (.mk 1 0 n [x] [] [] []),⟨a4,o4,e4⟩,q1.bind (postF hb (q2.bind (k:=fun _ a o=>nam3 ts f n a o) (postF hc (q3.bind (q4.bind (Post.ret (p3.snd q4))))))),?_⟩
 rw[Re]at d3
 clear q1 q2 q3 q4 p1 p2 p3 hp b1
 simp only[rbx]at d1 d2 d3 d4 ⊢
 refine dcEnt 27 Tryz.func235 rfl [(0,.pt 0 0)] ?_
 refine wG dZ TI ?_
 refine aA [0] d1 TI gS mD ?_
 refine goG dZ TI ?_
 refine wG dZ TI ?_
 refine aA [0] h2 TI gS mD ?_
 refine goG dZ TI ?_
 refine wG dZ TI ?_
 refine aA [0] d2 TI gS mD ?_
 refine goG dZ TI ?_
 refine wG dZ TI ?_
 refine aA [0] h3 TI gS mD ?_
 refine goG dZ TI ?_
 refine wG dZ TI ?_
 refine aA [0] d3 TI gS mD ?_
 refine goG dZ BN01 ?_
 refine wG dZ BN01 ?_
 refine aA [0] d4 TI gS mD ?_
 refine goG dZ BN01 ?_
 refine wG dZ BN01 ?_
 refine fiGen [.cell 2 165] (finG dZ) ?_ rfl (idG gS)
 simp only[iD,gH,List.map_nil,List.map_cons];rw[bW x]
 all_goals exact wkG gS
def kC:=A11 @iA @cJ @fD @iR @gQ @fG @gP @nB @fH @cH @eF
theorem Fw{ts:List Tk}{f:Nat}(hts:ts.length≤4194304)(hE:ExR ts f)(w:Int)(a:Nat)(hlt:a<ts.length)(o:Int)(hp:Pre (storM ts f w) ⟨a+1,o,0⟩): ∃x s',Post (storM ts f w) ⟨a+1,o,0⟩ x s'∧DC Tryz.prog 236 [.pt 0 0,(.im (.int .i64 (w)))] [rbx ts ⟨a,o,0⟩] (stV x) [rbx ts s']:=by
 have hw:=aQ (m:=a) (N:=4194304) (by omega) (by decide)
 unfold storM at hp ⊢
 obtain⟨⟨a1,o1,e1⟩,q1,b1,d1⟩:=mX ts hts ⟨a+1,o,0⟩ [40] hp.fst
 have p1:=hp.snd q1
 obtain⟨x,⟨a2,o2,e2⟩,q2,d2⟩:=hE 1 (by decide) ⟨a1,o1,e1⟩ p1.fst
 have p2:=p1.snd q2
 obtain⟨⟨a3,o3,e3⟩,q3,b3,d3⟩:=gZ ts hts ⟨a2,o2,e2⟩ [44] p2.fst
 have p3:=p2.snd q3
 obtain⟨y,⟨a4,o4,e4⟩,q4,d4⟩:=hE 1 (by decide) ⟨a3,o3,e3⟩ p3.fst
 have p4:=p3.snd q4
 obtain⟨⟨a5,o5,e5⟩,q5,b5,d5⟩:=tZ ts hts ⟨a4,o4,e4⟩ [41] (fun h=>by
  obtain⟨h3,k4⟩:=Df q4 h;obtain⟨h1,k2⟩:=Df q2 (q3.ok h3).1;have:=(b1 h1).2;rw[k4,b3,k2]
  exact this) p4.fst
 have p5:=p4.snd q5
 obtain⟨⟨a6,o6,e6⟩,q6,b6,d6⟩:=gZ ts hts ⟨a5,o5,e5⟩ [59] p5.fst
 refine⟨oneS (.mk 2 w ByteArray.empty [x,y] [] [] []),⟨a6,o6,e6⟩,q1.bind (q2.bind (q3.bind (q4.bind (q5.bind (q6.bind (Post.ret (p5.snd q6))))))),?_⟩
 rw[Re]at d2 d4
 clear q1 q2 q3 q4 q5 q6 p1 p2 p3 p4 p5 hp b1 b3 b5 b6
 simp only[rbx]at d1 d2 d3 d4 d5 d6 ⊢
 refine dcEnt 31 Tryz.func236 rfl [(0,.pt 0 0),(1,(.im (.int .i64 (w))))] ?_
 refine wG kC hw ?_
 refine aA [0] d1 TI gS mD ?_
 refine goG kC TI ?_
 refine wG kC TI ?_
 refine aA [0] d2 TI gS mD ?_
 refine goG kC BN01 ?_
 refine wG kC BN01 ?_
 refine aA [0] d3 TI gS mD ?_
 refine goG kC TI ?_
 refine wG kC TI ?_
 refine aA [0] d4 TI gS mD ?_
 refine goG kC BN01 ?_
 refine wG kC BN01 ?_
 refine aA [0] d5 TI gS mD ?_
 refine goG kC TI ?_
 refine wG kC TI ?_
 refine aA [0] d6 TI gS mD ?_
 refine goG kC BN01 ?_
 refine wG kC BN01 ?_
 refine fiGen [.cell 4 165] (finG kC) ?_ rfl (idG gS)
 simp only[iD,gH,List.map_nil,List.map_cons];rw[bW x,bW y]
 all_goals exact wkG gS
def BrR(ts:List Tk)(f:Nat):Prop:= ∀s:Sr,Pre (stM ts f .br) s→ ∃x s',Post (stM ts f .br) s x s'∧DC Tryz.prog 239 [.pt 0 0] [rbx ts s] (liV x) [rbx ts s']
def conM(ts:List Tk)(f:Nat)(a o:Nat):Option (Rs (List (List Nd))):=rb (exM ts f (.ex 1) a o) fun x a o=>rb (stM ts f .br a o) fun l a o =>
 if sees ts a [101,108,115,101]=true then(fun a o=>rb (stM ts f .br (a+1) o) fun e a o=>ret (oneS (.mk 6 0 ByteArray.empty [x] (l.headD []) (e.headD []) [])) a o) a o
 else(fun a o=>ret (oneS (.mk 6 0 ByteArray.empty [x] (l.headD []) [] [])) a o) a o
theorem Cy(l:List (List Nd)):liV l= .sl ((l.headD []).map ndV) .ro:=rfl
def hH:=A11 @iA @lG @iR @gQ @fG @mB @mA @nB @fH @jU @eF
theorem JM{ts:List Tk}{f:Nat}(hts:ts.length≤4194304)(hE:ExR ts f)(hB:BrR ts f)(s:Sr)(hp:Pre (conM ts f) s): ∃x s',Post (conM ts f) s x s'∧DC Tryz.prog 237 [.pt 0 0] [rbx ts s] (stV x) [rbx ts s']:=by
 unfold conM at hp ⊢
 obtain⟨x,⟨a1,o1,e1⟩,q1,d1⟩:=hE 1 (by decide) s hp.fst
 have p1:=hp.snd q1
 obtain⟨l,⟨a2,o2,e2⟩,q2,d2⟩:=hB ⟨a1,o1,e1⟩ p1.fst
 have p2:=p1.snd q2
 have h3:=fR ts a2 o2 e2 [101,108,115,101] hts
 obtain⟨a,o,e⟩:=s
 rw[Re]at d1
 rw[Cy]at d2
 obtain⟨B,hB1⟩: ∃B,B=[x]:=⟨_,rfl⟩
 have hAs:[exV x]=B.map exV:=by rw[hB1];rfl
 have hAs2:[V.ag [(.im (.int .i64 (x.op))),.im (.int .u32 x.n),.im (.string x.name),(.im (.int .i64 (x.width))),.sl (x.l.map exV) .ro]]=B.map exV:=by rw[hB1,List.map_cons,List.map_nil,bW x]
 cases hc:isR ts a2 e2 [101,108,115,101]with
 | true =>
  obtain⟨rfl,_,hlt⟩:=xJ hc;obtain⟨p,hpp,_⟩:=p2 rfl;have hpp:o2=(p:Int):=hpp;subst hpp;have p3:=preShift (m:=fun a o=>rb (stM ts f .br a o) fun e a o=>ret (oneS (.mk 6 0 ByteArray.empty [x] (l.headD []) (e.headD []) [])) a o) (preT hc p2)
  obtain⟨l2,⟨a3,o3,e3⟩,q3,d3⟩:=hB ⟨a2+1,p,0⟩ p3.fst;refine⟨oneS (.mk 6 0 ByteArray.empty [x] (l.headD []) (l2.headD []) []),⟨a3,o3,e3⟩,q1.bind (q2.bind (postT hc (postShift (fun o=>rfl) (q3.bind (k:=fun e a o=>ret (oneS (.mk 6 0 ByteArray.empty [x] (l.headD []) (e.headD []) [])) a o) (Post.ret (p3.snd q3)))))),?_⟩
  rw[hc,if_pos rfl]at h3;rw[Cy]at d3;rw[←hB1];generalize l.headD []=l at d2 ⊢;generalize l2.headD []=l2 at d3 ⊢;clear q1 q2 q3 p1 p2 p3 hp;simp only[rbx]at d1 d2 d3 ⊢;refine dcEnt 17 Tryz.func237 rfl [(0,.pt 0 0)] ?_
  refine wG hH TI ?_;refine aA [0] d1 TI gS mD ?_;refine goG hH (A10 @dJ @cQ @dH @dG @dI @cR @List.getElem?_map.{0,0} @Int.natCast_nonneg hAs hAs2) ?_;refine wG hH (A10 @dJ @cQ @dH @dG @dI @cR @List.getElem?_map.{0,0} @Int.natCast_nonneg hAs hAs2) ?_;refine aA [0] d2 TI gS mD ?_;refine goG hH TI ?_;refine wG hH TI ?_;refine aA [0] h3 TI gS mD ?_;refine goG hH TI ?_;refine wG hH TI ?_;refine aA [0] d3 TI gS mD ?_;refine goG hH TI ?_;refine wG hH TI ?_;refine fiGen [.cell 2 165] (finG hH) ?_ rfl (idG gS)
  simp only[iD,gH,List.map_nil]
  all_goals exact wkG gS
 | false =>
 refine⟨oneS (.mk 6 0 ByteArray.empty [x] (l.headD []) [] []),⟨a2,o2,e2⟩,q1.bind (q2.bind (postF hc (Post.ret p2))),?_⟩
 rw[hc,if_neg (by decide)]at h3
 rw[←hB1]
 generalize l.headD []=l at d2 ⊢
 clear q1 q2 p1 p2 hp
 simp only[rbx]at d1 d2 ⊢
 refine dcEnt 17 Tryz.func237 rfl [(0,.pt 0 0)] ?_
 refine wG hH TI ?_
 refine aA [0] d1 TI gS mD ?_
 refine goG hH (A10 @dJ @cQ @dH @dG @dI @cR @List.getElem?_map.{0,0} @Int.natCast_nonneg hAs hAs2) ?_
 refine wG hH (A10 @dJ @cQ @dH @dG @dI @cR @List.getElem?_map.{0,0} @Int.natCast_nonneg hAs hAs2) ?_
 refine aA [0] d2 TI gS mD ?_
 refine goG hH TI ?_
 refine wG hH TI ?_
 refine aA [0] h3 TI gS mD ?_
 refine goG hH TI ?_
 refine wG hH TI ?_
 refine fiGen [.cell 2 165] (finG hH) ?_ rfl (idG gS)
 simp only[iD,gH,List.map_nil]
 all_goals exact wkG gS
end Go.Proofs.YtmbmmckagcdapaaGreatDoor
namespace Go.Proofs.YtmbmmckagcdapaaGreatDoor
open Go.RowKit
def tyZ:Ty:= .mk 0 0 0 0 [] []
def tyW:List Bs:=[[97,110,121],[105,110,116,56],[105,110,116,49,54],[105,110,116,51,50],[117,105,110,116,56],[117,105,110,116,49,54],[117,105,110,116,51,50]]
def tyA:List Int:=[6,1,1,1,2,2,2]
def tyB:List Int:=[0,1,2,4,1,2,4]
theorem LB:[V.im (.string ⟨#[97,110,121]⟩),V.im (.string ⟨#[105,110,116,56]⟩),V.im (.string ⟨#[105,110,116,49,54]⟩),V.im (.string ⟨#[105,110,116,51,50]⟩),V.im (.string ⟨#[117,105,110,116,56]⟩),V.im (.string ⟨#[117,105,110,116,49,54]⟩),V.im (.string ⟨#[117,105,110,116,51,50]⟩)]=tyW.map sV:=rfl
theorem LE:[(.im (.int .i64 (6))),(.im (.int .i64 (1))),(.im (.int .i64 (1))),(.im (.int .i64 (1))),(.im (.int .i64 (2))),(.im (.int .i64 (2))),(.im (.int .i64 (2)))]=tyA.map iV:=rfl
theorem LD:[(.im (.int .i64 (0))),(.im (.int .i64 (1))),(.im (.int .i64 (2))),(.im (.int .i64 (4))),(.im (.int .i64 (1))),(.im (.int .i64 (2))),(.im (.int .i64 (4)))]=tyB.map iV:=rfl
theorem OV: ∀m:Nat,m<7→ ∀x,tyW[m]? =some x→ ∀k,tyA[m]? =some k→ ∀z,tyB[m]? =some z→intR x=some (k,z):=by
 have: ∀m:Nat,m<7→(tyW[m]?).elim true (fun x=>(tyA[m]?).elim true fun k=>(tyB[m]?).elim true fun z=>decide (intR x=some (k,z)))=true:=by decide
 intro m hm x hx k hk z hz
 have h:=this m hm
 rw[hx,hk,hz]at h
 exact of_decide_eq_true h
theorem LA(x:Bs)(h:x∉tyW):intR x=none:=by
 unfold tyW at h
 simp only[List.mem_cons,List.not_mem_nil,or_false,not_or]at h
 obtain⟨h1,h2,h3,h4,h5,h6,h7⟩:=h
 unfold intR
 rw[if_neg h1,if_neg h2,if_neg h3,if_neg h4,if_neg h5,if_neg h6,if_neg h7]
def plR:Option (Int×Int)→V
 | some (k,z)=> .tu [tyV (.mk 0 k z 0 [] []),(.im (.bool (true)))]
 | none=> .tu [tyV tyZ,(.im (.bool (false)))]
def qX:=A12 @cJ @dY @gR @Sy @sO @qD @zW @lF @uK @cH @dM @gO
theorem DL(s:Bs):PC Tryz.prog 227 [.im (.string ⟨(s).toArray⟩)] (plR (intR s)):=by
 have hL:tyW.length=7:=rfl
 have hA:tyA.length=7:=rfl
 have hB:tyB.length=7:=rfl
 have hat:=OV
 have hno:=LA
 have eL:=LB
 have eA:=LE
 have eB:=LD
 generalize tyW=L at hL hat hno eL
 generalize tyA=KA at hA hat eA
 generalize tyB=KB at hB hat eB
 refine pcEnt 33 Tryz.func227 rfl [(0,.im (.string ⟨(s).toArray⟩))] ?_
 refine wG qX (A3 eL eA eB) ?_
 refine aT ?_
 refine ALp.cutP 1 [(0,.im (.string ⟨(s).toArray⟩)),(2,.pt 0 0),(4,.sl (L.map sV) .full),(5,.sl (KA.map iV) .full),(6,.sl (KB.map iV) .full),(7,(.im (.int .i64 ((((0):Nat):Int)))))] [.box [(.im (.int .i64 (0))),(.im (.int .i64 (0))),(.im (.int .i64 (0))),.sl [] .nl,.sl [] .nl]] BN02 ?_
 refine ALp.upto L.length (fun m=>s∉L.take m) (fun m=>⟨dn 33 [(0,.im (.string ⟨(s).toArray⟩)),(2,.pt 0 0),(4,.sl (L.map sV) .full),(5,.sl (KA.map iV) .full),(6,.sl (KB.map iV) .full),(7,(.im (.int .i64 ((((m):Nat):Int)))))],ofl [.box [(.im (.int .i64 (0))),(.im (.int .i64 (0))),(.im (.int .i64 (0))),.sl [] .nl,.sl [] .nl]]⟩) ?_ 0 (Nat.zero_le _) (by simp)
 intro m hm hI hnext
 by_cases hlt:m<L.length
 ·have hlt':(m:Int)<(L.length:Int):=by omega
  have hm1:=aQ hlt (by omega)
  have hg:=bJ hlt;have hla:m<KA.length:=by omega
  have hlb:m<KB.length:=by omega
  have hga:=bJ hla;have hgb:=bJ hlb;have ha:=hat m (by omega) _ (List.getElem?_eq_getElem hlt) _ (List.getElem?_eq_getElem hla) _ (List.getElem?_eq_getElem hlb)
  have hnx:=hnext (m+1) (by omega) (by omega)
  rw[List.take_succ_eq_append_getElem hlt]at hnx;clear hnext;have hla':(m:Int)<(KA.length:Int):=by omega
  have hlb':(m:Int)<(KB.length:Int):=by omega
  generalize L[m]=x at hg ha hnx;generalize KA[m]=k at hga ha;generalize KB[m]=z at hgb ha;cases hx:(x==s)with
  | true =>
   rw[eq_of_beq hx]at ha;rw[ha];refine wG qX (A5 BY hlt' hg SI hx) ?_;refine wdG qX (A6 BY hga hgb SI hla' hlb') ?_;refine fiGenO [.cell 2 94,.tmp 3] (finG qX) ?_
   simp only[plR,fQ,List.map_nil]
   all_goals exact wkG BN02
  | false =>
   refine wG qX (A6 BY hlt' hg SI hx hm1) ?_;refine ALp.cutP 1 [(0,.im (.string ⟨(s).toArray⟩)),(2,.pt 0 0),(4,.sl (L.map sV) .full),(5,.sl (KA.map iV) .full),(6,.sl (KB.map iV) .full),(7,(.im (.int .i64 ((((m+1):Nat):Int)))))] [.box [(.im (.int .i64 (0))),(.im (.int .i64 (0))),(.im (.int .i64 (0))),.sl [] .nl,.sl [] .nl]] BN02 ?_
   exact hnx (fun hm=>by
    rcases List.mem_append.1 hm with h|h
    ·exact hI h
    ·rw[List.mem_singleton.1 h]at hx
     simp at hx)
 obtain rfl:m=L.length:=by omega
 rw[List.take_length]at hI
 rw[hno _ hI]
 clear hnext hI hno
 refine wG qX (AI @Int.lt_irrefl @List.length_map.{0,0}) ?_
 refine fiGenO [.cell 2 94,.tmp 3] (finG qX) ?_
 simp only[plR,tyZ,fQ,List.map_nil]
 all_goals exact wkG BN02
theorem rI{ts:List Tk}{a:Nat}{x y:Bs}(h:sees ts a x=true)(hxy:(x==y)=false):sees ts a y=false:=by
 unfold sees at h ⊢
 rw[Bool.and_eq_true]at h
 rw[eq_of_beq h.2,hxy,Bool.and_false]
theorem GN{ts:List Tk}{a:Nat}{y:Bs}(h2:(pk ts a).kind≠2)(h5:(pk ts a).kind≠5):sees ts a y=false:=by
 unfold sees
 rw[beq_eq_false_iff_ne.2 h2,beq_eq_false_iff_ne.2 h5];rfl
theorem GM{ts:List Tk}{a:Nat}{x:Bs}(h:sees ts a x=true):(pk ts a).kind=2∨(pk ts a).kind=5:=by
 unfold sees at h
 rw[Bool.and_eq_true,Bool.or_eq_true,beq_iff_eq,beq_iff_eq]at h
 exact h.1
def TyR(ts:List Tk)(f:Nat):Prop:= ∀s:Sr,Pre (tyM ts f .ty) s→ ∃x s',Post (tyM ts f .ty) s x s'∧DC Tryz.prog 173 [.pt 0 0] [rbx ts s] (tyV x) [rbx ts s']
theorem Jr{ts:List Tk}{f:Nat}{s s':Sr}{x:Ty}(q:Post (tyM ts f .ty) s x s')(h:s'.e=0):s.e=0∧s'.o=s.o:=by
 obtain⟨h0,o,a,p,e1,e2,e3⟩:=q.ok h
 have:=((lH ts f).1 _ _ _ _ _ e2).1
 subst this
 rw[e3,e1]
 exact⟨h0,rfl⟩
def flM(ts:List Tk)(f:Nat)(l:List Ty)(a o:Nat):Option (Rs Ty):=rb (takM ts 3 a o) fun n a o=>rb (expM ts [58] a o) fun _ a o=>rb (tyM ts f .ty a o) fun x a o=>tyM ts f (.fl (l++[x.at_ n.n])) a o
inductive LpF (ts:List Tk):List Ty→Bool→Sr→List Ty→Sr→Prop where
 | stop {l:List Ty} {m:Bool} {s:Sr} (h:m=false∨s.e≠0):LpF ts l m s l s
 | step {l l':List Ty} {a a1 a2 a3:Nat} {o o1 o2 o3 e1 e2 e3:Int} {n:Tk} {x:Ty} {s':Sr} (hl:l.length≤4194304) (hn:0≤n.n∧n.n<4294967296)
   (d1:DC Tryz.prog 174 [.pt 0 0] [rbx ts ⟨a,o,0⟩] (.im (.int .u32 n.n)) [rbx ts ⟨a1,o1,e1⟩])
   (d2:DC Tryz.prog 126 [.pt 0 0,.im (.string ⟨([58]).toArray⟩)] [rbx ts ⟨a1,o1,e1⟩] (.tu []) [rbx ts ⟨a2,o2,e2⟩])
   (d3:DC Tryz.prog 173 [.pt 0 0] [rbx ts ⟨a2,o2,e2⟩] (tyV x) [rbx ts ⟨a3,o3,e3⟩])
   (r:LpF ts (l++[x.at_ n.n]) (isR ts a3 e3 [44]) ⟨if isR ts a3 e3 [44]=true then a3+1 else a3,o3,e3⟩ l' s'):LpF ts l true ⟨a,o,0⟩ l' s'
theorem HQ{ts:List Tk}{f:Nat}{B:List Ty}(h0:0<B.length){a o:Nat}(h:sees ts a [44]=false):tyM ts (f+1) (.fl B) a o=rb (endM ts [125] a o) fun _ a o=>ret (.mk 0 5 0 0 [] B) a o:=by
 rw[tyM]
 by_cases h1:sees ts a [125]=true
 ·rw[if_pos h1]
 ·rw[if_neg h1,if_pos h0]
  rw[Bool.not_eq_true]at h1;unfold expM endM;rw[h,h1];rfl
theorem HP{ts:List Tk}{f:Nat}{B:List Ty}(h0:0<B.length){a o:Nat}(h:sees ts a [44]=true):tyM ts (f+1) (.fl B) a o=flM ts f B (a+1) o:=by
 rw[tyM,if_neg (by rw[rI h (by decide)];decide),if_pos h0]
 unfold expM
 rw[h,if_neg (by decide)]
 rfl
theorem PK{ts:List Tk}(hts:ts.length≤4194304)(hok: ∀t∈ts,TkOk t): ∀(f:Nat),(∀g,g≤f→TyR ts g)→ ∀(l:List Ty) (s:Sr),Pre (flM ts f l) s→(s.e=0→(1≤s.o∧s.o≤256)∧l.length≤s.a∧s.a≤ts.length) →
  ∃l' s',LpF ts l true s l' s'∧Pre (endM ts [125]) s'∧(s'.e=0→1≤s'.o∧s'.o≤256)∧ ∀s'',Post (endM ts [125]) s' () s''→Post (flM ts f l) s (.mk 0 5 0 0 [] l') s'':=by
 intro f
 induction f using Nat.strongRecOn with
 | _ f ih =>
 intro hT l s hp hb
 by_cases he:s.e=0
 case neg=>exact⟨l,s,.stop (.inr he),Pre.err he,fun h=>absurd h he,fun s'' q=>Post.of_err he (q.1 he).1 (q.1 he).2⟩
 unfold flM at hp ⊢
 obtain⟨n,s1,q1,b1,hn,d1⟩:=xM ts hts hok s hp.fst
 have p1:=hp.snd q1
 obtain⟨s2,q2,b2,d2⟩:=gZ ts hts s1 [58] p1.fst
 have p2:=p1.snd q2
 obtain⟨x,s3,q3,d3⟩:=hT f (Nat.le_refl f) s2 p2.fst
 have p3:=p2.snd q3
 have hk:s3.e=0→s3.o=s.o∧s.a+2≤s3.a∧s3.a≤ts.length:=fun h3=>by
  have z3:=Jr q3 h3;obtain⟨_,o3',a3',p3',_,w3,w4⟩:=q3.ok h3;obtain⟨h1,o2',a2',p2',_,w2,w5⟩:=q2.ok z3.1;obtain⟨_,o1',a1',p1',_,w1,w6⟩:=q1.ok h1;have t1:=(iS w1).2.2.1;have t2:=dQ w2;have t3:=(lH ts f).1 _ _ _ _ _ w3;rw[w4,w5]at *;rw[w6]at *;simp only at *;omega
 obtain⟨a,o,e⟩:=s
 cases he
 obtain⟨a1,o1,e1⟩:=s1
 obtain⟨a2,o2,e2⟩:=s2
 obtain⟨a3,o3,e3⟩:=s3
 have hb:=hb rfl
 simp only at hb hk
 have hbl:l.length≤4194304:=by omega
 have hB0:0<(l++[x.at_ n.n]).length:=by simp
 by_cases h3:e3=0
 case neg =>
  have hfe:isR ts a3 e3 [44]=false:=uV h3;refine⟨l++[x.at_ n.n],⟨a3,o3,e3⟩,.step hbl hn d1 d2 d3 ?_,Pre.err h3,fun h=>absurd h h3,fun s'' q=>q1.bind (q2.bind (q3.bind (Post.of_err h3 (q.1 h3).1 (q.1 h3).2)))⟩
  rw[hfe,if_neg (by decide)]
  exact .stop (.inl rfl)
 subst h3
 obtain⟨k1,k2,k3⟩:=hk rfl
 obtain⟨p,hp3,r,hr⟩:=p3 rfl
 have hp3:o3=(p:Int):=hp3
 subst hp3
 have hr:tyM ts f (.fl (l++[x.at_ n.n])) a3 p=some r:=hr
 cases f with
 | zero=>cases hr
 | succ g =>
 cases hc:sees ts a3 [44]with
 | false =>
  refine⟨l++[x.at_ n.n],⟨a3,p,0⟩,.step hbl hn d1 d2 d3 ?_,fun _=>⟨p,rfl,_,rfl⟩,fun _=>by show 1≤(p:Int)∧(p:Int)≤256;omega,fun s'' q=>q1.bind (q2.bind (q3.bind (Post.congr (fun _=>funext fun o=>HQ hB0 hc) (q.bind (k:=fun _ a o=>ret (.mk 0 5 0 0 [] (l++[x.at_ n.n])) a o) (Post.ret (m:=fun a o=>ret (.mk 0 5 0 0 [] (l++[x.at_ n.n])) a o) fun h=> ?_)))))⟩
  ·rw[fY,hc,if_neg (by decide)]
   exact .stop (.inl rfl)
  ·obtain⟨_,o4,a4,p4,_,_,w⟩:=q.ok h
   rw[w];exact⟨p4,rfl,_,rfl⟩
 | true =>
  have hM: ∀o,tyM ts (g+1) (.fl (l++[x.at_ n.n])) a3 o=flM ts g (l++[x.at_ n.n]) (a3+1) o:=fun o=>HP hB0 hc
  have hlt:=cB hc;obtain⟨l',s',hL,hpe,hbe,hq⟩:=ih g (Nat.lt_succ_self g) (fun h hh=>hT h (by omega)) (l++[x.at_ n.n]) ⟨a3+1,p,0⟩ (fun _=>⟨p,rfl,r,by show flM ts g _ (a3+1) p=some r;rw[←hM];exact hr⟩) (fun _=>⟨by show 1≤(p:Int)∧(p:Int)≤256;omega,by rw[List.length_append];show l.length+1≤a3+1;omega,hlt⟩)
  refine⟨l',s',.step hbl hn d1 d2 d3 ?_,hpe,hbe,fun s'' q=>q1.bind (q2.bind (q3.bind (postShift (fun o=>(hM o).symm) (hq s'' q))))⟩
  rw[fY,hc,if_pos rfl];exact hL
def fN:=A16 @lX @oK @gR @tN @qD @Pz @nJ @jP @jO @pU @rZ @Pt @uK @lM @lW (A4 @mO @gO @pT @rW)
theorem Bn{ts:List Tk}(hts:ts.length≤4194304){s0 s s' s'':Sr}{l':List Ty}(d0:DC Tryz.prog 128 [.pt 0 0,.im (.string ⟨([123]).toArray⟩)] [rbx ts s0] (.tu []) [rbx ts s])
  (hL:LpF ts [] (!isR ts s.a s.e [125]) s l' s') (d9:DC Tryz.prog 130 [.pt 0 0,.im (.string ⟨([125]).toArray⟩)] [rbx ts s'] (.tu []) [rbx ts s'']) :
  DC Tryz.prog 226 [.pt 0 0] [rbx ts s0] (tyV (.mk 0 5 0 0 [] l')) [rbx ts s'']:=by
 have hi:=nR ts s.a s.o s.e [125]
 obtain⟨a0,o0,e0⟩:=s0
 obtain⟨a9,o9,e9⟩:=s''
 simp only[rbx]at d0 d9 ⊢
 refine dcEnt 41 Tryz.func226 rfl [(0,.pt 0 0)] ?_
 refine wG fN TI ?_
 refine aA [0] d0 TI BN02 BN05 ?_
 refine goG fN TI ?_
 refine wG fN TI ?_
 refine aA [0] hi TI BN02 BN05 ?_
 refine goG fN TI ?_
 refine wG fN TI ?_
 refine aT ?_
 refine cG ?_
 refine AWp.ghostB 2 4 [(.im (.int .i64 (5))),(.im (.int .i64 (0))),(.im (.int .i64 (0))),.sl [] .nl,.sl [] .nl] 218 6 ?_
 suffices H: ∀(l:List Ty) (m:Bool) (s:Sr),LpF ts l m s l' s'→AWpK _ _ _ _ _ ⟨dn 41 [(0,.pt 0 0),(2,.pt 1 0),(3,.pt 2 0),(4,(.im (.bool (m))))],ofl [rbx ts s,.box [(.im (.int .i64 (0))),(.im (.int .i64 (0))),(.im (.int .i64 (0))),.sl [] .nl,.sl [] .nl],.box [(.im (.int .i64 (5))),(.im (.int .i64 (0))),(.im (.int .i64 (0))),.sl [] .nl,.sl ((l).map fdV) (.mine 3)],.tip 218 6 (l).length]⟩ by
  simp only[rbx]at H;refine AWp.cutP 4 [(0,.pt 0 0),(2,.pt 1 0),(3,.pt 2 0),(4,(.im (.bool ((!isR ts s.a s.e [125])))))] [.box [.sl (ts.map tkV) .ro,(.im (.int .i64 ((s.a:Nat)))),(.im (.int .i64 (s.o))),(.im (.int .i64 (s.e)))],.box [(.im (.int .i64 (0))),(.im (.int .i64 (0))),(.im (.int .i64 (0))),.sl [] .nl,.sl [] .nl],.box [(.im (.int .i64 (5))),(.im (.int .i64 (0))),(.im (.int .i64 (0))),.sl [] .nl,.sl ((([]:List Ty)).map fdV) (.mine 3)],.tip 218 6 (([]:List Ty)).length] BN02 ?_;exact H [] _ s hL
 clear hL d0 hi
 intro l m s hL
 induction hL with
 | @stop l m s h =>
  obtain⟨a,o,e⟩:=s;simp only[rbx]at d9 ⊢;cases m with
  | false =>
   refine wG fN TI ?_;refine aA [0] d9 TI BN02 BN05 ?_;refine goG fN TI ?_;refine wG fN TI ?_;refine fiGen [.cell 2 94] (finG fN) ?_ rfl (idG BN02)
   rw[fQ,List.map_nil]
   all_goals exact wkG BN02
  | true =>
   have he:e≠0:=h.elim (fun h=>by cases h) id
   refine wG fN he ?_;refine aA [0] d9 TI BN02 BN05 ?_;refine goG fN TI ?_;refine wG fN TI ?_;refine fiGen [.cell 2 94] (finG fN) ?_ rfl (idG BN02)
   rw[fQ,List.map_nil]
   all_goals exact wkG BN02
 | @step l l' a a1 a2 a3 o o1 o2 o3 e1 e2 e3 n x s' hl hn d1 d2 d3 r ih =>
  have ih:=ih d9;have h4:=fR ts a3 o3 e3 [44] hts;have hwn:=cI (n:=n.n) (by omega)
  obtain⟨B,hB⟩: ∃B,B=l++[x.at_ n.n]:=⟨_,rfl⟩
  have hAs:l.map fdV++[V.ag [(.im (.int .i64 (n.n))),(.im (.int .i64 (x.kind))),(.im (.int .i64 (x.size))),(.im (.int .i64 (x.count))),.sl (x.elem.map tyV) .ro,.sl (x.fields.map fdV) .ro]]=B.map fdV:=by rw[hB,List.map_append,List.map_singleton,sH];rfl
  have hAl:l.length+1=B.length:=by rw[hB];simp
  have hbl:B.length*80≤140737488355328:=by omega
  rw[←hB]at ih;simp only[rbx]at d1 d2 d3 ih ⊢;generalize (if isR ts a3 e3 [44]=true then a3+1 else a3)=a4 at h4 ih
  generalize isR ts a3 e3 [44]=m4 at h4 ih;refine wG fN TI ?_;refine aA [0] d1 TI BN02 BN05 ?_;refine goG fN TI ?_;refine wG fN TI ?_;refine aA [0] d2 TI BN02 BN05 ?_;refine goG fN TI ?_;refine wG fN TI ?_;refine aA [0] d3 TI BN02 BN05 ?_;refine goG fN BN07 ?_;refine wG fN (A16 @dU @dX @cX @cZ @dS @dR @dT @cY @dP @dO @dW @dA @List.getElem?_map.{0,0} @Int.natCast_nonneg hwn (A5 hAs hAl hbl zH @List.length_map.{0,0})) ?_;refine aA [0] h4 TI BN02 BN05 ?_;refine goG fN TI ?_;refine wG fN TI ?_;refine cG ?_;refine AWp.cutP 4 [(0,.pt 0 0),(2,.pt 1 0),(3,.pt 2 0),(4,(.im (.bool (m4))))] [.box [.sl (ts.map tkV) .ro,(.im (.int .i64 ((a4:Nat)))),(.im (.int .i64 (o3))),(.im (.int .i64 (e3)))],.box [(.im (.int .i64 (0))),(.im (.int .i64 (0))),(.im (.int .i64 (0))),.sl [] .nl,.sl [] .nl],.box [(.im (.int .i64 (5))),(.im (.int .i64 (0))),(.im (.int .i64 (0))),.sl [] .nl,.sl ((B).map fdV) (.mine 3)],.tip 218 6 (B).length] BN02 ?_;exact ih
theorem Xx{ts:List Tk}(hts:ts.length≤4194304)(hok: ∀t∈ts,TkOk t){f:Nat}(hT: ∀g,g≤f→TyR ts g)(s:Sr)(hp:Pre (fun a o=>rb (begM ts [123] a o) fun _ a o=>tyM ts f (.fl []) a o) s) :
  ∃x s',Post (fun a o=>rb (begM ts [123] a o) fun _ a o=>tyM ts f (.fl []) a o) s x s'∧DC Tryz.prog 226 [.pt 0 0] [rbx ts s] (tyV x) [rbx ts s']:=by
 obtain⟨s1,q1,b1,d1⟩:=mX ts hts s [123] hp.fst
 have p1:=hp.snd q1
 by_cases h1:s1.e=0
 case neg =>
  obtain⟨s2,q2,_,d2⟩:=tZ ts hts s1 [125] (fun h=>absurd h h1) (Pre.err h1)
  exact⟨.mk 0 5 0 0 [] [],s2,q1.bind (Post.of_err h1 (q2.1 h1).1 (q2.1 h1).2),Bn hts d1 (by rw[uV h1];exact .stop (.inr h1)) d2⟩
 obtain⟨_,hb1,hb2⟩:=b1 h1
 have hlt:s1.a≤ts.length:=by
  obtain⟨_,o',a',p',_,w,w2⟩:=q1.ok h1;have:=dE w;have:=cB this.1;rw[w2];show a'≤_
  omega
 obtain⟨a1,o1,e1⟩:=s1
 cases h1
 obtain⟨p,hp1,r,hr⟩:=p1 rfl
 have hp1:o1=(p:Int):=hp1
 subst hp1
 have hr:tyM ts f (.fl []) a1 p=some r:=hr
 simp only at hb1 hb2 hlt
 cases f with
 | zero=>cases hr
 | succ g =>
 cases hs:sees ts a1 [125]with
 | true =>
  have hM: ∀o,tyM ts (g+1) (.fl []) a1 o=rb (endM ts [125] a1 o) fun _ a o=>ret (.mk 0 5 0 0 [] []) a o:=fun o=>by rw[tyM,if_pos hs]
  obtain⟨s2,q2,_,d2⟩:=tZ ts hts ⟨a1,p,0⟩ [125] (fun _=>⟨hb1,hb2⟩) (fun _=>⟨p,rfl,_,rfl⟩)
  refine⟨.mk 0 5 0 0 [] [],s2,q1.bind (Post.congr (fun _=>funext hM) (q2.bind (k:=fun _ a o=>ret (.mk 0 5 0 0 [] []) a o) (Post.ret (m:=fun a o=>ret (.mk 0 5 0 0 [] []) a o) fun h=> ?_))),Bn hts d1 (by show LpF ts [] (!isR ts a1 0 [125]) _ _ _;rw[fY,hs];exact .stop (.inl rfl)) d2⟩
  obtain⟨_,o4,a4,p4,_,_,w⟩:=q2.ok h;rw[w];exact⟨p4,rfl,_,rfl⟩
 | false =>
  have hM: ∀o,tyM ts (g+1) (.fl []) a1 o=flM ts g [] a1 o:=fun o=>by rw[tyM,if_neg (by rw[hs];decide),if_neg (by decide)];rfl
  obtain⟨l',s',hL,hpe,hbe,hq⟩:=PK hts hok g (fun h hh=>hT h (by omega)) [] ⟨a1,p,0⟩ (fun _=>⟨p,rfl,r,by show flM ts g [] a1 p=some r;rw[←hM];exact hr⟩) (fun _=>⟨⟨hb1,hb2⟩,Nat.zero_le _,hlt⟩)
  obtain⟨s2,q2,_,d2⟩:=tZ ts hts s' [125] hbe hpe;exact⟨.mk 0 5 0 0 [] l',s2,q1.bind (Post.congr (fun _=>funext hM) (hq s2 q2)),Bn hts d1 (by show LpF ts [] (!isR ts a1 0 [125]) _ _ _;rw[fY,hs];exact hL) d2⟩
def bD:=A16 @oO @lX @cJ @dY @gR @qD @lN @oJ @lE @gP @uO @jP @uM @pU @rZ (A9 @uK @oI @kG @lW @cH @dM @gO @pT @rW)
theorem DB(ts:List Tk)(a:Nat)(o e:Int)(he:e≠0):DC Tryz.prog 173 [.pt 0 0] [.box [.sl (ts.map tkV) .ro,(.im (.int .i64 ((a:Nat)))),(.im (.int .i64 (o))),(.im (.int .i64 (e)))]] (tyV tyZ) [.box [.sl (ts.map tkV) .ro,(.im (.int .i64 ((a:Nat)))),(.im (.int .i64 (o))),(.im (.int .i64 (e)))]]:=by
 refine dcEnt 88 Tryz.func173 rfl [(0,.pt 0 0)] ?_
 refine wG bD he ?_
 refine fiGen [.cell 2 94] (finG bD) ?_ rfl (idG BN02)
 simp only[tyZ,fQ,List.map_nil]
 all_goals exact wkG BN02
theorem NI{ts:List Tk}{f:Nat}(hts:ts.length≤4194304)(hok: ∀t∈ts,TkOk t)(hT: ∀g,g≤f→TyR ts g):TyR ts (f+1):=by
 intro s hp
 by_cases hs:s.e=0
 case neg =>
  obtain⟨a,o,e⟩:=s;exact⟨tyZ,⟨a,o,e⟩,Post.of_err hs rfl rfl,DB ts a o e hs⟩
 obtain⟨a,o',e⟩:=s
 cases hs
 obtain⟨o,ho,r,hr⟩:=hp rfl
 have ho:o'=(o:Int):=ho
 subst ho
 have hr:tyM ts (f+1) .ty a o=some r:=hr
 have i0:=fR ts a o 0 [63] hts
 have i1:=nR ts a o 0 [42]
 have i2:=nR ts a o 0 [91]
 have i3:=nR ts a o 0 [123]
 have ik:=kP ts a o 0 1 (by decide)
 have hf:=tY ts a o 0
 rw[if_pos rfl]at hf
 rw[show decide ((0:Int)=0)=true from rfl,Bool.true_and]at ik
 rw[fY]at i0 i1 i2 i3
 by_cases k1:(pk ts a).kind=1
 ·have n2:(pk ts a).kind≠2:=by omega
  have n5:(pk ts a).kind≠5:=by omega
  rw[GN n2 n5]at i0 i1 i2 i3;rw[if_neg (by decide)]at i0
  rw[decide_eq_true k1]at ik;have hlt:=eT k1 (by decide)
  obtain⟨hg,g0,gn⟩:=rtake hlt;have hw:=aQ (m:=a) (N:=4194304) (by omega) (by decide)
  have hq:=DL (pk ts a).text;cases hi:intR (pk ts a).text with
  | none =>
   rw[hi]at hq;refine⟨tyZ,⟨a,o,3⟩,Post.of_bad (by rw[tyM,if_pos k1,hi]) (by decide),?_⟩
   clear hp hr;unfold plR at hq;simp only[tyZ,fQ,List.map_nil]at hq;simp only[rbx];generalize pk ts a=t at hg hq;refine dcEnt 88 Tryz.func173 rfl [(0,.pt 0 0)] ?_
   refine wG bD TI ?_;refine aA [0] i0 TI BN02 BN05 ?_;refine goG bD TI ?_;refine wG bD TI ?_;refine aA [0] i1 TI BN02 BN05 ?_;refine goG bD TI ?_;refine wG bD TI ?_;refine aA [0] i2 TI BN02 BN05 ?_;refine goG bD TI ?_;refine wG bD TI ?_;refine aA [0] i3 TI BN02 BN05 ?_;refine goG bD TI ?_;refine wG bD TI ?_;refine aA [0] ik TI BN02 BN05 ?_;refine goG bD TI ?_;refine wdG bD (A4 TKT hg g0 gn) ?_;refine AR.callP hq TI BN02 ?_;refine goG bD BN07 ?_;refine wdG bD BN07 ?_;refine aA [0] hf TI BN02 BN05 ?_;refine goG bD TI ?_;refine wG bD TI ?_;refine fiGen [.cell 2 94] (finG bD) ?_ rfl (idG BN02)
   simp only[tyZ,fQ,List.map_nil]
   all_goals exact wkG BN02
  | some w =>
   obtain⟨k,z⟩:=w;rw[hi]at hq;refine⟨.mk 0 k z 0 [] [],⟨a+1,o,0⟩,Post.of_ok (by rw[tyM,if_pos k1,hi];rfl),?_⟩
   clear hp hr;unfold plR at hq;simp only[fQ,List.map_nil]at hq;simp only[rbx];generalize pk ts a=t at hg hq;refine dcEnt 88 Tryz.func173 rfl [(0,.pt 0 0)] ?_
   refine wG bD TI ?_;refine aA [0] i0 TI BN02 BN05 ?_;refine goG bD TI ?_;refine wG bD TI ?_;refine aA [0] i1 TI BN02 BN05 ?_;refine goG bD TI ?_;refine wG bD TI ?_;refine aA [0] i2 TI BN02 BN05 ?_;refine goG bD TI ?_;refine wG bD TI ?_;refine aA [0] i3 TI BN02 BN05 ?_;refine goG bD TI ?_;refine wG bD TI ?_;refine aA [0] ik TI BN02 BN05 ?_;refine goG bD TI ?_;refine wdG bD (A4 TKT hg g0 gn) ?_;refine AR.callP hq TI BN02 ?_;refine goG bD BN07 ?_;refine wdG bD (A15 @dU @dX @cX @cZ @dS @dR @dT @cY @dP @dO @dW @dA @List.getElem?_map.{0,0} @Int.natCast_nonneg hw) ?_;refine fiGen [.cell 2 94] (finG bD) ?_ rfl (idG BN02)
   simp only[fQ,List.map_nil]
   all_goals exact wkG BN02
 rw[decide_eq_false k1]at ik
 cases h63:sees ts a [63]with
 | true =>
  have hlt:=cB h63;rw[h63,if_pos rfl]at i0;refine⟨tyZ,⟨a+1,o,0⟩,Post.of_ok (by rw[tyM,if_neg k1,if_pos h63];rfl),?_⟩
  clear hp hr;simp only[rbx];refine dcEnt 88 Tryz.func173 rfl [(0,.pt 0 0)] ?_
  refine wG bD TI ?_;refine aA [0] i0 TI BN02 BN05 ?_;refine goG bD TI ?_;refine wG bD TI ?_;refine fiGen [.cell 2 94] (finG bD) ?_ rfl (idG BN02)
  simp only[tyZ,fQ,List.map_nil]
  all_goals exact wkG BN02
 | false =>
 rw[h63,if_neg (by decide)]at i0
 cases h42:sees ts a [42]with
 | true =>
  rw[h42]at i1;have hM: ∀o,tyM ts (f+1) .ty a o=rb (begM ts [42] a o) fun _ a o=>rb (tyM ts f .ty a o) fun x a o=>ret (Ty.mk 0 3 0 0 [x] []) a (o-1):=fun o=>by rw[tyM,if_neg k1,if_neg (by rw[h63];decide),if_pos h42]
  have hp:Pre (fun a o=>rb (begM ts [42] a o) fun _ a o=>rb (tyM ts f .ty a o) fun x a o=>ret (Ty.mk 0 3 0 0 [x] []) a (o-1)) ⟨a,o,0⟩:=Pre.congr (fun _=>funext hM) hp
  obtain⟨s1,q1,b1,d1⟩:=mX ts hts ⟨a,o,0⟩ [42] hp.fst;have p1:=hp.snd q1;obtain⟨x,s2,q2,d2⟩:=hT f (Nat.le_refl f) s1 p1.fst;have p2:=p1.snd q2;refine⟨.mk 0 3 0 0 [x] [],⟨s2.a,IntKind.i64.wrap (s2.o-1),s2.e⟩,Post.congr (m':=fun a o=>rb (begM ts [42] a o) fun _ a o=>rb (tyM ts f .ty a o) fun x a o=>ret (Ty.mk 0 3 0 0 [x] []) a (o-1)) (fun _=>funext hM) (q1.bind (q2.bind (postDec (fun h=>by obtain⟨h0,e⟩:=Jr q2 h;rw[e];exact(b1 h0).2) p2))),?_⟩
  obtain⟨a1,o1,e1⟩:=s1;obtain⟨a2,o2,e2⟩:=s2;clear q1 q2 p1 p2 hp b1 hM hr;simp only[rbx]at d1 d2 ⊢;refine dcEnt 88 Tryz.func173 rfl [(0,.pt 0 0)] ?_
  refine wG bD TI ?_;refine aA [0] i0 TI BN02 BN05 ?_;refine goG bD TI ?_;refine wG bD TI ?_;refine aA [0] i1 TI BN02 BN05 ?_;refine goG bD TI ?_;refine wG bD TI ?_;refine aA [0] d1 TI BN02 BN05 ?_;refine goG bD TI ?_;refine wG bD TI ?_;refine aA [0] d2 TI BN02 BN05 ?_;refine goG bD BN07 ?_;refine wG bD BN07 ?_;refine fiGen [.cell 2 94] (finG bD) ?_ rfl (idG BN02)
  simp only[fQ,List.map_nil,List.map_cons];rw[cW x]
  all_goals exact wkG BN02
 | false =>
 rw[h42]at i1
 cases h91:sees ts a [91]with
 | true =>
  rw[h91]at i2;have hM: ∀o,tyM ts (f+1) .ty a o=rb (begM ts [91] a o) fun _ a o=>rb (takM ts 3 a o) fun n a o=>rb (expM ts [93] a o) fun _ a o=>rb (tyM ts f .ty a o) fun x a o=>ret (Ty.mk 0 4 0 n.n [x] []) a (o-1):=fun o=>by rw[tyM,if_neg k1,if_neg (by rw[h63];decide),if_neg (by rw[h42];decide),if_pos h91]
  have hp:Pre (fun a o=>rb (begM ts [91] a o) fun _ a o=>rb (takM ts 3 a o) fun n a o=>rb (expM ts [93] a o) fun _ a o=>rb (tyM ts f .ty a o) fun x a o=>ret (Ty.mk 0 4 0 n.n [x] []) a (o-1)) ⟨a,o,0⟩:=Pre.congr (fun _=>funext hM) hp
  obtain⟨s1,q1,b1,d1⟩:=mX ts hts ⟨a,o,0⟩ [91] hp.fst;have p1:=hp.snd q1;obtain⟨n,s2,q2,b2,hn,d2⟩:=xM ts hts hok s1 p1.fst;have p2:=p1.snd q2;obtain⟨s3,q3,b3,d3⟩:=gZ ts hts s2 [93] p2.fst;have p3:=p2.snd q3;obtain⟨x,s4,q4,d4⟩:=hT f (Nat.le_refl f) s3 p3.fst;have p4:=p3.snd q4;refine⟨.mk 0 4 0 n.n [x] [],⟨s4.a,IntKind.i64.wrap (s4.o-1),s4.e⟩,Post.congr (m':=fun a o=>rb (begM ts [91] a o) fun _ a o=>rb (takM ts 3 a o) fun n a o=>rb (expM ts [93] a o) fun _ a o=>rb (tyM ts f .ty a o) fun x a o=>ret (Ty.mk 0 4 0 n.n [x] []) a (o-1)) (fun _=>funext hM) (q1.bind (q2.bind (q3.bind (q4.bind (postDec (fun h=>by obtain⟨h0,e⟩:=Jr q4 h;rw[e,b3,b2];exact(b1 (q2.ok (q3.ok h0).1).1).2) p4))))),?_⟩
  have hwn:=cI (n:=n.n) (by omega)
  obtain⟨a1,o1,e1⟩:=s1;obtain⟨a2,o2,e2⟩:=s2;obtain⟨a3,o3,e3⟩:=s3;obtain⟨a4,o4,e4⟩:=s4;clear q1 q2 q3 q4 p1 p2 p3 p4 hp b1 b2 b3 hM hr;simp only[rbx]at d1 d2 d3 d4 ⊢;refine dcEnt 88 Tryz.func173 rfl [(0,.pt 0 0)] ?_
  refine wG bD TI ?_;refine aA [0] i0 TI BN02 BN05 ?_;refine goG bD TI ?_;refine wG bD TI ?_;refine aA [0] i1 TI BN02 BN05 ?_;refine goG bD TI ?_;refine wG bD TI ?_;refine aA [0] i2 TI BN02 BN05 ?_;refine goG bD TI ?_;refine wG bD TI ?_;refine aA [0] d1 TI BN02 BN05 ?_;refine goG bD TI ?_;refine wG bD TI ?_;refine aA [0] d2 TI BN02 BN05 ?_;refine goG bD TI ?_;refine wG bD TI ?_;refine aA [0] d3 TI BN02 BN05 ?_;refine goG bD TI ?_;refine wG bD TI ?_;refine aA [0] d4 TI BN02 BN05 ?_;refine goG bD BN07 ?_;refine wG bD (A15 @dU @dX @cX @cZ @dS @dR @dT @cY @dP @dO @dW @dA @List.getElem?_map.{0,0} @Int.natCast_nonneg hwn) ?_;refine fiGen [.cell 2 94] (finG bD) ?_ rfl (idG BN02)
  simp only[fQ,List.map_nil,List.map_cons];rw[cW x]
  all_goals exact wkG BN02
 | false =>
 rw[h91]at i2
 cases h123:sees ts a [123]with
 | true =>
  rw[h123]at i3;have hM: ∀o,tyM ts (f+1) .ty a o=rb (begM ts [123] a o) fun _ a o=>tyM ts f (.fl []) a o:=fun o=>by rw[tyM,if_neg k1,if_neg (by rw[h63];decide),if_neg (by rw[h42];decide),if_neg (by rw[h91];decide),if_pos h123]
  obtain⟨x,s',q,d⟩:=Xx hts hok hT ⟨a,o,0⟩ (Pre.congr (fun _=>funext hM) hp)
  refine⟨x,s',Post.congr (fun _=>funext hM) q,?_⟩
  obtain⟨a1,o1,e1⟩:=s';clear q hM hr hp;simp only[rbx]at d ⊢;refine dcEnt 88 Tryz.func173 rfl [(0,.pt 0 0)] ?_
  refine wG bD TI ?_;refine aA [0] i0 TI BN02 BN05 ?_;refine goG bD TI ?_;refine wG bD TI ?_;refine aA [0] i1 TI BN02 BN05 ?_;refine goG bD TI ?_;refine wG bD TI ?_;refine aA [0] i2 TI BN02 BN05 ?_;refine goG bD TI ?_;refine wG bD TI ?_;refine aA [0] i3 TI BN02 BN05 ?_;refine goG bD TI ?_;refine wG bD TI ?_;refine aA [0] d TI BN02 BN05 ?_;refine goG bD BN07 ?_;refine wG bD BN07 ?_;refine fiGen [.cell 2 94] (finG bD) ?_ rfl (idG BN02)
  rw[cW x]
  all_goals exact wkG BN02
 | false =>
 rw[h123]at i3
 refine⟨tyZ,⟨a,o,3⟩,Post.of_bad (by rw[tyM,if_neg k1,if_neg (by rw[h63];decide),if_neg (by rw[h42];decide),if_neg (by rw[h91];decide),if_neg (by rw[h123];decide)]) (by decide),?_⟩
 clear hp hr
 simp only[rbx]
 refine dcEnt 88 Tryz.func173 rfl [(0,.pt 0 0)] ?_
 refine wG bD TI ?_
 refine aA [0] i0 TI BN02 BN05 ?_
 refine goG bD TI ?_
 refine wG bD TI ?_
 refine aA [0] i1 TI BN02 BN05 ?_
 refine goG bD TI ?_
 refine wG bD TI ?_
 refine aA [0] i2 TI BN02 BN05 ?_
 refine goG bD TI ?_
 refine wG bD TI ?_
 refine aA [0] i3 TI BN02 BN05 ?_
 refine goG bD TI ?_
 refine wG bD TI ?_
 refine aA [0] ik TI BN02 BN05 ?_
 refine goG bD TI ?_
 refine wG bD TI ?_
 refine aA [0] hf TI BN02 BN05 ?_
 refine goG bD TI ?_
 refine wG bD TI ?_
 refine fiGen [.cell 2 94] (finG bD) ?_ rfl (idG BN02)
 simp only[tyZ,fQ,List.map_nil]
 all_goals exact wkG BN02
theorem NH{ts:List Tk}(hts:ts.length≤4194304)(hok: ∀t∈ts,TkOk t): ∀f,TyR ts f:=by
 have key: ∀F f,f≤F→TyR ts f:=by
  intro F
  induction F with
  | zero =>
   intro f hf;obtain rfl:f=0:=by omega
   intro s hp
   by_cases he:s.e=0
   ·obtain⟨o,_,r,hr⟩:=hp he
    cases hr
   ·obtain⟨a,o,e⟩:=s
    exact⟨tyZ,⟨a,o,e⟩,Post.of_err he rfl rfl,DB ts a o e he⟩
  | succ F ih =>
   intro f hf
   by_cases hle:f≤F
   ·exact ih f hle
   obtain rfl:f=F+1:=by omega
   exact NI hts hok ih
 exact fun f=>key f f (Nat.le_refl f)
theorem zE(u:Un)(hu:fitU u):PC Tryz.prog 15 [.ag [.sl (u.globals.map vaV) .ro,.sl (u.data.map scV) .ro,.sl (u.funcs.map fnV) .ro]] (.im (.int .i64 (unE u))):=Pf u hu
def iP:=A10 aB aC @aL @aK bM bV dC cC aG cK
def fW:=A9 @oM @lX @pI @uQ @Bu @Ve @mP @lW @wS
theorem Le(s:Bs)(hs:s.length≤4194304):PC Tryz.prog 13 [.im (.string ⟨(s).toArray⟩)] (.tu [unV (uniP s).1,(.im (.int .i64 ((uniP s).2)))]):=by
 have h1:=Se s hs
 obtain⟨hok,hts,hes⟩:=wB s
 unfold uniP
 generalize scnR s=q at h1 hok hts hes
 obtain⟨ts,e⟩:=q
 simp only at h1 hok hts hes ⊢
 by_cases he:e=0
 case neg =>
  rw[if_pos he];refine pcEnt 36 Tryz.func13 rfl [(0,.im (.string ⟨(s).toArray⟩))] ?_
  refine wG fW TI ?_;refine AR.callP h1 TI iP ?_;refine goG fW TI ?_;refine wG fW he ?_;refine fiGenO [.cell 2 27,.tmp 3] (finG fW) ?_
  all_goals exact wkG iP
 subst he
 rw[if_neg (by decide)]
 rcases sR ts with ⟨b,e,hz,hx,he,hb⟩|⟨x,b,p,hz,hx,hr⟩
 ·have h2:=wQ (by omega) hok _ _ hz
  change PC _ _ _ (.tu [unV ⟨[],[],[]⟩,.ag [(.im (.int .i64 ((b:Nat)))),(.im (.int .i64 (e)))]])at h2;have he: ¬e=0:=CP he;rw[hx,if_pos he];refine pcEnt 36 Tryz.func13 rfl [(0,.im (.string ⟨(s).toArray⟩))] ?_
  refine wG fW TI ?_;refine AR.callP h1 TI iP ?_;refine goG fW TI ?_;refine wG fW TI ?_;refine AR.callP h2 TI iP ?_;refine goG fW UNT ?_;refine wdG fW he ?_;refine fiGenO [.cell 2 27,.tmp 3] (finG fW) ?_
  all_goals exact wkG iP
 have h2:=wQ (by omega) hok _ _ hz
 change PC _ _ _ (.tu [unV x,.ag [(.im (.int .i64 (0))),(.im (.int .i64 (0)))]])at h2
 have h3:=zE x (sQ hok hts hr)
 rw[hx,if_neg (fun h=>h rfl)]
 simp only
 by_cases hu:unE x=0
 case neg =>
  rw[if_pos hu];refine pcEnt 36 Tryz.func13 rfl [(0,.im (.string ⟨(s).toArray⟩))] ?_
  refine wG fW TI ?_;refine AR.callP h1 TI iP ?_;refine goG fW TI ?_;refine wG fW TI ?_;refine AR.callP h2 TI iP ?_;refine goG fW UNT ?_;refine wG fW UNT ?_;refine AR.callP h3 TI iP ?_;refine goG fW TI ?_;refine wG fW hu ?_;refine fiGenO [.cell 2 27,.tmp 3] (finG fW) ?_
  all_goals exact wkG iP
 rw[if_neg (fun h=>h hu)]
 rw[hu]at h3
 refine pcEnt 36 Tryz.func13 rfl [(0,.im (.string ⟨(s).toArray⟩))] ?_
 refine wG fW TI ?_
 refine AR.callP h1 TI iP ?_
 refine goG fW TI ?_
 refine wG fW TI ?_
 refine AR.callP h2 TI iP ?_
 refine goG fW UNT ?_
 refine wG fW UNT ?_
 refine AR.callP h3 TI iP ?_
 refine goG fW TI ?_
 refine wG fW TI ?_
 refine fiGenO [.cell 2 27,.tmp 3] (finG fW) ?_
 rw[kS x]
 all_goals exact wkG iP
def fS:=A13 @oM @lX @cJ @pI @uQ @uP @Ym @Bu @kH @mP @lW @cH @wS
theorem Jj(s:Bs)(hs:s.length≤4194304):PC Tryz.prog 25 [.im (.string ⟨(s).toArray⟩)] (.tu [(.im (.int .i64 ((errP s).1.1))),(.im (.int .i64 ((errP s).1.2))),(.im (.int .i64 ((errP s).2)))]):=by
 have h1:=Se s hs
 obtain⟨hok,hts,hes⟩:=wB s
 unfold errP
 generalize scnR s=q at h1 hok hts hes
 obtain⟨ts,e⟩:=q
 simp only at h1 hok hts hes ⊢
 by_cases he3:e=3
 ·subst he3
  rw[if_pos rfl];have hw:=cI (n:=(ts.length:Int)-1) (by omega)
  have h2:=Gc ts ((ts.length:Int)-1) (by omega)
  refine pcEnt 55 Tryz.func25 rfl [(0,.im (.string ⟨(s).toArray⟩))] ?_
  refine wG fS TI ?_;refine AR.callP h1 TI iP ?_;refine goG fS TI ?_;refine wG fS (AI hw @List.length_map.{0,0}) ?_;refine AR.callP h2 TI iP ?_;refine goG fS TI ?_;refine wG fS TI ?_;refine fiGenO [.tmp 2,.tmp 3,.tmp 4] (finG fS) ?_
  all_goals exact wkG iP
 rw[if_neg he3]
 by_cases he:e=0
 case neg =>
  rw[if_pos he];refine pcEnt 55 Tryz.func25 rfl [(0,.im (.string ⟨(s).toArray⟩))] ?_
  refine wG fS TI ?_;refine AR.callP h1 TI iP ?_;refine goG fS TI ?_;refine wG fS (AI he he3) ?_;refine fiGenO [.tmp 2,.tmp 3,.tmp 4] (finG fS) ?_
  all_goals exact wkG iP
 subst he
 rw[if_neg (by decide)]
 rcases sR ts with ⟨b,e,hz,hx,he,hb⟩|⟨x,b,p,hz,hx,hr⟩
 ·have h2:=wQ (by omega) hok _ _ hz
  change PC _ _ _ (.tu [unV ⟨[],[],[]⟩,.ag [(.im (.int .i64 ((b:Nat)))),(.im (.int .i64 (e)))]])at h2;have he: ¬e=0:=CP he;have h3:=Gc ts (b:Int) (by omega)
  rw[hx,if_pos he];refine pcEnt 55 Tryz.func25 rfl [(0,.im (.string ⟨(s).toArray⟩))] ?_
  refine wG fS TI ?_;refine AR.callP h1 TI iP ?_;refine goG fS TI ?_;refine wG fS TI ?_;refine AR.callP h2 TI iP ?_;refine goG fS UNT ?_;refine wG fS he ?_;refine AR.callP h3 TI iP ?_;refine goG fS TI ?_;refine wdG fS TI ?_;refine fiGenO [.tmp 2,.tmp 3,.tmp 4] (finG fS) ?_
  all_goals exact wkG iP
 have h2:=wQ (by omega) hok _ _ hz
 change PC _ _ _ (.tu [unV x,.ag [(.im (.int .i64 (0))),(.im (.int .i64 (0)))]])at h2
 have h3:=zE x (sQ hok hts hr)
 rw[hx,if_neg (fun h=>h rfl)]
 simp only
 refine pcEnt 55 Tryz.func25 rfl [(0,.im (.string ⟨(s).toArray⟩))] ?_
 refine wG fS TI ?_
 refine AR.callP h1 TI iP ?_
 refine goG fS TI ?_
 refine wG fS TI ?_
 refine AR.callP h2 TI iP ?_
 refine goG fS UNT ?_
 refine wG fS UNT ?_
 refine AR.callP h3 TI iP ?_
 refine goG fS TI ?_
 refine wG fS TI ?_
 refine fiGenO [.tmp 2,.tmp 3,.tmp 4] (finG fS) ?_
 all_goals exact wkG iP
theorem CX{vs:List Va}{fs ls sn:List ByteArray}{p:Nd×Bool}(h:chk1 vs fs ls sn p=0):stT p.1=true:=by
 unfold chk1 at h
 cases b:stT p.1 with
 | true=>rfl
 | false =>
  rw[b]at h;split at h
  ·cases h
  ·simp at h
theorem Fo{α β:Type}{f g:α→List β}{l:List α}(h: ∀x∈l,f x=g x):l.flatMap f=l.flatMap g:=by
 induction l with
 | nil=>rfl
 | cons x l ih=>rw[List.flatMap_cons,List.flatMap_cons,h x (by simp),ih fun y hy=>h y (by simp[hy])]
theorem Oc: ∀(l:List Nd) (lp lq:Bool),(flaL l lp).map Prod.fst=(allL l lq).map Prod.fst:=by
 refine jN fun l hl lp lq=> ?_
 unfold flaL allL
 rw[List.map_flatMap,List.map_flatMap]
 refine Fo fun t ht=> ?_
 rw[Dd,zI,List.map_cons,List.map_cons,List.map_append]
 unfold subs
 rw[List.flatMap_cons,List.map_append,hl t ht t.l (by simp[subs]) _ (inL t lq),List.map_flatMap,List.map_flatMap]
 congr 2
 exact Fo fun c hc=>hl t ht c (by unfold subs;exact List.mem_cons_of_mem _ hc) _ _
theorem Nr(l:List (Nd×Bool)):labs l=(l.map Prod.fst).flatMap fun s=>if s.kind==13 then [s.name]else []:=by
 unfold labs
 rw[List.flatMap_map]
theorem BL(l:List Nd):labs (flaL l false)=labs (allL l false):=by rw[Nr,Nr,Oc l false false]
theorem AA{t:Nd}(h:stT t=true)(lp:Bool):inL t lp=lp∨(t.el=[]∧t.cs=[]):=by
 unfold stT at h
 simp only[Bool.and_eq_true]at h
 obtain⟨⟨⟨⟨⟨⟨⟨⟨_,_⟩,_⟩,_⟩,_⟩,h6⟩,_⟩,h8⟩,_⟩:=h
 by_cases k7:t.kind=7
 ·refine .inr ⟨by simpa[k7]using h6,by simpa[k7]using h8⟩
 by_cases k8:t.kind=8
 ·refine .inr ⟨by simpa[k8]using h6,by simpa[k8]using h8⟩
 have e7:(t.kind==7)=false:=by simpa using k7
 have e8:(t.kind==8)=false:=by simpa using k8
 exact .inl (by unfold inL;rw[e7,e8,Bool.or_false,Bool.or_false])
theorem As{vs:List Va}{fs ls:List ByteArray}{α:Type}(f g:α→List (Nd×Bool))(r:List (Nd×Bool)): ∀(l:List α),(∀c∈l,∀sn r1 r2,(∀sn,runS vs fs ls sn r1=runS vs fs ls sn r2)→runS vs fs ls sn (f c++r1)=runS vs fs ls sn (g c++r2)) →
  ∀sn r1 r2,(∀sn,runS vs fs ls sn r1=runS vs fs ls sn r2)→runS vs fs ls sn (l.flatMap f++r1)=runS vs fs ls sn (l.flatMap g++r2)
 | [],_,sn,r1,r2,hr=>by simpa using hr sn
 | c::l,h,sn,r1,r2,hr=>by
  rw[List.flatMap_cons,List.flatMap_cons,List.append_assoc,List.append_assoc];exact h c (by simp) sn _ _ fun sn=>As f g r l (fun d hd=>h d (List.mem_cons_of_mem _ hd)) sn r1 r2 hr
theorem AO{vs:List Va}{fs ls:List ByteArray}: ∀(l:List Nd) (lp:Bool) (sn:List ByteArray) (r1 r2:List (Nd×Bool)),(∀sn,runS vs fs ls sn r1=runS vs fs ls sn r2)→runS vs fs ls sn (flaL l lp++r1)=runS vs fs ls sn (allL l lp++r2):=by
 refine jN fun l hl lp=> ?_
 unfold flaL allL
 refine As _ _ [] l fun t ht sn r1 r2 hr=> ?_
 rw[Dd,zI,List.cons_append,List.cons_append,wD,wD]
 by_cases b:chk1 vs fs ls sn (t,lp)=0
 case neg=>rw[if_neg b,if_neg b]
 rw[if_pos b,if_pos b]
 have hsub: ∀c∈t.el::t.cs,c∈subs t:=fun c hc=>by unfold subs;exact List.mem_cons_of_mem _ hc
 have hec:=AA (CX b) lp
 have hnil:t.el=[]→t.cs=[]→t.el::t.cs=[[]]:=fun h1 h2=>by rw[h1,h2]
 rw[show subs t=t.l::(t.el::t.cs)from rfl]
 generalize t.el::t.cs=ec at hsub hnil ⊢
 rw[List.flatMap_cons,List.append_assoc,List.append_assoc]
 refine hl t ht t.l (by simp[subs]) _ _ _ _ fun sn=> ?_
 rcases hec with h|⟨h1,h2⟩
 ·rw[h]
  exact As _ _ [] _ (fun c hc=>hl t ht c (hsub c hc) lp) sn r1 r2 hr
 ·rw[hnil h1 h2]
  simpa[flaL,allL]using hr sn
theorem Wl(vs:List Va)(fs ls sn:List ByteArray)(l:List Nd)(lp:Bool):runS vs fs ls sn (flaL l lp)=runS vs fs ls sn (allL l lp):=by
 have:=AO (vs:=vs) (fs:=fs) (ls:=ls) l lp sn [] [] fun _=>rfl
 rwa [List.append_nil,List.append_nil]at this
theorem Qx(sn:List ByteArray)(l:List (Nd×Bool)):seenS sn l=sn++labs l:=by
 induction l generalizing sn with
 | nil=>simp[seenS,labs]
 | cons p l ih =>
  have e:seenS sn (p::l)=seenS (nxt sn p) l:=rfl;rw[e,ih];unfold nxt labs;rw[List.flatMap_cons];split<;>simp
theorem HO(l:List Nd)(h:fitNL l)(lp:Bool): ∀p∈flaL l lp,fitN p.1:=fun p hp=>by
 have h1:p.1∈(flaL l lp).map Prod.fst:=List.mem_map_of_mem hp
 rw[Oc l lp lp]at h1
 obtain⟨q,hq,e⟩:=List.mem_map.1 h1
 rw[←e]
 exact Uv l h lp q hq
def iH:=A15 @mT @oM @lG @pH @sC @zX @kQ @mS @qK @tM @lA @zU @mP @jU @jS
theorem JP(u:Un)(hfl:u.funcs.length≤4194304)(f:Fun)(hg:u.globals.length≤2097152)(hv:f.vars.length≤2097152)(hvn:fitVN f.vars)(hb:fitNL f.body)(hc:cnt f.body≤4194304) :
  PC Tryz.prog 119 [unV u,fnV f] (.im (.int .i64 (bodyE u.globals f (u.funcs.map Fun.name)))):=by
 have h1:=zA u.globals f.vars (by omega) hvn
 have h2:PC Tryz.prog 180 [.sl (f.body.map ndV) .ro,(.im (.int .i64 (65)))] (.im (.int .i64 (min (dep f.body) 66))):=EC f.body hb 65 (by decide) (by decide)
 have h3:=NV f.body hb hc false
 have hlen:=Ob f.body false
 have hw:IntKind.i64.wrap ((f.vars.length:Int)+(u.globals.length:Int))=(f.vars.length:Int)+(u.globals.length:Int):=cI (by omega)
 unfold bodyE
 refine pcEnt 57 Tryz.func119 rfl [(0,unV u),(1,fnV f)] ?_
 simp only[kS,sG]
 by_cases b1:256<u.globals.length+f.vars.length
 ·have b1':(256:Int)<(f.vars.length:Int)+(u.globals.length:Int):=by omega
  rw[if_pos b1];refine wG iH (A3 hw b1' @List.length_map.{0,0}) ?_;exact aD
 have b1': ¬(256:Int)<(f.vars.length:Int)+(u.globals.length:Int):=by omega
 rw[if_neg b1]
 refine wG iH (A3 hw b1' @List.length_map.{0,0}) ?_
 refine AR.callP h1 TI BN08 ?_
 by_cases b2:vErr u.globals f.vars=0
 case neg =>
  rw[if_pos b2];refine goG iH b2 ?_;refine wG iH b2 ?_;exact aD
 rw[if_neg (by simp[b2])]
 rw[b2]
 refine goG iH TI ?_
 refine wG iH TI ?_
 refine AR.callP h2 TI BN08 ?_
 by_cases b3:64<dep f.body
 ·have b3':(64:Int)<min (dep f.body) 66:=by omega
  rw[if_pos b3];refine goG iH b3' ?_;refine wG iH b3' ?_;exact aD
 have b3': ¬(64:Int)<min (dep f.body) 66:=by omega
 rw[if_neg b3]
 refine goG iH b3' ?_
 refine wG iH b3' ?_
 refine AR.callP h3 TI BN08 ?_
 rw[←BL,←Wl]
 have hfa:=HO f.body hb false
 generalize flaL f.body false=its at h3 hlen hfa ⊢
 by_cases b4:1024<cnt f.body
 ·have b4':(1024:Int)<(its.length:Int):=by omega
  rw[if_pos b4];refine goG iH TI ?_;refine wG iH (AI b4' @List.length_map.{0,0}) ?_;exact aD
 have b4': ¬(1024:Int)<(its.length:Int):=by omega
 rw[if_neg b4]
 have hvs:(u.globals++f.vars).length≤4194304:=by rw[List.length_append];omega
 have hA1:u.globals.length*88≤140737488355328:=by omega
 have hA2:(u.globals++f.vars).length*88≤140737488355328:=by rw[List.length_append];omega
 have hap:u.globals.map vaV++f.vars.map vaV=(u.globals++f.vars).map vaV:=by rw[List.map_append]
 have hln:u.globals.length+f.vars.length=(u.globals++f.vars).length:=by rw[List.length_append]
 generalize u.globals++f.vars=vs at hap hvs hln hA2 ⊢
 refine goG iH TI ?_
 refine wG iH (A8 b4' hA1 hA2 hap hln xW @List.length_map.{0,0} @Nat.zero_add) ?_
 clear h1 h2 h3 hw b1 b1' b2 b3 b3' b4' hvn
 refine aT ?_
 refine ALp.cutP 3 [(2,.pt 0 0),(3,.pt 1 0),(6,.sl (its.map plV) .ro),(7,.sl (vs.map vaV) (.own 2)),(8,(.im (.int .i64 ((((0:Nat)):Int)))))] [.box [.sl (u.globals.map vaV) .ro,.sl (u.data.map scV) .ro,.sl (u.funcs.map fnV) .ro],.box [.im (.string f.name),.sl (f.vars.map vaV) .ro,.sl (f.body.map ndV) .ro],.tip 96 6 vs.length] BN08 ?_
 refine ALp.upto its.length (fun m=>runS vs (u.funcs.map Fun.name) (labs its) (seenS [] (its.take m)) (its.drop m)=runS vs (u.funcs.map Fun.name) (labs its) [] its) (fun m=>⟨dn 57 [(2,.pt 0 0),(3,.pt 1 0),(6,.sl (its.map plV) .ro),(7,.sl (vs.map vaV) (.own 2)),(8,(.im (.int .i64 ((((m:Nat)):Int)))))],ofl [.box [.sl (u.globals.map vaV) .ro,.sl (u.data.map scV) .ro,.sl (u.funcs.map fnV) .ro],.box [.im (.string f.name),.sl (f.vars.map vaV) .ro,.sl (f.body.map ndV) .ro],.tip 96 6 vs.length]⟩) ?_ 0 (Nat.zero_le _) rfl
 intro m hm hV hnext
 rw[←hV]
 by_cases hlt:m<its.length
 case neg =>
  obtain rfl:m=its.length:=by omega
  clear hnext;rw[List.drop_length];refine wG iH (AI @Int.lt_irrefl @List.length_map.{0,0}) ?_;exact aD
 have hlt':(m:Int)<(its.length:Int):=by omega
 have hm1:=aQ hlt (by omega)
 have hsn:nxt (seenS [] (its.take m)) its[m]=seenS [] (its.take (m+1)):=by
  rw[List.take_succ_eq_append_getElem hlt,yE];rfl
 have hcc:=Ku u hfl vs hvs its (by omega) hfa m hlt
 rw[show labs (its.take m)=seenS [] (its.take m) by rw[Qx];rfl]at hcc
 have hd:its.drop m=its[m]::its.drop (m+1):=List.drop_eq_getElem_cons hlt
 rw[hd]at hV ⊢
 rw[wD]at hV ⊢
 rw[hsn]at hV ⊢
 have hn2:=hnext (m+1) (by omega) (by omega)
 generalize chk1 vs (u.funcs.map Fun.name) (labs its) (seenS [] (its.take m)) its[m]=e at hcc hV ⊢
 by_cases b:e=0
 ·rw[if_pos b]at hV ⊢
  rw[b]at hcc;refine wG iH (AI hlt' @List.length_map.{0,0}) ?_;refine jQ hcc kS BN08 ?_;refine goG iH TI ?_;refine wG iH hm1 ?_;refine ALp.cutP 3 [(2,.pt 0 0),(3,.pt 1 0),(6,.sl (its.map plV) .ro),(7,.sl (vs.map vaV) (.own 2)),(8,(.im (.int .i64 ((((m+1:Nat)):Int)))))] [.box [.sl (u.globals.map vaV) .ro,.sl (u.data.map scV) .ro,.sl (u.funcs.map fnV) .ro],.box [.im (.string f.name),.sl (f.vars.map vaV) .ro,.sl (f.body.map ndV) .ro],.tip 96 6 vs.length] BN08 ?_;rw[hV];exact hn2 hV
 ·rw[if_neg b]
  refine wG iH (AI hlt' @List.length_map.{0,0}) ?_;refine jQ hcc kS BN08 ?_;refine goG iH b ?_;refine wG iH b ?_;exact aD
theorem MX{l:List Fun}{m:Nat}(h:m<l.length):fnE ((l.take m).map Fun.name) (l.drop m)=if !nameT l[m].name then 3 else if(l.take m).any (fun f=>eqS f.name l[m].name)then 8 else fnE ((l.take (m+1)).map Fun.name) (l.drop (m+1)):=by
 rw[Oa h,←zG,List.any_map]
 rfl
def gA:=A16 @mT @Ac @uR @oM @Ab @dY @kQ @sB @sA @mS @qL @nS @wW @lA @wT (A6 @rX @mP @pF @pE @dM @jS)
theorem Lf(u:Un)(hu:fitU u):PC Tryz.prog 56 [unV u] (.im (.int .i64 (unE u))):=by
 have h1:=zA [] u.globals (by have:=hu.gl;simp;omega) hu.gn
 have h2:=JK u.data hu.dl hu.dn
 have hgl:=hu.gl
 have hfl:=hu.fl
 unfold unE
 rw[List.map_nil]at h1
 refine pcEnt 80 Tryz.func56 rfl [(0,unV u)] ?_
 simp only[kS]
 refine wG gA @List.length_map.{0,0} ?_
 refine cN rfl rfl (fun hE=> ?_) (fun hE=> ?_)
 ·have q:256<u.globals.length∨16<u.data.length∨64<u.funcs.length:=by
   simp only[Bool.or_eq_true,decide_eq_true_eq]at hE;omega
  rw[if_pos q];refine wG gA TI ?_;exact aD
 have q: ¬(256<u.globals.length∨16<u.data.length∨64<u.funcs.length):=by
  simp only[Bool.or_eq_false_iff,decide_eq_false_iff_not]at hE;omega
 rw[if_neg q]
 by_cases b0:u.funcs.length=0
 ·have b0':(u.funcs.length:Int)=0:=by omega
  rw[if_pos b0];refine wG gA (AI b0' @List.length_map.{0,0}) ?_;exact aD
 have b0': ¬(u.funcs.length:Int)=0:=by omega
 rw[if_neg b0]
 refine wG gA (AI b0' @List.length_map.{0,0}) ?_
 refine jQ h1 TI BN08 ?_
 by_cases b1:vErr [] u.globals=0
 case neg =>
  rw[if_pos b1];refine goG gA b1 ?_;refine wG gA b1 ?_;exact aD
 rw[if_neg (by simp[b1]),b1]
 refine goG gA TI ?_
 refine wG gA TI ?_
 refine AR.callP h2 TI BN08 ?_
 by_cases b2:dErr [] u.data=0
 case neg =>
  rw[if_pos b2];refine goG gA b2 ?_;refine wG gA b2 ?_;exact aD
 rw[if_neg (by simp[b2]),b2]
 refine goG gA TI ?_
 refine wG gA @List.length_map.{0,0} ?_
 refine aT ?_
 refine ALp.cutP 1 [(1,.pt 0 0),(4,(.im (.int .i64 ((((0:Nat)):Int)))))] [.box [.sl (u.globals.map vaV) .ro,.sl (u.data.map scV) .ro,.sl (u.funcs.map fnV) .ro]] BN08 ?_
 refine ALp.upto u.funcs.length (fun m=>fnE ((u.funcs.take m).map Fun.name) (u.funcs.drop m)=fnE [] u.funcs) (fun m=>⟨dn 80 [(1,.pt 0 0),(4,(.im (.int .i64 ((((m:Nat)):Int)))))],ofl [.box [.sl (u.globals.map vaV) .ro,.sl (u.data.map scV) .ro,.sl (u.funcs.map fnV) .ro]]⟩) ?_ 0 (Nat.zero_le _) rfl
 intro m hm hV hnext
 by_cases hlt:m<u.funcs.length
 ·have hlt':(m:Int)<(u.funcs.length:Int):=by omega
  have hm1:=aQ hlt (by omega)
  have hg:=bJ hlt;have hf:=hu.fn _ (List.getElem_mem hlt);have h3:=zD u.funcs[m].name hf.nm;have h4:=Ci u.funcs hfl m (by omega) u.funcs[m].name
  have hn2:=hnext (m+1) (by omega) (by omega)
  rw[MX hlt]at hV;cases b3:nameT u.funcs[m].name with
  | false =>
   rw[b3]at h3 hV;simp only[Bool.not_false,if_true]at hV;rw[←hV,if_pos (by decide)]
   refine wG gA (A4 hlt' hg @List.length_map.{0,0} FU) ?_;refine AR.callP h3 TI BN08 ?_;refine goG gA TI ?_;refine wG gA TI ?_;exact aD
  | true =>
  rw[b3]at h3 hV;simp only[Bool.not_true,Bool.false_eq_true,if_false]at hV;refine wG gA (A4 hlt' hg @List.length_map.{0,0} FU) ?_;refine AR.callP h3 TI BN08 ?_;refine goG gA TI ?_;refine wdG gA (A3 hlt' hg FU) ?_;refine AR.callP h4 TI BN08 ?_;cases b4:(u.funcs.take m).any fun f=>eqS f.name u.funcs[m].name with
  | true =>
   rw[b4]at hV;simp only[if_true]at hV;rw[←hV,if_pos (by decide)]
   refine goG gA TI ?_;refine wdG gA TI ?_;exact aD
  | false =>
   rw[b4]at hV;simp only[Bool.false_eq_true,if_false]at hV;refine goG gA TI ?_;refine wdG gA hm1 ?_;refine ALp.cutP 1 [(1,.pt 0 0),(4,(.im (.int .i64 ((((m+1:Nat)):Int)))))] [.box [.sl (u.globals.map vaV) .ro,.sl (u.data.map scV) .ro,.sl (u.funcs.map fnV) .ro]] BN08 ?_;exact hn2 hV
 obtain rfl:m=u.funcs.length:=by omega
 clear hnext
 rw[List.take_length,List.drop_length]at hV
 have hV:fnE [] u.funcs=0:=by rw[←hV];cases u.funcs.map Fun.name<;>rfl
 rw[if_neg (by simp[hV])]
 refine whG gA (AI @Int.lt_irrefl @List.length_map.{0,0}) ?_
 refine Blk'.here (Thn.n ?_)
 refine wG gA TI ?_
 refine aT ?_
 refine ALp.cutP 1 [(1,.pt 0 0),(5,(.im (.int .i64 ((((0:Nat)):Int)))))] [.box [.sl (u.globals.map vaV) .ro,.sl (u.data.map scV) .ro,.sl (u.funcs.map fnV) .ro]] BN08 ?_
 obtain⟨fs,hfs⟩: ∃fs,u.funcs.map Fun.name=fs:=⟨_,rfl⟩
 rw[hfs]
 refine ALp.upto u.funcs.length (fun m=>bdE u.globals fs (u.funcs.drop m)=bdE u.globals fs u.funcs) (fun m=>⟨dn 80 [(1,.pt 0 0),(5,(.im (.int .i64 ((((m:Nat)):Int)))))],ofl [.box [.sl (u.globals.map vaV) .ro,.sl (u.data.map scV) .ro,.sl (u.funcs.map fnV) .ro]]⟩) ?_ 0 (Nat.zero_le _) rfl
 intro m hm hV hnext
 rw[←hV]
 by_cases hlt:m<u.funcs.length
 ·have hlt':(m:Int)<(u.funcs.length:Int):=by omega
  have hm1:=aQ hlt (by omega)
  have hg:=bJ hlt;have hf:=hu.fn _ (List.getElem_mem hlt);have hb:=JP u hfl u.funcs[m] hgl hf.vl hf.vn hf.bd hf.ct;rw[hfs]at hb;have hd:u.funcs.drop m=u.funcs[m]::u.funcs.drop (m+1):=List.drop_eq_getElem_cons hlt;rw[hd]at hV ⊢;have hs:bdE u.globals fs (u.funcs[m]::u.funcs.drop (m+1))=if bodyE u.globals u.funcs[m] fs=0 then bdE u.globals fs (u.funcs.drop (m+1))else bodyE u.globals u.funcs[m] fs:=rfl
  rw[hs]at hV ⊢
  by_cases b:bodyE u.globals u.funcs[m] fs=0
  ·rw[if_pos b]at hV ⊢
   rw[b]at hb;refine wdG gA (A4 hlt' hg @List.length_map.{0,0} FU) ?_;refine jQ hb (AI kS sG) BN08 ?_;refine goG gA TI ?_;refine wdG gA hm1 ?_;refine ALp.cutP 1 [(1,.pt 0 0),(5,(.im (.int .i64 ((((m+1:Nat)):Int)))))] [.box [.sl (u.globals.map vaV) .ro,.sl (u.data.map scV) .ro,.sl (u.funcs.map fnV) .ro]] BN08 ?_;rw[hV];exact hnext (m+1) (by omega) (by omega) hV
  ·rw[if_neg b]
   refine wdG gA (A4 hlt' hg @List.length_map.{0,0} FU) ?_;refine jQ hb (AI kS sG) BN08 ?_;refine goG gA b ?_;refine wdG gA b ?_;exact aD
 obtain rfl:m=u.funcs.length:=by omega
 clear hnext
 rw[List.drop_length]
 refine wG gA (AI @Int.lt_irrefl @List.length_map.{0,0}) ?_
 exact aD
def kB:=A16 @oN @iA @cJ @lG @jV @fD @dY @iR @mC @qC @fG @jA @xV @lD @lC (A10 @mB @mA @lZ @oH @fH @cH @jU @jT @eF @dM)
def sN:=A8 @aE @aK @aF @aL aP aG aM aU
def SamL(l:List Nd):Prop:=PC Tryz.prog 53 [.sl (l.map ndV) .ro,.sl (l.map ndV) .ro] (.im (.bool (true)))
theorem DI(l:List Nd)(hl:fitNL l)(h: ∀t∈l,SamL t.l∧SamL t.el∧ ∀c∈t.cs,SamL c):SamL l:=by
 show PC _ _ _ _
 obtain⟨hn,hf⟩:=hl
 refine pcEnt 120 Tryz.func53 rfl [(0,.sl (l.map ndV) .ro),(1,.sl (l.map ndV) .ro)] ?_
 refine wG kB @List.length_map.{0,0} ?_
 refine aT ?_
 refine ALp.cutP 0 [(0,.sl (l.map ndV) .ro),(1,.sl (l.map ndV) .ro),(5,(.im (.int .i64 ((((0:Nat)):Int)))))] [] sN ?_
 refine ALp.upto l.length (fun _=>True) (fun m=>⟨dn 120 [(0,.sl (l.map ndV) .ro),(1,.sl (l.map ndV) .ro),(5,(.im (.int .i64 ((((m:Nat)):Int)))))],ofl []⟩) ?_ 0 (Nat.zero_le _) trivial
 intro m hm hI hnext
 by_cases hlt:m<l.length
 ·have hlt':(m:Int)<(l.length:Int):=by omega
  have hg:=bJ hlt;have hm1:=aQ hlt (by omega)
  obtain⟨h1,h2,h3⟩:=h l[m] (List.getElem_mem hlt);unfold SamL at h1 h2;have hf:=lJ (hf _ (List.getElem_mem hlt));generalize l[m]=t at hg h1 h2 h3 hf;obtain⟨_,hnm,⟨hel,hex⟩,_,_,hcl,hcx⟩:=hf;refine wG kB (A3 hlt' hg BN16) ?_;refine wdG kB BN16 ?_;refine AR.callP h1 TI sN ?_;refine goG kB BN16 ?_;refine AR.callP h2 TI sN ?_;refine goG kB BN16 ?_;refine wdG kB BN16 ?_;refine aT ?_;refine ALp.cutP 2 [(0,.sl (l.map ndV) .ro),(1,.sl (l.map ndV) .ro),(5,(.im (.int .i64 ((m:Int))))),(6,.pt 0 0),(7,.pt 1 0),(8,(.im (.int .i64 ((((0:Nat)):Int)))))] [.box [.im (.int .i64 (t).kind),.im (.int .i64 (t).width),.im (.string (t).name),.sl ((t).e.map exV) .ro,.sl ((t).l.map ndV) .ro,.sl ((t).el.map ndV) .ro,.sl ((t).cs.map nlV) .ro],.box [.im (.int .i64 (t).kind),.im (.int .i64 (t).width),.im (.string (t).name),.sl ((t).e.map exV) .ro,.sl ((t).l.map ndV) .ro,.sl ((t).el.map ndV) .ro,.sl ((t).cs.map nlV) .ro]] sN ?_;refine ALp.upto t.e.length (fun _=>True) (fun j=>⟨dn 120 [(0,.sl (l.map ndV) .ro),(1,.sl (l.map ndV) .ro),(5,(.im (.int .i64 ((m:Int))))),(6,.pt 0 0),(7,.pt 1 0),(8,(.im (.int .i64 ((((j:Nat)):Int)))))],ofl [.box [.im (.int .i64 (t).kind),.im (.int .i64 (t).width),.im (.string (t).name),.sl ((t).e.map exV) .ro,.sl ((t).l.map ndV) .ro,.sl ((t).el.map ndV) .ro,.sl ((t).cs.map nlV) .ro],.box [.im (.int .i64 (t).kind),.im (.int .i64 (t).width),.im (.string (t).name),.sl ((t).e.map exV) .ro,.sl ((t).l.map ndV) .ro,.sl ((t).el.map ndV) .ro,.sl ((t).cs.map nlV) .ro]]⟩) ?_ 0 (Nat.zero_le _) trivial
  intro j hj hJ hnext2
  by_cases hlj:j<t.e.length
  ·have hlj':(j:Int)<(t.e.length:Int):=by omega
   have hgj:=bJ hlj;have hj1:=aQ hlj (by omega)
   have hc:=Sf t.e[j] (hex _ (List.getElem_mem hlj)) t.e[j] (hex _ (List.getElem_mem hlj));rw[Wj]at hc;refine wdG kB (A3 hlj' hgj EX) ?_;refine AR.callP hc @bW sN ?_;refine goG kB TI ?_;refine wdG kB hj1 ?_;refine ALp.cutP 2 [(0,.sl (l.map ndV) .ro),(1,.sl (l.map ndV) .ro),(5,(.im (.int .i64 ((m:Int))))),(6,.pt 0 0),(7,.pt 1 0),(8,(.im (.int .i64 ((((j+1:Nat)):Int)))))] [.box [.im (.int .i64 (t).kind),.im (.int .i64 (t).width),.im (.string (t).name),.sl ((t).e.map exV) .ro,.sl ((t).l.map ndV) .ro,.sl ((t).el.map ndV) .ro,.sl ((t).cs.map nlV) .ro],.box [.im (.int .i64 (t).kind),.im (.int .i64 (t).width),.im (.string (t).name),.sl ((t).e.map exV) .ro,.sl ((t).l.map ndV) .ro,.sl ((t).el.map ndV) .ro,.sl ((t).cs.map nlV) .ro]] sN ?_;exact hnext2 (j+1) (by omega) (by omega) trivial
  obtain rfl:j=t.e.length:=by omega
  clear hnext2 hJ;refine whG kB @Int.lt_irrefl ?_;refine Blk'.here (Thn.n ?_);refine wG kB TI ?_;refine aT ?_;refine ALp.cutP 2 [(0,.sl (l.map ndV) .ro),(1,.sl (l.map ndV) .ro),(5,(.im (.int .i64 ((m:Int))))),(6,.pt 0 0),(7,.pt 1 0),(9,(.im (.int .i64 ((((0:Nat)):Int)))))] [.box [.im (.int .i64 (t).kind),.im (.int .i64 (t).width),.im (.string (t).name),.sl ((t).e.map exV) .ro,.sl ((t).l.map ndV) .ro,.sl ((t).el.map ndV) .ro,.sl ((t).cs.map nlV) .ro],.box [.im (.int .i64 (t).kind),.im (.int .i64 (t).width),.im (.string (t).name),.sl ((t).e.map exV) .ro,.sl ((t).l.map ndV) .ro,.sl ((t).el.map ndV) .ro,.sl ((t).cs.map nlV) .ro]] sN ?_;refine ALp.upto t.cs.length (fun _=>True) (fun j=>⟨dn 120 [(0,.sl (l.map ndV) .ro),(1,.sl (l.map ndV) .ro),(5,(.im (.int .i64 ((m:Int))))),(6,.pt 0 0),(7,.pt 1 0),(9,(.im (.int .i64 ((((j:Nat)):Int)))))],ofl [.box [.im (.int .i64 (t).kind),.im (.int .i64 (t).width),.im (.string (t).name),.sl ((t).e.map exV) .ro,.sl ((t).l.map ndV) .ro,.sl ((t).el.map ndV) .ro,.sl ((t).cs.map nlV) .ro],.box [.im (.int .i64 (t).kind),.im (.int .i64 (t).width),.im (.string (t).name),.sl ((t).e.map exV) .ro,.sl ((t).l.map ndV) .ro,.sl ((t).el.map ndV) .ro,.sl ((t).cs.map nlV) .ro]]⟩) ?_ 0 (Nat.zero_le _) trivial
  intro j hj hJ hnext2
  by_cases hlj:j<t.cs.length
  ·have hlj':(j:Int)<(t.cs.length:Int):=by omega
   have hgj:=bJ hlj;have hj1:=aQ hlj (by omega)
   have hc:=h3 t.cs[j] (List.getElem_mem hlj);unfold SamL at hc;refine wdG kB (A3 hlj' hgj BN16) ?_;refine AR.callP hc TI sN ?_;refine goG kB TI ?_;refine wdG kB hj1 ?_;refine ALp.cutP 2 [(0,.sl (l.map ndV) .ro),(1,.sl (l.map ndV) .ro),(5,(.im (.int .i64 ((m:Int))))),(6,.pt 0 0),(7,.pt 1 0),(9,(.im (.int .i64 ((((j+1:Nat)):Int)))))] [.box [.im (.int .i64 (t).kind),.im (.int .i64 (t).width),.im (.string (t).name),.sl ((t).e.map exV) .ro,.sl ((t).l.map ndV) .ro,.sl ((t).el.map ndV) .ro,.sl ((t).cs.map nlV) .ro],.box [.im (.int .i64 (t).kind),.im (.int .i64 (t).width),.im (.string (t).name),.sl ((t).e.map exV) .ro,.sl ((t).l.map ndV) .ro,.sl ((t).el.map ndV) .ro,.sl ((t).cs.map nlV) .ro]] sN ?_;exact hnext2 (j+1) (by omega) (by omega) trivial
  obtain rfl:j=t.cs.length:=by omega
  clear hnext2 hJ;refine whG kB @Int.lt_irrefl ?_;refine Blk'.here (Blk'.n (Thn.n ?_));refine wG kB hm1 ?_;refine ALp.cutP 0 [(0,.sl (l.map ndV) .ro),(1,.sl (l.map ndV) .ro),(5,(.im (.int .i64 ((((m+1:Nat)):Int)))))] [] sN ?_;exact hnext (m+1) (by omega) (by omega) trivial
 obtain rfl:m=l.length:=by omega
 clear hnext hI
 refine wG kB @Int.lt_irrefl ?_
 exact aD
theorem IX: ∀l,fitNL l→SamL l:=by
 refine Nd.listInduct fun l ih=> ?_
 intro hl
 refine DI l hl fun t ht=> ?_
 have hf:=lJ (hl.2 t ht)
 obtain⟨i1,i2,i3⟩:=ih t ht
 exact⟨i1 hf.2.2.2.1,i2 hf.2.2.2.2.1,fun c hc=>i3 c hc (hf.2.2.2.2.2.2 c hc)⟩
def Dj:=A9 @mT @lG @dY @wW @qK @tM @lA @jU @dM
def xQ:=A5 dC cC bV @aK aG
theorem IY(f:Fun)(hf:fitFn f):PC Tryz.prog 20 [fnV f,fnV f] (.im (.bool (true))):=by
 have h1:=Ox f.vars hf.vn (Nat.le_trans hf.vl (by decide))
 have h2:=IX f.body hf.bd
 unfold SamL at h2
 rw[sG]
 refine pcEnt 24 Tryz.func20 rfl [(0,.ag [.im (.string f.name),.sl (f.vars.map vaV) .ro,.sl (f.body.map ndV) .ro]),(1,.ag [.im (.string f.name),.sl (f.vars.map vaV) .ro,.sl (f.body.map ndV) .ro])] ?_
 refine wdG Dj TI ?_
 refine AR.callP h1 TI xQ ?_
 refine goG Dj TI ?_
 refine AR.callP h2 TI xQ ?_
 refine goG Dj TI ?_
 refine wG Dj TI ?_
 exact aD
def rV:=A12 @mT @Ac @uR @Ab @sA @mS @qL @nS @lA @wT @rX @pF
theorem IW(u:Un)(hu:fitU u)(hd: ∀s∈u.data,s.data.length≤4194304):PC Tryz.prog 16 [unV u,unV u] (.im (.bool (true))):=by
 have h1:=Ox u.globals hu.gn (Nat.le_trans hu.gl (by decide))
 have h2:=DH u.data hd hu.dl
 have hfl:=hu.fl
 refine pcEnt 48 Tryz.func16 rfl [(0,unV u),(1,unV u)] ?_
 simp only[kS]
 refine wdG rV TI ?_
 refine AR.callP h1 TI xQ ?_
 refine goG rV TI ?_
 refine AR.callP h2 TI xQ ?_
 refine goG rV TI ?_
 refine wdG rV TI ?_
 refine aT ?_
 refine ALp.cutP 2 [(2,.pt 0 0),(3,.pt 1 0),(5,(.im (.int .i64 ((((0:Nat)):Int)))))] [.box [.sl (u.globals.map vaV) .ro,.sl (u.data.map scV) .ro,.sl (u.funcs.map fnV) .ro],.box [.sl (u.globals.map vaV) .ro,.sl (u.data.map scV) .ro,.sl (u.funcs.map fnV) .ro]] xQ ?_
 refine ALp.upto u.funcs.length (fun _=>True) (fun m=>⟨dn 48 [(2,.pt 0 0),(3,.pt 1 0),(5,(.im (.int .i64 ((((m:Nat)):Int)))))],ofl [.box [.sl (u.globals.map vaV) .ro,.sl (u.data.map scV) .ro,.sl (u.funcs.map fnV) .ro],.box [.sl (u.globals.map vaV) .ro,.sl (u.data.map scV) .ro,.sl (u.funcs.map fnV) .ro]]⟩) ?_ 0 (Nat.zero_le _) trivial
 intro m hm hI hnext
 by_cases hlt:m<u.funcs.length
 ·have hlt':(m:Int)<(u.funcs.length:Int):=by omega
  have hg:=bJ hlt;have hm1:=aQ hlt (by omega)
  have hc:=IY u.funcs[m] (hu.fn _ (List.getElem_mem hlt));refine wdG rV (A10 hlt' hg Fl Be Fj Fi Fk Bg @List.getElem?_map.{0,0} @Int.natCast_nonneg) ?_;refine AR.callP hc sG xQ ?_;refine goG rV TI ?_;refine wdG rV hm1 ?_;refine ALp.cutP 2 [(2,.pt 0 0),(3,.pt 1 0),(5,(.im (.int .i64 ((((m+1:Nat)):Int)))))] [.box [.sl (u.globals.map vaV) .ro,.sl (u.data.map scV) .ro,.sl (u.funcs.map fnV) .ro],.box [.sl (u.globals.map vaV) .ro,.sl (u.data.map scV) .ro,.sl (u.funcs.map fnV) .ro]] xQ ?_;exact hnext (m+1) (by omega) (by omega) trivial
 obtain rfl:m=u.funcs.length:=by omega
 clear hnext hI
 refine wG rV @Int.lt_irrefl ?_
 exact aD
def nmX(s:Bs):Ex:= .mk 2 0 ⟨s.toArray⟩ 0 []
def coX(n:Int):Ex:= .mk 1 n ByteArray.empty 0 []
def twX(o:Int)(a b:Ex):Ex:= .mk o 0 ByteArray.empty 0 [a,b]
def s1X:Bs:=[114,48,32,45,32,49,32,45,32,114,49,32,42,32,50]
def s2X:Bs:=[45,114,48,32,42,32,50]
def s3X:Bs:=[114,48,32,43]
def s4X:Bs:=[102,117,110,99,32,109,97,105,110,32,123,32,114,48,32,61,32,49,59,32,104,97,108,116,59,32,125]
def s5X:Bs:=[118,97,114,32,114,48,58,32,117,105,110,116,51,50,59,32,102,117,110,99,32,109,97,105,110,32,123,32,114,48,32,61,32,49,59,32,104,97,108,116,59,32,125]
def s6X:Bs:=[102,117,110,99,32,102,32,123,10,32,32,104,97,108,116,10,125]
theorem e1X:Xf s1X=(twX 4 (twX 4 (nmX [114,48]) (coX 1)) (twX 5 (nmX [114,49]) (coX 2)),0):=by kernel_rfl
theorem e2X:Xf s2X=(twX 5 (mkU 17 0 (nmX [114,48])) (coX 2),0):=by kernel_rfl
theorem e3X:Xf s3X=(ex0,3):=by kernel_rfl
theorem e4X:uniP s4X=(uz0,17):=by kernel_rfl
def v5X:Va:=⟨⟨#[114,48]⟩,.mk 0 2 4 0 [] []⟩
def f5X:Fun:=⟨⟨#[109,97,105,110]⟩,[],[.mk 1 0 ⟨#[114,48]⟩ [coX 1] [] [] [],.mk 15 0 ByteArray.empty [] [] [] []]⟩
theorem e5X:uniP s5X=(⟨[v5X],[],[f5X]⟩,0):=by kernel_rfl
theorem e6X:errP s6X=((3,1),3):=by kernel_rfl
def lV:=A16 @mT @uR @cJ @jV @pI @gQ @kQ @sA @fG @mS @nS @qJ @mR @lA @rX (A6 @mP @cH @pF @jT @eF @jS)
def xR:=A12 aB aC @aF @aE @aL @aK bM bV dC cC aG cK
set_option maxRecDepth 4000 in
theorem KZ:PC Tryz.prog 12 [] (.im (.bool (true))):=by
 have h1:=Sg s1X (by decide)
 have h2:=Sg s2X (by decide)
 have h3:=Sg s3X (by decide)
 have h4:=Le s4X (by decide)
 have h5:=Le s5X (by decide)
 have h6:=Jj s6X (by decide)
 rw[e1X]at h1
 rw[e2X]at h2
 rw[e3X]at h3
 rw[e4X]at h4
 rw[e5X]at h5
 rw[e6X]at h6
 simp only[twX,nmX,coX,mkU,ex0,jW,List.map_cons,List.map_nil,kS,uz0]at h1 h2 h3 h4 h5 h6
 unfold s1X at h1
 unfold s2X at h2
 unfold s3X at h3
 unfold s4X at h4
 unfold s5X at h5
 unfold s6X at h6
 generalize vaV v5X=va at h5
 generalize fnV f5X=fa at h5
 refine pcEnt 127 Tryz.func12 rfl [] ?_
 simp only[List.append]
 refine wG lV TI ?_
 refine AR.callP h1 TI xR ?_
 refine goG lV TI ?_
 refine wG lV TI ?_
 refine AR.callP h2 TI xR ?_
 refine goG lV TI ?_
 refine wG lV TI ?_
 refine AR.callP h3 TI xR ?_
 refine goG lV TI ?_
 refine wG lV TI ?_
 refine AR.callP h4 TI xR ?_
 refine goG lV TI ?_
 refine wG lV TI ?_
 refine AR.callP h5 TI xR ?_
 refine goG lV TI ?_
 refine wG lV TI ?_
 refine AR.callP h6 TI xR ?_
 refine goG lV TI ?_
 refine wG lV TI ?_
 refine fiGenO [.tmp 0] (finG lV) ?_
 all_goals exact wkG xR
end Go.Proofs.YtmbmmckagcdapaaGreatDoor
