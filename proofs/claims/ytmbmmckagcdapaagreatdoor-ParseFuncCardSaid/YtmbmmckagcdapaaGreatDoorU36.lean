import Derived.Test.YtmbmmckagcdapaaGreatDoorU10
import Derived.Test.YtmbmmckagcdapaaGreatDoorU35
import Derived.Test.YtmbmmckagcdapaaGreatDoorU25
import Derived.Test.YtmbmmckagcdapaaGreatDoorU28
set_option linter.all false
namespace Go.Proofs.YtmbmmckagcdapaaGreatDoor
open Go.RowKit
theorem Vt{n:Int}(h:0≤n∧n≤4294967295):IntKind.u32.wrap n=n:=by
 show n%4294967296=n
 omega
def csW:Bs:=[99,97,115,101]
inductive LpC (ts:List Tk):List (List Nd)→Sr→List (List Nd)→Sr→Prop where
 | stop {c:List (List Nd)} {s:Sr} (h:isR ts s.a s.e csW=false):LpC ts c s c s
 | step {c c':List (List Nd)} {a a1 a2:Nat} {o o1 o2 e1 e2 n:Int} {x:List Nd} {s':Sr} (hl:c.length≤4194304) (hs:sees ts a csW=true)
   (d1:DC Tryz.prog 174 [.pt 0 0] [rbx ts ⟨a+1,o,if(pk ts (a+1)).kind=3∧(pk ts (a+1)).n≠c.length then 3 else 0⟩] (.im (.int .u32 n)) [rbx ts ⟨a1,o1,e1⟩])
   (d2:DC Tryz.prog 239 [.pt 0 0] [rbx ts ⟨a1,o1,e1⟩] (nlV x) [rbx ts ⟨a2,o2,e2⟩])
   (r:LpC ts (c++[x]) ⟨a2,o2,e2⟩ c' s'):LpC ts c ⟨a,o,0⟩ c' s'
theorem LX{ts:List Tk}(hts:ts.length≤4194304)(hok: ∀t∈ts,TkOk t): ∀(f:Nat),(∀g,g<f→BrR ts g)→ ∀(c:List (List Nd)) (s:Sr),Pre (stM ts f (.ca c)) s→(s.e=0→(1≤s.o∧s.o≤256)∧c.length≤s.a) →
  ∃c' s',LpC ts c s c' s'∧Pre (endM ts [125]) s'∧(s'.e=0→1≤s'.o∧s'.o≤256)∧ ∀s'',Post (endM ts [125]) s' () s''→Post (stM ts f (.ca c)) s c' s'':=by
 intro f
 induction f with
 | zero =>
  intro hB c s hp hb
  by_cases he:s.e=0
  ·obtain⟨o,_,r,hr⟩:=hp he
   cases hr
  ·exact⟨c,s,.stop (tJ he),Pre.err he,fun h=>absurd h he,fun s'' q=>Post.of_err he (q.1 he).1 (q.1 he).2⟩
 | succ f ih =>
  intro hB c s hp hb
  by_cases he:s.e=0
  case neg=>exact⟨c,s,.stop (tJ he),Pre.err he,fun h=>absurd h he,fun s'' q=>Post.of_err he (q.1 he).1 (q.1 he).2⟩
  obtain⟨a,o',e⟩:=s;cases he
  obtain⟨o,ho,r,hr⟩:=hp rfl;have ho:o'=(o:Int):=ho;subst ho;have hr:stM ts (f+1) (.ca c) a o=some r:=hr;have hb:=hb rfl;simp only at hb
  by_cases hs:sees ts a csW=true
  case neg =>
   have hM: ∀o,stM ts (f+1) (.ca c) a o=rb (endM ts [125] a o) fun _ a o=>ret c a o:=fun o=>by rw[stM,if_neg (show ¬sees ts a [99,97,115,101]=true from hs)]
   refine⟨c,⟨a,o,0⟩,.stop (by show isR ts a 0 csW=false;rw[gI,←Bool.not_eq_true];exact hs),fun _=>⟨o,rfl,_,rfl⟩,fun _=>hb.1,fun s'' q=>Post.congr (fun _=>funext hM) (q.bind (k:=fun _ a o=>ret c a o) (Post.ret (m:=fun a o=>ret c a o) fun h=> ?_))⟩
   obtain⟨_,o4,a4,p4,_,_,w⟩:=q.ok h;rw[w];exact⟨p4,rfl,_,rfl⟩
  have hlt:=bX hs;have hcl:c.length≤4194304:=by omega
  by_cases hk:(pk ts (a+1)).kind=3∧(pk ts (a+1)).n=c.length
  ·have hM: ∀o,stM ts (f+1) (.ca c) a o=rb (stM ts f .br (a+2) o) fun l a o=>stM ts f (.ca (c++[l.headD []])) a o:=fun o=>by rw[stM,if_pos (show sees ts a [99,97,115,101]=true from hs),if_pos hk]
   have hc:(if(pk ts (a+1)).kind=3∧(pk ts (a+1)).n≠c.length then(3:Int)else 0)=0:=if_neg fun h=>h.2 hk.2
   obtain⟨n,s1,q1,_,_,d1⟩:=yP ts hts hok ⟨a+1,o,0⟩ (fun _=>⟨o,rfl,Sm.tak ts 3 (a+1) o⟩)
   have hT:takM ts 3 (a+1) o=some (.ok (pk ts (a+1)) (a+2) o):=by unfold takM;rw[if_neg (by simpa using hk.1)]
   obtain⟨o2,ho2,q1⟩:=q1.2 rfl;have ho2:(o:Int)=o2:=ho2;obtain rfl:o=o2:=by omega
   rcases q1 with ⟨b,p,z,hs1⟩|⟨b,e,z,_⟩
   case inr=>rw[hT]at z;cases z
   rw[hT]at z;injection z with z
   injection z with z1 z2 z3
   rw[←z2,←z3]at hs1;subst hs1;have hp2:Pre (fun a o=>rb (stM ts f .br a o) fun l a o=>stM ts f (.ca (c++[l.headD []])) a o) ⟨a+2,o,0⟩:=fun _=>⟨o,rfl,r,by show rb (stM ts f .br (a+2) o) _=some r;rw[←hM];exact hr⟩
   obtain⟨x,⟨a2,o3,e2⟩,q2,d2⟩:=hB f (Nat.lt_succ_self f) ⟨a+2,o,0⟩ hp2.fst
   have hk2:e2=0→o3=(o:Int)∧a<a2:=fun h=>by
    obtain⟨_,o4,a4,p4,w1,w2,w3⟩:=q2.ok h;have w2:stM ts f .br (a+2) o4=some (.ok x a4 p4):=w2;have:=(fI ts f).2.2.1 _ _ _ _ _ w2;have w4:a2=a4:=congrArg Sr.a w3;have w5:o3=(p4:Int):=congrArg Sr.o w3;have w1:(o:Int)=o4:=w1;omega
   obtain⟨c',s',hL,hpe,hbe,hq⟩:=ih (fun g hg=>hB g (by omega)) (c++[x.headD []]) ⟨a2,o3,e2⟩ (hp2.snd q2) (fun h=>by
    have:=hk2 h;refine⟨by show 1≤o3∧o3≤256;omega,?_⟩
    rw[List.length_append];show c.length+1≤a2
    omega)
   exact⟨c',s',.step hcl hs (by rw[hc];exact d1) d2 hL,hpe,hbe,fun s'' q=>postShift (fun o=>(hM o).symm) (q2.bind (k:=fun l a o=>stM ts f (.ca (c++[l.headD []])) a o) (hq s'' q))⟩
  ·have hM: ∀o,stM ts (f+1) (.ca c) a o=some (.bad (a+1) 3):=fun o=>by rw[stM,if_pos (show sees ts a [99,97,115,101]=true from hs),if_neg hk]
   have hN: ∃n a1 o1,DC Tryz.prog 174 [.pt 0 0] [rbx ts ⟨a+1,o,if(pk ts (a+1)).kind=3∧(pk ts (a+1)).n≠c.length then 3 else 0⟩] (.im (.int .u32 n)) [rbx ts ⟨a1,o1,3⟩]∧a1=a+1:=by
    by_cases h3:(pk ts (a+1)).kind=3
    ·rw[if_pos ⟨h3,fun h=>hk ⟨h3,h⟩⟩]
     obtain⟨n,⟨a1,o1,e1⟩,q,_,_,d⟩:=yP ts hts hok ⟨a+1,o,3⟩ (Pre.err (by show(3:Int)≠0;decide))
     obtain⟨w1,w2⟩:=q.1 (by show(3:Int)≠0;decide)
     have w2:e1=3:=w2;subst w2;exact⟨n.n,a1,o1,d,w1⟩
    ·rw[if_neg fun h=>h3 h.1]
     obtain⟨n,⟨a1,o1,e1⟩,q,_,_,d⟩:=yP ts hts hok ⟨a+1,o,0⟩ (fun _=>⟨o,rfl,Sm.tak ts 3 (a+1) o⟩)
     have hT:takM ts 3 (a+1) o=some (.bad (a+1) 3):=by unfold takM;rw[if_pos h3]
     obtain⟨o2,ho2,q⟩:=q.2 rfl;have ho2:(o:Int)=o2:=ho2;obtain rfl:o=o2:=by omega
     rcases q with ⟨b,p,z,_⟩|⟨b,e,z,w1,w2,_⟩
     ·rw[hT]at z;cases z
     rw[hT]at z;injection z with z
     injection z with z1 z2
     have w2:e1=e:=w2;have w1:a1=b:=w1;subst w2;subst z2;exact⟨n.n,a1,o1,d,by omega⟩
   obtain⟨n,a1,o1,d1,ha1⟩:=hN;obtain⟨x,⟨a2,o2,e2⟩,w1,w2,d2⟩:=Ml ts hts ⟨a1,o1,3⟩ (by show(3:Int)≠0;decide)
   have w1:a2=a1:=w1;have w2:e2=3:=w2;subst w2;have h3:(3:Int)≠0:=by decide
   refine⟨c++[x.headD []],⟨a2,o2,3⟩,.step hcl hs d1 d2 (.stop (tJ h3)),Pre.err h3,(fun h=>absurd h h3),fun s'' q=> ?_⟩
   obtain⟨z1,z2⟩:=q.1 h3;obtain⟨a9,o9,e9⟩:=s'';have z1:a9=a2:=z1;have z2:e9=3:=z2;subst z2;obtain rfl:a9=a+1:=by omega
   exact Post.of_bad (hM o) h3
def choM(ts:List Tk)(f:Nat)(a o:Nat):Option (Rs (List (List Nd))):=rb (exM ts f (.ex 1) a o) fun x a o=>rb (begM ts [123] a o) fun _ a o=>rb (stM ts f (.ca []) a o) fun c a o=>ret (oneS (.mk 9 0 ByteArray.empty [x] [] [] c)) a o
def cJ:=A16 @nJ @rJ @iJ @cQ @oE @hG @Ar @fG @Jd @mD @nI @fM @kI @gX @pC (A14 @Dk @nQ @pZ @lC @nH @rE @gH @kG @cN @kB @nZ @dG @nP @pX)
set_option maxHeartbeats 8000000 in
theorem JZ{ts:List Tk}(hts:ts.length≤4194304)(hok: ∀t∈ts,TkOk t){s0 s1 s2 s' s'':Sr}{x:Ex}{c':List (List Nd)}(d0:DC Tryz.prog 61 [.pt 0 0,(.im (.int .i64 (1)))] [rbx ts s0] (exV x) [rbx ts s1])
  (d1:DC Tryz.prog 128 [.pt 0 0,.im (.string ⟨([123]).toArray⟩)] [rbx ts s1] (.tu []) [rbx ts s2]) (hL:LpC ts [] s2 c' s') (d9:DC Tryz.prog 130 [.pt 0 0,.im (.string ⟨([125]).toArray⟩)] [rbx ts s'] (.tu []) [rbx ts s'']) :
  DC Tryz.prog 238 [.pt 0 0] [rbx ts s0] (ndV (.mk 9 0 ByteArray.empty [x] [] [] c')) [rbx ts s'']:=by
 obtain⟨a0,o0,e0⟩:=s0
 obtain⟨a1,o1,e1⟩:=s1
 obtain⟨a9,o9,e9⟩:=s''
 obtain⟨B,hB1⟩: ∃B,B=[x]:=⟨_,rfl⟩
 have hAs:[exV x]=B.map exV:=by rw[hB1];rfl
 have hAs2:[V.ag [(.im (.int .i64 (x.op))),.im (.int .u32 x.n),.im (.string x.name),(.im (.int .i64 (x.width))),.sl (x.l.map exV) .ro]]=B.map exV:=by rw[hB1,List.map_cons,List.map_nil,cA x]
 rw[←hB1]
 simp only[rbx]at d0 d1 d9 ⊢
 refine DC.enter 46 Tryz.func238 rfl (by decide) rfl rfl (s:=[(0,.pt 0 0)]) (by rfl) ?_
 refine wG cJ TI ?_
 refine aA [0] d0 TI (A12 aB aC @aE @aD aQ aG aV aN aW bJ aT bN) (A12 aH aI @aK @aL bC aR aY bR bK bQ bY bZ) ?_
 refine goG cJ (A10 @dX @dC @dU @dT @dW @dD @List.getElem?_map.{0,0} @Int.natCast_nonneg hAs hAs2) ?_
 refine wG cJ (A10 @dX @dC @dU @dT @dW @dD @List.getElem?_map.{0,0} @Int.natCast_nonneg hAs hAs2) ?_
 refine aA [0] d1 TI (A12 aB aC @aE @aD aQ aG aV aN aW bJ aT bN) (A12 aH aI @aK @aL bC aR aY bR bK bQ bY bZ) ?_
 refine goG cJ TI ?_
 refine wG cJ TI ?_
 refine bH ?_
 refine cD ?_
 refine Jl 3 [(0,.pt 0 0),(2,.pt 1 0),(3,.pt 2 0)] [.box [.sl (ts.map tkV) .ro,(.im (.int .i64 ((s2.a:Nat)))),(.im (.int .i64 (s2.o))),(.im (.int .i64 (s2.e)))],.box [(.im (.int .i64 (0))),(.im (.int .i64 (0))),.im (.string ByteArray.empty),.sl [] .nl,.sl [] .nl,.sl [] .nl,.sl [] .nl],.box [(.im (.int .i64 (9))),(.im (.int .i64 (0))),.im (.string ByteArray.empty),.sl (B.map exV) .ro,.sl [] .nl,.sl [] .nl,.sl [] .nl]] ?_ (by simp) (by repeat (first|exact WkFA.nil|refine WkFA.cons (by first|exact .of (Wk.refl _) (by first|rfl|simp only[List.length_cons,List.length_nil,Nat.reduceAdd,V.ids,V.idsL,idsA,entOk,List.all_cons,List.all_nil,Bool.and_self,Bool.and_true,Bool.true_and,ltB,noId,Nat.reduceLT,decide_true,Bool.true_eq_false,bT,bV,bU,bW,aB,aC,aE,aD,aQ,aG,aV,aN,aW,bJ,aT,bN])|exact .of (Wk.ro _ _) (by simp[V.ids,V.idsL,aD])) ?_)) (by repeat (first|exact WkFE.nil|refine WkFE.box (by repeat (first|exact WkFL.nil|refine WkFL.cons (by first|exact .of (Wk.refl _) (by first|rfl|simp only[List.length_cons,List.length_nil,Nat.reduceAdd,V.ids,V.idsL,idsA,entOk,List.all_cons,List.all_nil,Bool.and_self,Bool.and_true,Bool.true_and,ltB,noId,Nat.reduceLT,decide_true,Bool.true_eq_false,bT,bV,bU,bW,aB,aC,aE,aD,aQ,aG,aV,aN,aW,bJ,aT,bN])|exact .of (Wk.ro _ _) (by simp[V.ids,V.idsL,aD])) ?_)) ?_|refine WkFE.same (fun _ e=>by cases e) ?_)) (fun i hi=>by first|exact absurd rfl hi|exact Nat.lt_of_lt_of_le (oM hi) (by simp))
 refine AWp.ghostB 2 6 [(.im (.int .i64 (9))),(.im (.int .i64 (0))),.im (.string ByteArray.empty),.sl (B.map exV) .ro,.sl [] .nl,.sl [] .nl,.sl [] .nl] 35 1 ?_
 suffices H: ∀(c:List (List Nd)) (s:Sr),LpC ts c s c' s'→AWpK _ _ _ _ _ ⟨dn 46 [(0,.pt 0 0),(2,.pt 1 0),(3,.pt 2 0)],ofl [rbx ts s,.box [(.im (.int .i64 (0))),(.im (.int .i64 (0))),.im (.string ByteArray.empty),.sl [] .nl,.sl [] .nl,.sl [] .nl,.sl [] .nl],.box [(.im (.int .i64 (9))),(.im (.int .i64 (0))),.im (.string ByteArray.empty),.sl (B.map exV) .ro,.sl [] .nl,.sl [] .nl,.sl ((c).map nlV) (.mine 3)],.tip 35 1 (c).length]⟩ by
  simp only[rbx]at H;refine AWp.cutP 4 [(0,.pt 0 0),(2,.pt 1 0),(3,.pt 2 0)] [.box [.sl (ts.map tkV) .ro,(.im (.int .i64 ((s2.a:Nat)))),(.im (.int .i64 (s2.o))),(.im (.int .i64 (s2.e)))],.box [(.im (.int .i64 (0))),(.im (.int .i64 (0))),.im (.string ByteArray.empty),.sl [] .nl,.sl [] .nl,.sl [] .nl,.sl [] .nl],.box [(.im (.int .i64 (9))),(.im (.int .i64 (0))),.im (.string ByteArray.empty),.sl (B.map exV) .ro,.sl [] .nl,.sl [] .nl,.sl ((([]:List (List Nd))).map nlV) (.mine 3)],.tip 35 1 (([]:List (List Nd))).length] (A12 aB aC @aE @aD aQ aG aV aN aW bJ aT bN) ?_;exact H [] s2 hL
 clear hL d0 d1 hAs hAs2 hB1
 intro c s hL
 induction hL with
 | @stop c s h =>
  have h3:=fJ ts s.a s.o s.e csW hts;rw[h,if_neg (by decide)]at h3
  obtain⟨a,o,e⟩:=s;unfold csW at h3;simp only[rbx]at h3 d9 ⊢;refine wG cJ TI ?_;refine aA [0] h3 TI (A12 aB aC @aE @aD aQ aG aV aN aW bJ aT bN) (A12 aH aI @aK @aL bC aR aY bR bK bQ bY bZ) ?_;refine goG cJ TI ?_;refine wG cJ TI ?_;refine aA [0] d9 TI (A12 aB aC @aE @aD aQ aG aV aN aW bJ aT bN) (A12 aH aI @aK @aL bC aR aY bR bK bQ bY bZ) ?_;refine goG cJ TI ?_;refine wG cJ TI ?_;refine aO (rs:=[.cell 2 165]) rfl (by first|exact .inl rfl|exact .inr rfl) (finG cJ) ?_ rfl (idG (A12 aB aC @aE @aD aQ aG aV aN aW bJ aT bN))
  simp only[fO,List.map_nil]
  all_goals exact wkG (A12 aB aC @aE @aD aQ aG aV aN aW bJ aT bN)
 | @step c c' a a1 a2 o o1 o2 e1 e2 n x s' hl hs d1 d2 r ih =>
  have ih:=ih d9;have h3:=fJ ts a o 0 csW hts;rw[gI,hs,if_pos rfl]at h3;unfold csW at h3;have hik:=jM ts (a+1) o 0 3 (by decide)
  have hf:=rV ts (a+1) o 0;rw[if_pos rfl]at hf;rw[show decide ((0:Int)=0)=true from rfl,Bool.true_and]at hik
  have hn:=wJ hok (a+1);have hwl:=Vt (n:=(c.length:Int)) (by omega)
  obtain⟨C,hC⟩: ∃C,C=c++[x]:=⟨_,rfl⟩
  have hAs:c.map nlV++[nlV x]=C.map nlV:=by rw[hC,List.map_append];rfl
  have hAl:c.length+1=C.length:=by rw[hC];simp
  have hbl:C.length*24≤140737488355328:=by omega
  rw[←hC]at ih
  by_cases k3:(pk ts (a+1)).kind=3
  ·have hlt:=dQ k3 (by decide)
   obtain⟨hg,g0,gn⟩:=rtake hlt;rw[decide_eq_true k3]at hik
   by_cases kn:(pk ts (a+1)).n=c.length
   ·rw[if_neg (fun h=>h.2 kn)]at d1
    generalize pk ts (a+1)=t at hg kn;simp only[rbx]at h3 d1 d2 ih ⊢;refine wG cJ TI ?_;refine aA [0] h3 TI (A12 aB aC @aE @aD aQ aG aV aN aW bJ aT bN) (A12 aH aI @aK @aL bC aR aY bR bK bQ bY bZ) ?_;refine goG cJ TI ?_;refine wdG cJ TI ?_;refine aA [0] hik TI (A12 aB aC @aE @aD aQ aG aV aN aW bJ aT bN) (A12 aH aI @aK @aL bC aR aY bR bK bQ bY bZ) ?_;refine goG cJ (A7 TKT hg g0 gn kn hwl @List.length_map.{0,0}) ?_;refine wdG cJ (A7 TKT hg g0 gn kn hwl @List.length_map.{0,0}) ?_;refine aA [0] d1 TI (A12 aB aC @aE @aD aQ aG aV aN aW bJ aT bN) (A12 aH aI @aK @aL bC aR aY bR bK bQ bY bZ) ?_;refine goG cJ TI ?_;refine wdG cJ TI ?_;refine aA [0] d2 TI (A12 aB aC @aE @aD aQ aG aV aN aW bJ aT bN) (A12 aH aI @aK @aL bC aR aY bR bK bQ bY bZ) ?_;refine goG cJ (A6 ND hAs hAl hbl pN @List.length_map.{0,0}) ?_;refine wdG cJ (A6 ND hAs hAl hbl pN @List.length_map.{0,0}) ?_;refine cD ?_;refine AWp.cutP 4 [(0,.pt 0 0),(2,.pt 1 0),(3,.pt 2 0)] [.box [.sl (ts.map tkV) .ro,(.im (.int .i64 ((a2:Nat)))),(.im (.int .i64 (o2))),(.im (.int .i64 (e2)))],.box [(.im (.int .i64 (0))),(.im (.int .i64 (0))),.im (.string ByteArray.empty),.sl [] .nl,.sl [] .nl,.sl [] .nl,.sl [] .nl],.box [(.im (.int .i64 (9))),(.im (.int .i64 (0))),.im (.string ByteArray.empty),.sl (B.map exV) .ro,.sl [] .nl,.sl [] .nl,.sl ((C).map nlV) (.mine 3)],.tip 35 1 (C).length] (A12 aB aC @aE @aD aQ aG aV aN aW bJ aT bN) ?_;exact ih
   ·rw[if_pos ⟨k3,kn⟩]at d1
    generalize pk ts (a+1)=t at hg kn;simp only[rbx]at h3 d1 d2 ih ⊢;refine wG cJ TI ?_;refine aA [0] h3 TI (A12 aB aC @aE @aD aQ aG aV aN aW bJ aT bN) (A12 aH aI @aK @aL bC aR aY bR bK bQ bY bZ) ?_;refine goG cJ TI ?_;refine wdG cJ TI ?_;refine aA [0] hik TI (A12 aB aC @aE @aD aQ aG aV aN aW bJ aT bN) (A12 aH aI @aK @aL bC aR aY bR bK bQ bY bZ) ?_;refine goG cJ (A7 TKT hg g0 gn kn hwl @List.length_map.{0,0}) ?_;refine wdG cJ (A7 TKT hg g0 gn kn hwl @List.length_map.{0,0}) ?_;refine aA [0] hf TI (A12 aB aC @aE @aD aQ aG aV aN aW bJ aT bN) (A12 aH aI @aK @aL bC aR aY bR bK bQ bY bZ) ?_;refine goG cJ TI ?_;refine wdG cJ TI ?_;refine aA [0] d1 TI (A12 aB aC @aE @aD aQ aG aV aN aW bJ aT bN) (A12 aH aI @aK @aL bC aR aY bR bK bQ bY bZ) ?_;refine goG cJ TI ?_;refine wdG cJ TI ?_;refine aA [0] d2 TI (A12 aB aC @aE @aD aQ aG aV aN aW bJ aT bN) (A12 aH aI @aK @aL bC aR aY bR bK bQ bY bZ) ?_;refine goG cJ (A6 ND hAs hAl hbl pN @List.length_map.{0,0}) ?_;refine wdG cJ (A6 ND hAs hAl hbl pN @List.length_map.{0,0}) ?_;refine cD ?_;refine AWp.cutP 4 [(0,.pt 0 0),(2,.pt 1 0),(3,.pt 2 0)] [.box [.sl (ts.map tkV) .ro,(.im (.int .i64 ((a2:Nat)))),(.im (.int .i64 (o2))),(.im (.int .i64 (e2)))],.box [(.im (.int .i64 (0))),(.im (.int .i64 (0))),.im (.string ByteArray.empty),.sl [] .nl,.sl [] .nl,.sl [] .nl,.sl [] .nl],.box [(.im (.int .i64 (9))),(.im (.int .i64 (0))),.im (.string ByteArray.empty),.sl (B.map exV) .ro,.sl [] .nl,.sl [] .nl,.sl ((C).map nlV) (.mine 3)],.tip 35 1 (C).length] (A12 aB aC @aE @aD aQ aG aV aN aW bJ aT bN) ?_;exact ih
  ·rw[decide_eq_false k3]at hik
   rw[if_neg (fun h=>k3 h.1)]at d1
   simp only[rbx]at h3 d1 d2 ih ⊢;refine wG cJ TI ?_;refine aA [0] h3 TI (A12 aB aC @aE @aD aQ aG aV aN aW bJ aT bN) (A12 aH aI @aK @aL bC aR aY bR bK bQ bY bZ) ?_;refine goG cJ TI ?_;refine wdG cJ TI ?_;refine aA [0] hik TI (A12 aB aC @aE @aD aQ aG aV aN aW bJ aT bN) (A12 aH aI @aK @aL bC aR aY bR bK bQ bY bZ) ?_;refine goG cJ TI ?_;refine wdG cJ TI ?_;refine aA [0] d1 TI (A12 aB aC @aE @aD aQ aG aV aN aW bJ aT bN) (A12 aH aI @aK @aL bC aR aY bR bK bQ bY bZ) ?_;refine goG cJ TI ?_;refine wdG cJ TI ?_;refine aA [0] d2 TI (A12 aB aC @aE @aD aQ aG aV aN aW bJ aT bN) (A12 aH aI @aK @aL bC aR aY bR bK bQ bY bZ) ?_;refine goG cJ (A6 ND hAs hAl hbl pN @List.length_map.{0,0}) ?_;refine wdG cJ (A6 ND hAs hAl hbl pN @List.length_map.{0,0}) ?_;refine cD ?_;refine AWp.cutP 4 [(0,.pt 0 0),(2,.pt 1 0),(3,.pt 2 0)] [.box [.sl (ts.map tkV) .ro,(.im (.int .i64 ((a2:Nat)))),(.im (.int .i64 (o2))),(.im (.int .i64 (e2)))],.box [(.im (.int .i64 (0))),(.im (.int .i64 (0))),.im (.string ByteArray.empty),.sl [] .nl,.sl [] .nl,.sl [] .nl,.sl [] .nl],.box [(.im (.int .i64 (9))),(.im (.int .i64 (0))),.im (.string ByteArray.empty),.sl (B.map exV) .ro,.sl [] .nl,.sl [] .nl,.sl ((C).map nlV) (.mine 3)],.tip 35 1 (C).length] (A12 aB aC @aE @aD aQ aG aV aN aW bJ aT bN) ?_;exact ih
theorem JY{ts:List Tk}(hts:ts.length≤4194304)(hok: ∀t∈ts,TkOk t){f:Nat}(hE:ExR ts f)(hB: ∀g,g<f→BrR ts g)(s:Sr)(hp:Pre (choM ts f) s): ∃x s',Post (choM ts f) s x s'∧DC Tryz.prog 238 [.pt 0 0] [rbx ts s] (stV x) [rbx ts s']:=by
 unfold choM at hp ⊢
 obtain⟨x,s1,q1,d1⟩:=hE 1 (by decide) s hp.fst
 rw[Oq]at d1
 have p1:=hp.snd q1
 obtain⟨s2,q2,b2,d2⟩:=kY ts hts s1 [123] p1.fst
 have p2:=p1.snd q2
 obtain⟨c',s3,hL,hpe,hbe,hq⟩:=LX hts hok f hB [] s2 p2.fst (fun h=>⟨(b2 h).2,Nat.zero_le _⟩)
 obtain⟨s4,q4,_,d4⟩:=rW ts hts s3 [125] hbe hpe
 have q3:=hq s4 q4
 exact⟨oneS (.mk 9 0 ByteArray.empty [x] [] [] c'),s4,q1.bind (q2.bind (q3.bind (Post.ret (p2.snd q3)))),JZ hts hok d1 d2 hL d4⟩
def smW:List Bs:=[[98,114,101,97,107],[99,111,110,116,105,110,117,101],[114,101,116,117,114,110],[104,97,108,116],[103,111,116,111],[99,97,108,108],[111,117,116]]
def smK:List Int:=[10,11,14,15,12,5,4]
theorem Xb:[V.im (.string ⟨#[98,114,101,97,107]⟩),V.im (.string ⟨#[99,111,110,116,105,110,117,101]⟩),V.im (.string ⟨#[114,101,116,117,114,110]⟩),V.im (.string ⟨#[104,97,108,116]⟩),V.im (.string ⟨#[103,111,116,111]⟩),V.im (.string ⟨#[99,97,108,108]⟩),V.im (.string ⟨#[111,117,116]⟩)]=smW.map sV:=rfl
theorem Xc:[(.im (.int .i64 (10))),(.im (.int .i64 (11))),(.im (.int .i64 (14))),(.im (.int .i64 (15))),(.im (.int .i64 (12))),(.im (.int .i64 (5))),(.im (.int .i64 (4)))]=smK.map iV:=rfl
theorem KX: ∀i:Nat,i<7→ ∀j:Nat,j<7→smW[i]? =smW[j]? →i=j:=by decide
inductive TlS (ts:List Tk) (a:Nat) (o:Int) (s':Sr):Int→Nd→Prop where
 | nm {k:Int} {n:ByteArray} {a1:Nat} {o1 e1:Int} (hk:k=12∨k=5) (d1:DC Tryz.prog 127 [.pt 0 0] [rbx ts ⟨a+1,o,0⟩] (.im (.string n)) [rbx ts ⟨a1,o1,e1⟩])
   (d2:DC Tryz.prog 126 [.pt 0 0,.im (.string ⟨([59]).toArray⟩)] [rbx ts ⟨a1,o1,e1⟩] (.tu []) [rbx ts s']):TlS ts a o s' k (.mk k 0 n [] [] [] [])
 | ex {x:Ex} {a1:Nat} {o1 e1:Int} (d1:DC Tryz.prog 61 [.pt 0 0,(.im (.int .i64 (1)))] [rbx ts ⟨a+1,o,0⟩] (exV x) [rbx ts ⟨a1,o1,e1⟩])
   (d2:DC Tryz.prog 126 [.pt 0 0,.im (.string ⟨([59]).toArray⟩)] [rbx ts ⟨a1,o1,e1⟩] (.tu []) [rbx ts s']):TlS ts a o s' 4 (.mk 4 0 ByteArray.empty [x] [] [] [])
 | no {k:Int} (h1:k≠12) (h2:k≠5) (h3:k≠4) (d2:DC Tryz.prog 126 [.pt 0 0,.im (.string ⟨([59]).toArray⟩)] [rbx ts ⟨a+1,o,0⟩] (.tu []) [rbx ts s']):TlS ts a o s' k (.mk k 0 ByteArray.empty [] [] [] [])
def cH:=A16 @iJ @cQ @kD @eF @hG @Py @fG @sL @xJ @fM @kS @kH @mR @lN @lC (A5 @gH @cN @kA @dG @dR)
set_option maxHeartbeats 8000000 in
theorem rT{ts:List Tk}(hts:ts.length≤4194304){a:Nat}{o:Int}{w:Bs}{k:Int}{y:Nd}{s':Sr}(q:Nat)(hq:smW[q]? =some w)(hk:smK[q]? =some k)(hs:sees ts a w=true)(ht:TlS ts a o s' k y) :
  DC Tryz.prog 240 [.pt 0 0] [rbx ts ⟨a,o,0⟩] (ndV y) [rbx ts s']:=by
 have hL:smW.length=7:=rfl
 have hK:smK.length=7:=rfl
 have hnd:=KX
 have eL:=Xb
 have eK:=Xc
 have hq7:q<smW.length:=(List.getElem?_eq_some_iff.1 hq).1
 generalize smW=L at hL hq hnd eL hq7
 generalize smK=K at hK hk eK
 obtain⟨a9,o9,e9⟩:=s'
 simp only[rbx]
 refine DC.enter 51 Tryz.func240 rfl (by decide) rfl rfl (s:=[(0,.pt 0 0)]) (by rfl) ?_
 refine wG cH (AI eL eK) ?_
 refine bH ?_
 refine ALp.cutP 2 [(0,.pt 0 0),(2,.pt 1 0),(3,.sl (L.map sV) .full),(4,.sl (K.map iV) .full),(5,(.im (.int .i64 ((((0):Nat):Int)))))] [.box [.sl (ts.map tkV) .ro,(.im (.int .i64 ((a:Nat)))),(.im (.int .i64 (o))),(.im (.int .i64 (0)))],.box [(.im (.int .i64 (0))),(.im (.int .i64 (0))),.im (.string ByteArray.empty),.sl [] .nl,.sl [] .nl,.sl [] .nl,.sl [] .nl]] (A12 aB aC @aE @aD aQ aG aV aN aW bJ aT bN) ?_
 refine ALp.upto L.length (fun m=>m≤q) (fun m=>⟨dn 51 [(0,.pt 0 0),(2,.pt 1 0),(3,.sl (L.map sV) .full),(4,.sl (K.map iV) .full),(5,(.im (.int .i64 ((((m):Nat):Int)))))],ofl [.box [.sl (ts.map tkV) .ro,(.im (.int .i64 ((a:Nat)))),(.im (.int .i64 (o))),(.im (.int .i64 (0)))],.box [(.im (.int .i64 (0))),(.im (.int .i64 (0))),.im (.string ByteArray.empty),.sl [] .nl,.sl [] .nl,.sl [] .nl,.sl [] .nl]]⟩) ?_ 0 (Nat.zero_le _) (Nat.zero_le _)
 intro m hm hI hnext
 have hlt:m<L.length:=by omega
 have hlt':(m:Int)<(L.length:Int):=by omega
 have hm1:=bD hlt (by omega)
 have hg:=cC hlt
 have hc:=fJ ts a o 0 L[m] hts
 rw[gI]at hc
 have hnx:=hnext (m+1) (by omega) (by omega)
 by_cases hmq:m=q
 case neg =>
  have hne:sees ts a L[m]=false:=by
   refine pL hs ?_;rw[beq_eq_false_iff_ne];intro e;have:=hnd m (by omega) q (by omega) (by rw[hq,List.getElem?_eq_getElem hlt,e])
   omega
  rw[hne,if_neg (by decide)]at hc
  generalize L[m]=x at hg hc;refine wG cH (A3 hlt' hg SI) ?_;refine aA [0] hc TI (A12 aB aC @aE @aD aQ aG aV aN aW bJ aT bN) (A12 aH aI @aK @aL bC aR aY bR bK bQ bY bZ) ?_;refine goG cH SI ?_;refine wG cH hm1 ?_;refine ALp.cutP 2 [(0,.pt 0 0),(2,.pt 1 0),(3,.sl (L.map sV) .full),(4,.sl (K.map iV) .full),(5,(.im (.int .i64 ((((m+1):Nat):Int)))))] [.box [.sl (ts.map tkV) .ro,(.im (.int .i64 ((a:Nat)))),(.im (.int .i64 (o))),(.im (.int .i64 (0)))],.box [(.im (.int .i64 (0))),(.im (.int .i64 (0))),.im (.string ByteArray.empty),.sl [] .nl,.sl [] .nl,.sl [] .nl,.sl [] .nl]] (A12 aB aC @aE @aD aQ aG aV aN aW bJ aT bN) ?_;exact hnx (by omega)
 subst hmq
 have hw:L[m]=w:=by rw[List.getElem?_eq_getElem hlt]at hq;exact Option.some.inj hq
 rw[hw]at hg hc
 rw[hs,if_pos rfl]at hc
 have hlk:m<K.length:=by omega
 have hlk':(m:Int)<(K.length:Int):=by omega
 have hgk:=cC hlk
 have hw2:K[m]=k:=by rw[List.getElem?_eq_getElem hlk]at hk;exact Option.some.inj hk
 rw[hw2]at hgk
 clear hnx hnext hI hnd eL eK hw hw2
 cases ht with
 | nm hk12 d1 d2 =>
  simp only[rbx]at d1 d2;rcases hk12 with rfl|rfl
  ·refine wG cH (A3 hlt' hg SI) ?_
   refine aA [0] hc TI (A12 aB aC @aE @aD aQ aG aV aN aW bJ aT bN) (A12 aH aI @aK @aL bC aR aY bR bK bQ bY bZ) ?_;refine goG cH SI ?_;refine wG cH (A3 hgk hlk' SI) ?_;refine aA [0] d1 TI (A12 aB aC @aE @aD aQ aG aV aN aW bJ aT bN) (A12 aH aI @aK @aL bC aR aY bR bK bQ bY bZ) ?_;refine goG cH SI ?_;refine wG cH SI ?_;refine aA [0] d2 TI (A12 aB aC @aE @aD aQ aG aV aN aW bJ aT bN) (A12 aH aI @aK @aL bC aR aY bR bK bQ bY bZ) ?_;refine goG cH SI ?_;refine wG cH SI ?_;refine aO (rs:=[.cell 2 165]) rfl (by first|exact .inl rfl|exact .inr rfl) (finG cH) ?_ rfl (idG (A12 aB aC @aE @aD aQ aG aV aN aW bJ aT bN))
   simp only[fO,List.map_nil]
   all_goals exact wkG (A12 aB aC @aE @aD aQ aG aV aN aW bJ aT bN)
  ·refine wG cH (A3 hlt' hg SI) ?_
   refine aA [0] hc TI (A12 aB aC @aE @aD aQ aG aV aN aW bJ aT bN) (A12 aH aI @aK @aL bC aR aY bR bK bQ bY bZ) ?_;refine goG cH SI ?_;refine wG cH (A3 hgk hlk' SI) ?_;refine aA [0] d1 TI (A12 aB aC @aE @aD aQ aG aV aN aW bJ aT bN) (A12 aH aI @aK @aL bC aR aY bR bK bQ bY bZ) ?_;refine goG cH SI ?_;refine wG cH SI ?_;refine aA [0] d2 TI (A12 aB aC @aE @aD aQ aG aV aN aW bJ aT bN) (A12 aH aI @aK @aL bC aR aY bR bK bQ bY bZ) ?_;refine goG cH SI ?_;refine wG cH SI ?_;refine aO (rs:=[.cell 2 165]) rfl (by first|exact .inl rfl|exact .inr rfl) (finG cH) ?_ rfl (idG (A12 aB aC @aE @aD aQ aG aV aN aW bJ aT bN))
   simp only[fO,List.map_nil]
   all_goals exact wkG (A12 aB aC @aE @aD aQ aG aV aN aW bJ aT bN)
 | @ex x a1 o1 e1 d1 d2 =>
  simp only[rbx]at d1 d2;obtain⟨B,hB1⟩: ∃B,B=[x]:=⟨_,rfl⟩
  have hAs:[exV x]=B.map exV:=by rw[hB1];rfl
  have hAs2:[V.ag [(.im (.int .i64 (x.op))),.im (.int .u32 x.n),.im (.string x.name),(.im (.int .i64 (x.width))),.sl (x.l.map exV) .ro]]=B.map exV:=by rw[hB1,List.map_cons,List.map_nil,cA x]
  rw[←hB1];refine wG cH (A3 hlt' hg SI) ?_;refine aA [0] hc TI (A12 aB aC @aE @aD aQ aG aV aN aW bJ aT bN) (A12 aH aI @aK @aL bC aR aY bR bK bQ bY bZ) ?_;refine goG cH SI ?_;refine wG cH (A3 hgk hlk' SI) ?_;refine aA [0] d1 TI (A12 aB aC @aE @aD aQ aG aV aN aW bJ aT bN) (A12 aH aI @aK @aL bC aR aY bR bK bQ bY bZ) ?_;refine goG cH (A10 @dX @dC @dU @dT @dW @dD @List.getElem?_map.{0,0} @Int.natCast_nonneg hAs hAs2) ?_;refine wG cH (A10 @dX @dC @dU @dT @dW @dD @List.getElem?_map.{0,0} @Int.natCast_nonneg hAs hAs2) ?_;refine aA [0] d2 TI (A12 aB aC @aE @aD aQ aG aV aN aW bJ aT bN) (A12 aH aI @aK @aL bC aR aY bR bK bQ bY bZ) ?_;refine goG cH BN01 ?_;refine wG cH BN01 ?_;refine aO (rs:=[.cell 2 165]) rfl (by first|exact .inl rfl|exact .inr rfl) (finG cH) ?_ rfl (idG (A12 aB aC @aE @aD aQ aG aV aN aW bJ aT bN))
  simp only[fO,List.map_nil]
  all_goals exact wkG (A12 aB aC @aE @aD aQ aG aV aN aW bJ aT bN)
 | no h1 h2 h3 d2 =>
  simp only[rbx]at d2;refine wG cH (A3 hlt' hg SI) ?_;refine aA [0] hc TI (A12 aB aC @aE @aD aQ aG aV aN aW bJ aT bN) (A12 aH aI @aK @aL bC aR aY bR bK bQ bY bZ) ?_;refine goG cH SI ?_;refine wG cH (A6 hgk hlk' SI h1 h2 h3) ?_;refine aA [0] d2 TI (A12 aB aC @aE @aD aQ aG aV aN aW bJ aT bN) (A12 aH aI @aK @aL bC aR aY bR bK bQ bY bZ) ?_;refine goG cH SI ?_;refine wG cH SI ?_;refine aO (rs:=[.cell 2 165]) rfl (by first|exact .inl rfl|exact .inr rfl) (finG cH) ?_ rfl (idG (A12 aB aC @aE @aD aQ aG aV aN aW bJ aT bN))
  simp only[fO,List.map_nil]
  all_goals exact wkG (A12 aB aC @aE @aD aQ aG aV aN aW bJ aT bN)
theorem EN{ts:List Tk}(hts:ts.length≤4194304){a:Nat}{o:Int}(hs: ∀w∈smW,sees ts a w=false):DC Tryz.prog 240 [.pt 0 0] [rbx ts ⟨a,o,0⟩] (ndV nd0) [rbx ts ⟨a,o,3⟩]:=by
 have hL:smW.length=7:=rfl
 have eL:=Xb
 have eK:=Xc
 have hf:=rV ts a o 0
 rw[if_pos rfl]at hf
 generalize smW=L at hL hs eL
 generalize smK=K at eK
 simp only[rbx]
 refine DC.enter 51 Tryz.func240 rfl (by decide) rfl rfl (s:=[(0,.pt 0 0)]) (by rfl) ?_
 refine wG cH (AI eL eK) ?_
 refine bH ?_
 refine ALp.cutP 2 [(0,.pt 0 0),(2,.pt 1 0),(3,.sl (L.map sV) .full),(4,.sl (K.map iV) .full),(5,(.im (.int .i64 ((((0):Nat):Int)))))] [.box [.sl (ts.map tkV) .ro,(.im (.int .i64 ((a:Nat)))),(.im (.int .i64 (o))),(.im (.int .i64 (0)))],.box [(.im (.int .i64 (0))),(.im (.int .i64 (0))),.im (.string ByteArray.empty),.sl [] .nl,.sl [] .nl,.sl [] .nl,.sl [] .nl]] (A12 aB aC @aE @aD aQ aG aV aN aW bJ aT bN) ?_
 refine ALp.upto L.length (fun _=>True) (fun m=>⟨dn 51 [(0,.pt 0 0),(2,.pt 1 0),(3,.sl (L.map sV) .full),(4,.sl (K.map iV) .full),(5,(.im (.int .i64 ((((m):Nat):Int)))))],ofl [.box [.sl (ts.map tkV) .ro,(.im (.int .i64 ((a:Nat)))),(.im (.int .i64 (o))),(.im (.int .i64 (0)))],.box [(.im (.int .i64 (0))),(.im (.int .i64 (0))),.im (.string ByteArray.empty),.sl [] .nl,.sl [] .nl,.sl [] .nl,.sl [] .nl]]⟩) ?_ 0 (Nat.zero_le _) trivial
 intro m hm _ hnext
 by_cases hlt:m<L.length
 ·have hlt':(m:Int)<(L.length:Int):=by omega
  have hm1:=bD hlt (by omega)
  have hg:=cC hlt;have hc:=fJ ts a o 0 L[m] hts;rw[gI,hs _ (List.getElem_mem hlt),if_neg (by decide)]at hc
  have hnx:=hnext (m+1) (by omega) (by omega) trivial
  generalize L[m]=x at hg hc;refine wG cH (A3 hlt' hg SI) ?_;refine aA [0] hc TI (A12 aB aC @aE @aD aQ aG aV aN aW bJ aT bN) (A12 aH aI @aK @aL bC aR aY bR bK bQ bY bZ) ?_;refine goG cH SI ?_;refine wG cH hm1 ?_;refine ALp.cutP 2 [(0,.pt 0 0),(2,.pt 1 0),(3,.sl (L.map sV) .full),(4,.sl (K.map iV) .full),(5,(.im (.int .i64 ((((m+1):Nat):Int)))))] [.box [.sl (ts.map tkV) .ro,(.im (.int .i64 ((a:Nat)))),(.im (.int .i64 (o))),(.im (.int .i64 (0)))],.box [(.im (.int .i64 (0))),(.im (.int .i64 (0))),.im (.string ByteArray.empty),.sl [] .nl,.sl [] .nl,.sl [] .nl,.sl [] .nl]] (A12 aB aC @aE @aD aQ aG aV aN aW bJ aT bN) ?_;exact hnx
 obtain rfl:m=L.length:=by omega
 clear hnext
 refine wG cH (AI @Int.lt_irrefl @List.length_map.{0,0}) ?_
 refine aA [0] hf TI (A12 aB aC @aE @aD aQ aG aV aN aW bJ aT bN) (A12 aH aI @aK @aL bC aR aY bR bK bQ bY bZ) ?_
 refine goG cH TI ?_
 refine wG cH TI ?_
 refine aO (rs:=[.cell 2 165]) rfl (by first|exact .inl rfl|exact .inr rfl) (finG cH) ?_ rfl (idG (A12 aB aC @aE @aD aQ aG aV aN aW bJ aT bN))
 simp only[nd0,fO,List.map_nil]
 all_goals exact wkG (A12 aB aC @aE @aD aQ aG aV aN aW bJ aT bN)
theorem bI{ts:List Tk}{a:Nat}{x:Bs}(h:sees ts a x=true)(y:Bs):sees ts a y=(x==y):=by
 unfold sees at h ⊢
 rw[Bool.and_eq_true]at h
 rw[h.1,eq_of_beq h.2,Bool.true_and]
theorem CH{ts:List Tk}{f a:Nat}(hk: ¬(pk ts a).kind=1)(h:sees ts a [103,111,116,111]=true)(o:Nat):stM ts (f+1) .st a o=(rb (nmM ts (a+1) o) fun n a o=>rb (expM ts [59] a o) fun _ a o=>ret (oneS (.mk 12 0 n [] [] [] [])) a o):=by
 rw[stM,if_neg hk,if_pos h]
theorem CI{ts:List Tk}{f a:Nat}(hk: ¬(pk ts a).kind=1)(h:sees ts a [99,97,108,108]=true)(o:Nat):stM ts (f+1) .st a o=(rb (nmM ts (a+1) o) fun n a o=>rb (expM ts [59] a o) fun _ a o=>ret (oneS (.mk 5 0 n [] [] [] [])) a o):=by
 rw[stM,if_neg hk,if_neg (show ¬sees ts a [103,111,116,111]=true by rw[bI h];decide),if_pos h]
theorem Ta{ts:List Tk}{f a:Nat}(hk: ¬(pk ts a).kind=1)(h:sees ts a [115,116,111,114,101,49]=true)(o:Nat):stM ts (f+1) .st a o=(storM ts f 1 (a+1) o):=by
 rw[stM,if_neg hk,if_neg (show ¬sees ts a [103,111,116,111]=true by rw[bI h];decide),if_neg (show ¬sees ts a [99,97,108,108]=true by rw[bI h];decide),if_pos h]
theorem Sz{ts:List Tk}{f a:Nat}(hk: ¬(pk ts a).kind=1)(h:sees ts a [115,116,111,114,101,50]=true)(o:Nat):stM ts (f+1) .st a o=(storM ts f 2 (a+1) o):=by
 rw[stM,if_neg hk,if_neg (show ¬sees ts a [103,111,116,111]=true by rw[bI h];decide),if_neg (show ¬sees ts a [99,97,108,108]=true by rw[bI h];decide),if_neg (show ¬sees ts a [115,116,111,114,101,49]=true by rw[bI h];decide),if_pos h]
theorem Sy{ts:List Tk}{f a:Nat}(hk: ¬(pk ts a).kind=1)(h:sees ts a [115,116,111,114,101,52]=true)(o:Nat):stM ts (f+1) .st a o=(storM ts f 4 (a+1) o):=by
 rw[stM,if_neg hk,if_neg (show ¬sees ts a [103,111,116,111]=true by rw[bI h];decide),if_neg (show ¬sees ts a [99,97,108,108]=true by rw[bI h];decide),if_neg (show ¬sees ts a [115,116,111,114,101,49]=true by rw[bI h];decide),if_neg (show ¬sees ts a [115,116,111,114,101,50]=true by rw[bI h];decide),if_pos h]
theorem HC{ts:List Tk}{f a:Nat}(hk: ¬(pk ts a).kind=1)(h:sees ts a [111,117,116]=true)(o:Nat):stM ts (f+1) .st a o=(rb (exM ts f (.ex 1) (a+1) o) fun x a o=>rb (expM ts [59] a o) fun _ a o=>ret (oneS (.mk 4 0 ByteArray.empty [x] [] [] [])) a o):=by
 rw[stM,if_neg hk,if_neg (show ¬sees ts a [103,111,116,111]=true by rw[bI h];decide),if_neg (show ¬sees ts a [99,97,108,108]=true by rw[bI h];decide),if_neg (show ¬sees ts a [115,116,111,114,101,49]=true by rw[bI h];decide),if_neg (show ¬sees ts a [115,116,111,114,101,50]=true by rw[bI h];decide),if_neg (show ¬sees ts a [115,116,111,114,101,52]=true by rw[bI h];decide),if_pos h]
theorem KU{ts:List Tk}{f a:Nat}(hk: ¬(pk ts a).kind=1)(h:sees ts a [105,102]=true)(o:Nat):stM ts (f+1) .st a o=(conM ts f (a+1) o):=by
 rw[stM,if_neg hk,if_neg (show ¬sees ts a [103,111,116,111]=true by rw[bI h];decide),if_neg (show ¬sees ts a [99,97,108,108]=true by rw[bI h];decide),if_neg (show ¬sees ts a [115,116,111,114,101,49]=true by rw[bI h];decide),if_neg (show ¬sees ts a [115,116,111,114,101,50]=true by rw[bI h];decide),if_neg (show ¬sees ts a [115,116,111,114,101,52]=true by rw[bI h];decide),if_neg (show ¬sees ts a [111,117,116]=true by rw[bI h];decide),if_pos h]
 rfl
theorem Wx{ts:List Tk}{f a:Nat}(hk: ¬(pk ts a).kind=1)(h:sees ts a [119,104,105,108,101]=true)(o:Nat):stM ts (f+1) .st a o=(rb (exM ts f (.ex 1) (a+1) o) fun x a o=>rb (stM ts f .br a o) fun l a o=>ret (oneS (.mk 7 0 ByteArray.empty [x] (l.headD []) [] [])) a o):=by
 rw[stM,if_neg hk,if_neg (show ¬sees ts a [103,111,116,111]=true by rw[bI h];decide),if_neg (show ¬sees ts a [99,97,108,108]=true by rw[bI h];decide),if_neg (show ¬sees ts a [115,116,111,114,101,49]=true by rw[bI h];decide),if_neg (show ¬sees ts a [115,116,111,114,101,50]=true by rw[bI h];decide),if_neg (show ¬sees ts a [115,116,111,114,101,52]=true by rw[bI h];decide),if_neg (show ¬sees ts a [111,117,116]=true by rw[bI h];decide),if_neg (show ¬sees ts a [105,102]=true by rw[bI h];decide),if_pos h]
theorem CF{ts:List Tk}{f a:Nat}(hk: ¬(pk ts a).kind=1)(h:sees ts a [108,111,111,112]=true)(o:Nat):stM ts (f+1) .st a o=(rb (stM ts f .br (a+1) o) fun l a o=>ret (oneS (.mk 8 0 ByteArray.empty [] (l.headD []) [] [])) a o):=by
 rw[stM,if_neg hk,if_neg (show ¬sees ts a [103,111,116,111]=true by rw[bI h];decide),if_neg (show ¬sees ts a [99,97,108,108]=true by rw[bI h];decide),if_neg (show ¬sees ts a [115,116,111,114,101,49]=true by rw[bI h];decide),if_neg (show ¬sees ts a [115,116,111,114,101,50]=true by rw[bI h];decide),if_neg (show ¬sees ts a [115,116,111,114,101,52]=true by rw[bI h];decide),if_neg (show ¬sees ts a [111,117,116]=true by rw[bI h];decide),if_neg (show ¬sees ts a [105,102]=true by rw[bI h];decide),if_neg (show ¬sees ts a [119,104,105,108,101]=true by rw[bI h];decide),if_pos h]
theorem Sx{ts:List Tk}{f a:Nat}(hk: ¬(pk ts a).kind=1)(h:sees ts a [115,119,105,116,99,104]=true)(o:Nat):stM ts (f+1) .st a o=(choM ts f (a+1) o):=by
 rw[stM,if_neg hk,if_neg (show ¬sees ts a [103,111,116,111]=true by rw[bI h];decide),if_neg (show ¬sees ts a [99,97,108,108]=true by rw[bI h];decide),if_neg (show ¬sees ts a [115,116,111,114,101,49]=true by rw[bI h];decide),if_neg (show ¬sees ts a [115,116,111,114,101,50]=true by rw[bI h];decide),if_neg (show ¬sees ts a [115,116,111,114,101,52]=true by rw[bI h];decide),if_neg (show ¬sees ts a [111,117,116]=true by rw[bI h];decide),if_neg (show ¬sees ts a [105,102]=true by rw[bI h];decide),if_neg (show ¬sees ts a [119,104,105,108,101]=true by rw[bI h];decide),if_neg (show ¬sees ts a [108,111,111,112]=true by rw[bI h];decide),if_pos h]
 rfl
theorem Wy{ts:List Tk}{f a:Nat}(hk: ¬(pk ts a).kind=1)(h:sees ts a [98,114,101,97,107]=true)(o:Nat):stM ts (f+1) .st a o=(pK ts 10 (a+1) o):=by
 rw[stM,if_neg hk,if_neg (show ¬sees ts a [103,111,116,111]=true by rw[bI h];decide),if_neg (show ¬sees ts a [99,97,108,108]=true by rw[bI h];decide),if_neg (show ¬sees ts a [115,116,111,114,101,49]=true by rw[bI h];decide),if_neg (show ¬sees ts a [115,116,111,114,101,50]=true by rw[bI h];decide),if_neg (show ¬sees ts a [115,116,111,114,101,52]=true by rw[bI h];decide),if_neg (show ¬sees ts a [111,117,116]=true by rw[bI h];decide),if_neg (show ¬sees ts a [105,102]=true by rw[bI h];decide),if_neg (show ¬sees ts a [119,104,105,108,101]=true by rw[bI h];decide),if_neg (show ¬sees ts a [108,111,111,112]=true by rw[bI h];decide),if_neg (show ¬sees ts a [115,119,105,116,99,104]=true by rw[bI h];decide),if_pos h]
theorem Kc{ts:List Tk}{f a:Nat}(hk: ¬(pk ts a).kind=1)(h:sees ts a [99,111,110,116,105,110,117,101]=true)(o:Nat):stM ts (f+1) .st a o=(pK ts 11 (a+1) o):=by
 rw[stM,if_neg hk,if_neg (show ¬sees ts a [103,111,116,111]=true by rw[bI h];decide),if_neg (show ¬sees ts a [99,97,108,108]=true by rw[bI h];decide),if_neg (show ¬sees ts a [115,116,111,114,101,49]=true by rw[bI h];decide),if_neg (show ¬sees ts a [115,116,111,114,101,50]=true by rw[bI h];decide),if_neg (show ¬sees ts a [115,116,111,114,101,52]=true by rw[bI h];decide),if_neg (show ¬sees ts a [111,117,116]=true by rw[bI h];decide),if_neg (show ¬sees ts a [105,102]=true by rw[bI h];decide),if_neg (show ¬sees ts a [119,104,105,108,101]=true by rw[bI h];decide),if_neg (show ¬sees ts a [108,111,111,112]=true by rw[bI h];decide),if_neg (show ¬sees ts a [115,119,105,116,99,104]=true by rw[bI h];decide),if_neg (show ¬sees ts a [98,114,101,97,107]=true by rw[bI h];decide),if_pos h]
theorem Tb{ts:List Tk}{f a:Nat}(hk: ¬(pk ts a).kind=1)(h:sees ts a [114,101,116,117,114,110]=true)(o:Nat):stM ts (f+1) .st a o=(pK ts 14 (a+1) o):=by
 rw[stM,if_neg hk,if_neg (show ¬sees ts a [103,111,116,111]=true by rw[bI h];decide),if_neg (show ¬sees ts a [99,97,108,108]=true by rw[bI h];decide),if_neg (show ¬sees ts a [115,116,111,114,101,49]=true by rw[bI h];decide),if_neg (show ¬sees ts a [115,116,111,114,101,50]=true by rw[bI h];decide),if_neg (show ¬sees ts a [115,116,111,114,101,52]=true by rw[bI h];decide),if_neg (show ¬sees ts a [111,117,116]=true by rw[bI h];decide),if_neg (show ¬sees ts a [105,102]=true by rw[bI h];decide),if_neg (show ¬sees ts a [119,104,105,108,101]=true by rw[bI h];decide),if_neg (show ¬sees ts a [108,111,111,112]=true by rw[bI h];decide),if_neg (show ¬sees ts a [115,119,105,116,99,104]=true by rw[bI h];decide),if_neg (show ¬sees ts a [98,114,101,97,107]=true by rw[bI h];decide),if_neg (show ¬sees ts a [99,111,110,116,105,110,117,101]=true by rw[bI h];decide),if_pos h]
theorem CG{ts:List Tk}{f a:Nat}(hk: ¬(pk ts a).kind=1)(h:sees ts a [104,97,108,116]=true)(o:Nat):stM ts (f+1) .st a o=(pK ts 15 (a+1) o):=by
 rw[stM,if_neg hk,if_neg (show ¬sees ts a [103,111,116,111]=true by rw[bI h];decide),if_neg (show ¬sees ts a [99,97,108,108]=true by rw[bI h];decide),if_neg (show ¬sees ts a [115,116,111,114,101,49]=true by rw[bI h];decide),if_neg (show ¬sees ts a [115,116,111,114,101,50]=true by rw[bI h];decide),if_neg (show ¬sees ts a [115,116,111,114,101,52]=true by rw[bI h];decide),if_neg (show ¬sees ts a [111,117,116]=true by rw[bI h];decide),if_neg (show ¬sees ts a [105,102]=true by rw[bI h];decide),if_neg (show ¬sees ts a [119,104,105,108,101]=true by rw[bI h];decide),if_neg (show ¬sees ts a [108,111,111,112]=true by rw[bI h];decide),if_neg (show ¬sees ts a [115,119,105,116,99,104]=true by rw[bI h];decide),if_neg (show ¬sees ts a [98,114,101,97,107]=true by rw[bI h];decide),if_neg (show ¬sees ts a [99,111,110,116,105,110,117,101]=true by rw[bI h];decide),if_neg (show ¬sees ts a [114,101,116,117,114,110]=true by rw[bI h];decide),if_pos h]
theorem CE{ts:List Tk}{f a:Nat}(hk: ¬(pk ts a).kind=1)(h: ∀x∈([[103,111,116,111],[99,97,108,108],[115,116,111,114,101,49],[115,116,111,114,101,50],[115,116,111,114,101,52],[111,117,116],[105,102],[119,104,105,108,101],[108,111,111,112],[115,119,105,116,99,104],[98,114,101,97,107],[99,111,110,116,105,110,117,101],[114,101,116,117,114,110],[104,97,108,116]]:List Bs),sees ts a x=false)(o:Nat):stM ts (f+1) .st a o=some (.bad a 3):=by
 have hh: ∀x∈([[103,111,116,111],[99,97,108,108],[115,116,111,114,101,49],[115,116,111,114,101,50],[115,116,111,114,101,52],[111,117,116],[105,102],[119,104,105,108,101],[108,111,111,112],[115,119,105,116,99,104],[98,114,101,97,107],[99,111,110,116,105,110,117,101],[114,101,116,117,114,110],[104,97,108,116]]:List Bs),¬sees ts a x=true:=fun x hx=>by rw[h x hx];decide
 rw[stM,if_neg hk,if_neg (hh _ (by simp)),if_neg (hh _ (by simp)),if_neg (hh _ (by simp)),if_neg (hh _ (by simp)),if_neg (hh _ (by simp)),if_neg (hh _ (by simp)),if_neg (hh _ (by simp)),if_neg (hh _ (by simp)),if_neg (hh _ (by simp)),if_neg (hh _ (by simp)),if_neg (hh _ (by simp)),if_neg (hh _ (by simp)),if_neg (hh _ (by simp)),if_neg (hh _ (by simp))]
theorem Nt{ts:List Tk}{a:Nat}{d:UInt8}(h:sees ts a (stW++[d])=true):nK ts a 0 stW=if d=49 then 1 else if d=50 then 2 else if d=51 then 3 else if d=52 then 4 else 0:=by
 have hs: ∀c:UInt8,(isR ts a 0 (stW++[c])=true)=(d=c):=fun c=>by
  rw[gI,bI h,beq_iff_eq];simp
 unfold nK
 simp only[widF,hs]
 rfl
theorem Qc{ts:List Tk}{a:Nat}(h: ∀d:UInt8,sees ts a (stW++[d])=false):nK ts a 0 stW=0:=Vv fun d=>by rw[gI];exact h d
theorem zY{ts:List Tk}{a:Nat}{x:Bs}(h:sees ts a x=true)(hx: ∀d:UInt8,(x==stW++[d])=false):nK ts a 0 stW=0:=Qc fun d=>by rw[bI h];exact hx d
theorem HE{ts:List Tk}{a:Nat}(hW:TkW (pk ts a)){d:UInt8}(h:sees ts a (stW++[d])=true):d=49∨d=50∨d=52:=by
 have hk:=CM h
 unfold sees at h
 rw[Bool.and_eq_true]at h
 have ht:=eq_of_beq h.2
 rcases hk with hk|hk
 ·have:=rP.1 (hW.1 hk)
  rw[ht]at this;revert this;unfold stW kwds;simp
 ·have:=hW.2 hk
  rw[ht]at this;cases this
def aS:=A8 @iJ @eO @hG @fG @fM @lC @gH @dG
set_option maxHeartbeats 4000000 in
theorem pT{ts:List Tk}(hts:ts.length≤4194304){a:Nat}{o:Int}{y:Nd}{s':Sr}(hk: ¬(pk ts a).kind=1)(hw:nK ts a 0 stW=0)(h1:sees ts a [105,102]=false)(h2:sees ts a [115,119,105,116,99,104]=false)(h3:sees ts a [119,104,105,108,101]=false)(h4:sees ts a [108,111,111,112]=false)
  (d:DC Tryz.prog 240 [.pt 0 0] [rbx ts ⟨a,o,0⟩] (ndV y) [rbx ts s']):DC Tryz.prog 188 [.pt 0 0] [rbx ts ⟨a,o,0⟩] (ndV y) [rbx ts s']:=by
 have ik:=jM ts a o 0 1 (by decide)
 rw[show decide ((0:Int)=0)=true from rfl,Bool.true_and,decide_eq_false hk]at ik
 have iw:=kX ts a o 0 stW (by decide)
 rw[hw]at iw
 unfold stW at iw
 have t0:=fJ ts a o 0 [105,102] hts
 rw[gI,h1,if_neg (by decide)]at t0
 have t1:=fJ ts a o 0 [115,119,105,116,99,104] hts
 rw[gI,h2,if_neg (by decide)]at t1
 have t2:=fJ ts a o 0 [119,104,105,108,101] hts
 rw[gI,h3,if_neg (by decide)]at t2
 have t3:=fJ ts a o 0 [108,111,111,112] hts
 rw[gI,h4,if_neg (by decide)]at t3
 obtain⟨a1,o1,e1⟩:=s'
 simp only[rbx]at d ⊢
 refine DC.enter 40 Tryz.func188 rfl (by decide) rfl rfl (s:=[(0,.pt 0 0)]) (by rfl) ?_
 refine wG aS TI ?_
 refine aA [0] ik TI (A12 aB aC @aE @aD aQ aG aV aN aW bJ aT bN) (A12 aH aI @aK @aL bC aR aY bR bK bQ bY bZ) ?_
 refine goG aS TI ?_
 refine wG aS TI ?_
 refine aA [0] iw TI (A12 aB aC @aE @aD aQ aG aV aN aW bJ aT bN) (A12 aH aI @aK @aL bC aR aY bR bK bQ bY bZ) ?_
 refine goG aS TI ?_
 refine wG aS TI ?_
 refine aA [0] t0 TI (A12 aB aC @aE @aD aQ aG aV aN aW bJ aT bN) (A12 aH aI @aK @aL bC aR aY bR bK bQ bY bZ) ?_
 refine goG aS TI ?_
 refine wG aS TI ?_
 refine aA [0] t1 TI (A12 aB aC @aE @aD aQ aG aV aN aW bJ aT bN) (A12 aH aI @aK @aL bC aR aY bR bK bQ bY bZ) ?_
 refine goG aS TI ?_
 refine wG aS TI ?_
 refine aA [0] t2 TI (A12 aB aC @aE @aD aQ aG aV aN aW bJ aT bN) (A12 aH aI @aK @aL bC aR aY bR bK bQ bY bZ) ?_
 refine goG aS TI ?_
 refine wG aS TI ?_
 refine aA [0] t3 TI (A12 aB aC @aE @aD aQ aG aV aN aW bJ aT bN) (A12 aH aI @aK @aL bC aR aY bR bK bQ bY bZ) ?_
 refine goG aS TI ?_
 refine wG aS TI ?_
 refine aA [0] d TI (A12 aB aC @aE @aD aQ aG aV aN aW bJ aT bN) (A12 aH aI @aK @aL bC aR aY bR bK bQ bY bZ) ?_
 refine goG aS ND ?_
 refine wG aS ND ?_
 refine aO (rs:=[.cell 2 165]) rfl (by first|exact .inl rfl|exact .inr rfl) (finG aS) ?_ rfl (idG (A12 aB aC @aE @aD aQ aG aV aN aW bJ aT bN))
 rw[fN y]
 all_goals exact wkG (A12 aB aC @aE @aD aQ aG aV aN aW bJ aT bN)
set_option maxHeartbeats 8000000 in
theorem EK{ts:List Tk}(hts:ts.length≤4194304)(hok: ∀t∈ts,TkOk t)(hW: ∀t∈ts,TkW t){f:Nat}(hE:ExR ts f)(hB: ∀g,g≤f→BrR ts g):StR ts (f+1):=by
 intro a o hlt hp
 obtain⟨o',ho,r,hr⟩:=hp rfl
 have ho:(o:Int)=o':=ho
 obtain rfl:o=o':=by omega
 have hr:stM ts (f+1) .st a o=some r:=hr
 have hwt:=LA hW a
 have hB0:=hB f (Nat.le_refl f)
 by_cases hk:(pk ts a).kind=1
 ·have hM: ∀o,stM ts (f+1) .st a o=Ky ts f a o:=fun o=>by rw[stM,if_pos hk]
  obtain⟨x,s',q,d⟩:=Zz hts hE ⟨a,o,0⟩ (Pre.congr (fun _=>funext hM) hp)
  refine⟨x,s',Post.congr (fun _=>funext hM) q,?_⟩
  obtain⟨a1,o1,e1⟩:=s';have ik:=jM ts a o 0 1 (by decide)
  rw[show decide ((0:Int)=0)=true from rfl,Bool.true_and,decide_eq_true hk]at ik
  clear q hM hr hp;simp only[rbx]at d ⊢;refine DC.enter 40 Tryz.func188 rfl (by decide) rfl rfl (s:=[(0,.pt 0 0)]) (by rfl) ?_
  refine wG aS TI ?_;refine aA [0] ik TI (A12 aB aC @aE @aD aQ aG aV aN aW bJ aT bN) (A12 aH aI @aK @aL bC aR aY bR bK bQ bY bZ) ?_;refine goG aS TI ?_;refine wG aS TI ?_;refine aA [0] d TI (A12 aB aC @aE @aD aQ aG aV aN aW bJ aT bN) (A12 aH aI @aK @aL bC aR aY bR bK bQ bY bZ) ?_;refine goG aS LIT ?_;refine wG aS LIT ?_;refine aO (rs:=[.cell 2 165]) rfl (by first|exact .inl rfl|exact .inr rfl) (finG aS) ?_ rfl (idG (A12 aB aC @aE @aD aQ aG aV aN aW bJ aT bN))
  rw[lS x]
  all_goals exact wkG (A12 aB aC @aE @aD aQ aG aV aN aW bJ aT bN)
 by_cases hs:sees ts a [115,116,111,114,101,49]=true
 ·have hM:=Ta (f:=f) hk hs
  have hw:nK ts a 0 stW=1:=Nt (d:=49) hs;obtain⟨x,s',q,d⟩:=Cu hts hE 1 a hlt o (fun _=>⟨o,rfl,r,by show storM ts f 1 (a+1) o=some r;rw[←hM];exact hr⟩)
  refine⟨x,s',postShift (fun o=>(hM o).symm) q,?_⟩
  obtain⟨a1,o1,e1⟩:=s';have ik:=jM ts a o 0 1 (by decide)
  rw[show decide ((0:Int)=0)=true from rfl,Bool.true_and,decide_eq_false hk]at ik
  have iw:=kX ts a o 0 stW (by decide)
  rw[hw]at iw;unfold stW at iw;clear q hM hr hp;simp only[rbx]at d ⊢;refine DC.enter 40 Tryz.func188 rfl (by decide) rfl rfl (s:=[(0,.pt 0 0)]) (by rfl) ?_
  refine wG aS TI ?_;refine aA [0] ik TI (A12 aB aC @aE @aD aQ aG aV aN aW bJ aT bN) (A12 aH aI @aK @aL bC aR aY bR bK bQ bY bZ) ?_;refine goG aS TI ?_;refine wG aS TI ?_;refine aA [0] iw TI (A12 aB aC @aE @aD aQ aG aV aN aW bJ aT bN) (A12 aH aI @aK @aL bC aR aY bR bK bQ bY bZ) ?_;refine goG aS TI ?_;refine wG aS TI ?_;refine aA [0] d TI (A12 aB aC @aE @aD aQ aG aV aN aW bJ aT bN) (A12 aH aI @aK @aL bC aR aY bR bK bQ bY bZ) ?_;refine goG aS LIT ?_;refine wG aS LIT ?_;refine aO (rs:=[.cell 2 165]) rfl (by first|exact .inl rfl|exact .inr rfl) (finG aS) ?_ rfl (idG (A12 aB aC @aE @aD aQ aG aV aN aW bJ aT bN))
  rw[lS x]
  all_goals exact wkG (A12 aB aC @aE @aD aQ aG aV aN aW bJ aT bN)
 have n49:=hs
 clear hs
 by_cases hs:sees ts a [115,116,111,114,101,50]=true
 ·have hM:=Sz (f:=f) hk hs
  have hw:nK ts a 0 stW=2:=Nt (d:=50) hs;obtain⟨x,s',q,d⟩:=Cu hts hE 2 a hlt o (fun _=>⟨o,rfl,r,by show storM ts f 2 (a+1) o=some r;rw[←hM];exact hr⟩)
  refine⟨x,s',postShift (fun o=>(hM o).symm) q,?_⟩
  obtain⟨a1,o1,e1⟩:=s';have ik:=jM ts a o 0 1 (by decide)
  rw[show decide ((0:Int)=0)=true from rfl,Bool.true_and,decide_eq_false hk]at ik
  have iw:=kX ts a o 0 stW (by decide)
  rw[hw]at iw;unfold stW at iw;clear q hM hr hp;simp only[rbx]at d ⊢;refine DC.enter 40 Tryz.func188 rfl (by decide) rfl rfl (s:=[(0,.pt 0 0)]) (by rfl) ?_
  refine wG aS TI ?_;refine aA [0] ik TI (A12 aB aC @aE @aD aQ aG aV aN aW bJ aT bN) (A12 aH aI @aK @aL bC aR aY bR bK bQ bY bZ) ?_;refine goG aS TI ?_;refine wG aS TI ?_;refine aA [0] iw TI (A12 aB aC @aE @aD aQ aG aV aN aW bJ aT bN) (A12 aH aI @aK @aL bC aR aY bR bK bQ bY bZ) ?_;refine goG aS TI ?_;refine wG aS TI ?_;refine aA [0] d TI (A12 aB aC @aE @aD aQ aG aV aN aW bJ aT bN) (A12 aH aI @aK @aL bC aR aY bR bK bQ bY bZ) ?_;refine goG aS LIT ?_;refine wG aS LIT ?_;refine aO (rs:=[.cell 2 165]) rfl (by first|exact .inl rfl|exact .inr rfl) (finG aS) ?_ rfl (idG (A12 aB aC @aE @aD aQ aG aV aN aW bJ aT bN))
  rw[lS x]
  all_goals exact wkG (A12 aB aC @aE @aD aQ aG aV aN aW bJ aT bN)
 have n50:=hs
 clear hs
 by_cases hs:sees ts a [115,116,111,114,101,52]=true
 ·have hM:=Sy (f:=f) hk hs
  have hw:nK ts a 0 stW=4:=Nt (d:=52) hs;obtain⟨x,s',q,d⟩:=Cu hts hE 4 a hlt o (fun _=>⟨o,rfl,r,by show storM ts f 4 (a+1) o=some r;rw[←hM];exact hr⟩)
  refine⟨x,s',postShift (fun o=>(hM o).symm) q,?_⟩
  obtain⟨a1,o1,e1⟩:=s';have ik:=jM ts a o 0 1 (by decide)
  rw[show decide ((0:Int)=0)=true from rfl,Bool.true_and,decide_eq_false hk]at ik
  have iw:=kX ts a o 0 stW (by decide)
  rw[hw]at iw;unfold stW at iw;clear q hM hr hp;simp only[rbx]at d ⊢;refine DC.enter 40 Tryz.func188 rfl (by decide) rfl rfl (s:=[(0,.pt 0 0)]) (by rfl) ?_
  refine wG aS TI ?_;refine aA [0] ik TI (A12 aB aC @aE @aD aQ aG aV aN aW bJ aT bN) (A12 aH aI @aK @aL bC aR aY bR bK bQ bY bZ) ?_;refine goG aS TI ?_;refine wG aS TI ?_;refine aA [0] iw TI (A12 aB aC @aE @aD aQ aG aV aN aW bJ aT bN) (A12 aH aI @aK @aL bC aR aY bR bK bQ bY bZ) ?_;refine goG aS TI ?_;refine wG aS TI ?_;refine aA [0] d TI (A12 aB aC @aE @aD aQ aG aV aN aW bJ aT bN) (A12 aH aI @aK @aL bC aR aY bR bK bQ bY bZ) ?_;refine goG aS LIT ?_;refine wG aS LIT ?_;refine aO (rs:=[.cell 2 165]) rfl (by first|exact .inl rfl|exact .inr rfl) (finG aS) ?_ rfl (idG (A12 aB aC @aE @aD aQ aG aV aN aW bJ aT bN))
  rw[lS x]
  all_goals exact wkG (A12 aB aC @aE @aD aQ aG aV aN aW bJ aT bN)
 have n52:=hs
 clear hs
 by_cases hs:sees ts a [105,102]=true
 ·have hM:=KU (f:=f) hk hs
  have hw:nK ts a 0 stW=0:=zY hs (by intro d;simp[stW])
  have h1:sees ts a [105,102]=true:=hs;obtain⟨x,s',q,d⟩:=FC hts hE hB0 ⟨a+1,o,0⟩ (fun _=>⟨o,rfl,r,by show conM ts f (a+1) o=some r;rw[←hM];exact hr⟩)
  refine⟨x,s',postShift (fun o=>(hM o).symm) q,?_⟩
  obtain⟨a1,o1,e1⟩:=s';have ik:=jM ts a o 0 1 (by decide)
  rw[show decide ((0:Int)=0)=true from rfl,Bool.true_and,decide_eq_false hk]at ik
  have iw:=kX ts a o 0 stW (by decide)
  rw[hw]at iw;unfold stW at iw;have t0:=fJ ts a o 0 [105,102] hts;rw[gI,h1,if_pos rfl]at t0;clear q hM hr hp;simp only[rbx]at d ⊢;refine DC.enter 40 Tryz.func188 rfl (by decide) rfl rfl (s:=[(0,.pt 0 0)]) (by rfl) ?_
  refine wG aS TI ?_;refine aA [0] ik TI (A12 aB aC @aE @aD aQ aG aV aN aW bJ aT bN) (A12 aH aI @aK @aL bC aR aY bR bK bQ bY bZ) ?_;refine goG aS TI ?_;refine wG aS TI ?_;refine aA [0] iw TI (A12 aB aC @aE @aD aQ aG aV aN aW bJ aT bN) (A12 aH aI @aK @aL bC aR aY bR bK bQ bY bZ) ?_;refine goG aS TI ?_;refine wG aS TI ?_;refine aA [0] t0 TI (A12 aB aC @aE @aD aQ aG aV aN aW bJ aT bN) (A12 aH aI @aK @aL bC aR aY bR bK bQ bY bZ) ?_;refine goG aS TI ?_;refine wG aS TI ?_;refine aA [0] d TI (A12 aB aC @aE @aD aQ aG aV aN aW bJ aT bN) (A12 aH aI @aK @aL bC aR aY bR bK bQ bY bZ) ?_;refine goG aS LIT ?_;refine wG aS LIT ?_;refine aO (rs:=[.cell 2 165]) rfl (by first|exact .inl rfl|exact .inr rfl) (finG aS) ?_ rfl (idG (A12 aB aC @aE @aD aQ aG aV aN aW bJ aT bN))
  rw[lS x]
  all_goals exact wkG (A12 aB aC @aE @aD aQ aG aV aN aW bJ aT bN)
 have h1:sees ts a [105,102]=false:=by rw[←Bool.not_eq_true];exact hs
 clear hs
 by_cases hs:sees ts a [115,119,105,116,99,104]=true
 ·have hM:=Sx (f:=f) hk hs
  have hw:nK ts a 0 stW=0:=zY hs (by intro d;simp[stW])
  have h1:sees ts a [105,102]=false:=pL hs (by decide)
  have h2:sees ts a [115,119,105,116,99,104]=true:=hs;obtain⟨x,s',q,d⟩:=JY hts hok hE (fun g hg=>hB g (by omega)) ⟨a+1,o,0⟩ (fun _=>⟨o,rfl,r,by show choM ts f (a+1) o=some r;rw[←hM];exact hr⟩)
  refine⟨x,s',postShift (fun o=>(hM o).symm) q,?_⟩
  obtain⟨a1,o1,e1⟩:=s';have ik:=jM ts a o 0 1 (by decide)
  rw[show decide ((0:Int)=0)=true from rfl,Bool.true_and,decide_eq_false hk]at ik
  have iw:=kX ts a o 0 stW (by decide)
  rw[hw]at iw;unfold stW at iw;have t0:=fJ ts a o 0 [105,102] hts;rw[gI,h1,if_neg (by decide)]at t0
  have t1:=fJ ts a o 0 [115,119,105,116,99,104] hts;rw[gI,h2,if_pos rfl]at t1;clear q hM hr hp;simp only[rbx]at d ⊢;refine DC.enter 40 Tryz.func188 rfl (by decide) rfl rfl (s:=[(0,.pt 0 0)]) (by rfl) ?_
  refine wG aS TI ?_;refine aA [0] ik TI (A12 aB aC @aE @aD aQ aG aV aN aW bJ aT bN) (A12 aH aI @aK @aL bC aR aY bR bK bQ bY bZ) ?_;refine goG aS TI ?_;refine wG aS TI ?_;refine aA [0] iw TI (A12 aB aC @aE @aD aQ aG aV aN aW bJ aT bN) (A12 aH aI @aK @aL bC aR aY bR bK bQ bY bZ) ?_;refine goG aS TI ?_;refine wG aS TI ?_;refine aA [0] t0 TI (A12 aB aC @aE @aD aQ aG aV aN aW bJ aT bN) (A12 aH aI @aK @aL bC aR aY bR bK bQ bY bZ) ?_;refine goG aS TI ?_;refine wG aS TI ?_;refine aA [0] t1 TI (A12 aB aC @aE @aD aQ aG aV aN aW bJ aT bN) (A12 aH aI @aK @aL bC aR aY bR bK bQ bY bZ) ?_;refine goG aS TI ?_;refine wG aS TI ?_;refine aA [0] d TI (A12 aB aC @aE @aD aQ aG aV aN aW bJ aT bN) (A12 aH aI @aK @aL bC aR aY bR bK bQ bY bZ) ?_;refine goG aS LIT ?_;refine wG aS LIT ?_;refine aO (rs:=[.cell 2 165]) rfl (by first|exact .inl rfl|exact .inr rfl) (finG aS) ?_ rfl (idG (A12 aB aC @aE @aD aQ aG aV aN aW bJ aT bN))
  rw[lS x]
  all_goals exact wkG (A12 aB aC @aE @aD aQ aG aV aN aW bJ aT bN)
 have h2:sees ts a [115,119,105,116,99,104]=false:=by rw[←Bool.not_eq_true];exact hs
 clear hs
 by_cases hs:sees ts a [119,104,105,108,101]=true
 ·have hM:=Wx (f:=f) hk hs
  have hw:nK ts a 0 stW=0:=zY hs (by intro d;simp[stW])
  have h1:sees ts a [105,102]=false:=pL hs (by decide)
  have h2:sees ts a [115,119,105,116,99,104]=false:=pL hs (by decide)
  have h3:sees ts a [119,104,105,108,101]=true:=hs;have hp2:Pre (fun a o=>rb (exM ts f (.ex 1) a o) fun x a o=>rb (stM ts f .br a o) fun l a o=>ret (oneS (.mk 7 0 ByteArray.empty [x] (l.headD []) [] [])) a o) ⟨a+1,o,0⟩:=fun _=>⟨o,rfl,r,by rw[←hr,hM]⟩
  obtain⟨x,⟨a1,o1,e1⟩,q1,d1⟩:=hE 1 (by decide) ⟨a+1,o,0⟩ hp2.fst
  have p1:=hp2.snd q1;obtain⟨l,⟨a2,o2,e2⟩,q2,d2⟩:=hB0 ⟨a1,o1,e1⟩ p1.fst;refine⟨oneS (.mk 7 0 ByteArray.empty [x] (l.headD []) [] []),⟨a2,o2,e2⟩,postShift (fun o=>(hM o).symm) (q1.bind (k:=fun x a o=>rb (stM ts f .br a o) fun l a o=>ret (oneS (.mk 7 0 ByteArray.empty [x] (l.headD []) [] [])) a o) (q2.bind (Post.ret (p1.snd q2)))),?_⟩
  rw[Oq]at d1;rw[Ac]at d2;generalize l.headD []=l at d2 ⊢;obtain⟨B,hB1⟩: ∃B,B=[x]:=⟨_,rfl⟩
  have hAs:[exV x]=B.map exV:=by rw[hB1];rfl
  have hAs2:[V.ag [(.im (.int .i64 (x.op))),.im (.int .u32 x.n),.im (.string x.name),(.im (.int .i64 (x.width))),.sl (x.l.map exV) .ro]]=B.map exV:=by rw[hB1,List.map_cons,List.map_nil,cA x]
  rw[←hB1];have ik:=jM ts a o 0 1 (by decide)
  rw[show decide ((0:Int)=0)=true from rfl,Bool.true_and,decide_eq_false hk]at ik
  have iw:=kX ts a o 0 stW (by decide)
  rw[hw]at iw;unfold stW at iw;have t0:=fJ ts a o 0 [105,102] hts;rw[gI,h1,if_neg (by decide)]at t0
  have t1:=fJ ts a o 0 [115,119,105,116,99,104] hts;rw[gI,h2,if_neg (by decide)]at t1
  have t2:=fJ ts a o 0 [119,104,105,108,101] hts;rw[gI,h3,if_pos rfl]at t2;clear q1 q2 p1 hp2 hM hr hp;simp only[rbx]at d1 d2 ⊢;refine DC.enter 40 Tryz.func188 rfl (by decide) rfl rfl (s:=[(0,.pt 0 0)]) (by rfl) ?_
  refine wG aS TI ?_;refine aA [0] ik TI (A12 aB aC @aE @aD aQ aG aV aN aW bJ aT bN) (A12 aH aI @aK @aL bC aR aY bR bK bQ bY bZ) ?_;refine goG aS TI ?_;refine wG aS TI ?_;refine aA [0] iw TI (A12 aB aC @aE @aD aQ aG aV aN aW bJ aT bN) (A12 aH aI @aK @aL bC aR aY bR bK bQ bY bZ) ?_;refine goG aS TI ?_;refine wG aS TI ?_;refine aA [0] t0 TI (A12 aB aC @aE @aD aQ aG aV aN aW bJ aT bN) (A12 aH aI @aK @aL bC aR aY bR bK bQ bY bZ) ?_;refine goG aS TI ?_;refine wG aS TI ?_;refine aA [0] t1 TI (A12 aB aC @aE @aD aQ aG aV aN aW bJ aT bN) (A12 aH aI @aK @aL bC aR aY bR bK bQ bY bZ) ?_;refine goG aS TI ?_;refine wG aS TI ?_;refine aA [0] t2 TI (A12 aB aC @aE @aD aQ aG aV aN aW bJ aT bN) (A12 aH aI @aK @aL bC aR aY bR bK bQ bY bZ) ?_;refine goG aS TI ?_;refine wG aS TI ?_;refine aA [0] d1 TI (A12 aB aC @aE @aD aQ aG aV aN aW bJ aT bN) (A12 aH aI @aK @aL bC aR aY bR bK bQ bY bZ) ?_;refine goG aS BN01 ?_;refine wdG aS (A10 @dX @dC @dU @dT @dW @dD @List.getElem?_map.{0,0} @Int.natCast_nonneg hAs hAs2) ?_;refine aA [0] d2 TI (A12 aB aC @aE @aD aQ aG aV aN aW bJ aT bN) (A12 aH aI @aK @aL bC aR aY bR bK bQ bY bZ) ?_;refine goG aS (A10 @dX @dC @dU @dT @dW @dD @List.getElem?_map.{0,0} @Int.natCast_nonneg hAs hAs2) ?_;refine wdG aS (A10 @dX @dC @dU @dT @dW @dD @List.getElem?_map.{0,0} @Int.natCast_nonneg hAs hAs2) ?_;refine aO (rs:=[.cell 2 165]) rfl (by first|exact .inl rfl|exact .inr rfl) (finG aS) ?_ rfl (idG (A12 aB aC @aE @aD aQ aG aV aN aW bJ aT bN))
  simp only[gJ,fO,List.map_nil]
  all_goals exact wkG (A12 aB aC @aE @aD aQ aG aV aN aW bJ aT bN)
 have h3:sees ts a [119,104,105,108,101]=false:=by rw[←Bool.not_eq_true];exact hs
 clear hs
 by_cases hs:sees ts a [108,111,111,112]=true
 ·have hM:=CF (f:=f) hk hs
  have hw:nK ts a 0 stW=0:=zY hs (by intro d;simp[stW])
  have h1:sees ts a [105,102]=false:=pL hs (by decide)
  have h2:sees ts a [115,119,105,116,99,104]=false:=pL hs (by decide)
  have h3:sees ts a [119,104,105,108,101]=false:=pL hs (by decide)
  have h4:sees ts a [108,111,111,112]=true:=hs;have hp2:Pre (fun a o=>rb (stM ts f .br a o) fun l a o=>ret (oneS (.mk 8 0 ByteArray.empty [] (l.headD []) [] [])) a o) ⟨a+1,o,0⟩:=fun _=>⟨o,rfl,r,by rw[←hr,hM]⟩
  obtain⟨l,⟨a2,o2,e2⟩,q2,d2⟩:=hB0 ⟨a+1,o,0⟩ hp2.fst;refine⟨oneS (.mk 8 0 ByteArray.empty [] (l.headD []) [] []),⟨a2,o2,e2⟩,postShift (fun o=>(hM o).symm) (q2.bind (k:=fun l a o=>ret (oneS (.mk 8 0 ByteArray.empty [] (l.headD []) [] [])) a o) (Post.ret (hp2.snd q2))),?_⟩
  rw[Ac]at d2;generalize l.headD []=l at d2 ⊢;have ik:=jM ts a o 0 1 (by decide)
  rw[show decide ((0:Int)=0)=true from rfl,Bool.true_and,decide_eq_false hk]at ik
  have iw:=kX ts a o 0 stW (by decide)
  rw[hw]at iw;unfold stW at iw;have t0:=fJ ts a o 0 [105,102] hts;rw[gI,h1,if_neg (by decide)]at t0
  have t1:=fJ ts a o 0 [115,119,105,116,99,104] hts;rw[gI,h2,if_neg (by decide)]at t1
  have t2:=fJ ts a o 0 [119,104,105,108,101] hts;rw[gI,h3,if_neg (by decide)]at t2
  have t3:=fJ ts a o 0 [108,111,111,112] hts;rw[gI,h4,if_pos rfl]at t3;clear q2 hp2 hM hr hp;simp only[rbx]at d2 ⊢;refine DC.enter 40 Tryz.func188 rfl (by decide) rfl rfl (s:=[(0,.pt 0 0)]) (by rfl) ?_
  refine wG aS TI ?_;refine aA [0] ik TI (A12 aB aC @aE @aD aQ aG aV aN aW bJ aT bN) (A12 aH aI @aK @aL bC aR aY bR bK bQ bY bZ) ?_;refine goG aS TI ?_;refine wG aS TI ?_;refine aA [0] iw TI (A12 aB aC @aE @aD aQ aG aV aN aW bJ aT bN) (A12 aH aI @aK @aL bC aR aY bR bK bQ bY bZ) ?_;refine goG aS TI ?_;refine wG aS TI ?_;refine aA [0] t0 TI (A12 aB aC @aE @aD aQ aG aV aN aW bJ aT bN) (A12 aH aI @aK @aL bC aR aY bR bK bQ bY bZ) ?_;refine goG aS TI ?_;refine wG aS TI ?_;refine aA [0] t1 TI (A12 aB aC @aE @aD aQ aG aV aN aW bJ aT bN) (A12 aH aI @aK @aL bC aR aY bR bK bQ bY bZ) ?_;refine goG aS TI ?_;refine wG aS TI ?_;refine aA [0] t2 TI (A12 aB aC @aE @aD aQ aG aV aN aW bJ aT bN) (A12 aH aI @aK @aL bC aR aY bR bK bQ bY bZ) ?_;refine goG aS TI ?_;refine wG aS TI ?_;refine aA [0] t3 TI (A12 aB aC @aE @aD aQ aG aV aN aW bJ aT bN) (A12 aH aI @aK @aL bC aR aY bR bK bQ bY bZ) ?_;refine goG aS TI ?_;refine wG aS TI ?_;refine aA [0] d2 TI (A12 aB aC @aE @aD aQ aG aV aN aW bJ aT bN) (A12 aH aI @aK @aL bC aR aY bR bK bQ bY bZ) ?_;refine goG aS TI ?_;refine wG aS TI ?_;refine aO (rs:=[.cell 2 165]) rfl (by first|exact .inl rfl|exact .inr rfl) (finG aS) ?_ rfl (idG (A12 aB aC @aE @aD aQ aG aV aN aW bJ aT bN))
  simp only[gJ,fO,List.map_nil]
  all_goals exact wkG (A12 aB aC @aE @aD aQ aG aV aN aW bJ aT bN)
 have h4:sees ts a [108,111,111,112]=false:=by rw[←Bool.not_eq_true];exact hs
 clear hs
 have hw:nK ts a 0 stW=0:=Qc fun d=>by
  rw[←Bool.not_eq_true];intro hh;rcases HE hwt hh with rfl|rfl|rfl
  ·exact n49 hh
  ·exact n50 hh
  ·exact n52 hh
 by_cases hs:sees ts a [98,114,101,97,107]=true
 ·have hM:=Wy (f:=f) hk hs
  have hp2:Pre (fun a o=>rb (expM ts [59] a o) fun _ a o=>ret (oneS (.mk 10 0 ByteArray.empty [] [] [] [])) a o) ⟨a+1,o,0⟩:=fun _=>⟨o,rfl,r,by rw[←hr,hM];rfl⟩
  obtain⟨s',q2,_,d2⟩:=iL ts hts ⟨a+1,o,0⟩ [59] hp2.fst;exact⟨oneS (.mk 10 0 ByteArray.empty [] [] [] []),s',postShift (fun o=>(hM o).symm) (q2.bind (k:=fun _ a o=>ret (oneS (.mk 10 0 ByteArray.empty [] [] [] [])) a o) (Post.ret (hp2.snd q2))),pT hts hk hw h1 h2 h3 h4 (rT hts 0 rfl rfl hs (.no (by decide) (by decide) (by decide) d2))⟩
 have m0:sees ts a [98,114,101,97,107]=false:=by rw[←Bool.not_eq_true];exact hs
 clear hs
 by_cases hs:sees ts a [99,111,110,116,105,110,117,101]=true
 ·have hM:=Kc (f:=f) hk hs
  have hp2:Pre (fun a o=>rb (expM ts [59] a o) fun _ a o=>ret (oneS (.mk 11 0 ByteArray.empty [] [] [] [])) a o) ⟨a+1,o,0⟩:=fun _=>⟨o,rfl,r,by rw[←hr,hM];rfl⟩
  obtain⟨s',q2,_,d2⟩:=iL ts hts ⟨a+1,o,0⟩ [59] hp2.fst;exact⟨oneS (.mk 11 0 ByteArray.empty [] [] [] []),s',postShift (fun o=>(hM o).symm) (q2.bind (k:=fun _ a o=>ret (oneS (.mk 11 0 ByteArray.empty [] [] [] [])) a o) (Post.ret (hp2.snd q2))),pT hts hk hw h1 h2 h3 h4 (rT hts 1 rfl rfl hs (.no (by decide) (by decide) (by decide) d2))⟩
 have m1:sees ts a [99,111,110,116,105,110,117,101]=false:=by rw[←Bool.not_eq_true];exact hs
 clear hs
 by_cases hs:sees ts a [114,101,116,117,114,110]=true
 ·have hM:=Tb (f:=f) hk hs
  have hp2:Pre (fun a o=>rb (expM ts [59] a o) fun _ a o=>ret (oneS (.mk 14 0 ByteArray.empty [] [] [] [])) a o) ⟨a+1,o,0⟩:=fun _=>⟨o,rfl,r,by rw[←hr,hM];rfl⟩
  obtain⟨s',q2,_,d2⟩:=iL ts hts ⟨a+1,o,0⟩ [59] hp2.fst;exact⟨oneS (.mk 14 0 ByteArray.empty [] [] [] []),s',postShift (fun o=>(hM o).symm) (q2.bind (k:=fun _ a o=>ret (oneS (.mk 14 0 ByteArray.empty [] [] [] [])) a o) (Post.ret (hp2.snd q2))),pT hts hk hw h1 h2 h3 h4 (rT hts 2 rfl rfl hs (.no (by decide) (by decide) (by decide) d2))⟩
 have m2:sees ts a [114,101,116,117,114,110]=false:=by rw[←Bool.not_eq_true];exact hs
 clear hs
 by_cases hs:sees ts a [104,97,108,116]=true
 ·have hM:=CG (f:=f) hk hs
  have hp2:Pre (fun a o=>rb (expM ts [59] a o) fun _ a o=>ret (oneS (.mk 15 0 ByteArray.empty [] [] [] [])) a o) ⟨a+1,o,0⟩:=fun _=>⟨o,rfl,r,by rw[←hr,hM];rfl⟩
  obtain⟨s',q2,_,d2⟩:=iL ts hts ⟨a+1,o,0⟩ [59] hp2.fst;exact⟨oneS (.mk 15 0 ByteArray.empty [] [] [] []),s',postShift (fun o=>(hM o).symm) (q2.bind (k:=fun _ a o=>ret (oneS (.mk 15 0 ByteArray.empty [] [] [] [])) a o) (Post.ret (hp2.snd q2))),pT hts hk hw h1 h2 h3 h4 (rT hts 3 rfl rfl hs (.no (by decide) (by decide) (by decide) d2))⟩
 have m3:sees ts a [104,97,108,116]=false:=by rw[←Bool.not_eq_true];exact hs
 clear hs
 by_cases hs:sees ts a [103,111,116,111]=true
 ·have hM:=CH (f:=f) hk hs
  have hp2:Pre (fun a o=>rb (nmM ts a o) fun n a o=>rb (expM ts [59] a o) fun _ a o=>ret (oneS (.mk 12 0 n [] [] [] [])) a o) ⟨a+1,o,0⟩:=fun _=>⟨o,rfl,r,by rw[←hr,hM]⟩
  obtain⟨n,⟨a1,o1,e1⟩,q1,_,d1⟩:=rU ts hts ⟨a+1,o,0⟩ hp2.fst;have p1:=hp2.snd q1;obtain⟨s',q2,_,d2⟩:=iL ts hts ⟨a1,o1,e1⟩ [59] p1.fst;exact⟨oneS (.mk 12 0 n [] [] [] []),s',postShift (fun o=>(hM o).symm) (q1.bind (k:=fun n a o=>rb (expM ts [59] a o) fun _ a o=>ret (oneS (.mk 12 0 n [] [] [] [])) a o) (q2.bind (Post.ret (p1.snd q2)))),pT hts hk hw h1 h2 h3 h4 (rT hts 4 rfl rfl hs (.nm (by decide) d1 d2))⟩
 have m4:sees ts a [103,111,116,111]=false:=by rw[←Bool.not_eq_true];exact hs
 clear hs
 by_cases hs:sees ts a [99,97,108,108]=true
 ·have hM:=CI (f:=f) hk hs
  have hp2:Pre (fun a o=>rb (nmM ts a o) fun n a o=>rb (expM ts [59] a o) fun _ a o=>ret (oneS (.mk 5 0 n [] [] [] [])) a o) ⟨a+1,o,0⟩:=fun _=>⟨o,rfl,r,by rw[←hr,hM]⟩
  obtain⟨n,⟨a1,o1,e1⟩,q1,_,d1⟩:=rU ts hts ⟨a+1,o,0⟩ hp2.fst;have p1:=hp2.snd q1;obtain⟨s',q2,_,d2⟩:=iL ts hts ⟨a1,o1,e1⟩ [59] p1.fst;exact⟨oneS (.mk 5 0 n [] [] [] []),s',postShift (fun o=>(hM o).symm) (q1.bind (k:=fun n a o=>rb (expM ts [59] a o) fun _ a o=>ret (oneS (.mk 5 0 n [] [] [] [])) a o) (q2.bind (Post.ret (p1.snd q2)))),pT hts hk hw h1 h2 h3 h4 (rT hts 5 rfl rfl hs (.nm (by decide) d1 d2))⟩
 have m5:sees ts a [99,97,108,108]=false:=by rw[←Bool.not_eq_true];exact hs
 clear hs
 by_cases hs:sees ts a [111,117,116]=true
 ·have hM:=HC (f:=f) hk hs
  have hp2:Pre (fun a o=>rb (exM ts f (.ex 1) a o) fun x a o=>rb (expM ts [59] a o) fun _ a o=>ret (oneS (.mk 4 0 ByteArray.empty [x] [] [] [])) a o) ⟨a+1,o,0⟩:=fun _=>⟨o,rfl,r,by rw[←hr,hM]⟩
  obtain⟨x,⟨a1,o1,e1⟩,q1,d1⟩:=hE 1 (by decide) ⟨a+1,o,0⟩ hp2.fst
  have p1:=hp2.snd q1;obtain⟨s',q2,_,d2⟩:=iL ts hts ⟨a1,o1,e1⟩ [59] p1.fst;rw[Oq]at d1;exact⟨oneS (.mk 4 0 ByteArray.empty [x] [] [] []),s',postShift (fun o=>(hM o).symm) (q1.bind (k:=fun x a o=>rb (expM ts [59] a o) fun _ a o=>ret (oneS (.mk 4 0 ByteArray.empty [x] [] [] [])) a o) (q2.bind (Post.ret (p1.snd q2)))),pT hts hk hw h1 h2 h3 h4 (rT hts 6 rfl rfl hs (.ex d1 d2))⟩
 have m6:sees ts a [111,117,116]=false:=by rw[←Bool.not_eq_true];exact hs
 clear hs
 have hM:=CE (f:=f) hk (fun x hx=>by
  simp only[List.mem_cons,List.not_mem_nil,or_false]at hx;rcases hx with rfl|rfl|rfl|rfl|rfl|rfl|rfl|rfl|rfl|rfl|rfl|rfl|rfl|rfl
  ·exact m4
  ·exact m5
  ·rw[←Bool.not_eq_true];exact n49
  ·rw[←Bool.not_eq_true];exact n50
  ·rw[←Bool.not_eq_true];exact n52
  ·exact m6
  ·exact h1
  ·exact h3
  ·exact h4
  ·exact h2
  ·exact m0
  ·exact m1
  ·exact m2
  ·exact m3)
 exact⟨oneS nd0,⟨a,o,3⟩,Post.of_bad (hM o) (by decide),pT hts hk hw h1 h2 h3 h4 (EN hts fun w hw=>by
  unfold smW at hw;simp only[List.mem_cons,List.not_mem_nil,or_false]at hw
  rcases hw with rfl|rfl|rfl|rfl|rfl|rfl|rfl<;>assumption)⟩
theorem JI{ts:List Tk}(hts:ts.length≤4194304)(hok: ∀t∈ts,TkOk t)(hW: ∀t∈ts,TkW t): ∀F f,f≤F→StR ts f∧BrR ts f:=by
 intro F
 induction F with
 | zero =>
  intro f hf;obtain rfl:f=0:=by omega
  refine⟨fun a o _ hp=> ?_,fun s hp=> ?_⟩
  ·obtain⟨_,_,r,hr⟩:=hp rfl
   cases hr
  ·by_cases he:s.e=0
   ·obtain⟨o,_,r,hr⟩:=hp he
    cases hr
   ·obtain⟨x,s',h1,h2,d⟩:=Ml ts hts s he
    exact⟨x,s',Post.of_err he h1 h2,d⟩
 | succ F ih =>
  intro f hf
  by_cases hle:f≤F
  ·exact ih f hle
  obtain rfl:f=F+1:=by omega
  exact⟨EK hts hok hW (GP hts hok hW F) fun g hg=>(ih g hg).2,AQ hts F fun g hg=>(ih g (by omega)).1⟩
theorem MA{ts:List Tk}(hts:ts.length≤4194304)(hok: ∀t∈ts,TkOk t)(hW: ∀t∈ts,TkW t)(f:Nat):StR ts f:=(JI hts hok hW f f (Nat.le_refl _)).1
def jQ:=A7 @jG @As @oC @qB @Rx @jF @kQ
set_option maxHeartbeats 2000000 in
theorem JF{ts:List Tk}{f:Nat}(hts:ts.length≤4194304)(hok: ∀t∈ts,TkOk t)(s:Sr)(hp:Pre (varM ts f) s): ∃x s',Post (varM ts f) s x s'∧DC Tryz.prog 113 [.pt 0 0] [rbx ts s] (vaV x) [rbx ts s']:=by
 unfold varM at hp ⊢
 obtain⟨⟨a1,o1,e1⟩,q1,b1,d1⟩:=iL ts hts s [118,97,114] hp.fst
 have p1:=hp.snd q1
 obtain⟨n,⟨a2,o2,e2⟩,q2,b2,d2⟩:=rU ts hts ⟨a1,o1,e1⟩ p1.fst
 have p2:=p1.snd q2
 obtain⟨⟨a3,o3,e3⟩,q3,b3,d3⟩:=iL ts hts ⟨a2,o2,e2⟩ [58] p2.fst
 have p3:=p2.snd q3
 obtain⟨x,⟨a4,o4,e4⟩,q4,d4⟩:=JG hts hok f ⟨a3,o3,e3⟩ p3.fst
 have p4:=p3.snd q4
 obtain⟨⟨a5,o5,e5⟩,q5,b5,d5⟩:=iL ts hts ⟨a4,o4,e4⟩ [59] p4.fst
 refine⟨⟨n,x⟩,⟨a5,o5,e5⟩,q1.bind (q2.bind (q3.bind (q4.bind (q5.bind (Post.ret (p4.snd q5)))))),?_⟩
 obtain⟨a,o,e⟩:=s
 clear q1 q2 q3 q4 q5 p1 p2 p3 p4 hp b1 b2 b3 b5
 simp only[rbx]at d1 d2 d3 d4 d5 ⊢
 refine DC.enter 18 Tryz.func113 rfl (by decide) rfl rfl (s:=[(0,.pt 0 0)]) (by rfl) ?_
 refine wG jQ TI ?_
 refine aA [0] d1 TI (A13 aB aC @bT @bV @bU @bW @aX @aU aQ aG aW gM cR) (A13 aH aI @hH @iC @hU @iD @bS @bP bC aR bK jU eZ) ?_
 refine goG jQ TI ?_
 refine wG jQ TI ?_
 refine aA [0] d2 TI (A13 aB aC @bT @bV @bU @bW @aX @aU aQ aG aW gM cR) (A13 aH aI @hH @iC @hU @iD @bS @bP bC aR bK jU eZ) ?_
 refine goG jQ TI ?_
 refine wG jQ TI ?_
 refine aA [0] d3 TI (A13 aB aC @bT @bV @bU @bW @aX @aU aQ aG aW gM cR) (A13 aH aI @hH @iC @hU @iD @bS @bP bC aR bK jU eZ) ?_
 refine goG jQ TI ?_
 refine wG jQ TI ?_
 refine aA [0] d4 TI (A13 aB aC @bT @bV @bU @bW @aX @aU aQ aG aW gM cR) (A13 aH aI @hH @iC @hU @iD @bS @bP bC aR bK jU eZ) ?_
 refine goG jQ BN07 ?_
 refine wG jQ BN07 ?_
 refine aA [0] d5 TI (A13 aB aC @bT @bV @bU @bW @aX @aU aQ aG aW gM cR) (A13 aH aI @hH @iC @hU @iD @bS @bP bC aR bK jU eZ) ?_
 refine goG jQ BN07 ?_
 refine wG jQ BN07 ?_
 refine aO (rs:=[.cell 2 96]) rfl (by first|exact .inl rfl|exact .inr rfl) (finG jQ) ?_ rfl (idG (A13 aB aC @bT @bV @bU @bW @aX @aU aQ aG aW gM cR))
 rw[xR]
 all_goals exact wkG (A13 aB aC @bT @bV @bU @bW @aX @aU aQ aG aW gM cR)
inductive LpV (ts:List Tk):List Va→Sr→List Va→Sr→Prop where
 | stop {l:List Va} {s:Sr} (h:isR ts s.a s.e [118,97,114]=false):LpV ts l s l s
 | step {l l':List Va} {a a1:Nat} {o o1 e1:Int} {x:Va} {s':Sr} (hl:l.length≤4194304) (hs:sees ts a [118,97,114]=true)
   (d:DC Tryz.prog 113 [.pt 0 0] [rbx ts ⟨a,o,0⟩] (vaV x) [rbx ts ⟨a1,o1,e1⟩]) (r:LpV ts (l++[x]) ⟨a1,o1,e1⟩ l' s'):LpV ts l ⟨a,o,0⟩ l' s'
theorem KR{ts:List Tk}(hts:ts.length≤4194304)(hok: ∀t∈ts,TkOk t): ∀(f:Nat) (l:List Va) (s:Sr),Pre (vasM ts f l) s→(s.e=0→l.length≤s.a) →
  ∃l' s',LpV ts l s l' s'∧Post (vasM ts f l) s l' s'∧(s'.e=0→s'.o=s.o):=by
 intro f
 induction f with
 | zero =>
  intro l s hp hb
  by_cases he:s.e=0
  ·obtain⟨o,_,r,hr⟩:=hp he
   cases hr
  ·exact⟨l,s,.stop (tJ he),Post.of_err he rfl rfl,fun h=>absurd h he⟩
 | succ f ih =>
  intro l s hp hb
  by_cases he:s.e=0
  case neg=>exact⟨l,s,.stop (tJ he),Post.of_err he rfl rfl,fun h=>absurd h he⟩
  obtain⟨a,o',e⟩:=s;cases he
  obtain⟨o,ho,r,hr⟩:=hp rfl;have ho:o'=(o:Int):=ho;subst ho;have hb:=hb rfl;simp only at hb
  by_cases hs:sees ts a [118,97,114]=true
  case neg =>
   refine⟨l,⟨a,o,0⟩,.stop ?_,Post.of_ok (by rw[vasM,if_neg hs];rfl),fun _=>rfl⟩
   show isR ts a 0 _=false
   rw[gI,←Bool.not_eq_true];exact hs
  have hlt:=bX hs;have hM: ∀o,vasM ts (f+1) l a o=rb (varM ts f a o) fun v a o=>vasM ts f (l++[v]) a o:=fun o=>by rw[vasM,if_pos hs]
  have hp2:Pre (fun a o=>rb (varM ts f a o) fun v a o=>vasM ts f (l++[v]) a o) ⟨a,o,0⟩:=Pre.congr (fun _=>funext hM) hp
  obtain⟨x,⟨a1,o1,e1⟩,q,d⟩:=JF hts hok ⟨a,o,0⟩ hp2.fst
  have hk:e1=0→o1=(o:Int)∧a<a1:=fun h=>by
   obtain⟨_,o2,a2,p2,w1,w2,w3⟩:=q.ok h;have w2:varM ts f a o2=some (.ok x a2 p2):=w2;have:=lF w2;have w4:a1=a2:=congrArg Sr.a w3;have w5:o1=(p2:Int):=congrArg Sr.o w3;have w1:(o:Int)=o2:=w1;omega
  obtain⟨l',s',hL,hq,ho⟩:=ih (l++[x]) ⟨a1,o1,e1⟩ (hp2.snd q) (fun h=>by
   have:=hk h;rw[List.length_append];show l.length+1≤a1
   omega)
  refine⟨l',s',.step (by omega) hs d hL,Post.congr (fun _=>funext hM) (q.bind hq),fun h=> ?_⟩
  rw[ho h];exact(hk (hq.ok h).1).1
def gS:=A14 @oF @mE @sN @qC @qB @uU @mC @rG @uR @Ap @mB @kB @oA @kQ
set_option maxHeartbeats 4000000 in
theorem JT{ts:List Tk}{f:Nat}(hts:ts.length≤4194304)(hok: ∀t∈ts,TkOk t)(hW: ∀t∈ts,TkW t)(s:Sr)(hp:Pre (funM ts f) s): ∃x s',Post (funM ts f) s x s'∧DC Tryz.prog 66 [.pt 0 0] [rbx ts s] (fnV x) [rbx ts s']:=by
 unfold funM at hp ⊢
 obtain⟨⟨a1,o1,e1⟩,q1,b1,d1⟩:=iL ts hts s [102,117,110,99] hp.fst
 have p1:=hp.snd q1
 obtain⟨n,⟨a2,o2,e2⟩,q2,b2,d2⟩:=rU ts hts ⟨a1,o1,e1⟩ p1.fst
 have p2:=p1.snd q2
 obtain⟨⟨a3,o3,e3⟩,q3,b3,d3⟩:=kY ts hts ⟨a2,o2,e2⟩ [123] p2.fst
 have p3:=p2.snd q3
 obtain⟨l,⟨a4,o4,e4⟩,hV,q4,b4⟩:=KR hts hok f [] ⟨a3,o3,e3⟩ p3.fst (fun _=>Nat.zero_le _)
 have p4:=p3.snd q4
 obtain⟨b,⟨a5,o5,e5⟩,hL,q5,b5⟩:=GJ hts f (fun g _=>MA hts hok hW g) [] ⟨a4,o4,e4⟩ p4.fst (fun _=>Nat.zero_le _)
 have he1:e5=0→e4=0:=fun h=>by
  rcases q5 with q|⟨h0,_⟩
  ·exact(q.ok h).1
  ·exact h0
 have hb2:e5=0→1≤o5∧o5≤256:=fun h=>by
  have h5:=b5 h;have h4:=b4 (he1 h);have h3:=(b3 (q4.ok (he1 h)).1).2;simp only at h3 h4 h5;omega
 have hpe:Pre (endM ts [125]) ⟨a5,o5,e5⟩:=fun h=>by
  have:=hb2 h;exact⟨o5.toNat,by show o5=_;omega,_,rfl⟩
 obtain⟨⟨a6,o6,e6⟩,q6,b6,d6⟩:=rW ts hts ⟨a5,o5,e5⟩ [125] hb2 hpe
 refine⟨⟨n,l,b⟩,⟨a6,o6,e6⟩,q1.bind (q2.bind (q3.bind (q4.bind (Qm (g:=fun l'=>Fun.mk n l (l'.headD [])) q5 (fun h=>(hpe h).imp fun _ h=>h.1) q6)))),?_⟩
 have d5:=Ic hts hL
 obtain⟨a,o,e⟩:=s
 clear q1 q2 q3 q4 q5 q6 p1 p2 p3 p4 hp hL b1 b2 b3 b4 b5 b6 hb2 hpe he1
 simp only[rbx]at d1 d2 d3 d5 d6 ⊢
 refine DC.enter 26 Tryz.func66 rfl (by decide) rfl rfl (s:=[(0,.pt 0 0)]) (by rfl) ?_
 refine wG gS TI ?_
 refine aA [0] d1 TI (A13 aB aC @bT @bV @bU @bW @aX @aU aQ aG aW gM cR) (A13 aH aI @hH @iC @hU @iD @bS @bP bC aR bK jU eZ) ?_
 refine goG gS TI ?_
 refine wG gS TI ?_
 refine aA [0] d2 TI (A13 aB aC @bT @bV @bU @bW @aX @aU aQ aG aW gM cR) (A13 aH aI @hH @iC @hU @iD @bS @bP bC aR bK jU eZ) ?_
 refine goG gS TI ?_
 refine wG gS TI ?_
 refine aA [0] d3 TI (A13 aB aC @bT @bV @bU @bW @aX @aU aQ aG aW gM cR) (A13 aH aI @hH @iC @hU @iD @bS @bP bC aR bK jU eZ) ?_
 refine goG gS TI ?_
 refine wG gS TI ?_
 clear d1 d2 d3
 refine bH ?_
 refine cD ?_
 refine AWp.ghostB 2 1 [.im (.string n),.sl [] .nl,.sl [] .nl] 96 6 ?_
 suffices H: ∀(v:List Va) (s:Sr),LpV ts v s l ⟨a4,o4,e4⟩→AWpK _ _ _ _ _ ⟨dn 26 [(0,.pt 0 0),(2,.pt 1 0),(3,.pt 2 0)],ofl [.box [.sl (ts.map tkV) .ro,(.im (.int .i64 (((s).a:Nat)))),(.im (.int .i64 ((s).o))),(.im (.int .i64 ((s).e)))],.box [.im (.string ByteArray.empty),.sl [] .nl,.sl [] .nl],.box [.im (.string n),.sl ((v).map vaV) (.mine 3),.sl [] .nl],.tip 96 6 (v).length]⟩ by
  refine AWp.cutP 4 [(0,.pt 0 0),(2,.pt 1 0),(3,.pt 2 0)] [.box [.sl (ts.map tkV) .ro,(.im (.int .i64 ((a3:Nat)))),(.im (.int .i64 (o3))),(.im (.int .i64 (e3)))],.box [.im (.string ByteArray.empty),.sl [] .nl,.sl [] .nl],.box [.im (.string n),.sl ((([]:List Va)).map vaV) (.mine 3),.sl [] .nl],.tip 96 6 (([]:List Va)).length] (A13 aB aC @bT @bV @bU @bW @aX @aU aQ aG aW gM cR) ?_;exact H [] ⟨a3,o3,e3⟩ hV
 clear hV
 intro v s hV
 generalize hs4:(⟨a4,o4,e4⟩:Sr)=s4 at hV
 induction hV with
 | @stop v s h =>
  subst hs4;have hs:=oR ts a4 o4 e4 [118,97,114];simp only at h;rw[h]at hs;simp only;refine wG gS TI ?_;refine aA [0] hs TI (A13 aB aC @bT @bV @bU @bW @aX @aU aQ aG aW gM cR) (A13 aH aI @hH @iC @hU @iD @bS @bP bC aR bK jU eZ) ?_;refine goG gS TI ?_;refine wG gS TI ?_;refine aA [0] d5 TI (A13 aB aC @bT @bV @bU @bW @aX @aU aQ aG aW gM cR) (A13 aH aI @hH @iC @hU @iD @bS @bP bC aR bK jU eZ) ?_;refine goG gS TI ?_;refine wG gS TI ?_;refine aA [0] d6 TI (A13 aB aC @bT @bV @bU @bW @aX @aU aQ aG aW gM cR) (A13 aH aI @hH @iC @hU @iD @bS @bP bC aR bK jU eZ) ?_;refine goG gS TI ?_;refine wG gS TI ?_;refine aO (rs:=[.cell 2 37]) rfl (by first|exact .inl rfl|exact .inr rfl) (finG gS) ?_ rfl (idG (A13 aB aC @bT @bV @bU @bW @aX @aU aQ aG aW gM cR))
  rw[qG]
  all_goals exact wkG (A13 aB aC @bT @bV @bU @bW @aX @aU aQ aG aW gM cR)
 | @step v v' a a1 o o1 e1 x s' hl hs d r ih =>
  have hi:=oR ts a o 0 [118,97,114];rw[gI,hs]at hi;obtain⟨B,hB⟩: ∃B,B=v++[x]:=⟨_,rfl⟩
  have hAs:v.map vaV++[vaV x]=B.map vaV:=by rw[hB,List.map_append];rfl
  have hAl:v.length+1=B.length:=by rw[hB];simp
  have hbl:B.length*88≤140737488355328:=by omega
  have ih:=ih hs4;rw[←hB]at ih;simp only[rbx]at d ih ⊢;refine wG gS TI ?_;refine aA [0] hi TI (A13 aB aC @bT @bV @bU @bW @aX @aU aQ aG aW gM cR) (A13 aH aI @hH @iC @hU @iD @bS @bP bC aR bK jU eZ) ?_;refine goG gS TI ?_;refine wdG gS TI ?_;refine aA [0] d TI (A13 aB aC @bT @bV @bU @bW @aX @aU aQ aG aW gM cR) (A13 aH aI @hH @iC @hU @iD @bS @bP bC aR bK jU eZ) ?_;refine goG gS (A6 VA hAs hAl hbl xQ @List.length_map.{0,0}) ?_;refine wdG gS (A6 VA hAs hAl hbl xQ @List.length_map.{0,0}) ?_;refine cD ?_;refine AWp.cutP 4 [(0,.pt 0 0),(2,.pt 1 0),(3,.pt 2 0)] [.box [.sl (ts.map tkV) .ro,(.im (.int .i64 ((a1:Nat)))),(.im (.int .i64 (o1))),(.im (.int .i64 (e1)))],.box [.im (.string ByteArray.empty),.sl [] .nl,.sl [] .nl],.box [.im (.string n),.sl ((B).map vaV) (.mine 3),.sl [] .nl],.tip 96 6 (B).length] (A13 aB aC @bT @bV @bU @bW @aX @aU aQ aG aW gM cR) ?_;exact ih
def lastS(ts:List Tk)(s:Sr):Sr:=⟨s.a,s.o,if s.a<ts.length∧s.e=0 then 3 else s.e⟩
theorem lastPost{α:Type}{ts:List Tk}{x:α}{s:Sr}(hp:s.e=0→ ∃o:Nat,s.o=o):Post (fun a o=>if a<ts.length then some (.bad a 3)else ret x a o) s x (lastS ts s):=by
 obtain⟨a,o,e⟩:=s
 unfold lastS
 by_cases he:e=0
 case neg=>exact Post.of_err he rfl (by show(if _ then _ else _)=e;rw[if_neg (fun h=>he h.2)])
 subst he
 obtain⟨p,hpp⟩:=hp rfl
 have hpp:o=(p:Int):=hpp
 subst hpp
 by_cases hlt:a<ts.length
 ·simp only[hlt,true_and,if_true]
  exact Post.of_bad (by rw[if_pos hlt]) (by decide)
 ·simp only[hlt,false_and,if_false]
  exact Post.of_ok (by rw[if_neg hlt];rfl)
def uK:=A8 @nJ @cQ @mD @kI @gX @nH @kG @cN
theorem Rj(ts:List Tk)(s:Sr):DC Tryz.prog 62 [.pt 0 0] [rbx ts s] (.tu []) [rbx ts (lastS ts s)]:=by
 obtain⟨a,o,e⟩:=s
 have hf:=rV ts a o e
 by_cases hlt:a<ts.length
 ·have hn:(a:Int)<(ts.length:Int):=by omega
  simp only[rbx,lastS,hlt,true_and];refine DC.enter 14 Tryz.func62 rfl (by decide) rfl rfl (s:=[(0,.pt 0 0)]) (by rfl) ?_
  refine wdG uK (AI hn @List.length_map.{0,0}) ?_;refine aA [0] hf TI (A13 aB aC @bT @bV @bU @bW @aX @aU aQ aG aW gM cR) (A13 aH aI @hH @iC @hU @iD @bS @bP bC aR bK jU eZ) ?_;refine goG uK TI ?_;refine wG uK TI ?_;refine aO (rs:=[]) rfl (by first|exact .inl rfl|exact .inr rfl) (finG uK) ?_ rfl (idG (A13 aB aC @bT @bV @bU @bW @aX @aU aQ aG aW gM cR))
  skip
  all_goals exact wkG (A13 aB aC @bT @bV @bU @bW @aX @aU aQ aG aW gM cR)
 ·have hn: ¬(a:Int)<(ts.length:Int):=by omega
  simp only[rbx,lastS,hlt,false_and,if_false];refine DC.enter 14 Tryz.func62 rfl (by decide) rfl rfl (s:=[(0,.pt 0 0)]) (by rfl) ?_
  refine wdG uK (AI hn @List.length_map.{0,0}) ?_;refine aO (rs:=[]) rfl (by first|exact .inl rfl|exact .inr rfl) (finG uK) ?_ rfl (idG (A13 aB aC @bT @bV @bU @bW @aX @aU aQ aG aW gM cR))
  skip
  all_goals exact wkG (A13 aB aC @bT @bV @bU @bW @aX @aU aQ aG aW gM cR)
inductive LpU (ts:List Tk):Un→Sr→Un→Sr→Prop where
 | stop {u:Un} {s:Sr} (h:s.e≠0∨ts.length≤s.a):LpU ts u s u s
 | var {g:List Va} {dl:List Sec} {fl:List Fun} {u':Un} {a a1:Nat} {o o1 e1:Int} {x:Va} {s':Sr} (hl:g.length≤4194304) (hlt:a<ts.length) (hs:sees ts a [118,97,114]=true)
   (d:DC Tryz.prog 113 [.pt 0 0] [rbx ts ⟨a,o,0⟩] (vaV x) [rbx ts ⟨a1,o1,e1⟩]) (r:LpU ts ⟨g++[x],dl,fl⟩ ⟨a1,o1,e1⟩ u' s'):LpU ts ⟨g,dl,fl⟩ ⟨a,o,0⟩ u' s'
 | dat {g:List Va} {dl:List Sec} {fl:List Fun} {u':Un} {a a1:Nat} {o o1 e1:Int} {x:Sec} {s':Sr} (hl:dl.length≤4194304) (hlt:a<ts.length) (hn:sees ts a [118,97,114]=false) (hs:sees ts a [100,97,116,97]=true)
   (d:DC Tryz.prog 114 [.pt 0 0] [rbx ts ⟨a,o,0⟩] (scV x) [rbx ts ⟨a1,o1,e1⟩]) (r:LpU ts ⟨g,dl++[x],fl⟩ ⟨a1,o1,e1⟩ u' s'):LpU ts ⟨g,dl,fl⟩ ⟨a,o,0⟩ u' s'
 | fn {g:List Va} {dl:List Sec} {fl:List Fun} {u':Un} {a a1:Nat} {o o1 e1:Int} {x:Fun} {s':Sr} (hl:fl.length≤4194304) (hlt:a<ts.length) (hn:sees ts a [118,97,114]=false) (hn2:sees ts a [100,97,116,97]=false)
   (d:DC Tryz.prog 66 [.pt 0 0] [rbx ts ⟨a,o,0⟩] (fnV x) [rbx ts ⟨a1,o1,e1⟩]) (r:LpU ts ⟨g,dl,fl++[x]⟩ ⟨a1,o1,e1⟩ u' s'):LpU ts ⟨g,dl,fl⟩ ⟨a,o,0⟩ u' s'
end Go.Proofs.YtmbmmckagcdapaaGreatDoor
