import Derived.Test.YtmbmmckagcdapaaGreatDoorU10
import Derived.Test.YtmbmmckagcdapaaGreatDoorU13
import Derived.Test.YtmbmmckagcdapaaGreatDoorU11
import Derived.Test.YtmbmmckagcdapaaGreatDoorU24
set_option linter.all false
namespace Go.Proofs.YtmbmmckagcdapaaGreatDoor
open Go.RowKit
def stB(s:Nd)(ne:Int)(a b c d:Bool)(pw:Int):Bool:=(if a then nameT s.name else eqS s.name ByteArray.empty)&&decide (s.width=pw)&&decide ((s.e.length:Int)=ne)&&(b||decide (s.l.length=0))&&(c||decide (s.el.length=0))&&(d||decide (s.cs.length=0))&&s.e.all efm
theorem Og{b:Bool}(h: ¬b=true):b=false:=by cases b<;>simp_all
theorem tC{b c:Bool}(h:b=true↔c=true):b=c:=by cases b<;>cases c<;>simp_all
theorem eE(n:ByteArray):eqS n ByteArray.empty=decide (n.toList=[]):=by
 unfold eqS
 rw[show ByteArray.empty.toList=[]from by rw[ByteArray.toList_eq];rfl]
 cases n.toList<;>rfl
structure Frm (s:Nd)where
 ne:Int
 a:Bool
 b:Bool
 c:Bool
 d:Bool
 pw:Int
 h:stT s=stB s ne a b c d pw
def It:=AI @eO @dG
theorem EM{x:Ex}{r:Bool}(h:PC Tryz.prog 74 [exV x] (.im (.bool (r)))):PC Tryz.prog 166 [exV x] (.im (.bool (!r))):=by
 refine PC.enter 6 Tryz.func166 rfl (by decide) rfl rfl (s:=[(0,exV x)]) (by rfl) ?_
 rw[cA x]at h ⊢
 refine wG It TI ?_
 refine AR.callP h TI (A5 aQ aG aN aV @aD) ?_
 refine goG It TI ?_
 refine wG It TI ?_
 exact aM
def cY:=A16 @rJ @cQ @mE @kD @eF @hG @nI @uT @fM @kH @Dm @mR @lN @pE @pD (A8 @pC @rE @gH @cN @kB @kA @dG @dR)
set_option maxHeartbeats 4000000 in
theorem Mg(s:Nd)(hf:fitN s):PC Tryz.prog 103 [ndV s] (.im (.bool (stT s))):=by
 obtain⟨hI,hsz,⟨he1,he2⟩,h4,h5,h6,h7⟩:=mZ hf
 have hn:=Cv s.name hsz
 have hE:=rX (gs:=s.e) (F:=166) (fun x=> !efm x) he1 (fun t ht=>EM (Uv t (he2 t ht)))
 rw[←List.not_all_eq_any_not]at hE
 refine PC.enter 123 Tryz.func103 rfl (by decide) rfl rfl (s:=[(0,ndV s)]) (by rfl) ?_
 rw[fN]
 obtain⟨k,w,n,e,l,el,cs⟩:=s
 simp only[Nd.kind,Nd.width,Nd.name,Nd.e,Nd.l,Nd.el,Nd.cs]at *
 refine wnG cY TI ?_
 refine AWp.tail (ι:=Frm (.mk k w n e l el cs)) (fun i=>⟨dn 123 [(1,.pt 0 0),(2,(.im (.bool (false)))),(3,.pt 1 0),(4,(.im (.int .i64 (i.ne)))),(5,(.im (.bool (i.a)))),(6,(.im (.bool (i.b)))),(7,(.im (.bool (i.c)))),(8,(.im (.bool (i.d))))],ofl [.box [.im (.int .i64 (k)),.im (.int .i64 w),.im (.string n),.sl (e.map exV) .ro,.sl (l.map ndV) .ro,.sl (el.map ndV) .ro,.sl (cs.map nlV) .ro],.box [.im (.int .i64 0),.im (.int .i64 i.pw),.im (.string ByteArray.empty),.sl [] .nl,.sl [] .nl,.sl [] .nl,.sl [] .nl]]⟩) (fun i=> ?_) (fun rest ht=> ?_)
 ·obtain⟨ne,a,b,c,d,pw,hi⟩:=i
  dsimp only;rw[hi];clear hi;cases a
  case' true =>
   refine wG cY TI ?_;refine AR.callP hn TI (A5 aQ aG aN aV @aD) ?_;refine goG cY TI ?_;refine wG cY TI ?_
  case' false =>
   refine wG cY TI ?_
  case true =>
   refine iK rfl rfl (fun hE1=> ?_) (fun hE1=> ?_)
   ·have hr:stB (.mk k w n e l el cs) ne true b c d pw=false:=Og (by simp only[stB,eE,Nd.kind,Nd.width,Nd.name,Nd.e,Nd.l,Nd.el,Nd.cs];simp at hE1 ⊢;grind)
    rw[hr];refine wG cY TI ?_;exact aM
   refine wG cY TI ?_;refine iK rfl rfl (fun hE2=> ?_) (fun hE2=> ?_)
   ·have hr:stB (.mk k w n e l el cs) ne true b c d pw=false:=Og (by simp only[stB,eE,Nd.kind,Nd.width,Nd.name,Nd.e,Nd.l,Nd.el,Nd.cs];simp at hE2 ⊢;grind)
    rw[hr];refine wG cY TI ?_;exact aM
   refine wG cY TI ?_;refine AR.callP hE TI (A5 aQ aG aN aV @aD) ?_;refine goG cY TI ?_;refine wG cY TI ?_;have hr:stB (.mk k w n e l el cs) ne true b c d pw=e.all efm:=tC (by simp only[stB,eE,Nd.kind,Nd.width,Nd.name,Nd.e,Nd.l,Nd.el,Nd.cs];simp at hE1 hE2 ⊢;grind)
   rw[hr];exact aM
  case false =>
   refine iK rfl rfl (fun hE1=> ?_) (fun hE1=> ?_)
   ·have hr:stB (.mk k w n e l el cs) ne false b c d pw=false:=Og (by simp only[stB,eE,Nd.kind,Nd.width,Nd.name,Nd.e,Nd.l,Nd.el,Nd.cs];simp at hE1 ⊢;grind)
    rw[hr];refine wG cY TI ?_;exact aM
   refine wG cY TI ?_;refine iK rfl rfl (fun hE2=> ?_) (fun hE2=> ?_)
   ·have hr:stB (.mk k w n e l el cs) ne false b c d pw=false:=Og (by simp only[stB,eE,Nd.kind,Nd.width,Nd.name,Nd.e,Nd.l,Nd.el,Nd.cs];simp at hE2 ⊢;grind)
    rw[hr];refine wG cY TI ?_;exact aM
   refine wG cY TI ?_;refine AR.callP hE TI (A5 aQ aG aN aV @aD) ?_;refine goG cY TI ?_;refine wG cY TI ?_;have hr:stB (.mk k w n e l el cs) ne false b c d pw=e.all efm:=tC (by simp only[stB,eE,Nd.kind,Nd.width,Nd.name,Nd.e,Nd.l,Nd.el,Nd.cs];simp at hE1 hE2 ⊢;grind)
   rw[hr];exact aM
 clear hE hn
 by_cases k1:k=1
 ·subst k1
  refine wG cY TI ?_;refine AWp.cutP 2 [(1,.pt 0 0),(2,(.im (.bool (false)))),(3,.pt 1 0),(4,(.im (.int .i64 (1)))),(5,(.im (.bool (true)))),(6,(.im (.bool (false)))),(7,(.im (.bool (false)))),(8,(.im (.bool (false))))] [.box [.im (.int .i64 (1)),.im (.int .i64 w),.im (.string n),.sl (e.map exV) .ro,.sl (l.map ndV) .ro,.sl (el.map ndV) .ro,.sl (cs.map nlV) .ro],.box [.im (.int .i64 0),.im (.int .i64 0),.im (.string ByteArray.empty),.sl [] .nl,.sl [] .nl,.sl [] .nl,.sl [] .nl]] (A3 aD aG aN) ?_;exact ht ⟨1,true,false,false,false,0,tC (by simp only[stB,stT,eE,nE,nmd,lst,Nd.kind,Nd.width,Nd.name,Nd.e,Nd.l,Nd.el,Nd.cs];simp;grind)⟩
 by_cases k2:k=2
 ·subst k2
  refine wG cY TI ?_;refine iK rfl rfl (fun hE0=> ?_) (fun hE0=> ?_)
  ·rw[show stT (.mk 2 w n e l el cs)=false from Og (by simp only[stT,nE,nmd,lst,Nd.kind,Nd.width,Nd.name,Nd.e,Nd.l,Nd.el,Nd.cs];simp at hE0 ⊢;grind)]
   refine wG cY TI ?_;exact aM
  refine wG cY TI ?_;refine AWp.cutP 2 [(1,.pt 0 0),(2,(.im (.bool (false)))),(3,.pt 1 0),(4,(.im (.int .i64 (2)))),(5,(.im (.bool (false)))),(6,(.im (.bool (false)))),(7,(.im (.bool (false)))),(8,(.im (.bool (false))))] [.box [.im (.int .i64 (2)),.im (.int .i64 w),.im (.string n),.sl (e.map exV) .ro,.sl (l.map ndV) .ro,.sl (el.map ndV) .ro,.sl (cs.map nlV) .ro],.box [.im (.int .i64 0),.im (.int .i64 w),.im (.string ByteArray.empty),.sl [] .nl,.sl [] .nl,.sl [] .nl,.sl [] .nl]] (A3 aD aG aN) ?_;exact ht ⟨2,false,false,false,false,w,tC (by simp only[stB,stT,eE,nE,nmd,lst,Nd.kind,Nd.width,Nd.name,Nd.e,Nd.l,Nd.el,Nd.cs];simp at hE0 ⊢;grind)⟩
 by_cases k3:k=3
 ·subst k3
  refine wG cY TI ?_;refine AWp.cutP 2 [(1,.pt 0 0),(2,(.im (.bool (false)))),(3,.pt 1 0),(4,(.im (.int .i64 (0)))),(5,(.im (.bool (true)))),(6,(.im (.bool (false)))),(7,(.im (.bool (false)))),(8,(.im (.bool (false))))] [.box [.im (.int .i64 (3)),.im (.int .i64 w),.im (.string n),.sl (e.map exV) .ro,.sl (l.map ndV) .ro,.sl (el.map ndV) .ro,.sl (cs.map nlV) .ro],.box [.im (.int .i64 0),.im (.int .i64 0),.im (.string ByteArray.empty),.sl [] .nl,.sl [] .nl,.sl [] .nl,.sl [] .nl]] (A3 aD aG aN) ?_;exact ht ⟨0,true,false,false,false,0,tC (by simp only[stB,stT,eE,nE,nmd,lst,Nd.kind,Nd.width,Nd.name,Nd.e,Nd.l,Nd.el,Nd.cs];simp;grind)⟩
 by_cases k4:k=4
 ·subst k4
  refine wG cY TI ?_;refine AWp.cutP 2 [(1,.pt 0 0),(2,(.im (.bool (false)))),(3,.pt 1 0),(4,(.im (.int .i64 (1)))),(5,(.im (.bool (false)))),(6,(.im (.bool (false)))),(7,(.im (.bool (false)))),(8,(.im (.bool (false))))] [.box [.im (.int .i64 (4)),.im (.int .i64 w),.im (.string n),.sl (e.map exV) .ro,.sl (l.map ndV) .ro,.sl (el.map ndV) .ro,.sl (cs.map nlV) .ro],.box [.im (.int .i64 0),.im (.int .i64 0),.im (.string ByteArray.empty),.sl [] .nl,.sl [] .nl,.sl [] .nl,.sl [] .nl]] (A3 aD aG aN) ?_;exact ht ⟨1,false,false,false,false,0,tC (by simp only[stB,stT,eE,nE,nmd,lst,Nd.kind,Nd.width,Nd.name,Nd.e,Nd.l,Nd.el,Nd.cs];simp;grind)⟩
 by_cases k5:k=5
 ·subst k5
  refine wG cY TI ?_;refine AWp.cutP 2 [(1,.pt 0 0),(2,(.im (.bool (false)))),(3,.pt 1 0),(4,(.im (.int .i64 (0)))),(5,(.im (.bool (true)))),(6,(.im (.bool (false)))),(7,(.im (.bool (false)))),(8,(.im (.bool (false))))] [.box [.im (.int .i64 (5)),.im (.int .i64 w),.im (.string n),.sl (e.map exV) .ro,.sl (l.map ndV) .ro,.sl (el.map ndV) .ro,.sl (cs.map nlV) .ro],.box [.im (.int .i64 0),.im (.int .i64 0),.im (.string ByteArray.empty),.sl [] .nl,.sl [] .nl,.sl [] .nl,.sl [] .nl]] (A3 aD aG aN) ?_;exact ht ⟨0,true,false,false,false,0,tC (by simp only[stB,stT,eE,nE,nmd,lst,Nd.kind,Nd.width,Nd.name,Nd.e,Nd.l,Nd.el,Nd.cs];simp;grind)⟩
 by_cases k6:k=6
 ·subst k6
  refine wG cY TI ?_;refine AWp.cutP 2 [(1,.pt 0 0),(2,(.im (.bool (false)))),(3,.pt 1 0),(4,(.im (.int .i64 (1)))),(5,(.im (.bool (false)))),(6,(.im (.bool (true)))),(7,(.im (.bool (true)))),(8,(.im (.bool (false))))] [.box [.im (.int .i64 (6)),.im (.int .i64 w),.im (.string n),.sl (e.map exV) .ro,.sl (l.map ndV) .ro,.sl (el.map ndV) .ro,.sl (cs.map nlV) .ro],.box [.im (.int .i64 0),.im (.int .i64 0),.im (.string ByteArray.empty),.sl [] .nl,.sl [] .nl,.sl [] .nl,.sl [] .nl]] (A3 aD aG aN) ?_;exact ht ⟨1,false,true,true,false,0,tC (by simp only[stB,stT,eE,nE,nmd,lst,Nd.kind,Nd.width,Nd.name,Nd.e,Nd.l,Nd.el,Nd.cs];simp;grind)⟩
 by_cases k7:k=7
 ·subst k7
  refine wG cY TI ?_;refine AWp.cutP 2 [(1,.pt 0 0),(2,(.im (.bool (false)))),(3,.pt 1 0),(4,(.im (.int .i64 (1)))),(5,(.im (.bool (false)))),(6,(.im (.bool (true)))),(7,(.im (.bool (false)))),(8,(.im (.bool (false))))] [.box [.im (.int .i64 (7)),.im (.int .i64 w),.im (.string n),.sl (e.map exV) .ro,.sl (l.map ndV) .ro,.sl (el.map ndV) .ro,.sl (cs.map nlV) .ro],.box [.im (.int .i64 0),.im (.int .i64 0),.im (.string ByteArray.empty),.sl [] .nl,.sl [] .nl,.sl [] .nl,.sl [] .nl]] (A3 aD aG aN) ?_;exact ht ⟨1,false,true,false,false,0,tC (by simp only[stB,stT,eE,nE,nmd,lst,Nd.kind,Nd.width,Nd.name,Nd.e,Nd.l,Nd.el,Nd.cs];simp;grind)⟩
 by_cases k8:k=8
 ·subst k8
  refine wG cY TI ?_;refine AWp.cutP 2 [(1,.pt 0 0),(2,(.im (.bool (false)))),(3,.pt 1 0),(4,(.im (.int .i64 (0)))),(5,(.im (.bool (false)))),(6,(.im (.bool (true)))),(7,(.im (.bool (false)))),(8,(.im (.bool (false))))] [.box [.im (.int .i64 (8)),.im (.int .i64 w),.im (.string n),.sl (e.map exV) .ro,.sl (l.map ndV) .ro,.sl (el.map ndV) .ro,.sl (cs.map nlV) .ro],.box [.im (.int .i64 0),.im (.int .i64 0),.im (.string ByteArray.empty),.sl [] .nl,.sl [] .nl,.sl [] .nl,.sl [] .nl]] (A3 aD aG aN) ?_;exact ht ⟨0,false,true,false,false,0,tC (by simp only[stB,stT,eE,nE,nmd,lst,Nd.kind,Nd.width,Nd.name,Nd.e,Nd.l,Nd.el,Nd.cs];simp;grind)⟩
 by_cases k9:k=9
 ·subst k9
  refine wG cY TI ?_;refine iK rfl rfl (fun hE0=> ?_) (fun hE0=> ?_)
  ·rw[show stT (.mk 9 w n e l el cs)=false from Og (by simp only[stT,nE,nmd,lst,Nd.kind,Nd.width,Nd.name,Nd.e,Nd.l,Nd.el,Nd.cs];simp at hE0 ⊢;grind)]
   refine wG cY TI ?_;exact aM
  refine wG cY TI ?_;refine AWp.cutP 2 [(1,.pt 0 0),(2,(.im (.bool (false)))),(3,.pt 1 0),(4,(.im (.int .i64 (1)))),(5,(.im (.bool (false)))),(6,(.im (.bool (false)))),(7,(.im (.bool (false)))),(8,(.im (.bool (true))))] [.box [.im (.int .i64 (9)),.im (.int .i64 w),.im (.string n),.sl (e.map exV) .ro,.sl (l.map ndV) .ro,.sl (el.map ndV) .ro,.sl (cs.map nlV) .ro],.box [.im (.int .i64 0),.im (.int .i64 0),.im (.string ByteArray.empty),.sl [] .nl,.sl [] .nl,.sl [] .nl,.sl [] .nl]] (A3 aD aG aN) ?_;exact ht ⟨1,false,false,false,true,0,tC (by simp only[stB,stT,eE,nE,nmd,lst,Nd.kind,Nd.width,Nd.name,Nd.e,Nd.l,Nd.el,Nd.cs];simp at hE0 ⊢;grind)⟩
 by_cases k10:k=10
 ·subst k10
  refine wG cY TI ?_;refine AWp.cutP 2 [(1,.pt 0 0),(2,(.im (.bool (false)))),(3,.pt 1 0),(4,(.im (.int .i64 (0)))),(5,(.im (.bool (false)))),(6,(.im (.bool (false)))),(7,(.im (.bool (false)))),(8,(.im (.bool (false))))] [.box [.im (.int .i64 (10)),.im (.int .i64 w),.im (.string n),.sl (e.map exV) .ro,.sl (l.map ndV) .ro,.sl (el.map ndV) .ro,.sl (cs.map nlV) .ro],.box [.im (.int .i64 0),.im (.int .i64 0),.im (.string ByteArray.empty),.sl [] .nl,.sl [] .nl,.sl [] .nl,.sl [] .nl]] (A3 aD aG aN) ?_;exact ht ⟨0,false,false,false,false,0,tC (by simp only[stB,stT,eE,nE,nmd,lst,Nd.kind,Nd.width,Nd.name,Nd.e,Nd.l,Nd.el,Nd.cs];simp;grind)⟩
 by_cases k11:k=11
 ·subst k11
  refine wG cY TI ?_;refine AWp.cutP 2 [(1,.pt 0 0),(2,(.im (.bool (false)))),(3,.pt 1 0),(4,(.im (.int .i64 (0)))),(5,(.im (.bool (false)))),(6,(.im (.bool (false)))),(7,(.im (.bool (false)))),(8,(.im (.bool (false))))] [.box [.im (.int .i64 (11)),.im (.int .i64 w),.im (.string n),.sl (e.map exV) .ro,.sl (l.map ndV) .ro,.sl (el.map ndV) .ro,.sl (cs.map nlV) .ro],.box [.im (.int .i64 0),.im (.int .i64 0),.im (.string ByteArray.empty),.sl [] .nl,.sl [] .nl,.sl [] .nl,.sl [] .nl]] (A3 aD aG aN) ?_;exact ht ⟨0,false,false,false,false,0,tC (by simp only[stB,stT,eE,nE,nmd,lst,Nd.kind,Nd.width,Nd.name,Nd.e,Nd.l,Nd.el,Nd.cs];simp;grind)⟩
 by_cases k12:k=12
 ·subst k12
  refine wG cY TI ?_;refine AWp.cutP 2 [(1,.pt 0 0),(2,(.im (.bool (false)))),(3,.pt 1 0),(4,(.im (.int .i64 (0)))),(5,(.im (.bool (true)))),(6,(.im (.bool (false)))),(7,(.im (.bool (false)))),(8,(.im (.bool (false))))] [.box [.im (.int .i64 (12)),.im (.int .i64 w),.im (.string n),.sl (e.map exV) .ro,.sl (l.map ndV) .ro,.sl (el.map ndV) .ro,.sl (cs.map nlV) .ro],.box [.im (.int .i64 0),.im (.int .i64 0),.im (.string ByteArray.empty),.sl [] .nl,.sl [] .nl,.sl [] .nl,.sl [] .nl]] (A3 aD aG aN) ?_;exact ht ⟨0,true,false,false,false,0,tC (by simp only[stB,stT,eE,nE,nmd,lst,Nd.kind,Nd.width,Nd.name,Nd.e,Nd.l,Nd.el,Nd.cs];simp;grind)⟩
 by_cases k13:k=13
 ·subst k13
  refine wG cY TI ?_;refine AWp.cutP 2 [(1,.pt 0 0),(2,(.im (.bool (false)))),(3,.pt 1 0),(4,(.im (.int .i64 (0)))),(5,(.im (.bool (true)))),(6,(.im (.bool (false)))),(7,(.im (.bool (false)))),(8,(.im (.bool (false))))] [.box [.im (.int .i64 (13)),.im (.int .i64 w),.im (.string n),.sl (e.map exV) .ro,.sl (l.map ndV) .ro,.sl (el.map ndV) .ro,.sl (cs.map nlV) .ro],.box [.im (.int .i64 0),.im (.int .i64 0),.im (.string ByteArray.empty),.sl [] .nl,.sl [] .nl,.sl [] .nl,.sl [] .nl]] (A3 aD aG aN) ?_;exact ht ⟨0,true,false,false,false,0,tC (by simp only[stB,stT,eE,nE,nmd,lst,Nd.kind,Nd.width,Nd.name,Nd.e,Nd.l,Nd.el,Nd.cs];simp;grind)⟩
 by_cases k14:k=14
 ·subst k14
  refine wG cY TI ?_;refine AWp.cutP 2 [(1,.pt 0 0),(2,(.im (.bool (false)))),(3,.pt 1 0),(4,(.im (.int .i64 (0)))),(5,(.im (.bool (false)))),(6,(.im (.bool (false)))),(7,(.im (.bool (false)))),(8,(.im (.bool (false))))] [.box [.im (.int .i64 (14)),.im (.int .i64 w),.im (.string n),.sl (e.map exV) .ro,.sl (l.map ndV) .ro,.sl (el.map ndV) .ro,.sl (cs.map nlV) .ro],.box [.im (.int .i64 0),.im (.int .i64 0),.im (.string ByteArray.empty),.sl [] .nl,.sl [] .nl,.sl [] .nl,.sl [] .nl]] (A3 aD aG aN) ?_;exact ht ⟨0,false,false,false,false,0,tC (by simp only[stB,stT,eE,nE,nmd,lst,Nd.kind,Nd.width,Nd.name,Nd.e,Nd.l,Nd.el,Nd.cs];simp;grind)⟩
 by_cases k15:k=15
 ·subst k15
  refine wG cY TI ?_;refine AWp.cutP 2 [(1,.pt 0 0),(2,(.im (.bool (false)))),(3,.pt 1 0),(4,(.im (.int .i64 (0)))),(5,(.im (.bool (false)))),(6,(.im (.bool (false)))),(7,(.im (.bool (false)))),(8,(.im (.bool (false))))] [.box [.im (.int .i64 (15)),.im (.int .i64 w),.im (.string n),.sl (e.map exV) .ro,.sl (l.map ndV) .ro,.sl (el.map ndV) .ro,.sl (cs.map nlV) .ro],.box [.im (.int .i64 0),.im (.int .i64 0),.im (.string ByteArray.empty),.sl [] .nl,.sl [] .nl,.sl [] .nl,.sl [] .nl]] (A3 aD aG aN) ?_;exact ht ⟨0,false,false,false,false,0,tC (by simp only[stB,stT,eE,nE,nmd,lst,Nd.kind,Nd.width,Nd.name,Nd.e,Nd.l,Nd.el,Nd.cs];simp;grind)⟩
 rw[show stT (.mk k w n e l el cs)=false from Og (fun h=>by simp only[stT,Bool.and_eq_true,decide_eq_true_eq]at h;have q:=h.1.1.1.1.1.1.1;simp only[Nd.kind]at q;omega)]
 refine wG cY (A15 k1 k2 k3 k4 k5 k6 k7 k8 k9 k10 k11 k12 k13 k14 k15) ?_
 exact aM
theorem PC.ghost{P:Program}{f:FuncId}{xs:List V}{e:TypeId}{z:Nat}(h:PC P f xs (.sl [] .nl)):DC P f xs [.free] (.sl [] (.own 0)) [.tip e z 0]:=by
 refine⟨h.1,fun C vs hst hC hl hR=> ?_⟩
 have hst':C.st=stF:=by
  rw[hst];funext i;unfold ofl stF;cases i with
  | zero=>rfl
  | succ i=>simp[List.getD]
 refine(h.2 C vs hst' hC hl hR).mono ?_
 rintro e' w' ⟨v,x,st',rfl,⟨rfl,rfl⟩,D,hw,hs,hD,hE,hR'⟩
 have hf:D.st 0= .free:=by rw[hs];rfl
 refine⟨v,_,_,rfl,⟨rfl,rfl⟩,D.ghost 0 e z 0,hw,?_,hD.ghost hf,hE.trans (Ev.ghost hf),R.ghost (.inr rfl) hf hR' (fun x hx=>by cases hx)⟩
 show upd D.st 0 (.tip e z 0)=_
 rw[hs]
 funext i
 cases i with
 | zero=>rfl
 | succ i=>simp[upd,stF,ofl,List.getD]
theorem ACalls.nz_ne{P:Program}{f:FuncId}{es:List V}{xs:List V}{st:Nat→Ent}{Q:V→(Nat→Ent)→Prop}(hf:yG P f=true)(h:0<es.length):ACalls P f (.sl es .nz::xs) st Q:=by
 refine⟨hf,fun C vs _ _ _ hR=> ?_⟩
 have h0:R C (.sl es .nz) (vs.getD 0 undef):=hR 0 (by simp)
 exfalso
 generalize vs.getD 0 undef=v at h0
 cases h0 with
 | sl _ _ _ _ hr hk =>
  obtain⟨ad,h1,_⟩:=hr 0 h;rw[h1]at hk;cases hk
theorem Gv(l:List Va):kV 6 (l.map vaV)=true:=by
 unfold kV
 rw[List.all_map]
 exact List.all_eq_true.2 fun x _=>rfl
def Iq:=A4 @qB @uU @mC @kQ
theorem MG{vs:List Va}(hv:vs.length≤4194304):DC Tryz.prog 87 [.sl (vs.map vaV) .ro] [.free] (.sl (vs.map vaV) (.own 0)) [.tip 96 6 vs.length]:=by
 have hA:vs.length*88≤140737488355328:=by omega
 refine ACalls.nil1 ?_ ?_
 ·rcases Nat.eq_zero_or_pos vs.length with h0|h0
  ·obtain rfl:=List.length_eq_zero_iff.1 h0
   refine PC.ghost ?_;refine PC.enter 8 Tryz.func87 rfl (by decide) rfl rfl (s:=[(0,.sl [] .nz)]) (by rfl) ?_
   refine wG Iq TI ?_;refine aJ (rs:=[.tmp 2]) rfl (by first|exact .inl rfl|exact .inr rfl) (finG Iq) ?_
   all_goals exact wkG (A4 @aD @aU @aE @aX)
  ·exact ACalls.nz_ne (by kernel_rfl) (by simpa using h0)
 ·refine Gt 1 8 Tryz.func87 rfl (by decide) rfl rfl (s:=[(0,.sl (vs.map vaV) .nn)]) (by rfl) ?_
  refine wG Iq (A4 hA Gv @List.length_map.{0,0} @Nat.zero_add) ?_;refine Mz 1 (rs:=[.tmp 2]) rfl (by first|exact .inl rfl|exact .inr rfl) (by simp only[Kn,Bo,↓mM,↓reduceIte,SA,SB,SC,SD,Iq,uV,fpsG,evO,evB,evA,tL,uW,eqF,eqC,mL,kF,slB,slK,gd,St.ev,gU,ofl,wrl,putE,V.ofVal,V.ofCell,bin2,un1,seg,mG,iA,Value.oneCell',Nat.reduceBEq,Nat.reduceLT,Nat.reduceSub,Nat.reduceAdd,Nat.reduceMul,Nat.reduceLeDiff,Nat.reduceEqDiff,reduceCtorEq,Int.reduceLT,Int.reduceLE,Int.reduceEq,Int.reduceNe,Int.reduceBEq,Int.reduceBNe,Int.reduceAdd,Int.reduceSub,Int.reduceMul,Int.reduceToNat];with_reducible exact rfl) ?_ rfl (by first|rfl|simp only[List.length_cons,List.length_nil,Nat.reduceAdd,V.ids,V.idsL,idsA,entOk,List.all_cons,List.all_nil,Bool.and_self,Bool.and_true,Bool.true_and,ltB,noId,Nat.reduceLT,decide_true,Bool.true_eq_false,bT,bV,bU,bW,aD,aU,aE,aX])
  repeat (first|exact WkF.of (Wk.refl _) (by first|rfl|simp only[List.length_cons,List.length_nil,Nat.reduceAdd,V.ids,V.idsL,idsA,entOk,List.all_cons,List.all_nil,Bool.and_self,Bool.and_true,Bool.true_and,ltB,noId,Nat.reduceLT,decide_true,Bool.true_eq_false,bT,bV,bU,bW,aD,aU,aE,aX])|exact WkF.of (Wk.ro _ _) (by first|rfl|simp only[List.length_cons,List.length_nil,Nat.reduceAdd,V.ids,V.idsL,idsA,entOk,List.all_cons,List.all_nil,Bool.and_self,Bool.and_true,Bool.true_and,ltB,noId,Nat.reduceLT,decide_true,Bool.true_eq_false,bT,bV,bU,bW,aD,aU,aE,aX])|refine Pn ?_|refine Po ?_|refine WkFL.cons ?_ ?_|exact WkFL.nil)
def vErr:List Va→List Va→Int
 | _,[]=>0
 | seen,v::r=>if !nameT v.name then 3 else if has seen v.name then 8 else if chk v.ty≠0 then chk v.ty else vErr (seen++[v]) r
theorem Sf{bs l:List Va}{m:Nat}(h:m<l.length):vErr (bs++l.take m) (l.drop m)=if !nameT l[m].name then 3 else if has (bs++l.take m) l[m].name then 8 else if chk l[m].ty≠0 then chk l[m].ty else vErr (bs++l.take (m+1)) (l.drop (m+1)):=by
 rw[List.drop_eq_getElem_cons h]
 rw[vErr,List.take_succ_eq_append_getElem h,List.append_assoc]
def Cm(l:List Va):Prop:= ∀v∈l,fit v.ty∧v.name.size≤9223372036854775807
def fR:=A11 @eF @jG @As @qB @uU @mC @zA @yZ @dR @jF @kQ
theorem wV(bs l:List Va)(hb:bs.length+l.length≤4194304)(hl:Cm l):PC Tryz.prog 41 [.sl (bs.map vaV) .ro,.sl (l.map vaV) .ro] (.im (.int .i64 (vErr bs l))):=by
 obtain⟨sn,hsn⟩: ∃sn:Nat→List Va,∀m,sn m=bs++l.take m:=⟨_,fun _=>rfl⟩
 have hs0:sn 0=bs:=by rw[hsn];simp
 have hsl: ∀m,(sn m).length≤bs.length+l.length:=fun m=>by rw[hsn,List.length_append,List.length_take];omega
 have hstep: ∀m (h:m<l.length),vErr (sn m) (l.drop m)=if !nameT l[m].name then 3 else if has (sn m) l[m].name then 8 else if chk l[m].ty≠0 then chk l[m].ty else vErr (sn (m+1)) (l.drop (m+1)):=fun m h=>by
  rw[hsn,hsn];exact Sf h
 have happ: ∀m (h:m<l.length),(sn m).map vaV++[vaV l[m]]=(sn (m+1)).map vaV:=fun m h=>by
  rw[hsn,hsn,List.map_append,List.map_append,List.append_assoc,Ep vaV h]
 have hlen: ∀m (h:m<l.length),(sn m).length+1=(sn (m+1)).length:=fun m h=>by
  rw[hsn,hsn,List.length_append,List.length_append,List.length_take,List.length_take];omega
 have hcl:=MG (vs:=sn 0) (by have:=hsl 0;omega)
 refine PC.enter 39 Tryz.func41 rfl (by decide) rfl rfl (s:=[(0,.sl (bs.map vaV) .ro),(1,.sl (l.map vaV) .ro)]) (by rfl) ?_
 refine wG fR TI ?_
 refine aA [0] hcl hs0 (A4 @aD @aU @aE @aX) (A4 @aK @aL @bS @bP) ?_
 refine goG fR TI ?_
 refine wG fR @List.length_map.{0,0} ?_
 refine bH ?_
 refine ALp.cutP 1 [(5,.sl ((sn (0)).map vaV) (.own 0)),(11,.sl (l.map vaV) .ro),(12,(.im (.int .i64 (l.length)))),(13,(.im (.int .i64 ((((0:Nat)):Int)))))] [.tip 96 6 (sn (0)).length] (A4 @aD @aU @aE @aX) ?_
 refine ALp.upto l.length (fun m=>vErr (sn m) (l.drop m)=vErr bs l) (fun m=>⟨dn 39 [(5,.sl ((sn (m)).map vaV) (.own 0)),(11,.sl (l.map vaV) .ro),(12,(.im (.int .i64 (l.length)))),(13,(.im (.int .i64 ((((m:Nat)):Int)))))],ofl [.tip 96 6 (sn (m)).length]⟩) ?_ 0 (Nat.zero_le _) (by rw[hs0,List.drop_zero])
 intro m hm hV hnext
 rw[←hV]
 by_cases hlt:m<l.length
 ·have hlt':(m:Int)<(l.length:Int):=by omega
  have hm1:=bD hlt (by omega)
  have hg:=cC hlt;obtain⟨hty,hnm⟩:=hl _ (List.getElem_mem hlt);have h1:=Cv l[m].name hnm;have h2:=Rp (sn m);have h3:=Cy (sn m) (by have:=hsl m;omega) l[m].name
  have h4:=FD l[m].ty hty;have ha:=happ m hlt;rw[xR]at ha;have hln:=hlen m hlt;have hA:(sn (m+1)).length*88≤140737488355328:=by have:=hsl (m+1);omega
  rw[hstep m hlt];rw[hstep m hlt]at hV;have hn2:=hnext (m+1) (by omega) (by omega)
  cases b1:nameT l[m].name with
  | false =>
   rw[b1]at h1;simp only[Bool.not_false,if_true];refine wG fR (A3 hlt' hg VA) ?_;refine AR.callP h1 TI (A4 @aD @aU @aE @aX) ?_;refine goG fR TI ?_;refine wG fR TI ?_;exact aM
  | true =>
   rw[b1]at h1 hV;simp only[Bool.not_true,Bool.false_eq_true,if_false]at hV ⊢;cases b2:has (sn m) l[m].name with
   | true =>
    rw[b2]at h3;simp only[if_true];refine wG fR (A3 hlt' hg VA) ?_;refine AR.callP h1 TI (A4 @aD @aU @aE @aX) ?_;refine goG fR TI ?_;refine wdG fR TI ?_;refine AR.callS [2] h2 rfl rfl (by first|(simp only[SR,aK,aL,bS,bP];done)|(simp only[SR,aK,aL,bS,bP];with_reducible exact rfl)) (by first|(simp only[SR,aK,aL,bS,bP];done)|(simp only[SR,aK,aL,bS,bP];with_reducible exact rfl)) (WkL.cons (Wk.ro _ _) .nil) (by first|rfl|simp only[List.length_cons,List.length_nil,Nat.reduceAdd,V.ids,V.idsL,idsA,entOk,List.all_cons,List.all_nil,Bool.and_self,Bool.and_true,Bool.true_and,ltB,noId,Nat.reduceLT,decide_true,Bool.true_eq_false,bT,bV,bU,bW,aD,aU,aE,aX]) rfl rfl rfl (by first|rfl|simp only[List.length_cons,List.length_nil,Nat.reduceAdd,V.ids,V.idsL,idsA,entOk,List.all_cons,List.all_nil,Bool.and_self,Bool.and_true,Bool.true_and,ltB,noId,Nat.reduceLT,decide_true,Bool.true_eq_false,bT,bV,bU,bW,aD,aU,aE,aX]) (by intro p hp;simp only[fX,SR,Ent.ren,List.mem_cons,List.not_mem_nil,or_false,aK,aL,bS,bP]at hp;rcases hp with rfl<;>rfl) (by simp only[fX,Ent.ren,SR,aK,aL,bS,bP,wrl,putE,SC,SD,Nat.reduceBEq,Nat.reduceLT,Nat.reduceSub,Nat.reduceAdd,Nat.reduceMul,Nat.reduceLeDiff,Nat.reduceEqDiff,reduceCtorEq,Int.reduceLT,Int.reduceLE,Int.reduceEq,Int.reduceNe,Int.reduceBEq,Int.reduceBNe,Int.reduceAdd,Int.reduceSub,Int.reduceMul,Int.reduceToNat];with_reducible exact rfl) ?_
    refine goG fR TI ?_;refine cO [2] h3 TI (A4 @aD @aU @aE @aX) (A4 @aK @aL @bS @bP) ?_;refine goG fR TI ?_;refine wdG fR TI ?_;exact aM
   | false =>
    rw[b2]at h3 hV;simp only[Bool.false_eq_true,if_false]at hV ⊢
    by_cases b3:chk l[m].ty=0
    case neg =>
     have q:(chk l[m].ty≠0)=True:=by simp[b3]
     rw[if_pos b3];refine wG fR (A3 hlt' hg VA) ?_;refine AR.callP h1 TI (A4 @aD @aU @aE @aX) ?_;refine goG fR TI ?_;refine wdG fR TI ?_;refine AR.callS [2] h2 rfl rfl (by first|(simp only[SR,aK,aL,bS,bP];done)|(simp only[SR,aK,aL,bS,bP];with_reducible exact rfl)) (by first|(simp only[SR,aK,aL,bS,bP];done)|(simp only[SR,aK,aL,bS,bP];with_reducible exact rfl)) (WkL.cons (Wk.ro _ _) .nil) (by first|rfl|simp only[List.length_cons,List.length_nil,Nat.reduceAdd,V.ids,V.idsL,idsA,entOk,List.all_cons,List.all_nil,Bool.and_self,Bool.and_true,Bool.true_and,ltB,noId,Nat.reduceLT,decide_true,Bool.true_eq_false,bT,bV,bU,bW,aD,aU,aE,aX]) rfl rfl rfl (by first|rfl|simp only[List.length_cons,List.length_nil,Nat.reduceAdd,V.ids,V.idsL,idsA,entOk,List.all_cons,List.all_nil,Bool.and_self,Bool.and_true,Bool.true_and,ltB,noId,Nat.reduceLT,decide_true,Bool.true_eq_false,bT,bV,bU,bW,aD,aU,aE,aX]) (by intro p hp;simp only[fX,SR,Ent.ren,List.mem_cons,List.not_mem_nil,or_false,aK,aL,bS,bP]at hp;rcases hp with rfl<;>rfl) (by simp only[fX,Ent.ren,SR,aK,aL,bS,bP,wrl,putE,SC,SD,Nat.reduceBEq,Nat.reduceLT,Nat.reduceSub,Nat.reduceAdd,Nat.reduceMul,Nat.reduceLeDiff,Nat.reduceEqDiff,reduceCtorEq,Int.reduceLT,Int.reduceLE,Int.reduceEq,Int.reduceNe,Int.reduceBEq,Int.reduceBNe,Int.reduceAdd,Int.reduceSub,Int.reduceMul,Int.reduceToNat];with_reducible exact rfl) ?_
     refine goG fR TI ?_;refine cO [2] h3 TI (A4 @aD @aU @aE @aX) (A4 @aK @aL @bS @bP) ?_;refine goG fR TI ?_;refine wdG fR TY ?_;refine AR.callP h4 @dS (A4 @aD @aU @aE @aX) ?_;refine goG fR b3 ?_;refine wG fR b3 ?_;exact aM
    case pos =>
     rw[if_neg (by simp[b3])]at hV ⊢
     rw[b3]at h4;refine wG fR (A3 hlt' hg VA) ?_;refine AR.callP h1 TI (A4 @aD @aU @aE @aX) ?_;refine goG fR TI ?_;refine wdG fR TI ?_;refine AR.callS [2] h2 rfl rfl (by first|(simp only[SR,aK,aL,bS,bP];done)|(simp only[SR,aK,aL,bS,bP];with_reducible exact rfl)) (by first|(simp only[SR,aK,aL,bS,bP];done)|(simp only[SR,aK,aL,bS,bP];with_reducible exact rfl)) (WkL.cons (Wk.ro _ _) .nil) (by first|rfl|simp only[List.length_cons,List.length_nil,Nat.reduceAdd,V.ids,V.idsL,idsA,entOk,List.all_cons,List.all_nil,Bool.and_self,Bool.and_true,Bool.true_and,ltB,noId,Nat.reduceLT,decide_true,Bool.true_eq_false,bT,bV,bU,bW,aD,aU,aE,aX]) rfl rfl rfl (by first|rfl|simp only[List.length_cons,List.length_nil,Nat.reduceAdd,V.ids,V.idsL,idsA,entOk,List.all_cons,List.all_nil,Bool.and_self,Bool.and_true,Bool.true_and,ltB,noId,Nat.reduceLT,decide_true,Bool.true_eq_false,bT,bV,bU,bW,aD,aU,aE,aX]) (by intro p hp;simp only[fX,SR,Ent.ren,List.mem_cons,List.not_mem_nil,or_false,aK,aL,bS,bP]at hp;rcases hp with rfl<;>rfl) (by simp only[fX,Ent.ren,SR,aK,aL,bS,bP,wrl,putE,SC,SD,Nat.reduceBEq,Nat.reduceLT,Nat.reduceSub,Nat.reduceAdd,Nat.reduceMul,Nat.reduceLeDiff,Nat.reduceEqDiff,reduceCtorEq,Int.reduceLT,Int.reduceLE,Int.reduceEq,Int.reduceNe,Int.reduceBEq,Int.reduceBNe,Int.reduceAdd,Int.reduceSub,Int.reduceMul,Int.reduceToNat];with_reducible exact rfl) ?_
     refine goG fR TI ?_;refine cO [2] h3 TI (A4 @aD @aU @aE @aX) (A4 @aK @aL @bS @bP) ?_;refine goG fR TI ?_;refine wdG fR TY ?_;refine AR.callP h4 @dS (A4 @aD @aU @aE @aX) ?_;refine goG fR TI ?_;refine wG fR (A5 ha hln hA hm1 @List.length_map.{0,0}) ?_;refine ALp.cutP 1 [(5,.sl ((sn (m+1)).map vaV) (.own 0)),(11,.sl (l.map vaV) .ro),(12,(.im (.int .i64 (l.length)))),(13,(.im (.int .i64 ((((m+1:Nat)):Int)))))] [.tip 96 6 (sn (m+1)).length] (A4 @aD @aU @aE @aX) ?_;rw[hV];exact hn2 hV
 obtain rfl:m=l.length:=by omega
 clear hnext
 have e0:vErr (sn l.length) (l.drop l.length)=0:=by rw[List.drop_length];cases sn l.length<;>rfl
 rw[e0]
 refine wG fR @Int.lt_irrefl ?_
 exact aM
end Go.Proofs.YtmbmmckagcdapaaGreatDoor
