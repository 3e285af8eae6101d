import Derived.Test.YtmbmmckagcdapaaGreatDoorV13
import Derived.Test.YtmbmmckagcdapaaGreatDoorV11
import Derived.Test.YtmbmmckagcdapaaGreatDoorV24
set_option maxHeartbeats 4000000
set_option linter.all false
namespace Go.Proofs.YtmbmmckagcdapaaGreatDoor
open Go.RowKit
def stB(s:Nd)(ne:Int)(a b c d:Bool)(pw:Int):Bool:=(if a then nameT s.name else eqS s.name ByteArray.empty)&&decide (s.width=pw)&&decide ((s.e.length:Int)=ne)&&(b||decide (s.l.length=0))&&(c||decide (s.el.length=0))&&(d||decide (s.cs.length=0))&&s.e.all efm
theorem Qv{b:Bool}(h: ¬b=true):b=false:=by cases b<;>simp_all
theorem vF{b c:Bool}(h:b=true↔c=true):b=c:=by cases b<;>cases c<;>simp_all
theorem fB(n:ByteArray):eqS n ByteArray.empty=decide (n.toList=[]):=by
 unfold eqS
 rw[show ByteArray.empty.toList=[]from by rw[ByteArray.toList_eq];rfl]
 cases n.toList<;>rfl
structure Frm (s:Nd)where
 ne:Int
 a:Bool
 b:Bool
 c:Bool
 d:Bool
 pw:Int
 h:stT s=stB s ne a b c d pw
def Lo:=AI @fD @eF
theorem IS{x:Ex}{r:Bool}(h:PC Tryz.prog 74 [exV x] (.im (.bool (r)))):PC Tryz.prog 166 [exV x] (.im (.bool (!r))):=by
 refine pcEnt 6 Tryz.func166 rfl [(0,exV x)] ?_
 rw[bW x]at h ⊢
 refine wG Lo TI ?_
 refine AR.callP h TI (A5 aP aG aM aU @aE) ?_
 refine goG Lo TI ?_
 refine wG Lo TI ?_
 exact aD
def eE:=A16 @oN @cJ @lG @jV @dY @iR @mC @qC @fG @jA @xV @lD @lC @mB @mA (A8 @lZ @oH @fH @cH @jU @jT @eF @dM)
theorem Ow(s:Nd)(hf:fitN s):PC Tryz.prog 103 [ndV s] (.im (.bool (stT s))):=by
 obtain⟨hI,hsz,⟨he1,he2⟩,h4,h5,h6,h7⟩:=lJ hf
 have hn:=Fy s.name hsz
 have hE:=uA (gs:=s.e) (F:=166) (fun x=> !efm x) he1 (fun t ht=>IS (Xy t (he2 t ht)))
 rw[←List.not_all_eq_any_not]at hE
 refine pcEnt 123 Tryz.func103 rfl [(0,ndV s)] ?_
 rw[fZ]
 obtain⟨k,w,n,e,l,el,cs⟩:=s
 simp only[Nd.kind,Nd.width,Nd.name,Nd.e,Nd.l,Nd.el,Nd.cs]at *
 refine wnG eE TI ?_
 refine AWp.tail (ι:=Frm (.mk k w n e l el cs)) (fun i=>⟨dn 123 [(1,.pt 0 0),(2,(.im (.bool (false)))),(3,.pt 1 0),(4,(.im (.int .i64 (i.ne)))),(5,(.im (.bool (i.a)))),(6,(.im (.bool (i.b)))),(7,(.im (.bool (i.c)))),(8,(.im (.bool (i.d))))],ofl [.box [.im (.int .i64 (k)),.im (.int .i64 w),.im (.string n),.sl (e.map exV) .ro,.sl (l.map ndV) .ro,.sl (el.map ndV) .ro,.sl (cs.map nlV) .ro],.box [.im (.int .i64 0),.im (.int .i64 i.pw),.im (.string ByteArray.empty),.sl [] .nl,.sl [] .nl,.sl [] .nl,.sl [] .nl]]⟩) (fun i=> ?_) (fun rest ht=> ?_)
 ·obtain⟨ne,a,b,c,d,pw,hi⟩:=i
  dsimp only;rw[hi];clear hi;cases a
  case' true =>
   refine wG eE TI ?_;refine AR.callP hn TI (A5 aP aG aM aU @aE) ?_;refine goG eE TI ?_;refine wG eE TI ?_
  case' false =>
   refine wG eE TI ?_
  case true =>
   refine cN rfl rfl (fun hE1=> ?_) (fun hE1=> ?_)
   ·have hr:stB (.mk k w n e l el cs) ne true b c d pw=false:=Qv (by simp only[stB,fB,Nd.kind,Nd.width,Nd.name,Nd.e,Nd.l,Nd.el,Nd.cs];simp at hE1 ⊢;grind)
    rw[hr];refine wG eE TI ?_;exact aD
   refine wG eE TI ?_;refine cN rfl rfl (fun hE2=> ?_) (fun hE2=> ?_)
   ·have hr:stB (.mk k w n e l el cs) ne true b c d pw=false:=Qv (by simp only[stB,fB,Nd.kind,Nd.width,Nd.name,Nd.e,Nd.l,Nd.el,Nd.cs];simp at hE2 ⊢;grind)
    rw[hr];refine wG eE TI ?_;exact aD
   refine wG eE TI ?_;refine AR.callP hE TI (A5 aP aG aM aU @aE) ?_;refine goG eE TI ?_;refine wG eE TI ?_;have hr:stB (.mk k w n e l el cs) ne true b c d pw=e.all efm:=vF (by simp only[stB,fB,Nd.kind,Nd.width,Nd.name,Nd.e,Nd.l,Nd.el,Nd.cs];simp at hE1 hE2 ⊢;grind)
   rw[hr];exact aD
  case false =>
   refine cN rfl rfl (fun hE1=> ?_) (fun hE1=> ?_)
   ·have hr:stB (.mk k w n e l el cs) ne false b c d pw=false:=Qv (by simp only[stB,fB,Nd.kind,Nd.width,Nd.name,Nd.e,Nd.l,Nd.el,Nd.cs];simp at hE1 ⊢;grind)
    rw[hr];refine wG eE TI ?_;exact aD
   refine wG eE TI ?_;refine cN rfl rfl (fun hE2=> ?_) (fun hE2=> ?_)
   ·have hr:stB (.mk k w n e l el cs) ne false b c d pw=false:=Qv (by simp only[stB,fB,Nd.kind,Nd.width,Nd.name,Nd.e,Nd.l,Nd.el,Nd.cs];simp at hE2 ⊢;grind)
    rw[hr];refine wG eE TI ?_;exact aD
   refine wG eE TI ?_;refine AR.callP hE TI (A5 aP aG aM aU @aE) ?_;refine goG eE TI ?_;refine wG eE TI ?_;have hr:stB (.mk k w n e l el cs) ne false b c d pw=e.all efm:=vF (by simp only[stB,fB,Nd.kind,Nd.width,Nd.name,Nd.e,Nd.l,Nd.el,Nd.cs];simp at hE1 hE2 ⊢;grind)
   rw[hr];exact aD
 clear hE hn
 by_cases k1:k=1
 ·subst k1
  refine wG eE TI ?_;refine AWp.cutP 2 [(1,.pt 0 0),(2,(.im (.bool (false)))),(3,.pt 1 0),(4,(.im (.int .i64 (1)))),(5,(.im (.bool (true)))),(6,(.im (.bool (false)))),(7,(.im (.bool (false)))),(8,(.im (.bool (false))))] [.box [.im (.int .i64 (1)),.im (.int .i64 w),.im (.string n),.sl (e.map exV) .ro,.sl (l.map ndV) .ro,.sl (el.map ndV) .ro,.sl (cs.map nlV) .ro],.box [.im (.int .i64 0),.im (.int .i64 0),.im (.string ByteArray.empty),.sl [] .nl,.sl [] .nl,.sl [] .nl,.sl [] .nl]] (A3 aE aG aM) ?_;exact ht ⟨1,true,false,false,false,0,vF (by simp only[stB,stT,fB,nE,nmd,lst,Nd.kind,Nd.width,Nd.name,Nd.e,Nd.l,Nd.el,Nd.cs];simp;grind)⟩
 by_cases k2:k=2
 ·subst k2
  refine wG eE TI ?_;refine cN rfl rfl (fun hE0=> ?_) (fun hE0=> ?_)
  ·rw[show stT (.mk 2 w n e l el cs)=false from Qv (by simp only[stT,nE,nmd,lst,Nd.kind,Nd.width,Nd.name,Nd.e,Nd.l,Nd.el,Nd.cs];simp at hE0 ⊢;grind)]
   refine wG eE TI ?_;exact aD
  refine wG eE TI ?_;refine AWp.cutP 2 [(1,.pt 0 0),(2,(.im (.bool (false)))),(3,.pt 1 0),(4,(.im (.int .i64 (2)))),(5,(.im (.bool (false)))),(6,(.im (.bool (false)))),(7,(.im (.bool (false)))),(8,(.im (.bool (false))))] [.box [.im (.int .i64 (2)),.im (.int .i64 w),.im (.string n),.sl (e.map exV) .ro,.sl (l.map ndV) .ro,.sl (el.map ndV) .ro,.sl (cs.map nlV) .ro],.box [.im (.int .i64 0),.im (.int .i64 w),.im (.string ByteArray.empty),.sl [] .nl,.sl [] .nl,.sl [] .nl,.sl [] .nl]] (A3 aE aG aM) ?_;exact ht ⟨2,false,false,false,false,w,vF (by simp only[stB,stT,fB,nE,nmd,lst,Nd.kind,Nd.width,Nd.name,Nd.e,Nd.l,Nd.el,Nd.cs];simp at hE0 ⊢;grind)⟩
 by_cases k3:k=3
 ·subst k3
  refine wG eE TI ?_;refine AWp.cutP 2 [(1,.pt 0 0),(2,(.im (.bool (false)))),(3,.pt 1 0),(4,(.im (.int .i64 (0)))),(5,(.im (.bool (true)))),(6,(.im (.bool (false)))),(7,(.im (.bool (false)))),(8,(.im (.bool (false))))] [.box [.im (.int .i64 (3)),.im (.int .i64 w),.im (.string n),.sl (e.map exV) .ro,.sl (l.map ndV) .ro,.sl (el.map ndV) .ro,.sl (cs.map nlV) .ro],.box [.im (.int .i64 0),.im (.int .i64 0),.im (.string ByteArray.empty),.sl [] .nl,.sl [] .nl,.sl [] .nl,.sl [] .nl]] (A3 aE aG aM) ?_;exact ht ⟨0,true,false,false,false,0,vF (by simp only[stB,stT,fB,nE,nmd,lst,Nd.kind,Nd.width,Nd.name,Nd.e,Nd.l,Nd.el,Nd.cs];simp;grind)⟩
 by_cases k4:k=4
 ·subst k4
  refine wG eE TI ?_;refine AWp.cutP 2 [(1,.pt 0 0),(2,(.im (.bool (false)))),(3,.pt 1 0),(4,(.im (.int .i64 (1)))),(5,(.im (.bool (false)))),(6,(.im (.bool (false)))),(7,(.im (.bool (false)))),(8,(.im (.bool (false))))] [.box [.im (.int .i64 (4)),.im (.int .i64 w),.im (.string n),.sl (e.map exV) .ro,.sl (l.map ndV) .ro,.sl (el.map ndV) .ro,.sl (cs.map nlV) .ro],.box [.im (.int .i64 0),.im (.int .i64 0),.im (.string ByteArray.empty),.sl [] .nl,.sl [] .nl,.sl [] .nl,.sl [] .nl]] (A3 aE aG aM) ?_;exact ht ⟨1,false,false,false,false,0,vF (by simp only[stB,stT,fB,nE,nmd,lst,Nd.kind,Nd.width,Nd.name,Nd.e,Nd.l,Nd.el,Nd.cs];simp;grind)⟩
 by_cases k5:k=5
 ·subst k5
  refine wG eE TI ?_;refine AWp.cutP 2 [(1,.pt 0 0),(2,(.im (.bool (false)))),(3,.pt 1 0),(4,(.im (.int .i64 (0)))),(5,(.im (.bool (true)))),(6,(.im (.bool (false)))),(7,(.im (.bool (false)))),(8,(.im (.bool (false))))] [.box [.im (.int .i64 (5)),.im (.int .i64 w),.im (.string n),.sl (e.map exV) .ro,.sl (l.map ndV) .ro,.sl (el.map ndV) .ro,.sl (cs.map nlV) .ro],.box [.im (.int .i64 0),.im (.int .i64 0),.im (.string ByteArray.empty),.sl [] .nl,.sl [] .nl,.sl [] .nl,.sl [] .nl]] (A3 aE aG aM) ?_;exact ht ⟨0,true,false,false,false,0,vF (by simp only[stB,stT,fB,nE,nmd,lst,Nd.kind,Nd.width,Nd.name,Nd.e,Nd.l,Nd.el,Nd.cs];simp;grind)⟩
 by_cases k6:k=6
 ·subst k6
  refine wG eE TI ?_;refine AWp.cutP 2 [(1,.pt 0 0),(2,(.im (.bool (false)))),(3,.pt 1 0),(4,(.im (.int .i64 (1)))),(5,(.im (.bool (false)))),(6,(.im (.bool (true)))),(7,(.im (.bool (true)))),(8,(.im (.bool (false))))] [.box [.im (.int .i64 (6)),.im (.int .i64 w),.im (.string n),.sl (e.map exV) .ro,.sl (l.map ndV) .ro,.sl (el.map ndV) .ro,.sl (cs.map nlV) .ro],.box [.im (.int .i64 0),.im (.int .i64 0),.im (.string ByteArray.empty),.sl [] .nl,.sl [] .nl,.sl [] .nl,.sl [] .nl]] (A3 aE aG aM) ?_;exact ht ⟨1,false,true,true,false,0,vF (by simp only[stB,stT,fB,nE,nmd,lst,Nd.kind,Nd.width,Nd.name,Nd.e,Nd.l,Nd.el,Nd.cs];simp;grind)⟩
 by_cases k7:k=7
 ·subst k7
  refine wG eE TI ?_;refine AWp.cutP 2 [(1,.pt 0 0),(2,(.im (.bool (false)))),(3,.pt 1 0),(4,(.im (.int .i64 (1)))),(5,(.im (.bool (false)))),(6,(.im (.bool (true)))),(7,(.im (.bool (false)))),(8,(.im (.bool (false))))] [.box [.im (.int .i64 (7)),.im (.int .i64 w),.im (.string n),.sl (e.map exV) .ro,.sl (l.map ndV) .ro,.sl (el.map ndV) .ro,.sl (cs.map nlV) .ro],.box [.im (.int .i64 0),.im (.int .i64 0),.im (.string ByteArray.empty),.sl [] .nl,.sl [] .nl,.sl [] .nl,.sl [] .nl]] (A3 aE aG aM) ?_;exact ht ⟨1,false,true,false,false,0,vF (by simp only[stB,stT,fB,nE,nmd,lst,Nd.kind,Nd.width,Nd.name,Nd.e,Nd.l,Nd.el,Nd.cs];simp;grind)⟩
 by_cases k8:k=8
 ·subst k8
  refine wG eE TI ?_;refine AWp.cutP 2 [(1,.pt 0 0),(2,(.im (.bool (false)))),(3,.pt 1 0),(4,(.im (.int .i64 (0)))),(5,(.im (.bool (false)))),(6,(.im (.bool (true)))),(7,(.im (.bool (false)))),(8,(.im (.bool (false))))] [.box [.im (.int .i64 (8)),.im (.int .i64 w),.im (.string n),.sl (e.map exV) .ro,.sl (l.map ndV) .ro,.sl (el.map ndV) .ro,.sl (cs.map nlV) .ro],.box [.im (.int .i64 0),.im (.int .i64 0),.im (.string ByteArray.empty),.sl [] .nl,.sl [] .nl,.sl [] .nl,.sl [] .nl]] (A3 aE aG aM) ?_;exact ht ⟨0,false,true,false,false,0,vF (by simp only[stB,stT,fB,nE,nmd,lst,Nd.kind,Nd.width,Nd.name,Nd.e,Nd.l,Nd.el,Nd.cs];simp;grind)⟩
 by_cases k9:k=9
 ·subst k9
  refine wG eE TI ?_;refine cN rfl rfl (fun hE0=> ?_) (fun hE0=> ?_)
  ·rw[show stT (.mk 9 w n e l el cs)=false from Qv (by simp only[stT,nE,nmd,lst,Nd.kind,Nd.width,Nd.name,Nd.e,Nd.l,Nd.el,Nd.cs];simp at hE0 ⊢;grind)]
   refine wG eE TI ?_;exact aD
  refine wG eE TI ?_;refine AWp.cutP 2 [(1,.pt 0 0),(2,(.im (.bool (false)))),(3,.pt 1 0),(4,(.im (.int .i64 (1)))),(5,(.im (.bool (false)))),(6,(.im (.bool (false)))),(7,(.im (.bool (false)))),(8,(.im (.bool (true))))] [.box [.im (.int .i64 (9)),.im (.int .i64 w),.im (.string n),.sl (e.map exV) .ro,.sl (l.map ndV) .ro,.sl (el.map ndV) .ro,.sl (cs.map nlV) .ro],.box [.im (.int .i64 0),.im (.int .i64 0),.im (.string ByteArray.empty),.sl [] .nl,.sl [] .nl,.sl [] .nl,.sl [] .nl]] (A3 aE aG aM) ?_;exact ht ⟨1,false,false,false,true,0,vF (by simp only[stB,stT,fB,nE,nmd,lst,Nd.kind,Nd.width,Nd.name,Nd.e,Nd.l,Nd.el,Nd.cs];simp at hE0 ⊢;grind)⟩
 by_cases k10:k=10
 ·subst k10
  refine wG eE TI ?_;refine AWp.cutP 2 [(1,.pt 0 0),(2,(.im (.bool (false)))),(3,.pt 1 0),(4,(.im (.int .i64 (0)))),(5,(.im (.bool (false)))),(6,(.im (.bool (false)))),(7,(.im (.bool (false)))),(8,(.im (.bool (false))))] [.box [.im (.int .i64 (10)),.im (.int .i64 w),.im (.string n),.sl (e.map exV) .ro,.sl (l.map ndV) .ro,.sl (el.map ndV) .ro,.sl (cs.map nlV) .ro],.box [.im (.int .i64 0),.im (.int .i64 0),.im (.string ByteArray.empty),.sl [] .nl,.sl [] .nl,.sl [] .nl,.sl [] .nl]] (A3 aE aG aM) ?_;exact ht ⟨0,false,false,false,false,0,vF (by simp only[stB,stT,fB,nE,nmd,lst,Nd.kind,Nd.width,Nd.name,Nd.e,Nd.l,Nd.el,Nd.cs];simp;grind)⟩
 by_cases k11:k=11
 ·subst k11
  refine wG eE TI ?_;refine AWp.cutP 2 [(1,.pt 0 0),(2,(.im (.bool (false)))),(3,.pt 1 0),(4,(.im (.int .i64 (0)))),(5,(.im (.bool (false)))),(6,(.im (.bool (false)))),(7,(.im (.bool (false)))),(8,(.im (.bool (false))))] [.box [.im (.int .i64 (11)),.im (.int .i64 w),.im (.string n),.sl (e.map exV) .ro,.sl (l.map ndV) .ro,.sl (el.map ndV) .ro,.sl (cs.map nlV) .ro],.box [.im (.int .i64 0),.im (.int .i64 0),.im (.string ByteArray.empty),.sl [] .nl,.sl [] .nl,.sl [] .nl,.sl [] .nl]] (A3 aE aG aM) ?_;exact ht ⟨0,false,false,false,false,0,vF (by simp only[stB,stT,fB,nE,nmd,lst,Nd.kind,Nd.width,Nd.name,Nd.e,Nd.l,Nd.el,Nd.cs];simp;grind)⟩
 by_cases k12:k=12
 ·subst k12
  refine wG eE TI ?_;refine AWp.cutP 2 [(1,.pt 0 0),(2,(.im (.bool (false)))),(3,.pt 1 0),(4,(.im (.int .i64 (0)))),(5,(.im (.bool (true)))),(6,(.im (.bool (false)))),(7,(.im (.bool (false)))),(8,(.im (.bool (false))))] [.box [.im (.int .i64 (12)),.im (.int .i64 w),.im (.string n),.sl (e.map exV) .ro,.sl (l.map ndV) .ro,.sl (el.map ndV) .ro,.sl (cs.map nlV) .ro],.box [.im (.int .i64 0),.im (.int .i64 0),.im (.string ByteArray.empty),.sl [] .nl,.sl [] .nl,.sl [] .nl,.sl [] .nl]] (A3 aE aG aM) ?_;exact ht ⟨0,true,false,false,false,0,vF (by simp only[stB,stT,fB,nE,nmd,lst,Nd.kind,Nd.width,Nd.name,Nd.e,Nd.l,Nd.el,Nd.cs];simp;grind)⟩
 by_cases k13:k=13
 ·subst k13
  refine wG eE TI ?_;refine AWp.cutP 2 [(1,.pt 0 0),(2,(.im (.bool (false)))),(3,.pt 1 0),(4,(.im (.int .i64 (0)))),(5,(.im (.bool (true)))),(6,(.im (.bool (false)))),(7,(.im (.bool (false)))),(8,(.im (.bool (false))))] [.box [.im (.int .i64 (13)),.im (.int .i64 w),.im (.string n),.sl (e.map exV) .ro,.sl (l.map ndV) .ro,.sl (el.map ndV) .ro,.sl (cs.map nlV) .ro],.box [.im (.int .i64 0),.im (.int .i64 0),.im (.string ByteArray.empty),.sl [] .nl,.sl [] .nl,.sl [] .nl,.sl [] .nl]] (A3 aE aG aM) ?_;exact ht ⟨0,true,false,false,false,0,vF (by simp only[stB,stT,fB,nE,nmd,lst,Nd.kind,Nd.width,Nd.name,Nd.e,Nd.l,Nd.el,Nd.cs];simp;grind)⟩
 by_cases k14:k=14
 ·subst k14
  refine wG eE TI ?_;refine AWp.cutP 2 [(1,.pt 0 0),(2,(.im (.bool (false)))),(3,.pt 1 0),(4,(.im (.int .i64 (0)))),(5,(.im (.bool (false)))),(6,(.im (.bool (false)))),(7,(.im (.bool (false)))),(8,(.im (.bool (false))))] [.box [.im (.int .i64 (14)),.im (.int .i64 w),.im (.string n),.sl (e.map exV) .ro,.sl (l.map ndV) .ro,.sl (el.map ndV) .ro,.sl (cs.map nlV) .ro],.box [.im (.int .i64 0),.im (.int .i64 0),.im (.string ByteArray.empty),.sl [] .nl,.sl [] .nl,.sl [] .nl,.sl [] .nl]] (A3 aE aG aM) ?_;exact ht ⟨0,false,false,false,false,0,vF (by simp only[stB,stT,fB,nE,nmd,lst,Nd.kind,Nd.width,Nd.name,Nd.e,Nd.l,Nd.el,Nd.cs];simp;grind)⟩
 by_cases k15:k=15
 ·subst k15
  refine wG eE TI ?_;refine AWp.cutP 2 [(1,.pt 0 0),(2,(.im (.bool (false)))),(3,.pt 1 0),(4,(.im (.int .i64 (0)))),(5,(.im (.bool (false)))),(6,(.im (.bool (false)))),(7,(.im (.bool (false)))),(8,(.im (.bool (false))))] [.box [.im (.int .i64 (15)),.im (.int .i64 w),.im (.string n),.sl (e.map exV) .ro,.sl (l.map ndV) .ro,.sl (el.map ndV) .ro,.sl (cs.map nlV) .ro],.box [.im (.int .i64 0),.im (.int .i64 0),.im (.string ByteArray.empty),.sl [] .nl,.sl [] .nl,.sl [] .nl,.sl [] .nl]] (A3 aE aG aM) ?_;exact ht ⟨0,false,false,false,false,0,vF (by simp only[stB,stT,fB,nE,nmd,lst,Nd.kind,Nd.width,Nd.name,Nd.e,Nd.l,Nd.el,Nd.cs];simp;grind)⟩
 rw[show stT (.mk k w n e l el cs)=false from Qv (fun h=>by simp only[stT,Bool.and_eq_true,decide_eq_true_eq]at h;have q:=h.1.1.1.1.1.1.1;simp only[Nd.kind]at q;omega)]
 refine wG eE (A15 k1 k2 k3 k4 k5 k6 k7 k8 k9 k10 k11 k12 k13 k14 k15) ?_
 exact aD
theorem Rf{α:Type}{l:List α}{p:α→Bool}(h:AllTo (fun x=> !p x) l l.length):l.any p=false:=by
 rw[List.any_eq_false]
 intro x hx
 obtain⟨j,hj,rfl⟩:=List.getElem_of_mem hx
 simpa using h j hj hj
def Dk:=A5 @dY @kQ @tG @dM @jS
theorem Kz(vs:List Va)(hv:vs.length≤4194304)(s:ByteArray):PC Tryz.prog 177 [(V.sl (vs.map vaV) .ro),.im (.string s)] (.im (.bool (has vs s))):=by
 refine pcEnt 19 Tryz.func177 rfl [(0,(V.sl (vs.map vaV) .ro)),(1,.im (.string s))] ?_
 unfold has
 refine wG Dk TI ?_
 refine aT ?_
 refine ALp.cutP 0 [(0,(V.sl (vs.map vaV) .ro)),(1,.im (.string s)),(5,(.im (.int .i64 ((((0:Nat)):Int)))))] [] (A4 @aE @aK @aF @aL) ?_
 refine ALp.upto vs.length (AllTo (fun x=> !eqS x.name s) vs) (fun m=>⟨dn 19 [(0,(V.sl (vs.map vaV) .ro)),(1,.im (.string s)),(5,(.im (.int .i64 ((((m:Nat)):Int)))))],ofl []⟩) ?_ 0 (Nat.zero_le _) (AllTo.zero _ _)
 intro m hm hI hnext
 by_cases hlt:m<vs.length
 ·have hlt':(m:Int)<(vs.length:Int):=by omega
  have hg:=bJ hlt;have hm1:=aQ hlt (by omega)
  cases b:eqS vs[m].name s with
  | true =>
   have b':(vs[m].name.toList==s.toList)=true:=b;have hr:(vs.any fun v=>eqS v.name s)=true:=List.any_eq_true.2 ⟨_,List.getElem_mem hlt,b⟩
   rw[hr];refine wG Dk (A16 @dJ @cQ @dH @dG @dI @cR @jE @gT @jC @jB @jD @gU @List.getElem?_map.{0,0} @Int.natCast_nonneg hlt' (A3 hg hm1 b')) ?_;exact aD
  | false =>
   have b':(vs[m].name.toList==s.toList)=false:=b;refine wG Dk (A16 @dJ @cQ @dH @dG @dI @cR @jE @gT @jC @jB @jD @gU @List.getElem?_map.{0,0} @Int.natCast_nonneg hlt' (A3 hg hm1 b')) ?_;refine ALp.cutP 0 [(0,(V.sl (vs.map vaV) .ro)),(1,.im (.string s)),(5,(.im (.int .i64 ((((m+1:Nat)):Int)))))] [] (A4 @aE @aK @aF @aL) ?_;exact hnext (m+1) (by omega) (by omega) (hI.succ hlt (by rw[b];rfl))
 ·obtain rfl:m=vs.length:=by omega
  have hlt': ¬(vs.length:Int)<(vs.length:Int):=by omega
  clear hnext;rw[Rf hI];refine wG Dk hlt' ?_;exact aD
def pB:=A12 @cJ @jV @fD @dY @fG @qJ @tL @mR @cH @jT @eF @dM
theorem DR(vs:List Va)(hv:vs.length≤4194304): ∀(t:Ex),fitE t→PC Tryz.prog 233 [exV t,(V.sl (vs.map vaV) .ro)] (.im (.bool (knw vs t))):=by
 refine Ex.induct fun o n s w l hE=> ?_
 intro hfit
 obtain⟨hl1,hfE⟩:=pW hfit
 have h1:=Kz vs hv s
 refine pcEnt 28 Tryz.func233 rfl [(0,exV (.mk o n s w l)),(1,(V.sl (vs.map vaV) .ro))] ?_
 simp only[jW]
 rw[BM]
 by_cases ho:o=2
 ·have e:(o==2)=true:=by simp[ho]
  rw[e,if_pos rfl];refine wG pB ho ?_;refine AR.callP h1 TI (A4 @aE @aK @aF @aL) ?_;refine goG pB TI ?_;refine wG pB TI ?_;exact aD
 have e:(o==2)=false:=by simp[ho]
 rw[e,if_neg (by decide)]
 refine wG pB ho ?_
 refine aT ?_
 refine ALp.cutP 1 [(1,(V.sl (vs.map vaV) .ro)),(2,.pt 0 0),(4,.im (.bool false)),(5,(.im (.int .i64 ((((0:Nat)):Int)))))] [.box [.im (.int .i64 o),.im (.int .u32 n),.im (.string s),.im (.int .i64 w),.sl (l.map exV) .ro]] (A4 @aE @aK @aF @aL) ?_
 refine ALp.upto l.length (AllTo (knw vs) l) (fun m=>⟨dn 28 [(1,(V.sl (vs.map vaV) .ro)),(2,.pt 0 0),(4,.im (.bool false)),(5,(.im (.int .i64 ((((m:Nat)):Int)))))],ofl [.box [.im (.int .i64 o),.im (.int .u32 n),.im (.string s),.im (.int .i64 w),.sl (l.map exV) .ro]]⟩) ?_ 0 (Nat.zero_le _) (AllTo.zero _ _)
 intro m hm hI hnext
 by_cases hlt:m<l.length
 ·have hlt':(m:Int)<(l.length:Int):=by omega
  have hg:=bJ hlt;have hm1:=aQ hlt (by omega)
  have hc:=hE l[m] (List.getElem_mem hlt) (hfE _ (List.getElem_mem hlt));refine wG pB (A16 @dJ @cQ @dH @dG @dI @cR @jE @gT @jC @jB @jD @gU @List.getElem?_map.{0,0} @Int.natCast_nonneg hlt' (AI hg hm1)) ?_;cases b:knw vs l[m]with
  | true =>
   rw[b]at hc;refine AR.callP hc @bW (A4 @aE @aK @aF @aL) ?_;refine goG pB TI ?_;refine wG pB hm1 ?_;refine ALp.cutP 1 [(1,(V.sl (vs.map vaV) .ro)),(2,.pt 0 0),(4,.im (.bool false)),(5,(.im (.int .i64 ((((m+1:Nat)):Int)))))] [.box [.im (.int .i64 o),.im (.int .u32 n),.im (.string s),.im (.int .i64 w),.sl (l.map exV) .ro]] (A4 @aE @aK @aF @aL) ?_;exact hnext (m+1) (by omega) (by omega) (hI.succ hlt b)
  | false =>
   rw[b]at hc;refine AR.callP hc @bW (A4 @aE @aK @aF @aL) ?_;refine goG pB TI ?_;refine wG pB hm1 ?_;rw[eR hlt b];exact aD
 ·have hall:=hI.done (by omega)
  have hlt': ¬(m:Int)<(l.length:Int):=by omega
  clear hnext;rw[hall];refine wG pB hlt' ?_;exact aD
theorem PC.ghost{P:Program}{f:FuncId}{xs:List V}{e:TypeId}{z:Nat}(h:PC P f xs (.sl [] .nl)):DC P f xs [.free] (.sl [] (.own 0)) [.tip e z 0]:=by
 refine⟨h.1,fun C vs hst hC hl hR=> ?_⟩
 have hst':C.st=stF:=by
  rw[hst];funext i;unfold ofl stF;cases i with
  | zero=>rfl
  | succ i=>simp[List.getD]
 refine(h.2 C vs hst' hC hl hR).mono ?_
 rintro e' w' ⟨v,x,st',rfl,⟨rfl,rfl⟩,D,hw,hs,hD,hE,hR'⟩
 have hf:D.st 0= .free:=by rw[hs];rfl
 refine⟨v,_,_,rfl,⟨rfl,rfl⟩,D.ghost 0 e z 0,hw,?_,hD.ghost hf,hE.trans (Ev.ghost hf),R.ghost (.inr rfl) hf hR' (fun x hx=>by cases hx)⟩
 show upd D.st 0 (.tip e z 0)=_
 rw[hs]
 funext i
 cases i with
 | zero=>rfl
 | succ i=>simp[upd,stF,ofl,List.getD]
theorem ACalls.nz_ne{P:Program}{f:FuncId}{es:List V}{xs:List V}{st:Nat→Ent}{Q:V→(Nat→Ent)→Prop}(hf:Bb P f=true)(h:0<es.length):ACalls P f (.sl es .nz::xs) st Q:=by
 refine⟨hf,fun C vs _ _ _ hR=> ?_⟩
 have h0:R C (.sl es .nz) (vs.getD 0 undef):=hR 0 (by simp)
 exfalso
 generalize vs.getD 0 undef=v at h0
 cases h0 with
 | sl _ _ _ _ hr hk =>
  obtain⟨ad,h1,_⟩:=hr 0 h;rw[h1]at hk;cases hk
theorem xW(l:List Va):mU 6 (l.map vaV)=true:=by
 unfold mU
 rw[List.all_map]
 exact List.all_eq_true.2 fun x _=>rfl
def Ll:=A4 @pH @sC @kQ @jS
theorem QM{vs:List Va}(hv:vs.length≤4194304):DC Tryz.prog 87 [.sl (vs.map vaV) .ro] [.free] (.sl (vs.map vaV) (.own 0)) [.tip 96 6 vs.length]:=by
 have hA:vs.length*88≤140737488355328:=by omega
 refine ACalls.nil1 ?_ ?_
 ·rcases Nat.eq_zero_or_pos vs.length with h0|h0
  ·obtain rfl:=List.length_eq_zero_iff.1 h0
   refine PC.ghost ?_;refine pcEnt 8 Tryz.func87 rfl [(0,.sl [] .nz)] ?_
   refine wG Ll TI ?_;refine fiGenO [.tmp 2] (finG Ll) ?_
   all_goals exact wkG (A4 @aE @aK @aF @aL)
  ·exact ACalls.nz_ne (by kernel_rfl) (by simpa using h0)
 ·refine Bx 1 8 Tryz.func87 rfl (by decide) rfl rfl (s:=[(0,.sl (vs.map vaV) .nn)]) (by rfl) ?_
  refine wG Ll (A4 hA xW @List.length_map.{0,0} @Nat.zero_add) ?_;refine zS 1 (rs:=[.tmp 2]) rfl (by first|exact .inl rfl|exact .inr rfl) (by simp only[Ct,At,↓nK,↓reduceIte,SA,SB,SC,SD,Ll,uX,fpsG,evO,evB,evA,tV,uZ,eqF,eqC,oD,lI,slB,slK,gd,St.ev,iI,ofl,wrl,putE,V.ofVal,V.ofCell,bin2,un1,seg,nQ,iE,Value.oneCell',Nat.reduceBEq,Nat.reduceLT,Nat.reduceSub,Nat.reduceAdd,Nat.reduceMul,Nat.reduceLeDiff,Nat.reduceEqDiff,reduceCtorEq,Int.reduceLT,Int.reduceLE,Int.reduceEq,Int.reduceNe,Int.reduceBEq,Int.reduceBNe,Int.reduceAdd,Int.reduceSub,Int.reduceMul,Int.reduceToNat];with_reducible exact rfl) ?_ rfl (by first|rfl|simp only[List.length_cons,List.length_nil,Nat.reduceAdd,V.ids,V.idsL,idsA,entOk,List.all_cons,List.all_nil,Bool.and_self,Bool.and_true,Bool.true_and,ltB,noId,Nat.reduceLT,decide_true,Bool.true_eq_false,bN,bP,bO,bQ,aE,aK,aF,aL])
  repeat (first|exact WkF.of (Wk.refl _) (by first|rfl|simp only[List.length_cons,List.length_nil,Nat.reduceAdd,V.ids,V.idsL,idsA,entOk,List.all_cons,List.all_nil,Bool.and_self,Bool.and_true,Bool.true_and,ltB,noId,Nat.reduceLT,decide_true,Bool.true_eq_false,bN,bP,bO,bQ,aE,aK,aF,aL])|exact WkF.of (Wk.ro _ _) (by first|rfl|simp only[List.length_cons,List.length_nil,Nat.reduceAdd,V.ids,V.idsL,idsA,entOk,List.all_cons,List.all_nil,Bool.and_self,Bool.and_true,Bool.true_and,ltB,noId,Nat.reduceLT,decide_true,Bool.true_eq_false,bN,bP,bO,bQ,aE,aK,aF,aL])|refine Gg ?_|refine Gh ?_|refine WkFL.cons ?_ ?_|exact WkFL.nil)
def vErr:List Va→List Va→Int
 | _,[]=>0
 | seen,v::r=>if !nameT v.name then 3 else if has seen v.name then 8 else if chk v.ty≠0 then chk v.ty else vErr (seen++[v]) r
theorem Aj{bs l:List Va}{m:Nat}(h:m<l.length):vErr (bs++l.take m) (l.drop m)=if !nameT l[m].name then 3 else if has (bs++l.take m) l[m].name then 8 else if chk l[m].ty≠0 then chk l[m].ty else vErr (bs++l.take (m+1)) (l.drop (m+1)):=by
 rw[List.drop_eq_getElem_cons h]
 rw[vErr,List.take_succ_eq_append_getElem h,List.append_assoc]
def fitVN(l:List Va):Prop:= ∀v∈l,fit v.ty∧v.name.size≤9223372036854775807
def gL:=A11 @dY @gR @Do @pH @sC @kQ @tG @wU @dM @gO @jS
theorem zB(bs l:List Va)(hb:bs.length+l.length≤4194304)(hl:fitVN l):PC Tryz.prog 41 [.sl (bs.map vaV) .ro,.sl (l.map vaV) .ro] (.im (.int .i64 (vErr bs l))):=by
 obtain⟨sn,hsn⟩: ∃sn:Nat→List Va,∀m,sn m=bs++l.take m:=⟨_,fun _=>rfl⟩
 have hs0:sn 0=bs:=by rw[hsn];simp
 have hsl: ∀m,(sn m).length≤bs.length+l.length:=fun m=>by rw[hsn,List.length_append,List.length_take];omega
 have hstep: ∀m (h:m<l.length),vErr (sn m) (l.drop m)=if !nameT l[m].name then 3 else if has (sn m) l[m].name then 8 else if chk l[m].ty≠0 then chk l[m].ty else vErr (sn (m+1)) (l.drop (m+1)):=fun m h=>by
  rw[hsn,hsn];exact Aj h
 have happ: ∀m (h:m<l.length),(sn m).map vaV++[vaV l[m]]=(sn (m+1)).map vaV:=fun m h=>by
  rw[hsn,hsn,List.map_append,List.map_append,List.append_assoc,Hy vaV h]
 have hlen: ∀m (h:m<l.length),(sn m).length+1=(sn (m+1)).length:=fun m h=>by
  rw[hsn,hsn,List.length_append,List.length_append,List.length_take,List.length_take];omega
 have hcl:=QM (vs:=sn 0) (by have:=hsl 0;omega)
 refine pcEnt 39 Tryz.func41 rfl [(0,.sl (bs.map vaV) .ro),(1,.sl (l.map vaV) .ro)] ?_
 refine wG gL TI ?_
 refine aA [0] hcl hs0 (A4 @aE @aK @aF @aL) (A4 @aN @aO @bI @bF) ?_
 refine goG gL TI ?_
 refine wG gL @List.length_map.{0,0} ?_
 refine aT ?_
 refine ALp.cutP 1 [(5,.sl ((sn (0)).map vaV) (.own 0)),(11,.sl (l.map vaV) .ro),(12,(.im (.int .i64 (l.length)))),(13,(.im (.int .i64 ((((0:Nat)):Int)))))] [.tip 96 6 (sn (0)).length] (A4 @aE @aK @aF @aL) ?_
 refine ALp.upto l.length (fun m=>vErr (sn m) (l.drop m)=vErr bs l) (fun m=>⟨dn 39 [(5,.sl ((sn (m)).map vaV) (.own 0)),(11,.sl (l.map vaV) .ro),(12,(.im (.int .i64 (l.length)))),(13,(.im (.int .i64 ((((m:Nat)):Int)))))],ofl [.tip 96 6 (sn (m)).length]⟩) ?_ 0 (Nat.zero_le _) (by rw[hs0,List.drop_zero])
 intro m hm hV hnext
 rw[←hV]
 by_cases hlt:m<l.length
 ·have hlt':(m:Int)<(l.length:Int):=by omega
  have hm1:=aQ hlt (by omega)
  have hg:=bJ hlt;obtain⟨hty,hnm⟩:=hl _ (List.getElem_mem hlt);have h1:=Fy l[m].name hnm;have h2:=Ur (sn m);have h3:=Gb (sn m) (by have:=hsl m;omega) l[m].name
  have h4:=JN l[m].ty hty;have ha:=happ m hlt;rw[Ai]at ha;have hln:=hlen m hlt;have hA:(sn (m+1)).length*88≤140737488355328:=by have:=hsl (m+1);omega
  rw[hstep m hlt];rw[hstep m hlt]at hV;have hn2:=hnext (m+1) (by omega) (by omega)
  cases b1:nameT l[m].name with
  | false =>
   rw[b1]at h1;simp only[Bool.not_false,if_true];refine wG gL (A3 hlt' hg VA) ?_;refine AR.callP h1 TI (A4 @aE @aK @aF @aL) ?_;refine goG gL TI ?_;refine wG gL TI ?_;exact aD
  | true =>
   rw[b1]at h1 hV;simp only[Bool.not_true,Bool.false_eq_true,if_false]at hV ⊢;cases b2:has (sn m) l[m].name with
   | true =>
    rw[b2]at h3;simp only[if_true];refine wG gL (A3 hlt' hg VA) ?_;refine AR.callP h1 TI (A4 @aE @aK @aF @aL) ?_;refine goG gL TI ?_;refine wdG gL TI ?_;refine AR.callS [2] h2 rfl rfl (by first|(simp only[SR,aN,aO,bI,bF];done)|(simp only[SR,aN,aO,bI,bF];with_reducible exact rfl)) (by first|(simp only[SR,aN,aO,bI,bF];done)|(simp only[SR,aN,aO,bI,bF];with_reducible exact rfl)) (WkL.cons (Wk.ro _ _) .nil) (by first|rfl|simp only[List.length_cons,List.length_nil,Nat.reduceAdd,V.ids,V.idsL,idsA,entOk,List.all_cons,List.all_nil,Bool.and_self,Bool.and_true,Bool.true_and,ltB,noId,Nat.reduceLT,decide_true,Bool.true_eq_false,bN,bP,bO,bQ,aE,aK,aF,aL]) rfl rfl rfl (by first|rfl|simp only[List.length_cons,List.length_nil,Nat.reduceAdd,V.ids,V.idsL,idsA,entOk,List.all_cons,List.all_nil,Bool.and_self,Bool.and_true,Bool.true_and,ltB,noId,Nat.reduceLT,decide_true,Bool.true_eq_false,bN,bP,bO,bQ,aE,aK,aF,aL]) (by intro p hp;simp only[gV,SR,Ent.ren,List.mem_cons,List.not_mem_nil,or_false,aN,aO,bI,bF]at hp;rcases hp with rfl<;>rfl) (by simp only[gV,Ent.ren,SR,aN,aO,bI,bF,wrl,putE,SC,SD,Nat.reduceBEq,Nat.reduceLT,Nat.reduceSub,Nat.reduceAdd,Nat.reduceMul,Nat.reduceLeDiff,Nat.reduceEqDiff,reduceCtorEq,Int.reduceLT,Int.reduceLE,Int.reduceEq,Int.reduceNe,Int.reduceBEq,Int.reduceBNe,Int.reduceAdd,Int.reduceSub,Int.reduceMul,Int.reduceToNat];with_reducible exact rfl) ?_
    refine goG gL TI ?_;refine dB [2] h3 TI (A4 @aE @aK @aF @aL) (A4 @aN @aO @bI @bF) ?_;refine goG gL TI ?_;refine wdG gL TI ?_;exact aD
   | false =>
    rw[b2]at h3 hV;simp only[Bool.false_eq_true,if_false]at hV ⊢
    by_cases b3:chk l[m].ty=0
    case neg =>
     have q:(chk l[m].ty≠0)=True:=by simp[b3]
     rw[if_pos b3];refine wG gL (A3 hlt' hg VA) ?_;refine AR.callP h1 TI (A4 @aE @aK @aF @aL) ?_;refine goG gL TI ?_;refine wdG gL TI ?_;refine AR.callS [2] h2 rfl rfl (by first|(simp only[SR,aN,aO,bI,bF];done)|(simp only[SR,aN,aO,bI,bF];with_reducible exact rfl)) (by first|(simp only[SR,aN,aO,bI,bF];done)|(simp only[SR,aN,aO,bI,bF];with_reducible exact rfl)) (WkL.cons (Wk.ro _ _) .nil) (by first|rfl|simp only[List.length_cons,List.length_nil,Nat.reduceAdd,V.ids,V.idsL,idsA,entOk,List.all_cons,List.all_nil,Bool.and_self,Bool.and_true,Bool.true_and,ltB,noId,Nat.reduceLT,decide_true,Bool.true_eq_false,bN,bP,bO,bQ,aE,aK,aF,aL]) rfl rfl rfl (by first|rfl|simp only[List.length_cons,List.length_nil,Nat.reduceAdd,V.ids,V.idsL,idsA,entOk,List.all_cons,List.all_nil,Bool.and_self,Bool.and_true,Bool.true_and,ltB,noId,Nat.reduceLT,decide_true,Bool.true_eq_false,bN,bP,bO,bQ,aE,aK,aF,aL]) (by intro p hp;simp only[gV,SR,Ent.ren,List.mem_cons,List.not_mem_nil,or_false,aN,aO,bI,bF]at hp;rcases hp with rfl<;>rfl) (by simp only[gV,Ent.ren,SR,aN,aO,bI,bF,wrl,putE,SC,SD,Nat.reduceBEq,Nat.reduceLT,Nat.reduceSub,Nat.reduceAdd,Nat.reduceMul,Nat.reduceLeDiff,Nat.reduceEqDiff,reduceCtorEq,Int.reduceLT,Int.reduceLE,Int.reduceEq,Int.reduceNe,Int.reduceBEq,Int.reduceBNe,Int.reduceAdd,Int.reduceSub,Int.reduceMul,Int.reduceToNat];with_reducible exact rfl) ?_
     refine goG gL TI ?_;refine dB [2] h3 TI (A4 @aE @aK @aF @aL) (A4 @aN @aO @bI @bF) ?_;refine goG gL TI ?_;refine wdG gL TY ?_;refine AR.callP h4 @cW (A4 @aE @aK @aF @aL) ?_;refine goG gL b3 ?_;refine wG gL b3 ?_;exact aD
    case pos =>
     rw[if_neg (by simp[b3])]at hV ⊢
     rw[b3]at h4;refine wG gL (A3 hlt' hg VA) ?_;refine AR.callP h1 TI (A4 @aE @aK @aF @aL) ?_;refine goG gL TI ?_;refine wdG gL TI ?_;refine AR.callS [2] h2 rfl rfl (by first|(simp only[SR,aN,aO,bI,bF];done)|(simp only[SR,aN,aO,bI,bF];with_reducible exact rfl)) (by first|(simp only[SR,aN,aO,bI,bF];done)|(simp only[SR,aN,aO,bI,bF];with_reducible exact rfl)) (WkL.cons (Wk.ro _ _) .nil) (by first|rfl|simp only[List.length_cons,List.length_nil,Nat.reduceAdd,V.ids,V.idsL,idsA,entOk,List.all_cons,List.all_nil,Bool.and_self,Bool.and_true,Bool.true_and,ltB,noId,Nat.reduceLT,decide_true,Bool.true_eq_false,bN,bP,bO,bQ,aE,aK,aF,aL]) rfl rfl rfl (by first|rfl|simp only[List.length_cons,List.length_nil,Nat.reduceAdd,V.ids,V.idsL,idsA,entOk,List.all_cons,List.all_nil,Bool.and_self,Bool.and_true,Bool.true_and,ltB,noId,Nat.reduceLT,decide_true,Bool.true_eq_false,bN,bP,bO,bQ,aE,aK,aF,aL]) (by intro p hp;simp only[gV,SR,Ent.ren,List.mem_cons,List.not_mem_nil,or_false,aN,aO,bI,bF]at hp;rcases hp with rfl<;>rfl) (by simp only[gV,Ent.ren,SR,aN,aO,bI,bF,wrl,putE,SC,SD,Nat.reduceBEq,Nat.reduceLT,Nat.reduceSub,Nat.reduceAdd,Nat.reduceMul,Nat.reduceLeDiff,Nat.reduceEqDiff,reduceCtorEq,Int.reduceLT,Int.reduceLE,Int.reduceEq,Int.reduceNe,Int.reduceBEq,Int.reduceBNe,Int.reduceAdd,Int.reduceSub,Int.reduceMul,Int.reduceToNat];with_reducible exact rfl) ?_
     refine goG gL TI ?_;refine dB [2] h3 TI (A4 @aE @aK @aF @aL) (A4 @aN @aO @bI @bF) ?_;refine goG gL TI ?_;refine wdG gL TY ?_;refine AR.callP h4 @cW (A4 @aE @aK @aF @aL) ?_;refine goG gL TI ?_;refine wG gL (A5 ha hln hA hm1 @List.length_map.{0,0}) ?_;refine ALp.cutP 1 [(5,.sl ((sn (m+1)).map vaV) (.own 0)),(11,.sl (l.map vaV) .ro),(12,(.im (.int .i64 (l.length)))),(13,(.im (.int .i64 ((((m+1:Nat)):Int)))))] [.tip 96 6 (sn (m+1)).length] (A4 @aE @aK @aF @aL) ?_;rw[hV];exact hn2 hV
 obtain rfl:m=l.length:=by omega
 clear hnext
 have e0:vErr (sn l.length) (l.drop l.length)=0:=by rw[List.drop_length];cases sn l.length<;>rfl
 rw[e0]
 refine wG gL @Int.lt_irrefl ?_
 exact aD
theorem Hl(l:List Int): ∀a b:Int,l.foldl max (max a b)=max a (l.foldl max b):=by
 induction l with
 | nil=>intro a b;rfl
 | cons x l ih=>intro a b;simp only[List.foldl_cons];rw[←ih,show max (max a b) x=max a (max b x) by omega]
theorem BI(M:Int)(hM:0≤M){α:Type}(f:α→Int)(l:List α):mx (l.map fun x=>min (f x) M)=min (mx (l.map f)) M:=by
 have h: ∀(l:List α) (a:Int),(l.map fun x=>min (f x) M).foldl max (min a M)=min ((l.map f).foldl max a) M:=by
  intro l
  induction l with
  | nil=>intro a;rfl
  | cons x l ih=>intro a;simp only[List.map_cons,List.foldl_cons];rw[←ih,show max (min a M) (min (f x) M)=min (max a (f x)) M by omega]
 have:=h l 0
 rwa [show min (0:Int) M=0 by omega]at this
theorem HB{α:Type}(f:α→Int){l:List α}(hl:l≠[])(hf: ∀x∈l,1≤f x):mx (l.map fun x=>f x-1)=mx (l.map f)-1:=by
 have h: ∀(l:List α) (a:Int),(l.map fun x=>f x-1).foldl max (a-1)=(l.map f).foldl max a-1:=by
  intro l
  induction l with
  | nil=>intro a;rfl
  | cons x l ih=>intro a;simp only[List.map_cons,List.foldl_cons];rw[←ih,show max (a-1) (f x-1)=max a (f x)-1 by omega]
 match l,hl with
 | x::r,_ =>
  have h1:=hf x (by simp)
  have h2:=h r (f x);unfold mx;simp only[List.map_cons,List.foldl_cons];rw[show max 0 (f x-1)=f x-1 by omega,show max 0 (f x)=f x by omega,h2]
theorem II(t:Nd):1≤depT t:=by rw[Dg];have:=Tq ((subs t).map dep);omega
def dpm(M:Int)(t:Nd):Int:=mx ((subs t).map fun c=>min (dep c) M)
theorem CR{M:Int}(hM:0≤M)(t:Nd):dpm M t=min (depT t-1) M:=by
 unfold dpm
 rw[BI M hM dep,Dg]
 congr 1
 omega
theorem IF{M:Int}(hM:0≤M){l:List Nd}(hl:l≠[]):mx (l.map (dpm M))+1=min (dep l) (M+1):=by
 have e:l.map (dpm M)=l.map fun t=>min (depT t-1) M:=List.map_congr_left fun t _=>CR hM t
 rw[e,BI M hM (fun t=>depT t-1),HB depT hl fun t _=>II t]
 unfold dep
 omega
theorem CQ{M:Int}(b:Int)(hb:0≤b)(t:Nd):((t.cs.map fun c=>min (dep c) M).foldl max (max (max b (min (dep t.l) M)) (min (dep t.el) M)))=max b (dpm M t):=by
 unfold dpm mx subs
 simp only[List.map_cons,List.foldl_cons]
 rw[show max (max b (min (dep t.l) M)) (min (dep t.el) M)=max b (max (max 0 (min (dep t.l) M)) (min (dep t.el) M)) by omega,Hl]
theorem Xd{α:Type}(f:α→Int){l:List α}{m:Nat}(h:m<l.length)(a:Int):max (((l.take m).map f).foldl max a) (f l[m])=((l.take (m+1)).map f).foldl max a:=by
 rw[List.take_succ_eq_append_getElem h,List.map_append,List.foldl_append]
 rfl
theorem Rh{a b:Int}(h:b>a):max a b=b:=by omega
theorem Kg{a b:Int}(h: ¬b>a):max a b=a:=by omega
theorem Qh{n:Int}(h0: -9223372036854775807≤n)(h1:n≤9223372036854775807):IntKind.i64.wrap (n-1)=n-1:=cI (by omega)
def iF:=A10 @oN @lG @mC @qC @mB @mA @lZ @oH @fH @jU
theorem EC: ∀l:List Nd,fitNL l→ ∀M:Int, -1≤M→M≤4194304→PC Tryz.prog 180 [.sl (l.map ndV) .ro,(.im (.int .i64 (M)))] (.im (.int .i64 (min (dep l) (M+1)))):=by
 refine jN fun l hl hf M h0 h1=> ?_
 have hl1:=hf.1
 have hd0:=Fs l
 refine pcEnt 73 Tryz.func180 rfl [(0,.sl (l.map ndV) .ro),(1,(.im (.int .i64 (M))))] ?_
 by_cases hz:l.length=0
 ·have hz':(l.length:Int)=0:=by omega
  obtain rfl:l=[]:=List.length_eq_zero_iff.1 hz;rw[show min (dep []) (M+1)=0 by rw[show dep []=0 from rfl];omega]
  refine wG iF TI ?_;exact aD
 have hz': ¬(l.length:Int)=0:=by omega
 by_cases hM:M<0
 ·rw[show min (dep l) (M+1)=0 by omega]
  refine wG iF (A3 hz' hM @List.length_map.{0,0}) ?_;exact aD
 have hne:l≠[]:=fun h=>hz (by rw[h];rfl)
 rw[←IF (by omega) hne]
 have hM0:0≤M:=by omega
 refine wG iF (A3 hz' hM @List.length_map.{0,0}) ?_
 refine aT ?_
 refine ALp.cutP 0 [(0,.sl (l.map ndV) .ro),(1,(.im (.int .i64 (M)))),(5,(.im (.int .i64 (mx ((l.take (0)).map (dpm M)))))),(6,(.im (.int .i64 ((((0:Nat)):Int)))))] [] (A4 aP aG aM aU) ?_
 refine ALp.upto l.length (fun _=>True) (fun m=>⟨dn 73 [(0,.sl (l.map ndV) .ro),(1,(.im (.int .i64 (M)))),(5,(.im (.int .i64 (mx ((l.take (m)).map (dpm M)))))),(6,(.im (.int .i64 ((((m:Nat)):Int)))))],ofl []⟩) ?_ 0 (Nat.zero_le _) trivial
 intro m hm _ hnext
 by_cases hlt:m<l.length
 case neg =>
  obtain rfl:m=l.length:=by omega
  clear hnext;rw[List.take_length]
  have hb:mx (l.map (dpm M))≤M:=BJ hM0 fun x hx=>by
   obtain⟨t,_,rfl⟩:=List.mem_map.1 hx;rw[CR hM0];omega
  have hb0:=Tq (l.map (dpm M));have hw:IntKind.i64.wrap (mx (l.map (dpm M))+1)=mx (l.map (dpm M))+1:=cI (by omega)
  refine wG iF (A3 @Int.lt_irrefl @List.length_map.{0,0} hw) ?_;exact aD
 have hlt':(m:Int)<(l.length:Int):=by omega
 have hm1:=aQ hlt (by omega)
 have hg:=bJ hlt
 have ht:=hf.2 _ (List.getElem_mem hlt)
 have hw:=Qh (n:=M) (by omega) (by omega)
 obtain⟨_,hs2⟩:=vM ht
 have hcs:=(lJ ht).2.2.2.2.2.1
 have hR: ∀c∈subs l[m],PC Tryz.prog 180 [.sl (c.map ndV) .ro,(.im (.int .i64 (M-1)))] (.im (.int .i64 (min (dep c) M))):=fun c hc=>by
  have:=hl l[m] (List.getElem_mem hlt) c hc (hs2 c hc) (M-1) (by omega) (by omega)
  rwa [show M-1+1=M by omega]at this
 have q1:=hR l[m].l (by simp[subs])
 have q2:=hR l[m].el (by simp[subs])
 have q3:=fun c (hc:c∈l[m].cs)=>hR c (by simp[subs,hc])
 have hst:=CQ (M:=M) (mx ((l.take m).map (dpm M))) (Tq _) l[m]
 rw[Kf (dpm M) hlt]at hst
 have hn2:=hnext (m+1) (by omega) (by omega) trivial
 rw[←hst]at hn2
 clear hnext hst hR hs2
 generalize mx ((l.take m).map (dpm M))=b at hn2 ⊢
 generalize min (dep l[m].l) M=v1 at q1 hn2 ⊢
 generalize min (dep l[m].el) M=v2 at q2 hn2 ⊢
 refine wG iF (A4 hlt' hg hw ND) ?_
 refine AR.callP q1 TI (A4 aP aG aM aU) ?_
 refine goG iF TI ?_
 refine wG iF TI ?_
 refine AWp.tail (ι:=Unit) (fun _=>⟨dn 73 [(0,.sl (l.map ndV) .ro),(1,(.im (.int .i64 (M)))),(5,(.im (.int .i64 (max b v1)))),(6,(.im (.int .i64 ((m:Int)))))],ofl []⟩) (fun _=> ?_) (fun rest ht=> ?_)
 case refine_2 =>
  have ht:=ht ();refine cN rfl rfl (fun g=> ?_) (fun g=> ?_)
  ·rw[Rh (of_decide_eq_true g)]at ht
   refine wG iF TI ?_;refine AWp.cutP 0 [(0,.sl (l.map ndV) .ro),(1,(.im (.int .i64 (M)))),(5,(.im (.int .i64 (v1)))),(6,(.im (.int .i64 ((m:Int)))))] [] (AI aG aM) ?_;exact ht
  ·rw[Kg (of_decide_eq_false g)]at ht
   refine wG iF TI ?_;refine AWp.cutP 0 [(0,.sl (l.map ndV) .ro),(1,(.im (.int .i64 (M)))),(5,(.im (.int .i64 (b)))),(6,(.im (.int .i64 ((m:Int)))))] [] (AI aG aM) ?_;exact ht
 generalize max b v1=b1 at hn2 ⊢
 refine wG iF (A4 hlt' hg hw ND) ?_
 refine AR.callP q2 TI (A4 aP aG aM aU) ?_
 refine goG iF TI ?_
 refine wG iF TI ?_
 refine AWp.tail (ι:=Unit) (fun _=>⟨dn 73 [(0,.sl (l.map ndV) .ro),(1,(.im (.int .i64 (M)))),(5,(.im (.int .i64 (max b1 v2)))),(6,(.im (.int .i64 ((m:Int)))))],ofl []⟩) (fun _=> ?_) (fun rest ht=> ?_)
 case refine_2 =>
  have ht:=ht ();refine cN rfl rfl (fun g=> ?_) (fun g=> ?_)
  ·rw[Rh (of_decide_eq_true g)]at ht
   refine wG iF TI ?_;refine AWp.cutP 0 [(0,.sl (l.map ndV) .ro),(1,(.im (.int .i64 (M)))),(5,(.im (.int .i64 (v2)))),(6,(.im (.int .i64 ((m:Int)))))] [] (AI aG aM) ?_;exact ht
  ·rw[Kg (of_decide_eq_false g)]at ht
   refine wG iF TI ?_;refine AWp.cutP 0 [(0,.sl (l.map ndV) .ro),(1,(.im (.int .i64 (M)))),(5,(.im (.int .i64 (b1)))),(6,(.im (.int .i64 ((m:Int)))))] [] (AI aG aM) ?_;exact ht
 generalize max b1 v2=b2 at hn2 ⊢
 refine wG iF TI ?_
 refine aT ?_
 refine ALp.cutP 0 [(0,.sl (l.map ndV) .ro),(1,(.im (.int .i64 (M)))),(5,(.im (.int .i64 (((l[m].cs.take (0)).map fun c=>min (dep c) M).foldl max b2)))),(6,(.im (.int .i64 ((m:Int))))),(8,(.im (.int .i64 ((((0:Nat)):Int)))))] [] (A4 aP aG aM aU) ?_
 refine ALp.upto l[m].cs.length (fun _=>True) (fun j=>⟨dn 73 [(0,.sl (l.map ndV) .ro),(1,(.im (.int .i64 (M)))),(5,(.im (.int .i64 (((l[m].cs.take (j)).map fun c=>min (dep c) M).foldl max b2)))),(6,(.im (.int .i64 ((m:Int))))),(8,(.im (.int .i64 ((((j:Nat)):Int)))))],ofl []⟩) ?_ 0 (Nat.zero_le _) trivial
 intro j hj _ hnext2
 by_cases hlu:j<l[m].cs.length
 case neg =>
  obtain rfl:j=l[m].cs.length:=by omega
  clear hnext2;rw[List.take_length];generalize (l[m].cs.map fun c=>min (dep c) M).foldl max b2=e at hn2 ⊢
  refine whG iF (A5 hlt' hg ND @Int.lt_irrefl @List.length_map.{0,0}) ?_;refine Blk'.here (Thn.n ?_);refine wG iF hm1 ?_;refine ALp.cutP 0 [(0,.sl (l.map ndV) .ro),(1,(.im (.int .i64 (M)))),(5,(.im (.int .i64 (e)))),(6,(.im (.int .i64 ((((m+1:Nat)):Int)))))] [] (A4 aP aG aM aU) ?_;exact hn2
 have hlu':(j:Int)<(l[m].cs.length:Int):=by omega
 have hj1:=aQ hlu (by omega)
 have hg2:=bJ hlu
 have hc2:=q3 l[m].cs[j] (List.getElem_mem hlu)
 have hn3:=hnext2 (j+1) (by omega) (by omega) trivial
 rw[←Xd (fun c=>min (dep c) M) hlu]at hn3
 generalize ((l[m].cs.take j).map fun c=>min (dep c) M).foldl max b2=b3 at hn3 ⊢
 generalize min (dep l[m].cs[j]) M=v3 at hc2 hn3 ⊢
 refine wG iF (A7 hlt' hg hlu' hg2 hw @List.length_map.{0,0} ND) ?_
 refine AR.callP hc2 Ez (A4 aP aG aM aU) ?_
 refine goG iF TI ?_
 by_cases g:v3>b3
 ·rw[Rh g]at hn3
  refine wG iF (AI g hj1) ?_;refine ALp.cutP 0 [(0,.sl (l.map ndV) .ro),(1,(.im (.int .i64 (M)))),(5,(.im (.int .i64 (v3)))),(6,(.im (.int .i64 ((m:Int))))),(8,(.im (.int .i64 ((((j+1:Nat)):Int)))))] [] (A4 aP aG aM aU) ?_;exact hn3
 ·rw[Kg g]at hn3
  refine wG iF (AI g hj1) ?_;refine ALp.cutP 0 [(0,.sl (l.map ndV) .ro),(1,(.im (.int .i64 (M)))),(5,(.im (.int .i64 (b3)))),(6,(.im (.int .i64 ((m:Int))))),(8,(.im (.int .i64 ((((j+1:Nat)):Int)))))] [] (A4 aP aG aM aU) ?_;exact hn3
theorem jG{P:Program}{fn:Func}{N:Nat}{s:List (Nat×V)}{l:List Ent}{e:Exit}{t0 t1 t2 t3:Nat}{a b c d:V}(hr:fn.results= #[.tmp t0,.tmp t1,.tmp t2,.tmp t3]:=by rfl)(he:e= .normal∨e= .ret:=by first|exact .inl rfl|exact .inr rfl)(h0:St.ev ⟨dn N s,ofl l⟩ (.tmp t0)=a:=by rfl)(h1:St.ev ⟨dn N s,ofl l⟩ (.tmp t1)=b:=by rfl)
  (h2:St.ev ⟨dn N s,ofl l⟩ (.tmp t2)=c:=by rfl) (h3:St.ev ⟨dn N s,ofl l⟩ (.tmp t3)=d:=by rfl) (hi:(V.tu [a,b,c,d]).ids noId=true:=by rfl):Fin P fn stF (fun z st=>z= .tu [a,b,c,d]∧st=stF) e ⟨dn N s,ofl l⟩ :=
 ⟨he,.tu [a,b,c,d],.tu [a,b,c,d],noId,.inr ⟨by simp[hr],_,rfl,by simp[hr],fun i hi hi'=>by
  simp only[hr]
  match i,hi' with
  | 0,_=>exact kK (r:= .tmp t0) (congrArg some h0)
  | 1,_=>exact kK (r:= .tmp t1) (congrArg some h1)
  | 2,_=>exact kK (r:= .tmp t2) (congrArg some h2)
  | 3,_=>exact kK (r:= .tmp t3) (congrArg some h3)⟩,WkF.of (Wk.refl _) hi,fun i h=>absurd rfl h,fun i cs _ h=>(by cases h),rfl,rfl⟩
theorem GIX:strip true (.gi false .dead)= .gi false .dead∧strip false (.gi false .dead)= .dead:=⟨rfl,rfl⟩
def okK(k:Int):Bool:=decide (1≤k)&&decide (k≤15)
theorem IV(k:Int):PC Tryz.prog 262 [(.im (.int .i64 (k)))] (.tu [(.im (.int .i64 (nE k))),(.im (.bool (nmd k))),(.im (.bool (lst k))),(.im (.bool (okK k)))]):=by
 refine pcEnt 29 Tryz.func262 rfl [(0,(.im (.int .i64 (k))))] ?_
 by_cases h1:k=1
 ·subst h1
  rw[show nE 1=1 from rfl,show nmd 1=true from rfl,show lst 1=false from rfl,show okK 1=true from rfl]
  refine wG TI TI ?_;exact jG
 by_cases h2:k=2
 ·subst h2
  rw[show nE 2=2 from rfl,show nmd 2=false from rfl,show lst 2=false from rfl,show okK 2=true from rfl]
  refine wG TI TI ?_;exact jG
 by_cases h3:k=3
 ·subst h3
  rw[show nE 3=0 from rfl,show nmd 3=true from rfl,show lst 3=false from rfl,show okK 3=true from rfl]
  refine wG TI TI ?_;exact jG
 by_cases h4:k=4
 ·subst h4
  rw[show nE 4=1 from rfl,show nmd 4=false from rfl,show lst 4=false from rfl,show okK 4=true from rfl]
  refine wG TI TI ?_;exact jG
 by_cases h5:k=5
 ·subst h5
  rw[show nE 5=0 from rfl,show nmd 5=true from rfl,show lst 5=false from rfl,show okK 5=true from rfl]
  refine wG TI TI ?_;exact jG
 by_cases h6:k=6
 ·subst h6
  rw[show nE 6=1 from rfl,show nmd 6=false from rfl,show lst 6=true from rfl,show okK 6=true from rfl]
  refine wG TI TI ?_;exact jG
 by_cases h7:k=7
 ·subst h7
  rw[show nE 7=1 from rfl,show nmd 7=false from rfl,show lst 7=true from rfl,show okK 7=true from rfl]
  refine wG TI TI ?_;exact jG
 by_cases h8:k=8
 ·subst h8
  rw[show nE 8=0 from rfl,show nmd 8=false from rfl,show lst 8=true from rfl,show okK 8=true from rfl]
  refine wG TI TI ?_;exact jG
 by_cases h9:k=9
 ·subst h9
  rw[show nE 9=1 from rfl,show nmd 9=false from rfl,show lst 9=false from rfl,show okK 9=true from rfl]
  refine wG TI TI ?_;exact jG
 by_cases h10:k=10
 ·subst h10
  rw[show nE 10=0 from rfl,show nmd 10=false from rfl,show lst 10=false from rfl,show okK 10=true from rfl]
  refine wG TI TI ?_;exact jG
 by_cases h11:k=11
 ·subst h11
  rw[show nE 11=0 from rfl,show nmd 11=false from rfl,show lst 11=false from rfl,show okK 11=true from rfl]
  refine wG TI TI ?_;exact jG
 by_cases h12:k=12
 ·subst h12
  rw[show nE 12=0 from rfl,show nmd 12=true from rfl,show lst 12=false from rfl,show okK 12=true from rfl]
  refine wG TI TI ?_;exact jG
 by_cases h13:k=13
 ·subst h13
  rw[show nE 13=0 from rfl,show nmd 13=true from rfl,show lst 13=false from rfl,show okK 13=true from rfl]
  refine wG TI TI ?_;exact jG
 by_cases h14:k=14
 ·subst h14
  rw[show nE 14=0 from rfl,show nmd 14=false from rfl,show lst 14=false from rfl,show okK 14=true from rfl]
  refine wG TI TI ?_;exact jG
 by_cases h15:k=15
 ·subst h15
  rw[show nE 15=0 from rfl,show nmd 15=false from rfl,show lst 15=false from rfl,show okK 15=true from rfl]
  refine wG TI TI ?_;exact jG
 rw[show nE k=0 by simp[nE,h1,h2,h3,h4,h5,h6,h7,h8,h9,h10,h11,h12,h13,h14,h15],show nmd k=false by simp[nmd,h1,h2,h3,h4,h5,h6,h7,h8,h9,h10,h11,h12,h13,h14,h15],show lst k=false by simp[lst,h1,h2,h3,h4,h5,h6,h7,h8,h9,h10,h11,h12,h13,h14,h15],show okK k=false by simp[okK];omega]
 refine wG TI (A15 h1 h2 h3 h4 h5 h6 h7 h8 h9 h10 h11 h12 h13 h14 h15) ?_
 exact jG
def fJ:=A16 @oN @cJ @lG @jV @fD @dY @mC @qC @fG @jA @xV @lD @lC @mB @mA (A8 @lZ @oH @fH @cH @jU @jT @eF @dM)
theorem NK(s:Nd)(hf:fitN s):PC Tryz.prog 232 [ndV s] (.im (.bool (stT s))):=by
 obtain⟨hI,hsz,⟨he1,he2⟩,h4,h5,h6,h7⟩:=lJ hf
 have hn:=zD s.name hsz
 have hsh:=IV s.kind
 clear h4 h5 h7 hI
 obtain⟨k,w,n,e,l,el,cs⟩:=s
 rw[show stT (.mk k w n e l el cs)=(okK k&&decide ((e.length:Int)=nE k)&&(if nmd k then nameT n else eqS n ByteArray.empty)&&(lst k||decide (l.length=0))&&(k==6||decide (el.length=0)) &&
  (if k==2 then w==1||w==2||w==4 else w==0)&&(if k==9 then decide (1≤cs.length)&&decide (cs.length≤64)else decide (cs.length=0))&&e.all efm)from rfl]
 have hn:PC Tryz.prog 117 [.im (.string n)] (.im (.bool (nameT n))):=hn
 have hsh:PC Tryz.prog 262 [(.im (.int .i64 (k)))] (.tu [(.im (.int .i64 (nE k))),(.im (.bool (nmd k))),(.im (.bool (lst k))),(.im (.bool (okK k)))]):=hsh
 have he1:e.length≤4194304:=he1
 have he2: ∀x∈e,fitE x:=he2
 obtain⟨eb,heb⟩: ∃eb,(n.toList==({data:= #[]}:ByteArray).toList)=eb:=⟨_,rfl⟩
 have heq:eqS n ByteArray.empty=eb:=heb
 rw[heq]
 obtain⟨A0,hA0⟩: ∃A0,(okK k&&decide ((e.length:Int)=nE k)&&(if nmd k then nameT n else eb)&&(lst k||decide (l.length=0))&&(k==6||decide (el.length=0)))=A0:=⟨_,rfl⟩
 rw[hA0]
 refine pcEnt 132 Tryz.func232 rfl [(0,ndV (.mk k w n e l el cs))] ?_
 rw[gH]
 refine wG fJ TI ?_
 refine AR.callP hsh TI Ta ?_
 generalize okK k=c at hA0 ⊢
 generalize nmd k=a at hA0 ⊢
 generalize lst k=b at hA0 ⊢
 generalize nE k=ne at hA0 ⊢
 clear hsh
 refine goG fJ TI ?_
 refine Hg (Thn.n (AWp.seq ?_))
 refine AWp.tail (ι:=PLift (A0=true)) (fun i=>⟨dn 132 [(1,.pt 0 0),(2,(.im (.bool (false))))],ofl [.box [.im (.int .i64 (k)),.im (.int .i64 w),.im (.string n),.sl (e.map exV) .ro,.sl (l.map ndV) .ro,.sl (el.map ndV) .ro,.sl (cs.map nlV) .ro]]⟩) (fun i=> ?_) (fun rest ht=> ?_)
 ·obtain⟨hi⟩:=i
  rw[hi];clear hi hA0 hn heb heq;simp only[Bool.true_and];obtain⟨Wd,hWd⟩: ∃W,(if k==2 then w==1||w==2||w==4 else w==0)=W:=⟨_,rfl⟩
  obtain⟨Cd,hCd⟩: ∃W,(if k==9 then decide (1≤cs.length)&&decide (cs.length≤64)else decide (cs.length=0))=W:=⟨_,rfl⟩
  rw[hWd,hCd];refine wG fJ @List.length_map.{0,0} ?_;refine cN rfl rfl (fun g0=> ?_) (fun g0=> ?_)
  ·have he:Wd=false:=by
    rw[←hWd]
    by_cases k2:k=2<;>simp[k2]at g0⊢ <;>omega
   rw[he,Bool.false_and,Bool.false_and];refine wG fJ TI ?_;exact aD
  have he:Wd=true:=by
   rw[←hWd]
   by_cases k2:k=2<;>simp[k2]at g0⊢ <;>omega
  rw[he,Bool.true_and];clear g0 he hWd;refine wG fJ @List.length_map.{0,0} ?_;refine cN rfl rfl (fun g0=> ?_) (fun g0=> ?_)
  ·have he:Cd=false:=by
    rw[←hCd]
    by_cases k9:k=9<;>simp[k9, -List.length_eq_zero_iff]at g0⊢ <;>omega
   rw[he,Bool.false_and];refine wG fJ TI ?_;exact aD
  have he:Cd=true:=by
   rw[←hCd]
   by_cases k9:k=9<;>simp[k9, -List.length_eq_zero_iff]at g0⊢ <;>omega
  rw[he,Bool.true_and];clear g0 he hCd;refine wG fJ TI ?_;refine aT ?_;refine ALp.cutP 1 [(1,.pt 0 0),(2,(.im (.bool (false)))),(7,(.im (.int .i64 ((((0:Nat)):Int)))))] [.box [.im (.int .i64 (k)),.im (.int .i64 w),.im (.string n),.sl (e.map exV) .ro,.sl (l.map ndV) .ro,.sl (el.map ndV) .ro,.sl (cs.map nlV) .ro]] Ta ?_;refine ALp.upto e.length (AllTo efm e) (fun m=>⟨dn 132 [(1,.pt 0 0),(2,(.im (.bool (false)))),(7,(.im (.int .i64 ((((m:Nat)):Int)))))],ofl [.box [.im (.int .i64 (k)),.im (.int .i64 w),.im (.string n),.sl (e.map exV) .ro,.sl (l.map ndV) .ro,.sl (el.map ndV) .ro,.sl (cs.map nlV) .ro]]⟩) ?_ 0 (Nat.zero_le _) (AllTo.zero _ _)
  intro m hm hI hnext
  by_cases hlt:m<e.length
  ·have hlt':(m:Int)<(e.length:Int):=by omega
   have hm1:=aQ hlt (by omega)
   have hg:=bJ hlt;have hc:=Sc e[m] (he2 _ (List.getElem_mem hlt));refine wG fJ (A4 hlt' hg @List.length_map.{0,0} EX) ?_;cases b:efm e[m]with
   | true =>
    rw[b]at hc;refine AR.callP hc @bW Ta ?_;refine goG fJ TI ?_;refine wG fJ hm1 ?_;refine ALp.cutP 1 [(1,.pt 0 0),(2,(.im (.bool (false)))),(7,(.im (.int .i64 ((((m+1:Nat)):Int)))))] [.box [.im (.int .i64 (k)),.im (.int .i64 w),.im (.string n),.sl (e.map exV) .ro,.sl (l.map ndV) .ro,.sl (el.map ndV) .ro,.sl (cs.map nlV) .ro]] Ta ?_;exact hnext (m+1) (by omega) (by omega) (hI.succ hlt b)
   | false =>
    rw[b]at hc;refine AR.callP hc @bW Ta ?_;refine goG fJ TI ?_;refine wG fJ TI ?_;rw[eR hlt b];exact aD
  ·have hall:=hI.done (by omega)
   have hlt': ¬(m:Int)<(e.length:Int):=by omega
   clear hnext;rw[hall];refine wG fJ (AI hlt' @List.length_map.{0,0}) ?_;exact aD
 cases c with
 | false =>
  refine wG fJ @List.length_map.{0,0} ?_;rw[show A0=false by rw[←hA0];simp]
  simp only[Bool.false_and];exact aD
 | true =>
 by_cases hlen:(e.length:Int)=ne
 case neg =>
  refine wG fJ (AI hlen @List.length_map.{0,0}) ?_;rw[show A0=false by rw[←hA0];simp[hlen]]
  simp only[Bool.false_and];exact aD
 have hlen':=eq_true hlen
 have hab:(if a=true then nameT n else eb)=false→A0=false:=fun h=>by rw[←hA0,h];simp
 have hab':(if a=true then nameT n else eb)=true→((b||decide (l.length=0))&&(k==6||decide (el.length=0)))=A0:=fun h=>by rw[←hA0,h];simp[hlen]
 clear hA0
 cases a with
 | true =>
  generalize nameT n=nm at hn hab hab';cases nm with
  | false =>
   refine wG fJ (AI hlen' @List.length_map.{0,0}) ?_;refine AR.callP hn TI Ta ?_;refine goG fJ TI ?_;refine wG fJ TI ?_;rw[hab rfl];simp only[Bool.false_and];exact aD
  | true =>
   have hA0:=hab' rfl;clear hab hab';refine wG fJ (AI hlen' @List.length_map.{0,0}) ?_;refine AR.callP hn TI Ta ?_;refine goG fJ @List.length_map.{0,0} ?_;refine wG fJ TI ?_;refine cN rfl rfl (fun g0=> ?_) (fun g0=> ?_)
   ·have he:A0=false:=by rw[←hA0];cases b<;>by_cases k6:k=6<;>simp[k6, -List.length_eq_zero_iff]at g0⊢ <;>omega
    rw[he];simp only[Bool.false_and];refine wG fJ TI ?_;exact aD
   have he:A0=true:=by rw[←hA0];cases b<;>by_cases k6:k=6<;>simp[k6, -List.length_eq_zero_iff]at g0⊢ <;>omega
   refine wG fJ TI ?_;refine AWp.cutP 1 [(1,.pt 0 0),(2,(.im (.bool (false))))] [.box [.im (.int .i64 (k)),.im (.int .i64 w),.im (.string n),.sl (e.map exV) .ro,.sl (l.map ndV) .ro,.sl (el.map ndV) .ro,.sl (cs.map nlV) .ro]] (A3 aE aG aM) ?_;exact ht ⟨he⟩
 | false =>
  cases eb with
  | false =>
   refine wG fJ (A3 hlen' heb @List.length_map.{0,0}) ?_;rw[hab rfl];simp only[Bool.false_and];exact aD
  | true =>
   have hA0:=hab' rfl;clear hab hab';refine wG fJ (A4 hlen' heb GIX @List.length_map.{0,0}) ?_;refine cN rfl rfl (fun g0=> ?_) (fun g0=> ?_)
   ·have he:A0=false:=by rw[←hA0];cases b<;>by_cases k6:k=6<;>simp[k6, -List.length_eq_zero_iff]at g0⊢ <;>omega
    rw[he];simp only[Bool.false_and];refine wG fJ TI ?_;exact aD
   have he:A0=true:=by rw[←hA0];cases b<;>by_cases k6:k=6<;>simp[k6, -List.length_eq_zero_iff]at g0⊢ <;>omega
   refine wG fJ TI ?_;refine AWp.cutP 1 [(1,.pt 0 0),(2,(.im (.bool (false))))] [.box [.im (.int .i64 (k)),.im (.int .i64 w),.im (.string n),.sl (e.map exV) .ro,.sl (l.map ndV) .ro,.sl (el.map ndV) .ro,.sl (cs.map nlV) .ro]] (A3 aE aG aM) ?_;exact ht ⟨he⟩
end Go.Proofs.YtmbmmckagcdapaaGreatDoor
