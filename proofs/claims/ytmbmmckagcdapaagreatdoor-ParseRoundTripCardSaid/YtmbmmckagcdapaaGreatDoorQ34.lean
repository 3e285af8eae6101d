import Derived.Test.YtmbmmckagcdapaaGreatDoorQ22
import Derived.Test.YtmbmmckagcdapaaGreatDoorQ28
import Derived.Test.YtmbmmckagcdapaaGreatDoorQ27
import Derived.Test.YtmbmmckagcdapaaGreatDoorQ18
set_option maxHeartbeats 8000000
set_option linter.all false
namespace Go.Proofs.YtmbmmckagcdapaaGreatDoor
open Go.RowKit
theorem BJ{s:ByteArray}(h:okN s=false):nameT s=false:=by unfold nameT;rw[h];rfl
theorem UX{s:ByteArray}{m:Nat}(hm:m<s.size)(h:okB m (bAt s m)=false):okN s=false:=by
 unfold okN
 rw[List.all_eq_false]
 exact⟨m,by simpa using hm,by simp[h]⟩
theorem AW{s:ByteArray}(h:s.size=0):s={data:= #[]}:=by
 cases s with
 | mk d =>
  have h':d.size=0:=h;rw[Array.eq_empty_of_size_eq_zero h']
def rA:= @iC
theorem xX(s:ByteArray)(hs:s.size≤9223372036854775807):PC Tryz.prog 43 [.im (.string s)] (.im (.bool (nameT s))):=by
 refine pcEnt 62 Tryz.func43 rfl [(0,.im (.string s))] ?_
 refine wG rA TI ?_
 refine aP ?_
 refine ALp.cutP 1 [(0,.im (.string s)),(7,.itr 0)] [.iter s 0] TI ?_
 refine aW s.size (fun m=> ∀j,j<m→okB j (bAt s j)=true) (fun m=>⟨dn 62 [(0,.im (.string s)),(7,.itr 0)],ofl [.iter s m]⟩) ?_ 0 (Nat.zero_le _) (fun j hj=>absurd hj (Nat.not_lt_zero _))
 intro m hm hI hnext
 by_cases hlt:m<s.size
 ·have hbt:=RE s m hlt
  obtain⟨r,hr⟩: ∃r:Int,((Utf8.decode s m).1:Int)=r:=⟨_,rfl⟩
  have key:(r=bAt s m∧r<128∧(Utf8.decode s m).2=1)∨(128≤r∧128≤bAt s m):=by
   by_cases hb:(s[m]'hlt).toNat<128
   ·have hd:=decode_ascii s m hlt hb
    rw[hd]at hr ⊢;exact .inl ⟨by rw[hbt];exact hr.symm,by rw[←hr];exact Int.ofNat_lt.2 hb,rfl⟩
   ·have:=Gt s m hlt (by omega)
    exact .inr ⟨by omega,by rw[hbt];omega⟩
  refine wG rA (A3 hlt hr @if_true.{1}) ?_;refine cY rfl rfl (fun hE=> ?_) (fun hE=> ?_)
  ·have hn:okB m (bAt s m)=false:=by
    simp only[Bool.and_eq_true,Bool.or_eq_true,Bool.not_eq_true',Bool.or_eq_false_iff,Bool.and_eq_false_iff,decide_eq_true_eq,decide_eq_false_iff_not]at hE;unfold okB;simp only[Bool.or_eq_false_iff,Bool.and_eq_false_iff,decide_eq_false_iff_not,beq_eq_false_iff_ne];omega
   rw[BJ (UX hlt hn)];refine wG rA TI ?_;exact aB
  ·have hn:okB m (bAt s m)=true∧(Utf8.decode s m).2=1:=by
    simp only[Bool.and_eq_false_iff,Bool.or_eq_false_iff,Bool.not_eq_false',Bool.or_eq_true,Bool.and_eq_true,decide_eq_true_eq,decide_eq_false_iff_not]at hE;unfold okB;simp only[Bool.or_eq_true,Bool.and_eq_true,decide_eq_true_eq,beq_iff_eq];omega
   rw[hn.2];refine wG rA TI ?_;refine ALp.cutP 1 [(0,.im (.string s)),(7,.itr 0)] [.iter s (m+1)] TI ?_;exact hnext (m+1) (by omega) (by omega) (fun j hj=>by rcases Nat.lt_succ_iff_lt_or_eq.1 hj with h|rfl;exact hI j h;exact hn.1)
 ·obtain rfl:m=s.size:=by omega
  have hok:okN s=true:=by
   unfold okN;rw[List.all_eq_true];intro i hi;exact hI i (by simpa using hi)
  clear hnext;refine wG rA (AI hlt @if_false.{1}) ?_
  by_cases z:s.size=0
  ·have e0:(s.toList==({data:= #[]}:ByteArray).toList)=true:=by
    have:s={data:= #[]}:=AW z;rw[this];exact beq_self_eq_true _
   have hr:nameT s=false:=by unfold nameT;simp[z]
   rw[hr];refine wG rA (A3 e0 @Bool.not_true @Bool.false_and) ?_;exact aB
  have e0:(s.toList==({data:= #[]}:ByteArray).toList)=false:=by
   have:eqS s {data:= #[]}=false:=ZO.2 (fun e=>z (by rw[e];rfl))
   exact this
  by_cases z2:(s.size:Int)≤32
  case neg =>
   have hr:nameT s=false:=by
    unfold nameT;have:decide (s.size≤32)=false:=by simp;omega
    rw[this,Bool.and_false]
   rw[hr];refine wG rA (A4 e0 z2 @Bool.not_false @Bool.true_and) ?_;exact aB
  have a1:({data:= #[32]}:ByteArray).size+s.size≤9223372036854775807:=by
   show 1+s.size≤_
   omega
  have a2:(({data:= #[32]}:ByteArray)++s).size+({data:= #[32]}:ByteArray).size≤9223372036854775807:=by
   rw[ByteArray.size_append];show 1+s.size+1≤_
   omega
  have hl:(({data:= #[32]}:ByteArray)++s++({data:= #[32]}:ByteArray)).data.toList=32::(s.data.toList++[32]):=by
   simp[ByteArray.data_append]
  have hC:=pL ⟨wtxt.toArray⟩ (({data:= #[32]}:ByteArray)++s++({data:= #[32]}:ByteArray)) (of_decide_eq_true (by kernel_rfl))
  rw[hl,show(ByteArray.mk wtxt.toArray).data.toList=wtxt from rfl,Iq s hok]at hC
  have hr:nameT s= !words.any (eqS · s):=by
   unfold nameT;have h1:decide (0<s.size)=true:=by simp;omega
   have h2:decide (s.size≤32)=true:=by simp;omega
   rw[hok,h1,h2,Bool.true_and,Bool.and_true,Bool.and_true]
  rw[hr];generalize words.any (eqS · s)=q at hC ⊢;refine wG rA (A6 e0 z2 a1 a2 @Bool.not_false @Bool.true_and) ?_;refine Ej hC rfl rfl (iH (by simp only[St.ev,V.ofVal,V.ofCell,V.size_im,fT,dE,iJ,Nat.reduceLT,Nat.reduceEqDiff,reduceIte,if_true,if_false,List.map_cons,List.map_nil,List.nil_append,List.append_nil,true_and];exact congrArg (fun z=>[V.im (Value.string z),_]) (by kernel_rfl))) (by first|rfl|simp only[List.length_cons,List.length_nil,Nat.reduceAdd,V.ids,V.idsL,idsA,entOk,List.all_cons,List.all_nil,Bool.and_self,Bool.and_true,Bool.true_and,ltB,noId,Nat.reduceLT,decide_true,Bool.true_eq_false,bQ,bS,bR,bT]) ?_
  refine goG rA TI ?_;refine wG rA TI ?_;exact aB
theorem xJ{o n:Int}{s:ByteArray}{w:Int}{m:Nat}{b:Bool}(h:ebase o n s w m=true↔b=true):ebase o n s w m=b:=Bool.eq_iff_iff.2 h
def Oa:=AI @fB @dK
theorem Vl{x:Ex}{r:Bool}(h:PC Tryz.prog 74 [exV x] (.im (.bool (r)))):PC Tryz.prog 141 [exV x] (.im (.bool (!r))):=by
 refine pcEnt 6 Tryz.func141 rfl [(0,exV x)] ?_
 simp only[bH]
 refine wG Oa TI ?_
 refine AR.callP h @bH (A4 @aD @aL @aE @aN) ?_
 refine goG Oa TI ?_
 refine wG Oa TI ?_
 exact aB
def cB:=A16 @cO @nP @hU @dR @kR @gM @pA @Cj @xB @Ci @lU @zZ @cN @nN @hM (AI @dK @dA)
theorem DF: ∀(t:Ex),fitE t→PC Tryz.prog 74 [exV t] (.im (.bool (efm t))):=by
 refine Ex.induct fun o n s w l hE=> ?_
 intro hfit
 obtain⟨hl1,hfE⟩:=pZ hfit
 have hsz:=BW hfit
 have hc: ∀t∈l,PC Tryz.prog 141 [exV t] (.im (.bool (!efm t))):=fun t ht=>Vl (hE t ht (hfE t ht))
 have hcc:=oN (gs:=l) (F:=141) (fun t=> !efm t) hl1 hc
 have hnm:=xX s hsz
 have q0:((l.length:Int)=0)=(l.length=0):=propext (by omega)
 have q1:((l.length:Int)=1)=(l.length=1):=propext (by omega)
 have q2:((l.length:Int)=2)=(l.length=2):=propext (by omega)
 have hss:(s.toList==s.toList)=true:=beq_self_eq_true _
 refine pcEnt 110 Tryz.func74 rfl [(0,exV (.mk o n s w l))] ?_
 simp only[gV]
 rw[vB]
 by_cases h1:o=1
 ·subst h1
  have he:ebase 1 n s w l.length=((s.toList==ByteArray.empty.toList)&&decide (w=0)&&decide ((l.length:Int)=0)):=xJ (by
   unfold ebase
   simp[eqS,q0,q1,q2,and_assoc, -List.length_eq_zero_iff])
  rw[he];refine wG cB TI ?_;cases hb:((s.toList==ByteArray.empty.toList)&&decide (w=0)&&decide ((l.length:Int)=0))with
  | true =>
   refine wG cB (AI hb hss) ?_;refine AR.callP hcc TI (A4 @aD @aL @aE @aN) ?_;refine goG cB TI ?_;rw[lC];refine wG cB TI ?_;rw[Bool.true_and];exact aB
  | false =>
   refine wG cB (AI hb hss) ?_;rw[Bool.false_and];exact aB
 by_cases h2:o=2
 ·subst h2
  cases hN:nameT s
  case true =>
   have he:ebase 2 n s w l.length=(decide (n=0)&&decide (w=0)&&decide ((l.length:Int)=0)):=xJ (by
    unfold ebase
    simp[hN,q0,q1,q2,and_assoc, -List.length_eq_zero_iff])
   rw[he];refine wG cB @Bool.and_true ?_;rw[hN]at hnm;refine AR.callP hnm TI (A4 @aD @aL @aE @aN) ?_;refine goG cB TI ?_;refine wG cB @Bool.and_true ?_;cases hb:(decide (n=0)&&decide (w=0)&&decide ((l.length:Int)=0))with
   | true =>
    refine wG cB (A3 hb hss @Bool.and_true) ?_;refine AR.callP hcc TI (A4 @aD @aL @aE @aN) ?_;refine goG cB TI ?_;rw[lC];refine wG cB TI ?_;rw[Bool.true_and];exact aB
   | false =>
    refine wG cB (A3 hb hss @Bool.and_true) ?_;rw[Bool.false_and];exact aB
  case false =>
   have he:ebase 2 n s w l.length=false:=by
    unfold ebase;simp[hN]
   rw[he,Bool.false_and];refine wG cB TI ?_;rw[hN]at hnm;refine AR.callP hnm TI (A4 @aD @aL @aE @aN) ?_;refine goG cB TI ?_;refine wG cB TI ?_;exact aB
 by_cases h3:o≥3∧o≤15
 ·obtain⟨h3,h4⟩:=h3
  have he:ebase o n s w l.length=(decide (n=0)&&(s.toList==ByteArray.empty.toList)&&decide (w=0)&&decide ((l.length:Int)=2)):=xJ (by
   unfold ebase
   simp[eqS,h1,h2,h3,h4,q0,q1,q2,and_assoc, -List.length_eq_zero_iff])
  rw[he];refine wG cB (A4 h1 h2 h3 h4) ?_;cases hb:(decide (n=0)&&(s.toList==ByteArray.empty.toList)&&decide (w=0)&&decide ((l.length:Int)=2))with
  | true =>
   refine wG cB (A6 hb hss h1 h2 h3 h4) ?_;refine AR.callP hcc TI (A4 @aD @aL @aE @aN) ?_;refine goG cB TI ?_;rw[lC];refine wG cB TI ?_;rw[Bool.true_and];exact aB
  | false =>
   refine wG cB (A6 hb hss h1 h2 h3 h4) ?_;rw[Bool.false_and];exact aB
 have h3': ¬(o≥3)∨ ¬(o≤15):=by omega
 have e3:(decide (o≥3)&&decide (o≤15))=false:=by simp only[Bool.and_eq_false_iff,decide_eq_false_iff_not];exact h3'
 by_cases h16:o=16
 ·subst h16
  have he:ebase 16 n s w l.length=(decide (n=0)&&(s.toList==ByteArray.empty.toList)&&decide (w=0)&&decide ((l.length:Int)=1)):=xJ (by
   unfold ebase
   simp[eqS,q0,q1,q2,and_assoc, -List.length_eq_zero_iff])
  rw[he];refine wG cB TI ?_;cases hb:(decide (n=0)&&(s.toList==ByteArray.empty.toList)&&decide (w=0)&&decide ((l.length:Int)=1))with
  | true =>
   refine wG cB (AI hb hss) ?_;refine AR.callP hcc TI (A4 @aD @aL @aE @aN) ?_;refine goG cB TI ?_;rw[lC];refine wG cB TI ?_;rw[Bool.true_and];exact aB
  | false =>
   refine wG cB (AI hb hss) ?_;rw[Bool.false_and];exact aB
 by_cases h17:o=17
 ·subst h17
  have he:ebase 17 n s w l.length=(decide (n=0)&&(s.toList==ByteArray.empty.toList)&&decide (w=0)&&decide ((l.length:Int)=1)):=xJ (by
   unfold ebase
   simp[eqS,q0,q1,q2,and_assoc, -List.length_eq_zero_iff])
  rw[he];refine wG cB TI ?_;cases hb:(decide (n=0)&&(s.toList==ByteArray.empty.toList)&&decide (w=0)&&decide ((l.length:Int)=1))with
  | true =>
   refine wG cB (AI hb hss) ?_;refine AR.callP hcc TI (A4 @aD @aL @aE @aN) ?_;refine goG cB TI ?_;rw[lC];refine wG cB TI ?_;rw[Bool.true_and];exact aB
  | false =>
   refine wG cB (AI hb hss) ?_;rw[Bool.false_and];exact aB
 by_cases h18:o=18
 ·subst h18
  by_cases w1:w=1
  ·subst w1
   have he:ebase 18 n s 1 l.length=(decide (n=0)&&(s.toList==ByteArray.empty.toList)&&decide ((l.length:Int)=1)):=xJ (by
    unfold ebase
    simp[eqS,q0,q1,q2,and_assoc, -List.length_eq_zero_iff])
   rw[he];refine wG cB TI ?_;cases hb:(decide (n=0)&&(s.toList==ByteArray.empty.toList)&&decide ((l.length:Int)=1))with
   | true =>
    refine wG cB (AI hb hss) ?_;refine AR.callP hcc TI (A4 @aD @aL @aE @aN) ?_;refine goG cB TI ?_;rw[lC];refine wG cB TI ?_;rw[Bool.true_and];exact aB
   | false =>
    refine wG cB (AI hb hss) ?_;rw[Bool.false_and];exact aB
  by_cases w2:w=2
  ·subst w2
   have he:ebase 18 n s 2 l.length=(decide (n=0)&&(s.toList==ByteArray.empty.toList)&&decide ((l.length:Int)=1)):=xJ (by
    unfold ebase
    simp[eqS,q0,q1,q2,and_assoc, -List.length_eq_zero_iff])
   rw[he];refine wG cB TI ?_;cases hb:(decide (n=0)&&(s.toList==ByteArray.empty.toList)&&decide ((l.length:Int)=1))with
   | true =>
    refine wG cB (AI hb hss) ?_;refine AR.callP hcc TI (A4 @aD @aL @aE @aN) ?_;refine goG cB TI ?_;rw[lC];refine wG cB TI ?_;rw[Bool.true_and];exact aB
   | false =>
    refine wG cB (AI hb hss) ?_;rw[Bool.false_and];exact aB
  by_cases w4:w=4
  ·subst w4
   have he:ebase 18 n s 4 l.length=(decide (n=0)&&(s.toList==ByteArray.empty.toList)&&decide ((l.length:Int)=1)):=xJ (by
    unfold ebase
    simp[eqS,q0,q1,q2,and_assoc, -List.length_eq_zero_iff])
   rw[he];refine wG cB TI ?_;cases hb:(decide (n=0)&&(s.toList==ByteArray.empty.toList)&&decide ((l.length:Int)=1))with
   | true =>
    refine wG cB (AI hb hss) ?_;refine AR.callP hcc TI (A4 @aD @aL @aE @aN) ?_;refine goG cB TI ?_;rw[lC];refine wG cB TI ?_;rw[Bool.true_and];exact aB
   | false =>
    refine wG cB (AI hb hss) ?_;rw[Bool.false_and];exact aB
  have he:ebase 18 n s w l.length=false:=by
   unfold ebase;simp[w1,w2,w4]
  rw[he,Bool.false_and];refine wG cB (A3 w1 w2 w4) ?_;exact aB
 by_cases h19:o=19
 ·subst h19
  by_cases w1:w=1
  ·subst w1
   have he:ebase 19 n s 1 l.length=(decide (n=0)&&(s.toList==ByteArray.empty.toList)&&decide ((l.length:Int)=1)):=xJ (by
    unfold ebase
    simp[eqS,q0,q1,q2,and_assoc, -List.length_eq_zero_iff])
   rw[he];refine wG cB TI ?_;cases hb:(decide (n=0)&&(s.toList==ByteArray.empty.toList)&&decide ((l.length:Int)=1))with
   | true =>
    refine wG cB (AI hb hss) ?_;refine AR.callP hcc TI (A4 @aD @aL @aE @aN) ?_;refine goG cB TI ?_;rw[lC];refine wG cB TI ?_;rw[Bool.true_and];exact aB
   | false =>
    refine wG cB (AI hb hss) ?_;rw[Bool.false_and];exact aB
  by_cases w2:w=2
  ·subst w2
   have he:ebase 19 n s 2 l.length=(decide (n=0)&&(s.toList==ByteArray.empty.toList)&&decide ((l.length:Int)=1)):=xJ (by
    unfold ebase
    simp[eqS,q0,q1,q2,and_assoc, -List.length_eq_zero_iff])
   rw[he];refine wG cB TI ?_;cases hb:(decide (n=0)&&(s.toList==ByteArray.empty.toList)&&decide ((l.length:Int)=1))with
   | true =>
    refine wG cB (AI hb hss) ?_;refine AR.callP hcc TI (A4 @aD @aL @aE @aN) ?_;refine goG cB TI ?_;rw[lC];refine wG cB TI ?_;rw[Bool.true_and];exact aB
   | false =>
    refine wG cB (AI hb hss) ?_;rw[Bool.false_and];exact aB
  have he:ebase 19 n s w l.length=false:=by
   unfold ebase;simp[w1,w2]
  rw[he,Bool.false_and];refine wG cB (AI w1 w2) ?_;exact aB
 have he:ebase o n s w l.length=false:=by
  unfold ebase;simp[h1,h2,h16,h17,h18,h19];omega
 rw[he,Bool.false_and]
 refine wG cB (A7 h1 h2 e3 h16 h17 h18 h19) ?_
 exact aB
def stB(s:Nd)(ne:Int)(a b c d:Bool)(pw:Int):Bool:=(if a then nameT s.name else eqS s.name ByteArray.empty)&&decide (s.width=pw)&&decide ((s.e.length:Int)=ne)&&(b||decide (s.l.length=0))&&(c||decide (s.el.length=0))&&(d||decide (s.cs.length=0))&&s.e.all efm
theorem Tz{b:Bool}(h: ¬b=true):b=false:=by cases b<;>simp_all
theorem uM{b c:Bool}(h:b=true↔c=true):b=c:=by cases b<;>cases c<;>simp_all
theorem dP(n:ByteArray):eqS n ByteArray.empty=decide (n.toList=[]):=by
 unfold eqS
 rw[show ByteArray.empty.toList=[]from by rw[ByteArray.toList_eq];rfl]
 cases n.toList<;>rfl
structure Frm (s:Nd)where
 ne:Int
 a:Bool
 b:Bool
 c:Bool
 d:Bool
 pw:Int
 h:stT s=stB s ne a b c d pw
def Nw:=AI @fB @dK
theorem QG{x:Ex}{r:Bool}(h:PC Tryz.prog 74 [exV x] (.im (.bool (r)))):PC Tryz.prog 166 [exV x] (.im (.bool (!r))):=by
 refine pcEnt 6 Tryz.func166 rfl [(0,exV x)] ?_
 rw[bH x]at h ⊢
 refine wG Nw TI ?_
 refine AR.callP h TI (A5 aS aG aH aV @aD) ?_
 refine goG Nw TI ?_
 refine wG Nw TI ?_
 exact aB
def cR:=A16 @oB @cO @jO @hU @dR @kL @lA @oV @gM @iV @yK @mZ @iD @lO @lN (A8 @lM @oA @gT @cN @iQ @hM @dK @dA)
theorem Cu(s:Nd)(hf:fitN s):PC Tryz.prog 103 [ndV s] (.im (.bool (stT s))):=by
 obtain⟨hI,hsz,⟨he1,he2⟩,h4,h5,h6,h7⟩:=dU hf
 have hn:=xX s.name hsz
 have hE:=oN (gs:=s.e) (F:=166) (fun x=> !efm x) he1 (fun t ht=>QG (DF t (he2 t ht)))
 rw[←List.not_all_eq_any_not]at hE
 refine pcEnt 123 Tryz.func103 rfl [(0,ndV s)] ?_
 rw[eF]
 obtain⟨k,w,n,e,l,el,cs⟩:=s
 simp only[Nd.kind,Nd.width,Nd.name,Nd.e,Nd.l,Nd.el,Nd.cs]at *
 refine wnG cR TI ?_
 refine AWp.tail (ι:=Frm (.mk k w n e l el cs)) (fun i=>⟨dn 123 [(1,.pt 0 0),(2,(.im (.bool (false)))),(3,.pt 1 0),(4,(.im (.int .i64 (i.ne)))),(5,(.im (.bool (i.a)))),(6,(.im (.bool (i.b)))),(7,(.im (.bool (i.c)))),(8,(.im (.bool (i.d))))],ofl [.box [.im (.int .i64 (k)),.im (.int .i64 w),.im (.string n),.sl (e.map exV) .ro,.sl (l.map ndV) .ro,.sl (el.map ndV) .ro,.sl (cs.map nlV) .ro],.box [.im (.int .i64 0),.im (.int .i64 i.pw),.im (.string ByteArray.empty),.sl [] .nl,.sl [] .nl,.sl [] .nl,.sl [] .nl]]⟩) (fun i=> ?_) (fun rest ht=> ?_)
 ·obtain⟨ne,a,b,c,d,pw,hi⟩:=i
  dsimp only;rw[hi];clear hi;cases a
  case' true =>
   refine wG cR TI ?_;refine AR.callP hn TI (A5 aS aG aH aV @aD) ?_;refine goG cR TI ?_;refine wG cR TI ?_
  case' false =>
   refine wG cR TI ?_
  case true =>
   refine cY rfl rfl (fun hE1=> ?_) (fun hE1=> ?_)
   ·have hr:stB (.mk k w n e l el cs) ne true b c d pw=false:=Tz (by simp only[stB,dP,Nd.kind,Nd.width,Nd.name,Nd.e,Nd.l,Nd.el,Nd.cs];simp at hE1 ⊢;grind)
    rw[hr];refine wG cR TI ?_;exact aB
   refine wG cR TI ?_;refine cY rfl rfl (fun hE2=> ?_) (fun hE2=> ?_)
   ·have hr:stB (.mk k w n e l el cs) ne true b c d pw=false:=Tz (by simp only[stB,dP,Nd.kind,Nd.width,Nd.name,Nd.e,Nd.l,Nd.el,Nd.cs];simp at hE2 ⊢;grind)
    rw[hr];refine wG cR TI ?_;exact aB
   refine wG cR TI ?_;refine AR.callP hE TI (A5 aS aG aH aV @aD) ?_;refine goG cR TI ?_;refine wG cR TI ?_;have hr:stB (.mk k w n e l el cs) ne true b c d pw=e.all efm:=uM (by simp only[stB,dP,Nd.kind,Nd.width,Nd.name,Nd.e,Nd.l,Nd.el,Nd.cs];simp at hE1 hE2 ⊢;grind)
   rw[hr];exact aB
  case false =>
   refine cY rfl rfl (fun hE1=> ?_) (fun hE1=> ?_)
   ·have hr:stB (.mk k w n e l el cs) ne false b c d pw=false:=Tz (by simp only[stB,dP,Nd.kind,Nd.width,Nd.name,Nd.e,Nd.l,Nd.el,Nd.cs];simp at hE1 ⊢;grind)
    rw[hr];refine wG cR TI ?_;exact aB
   refine wG cR TI ?_;refine cY rfl rfl (fun hE2=> ?_) (fun hE2=> ?_)
   ·have hr:stB (.mk k w n e l el cs) ne false b c d pw=false:=Tz (by simp only[stB,dP,Nd.kind,Nd.width,Nd.name,Nd.e,Nd.l,Nd.el,Nd.cs];simp at hE2 ⊢;grind)
    rw[hr];refine wG cR TI ?_;exact aB
   refine wG cR TI ?_;refine AR.callP hE TI (A5 aS aG aH aV @aD) ?_;refine goG cR TI ?_;refine wG cR TI ?_;have hr:stB (.mk k w n e l el cs) ne false b c d pw=e.all efm:=uM (by simp only[stB,dP,Nd.kind,Nd.width,Nd.name,Nd.e,Nd.l,Nd.el,Nd.cs];simp at hE1 hE2 ⊢;grind)
   rw[hr];exact aB
 clear hE hn
 by_cases k1:k=1
 ·subst k1
  refine wG cR TI ?_;refine AWp.cutP 2 [(1,.pt 0 0),(2,(.im (.bool (false)))),(3,.pt 1 0),(4,(.im (.int .i64 (1)))),(5,(.im (.bool (true)))),(6,(.im (.bool (false)))),(7,(.im (.bool (false)))),(8,(.im (.bool (false))))] [.box [.im (.int .i64 (1)),.im (.int .i64 w),.im (.string n),.sl (e.map exV) .ro,.sl (l.map ndV) .ro,.sl (el.map ndV) .ro,.sl (cs.map nlV) .ro],.box [.im (.int .i64 0),.im (.int .i64 0),.im (.string ByteArray.empty),.sl [] .nl,.sl [] .nl,.sl [] .nl,.sl [] .nl]] (A3 aD aG aH) ?_;exact ht ⟨1,true,false,false,false,0,uM (by simp only[stB,stT,dP,nE,nmd,lst,Nd.kind,Nd.width,Nd.name,Nd.e,Nd.l,Nd.el,Nd.cs];simp;grind)⟩
 by_cases k2:k=2
 ·subst k2
  refine wG cR TI ?_;refine cY rfl rfl (fun hE0=> ?_) (fun hE0=> ?_)
  ·rw[show stT (.mk 2 w n e l el cs)=false from Tz (by simp only[stT,nE,nmd,lst,Nd.kind,Nd.width,Nd.name,Nd.e,Nd.l,Nd.el,Nd.cs];simp at hE0 ⊢;grind)]
   refine wG cR TI ?_;exact aB
  refine wG cR TI ?_;refine AWp.cutP 2 [(1,.pt 0 0),(2,(.im (.bool (false)))),(3,.pt 1 0),(4,(.im (.int .i64 (2)))),(5,(.im (.bool (false)))),(6,(.im (.bool (false)))),(7,(.im (.bool (false)))),(8,(.im (.bool (false))))] [.box [.im (.int .i64 (2)),.im (.int .i64 w),.im (.string n),.sl (e.map exV) .ro,.sl (l.map ndV) .ro,.sl (el.map ndV) .ro,.sl (cs.map nlV) .ro],.box [.im (.int .i64 0),.im (.int .i64 w),.im (.string ByteArray.empty),.sl [] .nl,.sl [] .nl,.sl [] .nl,.sl [] .nl]] (A3 aD aG aH) ?_;exact ht ⟨2,false,false,false,false,w,uM (by simp only[stB,stT,dP,nE,nmd,lst,Nd.kind,Nd.width,Nd.name,Nd.e,Nd.l,Nd.el,Nd.cs];simp at hE0 ⊢;grind)⟩
 by_cases k3:k=3
 ·subst k3
  refine wG cR TI ?_;refine AWp.cutP 2 [(1,.pt 0 0),(2,(.im (.bool (false)))),(3,.pt 1 0),(4,(.im (.int .i64 (0)))),(5,(.im (.bool (true)))),(6,(.im (.bool (false)))),(7,(.im (.bool (false)))),(8,(.im (.bool (false))))] [.box [.im (.int .i64 (3)),.im (.int .i64 w),.im (.string n),.sl (e.map exV) .ro,.sl (l.map ndV) .ro,.sl (el.map ndV) .ro,.sl (cs.map nlV) .ro],.box [.im (.int .i64 0),.im (.int .i64 0),.im (.string ByteArray.empty),.sl [] .nl,.sl [] .nl,.sl [] .nl,.sl [] .nl]] (A3 aD aG aH) ?_;exact ht ⟨0,true,false,false,false,0,uM (by simp only[stB,stT,dP,nE,nmd,lst,Nd.kind,Nd.width,Nd.name,Nd.e,Nd.l,Nd.el,Nd.cs];simp;grind)⟩
 by_cases k4:k=4
 ·subst k4
  refine wG cR TI ?_;refine AWp.cutP 2 [(1,.pt 0 0),(2,(.im (.bool (false)))),(3,.pt 1 0),(4,(.im (.int .i64 (1)))),(5,(.im (.bool (false)))),(6,(.im (.bool (false)))),(7,(.im (.bool (false)))),(8,(.im (.bool (false))))] [.box [.im (.int .i64 (4)),.im (.int .i64 w),.im (.string n),.sl (e.map exV) .ro,.sl (l.map ndV) .ro,.sl (el.map ndV) .ro,.sl (cs.map nlV) .ro],.box [.im (.int .i64 0),.im (.int .i64 0),.im (.string ByteArray.empty),.sl [] .nl,.sl [] .nl,.sl [] .nl,.sl [] .nl]] (A3 aD aG aH) ?_;exact ht ⟨1,false,false,false,false,0,uM (by simp only[stB,stT,dP,nE,nmd,lst,Nd.kind,Nd.width,Nd.name,Nd.e,Nd.l,Nd.el,Nd.cs];simp;grind)⟩
 by_cases k5:k=5
 ·subst k5
  refine wG cR TI ?_;refine AWp.cutP 2 [(1,.pt 0 0),(2,(.im (.bool (false)))),(3,.pt 1 0),(4,(.im (.int .i64 (0)))),(5,(.im (.bool (true)))),(6,(.im (.bool (false)))),(7,(.im (.bool (false)))),(8,(.im (.bool (false))))] [.box [.im (.int .i64 (5)),.im (.int .i64 w),.im (.string n),.sl (e.map exV) .ro,.sl (l.map ndV) .ro,.sl (el.map ndV) .ro,.sl (cs.map nlV) .ro],.box [.im (.int .i64 0),.im (.int .i64 0),.im (.string ByteArray.empty),.sl [] .nl,.sl [] .nl,.sl [] .nl,.sl [] .nl]] (A3 aD aG aH) ?_;exact ht ⟨0,true,false,false,false,0,uM (by simp only[stB,stT,dP,nE,nmd,lst,Nd.kind,Nd.width,Nd.name,Nd.e,Nd.l,Nd.el,Nd.cs];simp;grind)⟩
 by_cases k6:k=6
 ·subst k6
  refine wG cR TI ?_;refine AWp.cutP 2 [(1,.pt 0 0),(2,(.im (.bool (false)))),(3,.pt 1 0),(4,(.im (.int .i64 (1)))),(5,(.im (.bool (false)))),(6,(.im (.bool (true)))),(7,(.im (.bool (true)))),(8,(.im (.bool (false))))] [.box [.im (.int .i64 (6)),.im (.int .i64 w),.im (.string n),.sl (e.map exV) .ro,.sl (l.map ndV) .ro,.sl (el.map ndV) .ro,.sl (cs.map nlV) .ro],.box [.im (.int .i64 0),.im (.int .i64 0),.im (.string ByteArray.empty),.sl [] .nl,.sl [] .nl,.sl [] .nl,.sl [] .nl]] (A3 aD aG aH) ?_;exact ht ⟨1,false,true,true,false,0,uM (by simp only[stB,stT,dP,nE,nmd,lst,Nd.kind,Nd.width,Nd.name,Nd.e,Nd.l,Nd.el,Nd.cs];simp;grind)⟩
 by_cases k7:k=7
 ·subst k7
  refine wG cR TI ?_;refine AWp.cutP 2 [(1,.pt 0 0),(2,(.im (.bool (false)))),(3,.pt 1 0),(4,(.im (.int .i64 (1)))),(5,(.im (.bool (false)))),(6,(.im (.bool (true)))),(7,(.im (.bool (false)))),(8,(.im (.bool (false))))] [.box [.im (.int .i64 (7)),.im (.int .i64 w),.im (.string n),.sl (e.map exV) .ro,.sl (l.map ndV) .ro,.sl (el.map ndV) .ro,.sl (cs.map nlV) .ro],.box [.im (.int .i64 0),.im (.int .i64 0),.im (.string ByteArray.empty),.sl [] .nl,.sl [] .nl,.sl [] .nl,.sl [] .nl]] (A3 aD aG aH) ?_;exact ht ⟨1,false,true,false,false,0,uM (by simp only[stB,stT,dP,nE,nmd,lst,Nd.kind,Nd.width,Nd.name,Nd.e,Nd.l,Nd.el,Nd.cs];simp;grind)⟩
 by_cases k8:k=8
 ·subst k8
  refine wG cR TI ?_;refine AWp.cutP 2 [(1,.pt 0 0),(2,(.im (.bool (false)))),(3,.pt 1 0),(4,(.im (.int .i64 (0)))),(5,(.im (.bool (false)))),(6,(.im (.bool (true)))),(7,(.im (.bool (false)))),(8,(.im (.bool (false))))] [.box [.im (.int .i64 (8)),.im (.int .i64 w),.im (.string n),.sl (e.map exV) .ro,.sl (l.map ndV) .ro,.sl (el.map ndV) .ro,.sl (cs.map nlV) .ro],.box [.im (.int .i64 0),.im (.int .i64 0),.im (.string ByteArray.empty),.sl [] .nl,.sl [] .nl,.sl [] .nl,.sl [] .nl]] (A3 aD aG aH) ?_;exact ht ⟨0,false,true,false,false,0,uM (by simp only[stB,stT,dP,nE,nmd,lst,Nd.kind,Nd.width,Nd.name,Nd.e,Nd.l,Nd.el,Nd.cs];simp;grind)⟩
 by_cases k9:k=9
 ·subst k9
  refine wG cR TI ?_;refine cY rfl rfl (fun hE0=> ?_) (fun hE0=> ?_)
  ·rw[show stT (.mk 9 w n e l el cs)=false from Tz (by simp only[stT,nE,nmd,lst,Nd.kind,Nd.width,Nd.name,Nd.e,Nd.l,Nd.el,Nd.cs];simp at hE0 ⊢;grind)]
   refine wG cR TI ?_;exact aB
  refine wG cR TI ?_;refine AWp.cutP 2 [(1,.pt 0 0),(2,(.im (.bool (false)))),(3,.pt 1 0),(4,(.im (.int .i64 (1)))),(5,(.im (.bool (false)))),(6,(.im (.bool (false)))),(7,(.im (.bool (false)))),(8,(.im (.bool (true))))] [.box [.im (.int .i64 (9)),.im (.int .i64 w),.im (.string n),.sl (e.map exV) .ro,.sl (l.map ndV) .ro,.sl (el.map ndV) .ro,.sl (cs.map nlV) .ro],.box [.im (.int .i64 0),.im (.int .i64 0),.im (.string ByteArray.empty),.sl [] .nl,.sl [] .nl,.sl [] .nl,.sl [] .nl]] (A3 aD aG aH) ?_;exact ht ⟨1,false,false,false,true,0,uM (by simp only[stB,stT,dP,nE,nmd,lst,Nd.kind,Nd.width,Nd.name,Nd.e,Nd.l,Nd.el,Nd.cs];simp at hE0 ⊢;grind)⟩
 by_cases k10:k=10
 ·subst k10
  refine wG cR TI ?_;refine AWp.cutP 2 [(1,.pt 0 0),(2,(.im (.bool (false)))),(3,.pt 1 0),(4,(.im (.int .i64 (0)))),(5,(.im (.bool (false)))),(6,(.im (.bool (false)))),(7,(.im (.bool (false)))),(8,(.im (.bool (false))))] [.box [.im (.int .i64 (10)),.im (.int .i64 w),.im (.string n),.sl (e.map exV) .ro,.sl (l.map ndV) .ro,.sl (el.map ndV) .ro,.sl (cs.map nlV) .ro],.box [.im (.int .i64 0),.im (.int .i64 0),.im (.string ByteArray.empty),.sl [] .nl,.sl [] .nl,.sl [] .nl,.sl [] .nl]] (A3 aD aG aH) ?_;exact ht ⟨0,false,false,false,false,0,uM (by simp only[stB,stT,dP,nE,nmd,lst,Nd.kind,Nd.width,Nd.name,Nd.e,Nd.l,Nd.el,Nd.cs];simp;grind)⟩
 by_cases k11:k=11
 ·subst k11
  refine wG cR TI ?_;refine AWp.cutP 2 [(1,.pt 0 0),(2,(.im (.bool (false)))),(3,.pt 1 0),(4,(.im (.int .i64 (0)))),(5,(.im (.bool (false)))),(6,(.im (.bool (false)))),(7,(.im (.bool (false)))),(8,(.im (.bool (false))))] [.box [.im (.int .i64 (11)),.im (.int .i64 w),.im (.string n),.sl (e.map exV) .ro,.sl (l.map ndV) .ro,.sl (el.map ndV) .ro,.sl (cs.map nlV) .ro],.box [.im (.int .i64 0),.im (.int .i64 0),.im (.string ByteArray.empty),.sl [] .nl,.sl [] .nl,.sl [] .nl,.sl [] .nl]] (A3 aD aG aH) ?_;exact ht ⟨0,false,false,false,false,0,uM (by simp only[stB,stT,dP,nE,nmd,lst,Nd.kind,Nd.width,Nd.name,Nd.e,Nd.l,Nd.el,Nd.cs];simp;grind)⟩
 by_cases k12:k=12
 ·subst k12
  refine wG cR TI ?_;refine AWp.cutP 2 [(1,.pt 0 0),(2,(.im (.bool (false)))),(3,.pt 1 0),(4,(.im (.int .i64 (0)))),(5,(.im (.bool (true)))),(6,(.im (.bool (false)))),(7,(.im (.bool (false)))),(8,(.im (.bool (false))))] [.box [.im (.int .i64 (12)),.im (.int .i64 w),.im (.string n),.sl (e.map exV) .ro,.sl (l.map ndV) .ro,.sl (el.map ndV) .ro,.sl (cs.map nlV) .ro],.box [.im (.int .i64 0),.im (.int .i64 0),.im (.string ByteArray.empty),.sl [] .nl,.sl [] .nl,.sl [] .nl,.sl [] .nl]] (A3 aD aG aH) ?_;exact ht ⟨0,true,false,false,false,0,uM (by simp only[stB,stT,dP,nE,nmd,lst,Nd.kind,Nd.width,Nd.name,Nd.e,Nd.l,Nd.el,Nd.cs];simp;grind)⟩
 by_cases k13:k=13
 ·subst k13
  refine wG cR TI ?_;refine AWp.cutP 2 [(1,.pt 0 0),(2,(.im (.bool (false)))),(3,.pt 1 0),(4,(.im (.int .i64 (0)))),(5,(.im (.bool (true)))),(6,(.im (.bool (false)))),(7,(.im (.bool (false)))),(8,(.im (.bool (false))))] [.box [.im (.int .i64 (13)),.im (.int .i64 w),.im (.string n),.sl (e.map exV) .ro,.sl (l.map ndV) .ro,.sl (el.map ndV) .ro,.sl (cs.map nlV) .ro],.box [.im (.int .i64 0),.im (.int .i64 0),.im (.string ByteArray.empty),.sl [] .nl,.sl [] .nl,.sl [] .nl,.sl [] .nl]] (A3 aD aG aH) ?_;exact ht ⟨0,true,false,false,false,0,uM (by simp only[stB,stT,dP,nE,nmd,lst,Nd.kind,Nd.width,Nd.name,Nd.e,Nd.l,Nd.el,Nd.cs];simp;grind)⟩
 by_cases k14:k=14
 ·subst k14
  refine wG cR TI ?_;refine AWp.cutP 2 [(1,.pt 0 0),(2,(.im (.bool (false)))),(3,.pt 1 0),(4,(.im (.int .i64 (0)))),(5,(.im (.bool (false)))),(6,(.im (.bool (false)))),(7,(.im (.bool (false)))),(8,(.im (.bool (false))))] [.box [.im (.int .i64 (14)),.im (.int .i64 w),.im (.string n),.sl (e.map exV) .ro,.sl (l.map ndV) .ro,.sl (el.map ndV) .ro,.sl (cs.map nlV) .ro],.box [.im (.int .i64 0),.im (.int .i64 0),.im (.string ByteArray.empty),.sl [] .nl,.sl [] .nl,.sl [] .nl,.sl [] .nl]] (A3 aD aG aH) ?_;exact ht ⟨0,false,false,false,false,0,uM (by simp only[stB,stT,dP,nE,nmd,lst,Nd.kind,Nd.width,Nd.name,Nd.e,Nd.l,Nd.el,Nd.cs];simp;grind)⟩
 by_cases k15:k=15
 ·subst k15
  refine wG cR TI ?_;refine AWp.cutP 2 [(1,.pt 0 0),(2,(.im (.bool (false)))),(3,.pt 1 0),(4,(.im (.int .i64 (0)))),(5,(.im (.bool (false)))),(6,(.im (.bool (false)))),(7,(.im (.bool (false)))),(8,(.im (.bool (false))))] [.box [.im (.int .i64 (15)),.im (.int .i64 w),.im (.string n),.sl (e.map exV) .ro,.sl (l.map ndV) .ro,.sl (el.map ndV) .ro,.sl (cs.map nlV) .ro],.box [.im (.int .i64 0),.im (.int .i64 0),.im (.string ByteArray.empty),.sl [] .nl,.sl [] .nl,.sl [] .nl,.sl [] .nl]] (A3 aD aG aH) ?_;exact ht ⟨0,false,false,false,false,0,uM (by simp only[stB,stT,dP,nE,nmd,lst,Nd.kind,Nd.width,Nd.name,Nd.e,Nd.l,Nd.el,Nd.cs];simp;grind)⟩
 rw[show stT (.mk k w n e l el cs)=false from Tz (fun h=>by simp only[stT,Bool.and_eq_true,decide_eq_true_eq]at h;have q:=h.1.1.1.1.1.1.1;simp only[Nd.kind]at q;omega)]
 refine wG cR (A15 k1 k2 k3 k4 k5 k6 k7 k8 k9 k10 k11 k12 k13 k14 k15) ?_
 exact aB
def RI:=A3 @dR @rY @dA
theorem DQ(v:Va)(s:ByteArray):DC Tryz.prog 156 [vaV v,.pt 0 0] [.box [.im (.string s)]] (.im (.bool (eqS v.name s))) [.box [.im (.string s)]]:=by
 refine dcEnt 8 Tryz.func156 rfl [(0,vaV v),(1,.pt 0 0)] ?_
 simp only[qR]
 refine wG RI TI ?_
 exact bO (A4 @aD @aL @aE @aN)
def Ny:=AI @kA @iZ
theorem Hd(vs:List Va)(hv:vs.length≤4194304)(s:ByteArray):DC Tryz.prog 154 [.im (.string s),.pt 0 0] [.box [(V.sl (vs.map vaV) .ro)]] (.im (.bool (has vs s))) [.box [(V.sl (vs.map vaV) .ro)]]:=by
 have h:=My (gs:=vs) (F:=156) (cs:=[.im (.string s)]) (fun v=>eqS v.name s) (by simp[V.idsL,V.ids]) (by simp only[SR]) hv (fun v _=>DQ v s)
 unfold has
 refine dcEnt 7 Tryz.func154 rfl [(0,.im (.string s)),(1,.pt 0 0)] ?_
 refine wG Ny TI ?_
 refine cA [1] h TI (A4 @aD @aL @aE @aN) (A4 @aQ @aR @bE @bD) ?_
 refine goG Ny TI ?_
 refine wG Ny TI ?_
 exact bO (A4 @aD @aL @aE @aN)
def Nu:=A4 @Or @fB @Oh @dK
theorem KN{x:Ex}{vs:List Va}{r:Bool}(h:DC Tryz.prog 214 [exV x,(V.fn (.func 154) [] [.pt 0 0])] [.box [(V.sl (vs.map vaV) .ro)]] (.im (.bool (r))) [.box [(V.sl (vs.map vaV) .ro)]]):DC Tryz.prog 257 [exV x,.pt 0 0] [.box [(V.fn (.func 154) [] [.pt 1 0])],.box [(V.sl (vs.map vaV) .ro)]] (.im (.bool (!r))) [.box [(V.fn (.func 154) [] [.pt 1 0])],.box [(V.sl (vs.map vaV) .ro)]]:=by
 refine dcEnt 8 Tryz.func257 rfl [(0,exV x),(1,.pt 0 0)] ?_
 simp only[bH]
 refine wG Nu TI ?_
 refine cA [1] h @bH (A4 @aD @aL @aE @aN) (A4 @aQ @aR @bE @bD) ?_
 refine goG Nu TI ?_
 refine wG Nu TI ?_
 exact bO (A4 @aD @aL @aE @aN)
def mG:=A11 @cO @Or @hU @dR @pA @xB @lU @cN @Oh @hM @dA
theorem QN(vs:List Va)(hv:vs.length≤4194304): ∀(t:Ex),fitE t→efm t=true→DC Tryz.prog 214 [exV t,(V.fn (.func 154) [] [.pt 0 0])] [.box [(V.sl (vs.map vaV) .ro)]] (.im (.bool (knw vs t))) [.box [(V.sl (vs.map vaV) .ro)]]:=by
 refine Ex.induct fun o n s w l hE=> ?_
 intro hfit hf
 rw[vB,Bool.and_eq_true,List.all_eq_true]at hf
 obtain⟨hl1,hfE⟩:=pZ hfit
 have h1:=Hd vs hv s
 have hc: ∀t∈l,DC Tryz.prog 257 [exV t,.pt 0 0] [.box [(V.fn (.func 154) [] [.pt 1 0])],.box [(V.sl (vs.map vaV) .ro)]] (.im (.bool (!knw vs t))) [.box [(V.fn (.func 154) [] [.pt 1 0])],.box [(V.sl (vs.map vaV) .ro)]]:=fun t ht=>KN (hE t ht (hfE t ht) (hf.2 t ht))
 have h2:=Na (gs:=l) (F:=257) (cs:=[(V.fn (.func 154) [] [.pt 1 0])]) (ds:=[(V.sl (vs.map vaV) .ro)]) (fun t=> !knw vs t) (by simp[V.idsL,V.ids,ltB]) (by simp only[SR]) (by simp[V.idsL,V.ids,aL]) (by simp only[SR,bD]) hl1 hc
 refine dcEnt 20 Tryz.func214 rfl [(0,exV (.mk o n s w l)),(1,(V.fn (.func 154) [] [.pt 0 0]))] ?_
 simp only[gV]
 rw[Um]
 by_cases ho:o=2
 ·have e:(o==2)=true:=by simp[ho]
  rw[e,if_pos rfl];cases b:has vs s with
  | true =>
   rw[b]at h1;refine wG mG ho ?_;refine cA [0] h1 TI (A4 @aD @aL @aE @aN) (A4 @aQ @aR @bE @bD) ?_;refine goG mG TI ?_;refine wG mG TI ?_;refine cA [2,0] h2 TI (A4 @aD @aL @aE @aN) (A4 @aQ @aR @bE @bD) ?_;refine goG mG TI ?_
   have hl:l=[]:=by
    have:=hf.1;rw[ho]at this;simp only[ebase,Int.reduceBEq,Bool.false_eq_true,if_false,if_true,Bool.and_eq_true,beq_iff_eq]at this;exact List.length_eq_zero_iff.1 this.2
   rw[hl];refine wG mG (AI @List.any_nil.{0} @Bool.not_false) ?_;exact bO (A4 @aD @aL @aE @aN)
  | false =>
   rw[b]at h1;refine wG mG ho ?_;refine cA [0] h1 TI (A4 @aD @aL @aE @aN) (A4 @aQ @aR @bE @bD) ?_;refine goG mG TI ?_;refine wG mG TI ?_;exact bO (A4 @aD @aL @aE @aN)
 ·have e:(o==2)=false:=by simp[ho]
  rw[e,if_neg (by decide)]
  refine wG mG ho ?_;refine cA [2,0] h2 TI (A4 @aD @aL @aE @aN) (A4 @aQ @aR @bE @bD) ?_;refine goG mG TI ?_;rw[lC];refine wG mG TI ?_;exact bO (A4 @aD @aL @aE @aN)
theorem Yt(vs:List Va):DC Tryz.prog 88 [(V.sl (vs.map vaV) .ro)] [.free] (V.fn (.func 154) [] [.pt 0 0]) [.box [(V.sl (vs.map vaV) .ro)]]:=by
 refine Lb 1 4 Tryz.func88 rfl (by decide) rfl rfl (s:=[(0,(V.sl (vs.map vaV) .ro))]) (by rfl) ?_
 refine wG TI TI ?_
 refine Sr 1 (rs:=[.tmp 2]) rfl (by first|exact .inl rfl|exact .inr rfl) (by simp only[Ik,Fl,↓iG,↓reduceIte,SA,SB,SC,SD,oC,fpsG,evO,evB,evA,nT,oE,eqF,eqC,kB,iA,slB,slK,gd,St.ev,eV,ofl,wrl,putE,V.ofVal,V.ofCell,bin2,un1,seg,iL,dT,Value.oneCell',Nat.reduceBEq,Nat.reduceLT,Nat.reduceSub,Nat.reduceAdd,Nat.reduceMul,Nat.reduceLeDiff,Nat.reduceEqDiff,reduceCtorEq,Int.reduceLT,Int.reduceLE,Int.reduceEq,Int.reduceNe,Int.reduceBEq,Int.reduceBNe,Int.reduceAdd,Int.reduceSub,Int.reduceMul,Int.reduceToNat];with_reducible exact rfl) ?_ rfl (by first|rfl|simp only[List.length_cons,List.length_nil,Nat.reduceAdd,V.ids,V.idsL,idsA,entOk,List.all_cons,List.all_nil,Bool.and_self,Bool.and_true,Bool.true_and,ltB,noId,Nat.reduceLT,decide_true,Bool.true_eq_false,bQ,bS,bR,bT,aD,aL,aE,aN])
 repeat (first|exact WkF.of (Wk.refl _) (by first|rfl|simp only[List.length_cons,List.length_nil,Nat.reduceAdd,V.ids,V.idsL,idsA,entOk,List.all_cons,List.all_nil,Bool.and_self,Bool.and_true,Bool.true_and,ltB,noId,Nat.reduceLT,decide_true,Bool.true_eq_false,bQ,bS,bR,bT,aD,aL,aE,aN])|exact WkF.of (Wk.ro _ _) (by first|rfl|simp only[List.length_cons,List.length_nil,Nat.reduceAdd,V.ids,V.idsL,idsA,entOk,List.all_cons,List.all_nil,Bool.and_self,Bool.and_true,Bool.true_and,ltB,noId,Nat.reduceLT,decide_true,Bool.true_eq_false,bQ,bS,bR,bT,aD,aL,aE,aN])|refine Wd ?_|refine We ?_|refine WkFL.cons ?_ ?_|exact WkFL.nil)
theorem PC.ghost{P:Program}{f:FuncId}{xs:List V}{e:TypeId}{z:Nat}(h:PC P f xs (.sl [] .nl)):DC P f xs [.free] (.sl [] (.own 0)) [.tip e z 0]:=by
 refine⟨h.1,fun C vs hst hC hl hR=> ?_⟩
 have hst':C.st=stF:=by
  rw[hst];funext i;unfold ofl stF;cases i with
  | zero=>rfl
  | succ i=>simp[List.getD]
 refine(h.2 C vs hst' hC hl hR).mono ?_
 rintro e' w' ⟨v,x,st',rfl,⟨rfl,rfl⟩,D,hw,hs,hD,hE,hR'⟩
 have hf:D.st 0= .free:=by rw[hs];rfl
 refine⟨v,_,_,rfl,⟨rfl,rfl⟩,D.ghost 0 e z 0,hw,?_,hD.ghost hf,hE.trans (Ev.ghost hf),R.ghost (.inr rfl) hf hR' (fun x hx=>by cases hx)⟩
 show upd D.st 0 (.tip e z 0)=_
 rw[hs]
 funext i
 cases i with
 | zero=>rfl
 | succ i=>simp[upd,stF,ofl,List.getD]
theorem ACalls.nz_ne{P:Program}{f:FuncId}{es:List V}{xs:List V}{st:Nat→Ent}{Q:V→(Nat→Ent)→Prop}(hf:Bj P f=true)(h:0<es.length):ACalls P f (.sl es .nz::xs) st Q:=by
 refine⟨hf,fun C vs _ _ _ hR=> ?_⟩
 have h0:R C (.sl es .nz) (vs.getD 0 undef):=hR 0 (by simp)
 exfalso
 generalize vs.getD 0 undef=v at h0
 cases h0 with
 | sl _ _ _ _ hr hk =>
  obtain⟨ad,h1,_⟩:=hr 0 h;rw[h1]at hk;cases hk
theorem Li(l:List Va):kV 6 (l.map vaV)=true:=by
 unfold kV
 rw[List.all_map]
 exact List.all_eq_true.2 fun x _=>rfl
def Nq:=A4 @qN @Ab @jZ @jM
theorem ZY{vs:List Va}(hv:vs.length≤4194304):DC Tryz.prog 87 [.sl (vs.map vaV) .ro] [.free] (.sl (vs.map vaV) (.own 0)) [.tip 96 6 vs.length]:=by
 have hA:vs.length*88≤140737488355328:=by omega
 refine ACalls.nil1 ?_ ?_
 ·rcases Nat.eq_zero_or_pos vs.length with h0|h0
  ·obtain rfl:=List.length_eq_zero_iff.1 h0
   refine PC.ghost ?_;refine pcEnt 8 Tryz.func87 rfl [(0,.sl [] .nz)] ?_
   refine wG Nq TI ?_;refine fiGenO [.tmp 2] (finG Nq) ?_
   all_goals exact wkG (A4 @aD @aL @aE @aN)
  ·exact ACalls.nz_ne (by kernel_rfl) (by simpa using h0)
 ·refine Lb 1 8 Tryz.func87 rfl (by decide) rfl rfl (s:=[(0,.sl (vs.map vaV) .nn)]) (by rfl) ?_
  refine wG Nq (A4 hA Li @List.length_map.{0,0} @Nat.zero_add) ?_;refine Sr 1 (rs:=[.tmp 2]) rfl (by first|exact .inl rfl|exact .inr rfl) (by simp only[Ik,Fl,↓iG,↓reduceIte,SA,SB,SC,SD,Nq,oC,fpsG,evO,evB,evA,nT,oE,eqF,eqC,kB,iA,slB,slK,gd,St.ev,eV,ofl,wrl,putE,V.ofVal,V.ofCell,bin2,un1,seg,iL,dT,Value.oneCell',Nat.reduceBEq,Nat.reduceLT,Nat.reduceSub,Nat.reduceAdd,Nat.reduceMul,Nat.reduceLeDiff,Nat.reduceEqDiff,reduceCtorEq,Int.reduceLT,Int.reduceLE,Int.reduceEq,Int.reduceNe,Int.reduceBEq,Int.reduceBNe,Int.reduceAdd,Int.reduceSub,Int.reduceMul,Int.reduceToNat];with_reducible exact rfl) ?_ rfl (by first|rfl|simp only[List.length_cons,List.length_nil,Nat.reduceAdd,V.ids,V.idsL,idsA,entOk,List.all_cons,List.all_nil,Bool.and_self,Bool.and_true,Bool.true_and,ltB,noId,Nat.reduceLT,decide_true,Bool.true_eq_false,bQ,bS,bR,bT,aD,aL,aE,aN])
  repeat (first|exact WkF.of (Wk.refl _) (by first|rfl|simp only[List.length_cons,List.length_nil,Nat.reduceAdd,V.ids,V.idsL,idsA,entOk,List.all_cons,List.all_nil,Bool.and_self,Bool.and_true,Bool.true_and,ltB,noId,Nat.reduceLT,decide_true,Bool.true_eq_false,bQ,bS,bR,bT,aD,aL,aE,aN])|exact WkF.of (Wk.ro _ _) (by first|rfl|simp only[List.length_cons,List.length_nil,Nat.reduceAdd,V.ids,V.idsL,idsA,entOk,List.all_cons,List.all_nil,Bool.and_self,Bool.and_true,Bool.true_and,ltB,noId,Nat.reduceLT,decide_true,Bool.true_eq_false,bQ,bS,bR,bT,aD,aL,aE,aN])|refine Wd ?_|refine We ?_|refine WkFL.cons ?_ ?_|exact WkFL.nil)
def vErr:List Va→List Va→Int
 | _,[]=>0
 | seen,v::r=>if !nameT v.name then 3 else if has seen v.name then 8 else if chk v.ty≠0 then chk v.ty else vErr (seen++[v]) r
theorem Zp{bs l:List Va}{m:Nat}(h:m<l.length):vErr (bs++l.take m) (l.drop m)=if !nameT l[m].name then 3 else if has (bs++l.take m) l[m].name then 8 else if chk l[m].ty≠0 then chk l[m].ty else vErr (bs++l.take (m+1)) (l.drop (m+1)):=by
 rw[List.drop_eq_getElem_cons h]
 rw[vErr,List.take_succ_eq_append_getElem h,List.append_assoc]
def fitVN(l:List Va):Prop:= ∀v∈l,fit v.ty∧v.name.size≤9223372036854775807
def fL:=A11 @dR @gF @Ad @qN @Ab @jZ @rY @mV @dA @gD @jM
theorem zO(bs l:List Va)(hb:bs.length+l.length≤4194304)(hl:fitVN l):PC Tryz.prog 41 [.sl (bs.map vaV) .ro,.sl (l.map vaV) .ro] (.im (.int .i64 (vErr bs l))):=by
 obtain⟨sn,hsn⟩: ∃sn:Nat→List Va,∀m,sn m=bs++l.take m:=⟨_,fun _=>rfl⟩
 have hs0:sn 0=bs:=by rw[hsn];simp
 have hsl: ∀m,(sn m).length≤bs.length+l.length:=fun m=>by rw[hsn,List.length_append,List.length_take];omega
 have hstep: ∀m (h:m<l.length),vErr (sn m) (l.drop m)=if !nameT l[m].name then 3 else if has (sn m) l[m].name then 8 else if chk l[m].ty≠0 then chk l[m].ty else vErr (sn (m+1)) (l.drop (m+1)):=fun m h=>by
  rw[hsn,hsn];exact Zp h
 have happ: ∀m (h:m<l.length),(sn m).map vaV++[vaV l[m]]=(sn (m+1)).map vaV:=fun m h=>by
  rw[hsn,hsn,List.map_append,List.map_append,List.append_assoc,Jf vaV h]
 have hlen: ∀m (h:m<l.length),(sn m).length+1=(sn (m+1)).length:=fun m h=>by
  rw[hsn,hsn,List.length_append,List.length_append,List.length_take,List.length_take];omega
 have hcl:=ZY (vs:=sn 0) (by have:=hsl 0;omega)
 refine pcEnt 39 Tryz.func41 rfl [(0,.sl (bs.map vaV) .ro),(1,.sl (l.map vaV) .ro)] ?_
 refine wG fL TI ?_
 refine aA [0] hcl hs0 (A4 @aD @aL @aE @aN) (A4 @aQ @aR @bE @bD) ?_
 refine goG fL TI ?_
 refine wG fL @List.length_map.{0,0} ?_
 refine aP ?_
 refine ALp.cutP 1 [(5,.sl ((sn (0)).map vaV) (.own 0)),(11,.sl (l.map vaV) .ro),(12,(.im (.int .i64 (l.length)))),(13,(.im (.int .i64 ((((0:Nat)):Int)))))] [.tip 96 6 (sn (0)).length] (A4 @aD @aL @aE @aN) ?_
 refine aW l.length (fun m=>vErr (sn m) (l.drop m)=vErr bs l) (fun m=>⟨dn 39 [(5,.sl ((sn (m)).map vaV) (.own 0)),(11,.sl (l.map vaV) .ro),(12,(.im (.int .i64 (l.length)))),(13,(.im (.int .i64 ((((m:Nat)):Int)))))],ofl [.tip 96 6 (sn (m)).length]⟩) ?_ 0 (Nat.zero_le _) (by rw[hs0,List.drop_zero])
 intro m hm hV hnext
 rw[←hV]
 by_cases hlt:m<l.length
 ·have hlt':(m:Int)<(l.length:Int):=by omega
  have hm1:=aK hlt (by omega)
  have hg:=bB hlt;obtain⟨hty,hnm⟩:=hl _ (List.getElem_mem hlt);have h1:=xX l[m].name hnm;have h2:=Yt (sn m);have h3:=Hd (sn m) (by have:=hsl m;omega) l[m].name
  have h4:=Nc l[m].ty hty;have ha:=happ m hlt;rw[qR]at ha;have hln:=hlen m hlt;have hA:(sn (m+1)).length*88≤140737488355328:=by have:=hsl (m+1);omega
  rw[hstep m hlt];rw[hstep m hlt]at hV;have hn2:=hnext (m+1) (by omega) (by omega)
  cases b1:nameT l[m].name with
  | false =>
   rw[b1]at h1;simp only[Bool.not_false,if_true];refine wG fL (A3 hlt' hg VA) ?_;refine AR.callP h1 TI (A4 @aD @aL @aE @aN) ?_;refine goG fL TI ?_;refine wG fL TI ?_;exact aB
  | true =>
   rw[b1]at h1 hV;simp only[Bool.not_true,Bool.false_eq_true,if_false]at hV ⊢;cases b2:has (sn m) l[m].name with
   | true =>
    rw[b2]at h3;simp only[if_true];refine wG fL (A3 hlt' hg VA) ?_;refine AR.callP h1 TI (A4 @aD @aL @aE @aN) ?_;refine goG fL TI ?_;refine wdG fL TI ?_;refine AR.callS [2] h2 rfl rfl (by first|(simp only[SR,aQ,aR,bE,bD];done)|(simp only[SR,aQ,aR,bE,bD];with_reducible exact rfl)) (by first|(simp only[SR,aQ,aR,bE,bD];done)|(simp only[SR,aQ,aR,bE,bD];with_reducible exact rfl)) (WkL.cons (Wk.ro _ _) .nil) (by first|rfl|simp only[List.length_cons,List.length_nil,Nat.reduceAdd,V.ids,V.idsL,idsA,entOk,List.all_cons,List.all_nil,Bool.and_self,Bool.and_true,Bool.true_and,ltB,noId,Nat.reduceLT,decide_true,Bool.true_eq_false,bQ,bS,bR,bT,aD,aL,aE,aN]) rfl rfl rfl (by first|rfl|simp only[List.length_cons,List.length_nil,Nat.reduceAdd,V.ids,V.idsL,idsA,entOk,List.all_cons,List.all_nil,Bool.and_self,Bool.and_true,Bool.true_and,ltB,noId,Nat.reduceLT,decide_true,Bool.true_eq_false,bQ,bS,bR,bT,aD,aL,aE,aN]) (by intro p hp;simp only[fQ,SR,Ent.ren,List.mem_cons,List.not_mem_nil,or_false,aQ,aR,bE,bD]at hp;rcases hp with rfl<;>rfl) (by simp only[fQ,Ent.ren,SR,aQ,aR,bE,bD,wrl,putE,SC,SD,Nat.reduceBEq,Nat.reduceLT,Nat.reduceSub,Nat.reduceAdd,Nat.reduceMul,Nat.reduceLeDiff,Nat.reduceEqDiff,reduceCtorEq,Int.reduceLT,Int.reduceLE,Int.reduceEq,Int.reduceNe,Int.reduceBEq,Int.reduceBNe,Int.reduceAdd,Int.reduceSub,Int.reduceMul,Int.reduceToNat];with_reducible exact rfl) ?_
    refine goG fL TI ?_;refine cA [2] h3 TI (A4 @aD @aL @aE @aN) (A4 @aQ @aR @bE @bD) ?_;refine goG fL TI ?_;refine wdG fL TI ?_;exact aB
   | false =>
    rw[b2]at h3 hV;simp only[Bool.false_eq_true,if_false]at hV ⊢
    by_cases b3:chk l[m].ty=0
    case neg =>
     have q:(chk l[m].ty≠0)=True:=by simp[b3]
     rw[if_pos b3];refine wG fL (A3 hlt' hg VA) ?_;refine AR.callP h1 TI (A4 @aD @aL @aE @aN) ?_;refine goG fL TI ?_;refine wdG fL TI ?_;refine AR.callS [2] h2 rfl rfl (by first|(simp only[SR,aQ,aR,bE,bD];done)|(simp only[SR,aQ,aR,bE,bD];with_reducible exact rfl)) (by first|(simp only[SR,aQ,aR,bE,bD];done)|(simp only[SR,aQ,aR,bE,bD];with_reducible exact rfl)) (WkL.cons (Wk.ro _ _) .nil) (by first|rfl|simp only[List.length_cons,List.length_nil,Nat.reduceAdd,V.ids,V.idsL,idsA,entOk,List.all_cons,List.all_nil,Bool.and_self,Bool.and_true,Bool.true_and,ltB,noId,Nat.reduceLT,decide_true,Bool.true_eq_false,bQ,bS,bR,bT,aD,aL,aE,aN]) rfl rfl rfl (by first|rfl|simp only[List.length_cons,List.length_nil,Nat.reduceAdd,V.ids,V.idsL,idsA,entOk,List.all_cons,List.all_nil,Bool.and_self,Bool.and_true,Bool.true_and,ltB,noId,Nat.reduceLT,decide_true,Bool.true_eq_false,bQ,bS,bR,bT,aD,aL,aE,aN]) (by intro p hp;simp only[fQ,SR,Ent.ren,List.mem_cons,List.not_mem_nil,or_false,aQ,aR,bE,bD]at hp;rcases hp with rfl<;>rfl) (by simp only[fQ,Ent.ren,SR,aQ,aR,bE,bD,wrl,putE,SC,SD,Nat.reduceBEq,Nat.reduceLT,Nat.reduceSub,Nat.reduceAdd,Nat.reduceMul,Nat.reduceLeDiff,Nat.reduceEqDiff,reduceCtorEq,Int.reduceLT,Int.reduceLE,Int.reduceEq,Int.reduceNe,Int.reduceBEq,Int.reduceBNe,Int.reduceAdd,Int.reduceSub,Int.reduceMul,Int.reduceToNat];with_reducible exact rfl) ?_
     refine goG fL TI ?_;refine cA [2] h3 TI (A4 @aD @aL @aE @aN) (A4 @aQ @aR @bE @bD) ?_;refine goG fL TI ?_;refine wdG fL TY ?_;refine AR.callP h4 @bM (A4 @aD @aL @aE @aN) ?_;refine goG fL b3 ?_;refine wG fL b3 ?_;exact aB
    case pos =>
     rw[if_neg (by simp[b3])]at hV ⊢
     rw[b3]at h4;refine wG fL (A3 hlt' hg VA) ?_;refine AR.callP h1 TI (A4 @aD @aL @aE @aN) ?_;refine goG fL TI ?_;refine wdG fL TI ?_;refine AR.callS [2] h2 rfl rfl (by first|(simp only[SR,aQ,aR,bE,bD];done)|(simp only[SR,aQ,aR,bE,bD];with_reducible exact rfl)) (by first|(simp only[SR,aQ,aR,bE,bD];done)|(simp only[SR,aQ,aR,bE,bD];with_reducible exact rfl)) (WkL.cons (Wk.ro _ _) .nil) (by first|rfl|simp only[List.length_cons,List.length_nil,Nat.reduceAdd,V.ids,V.idsL,idsA,entOk,List.all_cons,List.all_nil,Bool.and_self,Bool.and_true,Bool.true_and,ltB,noId,Nat.reduceLT,decide_true,Bool.true_eq_false,bQ,bS,bR,bT,aD,aL,aE,aN]) rfl rfl rfl (by first|rfl|simp only[List.length_cons,List.length_nil,Nat.reduceAdd,V.ids,V.idsL,idsA,entOk,List.all_cons,List.all_nil,Bool.and_self,Bool.and_true,Bool.true_and,ltB,noId,Nat.reduceLT,decide_true,Bool.true_eq_false,bQ,bS,bR,bT,aD,aL,aE,aN]) (by intro p hp;simp only[fQ,SR,Ent.ren,List.mem_cons,List.not_mem_nil,or_false,aQ,aR,bE,bD]at hp;rcases hp with rfl<;>rfl) (by simp only[fQ,Ent.ren,SR,aQ,aR,bE,bD,wrl,putE,SC,SD,Nat.reduceBEq,Nat.reduceLT,Nat.reduceSub,Nat.reduceAdd,Nat.reduceMul,Nat.reduceLeDiff,Nat.reduceEqDiff,reduceCtorEq,Int.reduceLT,Int.reduceLE,Int.reduceEq,Int.reduceNe,Int.reduceBEq,Int.reduceBNe,Int.reduceAdd,Int.reduceSub,Int.reduceMul,Int.reduceToNat];with_reducible exact rfl) ?_
     refine goG fL TI ?_;refine cA [2] h3 TI (A4 @aD @aL @aE @aN) (A4 @aQ @aR @bE @bD) ?_;refine goG fL TI ?_;refine wdG fL TY ?_;refine AR.callP h4 @bM (A4 @aD @aL @aE @aN) ?_;refine goG fL TI ?_;refine wG fL (A5 ha hln hA hm1 @List.length_map.{0,0}) ?_;refine ALp.cutP 1 [(5,.sl ((sn (m+1)).map vaV) (.own 0)),(11,.sl (l.map vaV) .ro),(12,(.im (.int .i64 (l.length)))),(13,(.im (.int .i64 ((((m+1:Nat)):Int)))))] [.tip 96 6 (sn (m+1)).length] (A4 @aD @aL @aE @aN) ?_;rw[hV];exact hn2 hV
 obtain rfl:m=l.length:=by omega
 clear hnext
 have e0:vErr (sn l.length) (l.drop l.length)=0:=by rw[List.drop_length];cases sn l.length<;>rfl
 rw[e0]
 refine wG fL @Int.lt_irrefl ?_
 exact aB
def tG:=A3 @Eg @tS @qK
theorem DA{gs:List Sec}{F:FuncId}{cs:List V}(p:Sec→Bool)(hcs:V.idsL (ltB 1) cs=true)(hr:V.renL (gOf [0]) cs=cs)(hl:gs.length≤4194304)(hF: ∀t∈gs,DC Tryz.prog F [scV t,.pt 0 0] [.box cs] (.im (.bool (p t))) [.box cs]) :
  DC Tryz.prog 160 [.sl (gs.map scV) .ro,.fn (.func F) [] [.pt 0 0]] [.box cs] (.im (.int .i64 (idx gs p))) [.box cs]:=by
 refine dcEnt 19 Tryz.func160 rfl [(0,.sl (gs.map scV) .ro),(1,.fn (.func F) [] [.pt 0 0])] ?_
 refine wG tG TI ?_
 refine aP ?_
 refine ALp.cutP 1 [(0,.sl (gs.map scV) .ro),(1,.fn (.func F) [] [.pt 0 0]),(7,(.im (.int .i64 (gs.length)))),(8,(.im (.int .i64 ((((0:Nat)):Int)))))] [.box cs] (A3 eU gG hcs) ?_
 refine aW gs.length (AllTo (fun x=> !p x) gs) (fun m=>⟨dn 19 [(0,.sl (gs.map scV) .ro),(1,.fn (.func F) [] [.pt 0 0]),(7,(.im (.int .i64 (gs.length)))),(8,(.im (.int .i64 ((((m:Nat)):Int)))))],ofl [.box cs]⟩) ?_ 0 (Nat.zero_le _) (AllTo.zero _ _)
 intro m hm hI hnext
 by_cases hlt:m<gs.length
 ·have hlt':(m:Int)<(gs.length:Int):=by omega
  have hg:=bB hlt;have hm1:=aK hlt (by omega)
  have hc:=hF gs[m] (List.getElem_mem hlt);refine wG tG (A4 SCT hlt' hg hm1) ?_
  by_cases b:p gs[m]=true
  ·rw[b]at hc
   refine cA [0] hc Fi (A3 eU gG hcs) (A3 oK pV hr) ?_;refine goG tG TI ?_;refine wG tG TI ?_;rw[rT hlt hI b];exact bO (A3 eU gG hcs)
  ·have b:p gs[m]=false:=by simpa using b
   rw[b]at hc;refine cA [0] hc Fi (A3 eU gG hcs) (A3 oK pV hr) ?_;refine goG tG TI ?_;refine wG tG hm1 ?_;refine ALp.cutP 1 [(0,.sl (gs.map scV) .ro),(1,.fn (.func F) [] [.pt 0 0]),(7,(.im (.int .i64 (gs.length)))),(8,(.im (.int .i64 ((((m+1:Nat)):Int)))))] [.box cs] (A3 eU gG hcs) ?_;exact hnext (m+1) (by omega) (by omega) (hI.succ hlt (by simp[b]))
 ·obtain rfl:m=gs.length:=by omega
  have hlt': ¬(gs.length:Int)<(gs.length:Int):=by omega
  clear hnext hlt;rw[rU hI];refine wG tG hlt' ?_;exact bO (A3 eU gG hcs)
theorem Mz{gs:List Sec}{F:FuncId}{cs:List V}(p:Sec→Bool)(hcs:V.idsL (ltB 1) cs=true)(hr:V.renL (gOf [0]) cs=cs)(hl:gs.length≤4194304)(hF: ∀t∈gs,DC Tryz.prog F [scV t,.pt 0 0] [.box cs] (.im (.bool (p t))) [.box cs]) :
  DC Tryz.prog 90 [.sl (gs.map scV) .ro,.fn (.func F) [] [.pt 0 0]] [.box cs] (.im (.bool (gs.any p))) [.box cs]:=by
 have h:=DA p hcs hr hl hF
 refine dcEnt 9 Tryz.func90 rfl [(0,.sl (gs.map scV) .ro),(1,.fn (.func F) [] [.pt 0 0])] ?_
 refine wG TI TI ?_
 refine cA [0] h TI (A3 eU gG hcs) (A3 oK pV hr) ?_
 refine goG TI TI ?_
 rw[wF]
 refine wG TI TI ?_
 exact bO (A3 eU gG hcs)
def dErr:List Sec→List Sec→Int
 | _,[]=>0
 | seen,d::r=>if !nameT d.name then 3 else if seen.any (fun x=>eqS x.name d.name)then 8 else if 65536<d.data.length then 6 else dErr (seen++[d]) r
theorem Kj{l:List Sec}{m:Nat}(h:m<l.length):dErr (l.take m) (l.drop m)=if !nameT l[m].name then 3 else if(l.take m).any (fun x=>eqS x.name l[m].name)then 8 else if 65536<l[m].data.length then 6 else dErr (l.take (m+1)) (l.drop (m+1)):=by
 rw[List.drop_eq_getElem_cons h]
 rw[dErr,List.take_succ_eq_append_getElem h]
def Ut(l:List Sec):Prop:= ∀s∈l,s.name.size≤9223372036854775807
def XS:=A3 @dR @wZ @dA
theorem QS(x d:Sec):DC Tryz.prog 91 [scV x,.pt 0 0] [.box [.im (.string (d).name),.im (.int .u32 (d).addr),.sl ((d).data.map fun b=> .im (.int .u8 b.toNat)) .ro,.im (.bool (d).wr),.im (.bool (d).exe)]] (.im (.bool (eqS x.name d.name))) [.box [.im (.string (d).name),.im (.int .u32 (d).addr),.sl ((d).data.map fun b=> .im (.int .u8 b.toNat)) .ro,.im (.bool (d).wr),.im (.bool (d).exe)]]:=by
 refine dcEnt 9 Tryz.func91 rfl [(0,scV x),(1,.pt 0 0)] ?_
 simp only[Fi]
 refine wG XS TI ?_
 exact bO (A3 eU gG vE)
def mR:=A13 @tX @Eg @dR @Ef @tS @lH @wZ @sA @rF @tM @qK @dA @RM
theorem XI(l:List Sec)(hl:l.length≤4194304)(hf:Ut l):PC Tryz.prog 42 [.sl (l.map scV) .ro] (.im (.int .i64 (dErr [] l))):=by
 refine pcEnt 29 Tryz.func42 rfl [(0,.sl (l.map scV) .ro)] ?_
 refine wG mR TI ?_
 refine aP ?_
 refine ALp.cutP 0 [(0,.sl (l.map scV) .ro),(5,.sl (l.map scV) .ro),(6,(.im (.int .i64 (l.length)))),(7,(.im (.int .i64 ((((0:Nat)):Int)))))] [] (A3 eU gG vE) ?_
 refine aW l.length (fun m=>dErr (l.take m) (l.drop m)=dErr [] l) (fun m=>⟨dn 29 [(0,.sl (l.map scV) .ro),(5,.sl (l.map scV) .ro),(6,(.im (.int .i64 (l.length)))),(7,(.im (.int .i64 ((((m:Nat)):Int)))))],ofl []⟩) ?_ 0 (Nat.zero_le _) rfl
 intro m hm hV hnext
 rw[←hV]
 by_cases hlt:m<l.length
 ·have hlt':(m:Int)<(l.length:Int):=by omega
  have hm1:=aK hlt (by omega)
  have hg:=bB hlt;have h1:=xX l[m].name (hf _ (List.getElem_mem hlt));have h2:=Mz (gs:=l.take m) (F:=91) (fun x=>eqS x.name l[m].name) (cs:=[.im (.string l[m].name),.im (.int .u32 l[m].addr),.sl (l[m].data.map fun b=> .im (.int .u8 b.toNat)) .ro,.im (.bool l[m].wr),.im (.bool l[m].exe)]) (by simp[V.idsL,V.ids,vE]) (by simp only[SR,Ni]) (by rw[List.length_take];omega) (fun x _=>QS x l[m])
  rw[Kj hlt];rw[Kj hlt]at hV;have hn2:=hnext (m+1) (by omega) (by omega)
  cases b1:nameT l[m].name with
  | false =>
   rw[b1]at h1;simp only[Bool.not_false,if_true];refine wG mR (A3 hlt' hg SCT) ?_;refine AR.callP h1 TI (A3 eU gG vE) ?_;refine goG mR TI ?_;refine wG mR TI ?_;exact aB
  | true =>
   rw[b1]at h1 hV;simp only[Bool.not_true,Bool.false_eq_true,if_false]at hV ⊢;refine wG mR (A3 hlt' hg SCT) ?_;refine AR.callP h1 TI (A3 eU gG vE) ?_;refine goG mR TI ?_;have hmi:(m:Int)≤(l.length:Int):=by omega
   have hne: ¬m=l.length:=by omega
   have htk:(l.map scV).take m=(l.take m).map scV:=List.map_take.symm;refine wG mR (A6 hmi hne htk GP Lu GDS) ?_;cases b2:(l.take m).any fun x=>eqS x.name l[m].name with
   | true =>
    rw[b2]at h2;simp only[if_true];refine cA [0] h2 TI (A3 eU gG vE) (A3 oK pV Ni) ?_;refine goG mR TI ?_;refine wG mR TI ?_;exact aB
   | false =>
    rw[b2]at h2 hV;simp only[Bool.false_eq_true,if_false]at hV ⊢;refine cA [0] h2 TI (A3 eU gG vE) (A3 oK pV Ni) ?_;refine goG mR TI ?_
    by_cases b3:65536<l[m].data.length
    ·have b3':(65536:Int)<(l[m].data.length:Int):=by omega
     rw[if_pos b3];refine wG mR (AI b3' @List.length_map.{0,0}) ?_;exact aB
    ·have b3': ¬(65536:Int)<(l[m].data.length:Int):=by omega
     rw[if_neg b3]at hV ⊢;refine wG mR (A3 b3' @List.length_map.{0,0} hm1) ?_;refine ALp.cutP 0 [(0,.sl (l.map scV) .ro),(5,.sl (l.map scV) .ro),(6,(.im (.int .i64 (l.length)))),(7,(.im (.int .i64 ((((m+1:Nat)):Int)))))] [] (A3 eU gG vE) ?_;rw[hV];exact hn2 hV
 obtain rfl:m=l.length:=by omega
 clear hnext
 have e0:dErr (l.take l.length) (l.drop l.length)=0:=by rw[List.drop_length];cases l.take l.length<;>rfl
 rw[e0]
 refine wG mR @Int.lt_irrefl ?_
 exact aB
theorem Sim.ghostBO{B:Bd}{C:Cf}{a:Act}{N:Nat}{s:List (Nat×V)}{l:List Ent}{id j:Nat}{cs:List V}{e:TypeId}{z:Nat}(hS:Sim B C ⟨dn N s,ofl l⟩ a)
  (hi:l[id]? =some (.box cs)) (hj:cs[j]? =some (.sl [] .nl)): ∃D,Sim B D ⟨dn N s,ofl (l.set id (.box (cs.set j (.sl [] (.own l.length))))++[.tip e z 0])⟩ a∧D.w=C.w∧Ev C D:=by
 obtain⟨hil,hi'⟩:=List.getElem?_eq_some_iff.1 hi
 obtain⟨hjl,hj'⟩:=List.getElem?_eq_some_iff.1 hj
 have hf:C.st l.length= .free:=by rw[hS.st];exact vY l
 have hE1:Ev C (C.ghost l.length e z 0):=Ev.ghost hf
 have hO1:Ok (C.ghost l.length e z 0):=hS.ok.ghost hf
 have hst1:(C.ghost l.length e z 0).st=ofl (l++[.tip e z 0]):=by
  show upd C.st l.length (.tip e z 0)=_
  rw[hS.st];exact uT l _
 have hbox:C.st id= .box cs:=by rw[hS.st];simp[ofl,List.getD,hi]
 have hset: ∀i,ofl (l.set id (.box (cs.set j (.sl [] (.own l.length))))++[.tip e z 0]) i=if i=id then .box (cs.set j (.sl [] (.own l.length)))else ofl (l++[.tip e z 0]) i:=fun i=>by
  unfold ofl
  by_cases h:i=id
  ·subst h;simp[List.getD,List.getElem?_append,hil]
  ·have h':id≠i:=fun q=>h q.symm
   simp[List.getD,List.getElem?_append,List.getElem?_set,h,h']
 have hk:Kin (C.ghost l.length e z 0).st (ofl (l.set id (.box (cs.set j (.sl [] (.own l.length))))++[.tip e z 0])):=fun i=>by
  rw[hset,hst1]
  by_cases h:i=id
  ·subst h
   exact .inr ⟨cs,_,by simp[ofl,List.getD,List.getElem?_append,hil,hi'],if_pos rfl⟩
  ·exact .inl (if_neg h)
 refine⟨(C.ghost l.length e z 0).wst _,⟨rfl,hO1.wst hk fun i ds hd=> ?_,(hS.defers.mono hE1).mono (Ev.wst hk),hS.size,fun t ht=>((hS.slot t ht).mono hE1).wst hk⟩,rfl,hE1.trans (Ev.wst hk)⟩
 rw[hset]at hd
 by_cases h:i=id
 ·subst h
  rw[if_pos rfl]at hd;cases hd
  obtain⟨g,bs,t,h1,h2,h3,h4,h5⟩:=hS.ok.box i cs hbox;have hne:i≠l.length:=by omega
  refine⟨g,bs,t,?_,h2,by simpa using h3,fun q hq=>h4 q (by simpa using hq),fun q hq=> ?_⟩
  ·show(if i=l.length then none else C.σ i)=some g
   rw[if_neg hne];exact h1
  ·have hq':q<cs.length:=by simpa using hq
   rw[List.getElem_set];have h6:=h5 q hq'
   by_cases hjq:j=q
   ·subst hjq
    rw[if_pos rfl];rw[hj']at h6;exact(R.ghost (id:=l.length) (e:=e) (z:=z) (.inr rfl) hf h6 (fun x hx=>by cases hx)).wst hk
   ·rw[if_neg hjq]
    exact(h6.mono hE1).wst hk
 ·rw[if_neg h,←hst1]at hd
  obtain⟨g,bs,t,h1,h2,h3,h4,h5⟩:=hO1.box i ds hd;exact⟨g,bs,t,h1,h2,h3,h4,fun q hq=>(h5 q hq).wst hk⟩
theorem ALp.ghostB{K:Ro→Prop}{P:Program}{st0:Nat→Ent}{Q:Exit→St→Prop}{c:Code}{N:Nat}{s:List (Nat×V)}{l:List Ent}(id j:Nat)(cs:List V)(e:TypeId)(z:Nat)
  (h:ALp K P st0 c Q ⟨dn N s,ofl (l.set id (.box (cs.set j (.sl [] (.own l.length))))++[.tip e z 0])⟩) (hi:l[id]? =some (.box cs):=by rfl) (hj:cs[j]? =some (.sl [] .nl):=by rfl):ALp K P st0 c Q ⟨dn N s,ofl l⟩:=by
 intro C0 C a ro n hK h0 hE hS
 obtain⟨D,h1,h2,h3⟩:=hS.ghostBO (e:=e) (z:=z) hi hj
 have:=h C0 D a ro n hK h0 (hE.trans h3) h1
 rw[h2]at this
 exact this
def tsV(s:ByteArray):V:= .im (.string s)
theorem ES(s:ByteArray):tsV s= .im (.string s):=rfl
theorem Oz(v:ByteArray):(tsV v).live=true:=rfl
theorem Oy(v:ByteArray):(tsV v).size=1:=rfl
theorem Pa(v:ByteArray):(tsV v).isAg=false:=rfl
theorem Pb(v:ByteArray):(tsV v).firm=true:=rfl
theorem Jb(g:Bool)(v:ByteArray):strip g (tsV v)=tsV v:=rfl
theorem Jc(s:ByteArray):(tsV s).cells=[.im (.string s)]:=rfl
theorem TG(p:Nat→Bool)(v:ByteArray):(tsV v).ids p=true:=rfl
theorem pE(p:Nat→Bool)(l:List ByteArray):V.idsL p (l.map tsV)=true:=gH (TG p) l
theorem jF(g:Nat→Nat)(l:List ByteArray):V.renL g (l.map tsV)=l.map tsV:=V.renL_id g _ (pE _ l)
theorem TS:type_of%(A9 @Pb @Jb @Oz @Oy @Pa @Jc @ES @List.getElem?_map.{0,0} @Int.natCast_nonneg) :=
 A9 @Pb @Jb @Oz @Oy @Pa @Jc @ES @List.getElem?_map.{0,0} @Int.natCast_nonneg
def Np:=A3 @dR @jN @dA
theorem KR(l:List ByteArray)(hl:l.length≤4194304)(s:ByteArray):PC Tryz.prog 93 [.sl (l.map tsV) .ro,.im (.string s)] (.im (.int .i64 (idx l fun x=>eqS s x))):=by
 refine pcEnt 19 Tryz.func93 rfl [(0,.sl (l.map tsV) .ro),(1,.im (.string s))] ?_
 refine wG Np @List.length_map.{0,0} ?_
 refine aP ?_
 refine ALp.cutP 0 [(0,.sl (l.map tsV) .ro),(1,.im (.string s)),(7,(.im (.int .i64 (l.length)))),(8,(.im (.int .i64 ((((0:Nat)):Int)))))] [] (A5 pE @aD @aL @aE @aN) ?_
 refine aW l.length (AllTo (fun x=> !eqS s x) l) (fun m=>⟨dn 19 [(0,.sl (l.map tsV) .ro),(1,.im (.string s)),(7,(.im (.int .i64 (l.length)))),(8,(.im (.int .i64 ((((m:Nat)):Int)))))],ofl []⟩) ?_ 0 (Nat.zero_le _) (AllTo.zero _ _)
 intro m hm hI hnext
 by_cases hlt:m<l.length
 ·have hlt':(m:Int)<(l.length:Int):=by omega
  have hm1:=aK hlt (by omega)
  have hg:=bB hlt;cases b:eqS s l[m]with
  | true =>
   have b':(s.toList==l[m].toList)=true:=b;rw[rT hlt hI b];refine wG Np (A4 hlt' hg b' TS) ?_;exact aB
  | false =>
   have b':(s.toList==l[m].toList)=false:=b;refine wG Np (A5 hlt' hg b' hm1 TS) ?_;refine ALp.cutP 0 [(0,.sl (l.map tsV) .ro),(1,.im (.string s)),(7,(.im (.int .i64 (l.length)))),(8,(.im (.int .i64 ((((m+1:Nat)):Int)))))] [] (A5 pE @aD @aL @aE @aN) ?_;exact hnext (m+1) (by omega) (by omega) (hI.succ hlt (by simp[b]))
 obtain rfl:m=l.length:=by omega
 clear hnext
 rw[rU hI]
 refine wG Np @Int.lt_irrefl ?_
 exact aB
theorem qF(l:List ByteArray)(hl:l.length≤4194304)(s:ByteArray):PC Tryz.prog 44 [.sl (l.map tsV) .ro,.im (.string s)] (.im (.bool (l.any fun x=>eqS s x))):=by
 have h:=KR l hl s
 refine pcEnt 9 Tryz.func44 rfl [(0,.sl (l.map tsV) .ro),(1,.im (.string s))] ?_
 refine wG TI TI ?_
 refine AR.callP h TI (A5 pE @aD @aL @aE @aN) ?_
 refine goG TI TI ?_
 rw[wF]
 refine wG TI TI ?_
 exact aB
def BN02:=A8 @aD @aL @aE @aN pE aG aH aS
def BN04:=A14 @aD @aL @aE @aN pE aG aH aS dS fI eU kU uI pH
def BN06:=A12 @aD @aL @aE @aN pE aG aH aS dS fI eU kU
def Tb:=A8 @aQ @aR @bE @bD jF bI bK cC
def RS:=A7 @aQ @aR @bE @bD jF bI bK
theorem Px{α β γ:Type}(r:Option (Rs α))(k:α→Nat→Nat→Option (Rs β))(k2:β→Nat→Nat→Option (Rs γ)):rb (rb r k) k2=rb r fun x a o=>rb (k x a o) k2:=by
 match r with
 | none=>rfl
 | some (.bad a e)=>rfl
 | some (.ok x a o)=>rfl
theorem uL(x:List (List Nd)):stV x= .ag [.im (.int .i64 (theS x).kind),.im (.int .i64 (theS x).width),.im (.string (theS x).name),.sl ((theS x).e.map exV) .ro,.sl ((theS x).l.map ndV) .ro,.sl ((theS x).el.map ndV) .ro,.sl ((theS x).cs.map nlV) .ro]:=eF _
theorem Fw(l:List (List Nd)):liV l= .sl ((l.headD []).map ndV) .ro:=rfl
def aF:=A16 @oB @iR @cO @jO @kL @kR @gM @lP @lO @lN @lM @Aa @oA @gT @cN (AI @iQ @dK)
def aT:=A11 aX bC @aE @aD aS aG aV aH Ul FX Vb
def bF:=A11 fE fF @aQ @aR cC bI bK Xn Md Xa Yj
theorem QE{ts:List Tk}{f:Nat}(hts:ts.length≤4194304)(hB:BrC ts f)(hC:CaC ts f):StC ts (f+1):=by
 intro a o ho r h
 have hp:=xW ts a o
 have hf:=oG ts a o 3
 rw[stM]at h
 refine xcEnt 126 Tryz.func168 rfl [(0,.pt 0 0)] ?_
 refine wG aF TI ?_
 rcases aI h with ⟨hk,h⟩|⟨hk,h⟩
 ·have hc:=KK hts a o ho r h
  generalize pk ts a=t at hp hk;refine aA [0] hp TI aT bF ?_;refine goG aF (AI TKT hk) ?_;refine wG aF (AI TKT hk) ?_;cases r with
  | bad b e1 =>
   exact PA.callP [0] hc.fails TI aT bF (fun _=>PFin.i rfl rfl)
  | ok x b p =>
   refine aA [0] hc.good TI aT bF ?_;refine goG aF LIT ?_;refine wG aF LIT ?_;refine fiGen [.cell 2 165] (finG aF) ?_ rfl (idG aT)
   rw[uL x]
   all_goals exact wkG aT
 generalize pk ts a=t at hp hk
 refine aA [0] hp TI aT bF ?_
 refine goG aF (AI TKT hk) ?_
 refine wG aF (AI TKT hk) ?_
 clear hk hp
 have hq:=eC ts a o [103,111,116,111] hts
 rcases aI h with ⟨hk,h⟩|⟨hk,h⟩
 ·rw[if_pos hk,hk]at hq
  refine aA [0] hq TI aT bF ?_;refine goG aF TI ?_;refine wG aF TI ?_;rcases aU h with ⟨b1,e1,h1,rfl⟩|⟨nm,a1,o1,h1,h⟩
  ·exact PA.callP [0] ((lB ts (a+1) o hts _ h1).fails) TI aT bF (fun _=>PFin.i rfl rfl)
  refine aA [0] (((lB ts (a+1) o hts _ h1).good)) TI aT bF ?_;refine goG aF TI ?_;obtain⟨_,rfl,hoe,hlt⟩:=gQ h1;subst o1;clear h1;refine wG aF TI ?_;rcases aU h with ⟨b1,e1,h1,rfl⟩|⟨_,a2,o2,h1,h⟩
  ·exact PA.callP [0] ((bV ts (a+1+1) o [59] hts _ h1).fails) TI aT bF (fun _=>PFin.i rfl rfl)
  refine aA [0] (((bV ts (a+1+1) o [59] hts _ h1).good)) TI aT bF ?_;refine goG aF TI ?_;cases h
  refine wG aF TI ?_;refine fiGen [.cell 2 165] (finG aF) ?_ rfl (idG aT)
  simp only[kN,eW,List.map_nil]
  all_goals exact wkG aT
 rw[if_neg hk]at hq
 rw[Bool.not_eq_true]at hk
 rw[hk]at hq
 refine aA [0] hq TI aT bF ?_
 refine goG aF TI ?_
 refine wG aF TI ?_
 clear hk hq
 have hq:=eC ts a o [99,97,108,108] hts
 rcases aI h with ⟨hk,h⟩|⟨hk,h⟩
 ·rw[if_pos hk,hk]at hq
  refine aA [0] hq TI aT bF ?_;refine goG aF TI ?_;refine wG aF TI ?_;rcases aU h with ⟨b1,e1,h1,rfl⟩|⟨nm,a1,o1,h1,h⟩
  ·exact PA.callP [0] ((lB ts (a+1) o hts _ h1).fails) TI aT bF (fun _=>PFin.i rfl rfl)
  refine aA [0] (((lB ts (a+1) o hts _ h1).good)) TI aT bF ?_;refine goG aF TI ?_;obtain⟨_,rfl,hoe,hlt⟩:=gQ h1;subst o1;clear h1;refine wG aF TI ?_;rcases aU h with ⟨b1,e1,h1,rfl⟩|⟨_,a2,o2,h1,h⟩
  ·exact PA.callP [0] ((bV ts (a+1+1) o [59] hts _ h1).fails) TI aT bF (fun _=>PFin.i rfl rfl)
  refine aA [0] (((bV ts (a+1+1) o [59] hts _ h1).good)) TI aT bF ?_;refine goG aF TI ?_;cases h
  refine wG aF TI ?_;refine fiGen [.cell 2 165] (finG aF) ?_ rfl (idG aT)
  simp only[kN,eW,List.map_nil]
  all_goals exact wkG aT
 rw[if_neg hk]at hq
 rw[Bool.not_eq_true]at hk
 rw[hk]at hq
 refine aA [0] hq TI aT bF ?_
 refine goG aF TI ?_
 refine wG aF TI ?_
 clear hk hq
 have hq:=eC ts a o [115,116,111,114,101,49] hts
 rcases aI h with ⟨hk,h⟩|⟨hk,h⟩
 ·rw[if_pos hk,hk]at hq
  refine aA [0] hq TI aT bF ?_;refine goG aF TI ?_;refine wG aF TI ?_;have hc:=Mv hts 1 (a+1) o ho r h;cases r with
  | bad b e1 =>
   exact PA.callP [0] hc.fails TI aT bF (fun _=>PFin.i rfl rfl)
  | ok x b p =>
   refine aA [0] hc.good TI aT bF ?_;refine goG aF LIT ?_;refine wG aF LIT ?_;refine fiGen [.cell 2 165] (finG aF) ?_ rfl (idG aT)
   rw[uL x]
   all_goals exact wkG aT
 rw[if_neg hk]at hq
 rw[Bool.not_eq_true]at hk
 rw[hk]at hq
 refine aA [0] hq TI aT bF ?_
 refine goG aF TI ?_
 refine wG aF TI ?_
 clear hk hq
 have hq:=eC ts a o [115,116,111,114,101,50] hts
 rcases aI h with ⟨hk,h⟩|⟨hk,h⟩
 ·rw[if_pos hk,hk]at hq
  refine aA [0] hq TI aT bF ?_;refine goG aF TI ?_;refine wG aF TI ?_;have hc:=Mv hts 2 (a+1) o ho r h;cases r with
  | bad b e1 =>
   exact PA.callP [0] hc.fails TI aT bF (fun _=>PFin.i rfl rfl)
  | ok x b p =>
   refine aA [0] hc.good TI aT bF ?_;refine goG aF LIT ?_;refine wG aF LIT ?_;refine fiGen [.cell 2 165] (finG aF) ?_ rfl (idG aT)
   rw[uL x]
   all_goals exact wkG aT
 rw[if_neg hk]at hq
 rw[Bool.not_eq_true]at hk
 rw[hk]at hq
 refine aA [0] hq TI aT bF ?_
 refine goG aF TI ?_
 refine wG aF TI ?_
 clear hk hq
 have hq:=eC ts a o [115,116,111,114,101,52] hts
 rcases aI h with ⟨hk,h⟩|⟨hk,h⟩
 ·rw[if_pos hk,hk]at hq
  refine aA [0] hq TI aT bF ?_;refine goG aF TI ?_;refine wG aF TI ?_;have hc:=Mv hts 4 (a+1) o ho r h;cases r with
  | bad b e1 =>
   exact PA.callP [0] hc.fails TI aT bF (fun _=>PFin.i rfl rfl)
  | ok x b p =>
   refine aA [0] hc.good TI aT bF ?_;refine goG aF LIT ?_;refine wG aF LIT ?_;refine fiGen [.cell 2 165] (finG aF) ?_ rfl (idG aT)
   rw[uL x]
   all_goals exact wkG aT
 rw[if_neg hk]at hq
 rw[Bool.not_eq_true]at hk
 rw[hk]at hq
 refine aA [0] hq TI aT bF ?_
 refine goG aF TI ?_
 refine wG aF TI ?_
 clear hk hq
 have hq:=eC ts a o [111,117,116] hts
 rcases aI h with ⟨hk,h⟩|⟨hk,h⟩
 ·rw[if_pos hk,hk]at hq
  refine aA [0] hq TI aT bF ?_;refine goG aF TI ?_;refine wG aF TI ?_;rcases aU h with ⟨b1,e1,h1,rfl⟩|⟨x,a1,o1,h1,h⟩
  ·exact PA.callP [0] ((xF hts f 1 (a+1) o (by decide) ho _ h1).fails) i1 aT bF (fun _=>PFin.i rfl rfl)
  refine aA [0] (((xF hts f 1 (a+1) o (by decide) ho _ h1).good)) i1 aT bF ?_
  refine goG aF BN01 ?_;obtain⟨hoe,_⟩:=dW ts _ _ _ _ _ _ _ h1;subst o1;clear h1;refine wG aF BN01 ?_;rcases aU h with ⟨b1,e1,h1,rfl⟩|⟨_,a2,o2,h1,h⟩
  ·exact PA.callP [0] ((bV ts a1 o [59] hts _ h1).fails) TI aT bF (fun _=>PFin.i rfl rfl)
  refine aA [0] (((bV ts a1 o [59] hts _ h1).good)) TI aT bF ?_;refine goG aF TI ?_;cases h
  refine wG aF BN01 ?_;refine fiGen [.cell 2 165] (finG aF) ?_ rfl (idG aT)
  simp only[kN,eW,List.map_nil,List.map_cons];rw[bH x]
  all_goals exact wkG aT
 rw[if_neg hk]at hq
 rw[Bool.not_eq_true]at hk
 rw[hk]at hq
 refine aA [0] hq TI aT bF ?_
 refine goG aF TI ?_
 refine wG aF TI ?_
 clear hk hq
 have hq:=eC ts a o [105,102] hts
 rcases aI h with ⟨hk,h⟩|⟨hk,h⟩
 ·rw[if_pos hk,hk]at hq
  refine aA [0] hq TI aT bF ?_;refine goG aF TI ?_;refine wG aF TI ?_;rcases aU h with ⟨b1,e1,h1,rfl⟩|⟨x,a1,o1,h1,h⟩
  ·exact PA.callP [0] ((xF hts f 1 (a+1) o (by decide) ho _ h1).fails) i1 aT bF (fun _=>PFin.i rfl rfl)
  refine aA [0] (((xF hts f 1 (a+1) o (by decide) ho _ h1).good)) i1 aT bF ?_
  refine goG aF BN01 ?_;obtain⟨hoe,_⟩:=dW ts _ _ _ _ _ _ _ h1;subst o1;clear h1;refine wG aF BN01 ?_;rcases aU h with ⟨b1,e1,h1,rfl⟩|⟨l,a2,o2,h1,h⟩
  ·exact PA.callP [0] ((hB a1 o ho _ h1).fails) TI aT bF (fun _=>PFin.i rfl rfl)
  refine aA [0] (((hB a1 o ho _ h1).good)) TI aT bF ?_;refine goG aF LIT ?_;obtain⟨hoe,_,_⟩:=(fW ts f).2.2.1 _ _ _ _ _ h1;subst o2;clear h1;refine wG aF BN09 ?_;have hq:=eC ts a2 o [101,108,115,101] hts;rcases aI h with ⟨hk,h⟩|⟨hk,h⟩
  ·rw[if_pos hk,hk]at hq
   refine aA [0] hq TI aT bF ?_;refine goG aF TI ?_;refine wG aF TI ?_;rcases aU h with ⟨b1,e1,h1,rfl⟩|⟨el,a3,o2,h1,h⟩
   ·exact PA.callP [0] ((hB (a2+1) o ho _ h1).fails) TI aT bF (fun _=>PFin.i rfl rfl)
   refine aA [0] (((hB (a2+1) o ho _ h1).good)) TI aT bF ?_;refine goG aF LIT ?_;obtain⟨hoe,_,_⟩:=(fW ts f).2.2.1 _ _ _ _ _ h1;subst o2;clear h1;refine wG aF BN09 ?_;cases h
   refine wG aF BN09 ?_;refine fiGen [.cell 2 165] (finG aF) ?_ rfl (idG aT)
   simp only[kN,eW,List.map_nil,List.map_cons,Fw];rw[bH x]
   all_goals exact wkG aT
  rw[if_neg hk]at hq;rw[Bool.not_eq_true]at hk;rw[hk]at hq;refine aA [0] hq TI aT bF ?_;refine goG aF TI ?_;cases h
  refine wG aF BN09 ?_;refine fiGen [.cell 2 165] (finG aF) ?_ rfl (idG aT)
  simp only[kN,eW,List.map_nil,List.map_cons,Fw];rw[bH x]
  all_goals exact wkG aT
 rw[if_neg hk]at hq
 rw[Bool.not_eq_true]at hk
 rw[hk]at hq
 refine aA [0] hq TI aT bF ?_
 refine goG aF TI ?_
 refine wG aF TI ?_
 clear hk hq
 have hq:=eC ts a o [119,104,105,108,101] hts
 rcases aI h with ⟨hk,h⟩|⟨hk,h⟩
 ·rw[if_pos hk,hk]at hq
  refine aA [0] hq TI aT bF ?_;refine goG aF TI ?_;refine wG aF TI ?_;rcases aU h with ⟨b1,e1,h1,rfl⟩|⟨x,a1,o1,h1,h⟩
  ·exact PA.callP [0] ((xF hts f 1 (a+1) o (by decide) ho _ h1).fails) i1 aT bF (fun _=>PFin.i rfl rfl)
  refine aA [0] (((xF hts f 1 (a+1) o (by decide) ho _ h1).good)) i1 aT bF ?_
  refine goG aF BN01 ?_;obtain⟨hoe,_⟩:=dW ts _ _ _ _ _ _ _ h1;subst o1;clear h1;refine wG aF BN01 ?_;rcases aU h with ⟨b1,e1,h1,rfl⟩|⟨l,a2,o2,h1,h⟩
  ·exact PA.callP [0] ((hB a1 o ho _ h1).fails) TI aT bF (fun _=>PFin.i rfl rfl)
  refine aA [0] (((hB a1 o ho _ h1).good)) TI aT bF ?_;refine goG aF LIT ?_;obtain⟨hoe,_,_⟩:=(fW ts f).2.2.1 _ _ _ _ _ h1;subst o2;clear h1;refine wG aF BN09 ?_;cases h
  refine fiGen [.cell 2 165] (finG aF) ?_ rfl (idG aT)
  simp only[kN,eW,List.map_nil,List.map_cons,Fw];rw[bH x]
  all_goals exact wkG aT
 rw[if_neg hk]at hq
 rw[Bool.not_eq_true]at hk
 rw[hk]at hq
 refine aA [0] hq TI aT bF ?_
 refine goG aF TI ?_
 refine wG aF TI ?_
 clear hk hq
 have hq:=eC ts a o [108,111,111,112] hts
 rcases aI h with ⟨hk,h⟩|⟨hk,h⟩
 ·rw[if_pos hk,hk]at hq
  refine aA [0] hq TI aT bF ?_;refine goG aF TI ?_;refine wG aF TI ?_;rcases aU h with ⟨b1,e1,h1,rfl⟩|⟨l,a2,o2,h1,h⟩
  ·exact PA.callP [0] ((hB (a+1) o ho _ h1).fails) TI aT bF (fun _=>PFin.i rfl rfl)
  refine aA [0] (((hB (a+1) o ho _ h1).good)) TI aT bF ?_;refine goG aF LIT ?_;obtain⟨hoe,_,_⟩:=(fW ts f).2.2.1 _ _ _ _ _ h1;subst o2;clear h1;refine wG aF BN09 ?_;cases h
  refine fiGen [.cell 2 165] (finG aF) ?_ rfl (idG aT)
  simp only[kN,eW,List.map_nil,List.map_cons,Fw]
  all_goals exact wkG aT
 rw[if_neg hk]at hq
 rw[Bool.not_eq_true]at hk
 rw[hk]at hq
 refine aA [0] hq TI aT bF ?_
 refine goG aF TI ?_
 refine wG aF TI ?_
 clear hk hq
 have hq:=eC ts a o [115,119,105,116,99,104] hts
 rcases aI h with ⟨hk,h⟩|⟨hk,h⟩
 ·rw[if_pos hk,hk]at hq
  refine aA [0] hq TI aT bF ?_;refine goG aF TI ?_;refine wG aF TI ?_;rcases aU h with ⟨b1,e1,h1,rfl⟩|⟨x,a1,o1,h1,h⟩
  ·exact PA.callP [0] ((xF hts f 1 (a+1) o (by decide) ho _ h1).fails) i1 aT bF (fun _=>PFin.i rfl rfl)
  refine aA [0] (((xF hts f 1 (a+1) o (by decide) ho _ h1).good)) i1 aT bF ?_
  refine goG aF BN01 ?_;obtain⟨hoe,_⟩:=dW ts _ _ _ _ _ _ _ h1;subst o1;clear h1;refine wG aF BN01 ?_;rw[←Px]at h;rcases aU h with ⟨b1,e1,h1,rfl⟩|⟨l,a2,o2,h1,h⟩
  ·exact PA.callP [0] ((hC a1 o ho _ h1).fails) TI aT bF (fun _=>PFin.i rfl rfl)
  refine aA [0] (((hC a1 o ho _ h1).good)) TI aT bF ?_;refine goG aF LIT ?_;clear h1;refine wG aF BN09 ?_;cases h
  refine fiGen [.cell 2 165] (finG aF) ?_ rfl (idG aT)
  simp only[kN,eW,List.map_nil,List.map_cons,caV];rw[bH x]
  all_goals exact wkG aT
 rw[if_neg hk]at hq
 rw[Bool.not_eq_true]at hk
 rw[hk]at hq
 refine aA [0] hq TI aT bF ?_
 refine goG aF TI ?_
 refine wG aF TI ?_
 clear hk hq
 have hq:=eC ts a o [98,114,101,97,107] hts
 rcases aI h with ⟨hk,h⟩|⟨hk,h⟩
 ·rw[if_pos hk,hk]at hq
  refine aA [0] hq TI aT bF ?_;refine goG aF TI ?_;refine wG aF TI ?_;have hc:=wS hts 10 (a+1) o ho r h;cases r with
  | bad b e1 =>
   exact PA.callP [0] hc.fails TI aT bF (fun _=>PFin.i rfl rfl)
  | ok x b p =>
   refine aA [0] hc.good TI aT bF ?_;refine goG aF LIT ?_;refine wG aF LIT ?_;refine fiGen [.cell 2 165] (finG aF) ?_ rfl (idG aT)
   rw[uL x]
   all_goals exact wkG aT
 rw[if_neg hk]at hq
 rw[Bool.not_eq_true]at hk
 rw[hk]at hq
 refine aA [0] hq TI aT bF ?_
 refine goG aF TI ?_
 refine wG aF TI ?_
 clear hk hq
 have hq:=eC ts a o [99,111,110,116,105,110,117,101] hts
 rcases aI h with ⟨hk,h⟩|⟨hk,h⟩
 ·rw[if_pos hk,hk]at hq
  refine aA [0] hq TI aT bF ?_;refine goG aF TI ?_;refine wG aF TI ?_;have hc:=wS hts 11 (a+1) o ho r h;cases r with
  | bad b e1 =>
   exact PA.callP [0] hc.fails TI aT bF (fun _=>PFin.i rfl rfl)
  | ok x b p =>
   refine aA [0] hc.good TI aT bF ?_;refine goG aF LIT ?_;refine wG aF LIT ?_;refine fiGen [.cell 2 165] (finG aF) ?_ rfl (idG aT)
   rw[uL x]
   all_goals exact wkG aT
 rw[if_neg hk]at hq
 rw[Bool.not_eq_true]at hk
 rw[hk]at hq
 refine aA [0] hq TI aT bF ?_
 refine goG aF TI ?_
 refine wG aF TI ?_
 clear hk hq
 have hq:=eC ts a o [114,101,116,117,114,110] hts
 rcases aI h with ⟨hk,h⟩|⟨hk,h⟩
 ·rw[if_pos hk,hk]at hq
  refine aA [0] hq TI aT bF ?_;refine goG aF TI ?_;refine wG aF TI ?_;have hc:=wS hts 14 (a+1) o ho r h;cases r with
  | bad b e1 =>
   exact PA.callP [0] hc.fails TI aT bF (fun _=>PFin.i rfl rfl)
  | ok x b p =>
   refine aA [0] hc.good TI aT bF ?_;refine goG aF LIT ?_;refine wG aF LIT ?_;refine fiGen [.cell 2 165] (finG aF) ?_ rfl (idG aT)
   rw[uL x]
   all_goals exact wkG aT
 rw[if_neg hk]at hq
 rw[Bool.not_eq_true]at hk
 rw[hk]at hq
 refine aA [0] hq TI aT bF ?_
 refine goG aF TI ?_
 refine wG aF TI ?_
 clear hk hq
 have hq:=eC ts a o [104,97,108,116] hts
 rcases aI h with ⟨hk,h⟩|⟨hk,h⟩
 ·rw[if_pos hk,hk]at hq
  refine aA [0] hq TI aT bF ?_;refine goG aF TI ?_;refine wG aF TI ?_;have hc:=wS hts 15 (a+1) o ho r h;cases r with
  | bad b e1 =>
   exact PA.callP [0] hc.fails TI aT bF (fun _=>PFin.i rfl rfl)
  | ok x b p =>
   refine aA [0] hc.good TI aT bF ?_;refine goG aF LIT ?_;refine wG aF LIT ?_;refine fiGen [.cell 2 165] (finG aF) ?_ rfl (idG aT)
   rw[uL x]
   all_goals exact wkG aT
 rw[if_neg hk]at hq
 rw[Bool.not_eq_true]at hk
 rw[hk]at hq
 refine aA [0] hq TI aT bF ?_
 refine goG aF TI ?_
 refine wG aF TI ?_
 clear hk hq
 cases h
 exact PA.callP [0] hf TI aT bF (fun _=>PFin.i rfl rfl)
theorem ZU{ts:List Tk}(hts:ts.length≤4194304)(hok: ∀t∈ts,TkOk t): ∀F f,f≤F→StC ts f∧BrC ts f:=by
 intro F
 induction F with
 | zero =>
  intro f hf;obtain rfl:f=0:=by omega
  exact⟨(fun a o _ r h=>by cases h),(fun a o _ r h=>by cases h)⟩
 | succ F ih =>
  intro f hf
  by_cases hle:f≤F
  ·exact ih f hle
  obtain rfl:f=F+1:=by omega
  exact⟨QE hts (ih F (Nat.le_refl _)).2 (QT hts hok F fun f hf=>(ih f (by omega)).2),LC hts F (KL hts F fun f hf=>(ih f (by omega)).1)⟩
theorem SS{ts:List Tk}(hts:ts.length≤4194304)(hok: ∀t∈ts,TkOk t)(F:Nat):LiC ts F:=KL hts F fun f _=>(ZU hts hok F f (by omega)).1
theorem UU{ts:List Tk}(h: ∀t∈ts,TkOk t)(a:Nat):(pk ts a).text.length≤4194304:=by
 by_cases hl:a<ts.length
 ·exact(h _ (List.mem_of_getElem? (Xh hl))).2
 ·rw[Jn (by omega)];decide
theorem Lh(l:List Va):kV 6 (l.map vaV)=true:=by
 unfold kV
 rw[List.all_map]
 exact List.all_eq_true.2 fun x _=>rfl
def lD:=A7 @gF @Ad @qN @mV @RN @gD @jM
def cS:=A13 aX bC @bQ @bS @bR @bT @aN @aL aS aG Ul vE gG
def dG:=A13 fE fF @sE @sS @sF @sT @bE @bD cC bI Md Ni oK
theorem sX{ts:List Tk}{f:Nat}(hts:ts.length≤4194304)(hok: ∀t∈ts,TkOk t)(a o:Nat)(ho:o≤256)(r:Rs Va)(h:xL ts f a o=some r):XC Tryz.prog 79 [.pt 0 0] ts a o vaV r:=by
 unfold xL at h
 refine xcEnt 17 Tryz.func79 rfl [(0,.pt 0 0)] ?_
 refine wG lD TI ?_
 rcases aU h with ⟨b1,e1,h1,rfl⟩|⟨_,a1,o1,h1,h⟩
 ·exact PA.callP [0] ((bV ts a o [118,97,114] hts _ h1).fails) TI cS dG (fun _=>PFin.i rfl rfl)
 refine aA [0] (((bV ts a o [118,97,114] hts _ h1).good)) TI cS dG ?_
 refine goG lD TI ?_
 obtain⟨_,rfl,hoe⟩:=cK h1
 subst o1
 clear h1
 refine wG lD TI ?_
 rcases aU h with ⟨b1,e1,h1,rfl⟩|⟨nm,a2,o2,h1,h⟩
 ·exact PA.callP [0] ((lB ts (a+1) o hts _ h1).fails) TI cS dG (fun _=>PFin.i rfl rfl)
 refine aA [0] (((lB ts (a+1) o hts _ h1).good)) TI cS dG ?_
 refine goG lD TI ?_
 obtain⟨_,rfl,hoe,hlt⟩:=gQ h1
 subst o2
 clear h1
 refine wG lD TI ?_
 rcases aU h with ⟨b1,e1,h1,rfl⟩|⟨_,a3,o3,h1,h⟩
 ·exact PA.callP [0] ((bV ts (a+1+1) o [58] hts _ h1).fails) TI cS dG (fun _=>PFin.i rfl rfl)
 refine aA [0] (((bV ts (a+1+1) o [58] hts _ h1).good)) TI cS dG ?_
 refine goG lD TI ?_
 obtain⟨_,rfl,hoe⟩:=cK h1
 subst o3
 clear h1
 refine wG lD TI ?_
 rcases aU h with ⟨b1,e1,h1,rfl⟩|⟨x,a4,o4,h1,h⟩
 ·exact PA.callP [0] ((SP hts hok f f (Nat.le_refl _) (a+1+1+1) o ho _ h1).fails) TI cS dG (fun _=>PFin.i rfl rfl)
 refine aA [0] (((SP hts hok f f (Nat.le_refl _) (a+1+1+1) o ho _ h1).good)) TI cS dG ?_
 refine goG lD BN03 ?_
 obtain⟨hoe,_,_⟩:=(kX ts f).1 _ _ _ _ _ h1
 subst o4
 clear h1
 refine wG lD BN03 ?_
 rcases aU h with ⟨b1,e1,h1,rfl⟩|⟨_,a5,o5,h1,h⟩
 ·exact PA.callP [0] ((bV ts a4 o [59] hts _ h1).fails) TI cS dG (fun _=>PFin.i rfl rfl)
 refine aA [0] (((bV ts a4 o [59] hts _ h1).good)) TI cS dG ?_
 refine goG lD TI ?_
 cases h
 refine wG lD BN03 ?_
 refine fiGen [.cell 2 96] (finG lD) ?_ rfl (idG cS)
 rw[qR]
 all_goals exact wkG cS
def iM:=A16 @Oq @nP @tX @Eg @dR @Ef @lH @nA @pR @sA @Ch @Cg @tO @yH @RO (A8 @Og @nN @tM @qK @dA @rE @tI @iC)
theorem Yr{ts:List Tk}(hts:ts.length≤4194304)(hok: ∀t∈ts,TkOk t)(a o:Nat)(ho:o≤256)(r:Rs Sec)(h:Dg ts a o=some r):XC Tryz.prog 80 [.pt 0 0] ts a o scV r:=by
 unfold Dg at h
 refine xcEnt 28 Tryz.func80 rfl [(0,.pt 0 0)] ?_
 refine wG iM TI ?_
 rcases aU h with ⟨b1,e1,h1,rfl⟩|⟨_,a1,o1,h1,h⟩
 ·exact PA.callP [0] ((bV ts a o [100,97,116,97] hts _ h1).fails) TI cS dG (fun _=>PFin.i rfl rfl)
 refine aA [0] (((bV ts a o [100,97,116,97] hts _ h1).good)) TI cS dG ?_
 refine goG iM TI ?_
 obtain⟨_,rfl,hoe⟩:=cK h1
 subst o1
 clear h1
 refine wG iM TI ?_
 rcases aU h with ⟨b1,e1,h1,rfl⟩|⟨nm,a2,o2,h1,h⟩
 ·exact PA.callP [0] ((lB ts (a+1) o hts _ h1).fails) TI cS dG (fun _=>PFin.i rfl rfl)
 refine aA [0] (((lB ts (a+1) o hts _ h1).good)) TI cS dG ?_
 refine goG iM TI ?_
 obtain⟨_,rfl,hoe,hlt⟩:=gQ h1
 subst o2
 clear h1
 rcases aU h with ⟨b1,e1,h1,rfl⟩|⟨d,a3,o3,h1,h⟩
 ·exact PA.callP [0] ((oF ts (a+1+1) o 3 (by decide) hts _ h1).fails) TI cS dG (fun _=>PFin.i rfl rfl)
 refine aA [0] (((oF ts (a+1+1) o 3 (by decide) hts _ h1).good)) TI cS dG ?_
 refine goG iM TKT ?_
 obtain⟨_,_,rfl,hoe⟩:=iE h1
 subst o3
 clear h1
 refine wG iM TKT ?_
 have hq:=eC ts (a+1+1+1) o [119,114,105,116,101] hts
 obtain⟨w,a4,o4,h1,h⟩: ∃w a4 o4,accM ts [119,114,105,116,101] (a+1+1+1) o=some (.ok w a4 o4)∧_:=by
  rcases aU h with ⟨b1,e1,h1,rfl⟩|⟨w,a4,o4,h1,h⟩
  ·rcases aI h1 with ⟨_,h1⟩|⟨_,h1⟩<;>cases h1
  ·exact⟨w,a4,o4,h1,h⟩
 obtain⟨hoe,hle,hw,ha4⟩:=Dx h1
 rw[←ha4,←hw]at hq
 subst o4
 clear h1 hw ha4
 refine aA [0] hq TI cS dG ?_
 refine goG iM TI ?_
 refine wG iM TI ?_
 clear hq
 have hq:=eC ts a4 o [101,120,101,99] hts
 obtain⟨xe,a5,o5,h1,h⟩: ∃w a5 o5,accM ts [101,120,101,99] a4 o=some (.ok w a5 o5)∧_:=by
  rcases aU h with ⟨b1,e1,h1,rfl⟩|⟨w,a5,o5,h1,h⟩
  ·rcases aI h1 with ⟨_,h1⟩|⟨_,h1⟩<;>cases h1
  ·exact⟨w,a5,o5,h1,h⟩
 obtain⟨hoe,hle2,hw,ha5⟩:=Dx h1
 rw[←ha5,←hw]at hq
 subst o5
 clear h1 hw ha5
 refine aA [0] hq TI cS dG ?_
 refine goG iM TI ?_
 refine wG iM TI ?_
 clear hq
 rcases aU h with ⟨b1,e1,h1,rfl⟩|⟨_,a6,o6,h1,h⟩
 ·exact PA.callP [0] ((bV ts a5 o [61] hts _ h1).fails) TI cS dG (fun _=>PFin.i rfl rfl)
 refine aA [0] (((bV ts a5 o [61] hts _ h1).good)) TI cS dG ?_
 refine goG iM TI ?_
 obtain⟨_,rfl,hoe⟩:=cK h1
 subst o6
 clear h1
 refine wG iM TI ?_
 have hpk:=UU hok (a5+1)
 rcases aU h with ⟨b1,e1,h1,rfl⟩|⟨t,a7,o7,h1,h⟩
 ·exact PA.callP [0] ((oF ts (a5+1) o 4 (by decide) hts _ h1).fails) TI cS dG (fun _=>PFin.i rfl rfl)
 obtain⟨_,ht,ha7,hoe⟩:=iE h1
 rw[←ht]at hpk
 have hsz:(ByteArray.mk t.text.toArray).size≤140737488355328:=by show t.text.toArray.size≤_;rw[List.size_toArray];omega
 have hbv:byV (ByteArray.mk t.text.toArray)=t.text.map fun b=>V.im (.int .u8 b.toNat):=rfl
 refine aA [0] ((oF ts (a5+1) o 4 (by decide) hts _ h1).good) TI cS dG ?_
 refine goG iM (A3 TKT hsz hbv) ?_
 subst ha7
 subst o7
 clear h1
 refine wG iM TKT ?_
 rcases aU h with ⟨b1,e1,h1,rfl⟩|⟨_,a8,o8,h1,h⟩
 ·exact PA.callP [0] ((bV ts (a5+1+1) o [59] hts _ h1).fails) TI cS dG (fun _=>PFin.i rfl rfl)
 refine aA [0] (((bV ts (a5+1+1) o [59] hts _ h1).good)) TI cS dG ?_
 refine goG iM TI ?_
 cases h
 refine wG iM TI ?_
 refine fiGen [.cell 2 76] (finG iM) ?_ rfl (idG cS)
 rw[Fi]
 all_goals exact wkG cS
def gL:=A14 @kA @jO @nQ @tT @qN @Ab @jZ @mX @pB @Zd @iZ @iQ @lG @jM
theorem Du{ts:List Tk}{f:Nat}(hts:ts.length≤4194304)(hok: ∀t∈ts,TkOk t)(a0 o:Nat)(ho:o≤256)(r:Rs Fun)(h:funM ts f a0 o=some r):XC Tryz.prog 52 [.pt 0 0] ts a0 o fnV r:=by
 unfold funM at h
 refine xcEnt 26 Tryz.func52 rfl [(0,.pt 0 0)] ?_
 refine wG gL TI ?_
 rcases aU h with ⟨b1,e1,h1,rfl⟩|⟨_,a1,o1,h1,h⟩
 ·exact PA.callP [0] ((bV ts a0 o [102,117,110,99] hts _ h1).fails) TI cS dG (fun _=>PFin.i rfl rfl)
 refine aA [0] (((bV ts a0 o [102,117,110,99] hts _ h1).good)) TI cS dG ?_
 refine goG gL TI ?_
 obtain⟨_,rfl,hoe⟩:=cK h1
 subst o1
 clear h1
 refine wG gL TI ?_
 rcases aU h with ⟨b1,e1,h1,rfl⟩|⟨nm,a2,o2,h1,h⟩
 ·exact PA.callP [0] ((lB ts (a0+1) o hts _ h1).fails) TI cS dG (fun _=>PFin.i rfl rfl)
 refine aA [0] (((lB ts (a0+1) o hts _ h1).good)) TI cS dG ?_
 refine goG gL TI ?_
 obtain⟨_,rfl,hoe,hlt⟩:=gQ h1
 subst o2
 clear h1
 refine wG gL TI ?_
 rcases aU h with ⟨b1,e1,h1,rfl⟩|⟨_,a3,o3,h1,h⟩
 ·exact PA.callP [0] ((fU ts (a0+1+1) o [123] hts _ h1).fails) TI cS dG (fun _=>PFin.i rfl rfl)
 refine aA [0] (((fU ts (a0+1+1) o [123] hts _ h1).good)) TI cS dG ?_
 refine goG gL TI ?_
 obtain⟨_,ho1,rfl,rfl⟩:=cE h1
 clear h1
 refine wG gL TI ?_
 refine aP ?_
 refine dF ?_
 refine AWp.ghostB 2 1 [.im (.string nm),.sl [] .nl,.sl [] .nl] 96 6 ?_
 suffices H: ∀(F:Nat),F≤f→ ∀(l:List Va) (a:Nat),l.length≤a→(rb (vasM ts F l a (o+1)) fun v a o=>rb (stM ts f (.li []) a o) fun l a o=>rb (endM ts [125] a o) fun _ a o=>ret (Fun.mk nm v (l.headD [])) a o)=some r→AWpK _ _ _ _ _ ⟨dn 26 [(0,.pt 0 0),(2,.pt 1 0),(3,.pt 2 0)],ofl [.box [.sl (ts.map tkV) .ro,(.im (.int .i64 ((a:Nat)))),(.im (.int .i64 ((o+1:Nat))))],.box [.im (.string ByteArray.empty),.sl [] .nl,.sl [] .nl],.box [.im (.string nm),.sl ((l).map vaV) (.mine 3),.sl [] .nl],.tip 96 6 (l).length]⟩ by
  refine AWp.cutP 4 [(0,.pt 0 0),(2,.pt 1 0),(3,.pt 2 0)] [.box [.sl (ts.map tkV) .ro,(.im (.int .i64 ((a0+1+1+1:Nat)))),(.im (.int .i64 ((o+1:Nat))))],.box [.im (.string ByteArray.empty),.sl [] .nl,.sl [] .nl],.box [.im (.string nm),.sl ((([]:List Va)).map vaV) (.mine 3),.sl [] .nl],.tip 96 6 (([]:List Va)).length] cS ?_;exact H f (Nat.le_refl _) [] (a0+1+1+1) (by simp) h
 clear h
 intro F
 induction F with
 | zero=>intro _ l a _ h;cases h
 | succ F ih =>
 intro hf l a hla h
 rw[vasM]at h
 have hs:=pK ts a (o+1) [118,97,114]
 by_cases hk:sees ts a [118,97,114]=true
 case neg =>
  rw[if_neg hk]at h;rw[Bool.not_eq_true]at hk;rw[hk]at hs;change (rb (stM ts f (.li []) a (o+1)) fun b a o=>rb (endM ts [125] a o) fun _ a o=>ret (Fun.mk nm l (b.headD [])) a o)=some r at h
  refine wG gL TI ?_;refine aA [0] hs TI cS dG ?_;refine goG gL TI ?_;refine wG gL TI ?_;rcases aU h with ⟨b1,e1,h1,rfl⟩|⟨b,a4,o4,h1,h⟩
  ·exact PA.callP [0] ((SS hts hok f a (o+1) (by omega) _ h1).fails) TI cS dG (fun _=>PFin.i rfl rfl)
  refine aA [0] (((SS hts hok f a (o+1) (by omega) _ h1).good)) TI cS dG ?_
  refine goG gL LIT ?_;obtain⟨rfl,_,_⟩:=(fW ts f).2.1 _ _ _ _ _ _ h1;clear h1;refine wG gL LIT ?_;rcases aU h with ⟨b1,e1,h1,rfl⟩|⟨_,a5,o5,h1,h⟩
  ·exact PA.callP [0] ((qD ts a4 (o+1) [125] hts (by omega) (by omega) _ h1).fails) TI cS dG (fun _=>PFin.i rfl rfl)
  refine aA [0] (((qD ts a4 (o+1) [125] hts (by omega) (by omega) _ h1).good)) TI cS dG ?_
  refine goG gL TI ?_;cases h
  refine wG gL LIT ?_;refine fiGen [.cell 2 37] (finG gL) ?_ rfl (idG cS)
  rw[jH];simp only[Fw]
  all_goals exact wkG cS
 rw[if_pos hk]at h
 rw[hk]at hs
 refine wG gL TI ?_
 refine aA [0] hs TI cS dG ?_
 refine goG gL TI ?_
 refine wdG gL TI ?_
 rw[Px]at h
 rcases aU h with ⟨b1,e1,h1,rfl⟩|⟨x,a4,o4,h1,hk2⟩
 ·exact pQ [0] ((sX hts hok a (o+1) (by omega) _ h1).fails) TI cS dG (fun _=>PFin.i rfl rfl) ⟨[⟨6,[],⟨_,[]⟩⟩],_,(.cons (wD (i:=6) rfl rfl mX iZ (by decide)) .nil),by kernel_rfl⟩
 obtain⟨hoe,hle,hle2⟩:=lY h1
 subst hoe
 obtain⟨B,hB⟩: ∃B,B=l++[x]:=⟨_,rfl⟩
 have hAs:l.map vaV++[vaV x]=B.map vaV:=by rw[hB,List.map_append,List.map_singleton]
 have hAl:l.length+1=B.length:=by rw[hB];simp
 have hbl:B.length*88≤140737488355328:=by omega
 have h4:(rb (vasM ts F B a4 (o+1)) fun v a o=>rb (stM ts f (.li []) a o) fun l a o=>rb (endM ts [125] a o) fun _ a o=>ret (Fun.mk nm v (l.headD [])) a o)=some r:=by rw[hB];exact hk2
 refine aA [0] ((sX hts hok a (o+1) (by omega) _ h1).good) TI cS dG ?_
 refine goG gL (A6 VA hAs hAl hbl Lh @List.length_map.{0,0}) ?_
 refine wdG gL (A6 VA hAs hAl hbl Lh @List.length_map.{0,0}) ?_
 refine dF ?_
 refine AWp.cutP 4 [(0,.pt 0 0),(2,.pt 1 0),(3,.pt 2 0)] [.box [.sl (ts.map tkV) .ro,(.im (.int .i64 ((a4:Nat)))),(.im (.int .i64 ((o+1:Nat))))],.box [.im (.string ByteArray.empty),.sl [] .nl,.sl [] .nl],.box [.im (.string nm),.sl ((B).map vaV) (.mine 3),.sl [] .nl],.tip 96 6 (B).length] cS ?_
 exact ih (by omega) B a4 (by omega) h4
def fM:=A16 @kA @Af @xE @qP @cO @Ei @tU @tT @Ef @qN @RQ @RP @Ab @jZ @tS (A16 @xD @oU @Hv @fP @lV @pC @mY @gU @iZ @wW @tN @oT @cN @lG @Ec (AI @qK @jM))
def jL:=A8 aX bC @aN @aL gG eU pH kU
def mS:=A8 fE fF @bE @bD oK pV Mn Mo
theorem JZ{ts:List Tk}{f:Nat}(hts:ts.length≤4194304)(hok: ∀t∈ts,TkOk t)(r:Rs Un)(h:uniM ts f ⟨[],[],[]⟩ 0 0=some r):XC Tryz.prog 34 [.pt 0 0] ts 0 0 unV r:=by
 refine xcEnt 47 Tryz.func34 rfl [(0,.pt 0 0)] ?_
 refine wG fM TI ?_
 refine aP ?_
 refine dF ?_
 refine AWp.ghostB 2 0 [.sl [] .nl,.sl [] .nl,.sl [] .nl] 96 6 ?_
 refine AWp.ghostB 2 1 [.sl [] (.mine 3),.sl [] .nl,.sl [] .nl] 76 5 ?_
 refine AWp.ghostB 2 2 [.sl [] (.mine 3),.sl [] (.mine 4),.sl [] .nl] 37 3 ?_
 suffices H: ∀(F:Nat),F≤f→ ∀(u:Un) (a:Nat),u.globals.length≤a→u.data.length≤a→u.funcs.length≤a→uniM ts F u a 0=some r→AWpK _ _ _ _ _ ⟨dn 47 [(0,.pt 0 0),(2,.pt 1 0),(3,.pt 2 0)],ofl [.box [.sl (ts.map tkV) .ro,(.im (.int .i64 ((a:Nat)))),(.im (.int .i64 ((0:Nat))))],.box [.sl [] .nl,.sl [] .nl,.sl [] .nl],.box [.sl ((u).globals.map vaV) (.mine 3),.sl ((u).data.map scV) (.mine 4),.sl ((u).funcs.map fnV) (.mine 5)],.tip 96 6 (u).globals.length,.tip 76 5 (u).data.length,.tip 37 3 (u).funcs.length]⟩ by
  refine AWp.cutP 6 [(0,.pt 0 0),(2,.pt 1 0),(3,.pt 2 0)] [.box [.sl (ts.map tkV) .ro,(.im (.int .i64 ((0:Nat)))),(.im (.int .i64 ((0:Nat))))],.box [.sl [] .nl,.sl [] .nl,.sl [] .nl],.box [.sl (((⟨[],[],[]⟩:Un)).globals.map vaV) (.mine 3),.sl (((⟨[],[],[]⟩:Un)).data.map scV) (.mine 4),.sl (((⟨[],[],[]⟩:Un)).funcs.map fnV) (.mine 5)],.tip 96 6 ((⟨[],[],[]⟩:Un)).globals.length,.tip 76 5 ((⟨[],[],[]⟩:Un)).data.length,.tip 37 3 ((⟨[],[],[]⟩:Un)).funcs.length] jL ?_;exact H f (Nat.le_refl _) ⟨[],[],[]⟩ 0 (by simp) (by simp) (by simp) h
 clear h
 intro F
 induction F with
 | zero=>intro _ u a _ _ _ h;cases h
 | succ F ih =>
 intro hf u a hg hd hfn h
 rw[uniM]at h
 by_cases hlt:ts.length≤a
 ·have hn: ¬(a:Int)<(ts.length:Int):=by omega
  rw[if_pos hlt]at h;cases h
  refine wdG fM (AI hn @List.length_map.{0,0}) ?_;refine fiGen [.cell 2 27] (finG fM) ?_ rfl (idG jL)
  rw[kS]
  all_goals exact wkG jL
 have hn:(a:Int)<(ts.length:Int):=by omega
 rw[if_neg hlt]at h
 have hs1:=pK ts a 0 [118,97,114]
 have hs2:=pK ts a 0 [100,97,116,97]
 have hs3:=pK ts a 0 [102,117,110,99]
 have hfl:=oG ts a 0 3
 refine wdG fM (AI hn @List.length_map.{0,0}) ?_
 refine wG fM TI ?_
 rcases aI h with ⟨hk,h⟩|⟨hk,h⟩
 ·rw[hk]at hs1
  refine aA [0] hs1 TI jL mS ?_;refine goG fM TI ?_;refine wdG fM TI ?_;rcases aU h with ⟨b1,e1,h1,rfl⟩|⟨x,a4,o4,h1,hk2⟩
  ·exact pQ [0] ((sX hts hok a 0 (by omega) _ h1).fails) TI jL mS (fun _=>PFin.i rfl rfl) ⟨[⟨6,[],⟨_,[]⟩⟩],_,(.cons (wD (i:=6) rfl rfl lV iZ (by decide)) .nil),by kernel_rfl⟩
  obtain⟨hoe,hle,hle2⟩:=lY h1;subst hoe;obtain⟨B,hB⟩: ∃B,B=u.globals++[x]:=⟨_,rfl⟩
  have hAs:u.globals.map vaV++[vaV x]=B.map vaV:=by rw[hB,List.map_append,List.map_singleton]
  have hAl:u.globals.length+1=B.length:=by rw[hB];simp
  have hbl:B.length*88≤140737488355328:=by omega
  have h4:uniM ts F ⟨B,u.data,u.funcs⟩ a4 0=some r:=by rw[hB];exact hk2
  refine aA [0] ((sX hts hok a 0 (by omega) _ h1).good) TI jL mS ?_
  refine goG fM (A6 VA hAs hAl hbl Lh @List.length_map.{0,0}) ?_;refine wdG fM (A6 VA hAs hAl hbl Lh @List.length_map.{0,0}) ?_;refine dF ?_;refine AWp.cutP 6 [(0,.pt 0 0),(2,.pt 1 0),(3,.pt 2 0)] [.box [.sl (ts.map tkV) .ro,(.im (.int .i64 ((a4:Nat)))),(.im (.int .i64 ((0:Nat))))],.box [.sl [] .nl,.sl [] .nl,.sl [] .nl],.box [.sl (((⟨B,u.data,u.funcs⟩:Un)).globals.map vaV) (.mine 3),.sl (((⟨B,u.data,u.funcs⟩:Un)).data.map scV) (.mine 4),.sl (((⟨B,u.data,u.funcs⟩:Un)).funcs.map fnV) (.mine 5)],.tip 96 6 ((⟨B,u.data,u.funcs⟩:Un)).globals.length,.tip 76 5 ((⟨B,u.data,u.funcs⟩:Un)).data.length,.tip 37 3 ((⟨B,u.data,u.funcs⟩:Un)).funcs.length] jL ?_;exact ih (by omega) ⟨B,u.data,u.funcs⟩ a4 (by show B.length≤a4;omega) (by show u.data.length≤a4;omega) (by show u.funcs.length≤a4;omega) h4
 rw[Bool.not_eq_true]at hk
 rw[hk]at hs1
 refine aA [0] hs1 TI jL mS ?_
 refine goG fM TI ?_
 refine wG fM TI ?_
 clear hk
 rcases aI h with ⟨hk,h⟩|⟨hk,h⟩
 ·rw[hk]at hs2
  refine aA [0] hs2 TI jL mS ?_;refine goG fM TI ?_;refine wdG fM TI ?_;rcases aU h with ⟨b1,e1,h1,rfl⟩|⟨x,a4,o4,h1,hk2⟩
  ·exact pQ [0] ((Yr hts hok a 0 (by omega) _ h1).fails) TI jL mS (fun _=>PFin.i rfl rfl) ⟨[⟨6,[],⟨_,[]⟩⟩],_,(.cons (wD (i:=6) rfl rfl pC wW (by decide)) .nil),by kernel_rfl⟩
  obtain⟨hoe,hle,hle2⟩:=zM h1;subst hoe;obtain⟨B,hB⟩: ∃B,B=u.data++[x]:=⟨_,rfl⟩
  have hAs:u.data.map scV++[scV x]=B.map scV:=by rw[hB,List.map_append,List.map_singleton]
  have hAl:u.data.length+1=B.length:=by rw[hB];simp
  have hbl:B.length*56≤140737488355328:=by omega
  have h4:uniM ts F ⟨u.globals,B,u.funcs⟩ a4 0=some r:=by rw[hB];exact hk2
  refine aA [0] ((Yr hts hok a 0 (by omega) _ h1).good) TI jL mS ?_
  refine goG fM (A6 SCT hAs hAl hbl Lu @List.length_map.{0,0}) ?_;refine wdG fM (A6 SCT hAs hAl hbl Lu @List.length_map.{0,0}) ?_;refine dF ?_;refine AWp.cutP 6 [(0,.pt 0 0),(2,.pt 1 0),(3,.pt 2 0)] [.box [.sl (ts.map tkV) .ro,(.im (.int .i64 ((a4:Nat)))),(.im (.int .i64 ((0:Nat))))],.box [.sl [] .nl,.sl [] .nl,.sl [] .nl],.box [.sl (((⟨u.globals,B,u.funcs⟩:Un)).globals.map vaV) (.mine 3),.sl (((⟨u.globals,B,u.funcs⟩:Un)).data.map scV) (.mine 4),.sl (((⟨u.globals,B,u.funcs⟩:Un)).funcs.map fnV) (.mine 5)],.tip 96 6 ((⟨u.globals,B,u.funcs⟩:Un)).globals.length,.tip 76 5 ((⟨u.globals,B,u.funcs⟩:Un)).data.length,.tip 37 3 ((⟨u.globals,B,u.funcs⟩:Un)).funcs.length] jL ?_;exact ih (by omega) ⟨u.globals,B,u.funcs⟩ a4 (by show u.globals.length≤a4;omega) (by show B.length≤a4;omega) (by show u.funcs.length≤a4;omega) h4
 rw[Bool.not_eq_true]at hk
 rw[hk]at hs2
 refine aA [0] hs2 TI jL mS ?_
 refine goG fM TI ?_
 refine wG fM TI ?_
 clear hk
 rcases aI h with ⟨hk,h⟩|⟨hk,h⟩
 ·rw[hk]at hs3
  refine aA [0] hs3 TI jL mS ?_;refine goG fM TI ?_;refine wdG fM TI ?_;rcases aU h with ⟨b1,e1,h1,rfl⟩|⟨x,a4,o4,h1,hk2⟩
  ·exact pQ [0] ((Du hts hok a 0 (by omega) _ h1).fails) TI jL mS (fun _=>PFin.i rfl rfl) ⟨[⟨6,[],⟨_,[]⟩⟩],_,(.cons (wD (i:=6) rfl rfl mY tN (by decide)) .nil),by kernel_rfl⟩
  obtain⟨hoe,hle,hle2⟩:=wJ h1;subst hoe;obtain⟨B,hB⟩: ∃B,B=u.funcs++[x]:=⟨_,rfl⟩
  have hAs:u.funcs.map fnV++[fnV x]=B.map fnV:=by rw[hB,List.map_append,List.map_singleton]
  have hAl:u.funcs.length+1=B.length:=by rw[hB];simp
  have hbl:B.length*64≤140737488355328:=by omega
  have h4:uniM ts F ⟨u.globals,u.data,B⟩ a4 0=some r:=by rw[hB];exact hk2
  refine aA [0] ((Du hts hok a 0 (by omega) _ h1).good) TI jL mS ?_
  refine goG fM (A6 FU hAs hAl hbl Xz @List.length_map.{0,0}) ?_;refine wdG fM (A6 FU hAs hAl hbl Xz @List.length_map.{0,0}) ?_;refine dF ?_;refine AWp.cutP 6 [(0,.pt 0 0),(2,.pt 1 0),(3,.pt 2 0)] [.box [.sl (ts.map tkV) .ro,(.im (.int .i64 ((a4:Nat)))),(.im (.int .i64 ((0:Nat))))],.box [.sl [] .nl,.sl [] .nl,.sl [] .nl],.box [.sl (((⟨u.globals,u.data,B⟩:Un)).globals.map vaV) (.mine 3),.sl (((⟨u.globals,u.data,B⟩:Un)).data.map scV) (.mine 4),.sl (((⟨u.globals,u.data,B⟩:Un)).funcs.map fnV) (.mine 5)],.tip 96 6 ((⟨u.globals,u.data,B⟩:Un)).globals.length,.tip 76 5 ((⟨u.globals,u.data,B⟩:Un)).data.length,.tip 37 3 ((⟨u.globals,u.data,B⟩:Un)).funcs.length] jL ?_;exact ih (by omega) ⟨u.globals,u.data,B⟩ a4 (by show u.globals.length≤a4;omega) (by show u.data.length≤a4;omega) (by show B.length≤a4;omega) h4
 rw[Bool.not_eq_true]at hk
 rw[hk]at hs3
 refine aA [0] hs3 TI jL mS ?_
 refine goG fM TI ?_
 refine wG fM TI ?_
 cases h
 exact PA.callP [0] hfl TI jL mS (fun _=>PFin.i rfl rfl)
end Go.Proofs.YtmbmmckagcdapaaGreatDoor
