import Derived.Test.YtmbmmckagcdapaaGreatDoorV16
import Derived.Test.YtmbmmckagcdapaaGreatDoorV21
set_option maxHeartbeats 2000000
set_option linter.all false
namespace Go.Proofs.YtmbmmckagcdapaaGreatDoor
open Go.RowKit
theorem In{s:ByteArray}(h:okN s=false):nameT s=false:=by unfold nameT;rw[h];rfl
theorem BE{s:ByteArray}{m:Nat}(hm:m<s.size)(h:okB m (bAt s m)=false):okN s=false:=by
 unfold okN
 rw[List.all_eq_false]
 exact⟨m,by simpa using hm,by simp[h]⟩
theorem Wh{s:ByteArray}(h:s.size=0):s={data:= #[]}:=by
 cases s with
 | mk d =>
  have h':d.size=0:=h;rw[Array.eq_empty_of_size_eq_zero h']
def sL:= @gI
theorem Fy(s:ByteArray)(hs:s.size≤9223372036854775807):PC Tryz.prog 43 [.im (.string s)] (.im (.bool (nameT s))):=by
 refine pcEnt 62 Tryz.func43 rfl [(0,.im (.string s))] ?_
 refine wG sL TI ?_
 refine aT ?_
 refine ALp.cutP 1 [(0,.im (.string s)),(7,.itr 0)] [.iter s 0] TI ?_
 refine ALp.upto s.size (fun m=> ∀j,j<m→okB j (bAt s j)=true) (fun m=>⟨dn 62 [(0,.im (.string s)),(7,.itr 0)],ofl [.iter s m]⟩) ?_ 0 (Nat.zero_le _) (fun j hj=>absurd hj (Nat.not_lt_zero _))
 intro m hm hI hnext
 by_cases hlt:m<s.size
 ·have hbt:=Ut s m hlt
  obtain⟨r,hr⟩: ∃r:Int,((Utf8.decode s m).1:Int)=r:=⟨_,rfl⟩
  have key:(r=bAt s m∧r<128∧(Utf8.decode s m).2=1)∨(128≤r∧128≤bAt s m):=by
   by_cases hb:(s[m]'hlt).toNat<128
   ·have hd:=decode_ascii s m hlt hb
    rw[hd]at hr ⊢;exact .inl ⟨by rw[hbt];exact hr.symm,by rw[←hr];exact Int.ofNat_lt.2 hb,rfl⟩
   ·have:=Ft s m hlt (by omega)
    exact .inr ⟨by omega,by rw[hbt];omega⟩
  refine wG sL (A3 hlt hr @if_true.{1}) ?_;refine cN rfl rfl (fun hE=> ?_) (fun hE=> ?_)
  ·have hn:okB m (bAt s m)=false:=by
    simp only[Bool.and_eq_true,Bool.or_eq_true,Bool.not_eq_true',Bool.or_eq_false_iff,Bool.and_eq_false_iff,decide_eq_true_eq,decide_eq_false_iff_not]at hE;unfold okB;simp only[Bool.or_eq_false_iff,Bool.and_eq_false_iff,decide_eq_false_iff_not,beq_eq_false_iff_ne];omega
   rw[In (BE hlt hn)];refine wG sL TI ?_;exact aD
  ·have hn:okB m (bAt s m)=true∧(Utf8.decode s m).2=1:=by
    simp only[Bool.and_eq_false_iff,Bool.or_eq_false_iff,Bool.not_eq_false',Bool.or_eq_true,Bool.and_eq_true,decide_eq_true_eq,decide_eq_false_iff_not]at hE;unfold okB;simp only[Bool.or_eq_true,Bool.and_eq_true,decide_eq_true_eq,beq_iff_eq];omega
   rw[hn.2];refine wG sL TI ?_;refine ALp.cutP 1 [(0,.im (.string s)),(7,.itr 0)] [.iter s (m+1)] TI ?_;exact hnext (m+1) (by omega) (by omega) (fun j hj=>by rcases Nat.lt_succ_iff_lt_or_eq.1 hj with h|rfl;exact hI j h;exact hn.1)
 ·obtain rfl:m=s.size:=by omega
  have hok:okN s=true:=by
   unfold okN;rw[List.all_eq_true];intro i hi;exact hI i (by simpa using hi)
  clear hnext;refine wG sL (AI hlt @if_false.{1}) ?_
  by_cases z:s.size=0
  ·have e0:(s.toList==({data:= #[]}:ByteArray).toList)=true:=by
    have:s={data:= #[]}:=Wh z;rw[this];exact beq_self_eq_true _
   have hr:nameT s=false:=by unfold nameT;simp[z]
   rw[hr];refine wG sL (A3 e0 @Bool.not_true @Bool.false_and) ?_;exact aD
  have e0:(s.toList==({data:= #[]}:ByteArray).toList)=false:=by
   have:eqS s {data:= #[]}=false:=QB.2 (fun e=>z (by rw[e];rfl))
   exact this
  by_cases z2:(s.size:Int)≤32
  case neg =>
   have hr:nameT s=false:=by
    unfold nameT;have:decide (s.size≤32)=false:=by simp;omega
    rw[this,Bool.and_false]
   rw[hr];refine wG sL (A4 e0 z2 @Bool.not_false @Bool.true_and) ?_;exact aD
  have a1:({data:= #[32]}:ByteArray).size+s.size≤9223372036854775807:=by
   show 1+s.size≤_
   omega
  have a2:(({data:= #[32]}:ByteArray)++s).size+({data:= #[32]}:ByteArray).size≤9223372036854775807:=by
   rw[ByteArray.size_append];show 1+s.size+1≤_
   omega
  have hl:(({data:= #[32]}:ByteArray)++s++({data:= #[32]}:ByteArray)).data.toList=32::(s.data.toList++[32]):=by
   simp[ByteArray.data_append]
  have hC:=qT ⟨wtxt.toArray⟩ (({data:= #[32]}:ByteArray)++s++({data:= #[32]}:ByteArray)) (of_decide_eq_true (by kernel_rfl))
  rw[hl,show(ByteArray.mk wtxt.toArray).data.toList=wtxt from rfl,Hn s hok]at hC
  have hr:nameT s= !words.any (eqS · s):=by
   unfold nameT;have h1:decide (0<s.size)=true:=by simp;omega
   have h2:decide (s.size≤32)=true:=by simp;omega
   rw[hok,h1,h2,Bool.true_and,Bool.and_true,Bool.and_true]
  rw[hr];generalize words.any (eqS · s)=q at hC ⊢;refine wG sL (A6 e0 z2 a1 a2 @Bool.not_false @Bool.true_and) ?_;refine Dq hC rfl rfl (jX (by simp only[St.ev,V.ofVal,V.ofCell,V.size_im,gY,eV,jY,Nat.reduceLT,Nat.reduceEqDiff,reduceIte,if_true,if_false,List.map_cons,List.map_nil,List.nil_append,List.append_nil,true_and];exact congrArg (fun z=>[V.im (Value.string z),_]) (by kernel_rfl))) (by first|rfl|simp only[List.length_cons,List.length_nil,Nat.reduceAdd,V.ids,V.idsL,idsA,entOk,List.all_cons,List.all_nil,Bool.and_self,Bool.and_true,Bool.true_and,ltB,noId,Nat.reduceLT,decide_true,Bool.true_eq_false,bN,bP,bO,bQ]) ?_
  refine goG sL TI ?_;refine wG sL TI ?_;exact aD
def KG:=A3 @sO @lF @dM
theorem JQ:PC Tryz.prog 179 [] (V.sl (words.map fun x=>V.im (Value.string x)) .full):=by
 refine pcEnt 2 Tryz.func179 rfl [] ?_
 refine wG KG TI ?_
 refine Fin.one rfl rfl (by first|exact .inl rfl|exact .inr rfl) (Wk.eq (by kernel_rfl)) (by kernel_rfl)
def pD:=A4 @dY @lF @dM @gI
theorem zD(s:ByteArray)(hs:s.size≤9223372036854775807):PC Tryz.prog 117 [.im (.string s)] (.im (.bool (nameT s))):=by
 refine pcEnt 74 Tryz.func117 rfl [(0,.im (.string s))] ?_
 refine wG pD TI ?_
 refine aT ?_
 refine ALp.cutP 0 [(0,.im (.string s)),(3,(.im (.int .i64 ((((0:Nat)):Int)))))] [] TI ?_
 refine ALp.upto s.size (fun m=> ∀j,j<m→okB j (bAt s j)=true) (fun m=>⟨dn 74 [(0,.im (.string s)),(3,(.im (.int .i64 ((((m:Nat)):Int)))))],ofl []⟩) ?_ 0 (Nat.zero_le _) (fun j hj=>absurd hj (Nat.not_lt_zero _))
 intro m hm hI hnext
 by_cases hlt:m<s.size
 ·have hlt':(m:Int)<(s.size:Int):=by omega
  have hbt:=Ut s m hlt;have hg:=ByteArray.getElem?_lt' s m hlt;have hm1:=aQ hlt hs;have hu:0≤bAt s m:=by rw[hbt];omega
  rw[hbt]at hu;obtain⟨r,hr⟩: ∃r:Int,((s[m]'hlt).toNat:Int)=r:=⟨_,rfl⟩
  rw[hr]at hbt hu;refine wG pD (A5 hlt' hg hr hm1 @Int.natCast_nonneg) ?_;refine cN rfl rfl (fun hE=> ?_) (fun hE=> ?_)
  ·have hn:okB m (bAt s m)=false:=by
    simp only[Bool.and_eq_true,Bool.or_eq_true,Bool.not_eq_true',Bool.or_eq_false_iff,Bool.and_eq_false_iff,decide_eq_true_eq,decide_eq_false_iff_not]at hE;unfold okB;simp only[Bool.or_eq_false_iff,Bool.and_eq_false_iff,decide_eq_false_iff_not,beq_eq_false_iff_ne];omega
   rw[In (BE hlt hn)];refine wG pD TI ?_;exact aD
  ·have hn:okB m (bAt s m)=true:=by
    simp only[Bool.and_eq_false_iff,Bool.or_eq_false_iff,Bool.not_eq_false',Bool.or_eq_true,Bool.and_eq_true,decide_eq_true_eq,decide_eq_false_iff_not]at hE;unfold okB;simp only[Bool.or_eq_true,Bool.and_eq_true,decide_eq_true_eq,beq_iff_eq];omega
   refine wG pD hm1 ?_;refine ALp.cutP 0 [(0,.im (.string s)),(3,(.im (.int .i64 ((((m+1:Nat)):Int)))))] [] TI ?_;exact hnext (m+1) (by omega) (by omega) (fun j hj=>by rcases Nat.lt_succ_iff_lt_or_eq.1 hj with h|rfl;exact hI j h;exact hn)
 ·obtain rfl:m=s.size:=by omega
  have hok:okN s=true:=by
   unfold okN;rw[List.all_eq_true];intro i hi;exact hI i (by simpa using hi)
  have hlt': ¬(s.size:Int)<(s.size:Int):=by omega
  have hw:=JQ;clear hnext hI hlt;refine wG pD hlt' ?_;refine AR.callP hw TI TI ?_;refine goG pD TI ?_;refine wG pD TI ?_;clear hlt';refine aT ?_;refine ALp.cutP 0 [(0,.im (.string s)),(6,(V.sl (words.map fun x=>V.im (Value.string x)) .full)),(7,(.im (.int .i64 ((((0:Nat)):Int)))))] [] TI ?_
  refine ALp.upto words.length (AllTo (fun x=> !eqS x s) words) (fun m=>⟨dn 74 [(0,.im (.string s)),(6,(V.sl (words.map fun x=>V.im (Value.string x)) .full)),(7,(.im (.int .i64 ((((m:Nat)):Int)))))],ofl []⟩) ?_ 0 (Nat.zero_le _) (AllTo.zero _ _)
  intro m hm hI hnext
  by_cases hlt:m<words.length
  ·have hlt':(m:Int)<(words.length:Int):=by omega
   have hg:=bJ hlt;have hm1:=aQ hlt (by show(27:Nat)≤_;omega)
   cases b:eqS words[m] s with
   | true =>
    have b':(words[m].toList==s.toList)=true:=b;refine wG pD (A8 hlt' hg hm1 b' @List.length_map.{0,0} @List.getElem?_map.{0,0} @Option.map_some.{0,0} @Int.natCast_nonneg) ?_
    have hr:nameT s=false:=by
     unfold nameT;have:words.any (eqS · s)=true:=List.any_eq_true.2 ⟨_,List.getElem_mem hlt,b⟩;rw[this,Bool.not_true,Bool.and_false,Bool.false_and,Bool.false_and]
    rw[hr];exact aD
   | false =>
    have b':(words[m].toList==s.toList)=false:=b;refine wG pD (A8 hlt' hg hm1 b' @List.length_map.{0,0} @List.getElem?_map.{0,0} @Option.map_some.{0,0} @Int.natCast_nonneg) ?_;refine ALp.cutP 0 [(0,.im (.string s)),(6,(V.sl (words.map fun x=>V.im (Value.string x)) .full)),(7,(.im (.int .i64 ((((m+1:Nat)):Int)))))] [] TI ?_
    exact hnext (m+1) (by omega) (by omega) (hI.succ hlt (by rw[b];rfl))
  ·have hall:=hI.done (by omega)
   have hlt': ¬(m:Int)<(words.length:Int):=by omega
   clear hnext hI hm hlt
   have hr:nameT s=(decide ((s.size:Int)>0)&&decide ((s.size:Int)≤32)):=by
    have h1:words.any (eqS · s)=false:=by
     rw[←mJ]at hall;simpa using hall
    have h2:decide (0<s.size)=decide ((s.size:Int)>0):=by rw[decide_eq_decide];omega
    have h3:decide (s.size≤32)=decide ((s.size:Int)≤32):=by rw[decide_eq_decide];omega
    unfold nameT;rw[hok,h1,h2,h3];rfl
   rw[hr];refine wG pD (AI hlt' @List.length_map.{0,0}) ?_;exact aD
theorem xB{o n:Int}{s:ByteArray}{w:Int}{m:Nat}{b:Bool}(h:ebase o n s w m=true↔b=true):ebase o n s w m=b:=Bool.eq_iff_iff.2 h
def Lr:=AI @fD @eF
theorem Sd{x:Ex}{r:Bool}(h:PC Tryz.prog 74 [exV x] (.im (.bool (r)))):PC Tryz.prog 141 [exV x] (.im (.bool (!r))):=by
 refine pcEnt 6 Tryz.func141 rfl [(0,exV x)] ?_
 simp only[bW]
 refine wG Lr TI ?_
 refine AR.callP h @bW (A4 @aE @aK @aF @aL) ?_
 refine goG Lr TI ?_
 refine wG Lr TI ?_
 exact aD
def dD:=A16 @cJ @oL @jV @dY @gQ @fG @qJ @Bw @tL @Bv @mR @rY @cH @oG @jT (AI @eF @dM)
theorem Xy: ∀(t:Ex),fitE t→PC Tryz.prog 74 [exV t] (.im (.bool (efm t))):=by
 refine Ex.induct fun o n s w l hE=> ?_
 intro hfit
 obtain⟨hl1,hfE⟩:=pW hfit
 have hsz:=Ix hfit
 have hc: ∀t∈l,PC Tryz.prog 141 [exV t] (.im (.bool (!efm t))):=fun t ht=>Sd (hE t ht (hfE t ht))
 have hcc:=uA (gs:=l) (F:=141) (fun t=> !efm t) hl1 hc
 have hnm:=Fy s hsz
 have q0:((l.length:Int)=0)=(l.length=0):=propext (by omega)
 have q1:((l.length:Int)=1)=(l.length=1):=propext (by omega)
 have q2:((l.length:Int)=2)=(l.length=2):=propext (by omega)
 have hss:(s.toList==s.toList)=true:=beq_self_eq_true _
 refine pcEnt 110 Tryz.func74 rfl [(0,exV (.mk o n s w l))] ?_
 simp only[jW]
 rw[Rv]
 by_cases h1:o=1
 ·subst h1
  have he:ebase 1 n s w l.length=((s.toList==ByteArray.empty.toList)&&decide (w=0)&&decide ((l.length:Int)=0)):=xB (by
   unfold ebase
   simp[eqS,q0,q1,q2,and_assoc, -List.length_eq_zero_iff])
  rw[he];refine wG dD TI ?_;cases hb:((s.toList==ByteArray.empty.toList)&&decide (w=0)&&decide ((l.length:Int)=0))with
  | true =>
   refine wG dD (AI hb hss) ?_;refine AR.callP hcc TI (A4 @aE @aK @aF @aL) ?_;refine goG dD TI ?_;rw[mJ];refine wG dD TI ?_;rw[Bool.true_and];exact aD
  | false =>
   refine wG dD (AI hb hss) ?_;rw[Bool.false_and];exact aD
 by_cases h2:o=2
 ·subst h2
  cases hN:nameT s
  case true =>
   have he:ebase 2 n s w l.length=(decide (n=0)&&decide (w=0)&&decide ((l.length:Int)=0)):=xB (by
    unfold ebase
    simp[hN,q0,q1,q2,and_assoc, -List.length_eq_zero_iff])
   rw[he];refine wG dD @Bool.and_true ?_;rw[hN]at hnm;refine AR.callP hnm TI (A4 @aE @aK @aF @aL) ?_;refine goG dD TI ?_;refine wG dD @Bool.and_true ?_;cases hb:(decide (n=0)&&decide (w=0)&&decide ((l.length:Int)=0))with
   | true =>
    refine wG dD (A3 hb hss @Bool.and_true) ?_;refine AR.callP hcc TI (A4 @aE @aK @aF @aL) ?_;refine goG dD TI ?_;rw[mJ];refine wG dD TI ?_;rw[Bool.true_and];exact aD
   | false =>
    refine wG dD (A3 hb hss @Bool.and_true) ?_;rw[Bool.false_and];exact aD
  case false =>
   have he:ebase 2 n s w l.length=false:=by
    unfold ebase;simp[hN]
   rw[he,Bool.false_and];refine wG dD TI ?_;rw[hN]at hnm;refine AR.callP hnm TI (A4 @aE @aK @aF @aL) ?_;refine goG dD TI ?_;refine wG dD TI ?_;exact aD
 by_cases h3:o≥3∧o≤15
 ·obtain⟨h3,h4⟩:=h3
  have he:ebase o n s w l.length=(decide (n=0)&&(s.toList==ByteArray.empty.toList)&&decide (w=0)&&decide ((l.length:Int)=2)):=xB (by
   unfold ebase
   simp[eqS,h1,h2,h3,h4,q0,q1,q2,and_assoc, -List.length_eq_zero_iff])
  rw[he];refine wG dD (A4 h1 h2 h3 h4) ?_;cases hb:(decide (n=0)&&(s.toList==ByteArray.empty.toList)&&decide (w=0)&&decide ((l.length:Int)=2))with
  | true =>
   refine wG dD (A6 hb hss h1 h2 h3 h4) ?_;refine AR.callP hcc TI (A4 @aE @aK @aF @aL) ?_;refine goG dD TI ?_;rw[mJ];refine wG dD TI ?_;rw[Bool.true_and];exact aD
  | false =>
   refine wG dD (A6 hb hss h1 h2 h3 h4) ?_;rw[Bool.false_and];exact aD
 have h3': ¬(o≥3)∨ ¬(o≤15):=by omega
 have e3:(decide (o≥3)&&decide (o≤15))=false:=by simp only[Bool.and_eq_false_iff,decide_eq_false_iff_not];exact h3'
 by_cases h16:o=16
 ·subst h16
  have he:ebase 16 n s w l.length=(decide (n=0)&&(s.toList==ByteArray.empty.toList)&&decide (w=0)&&decide ((l.length:Int)=1)):=xB (by
   unfold ebase
   simp[eqS,q0,q1,q2,and_assoc, -List.length_eq_zero_iff])
  rw[he];refine wG dD TI ?_;cases hb:(decide (n=0)&&(s.toList==ByteArray.empty.toList)&&decide (w=0)&&decide ((l.length:Int)=1))with
  | true =>
   refine wG dD (AI hb hss) ?_;refine AR.callP hcc TI (A4 @aE @aK @aF @aL) ?_;refine goG dD TI ?_;rw[mJ];refine wG dD TI ?_;rw[Bool.true_and];exact aD
  | false =>
   refine wG dD (AI hb hss) ?_;rw[Bool.false_and];exact aD
 by_cases h17:o=17
 ·subst h17
  have he:ebase 17 n s w l.length=(decide (n=0)&&(s.toList==ByteArray.empty.toList)&&decide (w=0)&&decide ((l.length:Int)=1)):=xB (by
   unfold ebase
   simp[eqS,q0,q1,q2,and_assoc, -List.length_eq_zero_iff])
  rw[he];refine wG dD TI ?_;cases hb:(decide (n=0)&&(s.toList==ByteArray.empty.toList)&&decide (w=0)&&decide ((l.length:Int)=1))with
  | true =>
   refine wG dD (AI hb hss) ?_;refine AR.callP hcc TI (A4 @aE @aK @aF @aL) ?_;refine goG dD TI ?_;rw[mJ];refine wG dD TI ?_;rw[Bool.true_and];exact aD
  | false =>
   refine wG dD (AI hb hss) ?_;rw[Bool.false_and];exact aD
 by_cases h18:o=18
 ·subst h18
  by_cases w1:w=1
  ·subst w1
   have he:ebase 18 n s 1 l.length=(decide (n=0)&&(s.toList==ByteArray.empty.toList)&&decide ((l.length:Int)=1)):=xB (by
    unfold ebase
    simp[eqS,q0,q1,q2,and_assoc, -List.length_eq_zero_iff])
   rw[he];refine wG dD TI ?_;cases hb:(decide (n=0)&&(s.toList==ByteArray.empty.toList)&&decide ((l.length:Int)=1))with
   | true =>
    refine wG dD (AI hb hss) ?_;refine AR.callP hcc TI (A4 @aE @aK @aF @aL) ?_;refine goG dD TI ?_;rw[mJ];refine wG dD TI ?_;rw[Bool.true_and];exact aD
   | false =>
    refine wG dD (AI hb hss) ?_;rw[Bool.false_and];exact aD
  by_cases w2:w=2
  ·subst w2
   have he:ebase 18 n s 2 l.length=(decide (n=0)&&(s.toList==ByteArray.empty.toList)&&decide ((l.length:Int)=1)):=xB (by
    unfold ebase
    simp[eqS,q0,q1,q2,and_assoc, -List.length_eq_zero_iff])
   rw[he];refine wG dD TI ?_;cases hb:(decide (n=0)&&(s.toList==ByteArray.empty.toList)&&decide ((l.length:Int)=1))with
   | true =>
    refine wG dD (AI hb hss) ?_;refine AR.callP hcc TI (A4 @aE @aK @aF @aL) ?_;refine goG dD TI ?_;rw[mJ];refine wG dD TI ?_;rw[Bool.true_and];exact aD
   | false =>
    refine wG dD (AI hb hss) ?_;rw[Bool.false_and];exact aD
  by_cases w4:w=4
  ·subst w4
   have he:ebase 18 n s 4 l.length=(decide (n=0)&&(s.toList==ByteArray.empty.toList)&&decide ((l.length:Int)=1)):=xB (by
    unfold ebase
    simp[eqS,q0,q1,q2,and_assoc, -List.length_eq_zero_iff])
   rw[he];refine wG dD TI ?_;cases hb:(decide (n=0)&&(s.toList==ByteArray.empty.toList)&&decide ((l.length:Int)=1))with
   | true =>
    refine wG dD (AI hb hss) ?_;refine AR.callP hcc TI (A4 @aE @aK @aF @aL) ?_;refine goG dD TI ?_;rw[mJ];refine wG dD TI ?_;rw[Bool.true_and];exact aD
   | false =>
    refine wG dD (AI hb hss) ?_;rw[Bool.false_and];exact aD
  have he:ebase 18 n s w l.length=false:=by
   unfold ebase;simp[w1,w2,w4]
  rw[he,Bool.false_and];refine wG dD (A3 w1 w2 w4) ?_;exact aD
 by_cases h19:o=19
 ·subst h19
  by_cases w1:w=1
  ·subst w1
   have he:ebase 19 n s 1 l.length=(decide (n=0)&&(s.toList==ByteArray.empty.toList)&&decide ((l.length:Int)=1)):=xB (by
    unfold ebase
    simp[eqS,q0,q1,q2,and_assoc, -List.length_eq_zero_iff])
   rw[he];refine wG dD TI ?_;cases hb:(decide (n=0)&&(s.toList==ByteArray.empty.toList)&&decide ((l.length:Int)=1))with
   | true =>
    refine wG dD (AI hb hss) ?_;refine AR.callP hcc TI (A4 @aE @aK @aF @aL) ?_;refine goG dD TI ?_;rw[mJ];refine wG dD TI ?_;rw[Bool.true_and];exact aD
   | false =>
    refine wG dD (AI hb hss) ?_;rw[Bool.false_and];exact aD
  by_cases w2:w=2
  ·subst w2
   have he:ebase 19 n s 2 l.length=(decide (n=0)&&(s.toList==ByteArray.empty.toList)&&decide ((l.length:Int)=1)):=xB (by
    unfold ebase
    simp[eqS,q0,q1,q2,and_assoc, -List.length_eq_zero_iff])
   rw[he];refine wG dD TI ?_;cases hb:(decide (n=0)&&(s.toList==ByteArray.empty.toList)&&decide ((l.length:Int)=1))with
   | true =>
    refine wG dD (AI hb hss) ?_;refine AR.callP hcc TI (A4 @aE @aK @aF @aL) ?_;refine goG dD TI ?_;rw[mJ];refine wG dD TI ?_;rw[Bool.true_and];exact aD
   | false =>
    refine wG dD (AI hb hss) ?_;rw[Bool.false_and];exact aD
  have he:ebase 19 n s w l.length=false:=by
   unfold ebase;simp[w1,w2]
  rw[he,Bool.false_and];refine wG dD (AI w1 w2) ?_;exact aD
 have he:ebase o n s w l.length=false:=by
  unfold ebase;simp[h1,h2,h16,h17,h18,h19];omega
 rw[he,Bool.false_and]
 refine wG dD (A7 h1 h2 e3 h16 h17 h18 h19) ?_
 exact aD
def KH:=A3 @dY @tG @dM
theorem Yd(v:Va)(s:ByteArray):DC Tryz.prog 156 [vaV v,.pt 0 0] [.box [.im (.string s)]] (.im (.bool (eqS v.name s))) [.box [.im (.string s)]]:=by
 refine dcEnt 8 Tryz.func156 rfl [(0,vaV v),(1,.pt 0 0)] ?_
 simp only[Ai]
 refine wG KH TI ?_
 exact cM (A4 @aE @aK @aF @aL)
def Lq:=AI @mT @lA
theorem Gb(vs:List Va)(hv:vs.length≤4194304)(s:ByteArray):DC Tryz.prog 154 [.im (.string s),.pt 0 0] [.box [(V.sl (vs.map vaV) .ro)]] (.im (.bool (has vs s))) [.box [(V.sl (vs.map vaV) .ro)]]:=by
 have h:=La (gs:=vs) (F:=156) (cs:=[.im (.string s)]) (fun v=>eqS v.name s) (by simp[V.idsL,V.ids]) (by simp only[SR]) hv (fun v _=>Yd v s)
 unfold has
 refine dcEnt 7 Tryz.func154 rfl [(0,.im (.string s)),(1,.pt 0 0)] ?_
 refine wG Lq TI ?_
 refine dB [1] h TI (A4 @aE @aK @aF @aL) (A4 @aN @aO @bI @bF) ?_
 refine goG Lq TI ?_
 refine wG Lq TI ?_
 exact cM (A4 @aE @aK @aF @aL)
def Ln:=A4 @Mb @fD @Lv @eF
theorem DS{x:Ex}{vs:List Va}{r:Bool}(h:DC Tryz.prog 214 [exV x,(V.fn (.func 154) [] [.pt 0 0])] [.box [(V.sl (vs.map vaV) .ro)]] (.im (.bool (r))) [.box [(V.sl (vs.map vaV) .ro)]]):DC Tryz.prog 257 [exV x,.pt 0 0] [.box [(V.fn (.func 154) [] [.pt 1 0])],.box [(V.sl (vs.map vaV) .ro)]] (.im (.bool (!r))) [.box [(V.fn (.func 154) [] [.pt 1 0])],.box [(V.sl (vs.map vaV) .ro)]]:=by
 refine dcEnt 8 Tryz.func257 rfl [(0,exV x),(1,.pt 0 0)] ?_
 simp only[bW]
 refine wG Ln TI ?_
 refine dB [1] h @bW (A4 @aE @aK @aF @aL) (A4 @aN @aO @bI @bF) ?_
 refine goG Ln TI ?_
 refine wG Ln TI ?_
 exact cM (A4 @aE @aK @aF @aL)
def oE:=A11 @cJ @Mb @jV @dY @qJ @tL @mR @cH @Lv @jT @dM
theorem JB(vs:List Va)(hv:vs.length≤4194304): ∀(t:Ex),fitE t→efm t=true→DC Tryz.prog 214 [exV t,(V.fn (.func 154) [] [.pt 0 0])] [.box [(V.sl (vs.map vaV) .ro)]] (.im (.bool (knw vs t))) [.box [(V.sl (vs.map vaV) .ro)]]:=by
 refine Ex.induct fun o n s w l hE=> ?_
 intro hfit hf
 rw[Rv,Bool.and_eq_true,List.all_eq_true]at hf
 obtain⟨hl1,hfE⟩:=pW hfit
 have h1:=Gb vs hv s
 have hc: ∀t∈l,DC Tryz.prog 257 [exV t,.pt 0 0] [.box [(V.fn (.func 154) [] [.pt 1 0])],.box [(V.sl (vs.map vaV) .ro)]] (.im (.bool (!knw vs t))) [.box [(V.fn (.func 154) [] [.pt 1 0])],.box [(V.sl (vs.map vaV) .ro)]]:=fun t ht=>DS (hE t ht (hfE t ht) (hf.2 t ht))
 have h2:=Lc (gs:=l) (F:=257) (cs:=[(V.fn (.func 154) [] [.pt 1 0])]) (ds:=[(V.sl (vs.map vaV) .ro)]) (fun t=> !knw vs t) (by simp[V.idsL,V.ids,ltB]) (by simp only[SR]) (by simp[V.idsL,V.ids,aK]) (by simp only[SR,bF]) hl1 hc
 refine dcEnt 20 Tryz.func214 rfl [(0,exV (.mk o n s w l)),(1,(V.fn (.func 154) [] [.pt 0 0]))] ?_
 simp only[jW]
 rw[BM]
 by_cases ho:o=2
 ·have e:(o==2)=true:=by simp[ho]
  rw[e,if_pos rfl];cases b:has vs s with
  | true =>
   rw[b]at h1;refine wG oE ho ?_;refine dB [0] h1 TI (A4 @aE @aK @aF @aL) (A4 @aN @aO @bI @bF) ?_;refine goG oE TI ?_;refine wG oE TI ?_;refine dB [2,0] h2 TI (A4 @aE @aK @aF @aL) (A4 @aN @aO @bI @bF) ?_;refine goG oE TI ?_
   have hl:l=[]:=by
    have:=hf.1;rw[ho]at this;simp only[ebase,Int.reduceBEq,Bool.false_eq_true,if_false,if_true,Bool.and_eq_true,beq_iff_eq]at this;exact List.length_eq_zero_iff.1 this.2
   rw[hl];refine wG oE (AI @List.any_nil.{0} @Bool.not_false) ?_;exact cM (A4 @aE @aK @aF @aL)
  | false =>
   rw[b]at h1;refine wG oE ho ?_;refine dB [0] h1 TI (A4 @aE @aK @aF @aL) (A4 @aN @aO @bI @bF) ?_;refine goG oE TI ?_;refine wG oE TI ?_;exact cM (A4 @aE @aK @aF @aL)
 ·have e:(o==2)=false:=by simp[ho]
  rw[e,if_neg (by decide)]
  refine wG oE ho ?_;refine dB [2,0] h2 TI (A4 @aE @aK @aF @aL) (A4 @aN @aO @bI @bF) ?_;refine goG oE TI ?_;rw[mJ];refine wG oE TI ?_;exact cM (A4 @aE @aK @aF @aL)
theorem Ur(vs:List Va):DC Tryz.prog 88 [(V.sl (vs.map vaV) .ro)] [.free] (V.fn (.func 154) [] [.pt 0 0]) [.box [(V.sl (vs.map vaV) .ro)]]:=by
 refine Bx 1 4 Tryz.func88 rfl (by decide) rfl rfl (s:=[(0,(V.sl (vs.map vaV) .ro))]) (by rfl) ?_
 refine wG TI TI ?_
 refine zS 1 (rs:=[.tmp 2]) rfl (by first|exact .inl rfl|exact .inr rfl) (by simp only[Ct,At,↓nK,↓reduceIte,SA,SB,SC,SD,uX,fpsG,evO,evB,evA,tV,uZ,eqF,eqC,oD,lI,slB,slK,gd,St.ev,iI,ofl,wrl,putE,V.ofVal,V.ofCell,bin2,un1,seg,nQ,iE,Value.oneCell',Nat.reduceBEq,Nat.reduceLT,Nat.reduceSub,Nat.reduceAdd,Nat.reduceMul,Nat.reduceLeDiff,Nat.reduceEqDiff,reduceCtorEq,Int.reduceLT,Int.reduceLE,Int.reduceEq,Int.reduceNe,Int.reduceBEq,Int.reduceBNe,Int.reduceAdd,Int.reduceSub,Int.reduceMul,Int.reduceToNat];with_reducible exact rfl) ?_ rfl (by first|rfl|simp only[List.length_cons,List.length_nil,Nat.reduceAdd,V.ids,V.idsL,idsA,entOk,List.all_cons,List.all_nil,Bool.and_self,Bool.and_true,Bool.true_and,ltB,noId,Nat.reduceLT,decide_true,Bool.true_eq_false,bN,bP,bO,bQ,aE,aK,aF,aL])
 repeat (first|exact WkF.of (Wk.refl _) (by first|rfl|simp only[List.length_cons,List.length_nil,Nat.reduceAdd,V.ids,V.idsL,idsA,entOk,List.all_cons,List.all_nil,Bool.and_self,Bool.and_true,Bool.true_and,ltB,noId,Nat.reduceLT,decide_true,Bool.true_eq_false,bN,bP,bO,bQ,aE,aK,aF,aL])|exact WkF.of (Wk.ro _ _) (by first|rfl|simp only[List.length_cons,List.length_nil,Nat.reduceAdd,V.ids,V.idsL,idsA,entOk,List.all_cons,List.all_nil,Bool.and_self,Bool.and_true,Bool.true_and,ltB,noId,Nat.reduceLT,decide_true,Bool.true_eq_false,bN,bP,bO,bQ,aE,aK,aF,aL])|refine Gg ?_|refine Gh ?_|refine WkFL.cons ?_ ?_|exact WkFL.nil)
def bU:=A16 @cJ @oL @jV @fD @dY @fG @qJ @Bw @tL @Bv @mR @cH @oG @jT @eF @dM
theorem Sc: ∀(t:Ex),fitE t→PC Tryz.prog 263 [exV t] (.im (.bool (efm t))):=by
 refine Ex.induct fun o n s w l hE=> ?_
 intro hfit
 obtain⟨hl1,hfE⟩:=pW hfit
 have hsz:=Ix hfit
 have hnm:=zD s hsz
 obtain⟨eb,heb⟩: ∃eb,(s.toList==({data:= #[]}:ByteArray).toList)=eb:=⟨_,rfl⟩
 have heq:eqS s ByteArray.empty=eb:=heb
 obtain⟨nm,hN⟩: ∃nm,nameT s=nm:=⟨_,rfl⟩
 rw[hN]at hnm
 refine pcEnt 123 Tryz.func263 rfl [(0,exV (.mk o n s w l))] ?_
 simp only[jW]
 rw[Rv]
 by_cases h1:o=1
 ·subst h1
  refine wG bU heb ?_;refine cN rfl rfl (fun g0=> ?_) (fun g0=> ?_)
  ·have he:ebase 1 n s w l.length=false:=by unfold ebase;rw[Bool.eq_false_iff];intro hq;cases eb<;>cases nm<;>simp[heq,hN, -List.length_eq_zero_iff,Bool.not_eq_true]at hq g0<;>omega
   rw[he,Bool.false_and];refine wG bU TI ?_;exact aD
  refine wG bU TI ?_;refine cN rfl rfl (fun g1=> ?_) (fun g1=> ?_)
  ·have he:ebase 1 n s w l.length=false:=by unfold ebase;rw[Bool.eq_false_iff];intro hq;cases eb<;>cases nm<;>simp[heq,hN, -List.length_eq_zero_iff,Bool.not_eq_true]at hq g1<;>omega
   rw[he,Bool.false_and];refine wG bU TI ?_;exact aD
  have he:ebase 1 n s w l.length=true:=by unfold ebase;cases eb<;>cases nm<;>simp[heq,hN, -List.length_eq_zero_iff,Bool.not_eq_true]at g0 g1⊢ <;>omega
  clear g0 g1;rw[he,Bool.true_and];refine wG bU TI ?_;refine aT ?_;refine ALp.cutP 1 [(1,.pt 0 0),(2,.im (.bool false)),(5,(.im (.int .i64 ((((0:Nat)):Int)))))] [.box [.im (.int .i64 1),.im (.int .u32 n),.im (.string s),.im (.int .i64 w),.sl (l.map exV) .ro]] (A4 @aE @aK @aF @aL) ?_;refine ALp.upto l.length (AllTo efm l) (fun m=>⟨dn 123 [(1,.pt 0 0),(2,.im (.bool false)),(5,(.im (.int .i64 ((((m:Nat)):Int)))))],ofl [.box [.im (.int .i64 1),.im (.int .u32 n),.im (.string s),.im (.int .i64 w),.sl (l.map exV) .ro]]⟩) ?_ 0 (Nat.zero_le _) (AllTo.zero _ _)
  intro m hm hI hnext
  by_cases hlt:m<l.length
  ·have hlt':(m:Int)<(l.length:Int):=by omega
   have hg:=bJ hlt;have hm1:=aQ hlt (by omega)
   have hc:=hE l[m] (List.getElem_mem hlt) (hfE _ (List.getElem_mem hlt));refine wG bU (A16 @dJ @cQ @dH @dG @dI @cR @jE @gT @jC @jB @jD @gU @List.getElem?_map.{0,0} @Int.natCast_nonneg hlt' (AI hg hm1)) ?_;cases b:efm l[m]with
   | true =>
    rw[b]at hc;refine AR.callP hc @bW (A4 @aE @aK @aF @aL) ?_;refine goG bU TI ?_;refine wG bU hm1 ?_;refine ALp.cutP 1 [(1,.pt 0 0),(2,.im (.bool false)),(5,(.im (.int .i64 ((((m+1:Nat)):Int)))))] [.box [.im (.int .i64 1),.im (.int .u32 n),.im (.string s),.im (.int .i64 w),.sl (l.map exV) .ro]] (A4 @aE @aK @aF @aL) ?_;exact hnext (m+1) (by omega) (by omega) (hI.succ hlt b)
   | false =>
    rw[b]at hc;refine AR.callP hc @bW (A4 @aE @aK @aF @aL) ?_;refine goG bU TI ?_;refine wG bU hm1 ?_;rw[eR hlt b];exact aD
  ·have hall:=hI.done (by omega)
   have hlt': ¬(m:Int)<(l.length:Int):=by omega
   clear hnext;rw[hall];refine wG bU hlt' ?_;exact aD
 by_cases h2:o=2
 ·subst h2
  refine wG bU heb ?_;refine AR.callP hnm TI (A4 @aE @aK @aF @aL) ?_;refine goG bU TI ?_;refine wG bU TI ?_;refine cN rfl rfl (fun g0=> ?_) (fun g0=> ?_)
  ·have he:ebase 2 n s w l.length=false:=by unfold ebase;rw[Bool.eq_false_iff];intro hq;cases eb<;>cases nm<;>simp[heq,hN, -List.length_eq_zero_iff,Bool.not_eq_true]at hq g0<;>omega
   rw[he,Bool.false_and];refine wG bU TI ?_;exact aD
  refine wG bU TI ?_;refine cN rfl rfl (fun g1=> ?_) (fun g1=> ?_)
  ·have he:ebase 2 n s w l.length=false:=by unfold ebase;rw[Bool.eq_false_iff];intro hq;cases eb<;>cases nm<;>simp[heq,hN, -List.length_eq_zero_iff,Bool.not_eq_true]at hq g1<;>omega
   rw[he,Bool.false_and];refine wG bU TI ?_;exact aD
  have he:ebase 2 n s w l.length=true:=by unfold ebase;cases eb<;>cases nm<;>simp[heq,hN, -List.length_eq_zero_iff,Bool.not_eq_true]at g0 g1⊢ <;>omega
  clear g0 g1;rw[he,Bool.true_and];refine wG bU TI ?_;refine aT ?_;refine ALp.cutP 1 [(1,.pt 0 0),(2,.im (.bool false)),(5,(.im (.int .i64 ((((0:Nat)):Int)))))] [.box [.im (.int .i64 2),.im (.int .u32 n),.im (.string s),.im (.int .i64 w),.sl (l.map exV) .ro]] (A4 @aE @aK @aF @aL) ?_;refine ALp.upto l.length (AllTo efm l) (fun m=>⟨dn 123 [(1,.pt 0 0),(2,.im (.bool false)),(5,(.im (.int .i64 ((((m:Nat)):Int)))))],ofl [.box [.im (.int .i64 2),.im (.int .u32 n),.im (.string s),.im (.int .i64 w),.sl (l.map exV) .ro]]⟩) ?_ 0 (Nat.zero_le _) (AllTo.zero _ _)
  intro m hm hI hnext
  by_cases hlt:m<l.length
  ·have hlt':(m:Int)<(l.length:Int):=by omega
   have hg:=bJ hlt;have hm1:=aQ hlt (by omega)
   have hc:=hE l[m] (List.getElem_mem hlt) (hfE _ (List.getElem_mem hlt));refine wG bU (A16 @dJ @cQ @dH @dG @dI @cR @jE @gT @jC @jB @jD @gU @List.getElem?_map.{0,0} @Int.natCast_nonneg hlt' (AI hg hm1)) ?_;cases b:efm l[m]with
   | true =>
    rw[b]at hc;refine AR.callP hc @bW (A4 @aE @aK @aF @aL) ?_;refine goG bU TI ?_;refine wG bU hm1 ?_;refine ALp.cutP 1 [(1,.pt 0 0),(2,.im (.bool false)),(5,(.im (.int .i64 ((((m+1:Nat)):Int)))))] [.box [.im (.int .i64 2),.im (.int .u32 n),.im (.string s),.im (.int .i64 w),.sl (l.map exV) .ro]] (A4 @aE @aK @aF @aL) ?_;exact hnext (m+1) (by omega) (by omega) (hI.succ hlt b)
   | false =>
    rw[b]at hc;refine AR.callP hc @bW (A4 @aE @aK @aF @aL) ?_;refine goG bU TI ?_;refine wG bU hm1 ?_;rw[eR hlt b];exact aD
  ·have hall:=hI.done (by omega)
   have hlt': ¬(m:Int)<(l.length:Int):=by omega
   clear hnext;rw[hall];refine wG bU hlt' ?_;exact aD
 by_cases h18:o=18
 ·subst h18
  refine wG bU heb ?_;refine cN rfl rfl (fun g0=> ?_) (fun g0=> ?_)
  ·have he:ebase 18 n s w l.length=false:=by unfold ebase;rw[Bool.eq_false_iff];intro hq;cases eb<;>cases nm<;>simp[heq,hN, -List.length_eq_zero_iff,Bool.not_eq_true]at hq g0<;>omega
   rw[he,Bool.false_and];refine wG bU TI ?_;exact aD
  refine wG bU heb ?_;refine cN rfl rfl (fun g1=> ?_) (fun g1=> ?_)
  ·have he:ebase 18 n s w l.length=false:=by unfold ebase;rw[Bool.eq_false_iff];intro hq;cases eb<;>cases nm<;>simp[heq,hN, -List.length_eq_zero_iff,Bool.not_eq_true]at hq g1<;>omega
   rw[he,Bool.false_and];refine wG bU TI ?_;exact aD
  have he:ebase 18 n s w l.length=true:=by unfold ebase;cases eb<;>cases nm<;>simp[heq,hN, -List.length_eq_zero_iff,Bool.not_eq_true]at g0 g1⊢ <;>omega
  clear g0 g1;rw[he,Bool.true_and];refine wG bU TI ?_;refine aT ?_;refine ALp.cutP 1 [(1,.pt 0 0),(2,.im (.bool false)),(5,(.im (.int .i64 ((((0:Nat)):Int)))))] [.box [.im (.int .i64 18),.im (.int .u32 n),.im (.string s),.im (.int .i64 w),.sl (l.map exV) .ro]] (A4 @aE @aK @aF @aL) ?_;refine ALp.upto l.length (AllTo efm l) (fun m=>⟨dn 123 [(1,.pt 0 0),(2,.im (.bool false)),(5,(.im (.int .i64 ((((m:Nat)):Int)))))],ofl [.box [.im (.int .i64 18),.im (.int .u32 n),.im (.string s),.im (.int .i64 w),.sl (l.map exV) .ro]]⟩) ?_ 0 (Nat.zero_le _) (AllTo.zero _ _)
  intro m hm hI hnext
  by_cases hlt:m<l.length
  ·have hlt':(m:Int)<(l.length:Int):=by omega
   have hg:=bJ hlt;have hm1:=aQ hlt (by omega)
   have hc:=hE l[m] (List.getElem_mem hlt) (hfE _ (List.getElem_mem hlt));refine wG bU (A16 @dJ @cQ @dH @dG @dI @cR @jE @gT @jC @jB @jD @gU @List.getElem?_map.{0,0} @Int.natCast_nonneg hlt' (AI hg hm1)) ?_;cases b:efm l[m]with
   | true =>
    rw[b]at hc;refine AR.callP hc @bW (A4 @aE @aK @aF @aL) ?_;refine goG bU TI ?_;refine wG bU hm1 ?_;refine ALp.cutP 1 [(1,.pt 0 0),(2,.im (.bool false)),(5,(.im (.int .i64 ((((m+1:Nat)):Int)))))] [.box [.im (.int .i64 18),.im (.int .u32 n),.im (.string s),.im (.int .i64 w),.sl (l.map exV) .ro]] (A4 @aE @aK @aF @aL) ?_;exact hnext (m+1) (by omega) (by omega) (hI.succ hlt b)
   | false =>
    rw[b]at hc;refine AR.callP hc @bW (A4 @aE @aK @aF @aL) ?_;refine goG bU TI ?_;refine wG bU hm1 ?_;rw[eR hlt b];exact aD
  ·have hall:=hI.done (by omega)
   have hlt': ¬(m:Int)<(l.length:Int):=by omega
   clear hnext;rw[hall];refine wG bU hlt' ?_;exact aD
 by_cases h19:o=19
 ·subst h19
  refine wG bU heb ?_;refine cN rfl rfl (fun g0=> ?_) (fun g0=> ?_)
  ·have he:ebase 19 n s w l.length=false:=by unfold ebase;rw[Bool.eq_false_iff];intro hq;cases eb<;>cases nm<;>simp[heq,hN, -List.length_eq_zero_iff,Bool.not_eq_true]at hq g0<;>omega
   rw[he,Bool.false_and];refine wG bU TI ?_;exact aD
  refine wG bU heb ?_;refine cN rfl rfl (fun g1=> ?_) (fun g1=> ?_)
  ·have he:ebase 19 n s w l.length=false:=by unfold ebase;rw[Bool.eq_false_iff];intro hq;cases eb<;>cases nm<;>simp[heq,hN, -List.length_eq_zero_iff,Bool.not_eq_true]at hq g1<;>omega
   rw[he,Bool.false_and];refine wG bU TI ?_;exact aD
  have he:ebase 19 n s w l.length=true:=by unfold ebase;cases eb<;>cases nm<;>simp[heq,hN, -List.length_eq_zero_iff,Bool.not_eq_true]at g0 g1⊢ <;>omega
  clear g0 g1;rw[he,Bool.true_and];refine wG bU TI ?_;refine aT ?_;refine ALp.cutP 1 [(1,.pt 0 0),(2,.im (.bool false)),(5,(.im (.int .i64 ((((0:Nat)):Int)))))] [.box [.im (.int .i64 19),.im (.int .u32 n),.im (.string s),.im (.int .i64 w),.sl (l.map exV) .ro]] (A4 @aE @aK @aF @aL) ?_;refine ALp.upto l.length (AllTo efm l) (fun m=>⟨dn 123 [(1,.pt 0 0),(2,.im (.bool false)),(5,(.im (.int .i64 ((((m:Nat)):Int)))))],ofl [.box [.im (.int .i64 19),.im (.int .u32 n),.im (.string s),.im (.int .i64 w),.sl (l.map exV) .ro]]⟩) ?_ 0 (Nat.zero_le _) (AllTo.zero _ _)
  intro m hm hI hnext
  by_cases hlt:m<l.length
  ·have hlt':(m:Int)<(l.length:Int):=by omega
   have hg:=bJ hlt;have hm1:=aQ hlt (by omega)
   have hc:=hE l[m] (List.getElem_mem hlt) (hfE _ (List.getElem_mem hlt));refine wG bU (A16 @dJ @cQ @dH @dG @dI @cR @jE @gT @jC @jB @jD @gU @List.getElem?_map.{0,0} @Int.natCast_nonneg hlt' (AI hg hm1)) ?_;cases b:efm l[m]with
   | true =>
    rw[b]at hc;refine AR.callP hc @bW (A4 @aE @aK @aF @aL) ?_;refine goG bU TI ?_;refine wG bU hm1 ?_;refine ALp.cutP 1 [(1,.pt 0 0),(2,.im (.bool false)),(5,(.im (.int .i64 ((((m+1:Nat)):Int)))))] [.box [.im (.int .i64 19),.im (.int .u32 n),.im (.string s),.im (.int .i64 w),.sl (l.map exV) .ro]] (A4 @aE @aK @aF @aL) ?_;exact hnext (m+1) (by omega) (by omega) (hI.succ hlt b)
   | false =>
    rw[b]at hc;refine AR.callP hc @bW (A4 @aE @aK @aF @aL) ?_;refine goG bU TI ?_;refine wG bU hm1 ?_;rw[eR hlt b];exact aD
  ·have hall:=hI.done (by omega)
   have hlt': ¬(m:Int)<(l.length:Int):=by omega
   clear hnext;rw[hall];refine wG bU hlt' ?_;exact aD
 by_cases h16:o=16
 ·subst h16
  refine wG bU heb ?_;refine cN rfl rfl (fun g0=> ?_) (fun g0=> ?_)
  ·have he:ebase 16 n s w l.length=false:=by unfold ebase;rw[Bool.eq_false_iff];intro hq;cases eb<;>cases nm<;>simp[heq,hN, -List.length_eq_zero_iff,Bool.not_eq_true]at hq g0<;>omega
   rw[he,Bool.false_and];refine wG bU TI ?_;exact aD
  refine wG bU heb ?_;refine cN rfl rfl (fun g1=> ?_) (fun g1=> ?_)
  ·have he:ebase 16 n s w l.length=false:=by unfold ebase;rw[Bool.eq_false_iff];intro hq;cases eb<;>cases nm<;>simp[heq,hN, -List.length_eq_zero_iff,Bool.not_eq_true]at hq g1<;>omega
   rw[he,Bool.false_and];refine wG bU TI ?_;exact aD
  have he:ebase 16 n s w l.length=true:=by unfold ebase;cases eb<;>cases nm<;>simp[heq,hN, -List.length_eq_zero_iff,Bool.not_eq_true]at g0 g1⊢ <;>omega
  clear g0 g1;rw[he,Bool.true_and];refine wG bU TI ?_;refine aT ?_;refine ALp.cutP 1 [(1,.pt 0 0),(2,.im (.bool false)),(5,(.im (.int .i64 ((((0:Nat)):Int)))))] [.box [.im (.int .i64 16),.im (.int .u32 n),.im (.string s),.im (.int .i64 w),.sl (l.map exV) .ro]] (A4 @aE @aK @aF @aL) ?_;refine ALp.upto l.length (AllTo efm l) (fun m=>⟨dn 123 [(1,.pt 0 0),(2,.im (.bool false)),(5,(.im (.int .i64 ((((m:Nat)):Int)))))],ofl [.box [.im (.int .i64 16),.im (.int .u32 n),.im (.string s),.im (.int .i64 w),.sl (l.map exV) .ro]]⟩) ?_ 0 (Nat.zero_le _) (AllTo.zero _ _)
  intro m hm hI hnext
  by_cases hlt:m<l.length
  ·have hlt':(m:Int)<(l.length:Int):=by omega
   have hg:=bJ hlt;have hm1:=aQ hlt (by omega)
   have hc:=hE l[m] (List.getElem_mem hlt) (hfE _ (List.getElem_mem hlt));refine wG bU (A16 @dJ @cQ @dH @dG @dI @cR @jE @gT @jC @jB @jD @gU @List.getElem?_map.{0,0} @Int.natCast_nonneg hlt' (AI hg hm1)) ?_;cases b:efm l[m]with
   | true =>
    rw[b]at hc;refine AR.callP hc @bW (A4 @aE @aK @aF @aL) ?_;refine goG bU TI ?_;refine wG bU hm1 ?_;refine ALp.cutP 1 [(1,.pt 0 0),(2,.im (.bool false)),(5,(.im (.int .i64 ((((m+1:Nat)):Int)))))] [.box [.im (.int .i64 16),.im (.int .u32 n),.im (.string s),.im (.int .i64 w),.sl (l.map exV) .ro]] (A4 @aE @aK @aF @aL) ?_;exact hnext (m+1) (by omega) (by omega) (hI.succ hlt b)
   | false =>
    rw[b]at hc;refine AR.callP hc @bW (A4 @aE @aK @aF @aL) ?_;refine goG bU TI ?_;refine wG bU hm1 ?_;rw[eR hlt b];exact aD
  ·have hall:=hI.done (by omega)
   have hlt': ¬(m:Int)<(l.length:Int):=by omega
   clear hnext;rw[hall];refine wG bU hlt' ?_;exact aD
 by_cases h17:o=17
 ·subst h17
  refine wG bU heb ?_;refine cN rfl rfl (fun g0=> ?_) (fun g0=> ?_)
  ·have he:ebase 17 n s w l.length=false:=by unfold ebase;rw[Bool.eq_false_iff];intro hq;cases eb<;>cases nm<;>simp[heq,hN, -List.length_eq_zero_iff,Bool.not_eq_true]at hq g0<;>omega
   rw[he,Bool.false_and];refine wG bU TI ?_;exact aD
  refine wG bU heb ?_;refine cN rfl rfl (fun g1=> ?_) (fun g1=> ?_)
  ·have he:ebase 17 n s w l.length=false:=by unfold ebase;rw[Bool.eq_false_iff];intro hq;cases eb<;>cases nm<;>simp[heq,hN, -List.length_eq_zero_iff,Bool.not_eq_true]at hq g1<;>omega
   rw[he,Bool.false_and];refine wG bU TI ?_;exact aD
  have he:ebase 17 n s w l.length=true:=by unfold ebase;cases eb<;>cases nm<;>simp[heq,hN, -List.length_eq_zero_iff,Bool.not_eq_true]at g0 g1⊢ <;>omega
  clear g0 g1;rw[he,Bool.true_and];refine wG bU TI ?_;refine aT ?_;refine ALp.cutP 1 [(1,.pt 0 0),(2,.im (.bool false)),(5,(.im (.int .i64 ((((0:Nat)):Int)))))] [.box [.im (.int .i64 17),.im (.int .u32 n),.im (.string s),.im (.int .i64 w),.sl (l.map exV) .ro]] (A4 @aE @aK @aF @aL) ?_;refine ALp.upto l.length (AllTo efm l) (fun m=>⟨dn 123 [(1,.pt 0 0),(2,.im (.bool false)),(5,(.im (.int .i64 ((((m:Nat)):Int)))))],ofl [.box [.im (.int .i64 17),.im (.int .u32 n),.im (.string s),.im (.int .i64 w),.sl (l.map exV) .ro]]⟩) ?_ 0 (Nat.zero_le _) (AllTo.zero _ _)
  intro m hm hI hnext
  by_cases hlt:m<l.length
  ·have hlt':(m:Int)<(l.length:Int):=by omega
   have hg:=bJ hlt;have hm1:=aQ hlt (by omega)
   have hc:=hE l[m] (List.getElem_mem hlt) (hfE _ (List.getElem_mem hlt));refine wG bU (A16 @dJ @cQ @dH @dG @dI @cR @jE @gT @jC @jB @jD @gU @List.getElem?_map.{0,0} @Int.natCast_nonneg hlt' (AI hg hm1)) ?_;cases b:efm l[m]with
   | true =>
    rw[b]at hc;refine AR.callP hc @bW (A4 @aE @aK @aF @aL) ?_;refine goG bU TI ?_;refine wG bU hm1 ?_;refine ALp.cutP 1 [(1,.pt 0 0),(2,.im (.bool false)),(5,(.im (.int .i64 ((((m+1:Nat)):Int)))))] [.box [.im (.int .i64 17),.im (.int .u32 n),.im (.string s),.im (.int .i64 w),.sl (l.map exV) .ro]] (A4 @aE @aK @aF @aL) ?_;exact hnext (m+1) (by omega) (by omega) (hI.succ hlt b)
   | false =>
    rw[b]at hc;refine AR.callP hc @bW (A4 @aE @aK @aF @aL) ?_;refine goG bU TI ?_;refine wG bU hm1 ?_;rw[eR hlt b];exact aD
  ·have hall:=hI.done (by omega)
   have hlt': ¬(m:Int)<(l.length:Int):=by omega
   clear hnext;rw[hall];refine wG bU hlt' ?_;exact aD
 by_cases h3:o≥3∧o≤15
 ·obtain⟨h3,h4⟩:=h3
  refine wG bU (A7 heb h1 h2 h3 h4 h18 h19) ?_;refine cN rfl rfl (fun g0=> ?_) (fun g0=> ?_)
  ·have he:ebase o n s w l.length=false:=by unfold ebase;rw[Bool.eq_false_iff];intro hq;cases eb<;>cases nm<;>simp[heq,hN, -List.length_eq_zero_iff,h1,h2,h3,h4]at hq g0<;>omega
   rw[he,Bool.false_and];refine wG bU TI ?_;exact aD
  refine wG bU (A7 heb h1 h2 h3 h4 h18 h19) ?_;refine cN rfl rfl (fun g1=> ?_) (fun g1=> ?_)
  ·have he:ebase o n s w l.length=false:=by unfold ebase;rw[Bool.eq_false_iff];intro hq;cases eb<;>cases nm<;>simp[heq,hN, -List.length_eq_zero_iff,h1,h2,h3,h4]at hq g1<;>omega
   rw[he,Bool.false_and];refine wG bU TI ?_;exact aD
  have he:ebase o n s w l.length=true:=by unfold ebase;cases eb<;>cases nm<;>simp[heq,hN, -List.length_eq_zero_iff,h1,h2,h3,h4]at g0 g1⊢ <;>omega
  clear g0 g1;rw[he,Bool.true_and];refine wG bU (A4 h1 h2 h18 h19) ?_;refine aT ?_;refine ALp.cutP 1 [(1,.pt 0 0),(2,.im (.bool false)),(5,(.im (.int .i64 ((((0:Nat)):Int)))))] [.box [.im (.int .i64 o),.im (.int .u32 n),.im (.string s),.im (.int .i64 w),.sl (l.map exV) .ro]] (A4 @aE @aK @aF @aL) ?_;refine ALp.upto l.length (AllTo efm l) (fun m=>⟨dn 123 [(1,.pt 0 0),(2,.im (.bool false)),(5,(.im (.int .i64 ((((m:Nat)):Int)))))],ofl [.box [.im (.int .i64 o),.im (.int .u32 n),.im (.string s),.im (.int .i64 w),.sl (l.map exV) .ro]]⟩) ?_ 0 (Nat.zero_le _) (AllTo.zero _ _)
  intro m hm hI hnext
  by_cases hlt:m<l.length
  ·have hlt':(m:Int)<(l.length:Int):=by omega
   have hg:=bJ hlt;have hm1:=aQ hlt (by omega)
   have hc:=hE l[m] (List.getElem_mem hlt) (hfE _ (List.getElem_mem hlt));refine wG bU (A16 @dJ @cQ @dH @dG @dI @cR @jE @gT @jC @jB @jD @gU @List.getElem?_map.{0,0} @Int.natCast_nonneg hlt' (AI hg hm1)) ?_;cases b:efm l[m]with
   | true =>
    rw[b]at hc;refine AR.callP hc @bW (A4 @aE @aK @aF @aL) ?_;refine goG bU TI ?_;refine wG bU hm1 ?_;refine ALp.cutP 1 [(1,.pt 0 0),(2,.im (.bool false)),(5,(.im (.int .i64 ((((m+1:Nat)):Int)))))] [.box [.im (.int .i64 o),.im (.int .u32 n),.im (.string s),.im (.int .i64 w),.sl (l.map exV) .ro]] (A4 @aE @aK @aF @aL) ?_;exact hnext (m+1) (by omega) (by omega) (hI.succ hlt b)
   | false =>
    rw[b]at hc;refine AR.callP hc @bW (A4 @aE @aK @aF @aL) ?_;refine goG bU TI ?_;refine wG bU hm1 ?_;rw[eR hlt b];exact aD
  ·have hall:=hI.done (by omega)
   have hlt': ¬(m:Int)<(l.length:Int):=by omega
   clear hnext;rw[hall];refine wG bU hlt' ?_;exact aD
 have h3': ¬(o≥3)∨ ¬(o≤15):=by omega
 have e3:(decide (o≥3)&&decide (o≤15))=false:=by simp only[Bool.and_eq_false_iff,decide_eq_false_iff_not];exact h3'
 have he:ebase o n s w l.length=false:=by
  unfold ebase;simp[h1,h2,h16,h17,h18,h19];omega
 rw[he,Bool.false_and]
 refine wG bU (A7 h1 h2 e3 h16 h17 h18 h19) ?_
 exact aD
end Go.Proofs.YtmbmmckagcdapaaGreatDoor
