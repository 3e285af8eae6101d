import Derived.Test.YtmbmmckagcdapaaGreatDoorU10
import Derived.Test.YtmbmmckagcdapaaGreatDoorU28
import Derived.Test.YtmbmmckagcdapaaGreatDoorU22
import Derived.Test.YtmbmmckagcdapaaGreatDoorU19
import Derived.Test.YtmbmmckagcdapaaGreatDoorU26
import Derived.Test.YtmbmmckagcdapaaGreatDoorU32
set_option linter.all false
namespace Go.Proofs.YtmbmmckagcdapaaGreatDoor
open Go.RowKit
theorem Id(c:UInt8):PC Tryz.prog 221 [.im (.int .u8 (c.toNat))] (.im (.bool (isD c))):=by
 rw[←Hy]
 refine PC.enter 9 Tryz.func221 rfl (by decide) rfl rfl (s:=[(0,.im (.int .u8 (c.toNat)))]) (by rfl) ?_
 refine wG TI TI ?_
 exact aM
theorem ET(c:UInt8):PC Tryz.prog 220 [.im (.int .u8 (c.toNat))] (.im (.bool (isL c))):=by
 rw[←Ad]
 refine PC.enter 25 Tryz.func220 rfl (by decide) rfl rfl (s:=[(0,.im (.int .u8 (c.toNat)))]) (by rfl) ?_
 refine wG TI TI ?_
 exact aM
def jX:=A4 @nQ @vP @nP @oZ
theorem Ai(c:UInt8):PC Tryz.prog 258 [.im (.int .u8 (c.toNat))] (.im (.int .i64 (hexI c))):=by
 have q:=Id c
 have hcl:=c.toNat_lt
 have hw:IntKind.i64.wrap (c.toNat:Int)=(c.toNat:Int):=cM (by omega)
 by_cases h1:48≤c.toNat∧c.toNat≤57
 ·have hd:isD c=true:=decide_eq_true h1
  have hw2:IntKind.i64.wrap ((c.toNat:Int)-48)=((c.toNat-48:Nat):Int):=by rw[cM (by omega)];omega
  have hx:hexI c=((c.toNat-48:Nat):Int):=kL (if_pos h1);rw[hd]at q;rw[hx];refine PC.enter 26 Tryz.func258 rfl (by decide) rfl rfl (s:=[(0,.im (.int .u8 (c.toNat)))]) (by rfl) ?_
  refine wG jX TI ?_;refine AR.callP q TI aF ?_;refine goG jX TI ?_;refine wG jX (AI hw hw2) ?_;exact aM
 have hd:isD c=false:=decide_eq_false h1
 rw[hd]at q
 by_cases h2:97≤c.toNat∧c.toNat≤102
 ·have hw2:IntKind.i64.wrap ((c.toNat:Int)-87)=((c.toNat-87:Nat):Int):=by rw[cM (by omega)];omega
  have hx:hexI c=((c.toNat-87:Nat):Int):=kL (by unfold hexv;rw[if_neg h1,if_pos h2])
  have e1:(c.toNat:Int)≥97:=by omega
  have e2:(c.toNat:Int)≤102:=by omega
  rw[hx];refine PC.enter 26 Tryz.func258 rfl (by decide) rfl rfl (s:=[(0,.im (.int .u8 (c.toNat)))]) (by rfl) ?_
  refine wG jX TI ?_;refine AR.callP q TI aF ?_;refine goG jX TI ?_;refine wG jX (A4 hw hw2 e1 e2) ?_;exact aM
 have e0:(decide ((c.toNat:Int)≥97)&&decide ((c.toNat:Int)≤102))=false:=by
  rw[←Bool.not_eq_true];simp only[Bool.and_eq_true,decide_eq_true_eq];omega
 by_cases h3:65≤c.toNat∧c.toNat≤70
 ·have hw2:IntKind.i64.wrap ((c.toNat:Int)-55)=((c.toNat-55:Nat):Int):=by rw[cM (by omega)];omega
  have hx:hexI c=((c.toNat-55:Nat):Int):=kL (by unfold hexv;rw[if_neg h1,if_neg h2,if_pos h3])
  have e1: ¬(c.toNat:Int)≥97:=by omega
  have e2:(c.toNat:Int)≥65:=by omega
  have e3:(c.toNat:Int)≤70:=by omega
  rw[hx];refine PC.enter 26 Tryz.func258 rfl (by decide) rfl rfl (s:=[(0,.im (.int .u8 (c.toNat)))]) (by rfl) ?_
  refine wG jX TI ?_;refine AR.callP q TI aF ?_;refine goG jX TI ?_;refine wG jX (A5 hw hw2 e1 e2 e3) ?_;exact aM
 have hx:hexI c= -1:=mJ (by unfold hexv;rw[if_neg h1,if_neg h2,if_neg h3])
 rw[hx]
 refine PC.enter 26 Tryz.func258 rfl (by decide) rfl rfl (s:=[(0,.im (.int .u8 (c.toNat)))]) (by rfl) ?_
 refine wG jX TI ?_
 refine AR.callP q TI aF ?_
 refine goG jX TI ?_
 refine wG jX TI ?_
 refine iK rfl rfl (fun hE=> ?_) (fun hE=> ?_)
 ·simp only[Bool.and_eq_true,decide_eq_true_eq]at hE
  omega
 refine wG jX TI ?_
 refine iK rfl rfl (fun hE=> ?_) (fun hE=> ?_)
 ·simp only[Bool.and_eq_true,decide_eq_true_eq]at hE
  omega
 refine wG jX TI ?_
 exact aM
def kO:= @gB
set_option maxHeartbeats 1000000 in
theorem Gd(s:Bs)(a:Nat)(ha:a≤s.length)(hs:s.length≤4194304):PC Tryz.prog 169 [.im (.string ⟨(s).toArray⟩),(.im (.int .i64 ((a:Int))))] (.im (.int .i64 (((a+((s.drop a).takeWhile isW).length:Nat):Int)))):=by
 have hdl:(s.drop a).length=s.length-a:=List.length_drop
 have hget: ∀m,s[a+m]? =(s.drop a)[m]? :=fun m=>by rw[List.getElem?_drop]
 generalize s.drop a=l at hdl hget
 refine PC.enter 24 Tryz.func169 rfl (by decide) rfl rfl (s:=[(0,.im (.string ⟨(s).toArray⟩)),(1,(.im (.int .i64 ((a:Int)))))]) (by rfl) ?_
 refine wG kO TI ?_
 refine bH ?_
 refine ALp.cutP 0 [(0,.im (.string ⟨(s).toArray⟩)),(1,(.im (.int .i64 (((a+0:Nat):Int)))))] [] aF ?_
 refine ALp.upto l.length (AllTo isW l) (fun m=>⟨dn 24 [(0,.im (.string ⟨(s).toArray⟩)),(1,(.im (.int .i64 (((a+m:Nat):Int)))))],ofl []⟩) ?_ 0 (Nat.zero_le _) (AllTo.zero _ _)
 intro m hm hI hnext
 by_cases hlt:m<l.length
 case neg =>
  obtain rfl:m=l.length:=by omega
  have hn: ¬((a+l.length:Nat):Int)<(s.length:Int):=by omega
  clear hnext;rw[Ax fun j hj=>hI j hj hj]
  refine wG kO (AI BY hn) ?_;exact aM
 have hlt':((a+m:Nat):Int)<(s.length:Int):=by omega
 have hw1:IntKind.i64.wrap (((a+m:Nat):Int)+1)=((a+(m+1):Nat):Int):=by rw[cM (by omega)];omega
 have hg:s[a+m]? =some l[m]:=by rw[hget,List.getElem?_eq_getElem hlt]
 have q1:=ET l[m]
 have q2:=Id l[m]
 have hw:isW l[m]=(isL l[m]||isD l[m]):=rfl
 cases b1:isL l[m]with
 | true =>
  rw[b1]at q1 hw;have hn2:=hnext (m+1) (by omega) (by omega) (hI.succ hlt hw)
  generalize l[m]=c at hg q1 q2;clear hnext hI hw;refine wG kO (A3 BY hlt' hg) ?_;refine AR.callP q1 TI aF ?_;refine goG kO TI ?_;refine wG kO hw1 ?_;refine ALp.cutP 0 [(0,.im (.string ⟨(s).toArray⟩)),(1,(.im (.int .i64 (((a+m+1:Nat):Int)))))] [] aF ?_;exact hn2
 | false =>
 rw[b1,Bool.false_or]at hw
 rw[b1]at q1
 cases b2:isD l[m]with
 | true =>
  rw[b2]at hw q2;have hn2:=hnext (m+1) (by omega) (by omega) (hI.succ hlt hw)
  generalize l[m]=c at hg q1 q2;clear hnext hI hw;refine wG kO (A3 BY hlt' hg) ?_;refine AR.callP q1 TI aF ?_;refine goG kO (AI BY hg) ?_;refine AR.callP q2 TI aF ?_;refine goG kO TI ?_;refine wG kO hw1 ?_;refine ALp.cutP 0 [(0,.im (.string ⟨(s).toArray⟩)),(1,(.im (.int .i64 (((a+m+1:Nat):Int)))))] [] aF ?_;exact hn2
 | false =>
  rw[b2]at hw q2;rw[Aw hlt (fun j hj hjm=>hI j hj hjm) hw]
  generalize l[m]=c at hg q1 q2;clear hnext hI hw;refine wG kO (A3 BY hlt' hg) ?_;refine AR.callP q1 TI aF ?_;refine goG kO (AI BY hg) ?_;refine AR.callP q2 TI aF ?_;refine goG kO TI ?_;refine wG kO TI ?_;exact aM
theorem xU{s:Bs}{a p:Nat}(hp:p≤s.length)(h:skpG false (s.drop p)=skpG false (s.drop a))(h2:skpG false (s.drop p)=s.drop p):s.length-(skpG false (s.drop a)).length=p:=by
 rw[←h,h2,List.length_drop]
 omega
theorem HH{c:UInt8}(r:Bs)(h:c.toNat=10):skpG true (c::r)=skpG false (c::r):=by
 have hS:isS c=true:=by unfold isS;rw[decide_eq_true_eq];omega
 rw[skpG,if_pos h]
 conv=>rhs;rw[skpG,if_pos hS]
def kP:= @gB
set_option maxHeartbeats 2000000 in
theorem Zr(s:Bs)(a:Nat)(ha:a≤s.length)(hs:s.length≤4194304):PC Tryz.prog 109 [.im (.string ⟨(s).toArray⟩),(.im (.int .i64 ((a:Int))))] (.im (.int .i64 (((s.length-(skpG false (s.drop a)).length:Nat):Int)))):=by
 obtain⟨T,hT⟩: ∃T,T=skpG false (s.drop a):=⟨_,rfl⟩
 rw[←hT]
 refine PC.enter 65 Tryz.func109 rfl (by decide) rfl rfl (s:=[(0,.im (.string ⟨(s).toArray⟩)),(1,(.im (.int .i64 ((a:Int)))))]) (by rfl) ?_
 refine wG kP TI ?_
 refine bH ?_
 refine ALp.cutP 0 [(0,.im (.string ⟨(s).toArray⟩)),(1,(.im (.int .i64 ((((a):Nat):Int)))))] [] aF ?_
 refine ALp.upto s.length (fun p=>skpG false (s.drop p)=T) (fun p=>⟨dn 65 [(0,.im (.string ⟨(s).toArray⟩)),(1,(.im (.int .i64 ((((p):Nat):Int)))))],ofl []⟩) ?_ a ha hT.symm
 intro p hp hI hnext
 by_cases hlt:p<s.length
 case neg =>
  obtain rfl:p=s.length:=by omega
  have hn: ¬(s.length:Int)<(s.length:Int):=by omega
  have hR:s.length-T.length=s.length:=by
   rw[←hI,List.drop_length];rfl
  rw[hR];clear hnext;refine wG kP (AI BY hn) ?_;exact aM
 have hlt':(p:Int)<(s.length:Int):=by omega
 have hw1:=bD hlt (by omega)
 have hg:s[p]? =some s[p]:=List.getElem?_eq_getElem hlt
 have hd:s.drop p=s[p]::s.drop (p+1):=List.drop_eq_getElem_cons hlt
 generalize s[p]=c at hg hd
 by_cases hS:isS c=true
 ·have hI2:skpG false (s.drop (p+1))=T:=by rw[←hI,hd,skpG,if_pos hS]
  have hn2:=hnext (p+1) (by omega) (by omega) hI2
  have hS2:c.toNat=32∨c.toNat=9∨c.toNat=13∨c.toNat=10:=of_decide_eq_true hS;clear hnext
  by_cases k1:c.toNat=32
  ·have e1:(c.toNat:Int)=32:=by omega
   refine wG kP (A5 BY hlt' hg e1 hw1) ?_;refine ALp.cutP 0 [(0,.im (.string ⟨(s).toArray⟩)),(1,(.im (.int .i64 ((((p+1):Nat):Int)))))] [] aF ?_;exact hn2
  have e1: ¬(c.toNat:Int)=32:=by omega
  by_cases k2:c.toNat=9
  ·have e2:(c.toNat:Int)=9:=by omega
   refine wG kP (A6 BY hlt' hg e1 e2 hw1) ?_;refine ALp.cutP 0 [(0,.im (.string ⟨(s).toArray⟩)),(1,(.im (.int .i64 ((((p+1):Nat):Int)))))] [] aF ?_;exact hn2
  have e2: ¬(c.toNat:Int)=9:=by omega
  by_cases k3:c.toNat=13
  ·have e3:(c.toNat:Int)=13:=by omega
   refine wG kP (A7 BY hlt' hg e1 e2 e3 hw1) ?_;refine ALp.cutP 0 [(0,.im (.string ⟨(s).toArray⟩)),(1,(.im (.int .i64 ((((p+1):Nat):Int)))))] [] aF ?_;exact hn2
  have e3: ¬(c.toNat:Int)=13:=by omega
  have e4:(c.toNat:Int)=10:=by omega
  refine wG kP (A8 BY hlt' hg e1 e2 e3 e4 hw1) ?_;refine ALp.cutP 0 [(0,.im (.string ⟨(s).toArray⟩)),(1,(.im (.int .i64 ((((p+1):Nat):Int)))))] [] aF ?_;exact hn2
 have hS2: ¬(c.toNat=32∨c.toNat=9∨c.toNat=13∨c.toNat=10):=fun h=>hS (decide_eq_true h)
 have hS3:isS c=false:=by simpa using hS
 have e1: ¬(c.toNat:Int)=32:=by omega
 have e2: ¬(c.toNat:Int)=9:=by omega
 have e3: ¬(c.toNat:Int)=13:=by omega
 have e4: ¬(c.toNat:Int)=10:=by omega
 by_cases h47:c.toNat=47
 case neg =>
  have e5: ¬(c.toNat:Int)=47:=by omega
  have hst:skpG false (s.drop p)=s.drop p:=by rw[hd,skpG,if_neg hS,if_neg (fun h=>h47 h.1)]
  have hR:s.length-T.length=p:=by rw[hT];exact xU hp (hI.trans hT) hst
  rw[hR];clear hnext;refine wG kP (A8 BY hlt' hg e1 e2 e3 e4 e5) ?_;exact aM
 have e5:(c.toNat:Int)=47:=by omega
 by_cases hlt2:p+1<s.length
 case neg =>
  have e6:((p+1:Nat):Int)≥(s.length:Int):=by omega
  have hnil:s.drop (p+1)=[]:=List.drop_eq_nil_of_le (by omega)
  have hst:skpG false (s.drop p)=s.drop p:=by rw[hd,skpG,if_neg hS,if_neg (by rw[hnil];rintro⟨_,h⟩;cases h)]
  have hR:s.length-T.length=p:=by rw[hT];exact xU hp (hI.trans hT) hst
  rw[hR];clear hnext;refine wG kP (A10 BY hlt' hg e1 e2 e3 e4 e5 e6 hw1) ?_;exact aM
 have e6: ¬((p+1:Nat):Int)≥(s.length:Int):=by omega
 have hg2:s[p+1]? =some s[p+1]:=List.getElem?_eq_getElem hlt2
 have hd2:s.drop (p+1)=s[p+1]::s.drop (p+1+1):=List.drop_eq_getElem_cons hlt2
 generalize s[p+1]=d at hg2 hd2
 by_cases h472:d.toNat=47
 case neg =>
  have e7: ¬(d.toNat:Int)=47:=by omega
  have hst:skpG false (s.drop p)=s.drop p:=by
   rw[hd,skpG,if_neg hS,if_neg];rw[hd2];rintro⟨_,h⟩;simp only[List.head?_cons,Option.some.injEq]at h;rw[h]at h472;exact h472 (by decide)
  have hR:s.length-T.length=p:=by rw[hT];exact xU hp (hI.trans hT) hst
  rw[hR];clear hnext;refine wG kP (A12 BY hlt' hg hg2 e1 e2 e3 e4 e5 e6 e7 hw1) ?_;exact aM
 have e7:(d.toNat:Int)=47:=by omega
 have hIt:skpG true (s.drop p)=T:=by
  rw[←hI,hd,skpG,if_neg (by omega)]
  conv=>rhs;rw[skpG,if_neg hS,if_pos ⟨h47,by rw[hd2,toNat_inj (b:=47) h472];rfl⟩]
 refine wG kP (A12 BY hlt' hg hg2 e1 e2 e3 e4 e5 e6 e7 hw1) ?_
 refine bH ?_
 refine ALp.cutP 0 [(0,.im (.string ⟨(s).toArray⟩)),(1,(.im (.int .i64 ((((p):Nat):Int)))))] [] aF ?_
 refine ALp.upto s.length (fun q=>p≤q∧skpG true (s.drop q)=T) (fun q=>⟨dn 65 [(0,.im (.string ⟨(s).toArray⟩)),(1,(.im (.int .i64 ((((q):Nat):Int)))))],ofl []⟩) ?_ p hp ⟨Nat.le_refl _,hIt⟩
 intro q hq hJ hnq
 obtain⟨hpq,hJ⟩:=hJ
 by_cases hql:q<s.length
 case neg =>
  obtain rfl:q=s.length:=by omega
  have hn: ¬(s.length:Int)<(s.length:Int):=by omega
  have hn2:=hnext s.length (by omega) (Nat.le_refl _) (by rw[←hJ,List.drop_length];rfl)
  clear hnext hnq;refine wG kP (AI BY hn) ?_;refine ALp.cutP 0 [(0,.im (.string ⟨(s).toArray⟩)),(1,(.im (.int .i64 ((((s.length):Nat):Int)))))] [] aF ?_;exact hn2
 have hql':(q:Int)<(s.length:Int):=by omega
 have hwq:=bD hql (by omega)
 have hgq:s[q]? =some s[q]:=List.getElem?_eq_getElem hql
 have hdq:s.drop q=s[q]::s.drop (q+1):=List.drop_eq_getElem_cons hql
 by_cases h10:s[q].toNat=10
 ·have hne:p≠q:=fun e=>by
   subst e;rw[hg]at hgq;have:=Option.some.inj hgq;rw[←this]at h10;omega
  have hn2:=hnext q (by omega) hq (by rw[←hJ,hdq,HH _ h10])
  generalize s[q]=x at hgq h10;have e8:(x.toNat:Int)=10:=by omega
  clear hnext hnq;refine wG kP (A4 BY hql' hgq e8) ?_;refine ALp.cutP 0 [(0,.im (.string ⟨(s).toArray⟩)),(1,(.im (.int .i64 ((((q):Nat):Int)))))] [] aF ?_;exact hn2
 ·have hn2:=hnq (q+1) (by omega) (by omega) ⟨by omega,by rw[←hJ,hdq,skpG,if_neg h10]⟩
  generalize s[q]=x at hgq h10;have e8: ¬(x.toNat:Int)=10:=by omega
  clear hnext hnq;refine wG kP (A5 BY hql' hgq e8 hwq) ?_;refine ALp.cutP 0 [(0,.im (.string ⟨(s).toArray⟩)),(1,(.im (.int .i64 ((((q+1):Nat):Int)))))] [] aF ?_;exact hn2
def wQ:Option Nat→Nat×Bool
 | none=>(0,false)
 | some n=>(n%4294967296,decide (n≤4294967295))
theorem Qg(n:Nat):IntKind.u32.wrap (n:Int)=((n%4294967296:Nat):Int):=by
 simp[IntKind.wrap,IntKind.signed,IntKind.bits]
def numR(w:Bs):Nat×Bool :=
 if 2<w.length∧pre [48,120] w=true then(if 8<(w.drop 2).length then(0,false)else wQ (digV 16 0 (w.drop 2)))
 else if w.length=0∨10<w.length∨(1<w.length∧w.head? =some 48)then(0,false)else wQ (digV 10 0 w)
theorem EE(b:Nat)(s:Bs): ∀a n,digV b a s=some n→a*b^s.length≤n:=by
 induction s with
 | nil=>intro a n h;cases h;simp
 | cons c r ih =>
  intro a n h;rw[digV]at h;split at h
  ·split at h
   ·have h1:=ih _ _ h
    rw[List.length_cons,Nat.pow_succ,Nat.mul_comm (b^r.length) b,←Nat.mul_assoc];refine Nat.le_trans (Nat.mul_le_mul_right _ (Nat.le_add_right _ _)) h1
   ·cases h
  ·cases h
theorem Zi{w:Bs}{n:Nat}(h:digV 10 0 w=some n)(hl:10<w.length)(h0:w.head? ≠some 48):4294967296≤n:=by
 cases w with
 | nil=>cases hl
 | cons c r =>
  rw[digV]at h;split at h
  ·rename_i d hd
   split at h
   ·rename_i hlt
    have h1:=EE 10 r _ _ h
    have hd1:1≤d:=by
     rcases Nat.eq_zero_or_pos d with e|e
     ·subst e
      exfalso;refine h0 ?_;unfold hexv at hd;split at hd
      ·rename_i q
       have:=Option.some.inj hd;rw[show c=48 from toNat_inj (by show c.toNat=48;omega)]
       rfl
      split at hd
      ·have:=Option.some.inj hd;omega
      split at hd
      ·have:=Option.some.inj hd;omega
      ·cases hd
     ·exact e
    have h2:10^10≤10^r.length:=Nat.pow_le_pow_right (by decide) (by rw[List.length_cons]at hl;omega)
    have h3:1*10^r.length≤(0*10+d)*10^r.length:=Nat.mul_le_mul_right _ (by omega)
    have h4:(10:Nat)^10=10000000000:=by decide
    omega
   ·cases h
  ·cases h
theorem Fv{o:Option Nat}{n:Nat}(h:o=some n)(hn:n<4294967296):wQ o=(n,true):=by
 subst h
 show(n%4294967296,decide (n≤4294967295))=(n,true)
 rw[Nat.mod_eq_of_lt hn,decide_eq_true (by omega)]
theorem Yt{o:Option Nat}(h: ∀n,o=some n→4294967296≤n):(wQ o).2=false:=by
 cases o with
 | none=>rfl
 | some n =>
  have:=h n rfl;exact decide_eq_false (by omega)
theorem Fi(w:Bs):(∀n,valP w=some n→numR w=(n,true))∧(valP w=none→(numR w).2=false):=by
 by_cases hp:pre [48,120] w=true
 ·have hV:valP w=if 0<(w.drop 2).length∧(w.drop 2).length≤8 then digV 16 0 (w.drop 2)else none:=if_pos hp
  rw[hV]
  have hlen:2≤w.length:=by
   obtain⟨x,rfl⟩:=jC.1 hp;simp
  have hdl:(w.drop 2).length=w.length-2:=List.length_drop
  by_cases h2:2<w.length
  ·have hN:numR w=if 8<(w.drop 2).length then(0,false)else wQ (digV 16 0 (w.drop 2)):=if_pos ⟨h2,hp⟩
   rw[hN]
   by_cases h8:8<(w.drop 2).length
   ·rw[if_neg (by omega),if_pos h8]
    exact⟨fun n h=>(by cases h),fun _=>rfl⟩
   ·rw[if_pos (by omega),if_neg h8]
    refine⟨fun n h=>Fv h ?_,fun h=>by rw[h];rfl⟩
    have:=Fx _ _ _ h;have h2:16^(List.drop 2 w).length≤16^8:=Nat.pow_le_pow_right (by decide) (by omega)
    have h3:(16:Nat)^8=4294967296:=by decide
    omega
  ·have hN:numR w=(0,false):=by
    unfold numR;rw[if_neg (fun h=>h2 h.1),if_pos]
    obtain⟨x,rfl⟩:=jC.1 hp;exact .inr (.inr ⟨by simp,rfl⟩)
   rw[if_neg (by omega),hN]
   exact⟨fun n h=>(by cases h),fun _=>rfl⟩
 ·have hV:valP w=if w.length=0∨(1<w.length∧w.head? =some 48)then none else match digV 10 0 w with
   | some n=>if n<4294967296 then some n else none
   | none=>none:=if_neg hp
  have hN:numR w=if w.length=0∨10<w.length∨(1<w.length∧w.head? =some 48)then(0,false)else wQ (digV 10 0 w):=if_neg fun h=>hp h.2
  rw[hV,hN]
  by_cases h0:w.length=0∨(1<w.length∧w.head? =some 48)
  ·have h1:w.length=0∨10<w.length∨(1<w.length∧w.head? =some 48):=by
    rcases h0 with h|h
    ·exact .inl h
    ·exact .inr (.inr h)
   rw[if_pos h0,if_pos h1];exact⟨fun n h=>(by cases h),fun _=>rfl⟩
  rw[if_neg h0]
  by_cases h10:10<w.length
  ·rw[if_pos (show w.length=0∨10<w.length∨(1<w.length∧w.head? =some 48)from .inr (.inl h10))]
   refine⟨fun n h=> ?_,fun _=>rfl⟩
   cases hd:digV 10 0 w with
   | none=>rw[hd]at h;cases h
   | some m =>
    rw[hd]at h;have:=Zi hd h10 (fun e=>h0 (.inr ⟨by omega,e⟩))
    simp only at h;rw[if_neg (by omega)]at h
    cases h
  ·have h1: ¬(w.length=0∨10<w.length∨(1<w.length∧w.head? =some 48)):=by
    rintro(h|h|h)
    ·exact h0 (.inl h)
    ·exact h10 h
    ·exact h0 (.inr h)
   rw[if_neg h1];cases hd:digV 10 0 w with
   | none=>exact⟨fun n h=>(by cases h),fun _=>rfl⟩
   | some m =>
    simp only
    by_cases hm:m<4294967296
    ·rw[if_pos hm]
     exact⟨fun n h=>by cases h;exact Fv rfl hm,fun h=>by cases h⟩
    ·rw[if_neg hm]
     exact⟨fun n h=>(by cases h),fun _=>Yt fun n h=>by cases h;omega⟩
theorem To{w:Bs}{n:Nat}(h:valP w=some n):numR w=(n,true):=(Fi w).1 n h
theorem Tp{w:Bs}(h:valP w=none):(numR w).2=false:=(Fi w).2 h
theorem Ff{w:Bs}(h:2<w.length):(w.take 2==[48,120])=pre [48,120] w:=by
 rw[wI,decide_eq_true (show([48,120]:Bs).length≤w.length by simp;omega),Bool.true_and]
 rfl
def cL:=A5 @nQ @pZ @nP @pX @gB
set_option maxHeartbeats 2000000 in
theorem Zy(w:Bs)(hw:w.length≤4194304):PC Tryz.prog 222 [.im (.string ⟨(w).toArray⟩)] (.tu [.im (.int .u32 (((numR w).1:Int))),(.im (.bool ((numR w).2)))]):=by
 by_cases hhx:2<w.length∧pre [48,120] w=true
 ·obtain⟨h2,hp⟩:=hhx
  have h2':(w.length:Int)>2:=by omega
  have h2'':(2:Int)≤(w.length:Int):=by omega
  have hpt:=Ff h2;rw[hp]at hpt;obtain⟨ds,hds⟩: ∃ds,ds=w.drop 2:=⟨_,rfl⟩
  have hdl:ds.length=w.length-2:=by rw[hds,List.length_drop]
  have hful:(w.drop 2).take (w.length-2)=ds:=by rw[←hds];exact List.take_of_length_le (by omega)
  have hR:numR w=if 8<ds.length then(0,false)else wQ (digV 16 0 ds):=by rw[hds];exact if_pos ⟨h2,hp⟩
  rw[hR];have hne: ¬(ds.length:Int)=0:=by omega
  clear hR hds
  by_cases h8:8<ds.length
  ·rw[if_pos h8]
   have h8':(ds.length:Int)>8:=by omega
   by_cases h10:10<ds.length
   ·have h10':(ds.length:Int)>10:=by omega
    refine PC.enter 77 Tryz.func222 rfl (by decide) rfl rfl (s:=[(0,.im (.string ⟨(w).toArray⟩))]) (by rfl) ?_
    refine wdG cL (A9 BY GDS h2' h2'' hpt hful hne h8' h10') ?_;refine aJ (rs:=[.tmp 2,.tmp 3]) rfl (by first|exact .inl rfl|exact .inr rfl) (finG cL) ?_
    all_goals exact wkG aF
   ·have h10': ¬(ds.length:Int)>10:=by omega
    refine PC.enter 77 Tryz.func222 rfl (by decide) rfl rfl (s:=[(0,.im (.string ⟨(w).toArray⟩))]) (by rfl) ?_
    refine wdG cL (A9 BY GDS h2' h2'' hpt hful hne h8' h10') ?_;refine aJ (rs:=[.tmp 2,.tmp 3]) rfl (by first|exact .inl rfl|exact .inr rfl) (finG cL) ?_
    all_goals exact wkG aF
  rw[if_neg h8];have h8': ¬(ds.length:Int)>8:=by omega
  have h10': ¬(ds.length:Int)>10:=by omega
  refine PC.enter 77 Tryz.func222 rfl (by decide) rfl rfl (s:=[(0,.im (.string ⟨(w).toArray⟩))]) (by rfl) ?_
  refine wdG cL (A9 BY GDS h2' h2'' hpt hful hne h8' h10') ?_;clear h2' h2'' hpt hful hne h8' h10' hdl h2 hp;refine bH ?_
  suffices H: ∀(k m n:Nat),ds.length-m=k→m≤ds.length→n<16^m→digV 16 0 ds=digV 16 n (ds.drop m)→ALp _ _ _ _ _ ⟨dn 77 [(0,.im (.string ⟨(w).toArray⟩)),(4,(.im (.int .i64 (16)))),(5,.im (.string ⟨(ds).toArray⟩)),(6,(.im (.int .i64 (((n:Nat):Int))))),(7,(.im (.int .i64 ((((m:Nat)):Int)))))],ofl []⟩ by
   refine ALp.cutP 0 [(0,.im (.string ⟨(w).toArray⟩)),(4,(.im (.int .i64 (16)))),(5,.im (.string ⟨(ds).toArray⟩)),(6,(.im (.int .i64 (((0:Nat):Int))))),(7,(.im (.int .i64 ((((0:Nat)):Int)))))] [] aF ?_;exact H _ 0 0 rfl (Nat.zero_le _) (by decide) rfl
  intro k
  induction k using Nat.strongRecOn with
  | _ k ih =>
  intro m n hk hml hnb hD;have hpw:16^m≤16^8:=Nat.pow_le_pow_right (by decide) (by omega)
  have hpn:(16:Nat)^8=4294967296:=by decide
  refine cD ?_
  by_cases hlt:m<ds.length
  case neg =>
   obtain rfl:m=ds.length:=by omega
   have hn: ¬(ds.length:Int)<(ds.length:Int):=by omega
   rw[List.drop_length]at hD;have hR:wQ (digV 16 0 ds)=(n%4294967296,decide (n≤4294967295)):=by rw[hD];rfl
   rw[hR];have hwr:=Qg n;clear ih
   by_cases hle:n≤4294967295
   ·have hle':(n:Int)≤4294967295:=by omega
    rw[decide_eq_true hle];refine wG cL (A4 BY hn hwr hle') ?_;refine aJ (rs:=[.tmp 2,.tmp 3]) rfl (by first|exact .inl rfl|exact .inr rfl) (finG cL) ?_
    all_goals exact wkG aF
   ·have hle': ¬(n:Int)≤4294967295:=by omega
    rw[decide_eq_false hle];refine wG cL (A4 BY hn hwr hle') ?_;refine aJ (rs:=[.tmp 2,.tmp 3]) rfl (by first|exact .inl rfl|exact .inr rfl) (finG cL) ?_
    all_goals exact wkG aF
  have hlt':(m:Int)<(ds.length:Int):=by omega
  have hw1:=bD hlt (by omega)
  have hg:ds[m]? =some ds[m]:=List.getElem?_eq_getElem hlt;have hd:ds.drop m=ds[m]::ds.drop (m+1):=List.drop_eq_getElem_cons hlt;have qh:=Ai ds[m];rw[hd,digV]at hD;have hpow:16^(m+1)=16^m*16:=Nat.pow_succ _ _;generalize ds[m]=c at hg hD qh;cases hx:hexv c with
  | none =>
   rw[hx]at hD;rw[mJ hx]at qh;rw[show wQ (digV 16 0 ds)=(0,false) by rw[hD];rfl]
   clear ih;refine wG cL (A3 BY hlt' hg) ?_;refine AR.callP qh TI aF ?_;refine goG cL TI ?_;refine wG cL TI ?_;refine aJ (rs:=[.tmp 2,.tmp 3]) rfl (by first|exact .inl rfl|exact .inr rfl) (finG cL) ?_
   all_goals exact wkG aF
  | some d =>
  rw[hx]at hD;rw[kL hx]at qh;simp only at hD;have hd0: ¬(d:Int)<0:=by omega
  by_cases hdb:d<16
  case neg =>
   rw[if_neg hdb]at hD;rw[show wQ (digV 16 0 ds)=(0,false) by rw[hD];rfl]
   have hdb':(d:Int)≥16:=by omega
   clear ih;refine wG cL (A3 BY hlt' hg) ?_;refine AR.callP qh TI aF ?_;refine goG cL TI ?_;refine wG cL (AI hd0 hdb') ?_;refine aJ (rs:=[.tmp 2,.tmp 3]) rfl (by first|exact .inl rfl|exact .inr rfl) (finG cL) ?_
   all_goals exact wkG aF
  rw[if_pos hdb]at hD;have hdb': ¬(d:Int)≥16:=by omega
  have hI:=ih (ds.length-(m+1)) (by omega) (m+1) (n*16+d) rfl (by omega) (by omega) hD
  have hm1:IntKind.i64.wrap (16*(n:Int))=((n*16:Nat):Int):=by rw[cM (by omega)];omega
  have hm2:IntKind.i64.wrap (((n*16:Nat):Int)+(d:Int))=((n*16+d:Nat):Int):=by rw[cM (by omega)];omega
  clear ih;refine wG cL (A3 BY hlt' hg) ?_;refine AR.callP qh TI aF ?_;refine goG cL TI ?_;refine wG cL (A5 hd0 hdb' hm1 hm2 hw1) ?_;refine ALp.cutP 0 [(0,.im (.string ⟨(w).toArray⟩)),(4,(.im (.int .i64 (16)))),(5,.im (.string ⟨(ds).toArray⟩)),(6,(.im (.int .i64 (((n*16+d:Nat):Int))))),(7,(.im (.int .i64 ((((m+1:Nat)):Int)))))] [] aF ?_;exact hI
 obtain⟨ds,hds⟩: ∃ds,ds=w:=⟨_,rfl⟩
 have hR:numR w=if ds.length=0∨10<ds.length∨(1<ds.length∧ds.head? =some 48)then(0,false)else wQ (digV 10 0 ds):=by rw[hds];exact if_neg hhx
 rw[hR]
 clear hR
 have hpt:2<w.length→(w.take 2==[48,120])=false:=fun h=>by
  rw[Ff h];cases hx:pre [48,120] w with
  | false=>rfl
  | true=>exact absurd ⟨h,hx⟩ hhx
 refine PC.enter 77 Tryz.func222 rfl (by decide) rfl rfl (s:=[(0,.im (.string ⟨(w).toArray⟩))]) (by rfl) ?_
 refine AWp.seq ?_
 refine AWp.tail (fun _:Unit=>⟨dn 77 [(0,.im (.string ⟨(w).toArray⟩))],ofl []⟩) (fun _=> ?_) (fun rest ht=> ?_)
 case refine_2 =>
  refine wG cL TI ?_;refine AWp.cutP 0 [(0,.im (.string ⟨(w).toArray⟩))] [] aF ?_;exact ht ()
 refine AWp.seq ?_
 refine AWp.tail (fun _:Unit=>⟨dn 77 [(0,.im (.string ⟨(w).toArray⟩)),(4,(.im (.int .i64 (10)))),(5,.im (.string ⟨(w).toArray⟩))],ofl []⟩) (fun _=> ?_) (fun rest ht=> ?_)
 case refine_2 =>
  refine wdG cL TI ?_;refine AWp.cutP 0 [(0,.im (.string ⟨(w).toArray⟩)),(4,(.im (.int .i64 (10)))),(5,.im (.string ⟨(w).toArray⟩))] [] aF ?_;exact ht ()
 refine AWp.seq ?_
 refine AWp.tail (fun _:Unit=>⟨dn 77 [(0,.im (.string ⟨(w).toArray⟩)),(4,(.im (.int .i64 (10)))),(5,.im (.string ⟨(w).toArray⟩))],ofl []⟩) (fun _=> ?_) (fun rest ht=> ?_)
 case refine_2 =>
  by_cases h2:2<w.length
  ·have h2':(w.length:Int)>2:=by omega
   have h2'':(2:Int)≤(w.length:Int):=by omega
   have hp2:=hpt h2;refine wG cL (A5 BY GDS h2' h2'' hp2) ?_;refine AWp.cutP 0 [(0,.im (.string ⟨(w).toArray⟩)),(4,(.im (.int .i64 (10)))),(5,.im (.string ⟨(w).toArray⟩))] [] aF ?_;exact ht ()
  ·have h2': ¬(w.length:Int)>2:=by omega
   refine wG cL (A3 BY GDS h2') ?_;refine AWp.cutP 0 [(0,.im (.string ⟨(w).toArray⟩)),(4,(.im (.int .i64 (10)))),(5,.im (.string ⟨(w).toArray⟩))] [] aF ?_;exact ht ()
 clear hpt hhx
 subst hds
 refine AWp.seq ?_
 refine AWp.tail (fun _:PLift (¬(ds.length=0∨10<ds.length∨(1<ds.length∧ds.head? =some 48)))=>⟨dn 77 [(0,.im (.string ⟨(ds).toArray⟩)),(4,(.im (.int .i64 (10)))),(5,.im (.string ⟨(ds).toArray⟩))],ofl []⟩) (fun hb=> ?_) (fun rest ht=> ?_)
 case refine_2 =>
  by_cases h0:ds.length=0
  ·have h0':(ds.length:Int)=0:=by omega
   rw[if_pos (.inl h0)];refine wG cL (AI BY h0') ?_;refine aJ (rs:=[.tmp 2,.tmp 3]) rfl (by first|exact .inl rfl|exact .inr rfl) (finG cL) ?_
   all_goals exact wkG aF
  have h0': ¬(ds.length:Int)=0:=by omega
  by_cases h10:10<ds.length
  ·have h10':(ds.length:Int)>10:=by omega
   rw[if_pos (.inr (.inl h10))];refine wG cL (A3 BY h0' h10') ?_;refine aJ (rs:=[.tmp 2,.tmp 3]) rfl (by first|exact .inl rfl|exact .inr rfl) (finG cL) ?_
   all_goals exact wkG aF
  have h10': ¬(ds.length:Int)>10:=by omega
  by_cases h1:1<ds.length
  ·have h1':(ds.length:Int)>1:=by omega
   obtain⟨c,r,rfl⟩: ∃c r,ds=c::r:=by cases ds with
    | nil=>cases h1
    | cons c r=>exact⟨c,r,rfl⟩
   have hg:(c::r)[0]? =some c:=rfl
   by_cases h48:c.toNat=48
   ·have h48':(c.toNat:Int)=48:=by omega
    rw[if_pos (.inr (.inr ⟨h1,by rw[show c=48 from toNat_inj h48];rfl⟩))]
    generalize c::r=ds at *;refine wG cL (A6 BY h0' h10' h1' hg h48') ?_;refine aJ (rs:=[.tmp 2,.tmp 3]) rfl (by first|exact .inl rfl|exact .inr rfl) (finG cL) ?_
    all_goals exact wkG aF
   ·have h48': ¬(c.toNat:Int)=48:=by omega
    have hbad: ¬((c::r).length=0∨10<(c::r).length∨(1<(c::r).length∧(c::r).head? =some 48)):=fun h=>by
     rcases h with h|h|h
     ·exact h0 h
     ·exact h10 h
     ·have:=Option.some.inj h.2
      rw[this]at h48;exact h48 rfl
    have ht:=ht ⟨hbad⟩;clear hbad;generalize c::r=ds at *;refine wG cL (A6 BY h0' h10' h1' hg h48') ?_;refine AWp.cutP 0 [(0,.im (.string ⟨(ds).toArray⟩)),(4,(.im (.int .i64 (10)))),(5,.im (.string ⟨(ds).toArray⟩))] [] aF ?_;exact ht
  ·have h1': ¬(ds.length:Int)>1:=by omega
   refine wG cL (A4 BY h0' h10' h1') ?_;refine AWp.cutP 0 [(0,.im (.string ⟨(ds).toArray⟩)),(4,(.im (.int .i64 (10)))),(5,.im (.string ⟨(ds).toArray⟩))] [] aF ?_
   exact ht ⟨fun h=>by
    rcases h with h|h|h
    ·exact h0 h
    ·exact h10 h
    ·exact h1 h.1⟩
 obtain⟨hb⟩:=hb
 rw[if_neg hb]
 refine wG cL TI ?_
 refine bH ?_
 suffices H: ∀(k m n:Nat),ds.length-m=k→m≤ds.length→n<10^m→digV 10 0 ds=digV 10 n (ds.drop m)→ALp _ _ _ _ _ ⟨dn 77 [(0,.im (.string ⟨(ds).toArray⟩)),(4,(.im (.int .i64 (10)))),(5,.im (.string ⟨(ds).toArray⟩)),(6,(.im (.int .i64 (((n:Nat):Int))))),(7,(.im (.int .i64 ((((m:Nat)):Int)))))],ofl []⟩ by
  refine ALp.cutP 0 [(0,.im (.string ⟨(ds).toArray⟩)),(4,(.im (.int .i64 (10)))),(5,.im (.string ⟨(ds).toArray⟩)),(6,(.im (.int .i64 (((0:Nat):Int))))),(7,(.im (.int .i64 ((((0:Nat)):Int)))))] [] aF ?_;exact H _ 0 0 rfl (Nat.zero_le _) (by decide) rfl
 intro k
 induction k using Nat.strongRecOn with
 | _ k ih =>
 intro m n hk hml hnb hD
 have hpw:10^m≤10^10:=Nat.pow_le_pow_right (by decide) (by omega)
 have hpn:(10:Nat)^10=10000000000:=by decide
 refine cD ?_
 by_cases hlt:m<ds.length
 case neg =>
  obtain rfl:m=ds.length:=by omega
  have hn: ¬(ds.length:Int)<(ds.length:Int):=by omega
  rw[List.drop_length]at hD;have hR:wQ (digV 10 0 ds)=(n%4294967296,decide (n≤4294967295)):=by rw[hD];rfl
  rw[hR];have hwr:=Qg n;clear ih
  by_cases hle:n≤4294967295
  ·have hle':(n:Int)≤4294967295:=by omega
   rw[decide_eq_true hle];refine wG cL (A4 BY hn hwr hle') ?_;refine aJ (rs:=[.tmp 2,.tmp 3]) rfl (by first|exact .inl rfl|exact .inr rfl) (finG cL) ?_
   all_goals exact wkG aF
  ·have hle': ¬(n:Int)≤4294967295:=by omega
   rw[decide_eq_false hle];refine wG cL (A4 BY hn hwr hle') ?_;refine aJ (rs:=[.tmp 2,.tmp 3]) rfl (by first|exact .inl rfl|exact .inr rfl) (finG cL) ?_
   all_goals exact wkG aF
 have hlt':(m:Int)<(ds.length:Int):=by omega
 have hw1:=bD hlt (by omega)
 have hg:ds[m]? =some ds[m]:=List.getElem?_eq_getElem hlt
 have hd:ds.drop m=ds[m]::ds.drop (m+1):=List.drop_eq_getElem_cons hlt
 have qh:=Ai ds[m]
 rw[hd,digV]at hD
 have hpow:10^(m+1)=10^m*10:=Nat.pow_succ _ _
 generalize ds[m]=c at hg hD qh
 cases hx:hexv c with
 | none =>
  rw[hx]at hD;rw[mJ hx]at qh;rw[show wQ (digV 10 0 ds)=(0,false) by rw[hD];rfl]
  clear ih;refine wG cL (A3 BY hlt' hg) ?_;refine AR.callP qh TI aF ?_;refine goG cL TI ?_;refine wG cL TI ?_;refine aJ (rs:=[.tmp 2,.tmp 3]) rfl (by first|exact .inl rfl|exact .inr rfl) (finG cL) ?_
  all_goals exact wkG aF
 | some d =>
 rw[hx]at hD
 rw[kL hx]at qh
 simp only at hD
 have hd0: ¬(d:Int)<0:=by omega
 by_cases hdb:d<10
 case neg =>
  rw[if_neg hdb]at hD;rw[show wQ (digV 10 0 ds)=(0,false) by rw[hD];rfl]
  have hdb':(d:Int)≥10:=by omega
  clear ih;refine wG cL (A3 BY hlt' hg) ?_;refine AR.callP qh TI aF ?_;refine goG cL TI ?_;refine wG cL (AI hd0 hdb') ?_;refine aJ (rs:=[.tmp 2,.tmp 3]) rfl (by first|exact .inl rfl|exact .inr rfl) (finG cL) ?_
  all_goals exact wkG aF
 rw[if_pos hdb]at hD
 have hdb': ¬(d:Int)≥10:=by omega
 have hI:=ih (ds.length-(m+1)) (by omega) (m+1) (n*10+d) rfl (by omega) (by omega) hD
 have hm1:IntKind.i64.wrap (10*(n:Int))=((n*10:Nat):Int):=by rw[cM (by omega)];omega
 have hm2:IntKind.i64.wrap (((n*10:Nat):Int)+(d:Int))=((n*10+d:Nat):Int):=by rw[cM (by omega)];omega
 clear ih
 refine wG cL (A3 BY hlt' hg) ?_
 refine AR.callP qh TI aF ?_
 refine goG cL TI ?_
 refine wG cL (A5 hd0 hdb' hm1 hm2 hw1) ?_
 refine ALp.cutP 0 [(0,.im (.string ⟨(ds).toArray⟩)),(4,(.im (.int .i64 (10)))),(5,.im (.string ⟨(ds).toArray⟩)),(6,(.im (.int .i64 (((n*10+d:Nat):Int))))),(7,(.im (.int .i64 ((((m+1:Nat)):Int)))))] [] aF ?_
 exact hI
def TkW(t:Tk):Prop:=(t.kind=2→isK t.text=true)∧(t.kind=5→t.text.head?.elim false isL=false)
theorem LA{ts:List Tk}(h: ∀t∈ts,TkW t)(a:Nat):TkW (pk ts a):=by
 by_cases hl:a<ts.length
 ·exact h _ (List.mem_of_getElem? (zJ hl))
 ·rw[uZ (by omega)]
  exact⟨(fun h=>by cases h),(fun h=>by cases h)⟩
theorem Vv{ts:List Tk}{a:Nat}{e:Int}{t:Bs}(h: ∀d,isR ts a e (t++[d])=false):nK ts a e t=0:=by
 unfold nK
 simp only[widF,h,Bool.false_eq_true,if_false]
theorem Vu{ts:List Tk}{a:Nat}{t:Bs}(h:(pk ts a).kind=2):nK ts a 0 t=if(pk ts a).text=t++[49]then 1 else if(pk ts a).text=t++[50]then 2 else if(pk ts a).text=t++[51]then 3 else if(pk ts a).text=t++[52]then 4 else 0:=by
 have hs: ∀x,(isR ts a 0 x=true)=((pk ts a).text=x):=fun x=>by rw[gI,Oi (.inl h),beq_iff_eq]
 unfold nK
 simp only[widF,hs]
 rfl
def ldW:Bs:=[108,111,97,100]
def sxW:Bs:=[115,101,120,116]
def stW:Bs:=[115,116,111,114,101]
theorem Qd{ts:List Tk}{a:Nat}{t:Bs}(hW:TkW (pk ts a))(h2:(pk ts a).kind≠2)(ht:t.head?.elim false isL=true):nK ts a 0 t=0:=by
 refine Vv fun d=> ?_
 rw[gI]
 unfold sees
 rw[beq_eq_false_iff_ne.2 h2,Bool.false_or]
 by_cases h5:(pk ts a).kind=5
 ·have h:=hW.2 h5
  cases b:(pk ts a).text==t++[d]with
  | false=>rw[Bool.and_false]
  | true =>
   rw[eq_of_beq b]at h;cases t with
   | nil=>cases ht
   | cons c t=>exact absurd (h.symm.trans ht) (by decide)
 ·rw[beq_eq_false_iff_ne.2 h5,Bool.false_and]
theorem Vj{ts:List Tk}{a:Nat}(hW:TkW (pk ts a))(h2:(pk ts a).kind=2) :
  (accW (pk ts a).text=none∧nK ts a 0 ldW=0∧nK ts a 0 sxW=0)∨(∃w,accW (pk ts a).text=some (18,w)∧nK ts a 0 ldW=w∧w>0)∨ ∃w,accW (pk ts a).text=some (19,w)∧nK ts a 0 ldW=0∧nK ts a 0 sxW=w∧w>0:=by
 have hk:=hW.1 h2
 rw[Vu h2,Vu h2]
 generalize (pk ts a).text=x at hk
 unfold ldW sxW
 by_cases h1:x=[108,111,97,100,49]
 ·subst h1;exact .inr (.inl ⟨1,rfl,rfl,by decide⟩)
 by_cases h3:x=[108,111,97,100,50]
 ·subst h3;exact .inr (.inl ⟨2,rfl,rfl,by decide⟩)
 by_cases h4:x=[108,111,97,100,52]
 ·subst h4;exact .inr (.inl ⟨4,rfl,rfl,by decide⟩)
 by_cases h5:x=[115,101,120,116,49]
 ·subst h5;exact .inr (.inr ⟨1,rfl,rfl,rfl,by decide⟩)
 by_cases h6:x=[115,101,120,116,50]
 ·subst h6;exact .inr (.inr ⟨2,rfl,rfl,rfl,by decide⟩)
 have n1:x≠[108,111,97,100,51]:=fun e=>by rw[e]at hk;revert hk;decide
 have n2:x≠[115,101,120,116,51]:=fun e=>by rw[e]at hk;revert hk;decide
 have n3:x≠[115,101,120,116,52]:=fun e=>by rw[e]at hk;revert hk;decide
 refine .inl ⟨?_,?_,?_⟩
 ·unfold accW
  rw[if_neg h1,if_neg h3,if_neg h4,if_neg h5,if_neg h6]
 ·simp only[List.cons_append,List.nil_append]
  rw[if_neg h1,if_neg h3,if_neg n1,if_neg h4]
 ·simp only[List.cons_append,List.nil_append]
  rw[if_neg h5,if_neg h6,if_neg n2,if_neg n3]
theorem On{α β γ:Type}(m:Option (Rs α))(k:α→Nat→Nat→Option (Rs β))(l:β→Nat→Nat→Option (Rs γ)):rb (rb m k) l=rb m fun x a o=>rb (k x a o) l:=by
 cases m with
 | none=>rfl
 | some r=>cases r<;>rfl
theorem GK(ts:List Tk)(g:Nat→Nat→Option (Rs Ex))(h:Ex→Ex)(a o:Nat):inn ts g h a o=rb (inn ts g id a o) fun x a o=>ret (h x) a o:=by
 unfold inn
 rw[On]
 congr 1
 funext _ a o
 rw[On]
 congr 1
 funext x a o
 rw[On]
 rfl
theorem postDec{α:Type}{s:Sr}{x:α}(h1:s.e=0→1≤s.o∧s.o≤256)(hp:Pre (fun a o=>ret x a (o-1)) s):Post (fun a o=>ret x a (o-1)) s x ⟨s.a,IntKind.i64.wrap (s.o-1),s.e⟩:=by
 refine⟨fun _=>⟨rfl,rfl⟩,fun he=> ?_⟩
 obtain⟨o,ho,_⟩:=hp he
 obtain⟨a,o',e⟩:=s
 cases he
 have ho:o'=(o:Int):=ho
 subst ho
 have h:1≤(o:Int)∧(o:Int)≤256:=h1 rfl
 have e:=oK (o:=o) (by omega) (by omega)
 exact⟨o,rfl,.inl ⟨a,o-1,rfl,by show Sr.mk a (IntKind.i64.wrap ((o:Int)-1)) 0=_;rw[e]⟩⟩
def OpR(ts:List Tk)(f:Nat):Prop:= ∀s:Sr,Pre (exM ts f .op) s→ ∃x s',Post (exM ts f .op) s x s'∧DC Tryz.prog 123 [.pt 0 0] [rbx ts s] (exV x) [rbx ts s']
def ExR(ts:List Tk)(f:Nat):Prop:= ∀l:Nat,l≤10→ ∀s:Sr,Pre (exM ts f (.ex l)) s→ ∃x s',Post (exM ts f (.ex l)) s x s'∧DC Tryz.prog 61 [.pt 0 0,(.im (.int .i64 ((l:Nat))))] [rbx ts s] (exV x) [rbx ts s']
theorem Oq:((1:Nat):Int)=1:=rfl
theorem Ag{ts:List Tk}{f:Nat}{m:Md4}{s s':Sr}{x:Ex}(q:Post (exM ts f m) s x s')(h:s'.e=0):s.e=0∧s'.o=s.o:=by
 obtain⟨h0,o,a,p,e1,e2,e3⟩:=q.ok h
 have:=(dH ts _ _ _ _ _ _ _ e2).1
 subst this
 rw[e3,e1]
 exact⟨h0,rfl⟩
def nC:=A3 @eO @fG @dG
theorem yQ{ts:List Tk}{f:Nat}(hE:ExR ts f)(hts:ts.length≤4194304)(s:Sr)(hp:Pre (inn ts (exM ts f (.ex 1)) id) s): ∃x s',Post (inn ts (exM ts f (.ex 1)) id) s x s'∧DC Tryz.prog 185 [.pt 0 0] [rbx ts s] (exV x) [rbx ts s']:=by
 unfold inn at hp ⊢
 obtain⟨s1,q1,b1,d1⟩:=kY ts hts s [40] hp.fst
 have p1:=hp.snd q1
 obtain⟨x,s2,q2,d2⟩:=hE 1 (by decide) s1 p1.fst
 have p2:=p1.snd q2
 obtain⟨s3,q3,_,d3⟩:=rW ts hts s2 [41] (fun h=>by obtain⟨h0,e⟩:=Ag q2 h;rw[e];exact(b1 h0).2) p2.fst
 refine⟨x,s3,q1.bind (q2.bind (q3.bind (Post.ret (p2.snd q3)))),?_⟩
 obtain⟨a,o,e⟩:=s
 obtain⟨a1,o1,e1⟩:=s1
 obtain⟨a2,o2,e2⟩:=s2
 obtain⟨a3,o3,e3⟩:=s3
 clear q1 q2 q3 p1 p2 hp b1
 simp only[rbx]at d1 d2 d3 ⊢
 rw[Oq]at d2
 refine DC.enter 11 Tryz.func185 rfl (by decide) rfl rfl (s:=[(0,.pt 0 0)]) (by rfl) ?_
 refine wG nC TI ?_
 refine aA [0] d1 TI (A4 aB aC @aE @aD) (A4 aH aI @aK @aL) ?_
 refine goG nC TI ?_
 refine wG nC TI ?_
 refine aA [0] d2 TI (A4 aB aC @aE @aD) (A4 aH aI @aK @aL) ?_
 refine goG nC BN01 ?_
 refine wG nC BN01 ?_
 refine aA [0] d3 TI (A4 aB aC @aE @aD) (A4 aH aI @aK @aL) ?_
 refine goG nC BN01 ?_
 refine wG nC BN01 ?_
 refine aO (rs:=[.cell 2 46]) rfl (by first|exact .inl rfl|exact .inr rfl) (finG nC) ?_ rfl (idG (A4 aB aC @aE @aD))
 rw[cA x]
 all_goals exact wkG (A4 aB aC @aE @aD)
def rC:=A8 @cQ @eO @fG @fM @sH @oB @cN @dG
theorem Rg{ts:List Tk}{f:Nat}(hO:OpR ts f)(hts:ts.length≤4194304)(t:Bs)(op:Int)(s:Sr)(hp:Pre (fun a o=>rb (begM ts t a o) fun _ a o=>rb (exM ts f .op a o) fun x b p=>ret (mkU op 0 x) b (p-1)) s) :
  ∃x s',Post (fun a o=>rb (begM ts t a o) fun _ a o=>rb (exM ts f .op a o) fun x b p=>ret (mkU op 0 x) b (p-1)) s x s'∧DC Tryz.prog 184 [.pt 0 0,.im (.string ⟨(t).toArray⟩),(.im (.int .i64 (op)))] [rbx ts s] (exV x) [rbx ts s']:=by
 obtain⟨s1,q1,b1,d1⟩:=kY ts hts s t hp.fst
 have p1:=hp.snd q1
 obtain⟨x,s2,q2,d2⟩:=hO s1 p1.fst
 have p2:=p1.snd q2
 refine⟨mkU op 0 x,⟨s2.a,IntKind.i64.wrap (s2.o-1),s2.e⟩,q1.bind (q2.bind (postDec (fun h=>by obtain⟨h0,e⟩:=Ag q2 h;rw[e];exact(b1 h0).2) p2)),?_⟩
 obtain⟨a,o,e⟩:=s
 obtain⟨a1,o1,e1⟩:=s1
 obtain⟨a2,o2,e2⟩:=s2
 clear q1 q2 p1 p2 hp b1
 simp only[rbx]at d1 d2 ⊢
 refine DC.enter 24 Tryz.func184 rfl (by decide) rfl rfl (s:=[(0,.pt 0 0),(1,.im (.string ⟨(t).toArray⟩)),(2,(.im (.int .i64 (op))))]) (by rfl) ?_
 refine wG rC TI ?_
 refine aA [0] d1 TI (A4 aB aC @aE @aD) (A4 aH aI @aK @aL) ?_
 refine goG rC TI ?_
 refine wG rC TI ?_
 refine aA [0] d2 TI (A4 aB aC @aE @aD) (A4 aH aI @aK @aL) ?_
 refine goG rC BN01 ?_
 refine wG rC BN01 ?_
 refine aO (rs:=[.cell 6 46]) rfl (by first|exact .inl rfl|exact .inr rfl) (finG rC) ?_ rfl (idG (A4 aB aC @aE @aD))
 rw[mkU,jH,List.map_cons,List.map_nil,cA x]
 all_goals exact wkG (A4 aB aC @aE @aD)
def bG:=A11 @kE @cQ @eO @fG @fM @gX @jB @oB @kC @cN @dG
theorem Ib(ts:List Tk)(a:Nat)(o e:Int)(he:e≠0):DC Tryz.prog 123 [.pt 0 0] [.box [.sl (ts.map tkV) .ro,(.im (.int .i64 ((a:Nat)))),(.im (.int .i64 (o))),(.im (.int .i64 (e)))]] (exV ex0) [.box [.sl (ts.map tkV) .ro,(.im (.int .i64 ((a:Nat)))),(.im (.int .i64 (o))),(.im (.int .i64 (e)))]]:=by
 refine DC.enter 63 Tryz.func123 rfl (by decide) rfl rfl (s:=[(0,.pt 0 0)]) (by rfl) ?_
 refine wG bG he ?_
 refine aO (rs:=[.cell 2 46]) rfl (by first|exact .inl rfl|exact .inr rfl) (finG bG) ?_ rfl (idG (A4 aB aC @aE @aD))
 rw[ex0,jH,List.map_nil]
 all_goals exact wkG (A4 aB aC @aE @aD)
theorem Ht{ts:List Tk}{f a o:Nat}(h1:(pk ts a).kind≠1)(h3:(pk ts a).kind≠3)(h2:(pk ts a).kind=2→accW (pk ts a).text=none)(h5:(pk ts a).kind=5→(pk ts a).text≠[40]∧(pk ts a).text≠[33]∧(pk ts a).text≠[45]):exM ts (f+1) .op a o=some (.bad a 3):=by
 rw[exM,if_neg h3,if_neg h1]
 by_cases k2:(pk ts a).kind=2
 ·rw[if_pos k2,h2 k2]
 rw[if_neg k2]
 by_cases k5:(pk ts a).kind=5
 ·rw[if_pos k5,if_neg (h5 k5).1,if_neg (fun h=>h.elim (h5 k5).2.1 (h5 k5).2.2)]
 ·rw[if_neg k5]
theorem postShift{α:Type}{m m':Nat→Nat→Option (Rs α)}{a b o:Nat}{x:α}{s':Sr}(h: ∀o,m' b o=m a o)(q:Post m' ⟨b,o,0⟩ x s'):Post m ⟨a,o,0⟩ x s':=by
 refine⟨fun h=>absurd rfl h,fun he=> ?_⟩
 obtain⟨p,hp,q⟩:=q.2 rfl
 have q:(∃a p_1:Nat,m' b p=some (.ok x a p_1)∧s'=⟨a,p_1,0⟩)∨ ∃b_1 e,m' b p=some (.bad b_1 e)∧s'.a=b_1∧s'.e=e∧e≠0:=q
 rw[h]at q
 exact⟨p,hp,q⟩
theorem lastop{ts:List Tk}{a o:Nat}(i1:DC Tryz.prog 112 [.pt 0 0,.im (.string ⟨([33]).toArray⟩)] [.box [.sl (ts.map tkV) .ro,(.im (.int .i64 ((a:Nat)))),(.im (.int .i64 ((o:Nat)))),(.im (.int .i64 (0)))]] (.im (.bool (false))) [.box [.sl (ts.map tkV) .ro,(.im (.int .i64 ((a:Nat)))),(.im (.int .i64 ((o:Nat)))),(.im (.int .i64 (0)))]])(i2:DC Tryz.prog 112 [.pt 0 0,.im (.string ⟨([45]).toArray⟩)] [.box [.sl (ts.map tkV) .ro,(.im (.int .i64 ((a:Nat)))),(.im (.int .i64 ((o:Nat)))),(.im (.int .i64 (0)))]] (.im (.bool (false))) [.box [.sl (ts.map tkV) .ro,(.im (.int .i64 ((a:Nat)))),(.im (.int .i64 ((o:Nat)))),(.im (.int .i64 (0)))]])(i3:DC Tryz.prog 112 [.pt 0 0,.im (.string ⟨([40]).toArray⟩)] [.box [.sl (ts.map tkV) .ro,(.im (.int .i64 ((a:Nat)))),(.im (.int .i64 ((o:Nat)))),(.im (.int .i64 (0)))]] (.im (.bool (false))) [.box [.sl (ts.map tkV) .ro,(.im (.int .i64 ((a:Nat)))),(.im (.int .i64 ((o:Nat)))),(.im (.int .i64 (0)))]])(ik:DC Tryz.prog 176 [.pt 0 0,(.im (.int .i64 (3)))] [.box [.sl (ts.map tkV) .ro,(.im (.int .i64 ((a:Nat)))),(.im (.int .i64 ((o:Nat)))),(.im (.int .i64 (0)))]] (.im (.bool (false))) [.box [.sl (ts.map tkV) .ro,(.im (.int .i64 ((a:Nat)))),(.im (.int .i64 ((o:Nat)))),(.im (.int .i64 (0)))]])(il:DC Tryz.prog 186 [.pt 0 0,.im (.string ⟨(ldW).toArray⟩)] [.box [.sl (ts.map tkV) .ro,(.im (.int .i64 ((a:Nat)))),(.im (.int .i64 ((o:Nat)))),(.im (.int .i64 (0)))]] (.im (.int .i64 (0))) [.box [.sl (ts.map tkV) .ro,(.im (.int .i64 ((a:Nat)))),(.im (.int .i64 ((o:Nat)))),(.im (.int .i64 (0)))]])(ix:DC Tryz.prog 186 [.pt 0 0,.im (.string ⟨(sxW).toArray⟩)] [.box [.sl (ts.map tkV) .ro,(.im (.int .i64 ((a:Nat)))),(.im (.int .i64 ((o:Nat)))),(.im (.int .i64 (0)))]] (.im (.int .i64 (0))) [.box [.sl (ts.map tkV) .ro,(.im (.int .i64 ((a:Nat)))),(.im (.int .i64 ((o:Nat)))),(.im (.int .i64 (0)))]]){n:ByteArray}{a1:Nat}{o1 e1:Int}(d:DC Tryz.prog 127 [.pt 0 0] [.box [.sl (ts.map tkV) .ro,(.im (.int .i64 ((a:Nat)))),(.im (.int .i64 ((o:Nat)))),(.im (.int .i64 (0)))]] (.im (.string n)) [.box [.sl (ts.map tkV) .ro,(.im (.int .i64 ((a1:Nat)))),(.im (.int .i64 (o1))),(.im (.int .i64 (e1)))]]):DC Tryz.prog 123 [.pt 0 0] [.box [.sl (ts.map tkV) .ro,(.im (.int .i64 ((a:Nat)))),(.im (.int .i64 ((o:Nat)))),(.im (.int .i64 (0)))]] (exV (.mk 2 0 n 0 [])) [.box [.sl (ts.map tkV) .ro,(.im (.int .i64 ((a1:Nat)))),(.im (.int .i64 (o1))),(.im (.int .i64 (e1)))]]:=by
 unfold ldW at il
 unfold sxW at ix
 refine DC.enter 63 Tryz.func123 rfl (by decide) rfl rfl (s:=[(0,.pt 0 0)]) (by rfl) ?_
 refine wG bG TI ?_
 refine aA [0] i1 TI (A4 aB aC @aE @aD) (A4 aH aI @aK @aL) ?_
 refine goG bG TI ?_
 refine wG bG TI ?_
 refine aA [0] i2 TI (A4 aB aC @aE @aD) (A4 aH aI @aK @aL) ?_
 refine goG bG TI ?_
 refine wG bG TI ?_
 refine aA [0] i3 TI (A4 aB aC @aE @aD) (A4 aH aI @aK @aL) ?_
 refine goG bG TI ?_
 refine wG bG TI ?_
 refine aA [0] ik TI (A4 aB aC @aE @aD) (A4 aH aI @aK @aL) ?_
 refine goG bG TI ?_
 refine wG bG TI ?_
 refine aA [0] il TI (A4 aB aC @aE @aD) (A4 aH aI @aK @aL) ?_
 refine goG bG TI ?_
 refine aA [0] ix TI (A4 aB aC @aE @aD) (A4 aH aI @aK @aL) ?_
 refine goG bG TI ?_
 refine wG bG TI ?_
 refine aA [0] d TI (A4 aB aC @aE @aD) (A4 aH aI @aK @aL) ?_
 refine goG bG TI ?_
 refine wG bG TI ?_
 refine aO (rs:=[.cell 2 46]) rfl (by first|exact .inl rfl|exact .inr rfl) (finG bG) ?_ rfl (idG (A4 aB aC @aE @aD))
 rw[jH,List.map_nil]
 all_goals exact wkG (A4 aB aC @aE @aD)
theorem noop{ts:List Tk}{f a o:Nat}(hts:ts.length≤4194304)(i1:DC Tryz.prog 112 [.pt 0 0,.im (.string ⟨([33]).toArray⟩)] [.box [.sl (ts.map tkV) .ro,(.im (.int .i64 ((a:Nat)))),(.im (.int .i64 ((o:Nat)))),(.im (.int .i64 (0)))]] (.im (.bool (false))) [.box [.sl (ts.map tkV) .ro,(.im (.int .i64 ((a:Nat)))),(.im (.int .i64 ((o:Nat)))),(.im (.int .i64 (0)))]])(i2:DC Tryz.prog 112 [.pt 0 0,.im (.string ⟨([45]).toArray⟩)] [.box [.sl (ts.map tkV) .ro,(.im (.int .i64 ((a:Nat)))),(.im (.int .i64 ((o:Nat)))),(.im (.int .i64 (0)))]] (.im (.bool (false))) [.box [.sl (ts.map tkV) .ro,(.im (.int .i64 ((a:Nat)))),(.im (.int .i64 ((o:Nat)))),(.im (.int .i64 (0)))]])(i3:DC Tryz.prog 112 [.pt 0 0,.im (.string ⟨([40]).toArray⟩)] [.box [.sl (ts.map tkV) .ro,(.im (.int .i64 ((a:Nat)))),(.im (.int .i64 ((o:Nat)))),(.im (.int .i64 (0)))]] (.im (.bool (false))) [.box [.sl (ts.map tkV) .ro,(.im (.int .i64 ((a:Nat)))),(.im (.int .i64 ((o:Nat)))),(.im (.int .i64 (0)))]])(ik:DC Tryz.prog 176 [.pt 0 0,(.im (.int .i64 (3)))] [.box [.sl (ts.map tkV) .ro,(.im (.int .i64 ((a:Nat)))),(.im (.int .i64 ((o:Nat)))),(.im (.int .i64 (0)))]] (.im (.bool (false))) [.box [.sl (ts.map tkV) .ro,(.im (.int .i64 ((a:Nat)))),(.im (.int .i64 ((o:Nat)))),(.im (.int .i64 (0)))]])(il:DC Tryz.prog 186 [.pt 0 0,.im (.string ⟨(ldW).toArray⟩)] [.box [.sl (ts.map tkV) .ro,(.im (.int .i64 ((a:Nat)))),(.im (.int .i64 ((o:Nat)))),(.im (.int .i64 (0)))]] (.im (.int .i64 (0))) [.box [.sl (ts.map tkV) .ro,(.im (.int .i64 ((a:Nat)))),(.im (.int .i64 ((o:Nat)))),(.im (.int .i64 (0)))]])(ix:DC Tryz.prog 186 [.pt 0 0,.im (.string ⟨(sxW).toArray⟩)] [.box [.sl (ts.map tkV) .ro,(.im (.int .i64 ((a:Nat)))),(.im (.int .i64 ((o:Nat)))),(.im (.int .i64 (0)))]] (.im (.int .i64 (0))) [.box [.sl (ts.map tkV) .ro,(.im (.int .i64 ((a:Nat)))),(.im (.int .i64 ((o:Nat)))),(.im (.int .i64 (0)))]])(hM:exM ts (f+1) .op a o=some (.bad a 3))(k1:(pk ts a).kind≠1): ∃x s',Post (exM ts (f+1) .op) ⟨a,o,0⟩ x s'∧DC Tryz.prog 123 [.pt 0 0] [rbx ts ⟨a,o,0⟩] (exV x) [rbx ts s']:=by
 obtain⟨n,s',q,_,d⟩:=rU ts hts ⟨a,o,0⟩ (fun _=>⟨o,rfl,Sm.nm ts a o⟩)
 obtain⟨o2,ho2,q2⟩:=q.2 rfl
 cases ho2
 have hN:nmM ts a o=some (.bad a 3):=by unfold nmM takM;rw[if_pos k1];rfl
 obtain⟨a1,o1,e1⟩:=s'
 rcases q2 with ⟨b,p,z1,_⟩|⟨b,e,z1,z2,z3,z4⟩
 ·rw[hN]at z1;cases z1
 rw[hN]at z1
 cases z1
 cases z2
 cases z3
 exact⟨.mk 2 0 n 0 [],⟨_,o1,_⟩,Post.of_bad hM (by decide),lastop i1 i2 i3 ik il ix d⟩
theorem nmop{ts:List Tk}{f a o:Nat}(hts:ts.length≤4194304)(i1:DC Tryz.prog 112 [.pt 0 0,.im (.string ⟨([33]).toArray⟩)] [.box [.sl (ts.map tkV) .ro,(.im (.int .i64 ((a:Nat)))),(.im (.int .i64 ((o:Nat)))),(.im (.int .i64 (0)))]] (.im (.bool (false))) [.box [.sl (ts.map tkV) .ro,(.im (.int .i64 ((a:Nat)))),(.im (.int .i64 ((o:Nat)))),(.im (.int .i64 (0)))]])(i2:DC Tryz.prog 112 [.pt 0 0,.im (.string ⟨([45]).toArray⟩)] [.box [.sl (ts.map tkV) .ro,(.im (.int .i64 ((a:Nat)))),(.im (.int .i64 ((o:Nat)))),(.im (.int .i64 (0)))]] (.im (.bool (false))) [.box [.sl (ts.map tkV) .ro,(.im (.int .i64 ((a:Nat)))),(.im (.int .i64 ((o:Nat)))),(.im (.int .i64 (0)))]])(i3:DC Tryz.prog 112 [.pt 0 0,.im (.string ⟨([40]).toArray⟩)] [.box [.sl (ts.map tkV) .ro,(.im (.int .i64 ((a:Nat)))),(.im (.int .i64 ((o:Nat)))),(.im (.int .i64 (0)))]] (.im (.bool (false))) [.box [.sl (ts.map tkV) .ro,(.im (.int .i64 ((a:Nat)))),(.im (.int .i64 ((o:Nat)))),(.im (.int .i64 (0)))]])(ik:DC Tryz.prog 176 [.pt 0 0,(.im (.int .i64 (3)))] [.box [.sl (ts.map tkV) .ro,(.im (.int .i64 ((a:Nat)))),(.im (.int .i64 ((o:Nat)))),(.im (.int .i64 (0)))]] (.im (.bool (false))) [.box [.sl (ts.map tkV) .ro,(.im (.int .i64 ((a:Nat)))),(.im (.int .i64 ((o:Nat)))),(.im (.int .i64 (0)))]])(il:DC Tryz.prog 186 [.pt 0 0,.im (.string ⟨(ldW).toArray⟩)] [.box [.sl (ts.map tkV) .ro,(.im (.int .i64 ((a:Nat)))),(.im (.int .i64 ((o:Nat)))),(.im (.int .i64 (0)))]] (.im (.int .i64 (0))) [.box [.sl (ts.map tkV) .ro,(.im (.int .i64 ((a:Nat)))),(.im (.int .i64 ((o:Nat)))),(.im (.int .i64 (0)))]])(ix:DC Tryz.prog 186 [.pt 0 0,.im (.string ⟨(sxW).toArray⟩)] [.box [.sl (ts.map tkV) .ro,(.im (.int .i64 ((a:Nat)))),(.im (.int .i64 ((o:Nat)))),(.im (.int .i64 (0)))]] (.im (.int .i64 (0))) [.box [.sl (ts.map tkV) .ro,(.im (.int .i64 ((a:Nat)))),(.im (.int .i64 ((o:Nat)))),(.im (.int .i64 (0)))]])(k1:(pk ts a).kind=1)(k3:(pk ts a).kind≠3): ∃x s',Post (exM ts (f+1) .op) ⟨a,o,0⟩ x s'∧DC Tryz.prog 123 [.pt 0 0] [rbx ts ⟨a,o,0⟩] (exV x) [rbx ts s']:=by
 obtain⟨n,s',q,_,d⟩:=rU ts hts ⟨a,o,0⟩ (fun _=>⟨o,rfl,Sm.nm ts a o⟩)
 obtain⟨o2,ho2,q2⟩:=q.2 rfl
 cases ho2
 have hN:nmM ts a o=some (.ok (strA (pk ts a).text) (a+1) o):=by unfold nmM takM;rw[if_neg (by simpa using k1)];rfl
 rcases q2 with ⟨b,p,z1,rfl⟩|⟨b,e,z1,_⟩
 case inr=>rw[hN]at z1;cases z1
 rw[hN]at z1
 cases z1
 exact⟨.mk 2 0 (strA (pk ts a).text) 0 [],⟨a+1,o,0⟩,Post.of_ok (by rw[exM,if_neg k3,if_pos k1];rfl),lastop i1 i2 i3 ik il ix d⟩
set_option maxHeartbeats 4000000 in
theorem Ph{ts:List Tk}{f:Nat}(hts:ts.length≤4194304)(hok: ∀t∈ts,TkOk t)(hW: ∀t∈ts,TkW t)(hO:OpR ts f)(hE:ExR ts f):OpR ts (f+1):=by
 intro s hp
 by_cases hs:s.e=0
 case neg =>
  obtain⟨a,o,e⟩:=s;exact⟨ex0,⟨a,o,e⟩,Post.of_err hs rfl rfl,Ib ts a o e hs⟩
 obtain⟨a,o',e⟩:=s
 cases hs
 obtain⟨o,ho,r,hr⟩:=hp rfl
 cases ho
 have hw:=LA hW a
 have i1:=oR ts a o 0 [33]
 have i2:=oR ts a o 0 [45]
 have i3:=oR ts a o 0 [40]
 have ik:=jM ts a o 0 3 (by decide)
 have il:=kX ts a o 0 ldW (by decide)
 have ix:=kX ts a o 0 sxW (by decide)
 rw[show decide ((0:Int)=0)=true from rfl,Bool.true_and]at ik
 rw[gI]at i1 i2 i3
 have hno: ∀x:Bs,(pk ts a).kind≠5→x.head?.elim true isL=false→sees ts a x=false:=fun x h5 hx=>by
  unfold sees;rw[beq_eq_false_iff_ne.2 h5,Bool.or_false]
  by_cases h2:(pk ts a).kind=2
  ·have:=(Cc _ (rP.1 (hw.1 h2))).1
   cases b:(pk ts a).text==x with
   | false=>rw[Bool.and_false]
   | true =>
    rw[eq_of_beq b]at this;cases x with
    | nil=>cases this
    | cons c x=>exact absurd (this.symm.trans hx) (by decide)
  ·rw[beq_eq_false_iff_ne.2 h2,Bool.false_and]
 by_cases k5:(pk ts a).kind=5
 ·have k3:(pk ts a).kind≠3:=by omega
  have k1:(pk ts a).kind≠1:=by omega
  have k2:(pk ts a).kind≠2:=by omega
  rw[Oi (.inr k5)]at i1 i2 i3;rw[decide_eq_false k3]at ik;rw[Qd hw k2 (by decide)]at il ix
  by_cases h33:(pk ts a).text=[33]
  ·have hM: ∀o,exM ts (f+1) .op a o=rb (begM ts [33] a o) fun _ a o=>rb (exM ts f .op a o) fun x b p=>ret (mkU 16 0 x) b (p-1):=fun o=>by
    rw[exM,if_neg k3,if_neg k1,if_neg k2,if_pos k5,if_neg (by rw[h33];decide),if_pos (by rw[h33];decide),h33]
    rfl
   obtain⟨x,s',q,d⟩:=Rg hO hts [33] 16 ⟨a,o,0⟩ (Pre.congr (fun _=>funext hM) hp)
   refine⟨x,s',Post.congr (fun _=>funext hM) q,?_⟩
   obtain⟨a1,o1,e1⟩:=s';clear q hM hr hp;rw[h33]at i1 i2 i3;simp only[rbx]at d ⊢;refine DC.enter 63 Tryz.func123 rfl (by decide) rfl rfl (s:=[(0,.pt 0 0)]) (by rfl) ?_
   refine wG bG TI ?_;refine aA [0] i1 TI (A4 aB aC @aE @aD) (A4 aH aI @aK @aL) ?_;refine goG bG TI ?_;refine wG bG TI ?_;refine aA [0] d TI (A4 aB aC @aE @aD) (A4 aH aI @aK @aL) ?_;refine goG bG BN01 ?_;refine wG bG BN01 ?_;refine aO (rs:=[.cell 2 46]) rfl (by first|exact .inl rfl|exact .inr rfl) (finG bG) ?_ rfl (idG (A4 aB aC @aE @aD))
   rw[cA x]
   all_goals exact wkG (A4 aB aC @aE @aD)
  by_cases h45:(pk ts a).text=[45]
  ·have hM: ∀o,exM ts (f+1) .op a o=rb (begM ts [45] a o) fun _ a o=>rb (exM ts f .op a o) fun x b p=>ret (mkU 17 0 x) b (p-1):=fun o=>by
    rw[exM,if_neg k3,if_neg k1,if_neg k2,if_pos k5,if_neg (by rw[h45];decide),if_pos (by rw[h45];decide),h45]
    rfl
   obtain⟨x,s',q,d⟩:=Rg hO hts [45] 17 ⟨a,o,0⟩ (Pre.congr (fun _=>funext hM) hp)
   refine⟨x,s',Post.congr (fun _=>funext hM) q,?_⟩
   obtain⟨a1,o1,e1⟩:=s';clear q hM hr hp;rw[h45]at i1 i2 i3;simp only[rbx]at d ⊢;refine DC.enter 63 Tryz.func123 rfl (by decide) rfl rfl (s:=[(0,.pt 0 0)]) (by rfl) ?_
   refine wG bG TI ?_;refine aA [0] i1 TI (A4 aB aC @aE @aD) (A4 aH aI @aK @aL) ?_;refine goG bG TI ?_;refine wG bG TI ?_;refine aA [0] i2 TI (A4 aB aC @aE @aD) (A4 aH aI @aK @aL) ?_;refine goG bG TI ?_;refine wG bG TI ?_;refine aA [0] d TI (A4 aB aC @aE @aD) (A4 aH aI @aK @aL) ?_;refine goG bG BN01 ?_;refine wG bG BN01 ?_;refine aO (rs:=[.cell 2 46]) rfl (by first|exact .inl rfl|exact .inr rfl) (finG bG) ?_ rfl (idG (A4 aB aC @aE @aD))
   rw[cA x]
   all_goals exact wkG (A4 aB aC @aE @aD)
  by_cases h40:(pk ts a).text=[40]
  ·have hM: ∀o,exM ts (f+1) .op a o=inn ts (exM ts f (.ex 1)) id a o:=fun o=>by rw[exM,if_neg k3,if_neg k1,if_neg k2,if_pos k5,if_pos h40]
   obtain⟨x,s',q,d⟩:=yQ hE hts ⟨a,o,0⟩ (Pre.congr (fun _=>funext hM) hp)
   refine⟨x,s',Post.congr (fun _=>funext hM) q,?_⟩
   obtain⟨a1,o1,e1⟩:=s';clear q hM hr hp;rw[h40]at i1 i2 i3;simp only[rbx]at d ⊢;refine DC.enter 63 Tryz.func123 rfl (by decide) rfl rfl (s:=[(0,.pt 0 0)]) (by rfl) ?_
   refine wG bG TI ?_;refine aA [0] i1 TI (A4 aB aC @aE @aD) (A4 aH aI @aK @aL) ?_;refine goG bG TI ?_;refine wG bG TI ?_;refine aA [0] i2 TI (A4 aB aC @aE @aD) (A4 aH aI @aK @aL) ?_;refine goG bG TI ?_;refine wG bG TI ?_;refine aA [0] i3 TI (A4 aB aC @aE @aD) (A4 aH aI @aK @aL) ?_;refine goG bG TI ?_;refine wG bG TI ?_;refine aA [0] d TI (A4 aB aC @aE @aD) (A4 aH aI @aK @aL) ?_;refine goG bG BN01 ?_;refine wG bG BN01 ?_;refine aO (rs:=[.cell 2 46]) rfl (by first|exact .inl rfl|exact .inr rfl) (finG bG) ?_ rfl (idG (A4 aB aC @aE @aD))
   rw[cA x]
   all_goals exact wkG (A4 aB aC @aE @aD)
  rw[beq_eq_false_iff_ne.2 h33]at i1;rw[beq_eq_false_iff_ne.2 h45]at i2;rw[beq_eq_false_iff_ne.2 h40]at i3;exact noop hts i1 i2 i3 ik il ix (Ht k1 k3 (fun h=>absurd h k2) fun _=>⟨h40,h33,h45⟩) k1
 rw[hno [33] k5 (by decide)]at i1
 rw[hno [45] k5 (by decide)]at i2
 rw[hno [40] k5 (by decide)]at i3
 by_cases k3:(pk ts a).kind=3
 ·obtain⟨n,s',q,_,_,d⟩:=yP ts hts hok ⟨a,o,0⟩ (fun _=>⟨o,rfl,Sm.tak ts 3 a o⟩)
  obtain⟨o2,ho2,q2⟩:=q.2 rfl;cases ho2
  have hT:takM ts 3 a o=some (.ok (pk ts a) (a+1) o):=by unfold takM;rw[if_neg (by simpa using k3)]
  rcases q2 with ⟨b,p,z1,rfl⟩|⟨b,e,z1,_⟩
  case inr=>rw[hT]at z1;cases z1
  rw[hT]at z1;injection z1 with z1
  injection z1 with z2 z3 z4
  cases z2;cases z3;cases z4
  refine⟨.mk 1 (pk ts a).n ByteArray.empty 0 [],_,Post.of_ok (by rw[exM,if_pos k3];rfl),?_⟩
  rw[decide_eq_true k3]at ik;clear q hr hp;simp only[rbx]at d ⊢;generalize pk ts a=t at d;refine DC.enter 63 Tryz.func123 rfl (by decide) rfl rfl (s:=[(0,.pt 0 0)]) (by rfl) ?_
  refine wG bG TI ?_;refine aA [0] i1 TI (A4 aB aC @aE @aD) (A4 aH aI @aK @aL) ?_;refine goG bG TI ?_;refine wG bG TI ?_;refine aA [0] i2 TI (A4 aB aC @aE @aD) (A4 aH aI @aK @aL) ?_;refine goG bG TI ?_;refine wG bG TI ?_;refine aA [0] i3 TI (A4 aB aC @aE @aD) (A4 aH aI @aK @aL) ?_;refine goG bG TI ?_;refine wG bG TI ?_;refine aA [0] ik TI (A4 aB aC @aE @aD) (A4 aH aI @aK @aL) ?_;refine goG bG TI ?_;refine wG bG TI ?_;refine aA [0] d TI (A4 aB aC @aE @aD) (A4 aH aI @aK @aL) ?_;refine goG bG TI ?_;refine wG bG TI ?_;refine aO (rs:=[.cell 2 46]) rfl (by first|exact .inl rfl|exact .inr rfl) (finG bG) ?_ rfl (idG (A4 aB aC @aE @aD))
  rw[jH,List.map_nil]
  all_goals exact wkG (A4 aB aC @aE @aD)
 rw[decide_eq_false k3]at ik
 by_cases k2:(pk ts a).kind=2
 case neg =>
  rw[Qd hw k2 (by decide)]at il ix
  by_cases k1:(pk ts a).kind=1
  ·exact nmop hts i1 i2 i3 ik il ix k1 k3
  ·exact noop hts i1 i2 i3 ik il ix (Ht k1 k3 (fun h=>absurd h k2) fun h=>absurd h k5) k1
 have k1:(pk ts a).kind≠1:=by omega
 have hlt:a<ts.length:=dQ k2 (by decide)
 have hwa:=bD (m:=a) (N:=4194304) (by omega) (by decide)
 rcases Vj hw k2 with ⟨z,l0,x0⟩|⟨w,z,l0,w0⟩|⟨w,z,l0,x0,w0⟩
 ·rw[l0]at il
  rw[x0]at ix;exact noop hts i1 i2 i3 ik il ix (Ht k1 k3 (fun _=>z) fun h=>absurd h k5) k1
 ·have hM: ∀o,exM ts (f+1) .op a o=rb (inn ts (exM ts f (.ex 1)) id (a+1) o) fun x a o=>ret (mkU 18 w x) a o:=fun o=>by
   rw[exM,if_neg k3,if_neg k1,if_pos k2,z,←GK]
  have hp2:Pre (fun a o=>rb (inn ts (exM ts f (.ex 1)) id a o) fun x a o=>ret (mkU 18 w x) a o) ⟨a+1,o,0⟩:=fun _=>⟨o,rfl,r,by rw[←hr,hM]⟩
  obtain⟨x,s',q,d⟩:=yQ hE hts ⟨a+1,o,0⟩ hp2.fst;have qq:=q.bind (k:=fun x a o=>ret (mkU 18 w x) a o) (Post.ret (x:=mkU 18 w x) (hp2.snd q))
  refine⟨mkU 18 w x,s',postShift (fun o=>(hM o).symm) qq,?_⟩
  obtain⟨a1,o1,e1⟩:=s';rw[l0]at il;clear q qq hM hr hp hp2 l0;simp only[rbx]at d ⊢;unfold ldW at il;unfold sxW at ix;refine DC.enter 63 Tryz.func123 rfl (by decide) rfl rfl (s:=[(0,.pt 0 0)]) (by rfl) ?_
  refine wG bG TI ?_;refine aA [0] i1 TI (A4 aB aC @aE @aD) (A4 aH aI @aK @aL) ?_;refine goG bG TI ?_;refine wG bG TI ?_;refine aA [0] i2 TI (A4 aB aC @aE @aD) (A4 aH aI @aK @aL) ?_;refine goG bG TI ?_;refine wG bG TI ?_;refine aA [0] i3 TI (A4 aB aC @aE @aD) (A4 aH aI @aK @aL) ?_;refine goG bG TI ?_;refine wG bG TI ?_;refine aA [0] ik TI (A4 aB aC @aE @aD) (A4 aH aI @aK @aL) ?_;refine goG bG TI ?_;refine wG bG TI ?_;refine aA [0] il TI (A4 aB aC @aE @aD) (A4 aH aI @aK @aL) ?_;refine goG bG TI ?_;refine aA [0] ix TI (A4 aB aC @aE @aD) (A4 aH aI @aK @aL) ?_;refine goG bG w0 ?_;refine wG bG (AI w0 hwa) ?_;refine aA [0] d TI (A4 aB aC @aE @aD) (A4 aH aI @aK @aL) ?_;refine goG bG BN01 ?_;refine wG bG BN01 ?_;refine aO (rs:=[.cell 2 46]) rfl (by first|exact .inl rfl|exact .inr rfl) (finG bG) ?_ rfl (idG (A4 aB aC @aE @aD))
  rw[mkU,jH,List.map_cons,List.map_nil,cA x]
  all_goals exact wkG (A4 aB aC @aE @aD)
 ·have hM: ∀o,exM ts (f+1) .op a o=rb (inn ts (exM ts f (.ex 1)) id (a+1) o) fun x a o=>ret (mkU 19 w x) a o:=fun o=>by
   rw[exM,if_neg k3,if_neg k1,if_pos k2,z,←GK]
  have hp2:Pre (fun a o=>rb (inn ts (exM ts f (.ex 1)) id a o) fun x a o=>ret (mkU 19 w x) a o) ⟨a+1,o,0⟩:=fun _=>⟨o,rfl,r,by rw[←hr,hM]⟩
  obtain⟨x,s',q,d⟩:=yQ hE hts ⟨a+1,o,0⟩ hp2.fst;have qq:=q.bind (k:=fun x a o=>ret (mkU 19 w x) a o) (Post.ret (x:=mkU 19 w x) (hp2.snd q))
  refine⟨mkU 19 w x,s',postShift (fun o=>(hM o).symm) qq,?_⟩
  obtain⟨a1,o1,e1⟩:=s';rw[l0]at il;rw[x0]at ix;clear q qq hM hr hp hp2 l0 x0;simp only[rbx]at d ⊢;unfold ldW at il;unfold sxW at ix;refine DC.enter 63 Tryz.func123 rfl (by decide) rfl rfl (s:=[(0,.pt 0 0)]) (by rfl) ?_
  refine wG bG TI ?_;refine aA [0] i1 TI (A4 aB aC @aE @aD) (A4 aH aI @aK @aL) ?_;refine goG bG TI ?_;refine wG bG TI ?_;refine aA [0] i2 TI (A4 aB aC @aE @aD) (A4 aH aI @aK @aL) ?_;refine goG bG TI ?_;refine wG bG TI ?_;refine aA [0] i3 TI (A4 aB aC @aE @aD) (A4 aH aI @aK @aL) ?_;refine goG bG TI ?_;refine wG bG TI ?_;refine aA [0] ik TI (A4 aB aC @aE @aD) (A4 aH aI @aK @aL) ?_;refine goG bG TI ?_;refine wG bG TI ?_;refine aA [0] il TI (A4 aB aC @aE @aD) (A4 aH aI @aK @aL) ?_;refine goG bG TI ?_;refine aA [0] ix TI (A4 aB aC @aE @aD) (A4 aH aI @aK @aL) ?_;refine goG bG w0 ?_;refine wG bG (AI w0 hwa) ?_;refine aA [0] d TI (A4 aB aC @aE @aD) (A4 aH aI @aK @aL) ?_;refine goG bG BN01 ?_;refine wG bG BN01 ?_;refine aO (rs:=[.cell 2 46]) rfl (by first|exact .inl rfl|exact .inr rfl) (finG bG) ?_ rfl (idG (A4 aB aC @aE @aD))
  rw[mkU,jH,List.map_cons,List.map_nil,cA x]
  all_goals exact wkG (A4 aB aC @aE @aD)
inductive LpE (ts:List Tk) (l:Nat):Ex→Sr→Ex→Sr→Prop where
 | stop {x:Ex} {s:Sr} (h:(stRR ts s.a s.e).1=0∨(stRR ts s.a s.e).2<l):LpE ts l x s x s
 | step {x y z:Ex} {a a1:Nat} {o o1 e1:Int} {s':Sr} (h0:(stRR ts a 0).1≠0) (h1: ¬(stRR ts a 0).2<l) (hlt:a<ts.length) (h8:(stRR ts a 0).2≤8)
   (d:DC Tryz.prog 61 [.pt 0 0,(.im (.int .i64 ((((stRR ts a 0).2+1:Nat)))))] [rbx ts ⟨a+1,o,0⟩] (exV y) [rbx ts ⟨a1,o1,e1⟩])
   (r:LpE ts l (.mk (stRR ts a 0).1 0 ByteArray.empty 0 [x,y]) ⟨a1,o1,e1⟩ z s'):LpE ts l x ⟨a,o,0⟩ z s'
theorem LE(s:Bs):(opR s).1=0↔(opR s).2=0:=by
 by_cases h:s∈opL
 ·revert s
  decide
 ·rw[Oo s h];simp
theorem GH(t:Tk):(stR t).1=0↔(stR t).2=0:=by
 unfold stR
 split
 ·exact LE _
 ·simp
theorem LD(s:Bs):(opR s).2≤8:=by
 by_cases h:s∈opL
 ·revert s
  decide
 ·rw[Oo s h];decide
theorem KW(t:Tk):(stR t).2≤8:=by
 unfold stR
 split
 ·exact LD _
 ·decide
theorem LG{ts:List Tk}{l:Nat}: ∀(f:Nat),(∀g,g<f→ExR ts g)→ ∀(x:Ex) (s:Sr),Pre (exM ts f (.lo l x)) s→ ∃z s',Post (exM ts f (.lo l x)) s z s'∧LpE ts l x s z s':=by
 intro f
 induction f with
 | zero =>
  intro hE x s hp
  by_cases he:s.e=0
  ·obtain⟨o,_,r,hr⟩:=hp he
   cases hr
  ·exact⟨x,s,Post.of_err he rfl rfl,.stop (.inl (by unfold stRR;rw[if_neg he]))⟩
 | succ f ih =>
  intro hE x s hp
  by_cases he:s.e=0
  case neg=>exact⟨x,s,Post.of_err he rfl rfl,.stop (.inl (by unfold stRR;rw[if_neg he]))⟩
  obtain⟨a,o',e⟩:=s;cases he
  have hs:stRR ts a 0=stR (pk ts a):=by unfold stRR;rw[if_pos rfl]
  by_cases hz:(stR (pk ts a)).2=0∨(stR (pk ts a)).2<l
  ·obtain⟨o,ho,_⟩:=hp rfl
   have ho:o'=(o:Int):=ho;subst ho;refine⟨x,⟨a,o,0⟩,Post.of_ok (by rw[exM,if_pos hz];rfl),.stop ?_⟩
   show(stRR ts a 0).1=0∨(stRR ts a 0).2<l
   rw[hs];exact hz.imp (GH _).2 id
  have hM: ∀o,exM ts (f+1) (.lo l x) a o=rb (exM ts f (.ex ((stR (pk ts a)).2+1)) (a+1) o) fun y b p=>exM ts f (.lo l (.mk (stR (pk ts a)).1 0 ByteArray.empty 0 [x,y])) b p:=fun o=>by rw[exM,if_neg hz]
  have hlt:=Oe (ts:=ts) (a:=a) fun h=>hz (.inl h)
  have h8:=KW (pk ts a);obtain⟨o,ho,r,hr⟩:=hp rfl;have ho:o'=(o:Int):=ho;subst ho;have hp2:Pre (fun a' o=>rb (exM ts f (.ex ((stR (pk ts a)).2+1)) a' o) fun y b p=>exM ts f (.lo l (.mk (stR (pk ts a)).1 0 ByteArray.empty 0 [x,y])) b p) ⟨a+1,o,0⟩:=fun _=>⟨o,rfl,r,by rw[←hr,hM]⟩
  obtain⟨y,⟨a1,o1,e1⟩,q,d⟩:=hE f (Nat.lt_succ_self f) ((stR (pk ts a)).2+1) (by omega) ⟨a+1,o,0⟩ hp2.fst
  obtain⟨z,s',q2,r2⟩:=ih (fun g hg=>hE g (by omega)) (.mk (stR (pk ts a)).1 0 ByteArray.empty 0 [x,y]) ⟨a1,o1,e1⟩ (hp2.snd q)
  refine⟨z,s',postShift (fun o=>(hM o).symm) (q.bind (k:=fun y b p=>exM ts f (.lo l (.mk (stR (pk ts a)).1 0 ByteArray.empty 0 [x,y])) b p) q2),?_⟩
  rw[←hs]at d r2;exact .step (by rw[hs];exact fun h=>hz (.inl ((GH _).1 h))) (by rw[hs];exact fun h=>hz (.inr h)) hlt (by rw[hs];exact h8) d r2
def fQ:=A8 @cQ @eO @fG @fM @gX @oB @cN @dG
theorem EY(ts:List Tk)(a:Nat)(o e:Int)(l:Nat)(he:e≠0):DC Tryz.prog 61 [.pt 0 0,(.im (.int .i64 ((l:Nat))))] [.box [.sl (ts.map tkV) .ro,(.im (.int .i64 ((a:Nat)))),(.im (.int .i64 (o))),(.im (.int .i64 (e)))]] (exV ex0) [.box [.sl (ts.map tkV) .ro,(.im (.int .i64 ((a:Nat)))),(.im (.int .i64 (o))),(.im (.int .i64 (e)))]]:=by
 have h1:=Ib ts a o e he
 have h2:=Ia ts a o e
 have hs:stRR ts a e=(0,0):=by unfold stRR;rw[if_neg he]
 rw[hs]at h2
 rw[show(((0,0):Int×Nat).1)=0 from rfl,show((((0,0):Int×Nat).2:Nat):Int)=0 from rfl]at h2
 refine DC.enter 45 Tryz.func61 rfl (by decide) rfl rfl (s:=[(0,.pt 0 0),(1,(.im (.int .i64 ((l:Nat)))))]) (by rfl) ?_
 refine wG fQ TI ?_
 refine aA [0] h1 TI (A4 aB aC @aE @aD) (A4 aH aI @aK @aL) ?_
 refine goG fQ BN01 ?_
 refine wG fQ BN01 ?_
 refine aA [0] h2 TI (A4 aB aC @aE @aD) (A4 aH aI @aK @aL) ?_
 refine goG fQ TI ?_
 refine wG fQ TI ?_
 refine bH ?_
 refine cD ?_
 refine wG fQ BN01 ?_
 refine aO (rs:=[.cell 4 46]) rfl (by first|exact .inl rfl|exact .inr rfl) (finG fQ) ?_ rfl (idG (A4 aB aC @aE @aD))
 rw[cA ex0]
 all_goals exact wkG (A4 aB aC @aE @aD)
set_option maxHeartbeats 4000000 in
theorem EW{ts:List Tk}(hts:ts.length≤4194304){l:Nat}{s0:Sr}{x0:Ex}{s s':Sr}{z:Ex}(d0:DC Tryz.prog 123 [.pt 0 0] [rbx ts s0] (exV x0) [rbx ts s])(hL:LpE ts l x0 s z s') :
  DC Tryz.prog 61 [.pt 0 0,(.im (.int .i64 ((l:Nat))))] [rbx ts s0] (exV z) [rbx ts s']:=by
 have h2:=Ia ts s.a s.o s.e
 obtain⟨a0,o0,e0⟩:=s0
 simp only[rbx]at d0 ⊢
 refine DC.enter 45 Tryz.func61 rfl (by decide) rfl rfl (s:=[(0,.pt 0 0),(1,(.im (.int .i64 ((l:Nat)))))]) (by rfl) ?_
 refine wG fQ TI ?_
 refine aA [0] d0 TI (A4 aB aC @aE @aD) (A4 aH aI @aK @aL) ?_
 refine goG fQ BN01 ?_
 refine wG fQ BN01 ?_
 refine aA [0] h2 TI (A4 aB aC @aE @aD) (A4 aH aI @aK @aL) ?_
 refine goG fQ TI ?_
 refine wG fQ TI ?_
 refine bH ?_
 refine cD ?_
 suffices H: ∀(x:Ex) (s:Sr),LpE ts l x s z s'→AWpK _ _ _ _ _ ⟨dn 45 [(0,.pt 0 0),(1,(.im (.int .i64 ((l:Nat))))),(4,.pt 1 0),(5,.pt 2 0),(6,(.im (.int .i64 ((stRR ts s.a s.e).1)))),(7,(.im (.int .i64 (((stRR ts s.a s.e).2:Nat)))))],ofl [rbx ts s,.box [(.im (.int .i64 (0))),.im (.int .u32 0),.im (.string ByteArray.empty),(.im (.int .i64 (0))),.sl [] .nl],.box [(.im (.int .i64 ((x).op))),.im (.int .u32 (x).n),.im (.string (x).name),(.im (.int .i64 ((x).width))),.sl ((x).l.map exV) .ro]]⟩ by
  simp only[rbx]at H;refine AWp.cutP 3 [(0,.pt 0 0),(1,(.im (.int .i64 ((l:Nat))))),(4,.pt 1 0),(5,.pt 2 0),(6,(.im (.int .i64 ((stRR ts s.a s.e).1)))),(7,(.im (.int .i64 (((stRR ts s.a s.e).2:Nat)))))] [.box [.sl (ts.map tkV) .ro,(.im (.int .i64 ((s.a:Nat)))),(.im (.int .i64 (s.o))),(.im (.int .i64 (s.e)))],.box [(.im (.int .i64 (0))),.im (.int .u32 0),.im (.string ByteArray.empty),(.im (.int .i64 (0))),.sl [] .nl],.box [(.im (.int .i64 ((x0).op))),.im (.int .u32 (x0).n),.im (.string (x0).name),(.im (.int .i64 ((x0).width))),.sl ((x0).l.map exV) .ro]] (A4 aB aC @aE @aD) ?_;exact H x0 s hL
 clear hL d0 h2
 intro x s hL
 induction hL with
 | @stop x s h =>
  simp only[rbx];rcases h with h|h
  ·refine wG fQ (AI h BN01) ?_
   refine aO (rs:=[.cell 4 46]) rfl (by first|exact .inl rfl|exact .inr rfl) (finG fQ) ?_ rfl (idG (A4 aB aC @aE @aD))
   rw[cA x]
   all_goals exact wkG (A4 aB aC @aE @aD)
  ·by_cases h0:(stRR ts s.a s.e).1=0
   ·refine wG fQ (AI h0 BN01) ?_
    refine aO (rs:=[.cell 4 46]) rfl (by first|exact .inl rfl|exact .inr rfl) (finG fQ) ?_ rfl (idG (A4 aB aC @aE @aD))
    rw[cA x]
    all_goals exact wkG (A4 aB aC @aE @aD)
   ·have h': ¬(((stRR ts s.a s.e).2:Nat):Int)≥(l:Int):=by omega
    refine wG fQ (A3 h0 h' BN01) ?_;refine aO (rs:=[.cell 4 46]) rfl (by first|exact .inl rfl|exact .inr rfl) (finG fQ) ?_ rfl (idG (A4 aB aC @aE @aD))
    rw[cA x]
    all_goals exact wkG (A4 aB aC @aE @aD)
 | @step x y z a a1 o o1 e1 s' h0 h1 hlt h8 d r ih =>
  have h':(((stRR ts a 0).2:Nat):Int)≥(l:Int):=by omega
  have hw:=bD (m:=a) (N:=4194304) (by omega) (by decide)
  have hw2:=bD (m:=(stRR ts a 0).2) (N:=4194304) (by omega) (by decide)
  have h2:=Ia ts a1 o1 e1;simp only[rbx]at d ⊢;obtain⟨B,hB⟩: ∃B,B=[x,y]:=⟨_,rfl⟩
  have hAs:[V.ag [(.im (.int .i64 (x.op))),.im (.int .u32 x.n),.im (.string x.name),(.im (.int .i64 (x.width))),.sl (x.l.map exV) .ro],exV y]=B.map exV:=by rw[hB,List.map_cons,List.map_cons,List.map_nil,cA x]
  have hAs2:[V.ag [(.im (.int .i64 (x.op))),.im (.int .u32 x.n),.im (.string x.name),(.im (.int .i64 (x.width))),.sl (x.l.map exV) .ro],V.ag [(.im (.int .i64 (y.op))),.im (.int .u32 y.n),.im (.string y.name),(.im (.int .i64 (y.width))),.sl (y.l.map exV) .ro]]=B.map exV:=by rw[hB,List.map_cons,List.map_cons,List.map_nil,cA x,cA y]
  rw[←hB]at ih;refine wG fQ (A5 h0 h' hw hw2 BN01) ?_;refine aA [0] d TI (A4 aB aC @aE @aD) (A4 aH aI @aK @aL) ?_;refine goG fQ BN01 ?_;refine wG fQ (A10 @dX @dC @dU @dT @dW @dD @List.getElem?_map.{0,0} @Int.natCast_nonneg hAs hAs2) ?_;refine aA [0] h2 TI (A4 aB aC @aE @aD) (A4 aH aI @aK @aL) ?_;refine goG fQ TI ?_;refine wG fQ TI ?_;refine cD ?_;refine Jl 3 [(0,.pt 0 0),(1,(.im (.int .i64 ((l:Nat))))),(4,.pt 1 0),(5,.pt 2 0),(6,(.im (.int .i64 ((stRR ts a1 e1).1)))),(7,(.im (.int .i64 (((stRR ts a1 e1).2:Nat)))))] [.box [.sl (ts.map tkV) .ro,(.im (.int .i64 ((a1:Nat)))),(.im (.int .i64 (o1))),(.im (.int .i64 (e1)))],.box [(.im (.int .i64 (0))),.im (.int .u32 0),.im (.string ByteArray.empty),(.im (.int .i64 (0))),.sl [] .nl],.box [(.im (.int .i64 ((stRR ts a 0).1))),.im (.int .u32 0),.im (.string ByteArray.empty),(.im (.int .i64 (0))),.sl (B.map exV) .ro]] ?_ (by simp) (by repeat (first|exact WkFA.nil|refine WkFA.cons (by first|exact .of (Wk.refl _) (by first|rfl|simp only[List.length_cons,List.length_nil,Nat.reduceAdd,V.ids,V.idsL,idsA,entOk,List.all_cons,List.all_nil,Bool.and_self,Bool.and_true,Bool.true_and,ltB,noId,Nat.reduceLT,decide_true,Bool.true_eq_false,bT,bV,bU,bW,aB,aC,aE,aD])|exact .of (Wk.ro _ _) (by simp[V.ids,V.idsL,aD])) ?_)) (by repeat (first|exact WkFE.nil|refine WkFE.box (by repeat (first|exact WkFL.nil|refine WkFL.cons (by first|exact .of (Wk.refl _) (by first|rfl|simp only[List.length_cons,List.length_nil,Nat.reduceAdd,V.ids,V.idsL,idsA,entOk,List.all_cons,List.all_nil,Bool.and_self,Bool.and_true,Bool.true_and,ltB,noId,Nat.reduceLT,decide_true,Bool.true_eq_false,bT,bV,bU,bW,aB,aC,aE,aD])|exact .of (Wk.ro _ _) (by simp[V.ids,V.idsL,aD])) ?_)) ?_|refine WkFE.same (fun _ e=>by cases e) ?_)) (fun i hi=>by first|exact absurd rfl hi|exact Nat.lt_of_lt_of_le (oM hi) (by simp))
  exact ih
theorem Rk{ts:List Tk}(hts:ts.length≤4194304)(F:Nat)(hO: ∀f,f<F→OpR ts f)(hE: ∀f,f<F→ExR ts f):ExR ts F:=by
 intro l hl s hp
 by_cases he:s.e=0
 case neg =>
  obtain⟨a,o,e⟩:=s;exact⟨ex0,⟨a,o,e⟩,Post.of_err he rfl rfl,EY ts a o e l he⟩
 cases F with
 | zero =>
  obtain⟨o,_,r,hr⟩:=hp he;cases hr
 | succ F =>
 have hM:exM ts (F+1) (.ex l)=fun a o=>rb (exM ts F .op a o) fun x b p=>exM ts F (.lo l x) b p:=by funext a o;rw[exM]
 rw[hM]at hp ⊢
 obtain⟨x,s1,q1,d1⟩:=hO F (Nat.lt_succ_self F) s hp.fst
 obtain⟨z,s2,q2,hL⟩:=LG F (fun g hg=>hE g (by omega)) x s1 (hp.snd q1)
 exact⟨z,s2,q1.bind (k:=fun x b p=>exM ts F (.lo l x) b p) q2,EW hts d1 hL⟩
theorem JU{ts:List Tk}(hts:ts.length≤4194304)(hok: ∀t∈ts,TkOk t)(hW: ∀t∈ts,TkW t): ∀F f,f≤F→OpR ts f∧ExR ts f:=by
 intro F
 induction F with
 | zero =>
  intro f hf;obtain rfl:f=0:=by omega
  refine⟨fun s hp=> ?_,Rk hts 0 (fun f hf=>by omega) (fun f hf=>by omega)⟩
  by_cases he:s.e=0
  ·obtain⟨o,_,r,hr⟩:=hp he
   cases hr
  ·obtain⟨a,o,e⟩:=s
   exact⟨ex0,⟨a,o,e⟩,Post.of_err he rfl rfl,Ib ts a o e he⟩
 | succ F ih =>
  intro f hf
  by_cases hle:f≤F
  ·exact ih f hle
  obtain rfl:f=F+1:=by omega
  exact⟨Ph hts hok hW (ih F (Nat.le_refl _)).1 (ih F (Nat.le_refl _)).2,Rk hts (F+1) (fun f hf=>(ih f (by omega)).1) (fun f hf=>(ih f (by omega)).2)⟩
theorem GP{ts:List Tk}(hts:ts.length≤4194304)(hok: ∀t∈ts,TkOk t)(hW: ∀t∈ts,TkW t)(f:Nat):ExR ts f:=(JU hts hok hW f f (Nat.le_refl _)).2
def tyZ:Ty:= .mk 0 0 0 0 [] []
def tyW:List Bs:=[[97,110,121],[105,110,116,56],[105,110,116,49,54],[105,110,116,51,50],[117,105,110,116,56],[117,105,110,116,49,54],[117,105,110,116,51,50]]
def tyA:List Int:=[6,1,1,1,2,2,2]
def tyB:List Int:=[0,1,2,4,1,2,4]
theorem GS:[V.im (.string ⟨#[97,110,121]⟩),V.im (.string ⟨#[105,110,116,56]⟩),V.im (.string ⟨#[105,110,116,49,54]⟩),V.im (.string ⟨#[105,110,116,51,50]⟩),V.im (.string ⟨#[117,105,110,116,56]⟩),V.im (.string ⟨#[117,105,110,116,49,54]⟩),V.im (.string ⟨#[117,105,110,116,51,50]⟩)]=tyW.map sV:=rfl
theorem GV:[(.im (.int .i64 (6))),(.im (.int .i64 (1))),(.im (.int .i64 (1))),(.im (.int .i64 (1))),(.im (.int .i64 (2))),(.im (.int .i64 (2))),(.im (.int .i64 (2)))]=tyA.map iV:=rfl
theorem GU:[(.im (.int .i64 (0))),(.im (.int .i64 (1))),(.im (.int .i64 (2))),(.im (.int .i64 (4))),(.im (.int .i64 (1))),(.im (.int .i64 (2))),(.im (.int .i64 (4)))]=tyB.map iV:=rfl
theorem KT: ∀m:Nat,m<7→ ∀x,tyW[m]? =some x→ ∀k,tyA[m]? =some k→ ∀z,tyB[m]? =some z→intR x=some (k,z):=by
 have: ∀m:Nat,m<7→(tyW[m]?).elim true (fun x=>(tyA[m]?).elim true fun k=>(tyB[m]?).elim true fun z=>decide (intR x=some (k,z)))=true:=by decide
 intro m hm x hx k hk z hz
 have h:=this m hm
 rw[hx,hk,hz]at h
 exact of_decide_eq_true h
theorem GR(x:Bs)(h:x∉tyW):intR x=none:=by
 unfold tyW at h
 simp only[List.mem_cons,List.not_mem_nil,or_false,not_or]at h
 obtain⟨h1,h2,h3,h4,h5,h6,h7⟩:=h
 unfold intR
 rw[if_neg h1,if_neg h2,if_neg h3,if_neg h4,if_neg h5,if_neg h6,if_neg h7]
def plR:Option (Int×Int)→V
 | some (k,z)=> .tu [tyV (.mk 0 k z 0 [] []),(.im (.bool (true)))]
 | none=> .tu [tyV tyZ,(.im (.bool (false)))]
def oW:=A12 @cQ @eF @jG @Py @sL @oC @xJ @kS @sF @cN @dR @jF
set_option maxHeartbeats 1000000 in
theorem Zx(s:Bs):PC Tryz.prog 227 [.im (.string ⟨(s).toArray⟩)] (plR (intR s)):=by
 have hL:tyW.length=7:=rfl
 have hA:tyA.length=7:=rfl
 have hB:tyB.length=7:=rfl
 have hat:=KT
 have hno:=GR
 have eL:=GS
 have eA:=GV
 have eB:=GU
 generalize tyW=L at hL hat hno eL
 generalize tyA=KA at hA hat eA
 generalize tyB=KB at hB hat eB
 refine PC.enter 33 Tryz.func227 rfl (by decide) rfl rfl (s:=[(0,.im (.string ⟨(s).toArray⟩))]) (by rfl) ?_
 refine wG oW (A3 eL eA eB) ?_
 refine bH ?_
 refine ALp.cutP 1 [(0,.im (.string ⟨(s).toArray⟩)),(2,.pt 0 0),(4,.sl (L.map sV) .full),(5,.sl (KA.map iV) .full),(6,.sl (KB.map iV) .full),(7,(.im (.int .i64 ((((0):Nat):Int)))))] [.box [(.im (.int .i64 (0))),(.im (.int .i64 (0))),(.im (.int .i64 (0))),.sl [] .nl,.sl [] .nl]] BN02 ?_
 refine ALp.upto L.length (fun m=>s∉L.take m) (fun m=>⟨dn 33 [(0,.im (.string ⟨(s).toArray⟩)),(2,.pt 0 0),(4,.sl (L.map sV) .full),(5,.sl (KA.map iV) .full),(6,.sl (KB.map iV) .full),(7,(.im (.int .i64 ((((m):Nat):Int)))))],ofl [.box [(.im (.int .i64 (0))),(.im (.int .i64 (0))),(.im (.int .i64 (0))),.sl [] .nl,.sl [] .nl]]⟩) ?_ 0 (Nat.zero_le _) (by simp)
 intro m hm hI hnext
 by_cases hlt:m<L.length
 ·have hlt':(m:Int)<(L.length:Int):=by omega
  have hm1:=bD hlt (by omega)
  have hg:=cC hlt;have hla:m<KA.length:=by omega
  have hlb:m<KB.length:=by omega
  have hga:=cC hla;have hgb:=cC hlb;have ha:=hat m (by omega) _ (List.getElem?_eq_getElem hlt) _ (List.getElem?_eq_getElem hla) _ (List.getElem?_eq_getElem hlb)
  have hnx:=hnext (m+1) (by omega) (by omega)
  rw[List.take_succ_eq_append_getElem hlt]at hnx;clear hnext;have hla':(m:Int)<(KA.length:Int):=by omega
  have hlb':(m:Int)<(KB.length:Int):=by omega
  generalize L[m]=x at hg ha hnx;generalize KA[m]=k at hga ha;generalize KB[m]=z at hgb ha;cases hx:(x==s)with
  | true =>
   rw[eq_of_beq hx]at ha;rw[ha];refine wG oW (A5 BY hlt' hg SI hx) ?_;refine wdG oW (A6 BY hga hgb SI hla' hlb') ?_;refine aJ (rs:=[.cell 2 94,.tmp 3]) rfl (by first|exact .inl rfl|exact .inr rfl) (finG oW) ?_
   simp only[plR,fY,List.map_nil]
   all_goals exact wkG BN02
  | false =>
   refine wG oW (A6 BY hlt' hg SI hx hm1) ?_;refine ALp.cutP 1 [(0,.im (.string ⟨(s).toArray⟩)),(2,.pt 0 0),(4,.sl (L.map sV) .full),(5,.sl (KA.map iV) .full),(6,.sl (KB.map iV) .full),(7,(.im (.int .i64 ((((m+1):Nat):Int)))))] [.box [(.im (.int .i64 (0))),(.im (.int .i64 (0))),(.im (.int .i64 (0))),.sl [] .nl,.sl [] .nl]] BN02 ?_
   exact hnx (fun hm=>by
    rcases List.mem_append.1 hm with h|h
    ·exact hI h
    ·rw[List.mem_singleton.1 h]at hx
     simp at hx)
 obtain rfl:m=L.length:=by omega
 rw[List.take_length]at hI
 rw[hno _ hI]
 clear hnext hI hno
 refine wG oW (AI @Int.lt_irrefl @List.length_map.{0,0}) ?_
 refine aJ (rs:=[.cell 2 94,.tmp 3]) rfl (by first|exact .inl rfl|exact .inr rfl) (finG oW) ?_
 simp only[plR,tyZ,fY,List.map_nil]
 all_goals exact wkG BN02
theorem pL{ts:List Tk}{a:Nat}{x y:Bs}(h:sees ts a x=true)(hxy:(x==y)=false):sees ts a y=false:=by
 unfold sees at h ⊢
 rw[Bool.and_eq_true]at h
 rw[eq_of_beq h.2,hxy,Bool.and_false]
theorem CN{ts:List Tk}{a:Nat}{y:Bs}(h2:(pk ts a).kind≠2)(h5:(pk ts a).kind≠5):sees ts a y=false:=by
 unfold sees
 rw[beq_eq_false_iff_ne.2 h2,beq_eq_false_iff_ne.2 h5];rfl
theorem CM{ts:List Tk}{a:Nat}{x:Bs}(h:sees ts a x=true):(pk ts a).kind=2∨(pk ts a).kind=5:=by
 unfold sees at h
 rw[Bool.and_eq_true,Bool.or_eq_true,beq_iff_eq,beq_iff_eq]at h
 exact h.1
def TyR(ts:List Tk)(f:Nat):Prop:= ∀s:Sr,Pre (tyM ts f .ty) s→ ∃x s',Post (tyM ts f .ty) s x s'∧DC Tryz.prog 173 [.pt 0 0] [rbx ts s] (tyV x) [rbx ts s']
theorem Gw{ts:List Tk}{f:Nat}{s s':Sr}{x:Ty}(q:Post (tyM ts f .ty) s x s')(h:s'.e=0):s.e=0∧s'.o=s.o:=by
 obtain⟨h0,o,a,p,e1,e2,e3⟩:=q.ok h
 have:=((jP ts f).1 _ _ _ _ _ e2).1
 subst this
 rw[e3,e1]
 exact⟨h0,rfl⟩
def flM(ts:List Tk)(f:Nat)(l:List Ty)(a o:Nat):Option (Rs Ty):=rb (takM ts 3 a o) fun n a o=>rb (expM ts [58] a o) fun _ a o=>rb (tyM ts f .ty a o) fun x a o=>tyM ts f (.fl (l++[x.at_ n.n])) a o
inductive LpF (ts:List Tk):List Ty→Bool→Sr→List Ty→Sr→Prop where
 | stop {l:List Ty} {m:Bool} {s:Sr} (h:m=false∨s.e≠0):LpF ts l m s l s
 | step {l l':List Ty} {a a1 a2 a3:Nat} {o o1 o2 o3 e1 e2 e3:Int} {n:Tk} {x:Ty} {s':Sr} (hl:l.length≤4194304) (hn:0≤n.n∧n.n<4294967296)
   (d1:DC Tryz.prog 174 [.pt 0 0] [rbx ts ⟨a,o,0⟩] (.im (.int .u32 n.n)) [rbx ts ⟨a1,o1,e1⟩])
   (d2:DC Tryz.prog 126 [.pt 0 0,.im (.string ⟨([58]).toArray⟩)] [rbx ts ⟨a1,o1,e1⟩] (.tu []) [rbx ts ⟨a2,o2,e2⟩])
   (d3:DC Tryz.prog 173 [.pt 0 0] [rbx ts ⟨a2,o2,e2⟩] (tyV x) [rbx ts ⟨a3,o3,e3⟩])
   (r:LpF ts (l++[x.at_ n.n]) (isR ts a3 e3 [44]) ⟨if isR ts a3 e3 [44]=true then a3+1 else a3,o3,e3⟩ l' s'):LpF ts l true ⟨a,o,0⟩ l' s'
theorem DP{ts:List Tk}{f:Nat}{B:List Ty}(h0:0<B.length){a o:Nat}(h:sees ts a [44]=false):tyM ts (f+1) (.fl B) a o=rb (endM ts [125] a o) fun _ a o=>ret (.mk 0 5 0 0 [] B) a o:=by
 rw[tyM]
 by_cases h1:sees ts a [125]=true
 ·rw[if_pos h1]
 ·rw[if_neg h1,if_pos h0]
  rw[Bool.not_eq_true]at h1;unfold expM endM;rw[h,h1];rfl
theorem DO{ts:List Tk}{f:Nat}{B:List Ty}(h0:0<B.length){a o:Nat}(h:sees ts a [44]=true):tyM ts (f+1) (.fl B) a o=flM ts f B (a+1) o:=by
 rw[tyM,if_neg (by rw[pL h (by decide)];decide),if_pos h0]
 unfold expM
 rw[h,if_neg (by decide)]
 rfl
theorem LH{ts:List Tk}(hts:ts.length≤4194304)(hok: ∀t∈ts,TkOk t): ∀(f:Nat),(∀g,g≤f→TyR ts g)→ ∀(l:List Ty) (s:Sr),Pre (flM ts f l) s→(s.e=0→(1≤s.o∧s.o≤256)∧l.length≤s.a∧s.a≤ts.length) →
  ∃l' s',LpF ts l true s l' s'∧Pre (endM ts [125]) s'∧(s'.e=0→1≤s'.o∧s'.o≤256)∧ ∀s'',Post (endM ts [125]) s' () s''→Post (flM ts f l) s (.mk 0 5 0 0 [] l') s'':=by
 intro f
 induction f using Nat.strongRecOn with
 | _ f ih =>
 intro hT l s hp hb
 by_cases he:s.e=0
 case neg=>exact⟨l,s,.stop (.inr he),Pre.err he,fun h=>absurd h he,fun s'' q=>Post.of_err he (q.1 he).1 (q.1 he).2⟩
 unfold flM at hp ⊢
 obtain⟨n,s1,q1,b1,hn,d1⟩:=yP ts hts hok s hp.fst
 have p1:=hp.snd q1
 obtain⟨s2,q2,b2,d2⟩:=iL ts hts s1 [58] p1.fst
 have p2:=p1.snd q2
 obtain⟨x,s3,q3,d3⟩:=hT f (Nat.le_refl f) s2 p2.fst
 have p3:=p2.snd q3
 have hk:s3.e=0→s3.o=s.o∧s.a+2≤s3.a∧s3.a≤ts.length:=fun h3=>by
  have z3:=Gw q3 h3;obtain⟨_,o3',a3',p3',_,w3,w4⟩:=q3.ok h3;obtain⟨h1,o2',a2',p2',_,w2,w5⟩:=q2.ok z3.1;obtain⟨_,o1',a1',p1',_,w1,w6⟩:=q1.ok h1;have t1:=(hX w1).2.2.1;have t2:=cV w2;have t3:=(jP ts f).1 _ _ _ _ _ w3;rw[w4,w5]at *;rw[w6]at *;simp only at *;omega
 obtain⟨a,o,e⟩:=s
 cases he
 obtain⟨a1,o1,e1⟩:=s1
 obtain⟨a2,o2,e2⟩:=s2
 obtain⟨a3,o3,e3⟩:=s3
 have hb:=hb rfl
 simp only at hb hk
 have hbl:l.length≤4194304:=by omega
 have hB0:0<(l++[x.at_ n.n]).length:=by simp
 by_cases h3:e3=0
 case neg =>
  have hfe:isR ts a3 e3 [44]=false:=tJ h3;refine⟨l++[x.at_ n.n],⟨a3,o3,e3⟩,.step hbl hn d1 d2 d3 ?_,Pre.err h3,fun h=>absurd h h3,fun s'' q=>q1.bind (q2.bind (q3.bind (Post.of_err h3 (q.1 h3).1 (q.1 h3).2)))⟩
  rw[hfe,if_neg (by decide)]
  exact .stop (.inl rfl)
 subst h3
 obtain⟨k1,k2,k3⟩:=hk rfl
 obtain⟨p,hp3,r,hr⟩:=p3 rfl
 have hp3:o3=(p:Int):=hp3
 subst hp3
 have hr:tyM ts f (.fl (l++[x.at_ n.n])) a3 p=some r:=hr
 cases f with
 | zero=>cases hr
 | succ g =>
 cases hc:sees ts a3 [44]with
 | false =>
  refine⟨l++[x.at_ n.n],⟨a3,p,0⟩,.step hbl hn d1 d2 d3 ?_,fun _=>⟨p,rfl,_,rfl⟩,fun _=>by show 1≤(p:Int)∧(p:Int)≤256;omega,fun s'' q=>q1.bind (q2.bind (q3.bind (Post.congr (fun _=>funext fun o=>DP hB0 hc) (q.bind (k:=fun _ a o=>ret (.mk 0 5 0 0 [] (l++[x.at_ n.n])) a o) (Post.ret (m:=fun a o=>ret (.mk 0 5 0 0 [] (l++[x.at_ n.n])) a o) fun h=> ?_)))))⟩
  ·rw[gI,hc,if_neg (by decide)]
   exact .stop (.inl rfl)
  ·obtain⟨_,o4,a4,p4,_,_,w⟩:=q.ok h
   rw[w];exact⟨p4,rfl,_,rfl⟩
 | true =>
  have hM: ∀o,tyM ts (g+1) (.fl (l++[x.at_ n.n])) a3 o=flM ts g (l++[x.at_ n.n]) (a3+1) o:=fun o=>DO hB0 hc
  have hlt:=bX hc;obtain⟨l',s',hL,hpe,hbe,hq⟩:=ih g (Nat.lt_succ_self g) (fun h hh=>hT h (by omega)) (l++[x.at_ n.n]) ⟨a3+1,p,0⟩ (fun _=>⟨p,rfl,r,by show flM ts g _ (a3+1) p=some r;rw[←hM];exact hr⟩) (fun _=>⟨by show 1≤(p:Int)∧(p:Int)≤256;omega,by rw[List.length_append];show l.length+1≤a3+1;omega,hlt⟩)
  refine⟨l',s',.step hbl hn d1 d2 d3 ?_,hpe,hbe,fun s'' q=>q1.bind (q2.bind (q3.bind (postShift (fun o=>(hM o).symm) (hq s'' q))))⟩
  rw[gI,hc,if_pos rfl];exact hL
def eW:=A16 @kE @sM @jG @rI @oC @Nj @sI @jB @kR @nQ @pZ @Nb @sF @pA @kC (A4 @nY @jF @nP @pX)
set_option maxHeartbeats 4000000 in
theorem yR{ts:List Tk}(hts:ts.length≤4194304){s0 s s' s'':Sr}{l':List Ty}(d0:DC Tryz.prog 128 [.pt 0 0,.im (.string ⟨([123]).toArray⟩)] [rbx ts s0] (.tu []) [rbx ts s])
  (hL:LpF ts [] (!isR ts s.a s.e [125]) s l' s') (d9:DC Tryz.prog 130 [.pt 0 0,.im (.string ⟨([125]).toArray⟩)] [rbx ts s'] (.tu []) [rbx ts s'']) :
  DC Tryz.prog 226 [.pt 0 0] [rbx ts s0] (tyV (.mk 0 5 0 0 [] l')) [rbx ts s'']:=by
 have hi:=oR ts s.a s.o s.e [125]
 obtain⟨a0,o0,e0⟩:=s0
 obtain⟨a9,o9,e9⟩:=s''
 simp only[rbx]at d0 d9 ⊢
 refine DC.enter 41 Tryz.func226 rfl (by decide) rfl rfl (s:=[(0,.pt 0 0)]) (by rfl) ?_
 refine wG eW TI ?_
 refine aA [0] d0 TI BN02 BN05 ?_
 refine goG eW TI ?_
 refine wG eW TI ?_
 refine aA [0] hi TI BN02 BN05 ?_
 refine goG eW TI ?_
 refine wG eW TI ?_
 refine bH ?_
 refine cD ?_
 refine AWp.ghostB 2 4 [(.im (.int .i64 (5))),(.im (.int .i64 (0))),(.im (.int .i64 (0))),.sl [] .nl,.sl [] .nl] 218 6 ?_
 suffices H: ∀(l:List Ty) (m:Bool) (s:Sr),LpF ts l m s l' s'→AWpK _ _ _ _ _ ⟨dn 41 [(0,.pt 0 0),(2,.pt 1 0),(3,.pt 2 0),(4,(.im (.bool (m))))],ofl [rbx ts s,.box [(.im (.int .i64 (0))),(.im (.int .i64 (0))),(.im (.int .i64 (0))),.sl [] .nl,.sl [] .nl],.box [(.im (.int .i64 (5))),(.im (.int .i64 (0))),(.im (.int .i64 (0))),.sl [] .nl,.sl ((l).map fdV) (.mine 3)],.tip 218 6 (l).length]⟩ by
  simp only[rbx]at H;refine AWp.cutP 4 [(0,.pt 0 0),(2,.pt 1 0),(3,.pt 2 0),(4,(.im (.bool ((!isR ts s.a s.e [125])))))] [.box [.sl (ts.map tkV) .ro,(.im (.int .i64 ((s.a:Nat)))),(.im (.int .i64 (s.o))),(.im (.int .i64 (s.e)))],.box [(.im (.int .i64 (0))),(.im (.int .i64 (0))),(.im (.int .i64 (0))),.sl [] .nl,.sl [] .nl],.box [(.im (.int .i64 (5))),(.im (.int .i64 (0))),(.im (.int .i64 (0))),.sl [] .nl,.sl ((([]:List Ty)).map fdV) (.mine 3)],.tip 218 6 (([]:List Ty)).length] BN02 ?_;exact H [] _ s hL
 clear hL d0 hi
 intro l m s hL
 induction hL with
 | @stop l m s h =>
  obtain⟨a,o,e⟩:=s;simp only[rbx]at d9 ⊢;cases m with
  | false =>
   refine wG eW TI ?_;refine aA [0] d9 TI BN02 BN05 ?_;refine goG eW TI ?_;refine wG eW TI ?_;refine aO (rs:=[.cell 2 94]) rfl (by first|exact .inl rfl|exact .inr rfl) (finG eW) ?_ rfl (idG BN02)
   rw[fY,List.map_nil]
   all_goals exact wkG BN02
  | true =>
   have he:e≠0:=h.elim (fun h=>by cases h) id
   refine wG eW he ?_;refine aA [0] d9 TI BN02 BN05 ?_;refine goG eW TI ?_;refine wG eW TI ?_;refine aO (rs:=[.cell 2 94]) rfl (by first|exact .inl rfl|exact .inr rfl) (finG eW) ?_ rfl (idG BN02)
   rw[fY,List.map_nil]
   all_goals exact wkG BN02
 | @step l l' a a1 a2 a3 o o1 o2 o3 e1 e2 e3 n x s' hl hn d1 d2 d3 r ih =>
  have ih:=ih d9;have h4:=fJ ts a3 o3 e3 [44] hts;have hwn:=cM (n:=n.n) (by omega)
  obtain⟨B,hB⟩: ∃B,B=l++[x.at_ n.n]:=⟨_,rfl⟩
  have hAs:l.map fdV++[V.ag [(.im (.int .i64 (n.n))),(.im (.int .i64 (x.kind))),(.im (.int .i64 (x.size))),(.im (.int .i64 (x.count))),.sl (x.elem.map tyV) .ro,.sl (x.fields.map fdV) .ro]]=B.map fdV:=by rw[hB,List.map_append,List.map_singleton,qI];rfl
  have hAl:l.length+1=B.length:=by rw[hB];simp
  have hbl:B.length*80≤140737488355328:=by omega
  rw[←hB]at ih;simp only[rbx]at d1 d2 d3 ih ⊢;generalize (if isR ts a3 e3 [44]=true then a3+1 else a3)=a4 at h4 ih
  generalize isR ts a3 e3 [44]=m4 at h4 ih;refine wG eW TI ?_;refine aA [0] d1 TI BN02 BN05 ?_;refine goG eW TI ?_;refine wG eW TI ?_;refine aA [0] d2 TI BN02 BN05 ?_;refine goG eW TI ?_;refine wG eW TI ?_;refine aA [0] d3 TI BN02 BN05 ?_;refine goG eW BN07 ?_;refine wG eW (A16 @eS @eU @dK @dN @eQ @eP @eR @dL @eH @eG @eT @dO @List.getElem?_map.{0,0} @Int.natCast_nonneg hwn (A5 hAs hAl hbl wY @List.length_map.{0,0})) ?_;refine aA [0] h4 TI BN02 BN05 ?_;refine goG eW TI ?_;refine wG eW TI ?_;refine cD ?_;refine AWp.cutP 4 [(0,.pt 0 0),(2,.pt 1 0),(3,.pt 2 0),(4,(.im (.bool (m4))))] [.box [.sl (ts.map tkV) .ro,(.im (.int .i64 ((a4:Nat)))),(.im (.int .i64 (o3))),(.im (.int .i64 (e3)))],.box [(.im (.int .i64 (0))),(.im (.int .i64 (0))),(.im (.int .i64 (0))),.sl [] .nl,.sl [] .nl],.box [(.im (.int .i64 (5))),(.im (.int .i64 (0))),(.im (.int .i64 (0))),.sl [] .nl,.sl ((B).map fdV) (.mine 3)],.tip 218 6 (B).length] BN02 ?_;exact ih
def pW:=A3 @At @oD @pY
theorem Ii:Catch Tryz.prog 76 61:=by
 refine Catch.of (N:=19) Tryz.func76 rfl (by decide) rfl rfl rfl Tryz.results76 (fun u v a b=> ?_) (fun u v=> ?_)
 ·refine wG pW TI ?_
  refine tV false ?_;refine goG pW TI ?_;refine wG pW TI ?_;refine Pz ?_;refine goG pW TI ?_;refine wG pW TI ?_;exact⟨rfl,rfl⟩
 ·refine wG pW TI ?_
  refine tV true ?_;refine goG pW TI ?_;refine wG pW TI ?_;exact⟨rfl,rfl⟩
def prsV{α:Type}(val:α→V)(zero:V):Rs α→V
 | .ok x _ _=> .tu [val x,.ag [(.im (.int .i64 (0))),(.im (.int .i64 (0)))]]
 | .bad b e=> .tu [zero,.ag [(.im (.int .i64 ((b:Nat)))),(.im (.int .i64 (e)))]]
def wZ:=A3 @eO @fG @dG
def qN:=A4 aB aC @aE @aD
def Df:=A4 aH aI @aK @aL
theorem Rf{ts:List Tk}(hts:ts.length≤4194304)(f:Nat)(r:Rs Ex)(h:exM ts f (.ex 1) 0 0=some r):XC Tryz.prog 58 [.pt 0 0] ts 0 0 exV r:=by
 cases r with
 | bad b e =>
  refine XC.enter 5 Tryz.func58 rfl (by decide) rfl rfl (s:=[(0,.pt 0 0)]) (by rfl) ?_
  refine wG wZ TI ?_;exact PA.callP [0] ((uX hts f 1 0 0 (by decide) (by decide) _ h).fails) i1 qN Df (fun _=>PFin.i rfl rfl)
 | ok x b p =>
  refine XC.enter 5 Tryz.func58 rfl (by decide) rfl rfl (s:=[(0,.pt 0 0)]) (by rfl) ?_
  refine wG wZ TI ?_;refine aA [0] ((uX hts f 1 0 0 (by decide) (by decide) _ h).good) i1 qN Df ?_
  refine goG wZ BN01 ?_;refine wG wZ BN01 ?_;refine aO (rs:=[.cell 2 46]) rfl (by first|exact .inl rfl|exact .inr rfl) (finG wZ) ?_ rfl (idG qN)
  rw[cA x]
  all_goals exact wkG qN
def nT:=A14 @cQ @eO @At @Du @fG @oD @qA @fU @Di @Ao @iI @cN @dG @pY
theorem Gf{ts:List Tk}(hts:ts.length≤4194304)(f:Nat)(z:Rs Ex)(hz:allM ts (exM ts f (.ex 1) 0 0)=some z):PC Tryz.prog 57 [.sl (ts.map tkV) .ro,.fn (.func 58) [] []] (prsV exV (exV (.mk 0 0 ByteArray.empty 0 [])) z):=by
 refine vL (s:=[(0,.sl (ts.map tkV) .ro),(1,.fn (.func 58) [] [])]) (s1:=[(0,.sl (ts.map tkV) .ro),(1,.fn (.func 58) [] []),(4,.pt 0 0),(5,.pt 1 0)]) (l1:=[.box [(.im (.int .i64 (0))),.im (.int .u32 0),.im (.string ByteArray.empty),(.im (.int .i64 (0))),.sl [] .nl],.box [(.im (.int .i64 (0))),(.im (.int .i64 (0)))]]) 1 25 Ii Tryz.func57 rfl (by decide) rfl rfl rfl ?_ rfl ?_
 ·rw[Of]
  refine goG nT TI ?_;exact⟨(fun e=>by cases e),rfl,rfl⟩
 rcases bM hz with ⟨b1,e1,h1,rfl⟩|⟨x,a1,o1,h1,h⟩
 ·refine wG nT TI ?_
  refine PA.callS [2] ((Rf hts f _ h1).fails) TI qN Df ?_;show FinD _ _ _ _ _ _ ⟨_,ofl [.box [(.im (.int .i64 (0))),.im (.int .u32 0),.im (.string ByteArray.empty),(.im (.int .i64 (0))),.sl [] .nl],.box [(.im (.int .i64 (0))),(.im (.int .i64 (0)))],.box (List.replicate 3 .dead)]⟩
  refine FinD.pan 1 (by simp) rfl ?_
  refine aJ (rs:=[.cell 4 46,.cell 5 61]) rfl (by first|exact .inl rfl|exact .inr rfl) (finG nT) ?_
  all_goals exact wkG qN
 refine wG nT TI ?_
 refine aA [2] ((Rf hts f _ h1).good) TI qN Df ?_
 refine goG nT BN01 ?_
 rcases aZ h with ⟨hlt,h⟩|⟨hlt,h⟩
 ·have hl:(a1:Int)<(ts.length:Int):=by omega
  cases h
  refine wG nT (AI hl @List.length_map.{0,0}) ?_;refine PA.callS [2] (nN ts a1 o1 3) TI qN Df ?_;show FinD _ _ _ _ _ _ ⟨_,ofl [.box [(.im (.int .i64 (0))),.im (.int .u32 0),.im (.string ByteArray.empty),(.im (.int .i64 (0))),.sl [] .nl],.box [(.im (.int .i64 (0))),(.im (.int .i64 (0)))],.box (List.replicate 3 .dead),_]⟩
  refine FinD.pan 1 (by simp) rfl ?_
  refine aJ (rs:=[.cell 4 46,.cell 5 61]) rfl (by first|exact .inl rfl|exact .inr rfl) (finG nT) ?_
  all_goals exact wkG qN
 ·have hl: ¬(a1:Int)<(ts.length:Int):=by omega
  cases h
  refine wG nT (A3 hl @List.length_map.{0,0} BN01) ?_;refine FinD.ret 1 rfl ?_;refine aJ (rs:=[.cell 4 46,.cell 5 61]) rfl (by first|exact .inl rfl|exact .inr rfl) (finG nT) ?_
  show WkF _ _ _ (.tu [exV x,.ag [(.im (.int .i64 (0))),(.im (.int .i64 (0)))]]);rw[cA x]
  all_goals exact wkG qN
def nU:=A14 @cQ @sN @At @Du @qC @oD @qA @fU @Di @Ao @iI @cN @oA @pY
def nO:=A10 aB aC @aX @aU cR dP jL iB aG kT
def yV:=A10 aH aI @bS @bP eZ lU uD uE aR vT
theorem Ge{ts:List Tk}(hts:ts.length≤4194304)(hok: ∀t∈ts,TkOk t)(f:Nat)(z:Rs Fun)(hz:allM ts (funM ts f 0 0)=some z):PC Tryz.prog 51 [.sl (ts.map tkV) .ro,.fn (.func 52) [] []] (prsV fnV (fnV ⟨ByteArray.empty,[],[]⟩) z):=by
 refine vL (s:=[(0,.sl (ts.map tkV) .ro),(1,.fn (.func 52) [] [])]) (s1:=[(0,.sl (ts.map tkV) .ro),(1,.fn (.func 52) [] []),(4,.pt 0 0),(5,.pt 1 0)]) (l1:=[.box [.im (.string ByteArray.empty),.sl [] .nl,.sl [] .nl],.box [(.im (.int .i64 (0))),(.im (.int .i64 (0)))]]) 1 25 Ii Tryz.func51 rfl (by decide) rfl rfl rfl ?_ rfl ?_
 ·rw[Of]
  refine goG nU TI ?_;exact⟨(fun e=>by cases e),rfl,rfl⟩
 rcases bM hz with ⟨b1,e1,h1,rfl⟩|⟨x,a1,o1,h1,h⟩
 ·refine wG nU TI ?_
  refine PA.callS [2] ((Aj hts hok 0 0 (by decide) _ h1).fails) TI nO yV ?_
  show FinD _ _ _ _ _ _ ⟨_,ofl [.box [.im (.string ByteArray.empty),.sl [] .nl,.sl [] .nl],.box [(.im (.int .i64 (0))),(.im (.int .i64 (0)))],.box (List.replicate 3 .dead)]⟩
  refine FinD.pan 1 (by simp) rfl ?_
  refine aJ (rs:=[.cell 4 37,.cell 5 61]) rfl (by first|exact .inl rfl|exact .inr rfl) (finG nU) ?_
  all_goals exact wkG nO
 refine wG nU TI ?_
 refine aA [2] ((Aj hts hok 0 0 (by decide) _ h1).good) TI nO yV ?_
 refine goG nU FU ?_
 rcases aZ h with ⟨hlt,h⟩|⟨hlt,h⟩
 ·have hl:(a1:Int)<(ts.length:Int):=by omega
  cases h
  refine wG nU (AI hl @List.length_map.{0,0}) ?_;refine PA.callS [2] (nN ts a1 o1 3) TI nO yV ?_;show FinD _ _ _ _ _ _ ⟨_,ofl [.box [.im (.string ByteArray.empty),.sl [] .nl,.sl [] .nl],.box [(.im (.int .i64 (0))),(.im (.int .i64 (0)))],.box (List.replicate 3 .dead),_]⟩
  refine FinD.pan 1 (by simp) rfl ?_
  refine aJ (rs:=[.cell 4 37,.cell 5 61]) rfl (by first|exact .inl rfl|exact .inr rfl) (finG nU) ?_
  all_goals exact wkG nO
 ·have hl: ¬(a1:Int)<(ts.length:Int):=by omega
  cases h
  refine wG nU (A3 hl @List.length_map.{0,0} FU) ?_;refine FinD.ret 1 rfl ?_;refine aJ (rs:=[.cell 4 37,.cell 5 61]) rfl (by first|exact .inl rfl|exact .inr rfl) (finG nU) ?_
  show WkF _ _ _ (.tu [fnV x,.ag [(.im (.int .i64 (0))),(.im (.int .i64 (0)))]]);rw[qG x]
  all_goals exact wkG nO
def UNT:=A6 @Wc @Sh @Wa @Vz @Wb @Si
def nV:=A14 @xM @cQ @At @Du @xK @oD @qA @fU @Di @Ao @iI @uN @cN @pY
theorem uJ{ts:List Tk}(hts:ts.length≤4194304)(hok: ∀t∈ts,TkOk t)(f:Nat)(z:Rs Un)(hz:allM ts (uniM ts f ⟨[],[],[]⟩ 0 0)=some z):PC Tryz.prog 33 [.sl (ts.map tkV) .ro,.fn (.func 34) [] []] (prsV unV (unV ⟨[],[],[]⟩) z):=by
 refine vL (s:=[(0,.sl (ts.map tkV) .ro),(1,.fn (.func 34) [] [])]) (s1:=[(0,.sl (ts.map tkV) .ro),(1,.fn (.func 34) [] []),(4,.pt 0 0),(5,.pt 1 0)]) (l1:=[.box [.sl [] .nl,.sl [] .nl,.sl [] .nl],.box [(.im (.int .i64 (0))),(.im (.int .i64 (0)))]]) 1 25 Ii Tryz.func33 rfl (by decide) rfl rfl rfl ?_ rfl ?_
 ·rw[Of]
  refine goG nV TI ?_;exact⟨(fun e=>by cases e),rfl,rfl⟩
 rcases bM hz with ⟨b1,e1,h1,rfl⟩|⟨x,a1,o1,h1,h⟩
 ·refine wG nV TI ?_
  refine PA.callS [2] ((Zo hts hok _ h1).fails) TI nO yV ?_;show FinD _ _ _ _ _ _ ⟨_,ofl [.box [.sl [] .nl,.sl [] .nl,.sl [] .nl],.box [(.im (.int .i64 (0))),(.im (.int .i64 (0)))],.box (List.replicate 3 .dead)]⟩
  refine FinD.pan 1 (by simp) rfl ?_
  refine aJ (rs:=[.cell 4 27,.cell 5 61]) rfl (by first|exact .inl rfl|exact .inr rfl) (finG nV) ?_
  all_goals exact wkG nO
 refine wG nV TI ?_
 refine aA [2] ((Zo hts hok _ h1).good) TI nO yV ?_
 refine goG nV UNT ?_
 rcases aZ h with ⟨hlt,h⟩|⟨hlt,h⟩
 ·have hl:(a1:Int)<(ts.length:Int):=by omega
  cases h
  refine wG nV (AI hl @List.length_map.{0,0}) ?_;refine PA.callS [2] (nN ts a1 o1 3) TI nO yV ?_;show FinD _ _ _ _ _ _ ⟨_,ofl [.box [.sl [] .nl,.sl [] .nl,.sl [] .nl],.box [(.im (.int .i64 (0))),(.im (.int .i64 (0)))],.box (List.replicate 3 .dead),_]⟩
  refine FinD.pan 1 (by simp) rfl ?_
  refine aJ (rs:=[.cell 4 27,.cell 5 61]) rfl (by first|exact .inl rfl|exact .inr rfl) (finG nV) ?_
  all_goals exact wkG nO
 ·have hl: ¬(a1:Int)<(ts.length:Int):=by omega
  cases h
  refine wG nV (A3 hl @List.length_map.{0,0} UNT) ?_;refine FinD.ret 1 rfl ?_;refine aJ (rs:=[.cell 4 27,.cell 5 61]) rfl (by first|exact .inl rfl|exact .inr rfl) (finG nV) ?_
  show WkF _ _ _ (.tu [unV x,.ag [(.im (.int .i64 (0))),(.im (.int .i64 (0)))]]);rw[sY x]
  all_goals exact wkG nO
def lJ:=A7 @kD @eO @fG @fM @mQ @kA @dG
def jJ:=A4 aB aC @aE @aD
theorem AC: ∀(e:Ex),fitE e→ ∀k:Int, -65536≤k→k≤65536→PC Tryz.prog 60 [exV e,(.im (.int .i64 (k)))] (.im (.bool (esh e k))):=by
 intro e
 induction e using Ex.induct with
 | h o n s w l ih =>
 intro hf k hk1 hk2
 obtain⟨hl,hfl⟩:=rR hf
 have hw:=cM (n:=k-1) (by omega)
 by_cases h1:k<1
 ·have:esh (.mk o n s w l) k=false:=by rw[Cp];simp;intro h;omega
  rw[this];refine PC.enter 22 Tryz.func60 rfl (by decide) rfl rfl (s:=[(0,exV (.mk o n s w l)),(1,(.im (.int .i64 (k))))]) (by rfl) ?_
  rw[jH];refine wG lJ h1 ?_;refine aJ (rs:=[.tmp 4]) rfl (by first|exact .inl rfl|exact .inr rfl) (finG lJ) ?_
  all_goals exact wkG jJ
 refine PC.enter 22 Tryz.func60 rfl (by decide) rfl rfl (s:=[(0,exV (.mk o n s w l)),(1,(.im (.int .i64 (k))))]) (by rfl) ?_
 refine wG lJ (AI h1 @jH) ?_
 refine bH ?_
 refine ALp.cutP 0 [(1,(.im (.int .i64 (k)))),(4,(.im (.bool (false)))),(10,.sl (l.map exV) .ro),(11,(.im (.int .i64 (l.length)))),(12,(.im (.int .i64 ((((0:Nat)):Int)))))] [] jJ ?_
 refine ALp.upto l.length (AllTo (fun t=>esh t (k-1)) l) (fun m=>⟨dn 22 [(1,(.im (.int .i64 (k)))),(4,(.im (.bool (false)))),(10,.sl (l.map exV) .ro),(11,(.im (.int .i64 (l.length)))),(12,(.im (.int .i64 ((((m:Nat)):Int)))))],ofl []⟩) ?_ 0 (Nat.zero_le _) (AllTo.zero _ _)
 intro m hm hI hnext
 by_cases hlt:m<l.length
 ·have hlt':(m:Int)<(l.length:Int):=by omega
  have hm1:=bD hlt (by omega)
  have hg:=cC hlt;have hc:=ih l[m] (List.getElem_mem hlt) (hfl _ (List.getElem_mem hlt)) (k-1) (by omega) (by omega)
  cases b:esh l[m] (k-1)with
  | false =>
   rw[b]at hc;have hr:esh (.mk o n s w l) k=false:=by rw[Cp,oN hlt b,Bool.and_false]
   rw[hr];refine wG lJ (A11 hlt' hg @dX @dC @dU @dT @dW @dD @List.getElem?_map.{0,0} @Int.natCast_nonneg hw) ?_;refine AR.callP hc @cA jJ ?_;refine goG lJ TI ?_;refine wG lJ TI ?_;refine aJ (rs:=[.tmp 4]) rfl (by first|exact .inl rfl|exact .inr rfl) (finG lJ) ?_
   all_goals exact wkG jJ
  | true =>
   rw[b]at hc;refine wG lJ (A11 hlt' hg @dX @dC @dU @dT @dW @dD @List.getElem?_map.{0,0} @Int.natCast_nonneg hw) ?_;refine AR.callP hc @cA jJ ?_;refine goG lJ TI ?_;refine wG lJ hm1 ?_;refine ALp.cutP 0 [(1,(.im (.int .i64 (k)))),(4,(.im (.bool (false)))),(10,.sl (l.map exV) .ro),(11,(.im (.int .i64 (l.length)))),(12,(.im (.int .i64 ((((m+1:Nat)):Int)))))] [] jJ ?_;exact hnext (m+1) (by omega) (by omega) (hI.succ hlt b)
 obtain rfl:m=l.length:=by omega
 clear hnext
 have hall:l.all (fun t=>esh t (k-1))=true:=List.all_eq_true.2 fun x hx=>by
  obtain⟨j,hj,rfl⟩:=List.getElem_of_mem hx;exact hI j hj hj
 have hr:esh (.mk o n s w l) k=true:=by rw[Cp,hall,Bool.and_true];exact decide_eq_true (by omega)
 rw[hr]
 have hn: ¬(l.length:Int)<(l.length:Int):=by omega
 refine wG lJ hn ?_
 refine aJ (rs:=[.tmp 4]) rfl (by first|exact .inl rfl|exact .inr rfl) (finG lJ) ?_
 all_goals exact wkG jJ
theorem t3:(3:Int)≠0:=by decide
theorem Uj{e:Int}(h:e=3∨e=20):e≠0:=by omega
def fB:=A9 @kE @eO @fG @oD @uP @oB @kC @dG @pY
theorem Ik(s:Bs)(hs:s.length≤4194304):PC Tryz.prog 22 [.im (.string ⟨(s).toArray⟩)] (.tu [exV (expP s).1,(.im (.int .i64 ((expP s).2)))]):=by
 have h1:=Ij s hs
 obtain⟨hok,hts,hes⟩:=pM s
 unfold expP
 generalize scnR s=q at h1 hok hts hes
 obtain⟨ts,e⟩:=q
 simp only at h1 hok hts hes ⊢
 by_cases he:e=0
 case neg =>
  rw[if_pos he];refine PC.enter 33 Tryz.func22 rfl (by decide) rfl rfl (s:=[(0,.im (.string ⟨(s).toArray⟩))]) (by rfl) ?_
  refine wG fB TI ?_;refine AR.callP h1 TI jJ ?_;refine goG fB TI ?_;refine wG fB he ?_;refine aJ (rs:=[.cell 2 46,.tmp 3]) rfl (by first|exact .inl rfl|exact .inr rfl) (finG fB) ?_
  all_goals exact wkG jJ
 subst he
 rw[if_neg (by decide)]
 rcases yL ts with ⟨b,e,hz,hx,he,hb⟩|⟨x,b,p,hz,hx,hr⟩
 ·have h2:=Gf (by omega) _ _ hz
  change PC _ _ _ (.tu [exV (.mk 0 0 ByteArray.empty 0 []),.ag [(.im (.int .i64 ((b:Nat)))),(.im (.int .i64 (e)))]])at h2;have he: ¬e=0:=Uj he;rw[hx,if_pos he];refine PC.enter 33 Tryz.func22 rfl (by decide) rfl rfl (s:=[(0,.im (.string ⟨(s).toArray⟩))]) (by rfl) ?_
  refine wG fB TI ?_;refine AR.callP h1 TI jJ ?_;refine goG fB TI ?_;refine wG fB TI ?_;refine AR.callP h2 TI jJ ?_;refine goG fB BN01 ?_;refine wdG fB he ?_;refine aJ (rs:=[.cell 2 46,.tmp 3]) rfl (by first|exact .inl rfl|exact .inr rfl) (finG fB) ?_
  all_goals exact wkG jJ
 have h2:=Gf (by omega) _ _ hz
 change PC _ _ _ (.tu [exV x,.ag [(.im (.int .i64 (0))),(.im (.int .i64 (0)))]])at h2
 have hf:=(Ah hok _).2.1 _ _ _ _ _ _ hr
 have h3:=AC x hf 64 (by decide) (by decide)
 rw[hx,if_neg (fun h=>h rfl)]
 simp only
 cases hl:esh x 64 with
 | true =>
  rw[hl]at h3;rw[if_pos rfl];refine PC.enter 33 Tryz.func22 rfl (by decide) rfl rfl (s:=[(0,.im (.string ⟨(s).toArray⟩))]) (by rfl) ?_
  refine wG fB TI ?_;refine AR.callP h1 TI jJ ?_;refine goG fB TI ?_;refine wG fB TI ?_;refine AR.callP h2 TI jJ ?_;refine goG fB BN01 ?_;refine wG fB BN01 ?_;refine AR.callP h3 @cA jJ ?_;refine goG fB TI ?_;refine wG fB TI ?_;refine aJ (rs:=[.cell 2 46,.tmp 3]) rfl (by first|exact .inl rfl|exact .inr rfl) (finG fB) ?_
  rw[cA x]
  all_goals exact wkG jJ
 | false =>
  rw[hl]at h3;rw[if_neg (by decide)]
  refine PC.enter 33 Tryz.func22 rfl (by decide) rfl rfl (s:=[(0,.im (.string ⟨(s).toArray⟩))]) (by rfl) ?_
  refine wG fB TI ?_;refine AR.callP h1 TI jJ ?_;refine goG fB TI ?_;refine wG fB TI ?_;refine AR.callP h2 TI jJ ?_;refine goG fB BN01 ?_;refine wG fB BN01 ?_;refine AR.callP h3 @cA jJ ?_;refine goG fB TI ?_;refine wG fB TI ?_;refine aJ (rs:=[.cell 2 46,.tmp 3]) rfl (by first|exact .inl rfl|exact .inr rfl) (finG fB) ?_
  all_goals exact wkG jJ
end Go.Proofs.YtmbmmckagcdapaaGreatDoor
namespace Go.Proofs.YtmbmmckagcdapaaGreatDoor
end Go.Proofs.YtmbmmckagcdapaaGreatDoor
