import Derived.Test.YtmbmmckagcdapaaGreatDoorV28
set_option maxHeartbeats 4000000
set_option linter.all false
namespace Go.Proofs.YtmbmmckagcdapaaGreatDoor
open Go.RowKit
theorem Ky(c:UInt8):PC Tryz.prog 221 [.im (.int .u8 (c.toNat))] (.im (.bool (isD c))):=by
 rw[←Kr]
 refine pcEnt 9 Tryz.func221 rfl [(0,.im (.int .u8 (c.toNat)))] ?_
 refine wG TI TI ?_
 exact aD
theorem JC(c:UInt8):PC Tryz.prog 220 [.im (.int .u8 (c.toNat))] (.im (.bool (isL c))):=by
 rw[←Cz]
 refine pcEnt 25 Tryz.func220 rfl [(0,.im (.int .u8 (c.toNat)))] ?_
 refine wG TI TI ?_
 exact aD
def lR:=A4 @pU @xT @pT @pS
theorem Dh(c:UInt8):PC Tryz.prog 258 [.im (.int .u8 (c.toNat))] (.im (.int .i64 (hexI c))):=by
 have q:=Ky c
 have hcl:=c.toNat_lt
 have hw:IntKind.i64.wrap (c.toNat:Int)=(c.toNat:Int):=cI (by omega)
 by_cases h1:48≤c.toNat∧c.toNat≤57
 ·have hd:isD c=true:=decide_eq_true h1
  have hw2:IntKind.i64.wrap ((c.toNat:Int)-48)=((c.toNat-48:Nat):Int):=by rw[cI (by omega)];omega
  have hx:hexI c=((c.toNat-48:Nat):Int):=mG (if_pos h1);rw[hd]at q;rw[hx];refine pcEnt 26 Tryz.func258 rfl [(0,.im (.int .u8 (c.toNat)))] ?_
  refine wG lR TI ?_;refine AR.callP q TI aH ?_;refine goG lR TI ?_;refine wG lR (AI hw hw2) ?_;exact aD
 have hd:isD c=false:=decide_eq_false h1
 rw[hd]at q
 by_cases h2:97≤c.toNat∧c.toNat≤102
 ·have hw2:IntKind.i64.wrap ((c.toNat:Int)-87)=((c.toNat-87:Nat):Int):=by rw[cI (by omega)];omega
  have hx:hexI c=((c.toNat-87:Nat):Int):=mG (by unfold hexv;rw[if_neg h1,if_pos h2])
  have e1:(c.toNat:Int)≥97:=by omega
  have e2:(c.toNat:Int)≤102:=by omega
  rw[hx];refine pcEnt 26 Tryz.func258 rfl [(0,.im (.int .u8 (c.toNat)))] ?_
  refine wG lR TI ?_;refine AR.callP q TI aH ?_;refine goG lR TI ?_;refine wG lR (A4 hw hw2 e1 e2) ?_;exact aD
 have e0:(decide ((c.toNat:Int)≥97)&&decide ((c.toNat:Int)≤102))=false:=by
  rw[←Bool.not_eq_true];simp only[Bool.and_eq_true,decide_eq_true_eq];omega
 by_cases h3:65≤c.toNat∧c.toNat≤70
 ·have hw2:IntKind.i64.wrap ((c.toNat:Int)-55)=((c.toNat-55:Nat):Int):=by rw[cI (by omega)];omega
  have hx:hexI c=((c.toNat-55:Nat):Int):=mG (by unfold hexv;rw[if_neg h1,if_neg h2,if_pos h3])
  have e1: ¬(c.toNat:Int)≥97:=by omega
  have e2:(c.toNat:Int)≥65:=by omega
  have e3:(c.toNat:Int)≤70:=by omega
  rw[hx];refine pcEnt 26 Tryz.func258 rfl [(0,.im (.int .u8 (c.toNat)))] ?_
  refine wG lR TI ?_;refine AR.callP q TI aH ?_;refine goG lR TI ?_;refine wG lR (A5 hw hw2 e1 e2 e3) ?_;exact aD
 have hx:hexI c= -1:=oR (by unfold hexv;rw[if_neg h1,if_neg h2,if_neg h3])
 rw[hx]
 refine pcEnt 26 Tryz.func258 rfl [(0,.im (.int .u8 (c.toNat)))] ?_
 refine wG lR TI ?_
 refine AR.callP q TI aH ?_
 refine goG lR TI ?_
 refine wG lR TI ?_
 refine cN rfl rfl (fun hE=> ?_) (fun hE=> ?_)
 ·simp only[Bool.and_eq_true,decide_eq_true_eq]at hE
  omega
 refine wG lR TI ?_
 refine cN rfl rfl (fun hE=> ?_) (fun hE=> ?_)
 ·simp only[Bool.and_eq_true,decide_eq_true_eq]at hE
  omega
 refine wG lR TI ?_
 exact aD
def mL:= @gI
theorem Jg(s:Bs)(a:Nat)(ha:a≤s.length)(hs:s.length≤4194304):PC Tryz.prog 169 [.im (.string ⟨(s).toArray⟩),(.im (.int .i64 ((a:Int))))] (.im (.int .i64 (((a+((s.drop a).takeWhile isW).length:Nat):Int)))):=by
 have hdl:(s.drop a).length=s.length-a:=List.length_drop
 have hget: ∀m,s[a+m]? =(s.drop a)[m]? :=fun m=>by rw[List.getElem?_drop]
 generalize s.drop a=l at hdl hget
 refine pcEnt 24 Tryz.func169 rfl [(0,.im (.string ⟨(s).toArray⟩)),(1,(.im (.int .i64 ((a:Int)))))] ?_
 refine wG mL TI ?_
 refine aT ?_
 refine ALp.cutP 0 [(0,.im (.string ⟨(s).toArray⟩)),(1,(.im (.int .i64 (((a+0:Nat):Int)))))] [] aH ?_
 refine ALp.upto l.length (AllTo isW l) (fun m=>⟨dn 24 [(0,.im (.string ⟨(s).toArray⟩)),(1,(.im (.int .i64 (((a+m:Nat):Int)))))],ofl []⟩) ?_ 0 (Nat.zero_le _) (AllTo.zero _ _)
 intro m hm hI hnext
 by_cases hlt:m<l.length
 case neg =>
  obtain rfl:m=l.length:=by omega
  have hn: ¬((a+l.length:Nat):Int)<(s.length:Int):=by omega
  clear hnext;rw[Dt fun j hj=>hI j hj hj]
  refine wG mL (AI BY hn) ?_;exact aD
 have hlt':((a+m:Nat):Int)<(s.length:Int):=by omega
 have hw1:IntKind.i64.wrap (((a+m:Nat):Int)+1)=((a+(m+1):Nat):Int):=by rw[cI (by omega)];omega
 have hg:s[a+m]? =some l[m]:=by rw[hget,List.getElem?_eq_getElem hlt]
 have q1:=JC l[m]
 have q2:=Ky l[m]
 have hw:isW l[m]=(isL l[m]||isD l[m]):=rfl
 cases b1:isL l[m]with
 | true =>
  rw[b1]at q1 hw;have hn2:=hnext (m+1) (by omega) (by omega) (hI.succ hlt hw)
  generalize l[m]=c at hg q1 q2;clear hnext hI hw;refine wG mL (A3 BY hlt' hg) ?_;refine AR.callP q1 TI aH ?_;refine goG mL TI ?_;refine wG mL hw1 ?_;refine ALp.cutP 0 [(0,.im (.string ⟨(s).toArray⟩)),(1,(.im (.int .i64 (((a+m+1:Nat):Int)))))] [] aH ?_;exact hn2
 | false =>
 rw[b1,Bool.false_or]at hw
 rw[b1]at q1
 cases b2:isD l[m]with
 | true =>
  rw[b2]at hw q2;have hn2:=hnext (m+1) (by omega) (by omega) (hI.succ hlt hw)
  generalize l[m]=c at hg q1 q2;clear hnext hI hw;refine wG mL (A3 BY hlt' hg) ?_;refine AR.callP q1 TI aH ?_;refine goG mL (AI BY hg) ?_;refine AR.callP q2 TI aH ?_;refine goG mL TI ?_;refine wG mL hw1 ?_;refine ALp.cutP 0 [(0,.im (.string ⟨(s).toArray⟩)),(1,(.im (.int .i64 (((a+m+1:Nat):Int)))))] [] aH ?_;exact hn2
 | false =>
  rw[b2]at hw q2;rw[Ds hlt (fun j hj hjm=>hI j hj hjm) hw]
  generalize l[m]=c at hg q1 q2;clear hnext hI hw;refine wG mL (A3 BY hlt' hg) ?_;refine AR.callP q1 TI aH ?_;refine goG mL (AI BY hg) ?_;refine AR.callP q2 TI aH ?_;refine goG mL TI ?_;refine wG mL TI ?_;exact aD
theorem Am{s:Bs}{a p:Nat}(hp:p≤s.length)(h:skpG false (s.drop p)=skpG false (s.drop a))(h2:skpG false (s.drop p)=s.drop p):s.length-(skpG false (s.drop a)).length=p:=by
 rw[←h,h2,List.length_drop]
 omega
theorem LQ{c:UInt8}(r:Bs)(h:c.toNat=10):skpG true (c::r)=skpG false (c::r):=by
 have hS:isS c=true:=by unfold isS;rw[decide_eq_true_eq];omega
 rw[skpG,if_pos h]
 conv=>rhs;rw[skpG,if_pos hS]
def mN:= @gI
theorem DE(s:Bs)(a:Nat)(ha:a≤s.length)(hs:s.length≤4194304):PC Tryz.prog 109 [.im (.string ⟨(s).toArray⟩),(.im (.int .i64 ((a:Int))))] (.im (.int .i64 (((s.length-(skpG false (s.drop a)).length:Nat):Int)))):=by
 obtain⟨T,hT⟩: ∃T,T=skpG false (s.drop a):=⟨_,rfl⟩
 rw[←hT]
 refine pcEnt 65 Tryz.func109 rfl [(0,.im (.string ⟨(s).toArray⟩)),(1,(.im (.int .i64 ((a:Int)))))] ?_
 refine wG mN TI ?_
 refine aT ?_
 refine ALp.cutP 0 [(0,.im (.string ⟨(s).toArray⟩)),(1,(.im (.int .i64 ((((a):Nat):Int)))))] [] aH ?_
 refine ALp.upto s.length (fun p=>skpG false (s.drop p)=T) (fun p=>⟨dn 65 [(0,.im (.string ⟨(s).toArray⟩)),(1,(.im (.int .i64 ((((p):Nat):Int)))))],ofl []⟩) ?_ a ha hT.symm
 intro p hp hI hnext
 by_cases hlt:p<s.length
 case neg =>
  obtain rfl:p=s.length:=by omega
  have hn: ¬(s.length:Int)<(s.length:Int):=by omega
  have hR:s.length-T.length=s.length:=by
   rw[←hI,List.drop_length];rfl
  rw[hR];clear hnext;refine wG mN (AI BY hn) ?_;exact aD
 have hlt':(p:Int)<(s.length:Int):=by omega
 have hw1:=aQ hlt (by omega)
 have hg:s[p]? =some s[p]:=List.getElem?_eq_getElem hlt
 have hd:s.drop p=s[p]::s.drop (p+1):=List.drop_eq_getElem_cons hlt
 generalize s[p]=c at hg hd
 by_cases hS:isS c=true
 ·have hI2:skpG false (s.drop (p+1))=T:=by rw[←hI,hd,skpG,if_pos hS]
  have hn2:=hnext (p+1) (by omega) (by omega) hI2
  have hS2:c.toNat=32∨c.toNat=9∨c.toNat=13∨c.toNat=10:=of_decide_eq_true hS;clear hnext
  by_cases k1:c.toNat=32
  ·have e1:(c.toNat:Int)=32:=by omega
   refine wG mN (A5 BY hlt' hg e1 hw1) ?_;refine ALp.cutP 0 [(0,.im (.string ⟨(s).toArray⟩)),(1,(.im (.int .i64 ((((p+1):Nat):Int)))))] [] aH ?_;exact hn2
  have e1: ¬(c.toNat:Int)=32:=by omega
  by_cases k2:c.toNat=9
  ·have e2:(c.toNat:Int)=9:=by omega
   refine wG mN (A6 BY hlt' hg e1 e2 hw1) ?_;refine ALp.cutP 0 [(0,.im (.string ⟨(s).toArray⟩)),(1,(.im (.int .i64 ((((p+1):Nat):Int)))))] [] aH ?_;exact hn2
  have e2: ¬(c.toNat:Int)=9:=by omega
  by_cases k3:c.toNat=13
  ·have e3:(c.toNat:Int)=13:=by omega
   refine wG mN (A7 BY hlt' hg e1 e2 e3 hw1) ?_;refine ALp.cutP 0 [(0,.im (.string ⟨(s).toArray⟩)),(1,(.im (.int .i64 ((((p+1):Nat):Int)))))] [] aH ?_;exact hn2
  have e3: ¬(c.toNat:Int)=13:=by omega
  have e4:(c.toNat:Int)=10:=by omega
  refine wG mN (A8 BY hlt' hg e1 e2 e3 e4 hw1) ?_;refine ALp.cutP 0 [(0,.im (.string ⟨(s).toArray⟩)),(1,(.im (.int .i64 ((((p+1):Nat):Int)))))] [] aH ?_;exact hn2
 have hS2: ¬(c.toNat=32∨c.toNat=9∨c.toNat=13∨c.toNat=10):=fun h=>hS (decide_eq_true h)
 have hS3:isS c=false:=by simpa using hS
 have e1: ¬(c.toNat:Int)=32:=by omega
 have e2: ¬(c.toNat:Int)=9:=by omega
 have e3: ¬(c.toNat:Int)=13:=by omega
 have e4: ¬(c.toNat:Int)=10:=by omega
 by_cases h47:c.toNat=47
 case neg =>
  have e5: ¬(c.toNat:Int)=47:=by omega
  have hst:skpG false (s.drop p)=s.drop p:=by rw[hd,skpG,if_neg hS,if_neg (fun h=>h47 h.1)]
  have hR:s.length-T.length=p:=by rw[hT];exact Am hp (hI.trans hT) hst
  rw[hR];clear hnext;refine wG mN (A8 BY hlt' hg e1 e2 e3 e4 e5) ?_;exact aD
 have e5:(c.toNat:Int)=47:=by omega
 by_cases hlt2:p+1<s.length
 case neg =>
  have e6:((p+1:Nat):Int)≥(s.length:Int):=by omega
  have hnil:s.drop (p+1)=[]:=List.drop_eq_nil_of_le (by omega)
  have hst:skpG false (s.drop p)=s.drop p:=by rw[hd,skpG,if_neg hS,if_neg (by rw[hnil];rintro⟨_,h⟩;cases h)]
  have hR:s.length-T.length=p:=by rw[hT];exact Am hp (hI.trans hT) hst
  rw[hR];clear hnext;refine wG mN (A10 BY hlt' hg e1 e2 e3 e4 e5 e6 hw1) ?_;exact aD
 have e6: ¬((p+1:Nat):Int)≥(s.length:Int):=by omega
 have hg2:s[p+1]? =some s[p+1]:=List.getElem?_eq_getElem hlt2
 have hd2:s.drop (p+1)=s[p+1]::s.drop (p+1+1):=List.drop_eq_getElem_cons hlt2
 generalize s[p+1]=d at hg2 hd2
 by_cases h472:d.toNat=47
 case neg =>
  have e7: ¬(d.toNat:Int)=47:=by omega
  have hst:skpG false (s.drop p)=s.drop p:=by
   rw[hd,skpG,if_neg hS,if_neg];rw[hd2];rintro⟨_,h⟩;simp only[List.head?_cons,Option.some.injEq]at h;rw[h]at h472;exact h472 (by decide)
  have hR:s.length-T.length=p:=by rw[hT];exact Am hp (hI.trans hT) hst
  rw[hR];clear hnext;refine wG mN (A12 BY hlt' hg hg2 e1 e2 e3 e4 e5 e6 e7 hw1) ?_;exact aD
 have e7:(d.toNat:Int)=47:=by omega
 have hIt:skpG true (s.drop p)=T:=by
  rw[←hI,hd,skpG,if_neg (by omega)]
  conv=>rhs;rw[skpG,if_neg hS,if_pos ⟨h47,by rw[hd2,toNat_inj (b:=47) h472];rfl⟩]
 refine wG mN (A12 BY hlt' hg hg2 e1 e2 e3 e4 e5 e6 e7 hw1) ?_
 refine aT ?_
 refine ALp.cutP 0 [(0,.im (.string ⟨(s).toArray⟩)),(1,(.im (.int .i64 ((((p):Nat):Int)))))] [] aH ?_
 refine ALp.upto s.length (fun q=>p≤q∧skpG true (s.drop q)=T) (fun q=>⟨dn 65 [(0,.im (.string ⟨(s).toArray⟩)),(1,(.im (.int .i64 ((((q):Nat):Int)))))],ofl []⟩) ?_ p hp ⟨Nat.le_refl _,hIt⟩
 intro q hq hJ hnq
 obtain⟨hpq,hJ⟩:=hJ
 by_cases hql:q<s.length
 case neg =>
  obtain rfl:q=s.length:=by omega
  have hn: ¬(s.length:Int)<(s.length:Int):=by omega
  have hn2:=hnext s.length (by omega) (Nat.le_refl _) (by rw[←hJ,List.drop_length];rfl)
  clear hnext hnq;refine wG mN (AI BY hn) ?_;refine ALp.cutP 0 [(0,.im (.string ⟨(s).toArray⟩)),(1,(.im (.int .i64 ((((s.length):Nat):Int)))))] [] aH ?_;exact hn2
 have hql':(q:Int)<(s.length:Int):=by omega
 have hwq:=aQ hql (by omega)
 have hgq:s[q]? =some s[q]:=List.getElem?_eq_getElem hql
 have hdq:s.drop q=s[q]::s.drop (q+1):=List.drop_eq_getElem_cons hql
 by_cases h10:s[q].toNat=10
 ·have hne:p≠q:=fun e=>by
   subst e;rw[hg]at hgq;have:=Option.some.inj hgq;rw[←this]at h10;omega
  have hn2:=hnext q (by omega) hq (by rw[←hJ,hdq,LQ _ h10])
  generalize s[q]=x at hgq h10;have e8:(x.toNat:Int)=10:=by omega
  clear hnext hnq;refine wG mN (A4 BY hql' hgq e8) ?_;refine ALp.cutP 0 [(0,.im (.string ⟨(s).toArray⟩)),(1,(.im (.int .i64 ((((q):Nat):Int)))))] [] aH ?_;exact hn2
 ·have hn2:=hnq (q+1) (by omega) (by omega) ⟨by omega,by rw[←hJ,hdq,skpG,if_neg h10]⟩
  generalize s[q]=x at hgq h10;have e8: ¬(x.toNat:Int)=10:=by omega
  clear hnext hnq;refine wG mN (A5 BY hql' hgq e8 hwq) ?_;refine ALp.cutP 0 [(0,.im (.string ⟨(s).toArray⟩)),(1,(.im (.int .i64 ((((q+1):Nat):Int)))))] [] aH ?_;exact hn2
def yW:Option Nat→Nat×Bool
 | none=>(0,false)
 | some n=>(n%4294967296,decide (n≤4294967295))
theorem Ti(n:Nat):IntKind.u32.wrap (n:Int)=((n%4294967296:Nat):Int):=by
 simp[IntKind.wrap,IntKind.signed,IntKind.bits]
def numR(w:Bs):Nat×Bool :=
 if 2<w.length∧pre [48,120] w=true then(if 8<(w.drop 2).length then(0,false)else yW (digV 16 0 (w.drop 2)))
 else if w.length=0∨10<w.length∨(1<w.length∧w.head? =some 48)then(0,false)else yW (digV 10 0 w)
theorem IH(b:Nat)(s:Bs): ∀a n,digV b a s=some n→a*b^s.length≤n:=by
 induction s with
 | nil=>intro a n h;cases h;simp
 | cons c r ih =>
  intro a n h;rw[digV]at h;split at h
  ·split at h
   ·have h1:=ih _ _ h
    rw[List.length_cons,Nat.pow_succ,Nat.mul_comm (b^r.length) b,←Nat.mul_assoc];refine Nat.le_trans (Nat.mul_le_mul_right _ (Nat.le_add_right _ _)) h1
   ·cases h
  ·cases h
theorem CS{w:Bs}{n:Nat}(h:digV 10 0 w=some n)(hl:10<w.length)(h0:w.head? ≠some 48):4294967296≤n:=by
 cases w with
 | nil=>cases hl
 | cons c r =>
  rw[digV]at h;split at h
  ·rename_i d hd
   split at h
   ·rename_i hlt
    have h1:=IH 10 r _ _ h
    have hd1:1≤d:=by
     rcases Nat.eq_zero_or_pos d with e|e
     ·subst e
      exfalso;refine h0 ?_;unfold hexv at hd;split at hd
      ·rename_i q
       have:=Option.some.inj hd;rw[show c=48 from toNat_inj (by show c.toNat=48;omega)]
       rfl
      split at hd
      ·have:=Option.some.inj hd;omega
      split at hd
      ·have:=Option.some.inj hd;omega
      ·cases hd
     ·exact e
    have h2:10^10≤10^r.length:=Nat.pow_le_pow_right (by decide) (by rw[List.length_cons]at hl;omega)
    have h3:1*10^r.length≤(0*10+d)*10^r.length:=Nat.mul_le_mul_right _ (by omega)
    have h4:(10:Nat)^10=10000000000:=by decide
    omega
   ·cases h
  ·cases h
theorem Iy{o:Option Nat}{n:Nat}(h:o=some n)(hn:n<4294967296):yW o=(n,true):=by
 subst h
 show(n%4294967296,decide (n≤4294967295))=(n,true)
 rw[Nat.mod_eq_of_lt hn,decide_eq_true (by omega)]
theorem CD{o:Option Nat}(h: ∀n,o=some n→4294967296≤n):(yW o).2=false:=by
 cases o with
 | none=>rfl
 | some n =>
  have:=h n rfl;exact decide_eq_false (by omega)
theorem Il(w:Bs):(∀n,valP w=some n→numR w=(n,true))∧(valP w=none→(numR w).2=false):=by
 by_cases hp:pre [48,120] w=true
 ·have hV:valP w=if 0<(w.drop 2).length∧(w.drop 2).length≤8 then digV 16 0 (w.drop 2)else none:=if_pos hp
  rw[hV]
  have hlen:2≤w.length:=by
   obtain⟨x,rfl⟩:=kN.1 hp;simp
  have hdl:(w.drop 2).length=w.length-2:=List.length_drop
  by_cases h2:2<w.length
  ·have hN:numR w=if 8<(w.drop 2).length then(0,false)else yW (digV 16 0 (w.drop 2)):=if_pos ⟨h2,hp⟩
   rw[hN]
   by_cases h8:8<(w.drop 2).length
   ·rw[if_neg (by omega),if_pos h8]
    exact⟨fun n h=>(by cases h),fun _=>rfl⟩
   ·rw[if_pos (by omega),if_neg h8]
    refine⟨fun n h=>Iy h ?_,fun h=>by rw[h];rfl⟩
    have:=Jb _ _ _ h;have h2:16^(List.drop 2 w).length≤16^8:=Nat.pow_le_pow_right (by decide) (by omega)
    have h3:(16:Nat)^8=4294967296:=by decide
    omega
  ·have hN:numR w=(0,false):=by
    unfold numR;rw[if_neg (fun h=>h2 h.1),if_pos]
    obtain⟨x,rfl⟩:=kN.1 hp;exact .inr (.inr ⟨by simp,rfl⟩)
   rw[if_neg (by omega),hN]
   exact⟨fun n h=>(by cases h),fun _=>rfl⟩
 ·have hV:valP w=if w.length=0∨(1<w.length∧w.head? =some 48)then none else match digV 10 0 w with
   | some n=>if n<4294967296 then some n else none
   | none=>none:=if_neg hp
  have hN:numR w=if w.length=0∨10<w.length∨(1<w.length∧w.head? =some 48)then(0,false)else yW (digV 10 0 w):=if_neg fun h=>hp h.2
  rw[hV,hN]
  by_cases h0:w.length=0∨(1<w.length∧w.head? =some 48)
  ·have h1:w.length=0∨10<w.length∨(1<w.length∧w.head? =some 48):=by
    rcases h0 with h|h
    ·exact .inl h
    ·exact .inr (.inr h)
   rw[if_pos h0,if_pos h1];exact⟨fun n h=>(by cases h),fun _=>rfl⟩
  rw[if_neg h0]
  by_cases h10:10<w.length
  ·rw[if_pos (show w.length=0∨10<w.length∨(1<w.length∧w.head? =some 48)from .inr (.inl h10))]
   refine⟨fun n h=> ?_,fun _=>rfl⟩
   cases hd:digV 10 0 w with
   | none=>rw[hd]at h;cases h
   | some m =>
    rw[hd]at h;have:=CS hd h10 (fun e=>h0 (.inr ⟨by omega,e⟩))
    simp only at h;rw[if_neg (by omega)]at h
    cases h
  ·have h1: ¬(w.length=0∨10<w.length∨(1<w.length∧w.head? =some 48)):=by
    rintro(h|h|h)
    ·exact h0 (.inl h)
    ·exact h10 h
    ·exact h0 (.inr h)
   rw[if_neg h1];cases hd:digV 10 0 w with
   | none=>exact⟨fun n h=>(by cases h),fun _=>rfl⟩
   | some m =>
    simp only
    by_cases hm:m<4294967296
    ·rw[if_pos hm]
     exact⟨fun n h=>by cases h;exact Iy rfl hm,fun h=>by cases h⟩
    ·rw[if_neg hm]
     exact⟨fun n h=>(by cases h),fun _=>CD fun n h=>by cases h;omega⟩
theorem Wt{w:Bs}{n:Nat}(h:valP w=some n):numR w=(n,true):=(Il w).1 n h
theorem Wu{w:Bs}(h:valP w=none):(numR w).2=false:=(Il w).2 h
theorem Ii{w:Bs}(h:2<w.length):(w.take 2==[48,120])=pre [48,120] w:=by
 rw[yN,decide_eq_true (show([48,120]:Bs).length≤w.length by simp;omega),Bool.true_and]
 rfl
def cV:=A5 @pU @rZ @pT @rW @gI
theorem DM(w:Bs)(hw:w.length≤4194304):PC Tryz.prog 222 [.im (.string ⟨(w).toArray⟩)] (.tu [.im (.int .u32 (((numR w).1:Int))),(.im (.bool ((numR w).2)))]):=by
 by_cases hhx:2<w.length∧pre [48,120] w=true
 ·obtain⟨h2,hp⟩:=hhx
  have h2':(w.length:Int)>2:=by omega
  have h2'':(2:Int)≤(w.length:Int):=by omega
  have hpt:=Ii h2;rw[hp]at hpt;obtain⟨ds,hds⟩: ∃ds,ds=w.drop 2:=⟨_,rfl⟩
  have hdl:ds.length=w.length-2:=by rw[hds,List.length_drop]
  have hful:(w.drop 2).take (w.length-2)=ds:=by rw[←hds];exact List.take_of_length_le (by omega)
  have hR:numR w=if 8<ds.length then(0,false)else yW (digV 16 0 ds):=by rw[hds];exact if_pos ⟨h2,hp⟩
  rw[hR];have hne: ¬(ds.length:Int)=0:=by omega
  clear hR hds
  by_cases h8:8<ds.length
  ·rw[if_pos h8]
   have h8':(ds.length:Int)>8:=by omega
   by_cases h10:10<ds.length
   ·have h10':(ds.length:Int)>10:=by omega
    refine pcEnt 77 Tryz.func222 rfl [(0,.im (.string ⟨(w).toArray⟩))] ?_
    refine wdG cV (A9 BY GDS h2' h2'' hpt hful hne h8' h10') ?_;refine fiGenO [.tmp 2,.tmp 3] (finG cV) ?_
    all_goals exact wkG aH
   ·have h10': ¬(ds.length:Int)>10:=by omega
    refine pcEnt 77 Tryz.func222 rfl [(0,.im (.string ⟨(w).toArray⟩))] ?_
    refine wdG cV (A9 BY GDS h2' h2'' hpt hful hne h8' h10') ?_;refine fiGenO [.tmp 2,.tmp 3] (finG cV) ?_
    all_goals exact wkG aH
  rw[if_neg h8];have h8': ¬(ds.length:Int)>8:=by omega
  have h10': ¬(ds.length:Int)>10:=by omega
  refine pcEnt 77 Tryz.func222 rfl [(0,.im (.string ⟨(w).toArray⟩))] ?_
  refine wdG cV (A9 BY GDS h2' h2'' hpt hful hne h8' h10') ?_;clear h2' h2'' hpt hful hne h8' h10' hdl h2 hp;refine aT ?_
  suffices H: ∀(k m n:Nat),ds.length-m=k→m≤ds.length→n<16^m→digV 16 0 ds=digV 16 n (ds.drop m)→ALp _ _ _ _ _ ⟨dn 77 [(0,.im (.string ⟨(w).toArray⟩)),(4,(.im (.int .i64 (16)))),(5,.im (.string ⟨(ds).toArray⟩)),(6,(.im (.int .i64 (((n:Nat):Int))))),(7,(.im (.int .i64 ((((m:Nat)):Int)))))],ofl []⟩ by
   refine ALp.cutP 0 [(0,.im (.string ⟨(w).toArray⟩)),(4,(.im (.int .i64 (16)))),(5,.im (.string ⟨(ds).toArray⟩)),(6,(.im (.int .i64 (((0:Nat):Int))))),(7,(.im (.int .i64 ((((0:Nat)):Int)))))] [] aH ?_;exact H _ 0 0 rfl (Nat.zero_le _) (by decide) rfl
  intro k
  induction k using Nat.strongRecOn with
  | _ k ih =>
  intro m n hk hml hnb hD;have hpw:16^m≤16^8:=Nat.pow_le_pow_right (by decide) (by omega)
  have hpn:(16:Nat)^8=4294967296:=by decide
  refine cG ?_
  by_cases hlt:m<ds.length
  case neg =>
   obtain rfl:m=ds.length:=by omega
   have hn: ¬(ds.length:Int)<(ds.length:Int):=by omega
   rw[List.drop_length]at hD;have hR:yW (digV 16 0 ds)=(n%4294967296,decide (n≤4294967295)):=by rw[hD];rfl
   rw[hR];have hwr:=Ti n;clear ih
   by_cases hle:n≤4294967295
   ·have hle':(n:Int)≤4294967295:=by omega
    rw[decide_eq_true hle];refine wG cV (A4 BY hn hwr hle') ?_;refine fiGenO [.tmp 2,.tmp 3] (finG cV) ?_
    all_goals exact wkG aH
   ·have hle': ¬(n:Int)≤4294967295:=by omega
    rw[decide_eq_false hle];refine wG cV (A4 BY hn hwr hle') ?_;refine fiGenO [.tmp 2,.tmp 3] (finG cV) ?_
    all_goals exact wkG aH
  have hlt':(m:Int)<(ds.length:Int):=by omega
  have hw1:=aQ hlt (by omega)
  have hg:ds[m]? =some ds[m]:=List.getElem?_eq_getElem hlt;have hd:ds.drop m=ds[m]::ds.drop (m+1):=List.drop_eq_getElem_cons hlt;have qh:=Dh ds[m];rw[hd,digV]at hD;have hpow:16^(m+1)=16^m*16:=Nat.pow_succ _ _;generalize ds[m]=c at hg hD qh;cases hx:hexv c with
  | none =>
   rw[hx]at hD;rw[oR hx]at qh;rw[show yW (digV 16 0 ds)=(0,false) by rw[hD];rfl]
   clear ih;refine wG cV (A3 BY hlt' hg) ?_;refine AR.callP qh TI aH ?_;refine goG cV TI ?_;refine wG cV TI ?_;refine fiGenO [.tmp 2,.tmp 3] (finG cV) ?_
   all_goals exact wkG aH
  | some d =>
  rw[hx]at hD;rw[mG hx]at qh;simp only at hD;have hd0: ¬(d:Int)<0:=by omega
  by_cases hdb:d<16
  case neg =>
   rw[if_neg hdb]at hD;rw[show yW (digV 16 0 ds)=(0,false) by rw[hD];rfl]
   have hdb':(d:Int)≥16:=by omega
   clear ih;refine wG cV (A3 BY hlt' hg) ?_;refine AR.callP qh TI aH ?_;refine goG cV TI ?_;refine wG cV (AI hd0 hdb') ?_;refine fiGenO [.tmp 2,.tmp 3] (finG cV) ?_
   all_goals exact wkG aH
  rw[if_pos hdb]at hD;have hdb': ¬(d:Int)≥16:=by omega
  have hI:=ih (ds.length-(m+1)) (by omega) (m+1) (n*16+d) rfl (by omega) (by omega) hD
  have hm1:IntKind.i64.wrap (16*(n:Int))=((n*16:Nat):Int):=by rw[cI (by omega)];omega
  have hm2:IntKind.i64.wrap (((n*16:Nat):Int)+(d:Int))=((n*16+d:Nat):Int):=by rw[cI (by omega)];omega
  clear ih;refine wG cV (A3 BY hlt' hg) ?_;refine AR.callP qh TI aH ?_;refine goG cV TI ?_;refine wG cV (A5 hd0 hdb' hm1 hm2 hw1) ?_;refine ALp.cutP 0 [(0,.im (.string ⟨(w).toArray⟩)),(4,(.im (.int .i64 (16)))),(5,.im (.string ⟨(ds).toArray⟩)),(6,(.im (.int .i64 (((n*16+d:Nat):Int))))),(7,(.im (.int .i64 ((((m+1:Nat)):Int)))))] [] aH ?_;exact hI
 obtain⟨ds,hds⟩: ∃ds,ds=w:=⟨_,rfl⟩
 have hR:numR w=if ds.length=0∨10<ds.length∨(1<ds.length∧ds.head? =some 48)then(0,false)else yW (digV 10 0 ds):=by rw[hds];exact if_neg hhx
 rw[hR]
 clear hR
 have hpt:2<w.length→(w.take 2==[48,120])=false:=fun h=>by
  rw[Ii h];cases hx:pre [48,120] w with
  | false=>rfl
  | true=>exact absurd ⟨h,hx⟩ hhx
 refine pcEnt 77 Tryz.func222 rfl [(0,.im (.string ⟨(w).toArray⟩))] ?_
 refine AWp.seq ?_
 refine AWp.tail (fun _:Unit=>⟨dn 77 [(0,.im (.string ⟨(w).toArray⟩))],ofl []⟩) (fun _=> ?_) (fun rest ht=> ?_)
 case refine_2 =>
  refine wG cV TI ?_;refine AWp.cutP 0 [(0,.im (.string ⟨(w).toArray⟩))] [] aH ?_;exact ht ()
 refine AWp.seq ?_
 refine AWp.tail (fun _:Unit=>⟨dn 77 [(0,.im (.string ⟨(w).toArray⟩)),(4,(.im (.int .i64 (10)))),(5,.im (.string ⟨(w).toArray⟩))],ofl []⟩) (fun _=> ?_) (fun rest ht=> ?_)
 case refine_2 =>
  refine wdG cV TI ?_;refine AWp.cutP 0 [(0,.im (.string ⟨(w).toArray⟩)),(4,(.im (.int .i64 (10)))),(5,.im (.string ⟨(w).toArray⟩))] [] aH ?_;exact ht ()
 refine AWp.seq ?_
 refine AWp.tail (fun _:Unit=>⟨dn 77 [(0,.im (.string ⟨(w).toArray⟩)),(4,(.im (.int .i64 (10)))),(5,.im (.string ⟨(w).toArray⟩))],ofl []⟩) (fun _=> ?_) (fun rest ht=> ?_)
 case refine_2 =>
  by_cases h2:2<w.length
  ·have h2':(w.length:Int)>2:=by omega
   have h2'':(2:Int)≤(w.length:Int):=by omega
   have hp2:=hpt h2;refine wG cV (A5 BY GDS h2' h2'' hp2) ?_;refine AWp.cutP 0 [(0,.im (.string ⟨(w).toArray⟩)),(4,(.im (.int .i64 (10)))),(5,.im (.string ⟨(w).toArray⟩))] [] aH ?_;exact ht ()
  ·have h2': ¬(w.length:Int)>2:=by omega
   refine wG cV (A3 BY GDS h2') ?_;refine AWp.cutP 0 [(0,.im (.string ⟨(w).toArray⟩)),(4,(.im (.int .i64 (10)))),(5,.im (.string ⟨(w).toArray⟩))] [] aH ?_;exact ht ()
 clear hpt hhx
 subst hds
 refine AWp.seq ?_
 refine AWp.tail (fun _:PLift (¬(ds.length=0∨10<ds.length∨(1<ds.length∧ds.head? =some 48)))=>⟨dn 77 [(0,.im (.string ⟨(ds).toArray⟩)),(4,(.im (.int .i64 (10)))),(5,.im (.string ⟨(ds).toArray⟩))],ofl []⟩) (fun hb=> ?_) (fun rest ht=> ?_)
 case refine_2 =>
  by_cases h0:ds.length=0
  ·have h0':(ds.length:Int)=0:=by omega
   rw[if_pos (.inl h0)];refine wG cV (AI BY h0') ?_;refine fiGenO [.tmp 2,.tmp 3] (finG cV) ?_
   all_goals exact wkG aH
  have h0': ¬(ds.length:Int)=0:=by omega
  by_cases h10:10<ds.length
  ·have h10':(ds.length:Int)>10:=by omega
   rw[if_pos (.inr (.inl h10))];refine wG cV (A3 BY h0' h10') ?_;refine fiGenO [.tmp 2,.tmp 3] (finG cV) ?_
   all_goals exact wkG aH
  have h10': ¬(ds.length:Int)>10:=by omega
  by_cases h1:1<ds.length
  ·have h1':(ds.length:Int)>1:=by omega
   obtain⟨c,r,rfl⟩: ∃c r,ds=c::r:=by cases ds with
    | nil=>cases h1
    | cons c r=>exact⟨c,r,rfl⟩
   have hg:(c::r)[0]? =some c:=rfl
   by_cases h48:c.toNat=48
   ·have h48':(c.toNat:Int)=48:=by omega
    rw[if_pos (.inr (.inr ⟨h1,by rw[show c=48 from toNat_inj h48];rfl⟩))]
    generalize c::r=ds at *;refine wG cV (A6 BY h0' h10' h1' hg h48') ?_;refine fiGenO [.tmp 2,.tmp 3] (finG cV) ?_
    all_goals exact wkG aH
   ·have h48': ¬(c.toNat:Int)=48:=by omega
    have hbad: ¬((c::r).length=0∨10<(c::r).length∨(1<(c::r).length∧(c::r).head? =some 48)):=fun h=>by
     rcases h with h|h|h
     ·exact h0 h
     ·exact h10 h
     ·have:=Option.some.inj h.2
      rw[this]at h48;exact h48 rfl
    have ht:=ht ⟨hbad⟩;clear hbad;generalize c::r=ds at *;refine wG cV (A6 BY h0' h10' h1' hg h48') ?_;refine AWp.cutP 0 [(0,.im (.string ⟨(ds).toArray⟩)),(4,(.im (.int .i64 (10)))),(5,.im (.string ⟨(ds).toArray⟩))] [] aH ?_;exact ht
  ·have h1': ¬(ds.length:Int)>1:=by omega
   refine wG cV (A4 BY h0' h10' h1') ?_;refine AWp.cutP 0 [(0,.im (.string ⟨(ds).toArray⟩)),(4,(.im (.int .i64 (10)))),(5,.im (.string ⟨(ds).toArray⟩))] [] aH ?_
   exact ht ⟨fun h=>by
    rcases h with h|h|h
    ·exact h0 h
    ·exact h10 h
    ·exact h1 h.1⟩
 obtain⟨hb⟩:=hb
 rw[if_neg hb]
 refine wG cV TI ?_
 refine aT ?_
 suffices H: ∀(k m n:Nat),ds.length-m=k→m≤ds.length→n<10^m→digV 10 0 ds=digV 10 n (ds.drop m)→ALp _ _ _ _ _ ⟨dn 77 [(0,.im (.string ⟨(ds).toArray⟩)),(4,(.im (.int .i64 (10)))),(5,.im (.string ⟨(ds).toArray⟩)),(6,(.im (.int .i64 (((n:Nat):Int))))),(7,(.im (.int .i64 ((((m:Nat)):Int)))))],ofl []⟩ by
  refine ALp.cutP 0 [(0,.im (.string ⟨(ds).toArray⟩)),(4,(.im (.int .i64 (10)))),(5,.im (.string ⟨(ds).toArray⟩)),(6,(.im (.int .i64 (((0:Nat):Int))))),(7,(.im (.int .i64 ((((0:Nat)):Int)))))] [] aH ?_;exact H _ 0 0 rfl (Nat.zero_le _) (by decide) rfl
 intro k
 induction k using Nat.strongRecOn with
 | _ k ih =>
 intro m n hk hml hnb hD
 have hpw:10^m≤10^10:=Nat.pow_le_pow_right (by decide) (by omega)
 have hpn:(10:Nat)^10=10000000000:=by decide
 refine cG ?_
 by_cases hlt:m<ds.length
 case neg =>
  obtain rfl:m=ds.length:=by omega
  have hn: ¬(ds.length:Int)<(ds.length:Int):=by omega
  rw[List.drop_length]at hD;have hR:yW (digV 10 0 ds)=(n%4294967296,decide (n≤4294967295)):=by rw[hD];rfl
  rw[hR];have hwr:=Ti n;clear ih
  by_cases hle:n≤4294967295
  ·have hle':(n:Int)≤4294967295:=by omega
   rw[decide_eq_true hle];refine wG cV (A4 BY hn hwr hle') ?_;refine fiGenO [.tmp 2,.tmp 3] (finG cV) ?_
   all_goals exact wkG aH
  ·have hle': ¬(n:Int)≤4294967295:=by omega
   rw[decide_eq_false hle];refine wG cV (A4 BY hn hwr hle') ?_;refine fiGenO [.tmp 2,.tmp 3] (finG cV) ?_
   all_goals exact wkG aH
 have hlt':(m:Int)<(ds.length:Int):=by omega
 have hw1:=aQ hlt (by omega)
 have hg:ds[m]? =some ds[m]:=List.getElem?_eq_getElem hlt
 have hd:ds.drop m=ds[m]::ds.drop (m+1):=List.drop_eq_getElem_cons hlt
 have qh:=Dh ds[m]
 rw[hd,digV]at hD
 have hpow:10^(m+1)=10^m*10:=Nat.pow_succ _ _
 generalize ds[m]=c at hg hD qh
 cases hx:hexv c with
 | none =>
  rw[hx]at hD;rw[oR hx]at qh;rw[show yW (digV 10 0 ds)=(0,false) by rw[hD];rfl]
  clear ih;refine wG cV (A3 BY hlt' hg) ?_;refine AR.callP qh TI aH ?_;refine goG cV TI ?_;refine wG cV TI ?_;refine fiGenO [.tmp 2,.tmp 3] (finG cV) ?_
  all_goals exact wkG aH
 | some d =>
 rw[hx]at hD
 rw[mG hx]at qh
 simp only at hD
 have hd0: ¬(d:Int)<0:=by omega
 by_cases hdb:d<10
 case neg =>
  rw[if_neg hdb]at hD;rw[show yW (digV 10 0 ds)=(0,false) by rw[hD];rfl]
  have hdb':(d:Int)≥10:=by omega
  clear ih;refine wG cV (A3 BY hlt' hg) ?_;refine AR.callP qh TI aH ?_;refine goG cV TI ?_;refine wG cV (AI hd0 hdb') ?_;refine fiGenO [.tmp 2,.tmp 3] (finG cV) ?_
  all_goals exact wkG aH
 rw[if_pos hdb]at hD
 have hdb': ¬(d:Int)≥10:=by omega
 have hI:=ih (ds.length-(m+1)) (by omega) (m+1) (n*10+d) rfl (by omega) (by omega) hD
 have hm1:IntKind.i64.wrap (10*(n:Int))=((n*10:Nat):Int):=by rw[cI (by omega)];omega
 have hm2:IntKind.i64.wrap (((n*10:Nat):Int)+(d:Int))=((n*10+d:Nat):Int):=by rw[cI (by omega)];omega
 clear ih
 refine wG cV (A3 BY hlt' hg) ?_
 refine AR.callP qh TI aH ?_
 refine goG cV TI ?_
 refine wG cV (A5 hd0 hdb' hm1 hm2 hw1) ?_
 refine ALp.cutP 0 [(0,.im (.string ⟨(ds).toArray⟩)),(4,(.im (.int .i64 (10)))),(5,.im (.string ⟨(ds).toArray⟩)),(6,(.im (.int .i64 (((n*10+d:Nat):Int))))),(7,(.im (.int .i64 ((((m+1:Nat)):Int)))))] [] aH ?_
 exact hI
def TkW(t:Tk):Prop:=(t.kind=2→isK t.text=true)∧(t.kind=5→t.text.head?.elim false isL=false)
theorem PE{ts:List Tk}(h: ∀t∈ts,TkW t)(a:Nat):TkW (pk ts a):=by
 by_cases hl:a<ts.length
 ·exact h _ (List.mem_of_getElem? (Cb hl))
 ·rw[wZ (by omega)]
  exact⟨(fun h=>by cases h),(fun h=>by cases h)⟩
theorem Yv{ts:List Tk}{a:Nat}{e:Int}{t:Bs}(h: ∀d,isR ts a e (t++[d])=false):pP ts a e t=0:=by
 unfold pP
 simp only[widF,h,Bool.false_eq_true,if_false]
theorem Yu{ts:List Tk}{a:Nat}{t:Bs}(h:(pk ts a).kind=2):pP ts a 0 t=if(pk ts a).text=t++[49]then 1 else if(pk ts a).text=t++[50]then 2 else if(pk ts a).text=t++[51]then 3 else if(pk ts a).text=t++[52]then 4 else 0:=by
 have hs: ∀x,(isR ts a 0 x=true)=((pk ts a).text=x):=fun x=>by rw[fY,Qw (.inl h),beq_iff_eq]
 unfold pP
 simp only[widF,hs]
 rfl
def ldW:Bs:=[108,111,97,100]
def sxW:Bs:=[115,101,120,116]
def stW:Bs:=[115,116,111,114,101]
theorem Tf{ts:List Tk}{a:Nat}{t:Bs}(hW:TkW (pk ts a))(h2:(pk ts a).kind≠2)(ht:t.head?.elim false isL=true):pP ts a 0 t=0:=by
 refine Yv fun d=> ?_
 rw[fY]
 unfold sees
 rw[beq_eq_false_iff_ne.2 h2,Bool.false_or]
 by_cases h5:(pk ts a).kind=5
 ·have h:=hW.2 h5
  cases b:(pk ts a).text==t++[d]with
  | false=>rw[Bool.and_false]
  | true =>
   rw[eq_of_beq b]at h;cases t with
   | nil=>cases ht
   | cons c t=>exact absurd (h.symm.trans ht) (by decide)
 ·rw[beq_eq_false_iff_ne.2 h5,Bool.false_and]
theorem Yk{ts:List Tk}{a:Nat}(hW:TkW (pk ts a))(h2:(pk ts a).kind=2) :
  (accW (pk ts a).text=none∧pP ts a 0 ldW=0∧pP ts a 0 sxW=0)∨(∃w,accW (pk ts a).text=some (18,w)∧pP ts a 0 ldW=w∧w>0)∨ ∃w,accW (pk ts a).text=some (19,w)∧pP ts a 0 ldW=0∧pP ts a 0 sxW=w∧w>0:=by
 have hk:=hW.1 h2
 rw[Yu h2,Yu h2]
 generalize (pk ts a).text=x at hk
 unfold ldW sxW
 by_cases h1:x=[108,111,97,100,49]
 ·subst h1;exact .inr (.inl ⟨1,rfl,rfl,by decide⟩)
 by_cases h3:x=[108,111,97,100,50]
 ·subst h3;exact .inr (.inl ⟨2,rfl,rfl,by decide⟩)
 by_cases h4:x=[108,111,97,100,52]
 ·subst h4;exact .inr (.inl ⟨4,rfl,rfl,by decide⟩)
 by_cases h5:x=[115,101,120,116,49]
 ·subst h5;exact .inr (.inr ⟨1,rfl,rfl,rfl,by decide⟩)
 by_cases h6:x=[115,101,120,116,50]
 ·subst h6;exact .inr (.inr ⟨2,rfl,rfl,rfl,by decide⟩)
 have n1:x≠[108,111,97,100,51]:=fun e=>by rw[e]at hk;revert hk;decide
 have n2:x≠[115,101,120,116,51]:=fun e=>by rw[e]at hk;revert hk;decide
 have n3:x≠[115,101,120,116,52]:=fun e=>by rw[e]at hk;revert hk;decide
 refine .inl ⟨?_,?_,?_⟩
 ·unfold accW
  rw[if_neg h1,if_neg h3,if_neg h4,if_neg h5,if_neg h6]
 ·simp only[List.cons_append,List.nil_append]
  rw[if_neg h1,if_neg h3,if_neg n1,if_neg h4]
 ·simp only[List.cons_append,List.nil_append]
  rw[if_neg h5,if_neg h6,if_neg n2,if_neg n3]
theorem Rb{α β γ:Type}(m:Option (Rs α))(k:α→Nat→Nat→Option (Rs β))(l:β→Nat→Nat→Option (Rs γ)):rb (rb m k) l=rb m fun x a o=>rb (k x a o) l:=by
 cases m with
 | none=>rfl
 | some r=>cases r<;>rfl
theorem KU(ts:List Tk)(g:Nat→Nat→Option (Rs Ex))(h:Ex→Ex)(a o:Nat):inn ts g h a o=rb (inn ts g id a o) fun x a o=>ret (h x) a o:=by
 unfold inn
 rw[Rb]
 congr 1
 funext _ a o
 rw[Rb]
 congr 1
 funext x a o
 rw[Rb]
 rfl
theorem postDec{α:Type}{s:Sr}{x:α}(h1:s.e=0→1≤s.o∧s.o≤256)(hp:Pre (fun a o=>ret x a (o-1)) s):Post (fun a o=>ret x a (o-1)) s x ⟨s.a,IntKind.i64.wrap (s.o-1),s.e⟩:=by
 refine⟨fun _=>⟨rfl,rfl⟩,fun he=> ?_⟩
 obtain⟨o,ho,_⟩:=hp he
 obtain⟨a,o',e⟩:=s
 cases he
 have ho:o'=(o:Int):=ho
 subst ho
 have h:1≤(o:Int)∧(o:Int)≤256:=h1 rfl
 have e:=qM (o:=o) (by omega) (by omega)
 exact⟨o,rfl,.inl ⟨a,o-1,rfl,by show Sr.mk a (IntKind.i64.wrap ((o:Int)-1)) 0=_;rw[e]⟩⟩
def OpR(ts:List Tk)(f:Nat):Prop:= ∀s:Sr,Pre (exM ts f .op) s→ ∃x s',Post (exM ts f .op) s x s'∧DC Tryz.prog 123 [.pt 0 0] [rbx ts s] (exV x) [rbx ts s']
def ExR(ts:List Tk)(f:Nat):Prop:= ∀l:Nat,l≤10→ ∀s:Sr,Pre (exM ts f (.ex l)) s→ ∃x s',Post (exM ts f (.ex l)) s x s'∧DC Tryz.prog 61 [.pt 0 0,(.im (.int .i64 ((l:Nat))))] [rbx ts s] (exV x) [rbx ts s']
theorem Re:((1:Nat):Int)=1:=rfl
theorem Df{ts:List Tk}{f:Nat}{m:Md4}{s s':Sr}{x:Ex}(q:Post (exM ts f m) s x s')(h:s'.e=0):s.e=0∧s'.o=s.o:=by
 obtain⟨h0,o,a,p,e1,e2,e3⟩:=q.ok h
 have:=(fC ts _ _ _ _ _ _ _ e2).1
 subst this
 rw[e3,e1]
 exact⟨h0,rfl⟩
def pL:=A3 @fD @gQ @eF
theorem Bm{ts:List Tk}{f:Nat}(hE:ExR ts f)(hts:ts.length≤4194304)(s:Sr)(hp:Pre (inn ts (exM ts f (.ex 1)) id) s): ∃x s',Post (inn ts (exM ts f (.ex 1)) id) s x s'∧DC Tryz.prog 185 [.pt 0 0] [rbx ts s] (exV x) [rbx ts s']:=by
 unfold inn at hp ⊢
 obtain⟨s1,q1,b1,d1⟩:=mX ts hts s [40] hp.fst
 have p1:=hp.snd q1
 obtain⟨x,s2,q2,d2⟩:=hE 1 (by decide) s1 p1.fst
 have p2:=p1.snd q2
 obtain⟨s3,q3,_,d3⟩:=tZ ts hts s2 [41] (fun h=>by obtain⟨h0,e⟩:=Df q2 h;rw[e];exact(b1 h0).2) p2.fst
 refine⟨x,s3,q1.bind (q2.bind (q3.bind (Post.ret (p2.snd q3)))),?_⟩
 obtain⟨a,o,e⟩:=s
 obtain⟨a1,o1,e1⟩:=s1
 obtain⟨a2,o2,e2⟩:=s2
 obtain⟨a3,o3,e3⟩:=s3
 clear q1 q2 q3 p1 p2 hp b1
 simp only[rbx]at d1 d2 d3 ⊢
 rw[Re]at d2
 refine dcEnt 11 Tryz.func185 rfl [(0,.pt 0 0)] ?_
 refine wG pL TI ?_
 refine aA [0] d1 TI (A4 aB aC @aF @aE) (A4 aI aJ @aN @aO) ?_
 refine goG pL TI ?_
 refine wG pL TI ?_
 refine aA [0] d2 TI (A4 aB aC @aF @aE) (A4 aI aJ @aN @aO) ?_
 refine goG pL BN01 ?_
 refine wG pL BN01 ?_
 refine aA [0] d3 TI (A4 aB aC @aF @aE) (A4 aI aJ @aN @aO) ?_
 refine goG pL BN01 ?_
 refine wG pL BN01 ?_
 refine fiGen [.cell 2 46] (finG pL) ?_ rfl (idG (A4 aB aC @aF @aE))
 rw[bW x]
 all_goals exact wkG (A4 aB aC @aF @aE)
def tE:=A8 @cJ @fD @gQ @fG @uO @rY @cH @eF
theorem Ug{ts:List Tk}{f:Nat}(hO:OpR ts f)(hts:ts.length≤4194304)(t:Bs)(op:Int)(s:Sr)(hp:Pre (fun a o=>rb (begM ts t a o) fun _ a o=>rb (exM ts f .op a o) fun x b p=>ret (mkU op 0 x) b (p-1)) s) :
  ∃x s',Post (fun a o=>rb (begM ts t a o) fun _ a o=>rb (exM ts f .op a o) fun x b p=>ret (mkU op 0 x) b (p-1)) s x s'∧DC Tryz.prog 184 [.pt 0 0,.im (.string ⟨(t).toArray⟩),(.im (.int .i64 (op)))] [rbx ts s] (exV x) [rbx ts s']:=by
 obtain⟨s1,q1,b1,d1⟩:=mX ts hts s t hp.fst
 have p1:=hp.snd q1
 obtain⟨x,s2,q2,d2⟩:=hO s1 p1.fst
 have p2:=p1.snd q2
 refine⟨mkU op 0 x,⟨s2.a,IntKind.i64.wrap (s2.o-1),s2.e⟩,q1.bind (q2.bind (postDec (fun h=>by obtain⟨h0,e⟩:=Df q2 h;rw[e];exact(b1 h0).2) p2)),?_⟩
 obtain⟨a,o,e⟩:=s
 obtain⟨a1,o1,e1⟩:=s1
 obtain⟨a2,o2,e2⟩:=s2
 clear q1 q2 p1 p2 hp b1
 simp only[rbx]at d1 d2 ⊢
 refine dcEnt 24 Tryz.func184 rfl [(0,.pt 0 0),(1,.im (.string ⟨(t).toArray⟩)),(2,(.im (.int .i64 (op))))] ?_
 refine wG tE TI ?_
 refine aA [0] d1 TI (A4 aB aC @aF @aE) (A4 aI aJ @aN @aO) ?_
 refine goG tE TI ?_
 refine wG tE TI ?_
 refine aA [0] d2 TI (A4 aB aC @aF @aE) (A4 aI aJ @aN @aO) ?_
 refine goG tE BN01 ?_
 refine wG tE BN01 ?_
 refine fiGen [.cell 6 46] (finG tE) ?_ rfl (idG (A4 aB aC @aF @aE))
 rw[mkU,jW,List.map_cons,List.map_nil,bW x]
 all_goals exact wkG (A4 aB aC @aF @aE)
def bH:=A11 @lX @cJ @fD @gQ @fG @gP @jP @rY @lW @cH @eF
theorem Kw(ts:List Tk)(a:Nat)(o e:Int)(he:e≠0):DC Tryz.prog 123 [.pt 0 0] [.box [.sl (ts.map tkV) .ro,(.im (.int .i64 ((a:Nat)))),(.im (.int .i64 (o))),(.im (.int .i64 (e)))]] (exV ex0) [.box [.sl (ts.map tkV) .ro,(.im (.int .i64 ((a:Nat)))),(.im (.int .i64 (o))),(.im (.int .i64 (e)))]]:=by
 refine dcEnt 63 Tryz.func123 rfl [(0,.pt 0 0)] ?_
 refine wG bH he ?_
 refine fiGen [.cell 2 46] (finG bH) ?_ rfl (idG (A4 aB aC @aF @aE))
 rw[ex0,jW,List.map_nil]
 all_goals exact wkG (A4 aB aC @aF @aE)
theorem Kn{ts:List Tk}{f a o:Nat}(h1:(pk ts a).kind≠1)(h3:(pk ts a).kind≠3)(h2:(pk ts a).kind=2→accW (pk ts a).text=none)(h5:(pk ts a).kind=5→(pk ts a).text≠[40]∧(pk ts a).text≠[33]∧(pk ts a).text≠[45]):exM ts (f+1) .op a o=some (.bad a 3):=by
 rw[exM,if_neg h3,if_neg h1]
 by_cases k2:(pk ts a).kind=2
 ·rw[if_pos k2,h2 k2]
 rw[if_neg k2]
 by_cases k5:(pk ts a).kind=5
 ·rw[if_pos k5,if_neg (h5 k5).1,if_neg (fun h=>h.elim (h5 k5).2.1 (h5 k5).2.2)]
 ·rw[if_neg k5]
theorem postShift{α:Type}{m m':Nat→Nat→Option (Rs α)}{a b o:Nat}{x:α}{s':Sr}(h: ∀o,m' b o=m a o)(q:Post m' ⟨b,o,0⟩ x s'):Post m ⟨a,o,0⟩ x s':=by
 refine⟨fun h=>absurd rfl h,fun he=> ?_⟩
 obtain⟨p,hp,q⟩:=q.2 rfl
 have q:(∃a p_1:Nat,m' b p=some (.ok x a p_1)∧s'=⟨a,p_1,0⟩)∨ ∃b_1 e,m' b p=some (.bad b_1 e)∧s'.a=b_1∧s'.e=e∧e≠0:=q
 rw[h]at q
 exact⟨p,hp,q⟩
theorem lastop{ts:List Tk}{a o:Nat}(i1:DC Tryz.prog 112 [.pt 0 0,.im (.string ⟨([33]).toArray⟩)] [.box [.sl (ts.map tkV) .ro,(.im (.int .i64 ((a:Nat)))),(.im (.int .i64 ((o:Nat)))),(.im (.int .i64 (0)))]] (.im (.bool (false))) [.box [.sl (ts.map tkV) .ro,(.im (.int .i64 ((a:Nat)))),(.im (.int .i64 ((o:Nat)))),(.im (.int .i64 (0)))]])(i2:DC Tryz.prog 112 [.pt 0 0,.im (.string ⟨([45]).toArray⟩)] [.box [.sl (ts.map tkV) .ro,(.im (.int .i64 ((a:Nat)))),(.im (.int .i64 ((o:Nat)))),(.im (.int .i64 (0)))]] (.im (.bool (false))) [.box [.sl (ts.map tkV) .ro,(.im (.int .i64 ((a:Nat)))),(.im (.int .i64 ((o:Nat)))),(.im (.int .i64 (0)))]])(i3:DC Tryz.prog 112 [.pt 0 0,.im (.string ⟨([40]).toArray⟩)] [.box [.sl (ts.map tkV) .ro,(.im (.int .i64 ((a:Nat)))),(.im (.int .i64 ((o:Nat)))),(.im (.int .i64 (0)))]] (.im (.bool (false))) [.box [.sl (ts.map tkV) .ro,(.im (.int .i64 ((a:Nat)))),(.im (.int .i64 ((o:Nat)))),(.im (.int .i64 (0)))]])(ik:DC Tryz.prog 176 [.pt 0 0,(.im (.int .i64 (3)))] [.box [.sl (ts.map tkV) .ro,(.im (.int .i64 ((a:Nat)))),(.im (.int .i64 ((o:Nat)))),(.im (.int .i64 (0)))]] (.im (.bool (false))) [.box [.sl (ts.map tkV) .ro,(.im (.int .i64 ((a:Nat)))),(.im (.int .i64 ((o:Nat)))),(.im (.int .i64 (0)))]])(il:DC Tryz.prog 186 [.pt 0 0,.im (.string ⟨(ldW).toArray⟩)] [.box [.sl (ts.map tkV) .ro,(.im (.int .i64 ((a:Nat)))),(.im (.int .i64 ((o:Nat)))),(.im (.int .i64 (0)))]] (.im (.int .i64 (0))) [.box [.sl (ts.map tkV) .ro,(.im (.int .i64 ((a:Nat)))),(.im (.int .i64 ((o:Nat)))),(.im (.int .i64 (0)))]])(ix:DC Tryz.prog 186 [.pt 0 0,.im (.string ⟨(sxW).toArray⟩)] [.box [.sl (ts.map tkV) .ro,(.im (.int .i64 ((a:Nat)))),(.im (.int .i64 ((o:Nat)))),(.im (.int .i64 (0)))]] (.im (.int .i64 (0))) [.box [.sl (ts.map tkV) .ro,(.im (.int .i64 ((a:Nat)))),(.im (.int .i64 ((o:Nat)))),(.im (.int .i64 (0)))]]){n:ByteArray}{a1:Nat}{o1 e1:Int}(d:DC Tryz.prog 127 [.pt 0 0] [.box [.sl (ts.map tkV) .ro,(.im (.int .i64 ((a:Nat)))),(.im (.int .i64 ((o:Nat)))),(.im (.int .i64 (0)))]] (.im (.string n)) [.box [.sl (ts.map tkV) .ro,(.im (.int .i64 ((a1:Nat)))),(.im (.int .i64 (o1))),(.im (.int .i64 (e1)))]]):DC Tryz.prog 123 [.pt 0 0] [.box [.sl (ts.map tkV) .ro,(.im (.int .i64 ((a:Nat)))),(.im (.int .i64 ((o:Nat)))),(.im (.int .i64 (0)))]] (exV (.mk 2 0 n 0 [])) [.box [.sl (ts.map tkV) .ro,(.im (.int .i64 ((a1:Nat)))),(.im (.int .i64 (o1))),(.im (.int .i64 (e1)))]]:=by
 unfold ldW at il
 unfold sxW at ix
 refine dcEnt 63 Tryz.func123 rfl [(0,.pt 0 0)] ?_
 refine wG bH TI ?_
 refine aA [0] i1 TI (A4 aB aC @aF @aE) (A4 aI aJ @aN @aO) ?_
 refine goG bH TI ?_
 refine wG bH TI ?_
 refine aA [0] i2 TI (A4 aB aC @aF @aE) (A4 aI aJ @aN @aO) ?_
 refine goG bH TI ?_
 refine wG bH TI ?_
 refine aA [0] i3 TI (A4 aB aC @aF @aE) (A4 aI aJ @aN @aO) ?_
 refine goG bH TI ?_
 refine wG bH TI ?_
 refine aA [0] ik TI (A4 aB aC @aF @aE) (A4 aI aJ @aN @aO) ?_
 refine goG bH TI ?_
 refine wG bH TI ?_
 refine aA [0] il TI (A4 aB aC @aF @aE) (A4 aI aJ @aN @aO) ?_
 refine goG bH TI ?_
 refine aA [0] ix TI (A4 aB aC @aF @aE) (A4 aI aJ @aN @aO) ?_
 refine goG bH TI ?_
 refine wG bH TI ?_
 refine aA [0] d TI (A4 aB aC @aF @aE) (A4 aI aJ @aN @aO) ?_
 refine goG bH TI ?_
 refine wG bH TI ?_
 refine fiGen [.cell 2 46] (finG bH) ?_ rfl (idG (A4 aB aC @aF @aE))
 rw[jW,List.map_nil]
 all_goals exact wkG (A4 aB aC @aF @aE)
theorem noop{ts:List Tk}{f a o:Nat}(hts:ts.length≤4194304)(i1:DC Tryz.prog 112 [.pt 0 0,.im (.string ⟨([33]).toArray⟩)] [.box [.sl (ts.map tkV) .ro,(.im (.int .i64 ((a:Nat)))),(.im (.int .i64 ((o:Nat)))),(.im (.int .i64 (0)))]] (.im (.bool (false))) [.box [.sl (ts.map tkV) .ro,(.im (.int .i64 ((a:Nat)))),(.im (.int .i64 ((o:Nat)))),(.im (.int .i64 (0)))]])(i2:DC Tryz.prog 112 [.pt 0 0,.im (.string ⟨([45]).toArray⟩)] [.box [.sl (ts.map tkV) .ro,(.im (.int .i64 ((a:Nat)))),(.im (.int .i64 ((o:Nat)))),(.im (.int .i64 (0)))]] (.im (.bool (false))) [.box [.sl (ts.map tkV) .ro,(.im (.int .i64 ((a:Nat)))),(.im (.int .i64 ((o:Nat)))),(.im (.int .i64 (0)))]])(i3:DC Tryz.prog 112 [.pt 0 0,.im (.string ⟨([40]).toArray⟩)] [.box [.sl (ts.map tkV) .ro,(.im (.int .i64 ((a:Nat)))),(.im (.int .i64 ((o:Nat)))),(.im (.int .i64 (0)))]] (.im (.bool (false))) [.box [.sl (ts.map tkV) .ro,(.im (.int .i64 ((a:Nat)))),(.im (.int .i64 ((o:Nat)))),(.im (.int .i64 (0)))]])(ik:DC Tryz.prog 176 [.pt 0 0,(.im (.int .i64 (3)))] [.box [.sl (ts.map tkV) .ro,(.im (.int .i64 ((a:Nat)))),(.im (.int .i64 ((o:Nat)))),(.im (.int .i64 (0)))]] (.im (.bool (false))) [.box [.sl (ts.map tkV) .ro,(.im (.int .i64 ((a:Nat)))),(.im (.int .i64 ((o:Nat)))),(.im (.int .i64 (0)))]])(il:DC Tryz.prog 186 [.pt 0 0,.im (.string ⟨(ldW).toArray⟩)] [.box [.sl (ts.map tkV) .ro,(.im (.int .i64 ((a:Nat)))),(.im (.int .i64 ((o:Nat)))),(.im (.int .i64 (0)))]] (.im (.int .i64 (0))) [.box [.sl (ts.map tkV) .ro,(.im (.int .i64 ((a:Nat)))),(.im (.int .i64 ((o:Nat)))),(.im (.int .i64 (0)))]])(ix:DC Tryz.prog 186 [.pt 0 0,.im (.string ⟨(sxW).toArray⟩)] [.box [.sl (ts.map tkV) .ro,(.im (.int .i64 ((a:Nat)))),(.im (.int .i64 ((o:Nat)))),(.im (.int .i64 (0)))]] (.im (.int .i64 (0))) [.box [.sl (ts.map tkV) .ro,(.im (.int .i64 ((a:Nat)))),(.im (.int .i64 ((o:Nat)))),(.im (.int .i64 (0)))]])(hM:exM ts (f+1) .op a o=some (.bad a 3))(k1:(pk ts a).kind≠1): ∃x s',Post (exM ts (f+1) .op) ⟨a,o,0⟩ x s'∧DC Tryz.prog 123 [.pt 0 0] [rbx ts ⟨a,o,0⟩] (exV x) [rbx ts s']:=by
 obtain⟨n,s',q,_,d⟩:=rQ ts hts ⟨a,o,0⟩ (fun _=>⟨o,rfl,Sm.nm ts a o⟩)
 obtain⟨o2,ho2,q2⟩:=q.2 rfl
 cases ho2
 have hN:nmM ts a o=some (.bad a 3):=by unfold nmM takM;rw[if_pos k1];rfl
 obtain⟨a1,o1,e1⟩:=s'
 rcases q2 with ⟨b,p,z1,_⟩|⟨b,e,z1,z2,z3,z4⟩
 ·rw[hN]at z1;cases z1
 rw[hN]at z1
 cases z1
 cases z2
 cases z3
 exact⟨.mk 2 0 n 0 [],⟨_,o1,_⟩,Post.of_bad hM (by decide),lastop i1 i2 i3 ik il ix d⟩
theorem nmop{ts:List Tk}{f a o:Nat}(hts:ts.length≤4194304)(i1:DC Tryz.prog 112 [.pt 0 0,.im (.string ⟨([33]).toArray⟩)] [.box [.sl (ts.map tkV) .ro,(.im (.int .i64 ((a:Nat)))),(.im (.int .i64 ((o:Nat)))),(.im (.int .i64 (0)))]] (.im (.bool (false))) [.box [.sl (ts.map tkV) .ro,(.im (.int .i64 ((a:Nat)))),(.im (.int .i64 ((o:Nat)))),(.im (.int .i64 (0)))]])(i2:DC Tryz.prog 112 [.pt 0 0,.im (.string ⟨([45]).toArray⟩)] [.box [.sl (ts.map tkV) .ro,(.im (.int .i64 ((a:Nat)))),(.im (.int .i64 ((o:Nat)))),(.im (.int .i64 (0)))]] (.im (.bool (false))) [.box [.sl (ts.map tkV) .ro,(.im (.int .i64 ((a:Nat)))),(.im (.int .i64 ((o:Nat)))),(.im (.int .i64 (0)))]])(i3:DC Tryz.prog 112 [.pt 0 0,.im (.string ⟨([40]).toArray⟩)] [.box [.sl (ts.map tkV) .ro,(.im (.int .i64 ((a:Nat)))),(.im (.int .i64 ((o:Nat)))),(.im (.int .i64 (0)))]] (.im (.bool (false))) [.box [.sl (ts.map tkV) .ro,(.im (.int .i64 ((a:Nat)))),(.im (.int .i64 ((o:Nat)))),(.im (.int .i64 (0)))]])(ik:DC Tryz.prog 176 [.pt 0 0,(.im (.int .i64 (3)))] [.box [.sl (ts.map tkV) .ro,(.im (.int .i64 ((a:Nat)))),(.im (.int .i64 ((o:Nat)))),(.im (.int .i64 (0)))]] (.im (.bool (false))) [.box [.sl (ts.map tkV) .ro,(.im (.int .i64 ((a:Nat)))),(.im (.int .i64 ((o:Nat)))),(.im (.int .i64 (0)))]])(il:DC Tryz.prog 186 [.pt 0 0,.im (.string ⟨(ldW).toArray⟩)] [.box [.sl (ts.map tkV) .ro,(.im (.int .i64 ((a:Nat)))),(.im (.int .i64 ((o:Nat)))),(.im (.int .i64 (0)))]] (.im (.int .i64 (0))) [.box [.sl (ts.map tkV) .ro,(.im (.int .i64 ((a:Nat)))),(.im (.int .i64 ((o:Nat)))),(.im (.int .i64 (0)))]])(ix:DC Tryz.prog 186 [.pt 0 0,.im (.string ⟨(sxW).toArray⟩)] [.box [.sl (ts.map tkV) .ro,(.im (.int .i64 ((a:Nat)))),(.im (.int .i64 ((o:Nat)))),(.im (.int .i64 (0)))]] (.im (.int .i64 (0))) [.box [.sl (ts.map tkV) .ro,(.im (.int .i64 ((a:Nat)))),(.im (.int .i64 ((o:Nat)))),(.im (.int .i64 (0)))]])(k1:(pk ts a).kind=1)(k3:(pk ts a).kind≠3): ∃x s',Post (exM ts (f+1) .op) ⟨a,o,0⟩ x s'∧DC Tryz.prog 123 [.pt 0 0] [rbx ts ⟨a,o,0⟩] (exV x) [rbx ts s']:=by
 obtain⟨n,s',q,_,d⟩:=rQ ts hts ⟨a,o,0⟩ (fun _=>⟨o,rfl,Sm.nm ts a o⟩)
 obtain⟨o2,ho2,q2⟩:=q.2 rfl
 cases ho2
 have hN:nmM ts a o=some (.ok (strA (pk ts a).text) (a+1) o):=by unfold nmM takM;rw[if_neg (by simpa using k1)];rfl
 rcases q2 with ⟨b,p,z1,rfl⟩|⟨b,e,z1,_⟩
 case inr=>rw[hN]at z1;cases z1
 rw[hN]at z1
 cases z1
 exact⟨.mk 2 0 (strA (pk ts a).text) 0 [],⟨a+1,o,0⟩,Post.of_ok (by rw[exM,if_neg k3,if_pos k1];rfl),lastop i1 i2 i3 ik il ix d⟩
theorem Ry{ts:List Tk}{f:Nat}(hts:ts.length≤4194304)(hok: ∀t∈ts,TkOk t)(hW: ∀t∈ts,TkW t)(hO:OpR ts f)(hE:ExR ts f):OpR ts (f+1):=by
 intro s hp
 by_cases hs:s.e=0
 case neg =>
  obtain⟨a,o,e⟩:=s;exact⟨ex0,⟨a,o,e⟩,Post.of_err hs rfl rfl,Kw ts a o e hs⟩
 obtain⟨a,o',e⟩:=s
 cases hs
 obtain⟨o,ho,r,hr⟩:=hp rfl
 cases ho
 have hw:=PE hW a
 have i1:=nR ts a o 0 [33]
 have i2:=nR ts a o 0 [45]
 have i3:=nR ts a o 0 [40]
 have ik:=kP ts a o 0 3 (by decide)
 have il:=mW ts a o 0 ldW (by decide)
 have ix:=mW ts a o 0 sxW (by decide)
 rw[show decide ((0:Int)=0)=true from rfl,Bool.true_and]at ik
 rw[fY]at i1 i2 i3
 have hno: ∀x:Bs,(pk ts a).kind≠5→x.head?.elim true isL=false→sees ts a x=false:=fun x h5 hx=>by
  unfold sees;rw[beq_eq_false_iff_ne.2 h5,Bool.or_false]
  by_cases h2:(pk ts a).kind=2
  ·have:=(Fc _ (tU.1 (hw.1 h2))).1
   cases b:(pk ts a).text==x with
   | false=>rw[Bool.and_false]
   | true =>
    rw[eq_of_beq b]at this;cases x with
    | nil=>cases this
    | cons c x=>exact absurd (this.symm.trans hx) (by decide)
  ·rw[beq_eq_false_iff_ne.2 h2,Bool.false_and]
 by_cases k5:(pk ts a).kind=5
 ·have k3:(pk ts a).kind≠3:=by omega
  have k1:(pk ts a).kind≠1:=by omega
  have k2:(pk ts a).kind≠2:=by omega
  rw[Qw (.inr k5)]at i1 i2 i3;rw[decide_eq_false k3]at ik;rw[Tf hw k2 (by decide)]at il ix
  by_cases h33:(pk ts a).text=[33]
  ·have hM: ∀o,exM ts (f+1) .op a o=rb (begM ts [33] a o) fun _ a o=>rb (exM ts f .op a o) fun x b p=>ret (mkU 16 0 x) b (p-1):=fun o=>by
    rw[exM,if_neg k3,if_neg k1,if_neg k2,if_pos k5,if_neg (by rw[h33];decide),if_pos (by rw[h33];decide),h33]
    rfl
   obtain⟨x,s',q,d⟩:=Ug hO hts [33] 16 ⟨a,o,0⟩ (Pre.congr (fun _=>funext hM) hp)
   refine⟨x,s',Post.congr (fun _=>funext hM) q,?_⟩
   obtain⟨a1,o1,e1⟩:=s';clear q hM hr hp;rw[h33]at i1 i2 i3;simp only[rbx]at d ⊢;refine dcEnt 63 Tryz.func123 rfl [(0,.pt 0 0)] ?_
   refine wG bH TI ?_;refine aA [0] i1 TI (A4 aB aC @aF @aE) (A4 aI aJ @aN @aO) ?_;refine goG bH TI ?_;refine wG bH TI ?_;refine aA [0] d TI (A4 aB aC @aF @aE) (A4 aI aJ @aN @aO) ?_;refine goG bH BN01 ?_;refine wG bH BN01 ?_;refine fiGen [.cell 2 46] (finG bH) ?_ rfl (idG (A4 aB aC @aF @aE))
   rw[bW x]
   all_goals exact wkG (A4 aB aC @aF @aE)
  by_cases h45:(pk ts a).text=[45]
  ·have hM: ∀o,exM ts (f+1) .op a o=rb (begM ts [45] a o) fun _ a o=>rb (exM ts f .op a o) fun x b p=>ret (mkU 17 0 x) b (p-1):=fun o=>by
    rw[exM,if_neg k3,if_neg k1,if_neg k2,if_pos k5,if_neg (by rw[h45];decide),if_pos (by rw[h45];decide),h45]
    rfl
   obtain⟨x,s',q,d⟩:=Ug hO hts [45] 17 ⟨a,o,0⟩ (Pre.congr (fun _=>funext hM) hp)
   refine⟨x,s',Post.congr (fun _=>funext hM) q,?_⟩
   obtain⟨a1,o1,e1⟩:=s';clear q hM hr hp;rw[h45]at i1 i2 i3;simp only[rbx]at d ⊢;refine dcEnt 63 Tryz.func123 rfl [(0,.pt 0 0)] ?_
   refine wG bH TI ?_;refine aA [0] i1 TI (A4 aB aC @aF @aE) (A4 aI aJ @aN @aO) ?_;refine goG bH TI ?_;refine wG bH TI ?_;refine aA [0] i2 TI (A4 aB aC @aF @aE) (A4 aI aJ @aN @aO) ?_;refine goG bH TI ?_;refine wG bH TI ?_;refine aA [0] d TI (A4 aB aC @aF @aE) (A4 aI aJ @aN @aO) ?_;refine goG bH BN01 ?_;refine wG bH BN01 ?_;refine fiGen [.cell 2 46] (finG bH) ?_ rfl (idG (A4 aB aC @aF @aE))
   rw[bW x]
   all_goals exact wkG (A4 aB aC @aF @aE)
  by_cases h40:(pk ts a).text=[40]
  ·have hM: ∀o,exM ts (f+1) .op a o=inn ts (exM ts f (.ex 1)) id a o:=fun o=>by rw[exM,if_neg k3,if_neg k1,if_neg k2,if_pos k5,if_pos h40]
   obtain⟨x,s',q,d⟩:=Bm hE hts ⟨a,o,0⟩ (Pre.congr (fun _=>funext hM) hp)
   refine⟨x,s',Post.congr (fun _=>funext hM) q,?_⟩
   obtain⟨a1,o1,e1⟩:=s';clear q hM hr hp;rw[h40]at i1 i2 i3;simp only[rbx]at d ⊢;refine dcEnt 63 Tryz.func123 rfl [(0,.pt 0 0)] ?_
   refine wG bH TI ?_;refine aA [0] i1 TI (A4 aB aC @aF @aE) (A4 aI aJ @aN @aO) ?_;refine goG bH TI ?_;refine wG bH TI ?_;refine aA [0] i2 TI (A4 aB aC @aF @aE) (A4 aI aJ @aN @aO) ?_;refine goG bH TI ?_;refine wG bH TI ?_;refine aA [0] i3 TI (A4 aB aC @aF @aE) (A4 aI aJ @aN @aO) ?_;refine goG bH TI ?_;refine wG bH TI ?_;refine aA [0] d TI (A4 aB aC @aF @aE) (A4 aI aJ @aN @aO) ?_;refine goG bH BN01 ?_;refine wG bH BN01 ?_;refine fiGen [.cell 2 46] (finG bH) ?_ rfl (idG (A4 aB aC @aF @aE))
   rw[bW x]
   all_goals exact wkG (A4 aB aC @aF @aE)
  rw[beq_eq_false_iff_ne.2 h33]at i1;rw[beq_eq_false_iff_ne.2 h45]at i2;rw[beq_eq_false_iff_ne.2 h40]at i3;exact noop hts i1 i2 i3 ik il ix (Kn k1 k3 (fun h=>absurd h k2) fun _=>⟨h40,h33,h45⟩) k1
 rw[hno [33] k5 (by decide)]at i1
 rw[hno [45] k5 (by decide)]at i2
 rw[hno [40] k5 (by decide)]at i3
 by_cases k3:(pk ts a).kind=3
 ·obtain⟨n,s',q,_,_,d⟩:=xM ts hts hok ⟨a,o,0⟩ (fun _=>⟨o,rfl,Sm.tak ts 3 a o⟩)
  obtain⟨o2,ho2,q2⟩:=q.2 rfl;cases ho2
  have hT:takM ts 3 a o=some (.ok (pk ts a) (a+1) o):=by unfold takM;rw[if_neg (by simpa using k3)]
  rcases q2 with ⟨b,p,z1,rfl⟩|⟨b,e,z1,_⟩
  case inr=>rw[hT]at z1;cases z1
  rw[hT]at z1;injection z1 with z1
  injection z1 with z2 z3 z4
  cases z2;cases z3;cases z4
  refine⟨.mk 1 (pk ts a).n ByteArray.empty 0 [],_,Post.of_ok (by rw[exM,if_pos k3];rfl),?_⟩
  rw[decide_eq_true k3]at ik;clear q hr hp;simp only[rbx]at d ⊢;generalize pk ts a=t at d;refine dcEnt 63 Tryz.func123 rfl [(0,.pt 0 0)] ?_
  refine wG bH TI ?_;refine aA [0] i1 TI (A4 aB aC @aF @aE) (A4 aI aJ @aN @aO) ?_;refine goG bH TI ?_;refine wG bH TI ?_;refine aA [0] i2 TI (A4 aB aC @aF @aE) (A4 aI aJ @aN @aO) ?_;refine goG bH TI ?_;refine wG bH TI ?_;refine aA [0] i3 TI (A4 aB aC @aF @aE) (A4 aI aJ @aN @aO) ?_;refine goG bH TI ?_;refine wG bH TI ?_;refine aA [0] ik TI (A4 aB aC @aF @aE) (A4 aI aJ @aN @aO) ?_;refine goG bH TI ?_;refine wG bH TI ?_;refine aA [0] d TI (A4 aB aC @aF @aE) (A4 aI aJ @aN @aO) ?_;refine goG bH TI ?_;refine wG bH TI ?_;refine fiGen [.cell 2 46] (finG bH) ?_ rfl (idG (A4 aB aC @aF @aE))
  rw[jW,List.map_nil]
  all_goals exact wkG (A4 aB aC @aF @aE)
 rw[decide_eq_false k3]at ik
 by_cases k2:(pk ts a).kind=2
 case neg =>
  rw[Tf hw k2 (by decide)]at il ix
  by_cases k1:(pk ts a).kind=1
  ·exact nmop hts i1 i2 i3 ik il ix k1 k3
  ·exact noop hts i1 i2 i3 ik il ix (Kn k1 k3 (fun h=>absurd h k2) fun h=>absurd h k5) k1
 have k1:(pk ts a).kind≠1:=by omega
 have hlt:a<ts.length:=eT k2 (by decide)
 have hwa:=aQ (m:=a) (N:=4194304) (by omega) (by decide)
 rcases Yk hw k2 with ⟨z,l0,x0⟩|⟨w,z,l0,w0⟩|⟨w,z,l0,x0,w0⟩
 ·rw[l0]at il
  rw[x0]at ix;exact noop hts i1 i2 i3 ik il ix (Kn k1 k3 (fun _=>z) fun h=>absurd h k5) k1
 ·have hM: ∀o,exM ts (f+1) .op a o=rb (inn ts (exM ts f (.ex 1)) id (a+1) o) fun x a o=>ret (mkU 18 w x) a o:=fun o=>by
   rw[exM,if_neg k3,if_neg k1,if_pos k2,z,←KU]
  have hp2:Pre (fun a o=>rb (inn ts (exM ts f (.ex 1)) id a o) fun x a o=>ret (mkU 18 w x) a o) ⟨a+1,o,0⟩:=fun _=>⟨o,rfl,r,by rw[←hr,hM]⟩
  obtain⟨x,s',q,d⟩:=Bm hE hts ⟨a+1,o,0⟩ hp2.fst;have qq:=q.bind (k:=fun x a o=>ret (mkU 18 w x) a o) (Post.ret (x:=mkU 18 w x) (hp2.snd q))
  refine⟨mkU 18 w x,s',postShift (fun o=>(hM o).symm) qq,?_⟩
  obtain⟨a1,o1,e1⟩:=s';rw[l0]at il;clear q qq hM hr hp hp2 l0;simp only[rbx]at d ⊢;unfold ldW at il;unfold sxW at ix;refine dcEnt 63 Tryz.func123 rfl [(0,.pt 0 0)] ?_
  refine wG bH TI ?_;refine aA [0] i1 TI (A4 aB aC @aF @aE) (A4 aI aJ @aN @aO) ?_;refine goG bH TI ?_;refine wG bH TI ?_;refine aA [0] i2 TI (A4 aB aC @aF @aE) (A4 aI aJ @aN @aO) ?_;refine goG bH TI ?_;refine wG bH TI ?_;refine aA [0] i3 TI (A4 aB aC @aF @aE) (A4 aI aJ @aN @aO) ?_;refine goG bH TI ?_;refine wG bH TI ?_;refine aA [0] ik TI (A4 aB aC @aF @aE) (A4 aI aJ @aN @aO) ?_;refine goG bH TI ?_;refine wG bH TI ?_;refine aA [0] il TI (A4 aB aC @aF @aE) (A4 aI aJ @aN @aO) ?_;refine goG bH TI ?_;refine aA [0] ix TI (A4 aB aC @aF @aE) (A4 aI aJ @aN @aO) ?_;refine goG bH w0 ?_;refine wG bH (AI w0 hwa) ?_;refine aA [0] d TI (A4 aB aC @aF @aE) (A4 aI aJ @aN @aO) ?_;refine goG bH BN01 ?_;refine wG bH BN01 ?_;refine fiGen [.cell 2 46] (finG bH) ?_ rfl (idG (A4 aB aC @aF @aE))
  rw[mkU,jW,List.map_cons,List.map_nil,bW x]
  all_goals exact wkG (A4 aB aC @aF @aE)
 ·have hM: ∀o,exM ts (f+1) .op a o=rb (inn ts (exM ts f (.ex 1)) id (a+1) o) fun x a o=>ret (mkU 19 w x) a o:=fun o=>by
   rw[exM,if_neg k3,if_neg k1,if_pos k2,z,←KU]
  have hp2:Pre (fun a o=>rb (inn ts (exM ts f (.ex 1)) id a o) fun x a o=>ret (mkU 19 w x) a o) ⟨a+1,o,0⟩:=fun _=>⟨o,rfl,r,by rw[←hr,hM]⟩
  obtain⟨x,s',q,d⟩:=Bm hE hts ⟨a+1,o,0⟩ hp2.fst;have qq:=q.bind (k:=fun x a o=>ret (mkU 19 w x) a o) (Post.ret (x:=mkU 19 w x) (hp2.snd q))
  refine⟨mkU 19 w x,s',postShift (fun o=>(hM o).symm) qq,?_⟩
  obtain⟨a1,o1,e1⟩:=s';rw[l0]at il;rw[x0]at ix;clear q qq hM hr hp hp2 l0 x0;simp only[rbx]at d ⊢;unfold ldW at il;unfold sxW at ix;refine dcEnt 63 Tryz.func123 rfl [(0,.pt 0 0)] ?_
  refine wG bH TI ?_;refine aA [0] i1 TI (A4 aB aC @aF @aE) (A4 aI aJ @aN @aO) ?_;refine goG bH TI ?_;refine wG bH TI ?_;refine aA [0] i2 TI (A4 aB aC @aF @aE) (A4 aI aJ @aN @aO) ?_;refine goG bH TI ?_;refine wG bH TI ?_;refine aA [0] i3 TI (A4 aB aC @aF @aE) (A4 aI aJ @aN @aO) ?_;refine goG bH TI ?_;refine wG bH TI ?_;refine aA [0] ik TI (A4 aB aC @aF @aE) (A4 aI aJ @aN @aO) ?_;refine goG bH TI ?_;refine wG bH TI ?_;refine aA [0] il TI (A4 aB aC @aF @aE) (A4 aI aJ @aN @aO) ?_;refine goG bH TI ?_;refine aA [0] ix TI (A4 aB aC @aF @aE) (A4 aI aJ @aN @aO) ?_;refine goG bH w0 ?_;refine wG bH (AI w0 hwa) ?_;refine aA [0] d TI (A4 aB aC @aF @aE) (A4 aI aJ @aN @aO) ?_;refine goG bH BN01 ?_;refine wG bH BN01 ?_;refine fiGen [.cell 2 46] (finG bH) ?_ rfl (idG (A4 aB aC @aF @aE))
  rw[mkU,jW,List.map_cons,List.map_nil,bW x]
  all_goals exact wkG (A4 aB aC @aF @aE)
def rT:=A3 @Lz @uQ @wS
theorem Up:Catch Tryz.prog 76 61:=by
 refine Catch.of (N:=19) Tryz.func76 rfl (by decide) rfl rfl rfl Tryz.results76 (fun u v a b=> ?_) (fun u v=> ?_)
 ·refine wG rT TI ?_
  refine vY false ?_;refine goG rT TI ?_;refine wG rT TI ?_;refine Tb ?_;refine goG rT TI ?_;refine wG rT TI ?_;exact⟨rfl,rfl⟩
 ·refine wG rT TI ?_
  refine vY true ?_;refine goG rT TI ?_;refine wG rT TI ?_;exact⟨rfl,rfl⟩
def prsV{α:Type}(val:α→V)(zero:V):Rs α→V
 | .ok x _ _=> .tu [val x,.ag [(.im (.int .i64 (0))),(.im (.int .i64 (0)))]]
 | .bad b e=> .tu [zero,.ag [(.im (.int .i64 ((b:Nat)))),(.im (.int .i64 (e)))]]
def zJ:=A3 @fD @gQ @eF
def sM:=A4 aB aC @aF @aE
def Gk:=A4 aI aJ @aN @aO
theorem Uf{ts:List Tk}(hts:ts.length≤4194304)(f:Nat)(r:Rs Ex)(h:exM ts f (.ex 1) 0 0=some r):XC Tryz.prog 58 [.pt 0 0] ts 0 0 exV r:=by
 cases r with
 | bad b e =>
  refine xcEnt 5 Tryz.func58 rfl [(0,.pt 0 0)] ?_
  refine wG zJ TI ?_;exact PA.callP [0] ((wX hts f 1 0 0 (by decide) (by decide) _ h).fails) i1 sM Gk (fun _=>PFin.i rfl rfl)
 | ok x b p =>
  refine xcEnt 5 Tryz.func58 rfl [(0,.pt 0 0)] ?_
  refine wG zJ TI ?_;refine aA [0] ((wX hts f 1 0 0 (by decide) (by decide) _ h).good) i1 sM Gk ?_
  refine goG zJ BN01 ?_;refine wG zJ BN01 ?_;refine fiGen [.cell 2 46] (finG zJ) ?_ rfl (idG sM)
  rw[bW x]
  all_goals exact wkG sM
def pY:=A14 @cJ @fD @Lz @Qc @gQ @uQ @uP @iC @Pv @Lw @kH @cH @eF @wS
theorem Jh{ts:List Tk}(hts:ts.length≤4194304)(f:Nat)(z:Rs Ex)(hz:allM ts (exM ts f (.ex 1) 0 0)=some z):PC Tryz.prog 57 [.sl (ts.map tkV) .ro,.fn (.func 58) [] []] (prsV exV (exV (.mk 0 0 ByteArray.empty 0 [])) z):=by
 refine Gj (s:=[(0,.sl (ts.map tkV) .ro),(1,.fn (.func 58) [] [])]) (s1:=[(0,.sl (ts.map tkV) .ro),(1,.fn (.func 58) [] []),(4,.pt 0 0),(5,.pt 1 0)]) (l1:=[.box [(.im (.int .i64 (0))),.im (.int .u32 0),.im (.string ByteArray.empty),(.im (.int .i64 (0))),.sl [] .nl],.box [(.im (.int .i64 (0))),(.im (.int .i64 (0)))]]) 1 25 Up Tryz.func57 rfl (by decide) rfl rfl rfl ?_ rfl ?_
 ·rw[AC]
  refine goG pY TI ?_;exact⟨(fun e=>by cases e),rfl,rfl⟩
 rcases bS hz with ⟨b1,e1,h1,rfl⟩|⟨x,a1,o1,h1,h⟩
 ·refine wG pY TI ?_
  refine PA.callS [2] ((Uf hts f _ h1).fails) TI sM Gk ?_;show FinD _ _ _ _ _ _ ⟨_,ofl [.box [(.im (.int .i64 (0))),.im (.int .u32 0),.im (.string ByteArray.empty),(.im (.int .i64 (0))),.sl [] .nl],.box [(.im (.int .i64 (0))),(.im (.int .i64 (0)))],.box (List.replicate 3 .dead)]⟩
  refine FinD.pan 1 (by simp) rfl ?_
  refine fiGenO [.cell 4 46,.cell 5 61] (finG pY) ?_
  all_goals exact wkG sM
 refine wG pY TI ?_
 refine aA [2] ((Uf hts f _ h1).good) TI sM Gk ?_
 refine goG pY BN01 ?_
 rcases bA h with ⟨hlt,h⟩|⟨hlt,h⟩
 ·have hl:(a1:Int)<(ts.length:Int):=by omega
  cases h
  refine wG pY (AI hl @List.length_map.{0,0}) ?_;refine PA.callS [2] (qS ts a1 o1 3) TI sM Gk ?_;show FinD _ _ _ _ _ _ ⟨_,ofl [.box [(.im (.int .i64 (0))),.im (.int .u32 0),.im (.string ByteArray.empty),(.im (.int .i64 (0))),.sl [] .nl],.box [(.im (.int .i64 (0))),(.im (.int .i64 (0)))],.box (List.replicate 3 .dead),_]⟩
  refine FinD.pan 1 (by simp) rfl ?_
  refine fiGenO [.cell 4 46,.cell 5 61] (finG pY) ?_
  all_goals exact wkG sM
 ·have hl: ¬(a1:Int)<(ts.length:Int):=by omega
  cases h
  refine wG pY (A3 hl @List.length_map.{0,0} BN01) ?_;refine FinD.ret 1 rfl ?_;refine fiGenO [.cell 4 46,.cell 5 61] (finG pY) ?_
  show WkF _ _ _ (.tu [exV x,.ag [(.im (.int .i64 (0))),(.im (.int .i64 (0)))]]);rw[bW x]
  all_goals exact wkG sM
def Bq:=A10 aB aC @aL @aK bM bV dC cC aG cK
def Sl:=A10 aI aJ @bI @bF cP iT kU kV aR vZ
def UNT:=A6 @Ze @Vn @Zc @Zb @Zd @Vo
def pZ:=A14 @oM @cJ @Lz @Qc @pI @uQ @uP @iC @Pv @Lw @kH @mP @cH @wS
theorem wQ{ts:List Tk}(hts:ts.length≤4194304)(hok: ∀t∈ts,TkOk t)(f:Nat)(z:Rs Un)(hz:allM ts (uniM ts f ⟨[],[],[]⟩ 0 0)=some z):PC Tryz.prog 33 [.sl (ts.map tkV) .ro,.fn (.func 34) [] []] (prsV unV (unV ⟨[],[],[]⟩) z):=by
 refine Gj (s:=[(0,.sl (ts.map tkV) .ro),(1,.fn (.func 34) [] [])]) (s1:=[(0,.sl (ts.map tkV) .ro),(1,.fn (.func 34) [] []),(4,.pt 0 0),(5,.pt 1 0)]) (l1:=[.box [.sl [] .nl,.sl [] .nl,.sl [] .nl],.box [(.im (.int .i64 (0))),(.im (.int .i64 (0)))]]) 1 25 Up Tryz.func33 rfl (by decide) rfl rfl rfl ?_ rfl ?_
 ·rw[AC]
  refine goG pZ TI ?_;exact⟨(fun e=>by cases e),rfl,rfl⟩
 rcases bS hz with ⟨b1,e1,h1,rfl⟩|⟨x,a1,o1,h1,h⟩
 ·refine wG pZ TI ?_
  refine PA.callS [2] ((DA hts hok _ h1).fails) TI Bq Sl ?_;show FinD _ _ _ _ _ _ ⟨_,ofl [.box [.sl [] .nl,.sl [] .nl,.sl [] .nl],.box [(.im (.int .i64 (0))),(.im (.int .i64 (0)))],.box (List.replicate 3 .dead)]⟩
  refine FinD.pan 1 (by simp) rfl ?_
  refine fiGenO [.cell 4 27,.cell 5 61] (finG pZ) ?_
  all_goals exact wkG Bq
 refine wG pZ TI ?_
 refine aA [2] ((DA hts hok _ h1).good) TI Bq Sl ?_
 refine goG pZ UNT ?_
 rcases bA h with ⟨hlt,h⟩|⟨hlt,h⟩
 ·have hl:(a1:Int)<(ts.length:Int):=by omega
  cases h
  refine wG pZ (AI hl @List.length_map.{0,0}) ?_;refine PA.callS [2] (qS ts a1 o1 3) TI Bq Sl ?_;show FinD _ _ _ _ _ _ ⟨_,ofl [.box [.sl [] .nl,.sl [] .nl,.sl [] .nl],.box [(.im (.int .i64 (0))),(.im (.int .i64 (0)))],.box (List.replicate 3 .dead),_]⟩
  refine FinD.pan 1 (by simp) rfl ?_
  refine fiGenO [.cell 4 27,.cell 5 61] (finG pZ) ?_
  all_goals exact wkG Bq
 ·have hl: ¬(a1:Int)<(ts.length:Int):=by omega
  cases h
  refine wG pZ (A3 hl @List.length_map.{0,0} UNT) ?_;refine FinD.ret 1 rfl ?_;refine fiGenO [.cell 4 27,.cell 5 61] (finG pZ) ?_
  show WkF _ _ _ (.tu [unV x,.ag [(.im (.int .i64 (0))),(.im (.int .i64 (0)))]]);rw[kS x]
  all_goals exact wkG Bq
def nG:=A7 @jV @fD @gQ @fG @mR @jT @eF
def kR:=A4 aB aC @aF @aE
theorem DQ: ∀(e:Ex),fitE e→ ∀k:Int, -65536≤k→k≤65536→PC Tryz.prog 60 [exV e,(.im (.int .i64 (k)))] (.im (.bool (esh e k))):=by
 intro e
 induction e using Ex.induct with
 | h o n s w l ih =>
 intro hf k hk1 hk2
 obtain⟨hl,hfl⟩:=pW hf
 have hw:=cI (n:=k-1) (by omega)
 by_cases h1:k<1
 ·have:esh (.mk o n s w l) k=false:=by rw[Fq];simp;intro h;omega
  rw[this];refine pcEnt 22 Tryz.func60 rfl [(0,exV (.mk o n s w l)),(1,(.im (.int .i64 (k))))] ?_
  rw[jW];refine wG nG h1 ?_;refine fiGenO [.tmp 4] (finG nG) ?_
  all_goals exact wkG kR
 refine pcEnt 22 Tryz.func60 rfl [(0,exV (.mk o n s w l)),(1,(.im (.int .i64 (k))))] ?_
 refine wG nG (AI h1 @jW) ?_
 refine aT ?_
 refine ALp.cutP 0 [(1,(.im (.int .i64 (k)))),(4,(.im (.bool (false)))),(10,.sl (l.map exV) .ro),(11,(.im (.int .i64 (l.length)))),(12,(.im (.int .i64 ((((0:Nat)):Int)))))] [] kR ?_
 refine ALp.upto l.length (AllTo (fun t=>esh t (k-1)) l) (fun m=>⟨dn 22 [(1,(.im (.int .i64 (k)))),(4,(.im (.bool (false)))),(10,.sl (l.map exV) .ro),(11,(.im (.int .i64 (l.length)))),(12,(.im (.int .i64 ((((m:Nat)):Int)))))],ofl []⟩) ?_ 0 (Nat.zero_le _) (AllTo.zero _ _)
 intro m hm hI hnext
 by_cases hlt:m<l.length
 ·have hlt':(m:Int)<(l.length:Int):=by omega
  have hm1:=aQ hlt (by omega)
  have hg:=bJ hlt;have hc:=ih l[m] (List.getElem_mem hlt) (hfl _ (List.getElem_mem hlt)) (k-1) (by omega) (by omega)
  cases b:esh l[m] (k-1)with
  | false =>
   rw[b]at hc;have hr:esh (.mk o n s w l) k=false:=by rw[Fq,eR hlt b,Bool.and_false]
   rw[hr];refine wG nG (A11 hlt' hg @dJ @cQ @dH @dG @dI @cR @List.getElem?_map.{0,0} @Int.natCast_nonneg hw) ?_;refine AR.callP hc @bW kR ?_;refine goG nG TI ?_;refine wG nG TI ?_;refine fiGenO [.tmp 4] (finG nG) ?_
   all_goals exact wkG kR
  | true =>
   rw[b]at hc;refine wG nG (A11 hlt' hg @dJ @cQ @dH @dG @dI @cR @List.getElem?_map.{0,0} @Int.natCast_nonneg hw) ?_;refine AR.callP hc @bW kR ?_;refine goG nG TI ?_;refine wG nG hm1 ?_;refine ALp.cutP 0 [(1,(.im (.int .i64 (k)))),(4,(.im (.bool (false)))),(10,.sl (l.map exV) .ro),(11,(.im (.int .i64 (l.length)))),(12,(.im (.int .i64 ((((m+1:Nat)):Int)))))] [] kR ?_;exact hnext (m+1) (by omega) (by omega) (hI.succ hlt b)
 obtain rfl:m=l.length:=by omega
 clear hnext
 have hall:l.all (fun t=>esh t (k-1))=true:=List.all_eq_true.2 fun x hx=>by
  obtain⟨j,hj,rfl⟩:=List.getElem_of_mem hx;exact hI j hj hj
 have hr:esh (.mk o n s w l) k=true:=by rw[Fq,hall,Bool.and_true];exact decide_eq_true (by omega)
 rw[hr]
 have hn: ¬(l.length:Int)<(l.length:Int):=by omega
 refine wG nG hn ?_
 refine fiGenO [.tmp 4] (finG nG) ?_
 all_goals exact wkG kR
theorem t3:(3:Int)≠0:=by decide
theorem CP{e:Int}(h:e=3∨e=20):e≠0:=by omega
def fT:=A9 @lX @fD @gQ @uQ @Bu @rY @lW @eF @wS
theorem Sg(s:Bs)(hs:s.length≤4194304):PC Tryz.prog 22 [.im (.string ⟨(s).toArray⟩)] (.tu [exV (Xf s).1,(.im (.int .i64 ((Xf s).2)))]):=by
 have h1:=Se s hs
 obtain⟨hok,hts,hes⟩:=wB s
 unfold Xf
 generalize scnR s=q at h1 hok hts hes
 obtain⟨ts,e⟩:=q
 simp only at h1 hok hts hes ⊢
 by_cases he:e=0
 case neg =>
  rw[if_pos he];refine pcEnt 33 Tryz.func22 rfl [(0,.im (.string ⟨(s).toArray⟩))] ?_
  refine wG fT TI ?_;refine AR.callP h1 TI kR ?_;refine goG fT TI ?_;refine wG fT he ?_;refine fiGenO [.cell 2 46,.tmp 3] (finG fT) ?_
  all_goals exact wkG kR
 subst he
 rw[if_neg (by decide)]
 rcases Xg ts with ⟨b,e,hz,hx,he,hb⟩|⟨x,b,p,hz,hx,hr⟩
 ·have h2:=Jh (by omega) _ _ hz
  change PC _ _ _ (.tu [exV (.mk 0 0 ByteArray.empty 0 []),.ag [(.im (.int .i64 ((b:Nat)))),(.im (.int .i64 (e)))]])at h2;have he: ¬e=0:=CP he;rw[hx,if_pos he];refine pcEnt 33 Tryz.func22 rfl [(0,.im (.string ⟨(s).toArray⟩))] ?_
  refine wG fT TI ?_;refine AR.callP h1 TI kR ?_;refine goG fT TI ?_;refine wG fT TI ?_;refine AR.callP h2 TI kR ?_;refine goG fT BN01 ?_;refine wdG fT he ?_;refine fiGenO [.cell 2 46,.tmp 3] (finG fT) ?_
  all_goals exact wkG kR
 have h2:=Jh (by omega) _ _ hz
 change PC _ _ _ (.tu [exV x,.ag [(.im (.int .i64 (0))),(.im (.int .i64 (0)))]])at h2
 have hf:=(Ub hok _).2.1 _ _ _ _ _ _ hr
 have h3:=DQ x hf 64 (by decide) (by decide)
 rw[hx,if_neg (fun h=>h rfl)]
 simp only
 cases hl:esh x 64 with
 | true =>
  rw[hl]at h3;rw[if_pos rfl];refine pcEnt 33 Tryz.func22 rfl [(0,.im (.string ⟨(s).toArray⟩))] ?_
  refine wG fT TI ?_;refine AR.callP h1 TI kR ?_;refine goG fT TI ?_;refine wG fT TI ?_;refine AR.callP h2 TI kR ?_;refine goG fT BN01 ?_;refine wG fT BN01 ?_;refine AR.callP h3 @bW kR ?_;refine goG fT TI ?_;refine wG fT TI ?_;refine fiGenO [.cell 2 46,.tmp 3] (finG fT) ?_
  rw[bW x]
  all_goals exact wkG kR
 | false =>
  rw[hl]at h3;rw[if_neg (by decide)]
  refine pcEnt 33 Tryz.func22 rfl [(0,.im (.string ⟨(s).toArray⟩))] ?_
  refine wG fT TI ?_;refine AR.callP h1 TI kR ?_;refine goG fT TI ?_;refine wG fT TI ?_;refine AR.callP h2 TI kR ?_;refine goG fT BN01 ?_;refine wG fT BN01 ?_;refine AR.callP h3 @bW kR ?_;refine goG fT TI ?_;refine wG fT TI ?_;refine fiGenO [.cell 2 46,.tmp 3] (finG fT) ?_
  all_goals exact wkG kR
def lT:=A16 @oN @iA @cJ @lG @FI @FE @mC @zX @qC @jA @mB @mA @lZ @EW @oH (A4 @fH @zU @cH @jU)
theorem NV: ∀l:List Nd,fitNL l→cnt l≤4194304→ ∀lp:Bool,PC Tryz.prog 181 [.sl (l.map ndV) .ro,(.im (.bool (lp)))] (.sl ((flaL l lp).map plV) .ro):=by
 refine jN fun l hl hf hc lp=> ?_
 have hl1:=hf.1
 have hlen:=Ob l lp
 unfold flaL at hlen ⊢
 refine pcEnt 80 Tryz.func181 rfl [(0,.sl (l.map ndV) .ro),(1,(.im (.bool (lp))))] ?_
 refine wG lT TI ?_
 refine aT ?_
 refine ALp.ghost 5 [] .nl 269 8 ?_
 refine ALp.cutP 1 [(0,.sl (l.map ndV) .ro),(1,(.im (.bool (lp)))),(5,.sl (((l.take (0)).flatMap fun t=>flaT t lp).map plV) (.own 0)),(6,(.im (.int .i64 ((((0:Nat)):Int)))))] [.tip 269 8 ((l.take (0)).flatMap fun t=>flaT t lp).length] BN09 ?_
 refine ALp.upto l.length (fun _=>True) (fun m=>⟨dn 80 [(0,.sl (l.map ndV) .ro),(1,(.im (.bool (lp)))),(5,.sl (((l.take (m)).flatMap fun t=>flaT t lp).map plV) (.own 0)),(6,(.im (.int .i64 ((((m:Nat)):Int)))))],ofl [.tip 269 8 ((l.take (m)).flatMap fun t=>flaT t lp).length]⟩) ?_ 0 (Nat.zero_le _) trivial
 intro m hm _ hnext
 by_cases hlt:m<l.length
 case neg =>
  obtain rfl:m=l.length:=by omega
  clear hnext;rw[List.take_length];refine wG lT (AI @Int.lt_irrefl @List.length_map.{0,0}) ?_;refine fiGenO [.tmp 4] (finG lT) ?_
  all_goals exact wkG BN09
 have hlt':(m:Int)<(l.length:Int):=by omega
 have hm1:=aQ hlt (by omega)
 have hg:=bJ hlt
 have ht:=hf.2 _ (List.getElem_mem hlt)
 obtain⟨_,hs2⟩:=vM ht
 have hcl:=(lJ ht).2.2.2.2.2.1
 have hcs: ∀c∈subs l[m],1+cnt c≤cnt l:=fun c hc=>Ks (List.getElem_mem hlt) hc
 have hR:=fun c hc'=>hl l[m] (List.getElem_mem hlt) c hc' (hs2 c hc') (by have:=hcs c hc';omega)
 have q1:=hR l[m].l (by simp[subs]) (inL l[m] lp)
 have q2:=hR l[m].el (by simp[subs]) lp
 have q3:=fun c (hc:c∈l[m].cs)=>hR c (by simp[subs,hc]) lp
 have hsn:=nZ (fun t=>flaT t lp) hlt
 have hle:=qP (fun t=>flaT t lp) l (m+1)
 simp only[Dd l[m]]at hsn
 generalize hA:(l.take m).flatMap (fun t=>flaT t lp)=A at hsn ⊢
 obtain⟨B0,hB0⟩: ∃B0,B0=A++[(l[m],lp)]:=⟨_,rfl⟩
 obtain⟨B1,hB1⟩: ∃B1,B1=B0++flaL l[m].l (inL l[m] lp):=⟨_,rfl⟩
 obtain⟨Bf,hBf⟩: ∃Bf:Nat→List (Nd×Bool),∀j,Bf j=B1++flaL l[m].el lp++(l[m].cs.take j).flatMap fun c=>flaL c lp:=⟨_,fun _=>rfl⟩
 have hend:Bf l[m].cs.length=(l.take (m+1)).flatMap fun t=>flaT t lp:=by
  rw[hBf,List.take_length,←hsn,hB1,hB0];simp only[List.flatMap_cons,List.append_assoc,List.cons_append,List.nil_append]
 have hstep: ∀j (hj:j<l[m].cs.length),Bf j++flaL l[m].cs[j] lp=Bf (j+1):=fun j hj=>by
  rw[hBf,hBf,←nZ _ hj,List.append_assoc]
 have hlen2: ∀j,(Bf j).length≤(Bf l[m].cs.length).length:=fun j=>by
  rw[hBf,hBf,List.length_append,List.length_append (bs:=(l[m].cs.take l[m].cs.length).flatMap fun c=>flaL c lp),List.take_length]
  have:=qP (fun c=>flaL c lp) l[m].cs j
  omega
 have hz0:Bf 0=B1++flaL l[m].el lp:=by rw[hBf];simp
 have p0:A.map plV++[.ag [.im (.int .i64 l[m].kind),.im (.int .i64 l[m].width),.im (.string l[m].name),.sl (l[m].e.map exV) .ro,.sl (l[m].l.map ndV) .ro,.sl (l[m].el.map ndV) .ro,.sl (l[m].cs.map nlV) .ro,.im (.bool lp)]]=B0.map plV:=by rw[hB0];simp[plV]
 have p1:B0.map plV++(flaL l[m].l (inL l[m] lp)).map plV=B1.map plV:=by rw[hB1,List.map_append]
 have p2:B1.map plV++(flaL l[m].el lp).map plV=(Bf 0).map plV:=by rw[hz0,List.map_append]
 have n0:A.length+1=B0.length:=by rw[hB0];simp
 have n1:B0.length+(flaL l[m].l (inL l[m] lp)).length=B1.length:=by rw[hB1,List.length_append]
 have n2:B1.length+(flaL l[m].el lp).length=(Bf 0).length:=by rw[hz0,List.length_append]
 rw[hend]at hlen2
 have b2:(Bf 0).length*136≤140737488355328:=by have:=hlen2 0;omega
 have b1:B1.length*136≤140737488355328:=by have:=hlen2 0;omega
 have b0:B0.length*136≤140737488355328:=by have:=hlen2 0;omega
 clear hsn hA hB0 hB1 hR hs2
 have hin:inL l[m] lp=(lp||decide (l[m].kind=7)||decide (l[m].kind=8)):=rfl
 refine wG lT (A7 hlt' hg b0 p0 n0 @List.length_map.{0,0} ND) ?_
 refine wdG lT (A3 hlt' hg ND) ?_
 refine AR.callP q1 hin BN09 ?_
 refine goG lT (A5 p1 n1 b1 yO @List.length_map.{0,0}) ?_
 refine wdG lT (A3 hlt' hg ND) ?_
 refine AR.callP q2 TI BN09 ?_
 refine goG lT (A5 p2 n2 b2 yO @List.length_map.{0,0}) ?_
 refine wG lT TI ?_
 refine aT ?_
 refine ALp.cutP 1 [(0,.sl (l.map ndV) .ro),(1,(.im (.bool (lp)))),(5,.sl ((Bf (0)).map plV) (.own 0)),(6,(.im (.int .i64 ((m:Int))))),(7,(.im (.int .i64 ((((0:Nat)):Int)))))] [.tip 269 8 (Bf (0)).length] BN09 ?_
 refine ALp.upto l[m].cs.length (fun _=>True) (fun j=>⟨dn 80 [(0,.sl (l.map ndV) .ro),(1,(.im (.bool (lp)))),(5,.sl ((Bf (j)).map plV) (.own 0)),(6,(.im (.int .i64 ((m:Int))))),(7,(.im (.int .i64 ((((j:Nat)):Int)))))],ofl [.tip 269 8 (Bf (j)).length]⟩) ?_ 0 (Nat.zero_le _) trivial
 intro j hj _ hnext2
 by_cases hlu:j<l[m].cs.length
 case neg =>
  obtain rfl:j=l[m].cs.length:=by omega
  clear hnext2;rw[hend];refine whG lT (A5 hlt' hg @Int.lt_irrefl @List.length_map.{0,0} ND) ?_;refine Blk'.here (Thn.n ?_);refine wG lT hm1 ?_;refine ALp.cutP 1 [(0,.sl (l.map ndV) .ro),(1,(.im (.bool (lp)))),(5,.sl (((l.take (m+1)).flatMap fun t=>flaT t lp).map plV) (.own 0)),(6,(.im (.int .i64 ((((m+1:Nat)):Int)))))] [.tip 269 8 ((l.take (m+1)).flatMap fun t=>flaT t lp).length] BN09 ?_
  exact hnext (m+1) (by omega) (by omega) trivial
 have hlu':(j:Int)<(l[m].cs.length:Int):=by omega
 have hj1:=aQ hlu (by omega)
 have hg2:=bJ hlu
 have hc2:=q3 l[m].cs[j] (List.getElem_mem hlu)
 have hs3:=congrArg (List.map plV) (hstep j hlu)
 rw[List.map_append]at hs3
 have hs4:=congrArg List.length (hstep j hlu)
 rw[List.length_append]at hs4
 have hb1:(Bf (j+1)).length*136≤140737488355328:=by have:=hlen2 (j+1);omega
 refine wG lT (A6 hlt' hg hlu' hg2 @List.length_map.{0,0} ND) ?_
 refine AR.callP hc2 Ez BN09 ?_
 refine goG lT (A5 hs3 hs4 hb1 yO @List.length_map.{0,0}) ?_
 refine wG lT hj1 ?_
 refine ALp.cutP 1 [(0,.sl (l.map ndV) .ro),(1,(.im (.bool (lp)))),(5,.sl ((Bf (j+1)).map plV) (.own 0)),(6,(.im (.int .i64 ((m:Int))))),(7,(.im (.int .i64 ((((j+1:Nat)):Int)))))] [.tip 269 8 (Bf (j+1)).length] BN09 ?_
 exact hnext2 (j+1) (by omega) (by omega) trivial
def zM:=A11 @iA @cJ @dY @zX @jA @lD @Gq @fH @zU @cH @dM
theorem Uj(l:List (Nd×Bool))(hl:l.length≤4194304)(n:Nat)(hn:n≤l.length)(s:ByteArray):PC Tryz.prog 234 [.sl (l.map plV) .ro,(.im (.int .i64 ((n:Int)))),.im (.string s)] (.im (.bool ((labs (l.take n)).any fun x=>eqS x s))):=by
 refine pcEnt 30 Tryz.func234 rfl [(0,.sl (l.map plV) .ro),(1,(.im (.int .i64 ((n:Int))))),(2,.im (.string s))] ?_
 refine wG zM TI ?_
 refine aT ?_
 refine ALp.cutP 0 [(0,.sl (l.map plV) .ro),(1,(.im (.int .i64 ((n:Int))))),(2,.im (.string s)),(7,(.im (.int .i64 ((((0:Nat)):Int)))))] [] BN09 ?_
 refine ALp.upto n (fun m=>((labs (l.take m)).any fun x=>eqS x s)=false) (fun m=>⟨dn 30 [(0,.sl (l.map plV) .ro),(1,(.im (.int .i64 ((n:Int))))),(2,.im (.string s)),(7,(.im (.int .i64 ((((m:Nat)):Int)))))],ofl []⟩) ?_ 0 (Nat.zero_le _) rfl
 intro m hm hI hnext
 by_cases hlt:m<n
 case neg =>
  obtain rfl:m=n:=by omega
  clear hnext;rw[hI];refine wG zM @Int.lt_irrefl ?_;exact aD
 have hlt':(m:Int)<(n:Int):=by omega
 have hm1:=aQ hlt (by omega)
 have hlm:m<l.length:=by omega
 have hg:=bJ hlm
 have hst:=Iq hlm
 by_cases k13:l[m].1.kind=13
 case neg =>
  rw[if_neg (by simp[k13])]at hst
  refine wG zM (A5 hlt' hg k13 hm1 PL) ?_;refine ALp.cutP 0 [(0,.sl (l.map plV) .ro),(1,(.im (.int .i64 ((n:Int))))),(2,.im (.string s)),(7,(.im (.int .i64 ((((m+1:Nat)):Int)))))] [] BN09 ?_;exact hnext (m+1) (by omega) (by omega) (by rw[hst];exact hI)
 rw[if_pos (by simp[k13])]at hst
 cases b:eqS l[m].1.name s with
 | true =>
  have b':(l[m].1.name.toList==s.toList)=true:=b
  have hy:((labs (l.take n)).any fun x=>eqS x s)=true:=by
   refine List.any_eq_true.2 ⟨l[m].1.name,?_,b⟩;unfold labs;refine List.mem_flatMap.2 ⟨l[m],by rw[List.mem_take_iff_getElem];exact⟨m,by omega,rfl⟩,?_⟩
   simp[k13]
  rw[hy];refine wG zM (A5 hlt' hg k13 b' PL) ?_;exact aD
 | false =>
  have b':(l[m].1.name.toList==s.toList)=false:=b;refine wG zM (A6 hlt' hg k13 b' hm1 PL) ?_;refine ALp.cutP 0 [(0,.sl (l.map plV) .ro),(1,(.im (.int .i64 ((n:Int))))),(2,.im (.string s)),(7,(.im (.int .i64 ((((m+1:Nat)):Int)))))] [] BN09 ?_;exact hnext (m+1) (by omega) (by omega) (by rw[hst,List.any_append,hI];simp[b])
def rst(vs:List Va)(fs ls sn:List ByteArray)(p:Nd×Bool):Int :=
 if p.1.kind=1∨p.1.kind=3 then(if has vs p.1.name then 0 else 17)else if p.1.kind=5 then(if fs.any (fun x=>eqS p.1.name x)then 0 else 17)else if p.1.kind=12 then(if ls.any (fun x=>eqS p.1.name x)then 0 else 17)
 else if p.1.kind=10∨p.1.kind=11 then(if p.2 then 0 else 21)else if p.1.kind=13 then(if sn.any (fun x=>eqS p.1.name x)then 8 else 0)else 0
theorem IL(vs:List Va)(fs ls sn:List ByteArray)(p:Nd×Bool):chk1 vs fs ls sn p=if !(p.1.e.all fun x=>esh x 64)then 20 else if !stT p.1 then 2 else if !(p.1.e.all (knw vs))then 17 else rst vs fs ls sn p:=by
 unfold chk1 symT rst
 generalize (p.1.e.all fun x=>esh x 64)=a
 generalize stT p.1=b
 generalize p.1.e.all (knw vs)=c
 generalize has vs p.1.name=h1
 generalize (fs.any fun x=>eqS p.1.name x)=h2
 generalize (ls.any fun x=>eqS p.1.name x)=h3
 generalize (sn.any fun x=>eqS p.1.name x)=h4
 generalize p.1.kind=k
 generalize p.2=lp
 cases a
 ·rfl
 cases b
 ·rfl
 cases c
 ·rfl
 simp only[Bool.not_true,Bool.false_eq_true,if_false,Bool.true_and]
 by_cases k1:k=1
 ·subst k1;cases h1<;>simp
 by_cases k3:k=3
 ·subst k3;cases h1<;>simp
 by_cases k5:k=5
 ·subst k5;cases h2<;>simp
 by_cases k12:k=12
 ·subst k12;cases h3<;>simp
 by_cases k10:k=10
 ·subst k10;cases lp<;>simp
 by_cases k11:k=11
 ·subst k11;cases lp<;>simp
 by_cases k13:k=13
 ·subst k13;cases h4<;>simp
 simp[k1,k3,k5,k12,k10,k11,k13]
theorem zG(l:List ByteArray)(s:ByteArray):(l.any fun x=>eqS x s)=l.any fun x=>eqS s x:=by
 congr 1
 funext x
 exact CO x s
def eD:=A16 @iA @uR @cJ @Hc @jV @fD @dY @iR @zX @sA @fG @jA @lD @lC @Gq (A11 @So @nS @fH @rX @zU @cH @pF @Gn @jT @eF @dM)
theorem Ku(u:Un)(hfl:u.funcs.length≤4194304)(vs:List Va)(hv:vs.length≤4194304)(l:List (Nd×Bool))(hl:l.length≤4194304)(hf: ∀p∈l,fitN p.1)(k:Nat)(hk:k<l.length) :
  PC Tryz.prog 182 [unV u,(V.sl (vs.map vaV) .ro),.sl (l.map plV) .ro,(.im (.int .i64 ((k:Int))))] (.im (.int .i64 (chk1 vs (u.funcs.map Fun.name) (labs l) (labs (l.take k)) l[k]))):=by
 have hg:=bJ hk
 have hft:=hf _ (List.getElem_mem hk)
 generalize hp:l[k]=p at hg hft
 obtain⟨s,lp⟩:=p
 obtain⟨hI,hsz,⟨he1,he2⟩,h4,h5,h6,h7⟩:=lJ hft
 simp only at hft hI hsz he1 he2
 clear h4 h5 h6 h7 hI hp
 have h2:=NK s hft
 have h4:=Kz vs hv s.name
 have h5:=Ci u.funcs hfl u.funcs.length (Nat.le_refl _) s.name
 rw[List.take_length,show(u.funcs.any fun f=>eqS f.name s.name)=(u.funcs.map Fun.name).any fun x=>eqS s.name x by rw[←zG,List.any_map];rfl]at h5
 have h6:=Uj l hl l.length (Nat.le_refl _) s.name
 rw[List.take_length,zG]at h6
 have h7:=Uj l hl k (by omega) s.name
 rw[zG]at h7
 rw[IL]
 simp only
 generalize u.funcs.map Fun.name=fs at h5 ⊢
 generalize labs l=ls at h6 ⊢
 generalize labs (l.take k)=sn at h7 ⊢
 refine pcEnt 115 Tryz.func182 rfl [(0,unV u),(1,(V.sl (vs.map vaV) .ro)),(2,.sl (l.map plV) .ro),(3,(.im (.int .i64 ((k:Int)))))] ?_
 simp only[kS]
 refine wG eD (A3 hg @Int.natCast_nonneg PL) ?_
 refine aT ?_
 refine ALp.cutP 2 [(1,(V.sl (vs.map vaV) .ro)),(2,.sl (l.map plV) .ro),(3,(.im (.int .i64 ((k:Int))))),(4,.pt 0 0),(9,.pt 1 0),(10,(.im (.int .i64 ((((0:Nat)):Int)))))] [.box [.sl (u.globals.map vaV) .ro,.sl (u.data.map scV) .ro,.sl (u.funcs.map fnV) .ro],.box [.im (.int .i64 (s).kind),.im (.int .i64 (s).width),.im (.string (s).name),.sl ((s).e.map exV) .ro,.sl ((s).l.map ndV) .ro,.sl ((s).el.map ndV) .ro,.sl ((s).cs.map nlV) .ro]] (A13 aP aG aM aU gG fF @aE @aF @aL @aK cK bV cC) ?_
 refine ALp.upto s.e.length (AllTo (fun x=>esh x 64) s.e) (fun m=>⟨dn 115 [(1,(V.sl (vs.map vaV) .ro)),(2,.sl (l.map plV) .ro),(3,(.im (.int .i64 ((k:Int))))),(4,.pt 0 0),(9,.pt 1 0),(10,(.im (.int .i64 ((((m:Nat)):Int)))))],ofl [.box [.sl (u.globals.map vaV) .ro,.sl (u.data.map scV) .ro,.sl (u.funcs.map fnV) .ro],.box [.im (.int .i64 (s).kind),.im (.int .i64 (s).width),.im (.string (s).name),.sl ((s).e.map exV) .ro,.sl ((s).l.map ndV) .ro,.sl ((s).el.map ndV) .ro,.sl ((s).cs.map nlV) .ro]]⟩) ?_ 0 (Nat.zero_le _) (AllTo.zero _ _)
 intro m hm hI hnext
 by_cases hlt:m<s.e.length
 ·have hlt':(m:Int)<(s.e.length:Int):=by omega
  have hm1:=aQ hlt (by omega)
  have hg1:=bJ hlt;have hc:=JI s.e[m] (he2 _ (List.getElem_mem hlt)) 64 (by decide)
  cases b:esh s.e[m] 64 with
  | false =>
   rw[b]at hc;rw[eR hlt b];simp only[Bool.not_false,if_true];refine wG eD (A4 hlt' hg1 @List.length_map.{0,0} EX) ?_;refine AR.callP hc @bW (A13 aP aG aM aU gG fF @aE @aF @aL @aK cK bV cC) ?_;refine goG eD TI ?_;refine wG eD TI ?_;exact aD
  | true =>
   rw[b]at hc;refine wG eD (A4 hlt' hg1 @List.length_map.{0,0} EX) ?_;refine AR.callP hc @bW (A13 aP aG aM aU gG fF @aE @aF @aL @aK cK bV cC) ?_;refine goG eD TI ?_;refine wG eD hm1 ?_;refine ALp.cutP 2 [(1,(V.sl (vs.map vaV) .ro)),(2,.sl (l.map plV) .ro),(3,(.im (.int .i64 ((k:Int))))),(4,.pt 0 0),(9,.pt 1 0),(10,(.im (.int .i64 ((((m+1:Nat)):Int)))))] [.box [.sl (u.globals.map vaV) .ro,.sl (u.data.map scV) .ro,.sl (u.funcs.map fnV) .ro],.box [.im (.int .i64 (s).kind),.im (.int .i64 (s).width),.im (.string (s).name),.sl ((s).e.map exV) .ro,.sl ((s).l.map ndV) .ro,.sl ((s).el.map ndV) .ro,.sl ((s).cs.map nlV) .ro]] (A13 aP aG aM aU gG fF @aE @aF @aL @aK cK bV cC) ?_;exact hnext (m+1) (by omega) (by omega) (hI.succ hlt b)
 obtain rfl:m=s.e.length:=by omega
 clear hnext
 rw[List.all_eq_true.2 fun x hx=>by
  obtain⟨j,hj,rfl⟩:=List.getElem_of_mem hx
  exact hI j hj hj]
 simp only[Bool.not_true,Bool.false_eq_true,if_false]
 clear hI
 refine whG eD (AI @Int.lt_irrefl @List.length_map.{0,0}) ?_
 refine Blk'.here (Thn.n ?_)
 refine wG eD TI ?_
 refine AR.callP h2 fZ (A13 aP aG aM aU gG fF @aE @aF @aL @aK cK bV cC) ?_
 cases b2:stT s with
 | false =>
  simp only[Bool.not_false,if_true];refine goG eD TI ?_;refine wG eD TI ?_;exact aD
 | true =>
 simp only[Bool.not_true,Bool.false_eq_true,if_false]
 refine goG eD TI ?_
 refine wG eD TI ?_
 refine aT ?_
 refine ALp.cutP 2 [(1,(V.sl (vs.map vaV) .ro)),(2,.sl (l.map plV) .ro),(3,(.im (.int .i64 ((k:Int))))),(4,.pt 0 0),(9,.pt 1 0),(11,(.im (.int .i64 ((((0:Nat)):Int)))))] [.box [.sl (u.globals.map vaV) .ro,.sl (u.data.map scV) .ro,.sl (u.funcs.map fnV) .ro],.box [.im (.int .i64 (s).kind),.im (.int .i64 (s).width),.im (.string (s).name),.sl ((s).e.map exV) .ro,.sl ((s).l.map ndV) .ro,.sl ((s).el.map ndV) .ro,.sl ((s).cs.map nlV) .ro]] (A13 aP aG aM aU gG fF @aE @aF @aL @aK cK bV cC) ?_
 refine ALp.upto s.e.length (AllTo (knw vs) s.e) (fun m=>⟨dn 115 [(1,(V.sl (vs.map vaV) .ro)),(2,.sl (l.map plV) .ro),(3,(.im (.int .i64 ((k:Int))))),(4,.pt 0 0),(9,.pt 1 0),(11,(.im (.int .i64 ((((m:Nat)):Int)))))],ofl [.box [.sl (u.globals.map vaV) .ro,.sl (u.data.map scV) .ro,.sl (u.funcs.map fnV) .ro],.box [.im (.int .i64 (s).kind),.im (.int .i64 (s).width),.im (.string (s).name),.sl ((s).e.map exV) .ro,.sl ((s).l.map ndV) .ro,.sl ((s).el.map ndV) .ro,.sl ((s).cs.map nlV) .ro]]⟩) ?_ 0 (Nat.zero_le _) (AllTo.zero _ _)
 intro m hm hI hnext
 by_cases hlt:m<s.e.length
 ·have hlt':(m:Int)<(s.e.length:Int):=by omega
  have hm1:=aQ hlt (by omega)
  have hg1:=bJ hlt;have hc:=DR vs hv s.e[m] (he2 _ (List.getElem_mem hlt));cases b:knw vs s.e[m]with
  | false =>
   rw[b]at hc;rw[eR hlt b];simp only[Bool.not_false,if_true];refine wG eD (A4 hlt' hg1 @List.length_map.{0,0} EX) ?_;refine AR.callP hc @bW (A13 aP aG aM aU gG fF @aE @aF @aL @aK cK bV cC) ?_;refine goG eD TI ?_;refine wG eD TI ?_;exact aD
  | true =>
   rw[b]at hc;refine wG eD (A4 hlt' hg1 @List.length_map.{0,0} EX) ?_;refine AR.callP hc @bW (A13 aP aG aM aU gG fF @aE @aF @aL @aK cK bV cC) ?_;refine goG eD TI ?_;refine wG eD hm1 ?_;refine ALp.cutP 2 [(1,(V.sl (vs.map vaV) .ro)),(2,.sl (l.map plV) .ro),(3,(.im (.int .i64 ((k:Int))))),(4,.pt 0 0),(9,.pt 1 0),(11,(.im (.int .i64 ((((m+1:Nat)):Int)))))] [.box [.sl (u.globals.map vaV) .ro,.sl (u.data.map scV) .ro,.sl (u.funcs.map fnV) .ro],.box [.im (.int .i64 (s).kind),.im (.int .i64 (s).width),.im (.string (s).name),.sl ((s).e.map exV) .ro,.sl ((s).l.map ndV) .ro,.sl ((s).el.map ndV) .ro,.sl ((s).cs.map nlV) .ro]] (A13 aP aG aM aU gG fF @aE @aF @aL @aK cK bV cC) ?_;exact hnext (m+1) (by omega) (by omega) (hI.succ hlt b)
 obtain rfl:m=s.e.length:=by omega
 clear hnext
 rw[List.all_eq_true.2 fun x hx=>by
  obtain⟨j,hj,rfl⟩:=List.getElem_of_mem hx
  exact hI j hj hj]
 simp only[Bool.not_true,Bool.false_eq_true,if_false]
 clear hI
 refine whG eD (AI @Int.lt_irrefl @List.length_map.{0,0}) ?_
 refine Blk'.here (Thn.n ?_)
 unfold rst
 simp only
 by_cases k1:s.kind=1
 ·rw[if_pos (.inl k1)]
  refine wG eD k1 ?_;refine AR.callP h4 TI (A13 aP aG aM aU gG fF @aE @aF @aL @aK cK bV cC) ?_;cases has vs s.name
  all_goals
   refine goG eD TI ?_;refine wG eD k1 ?_;exact aD
 by_cases k3:s.kind=3
 ·rw[if_pos (.inr k3)]
  refine wG eD k3 ?_;refine AR.callP h4 TI (A13 aP aG aM aU gG fF @aE @aF @aL @aK cK bV cC) ?_;cases has vs s.name
  all_goals
   refine goG eD TI ?_;refine wG eD k3 ?_;exact aD
 rw[if_neg (by simp[k1,k3])]
 by_cases k5:s.kind=5
 ·rw[if_pos k5]
  refine wG eD (AI k5 @List.length_map.{0,0}) ?_;refine AR.callP h5 TI (A13 aP aG aM aU gG fF @aE @aF @aL @aK cK bV cC) ?_;cases fs.any fun x=>eqS s.name x
  all_goals
   refine goG eD TI ?_;refine wG eD k5 ?_;exact aD
 rw[if_neg k5]
 by_cases k12:s.kind=12
 ·rw[if_pos k12]
  refine wG eD (AI k12 @List.length_map.{0,0}) ?_;refine AR.callP h6 TI (A13 aP aG aM aU gG fF @aE @aF @aL @aK cK bV cC) ?_;cases ls.any fun x=>eqS s.name x
  all_goals
   refine goG eD TI ?_;refine wG eD k12 ?_;exact aD
 rw[if_neg k12]
 by_cases k10:s.kind=10
 ·rw[if_pos (.inl k10)]
  cases lp
  all_goals
   refine wG eD (A4 k10 hg @Int.natCast_nonneg PL) ?_;exact aD
 by_cases k11:s.kind=11
 ·rw[if_pos (.inr k11)]
  cases lp
  all_goals
   refine wG eD (A4 k11 hg @Int.natCast_nonneg PL) ?_;exact aD
 rw[if_neg (by simp[k10,k11])]
 by_cases k13:s.kind=13
 ·rw[if_pos k13]
  refine wG eD k13 ?_;refine AR.callP h7 TI (A13 aP aG aM aU gG fF @aE @aF @aL @aK cK bV cC) ?_;cases sn.any fun x=>eqS s.name x
  all_goals
   refine goG eD TI ?_;refine wG eD TI ?_;exact aD
 rw[if_neg k13]
 refine wG eD (A7 k1 k3 k5 k12 k10 k11 k13) ?_
 exact aD
end Go.Proofs.YtmbmmckagcdapaaGreatDoor
namespace Go.Proofs.YtmbmmckagcdapaaGreatDoor
theorem GW{ts:List Tk}(hok: ∀t∈ts,TkOk t)(a:Nat):(pk ts a).text.length≤4194304:=by
 unfold pk List.getD
 cases h:ts[a]? with
 | none=>exact Nat.zero_le _
 | some t=>exact(hok t (List.mem_of_getElem? h)).2
theorem Xn{ts:List Tk}(hok: ∀t∈ts,TkOk t){a o:Nat}{v:Sec}{b p:Nat}(h:datM ts a o=some (.ok v b p)):v.data.length≤4194304:=by
 obtain⟨_,a1,o1,h1,h⟩:=bB h
 obtain⟨n,a2,o2,h2,h⟩:=bB h
 obtain⟨_,a3,o3,h3,h⟩:=bB h
 obtain⟨_,a4,o4,h4,h⟩:=bB h
 obtain⟨_,a5,o5,h5,h⟩:=bB h
 obtain⟨_,a6,o6,h6,h⟩:=bB h
 obtain⟨q,a7,o7,h7,h⟩:=bB h
 obtain⟨_,a8,o8,h8,h⟩:=bB h
 cases h
 show q.text.length≤_
 rw[(iS h7).2.1]
 exact GW hok _
theorem Vm{ts:List Tk}(hok: ∀t∈ts,TkOk t): ∀(f:Nat) {u:Un} {a o:Nat} {v:Un} {b p:Nat},(∀s∈u.data,s.data.length≤4194304)→uniM ts f u a o=some (.ok v b p)→ ∀s∈v.data,s.data.length≤4194304:=by
 intro f
 induction f with
 | zero=>intro u a o v b p _ h;cases h
 | succ f ih =>
  intro u a o v b p hd h;rw[uniM]at h;rcases bA h with ⟨hk,h⟩|⟨hk,h⟩
  ·cases h;exact hd
  rcases bA h with ⟨hk,h⟩|⟨hk,h⟩
  ·obtain⟨x,a1,o1,h1,h⟩:=bB h
   exact ih (u:=⟨u.globals++[x],u.data,u.funcs⟩) hd h
  rcases bA h with ⟨hk,h⟩|⟨hk,h⟩
  ·obtain⟨x,a1,o1,h1,h⟩:=bB h
   refine ih (u:=⟨u.globals,u.data++[x],u.funcs⟩) (fun y hy=> ?_) h
   rcases List.mem_append.1 hy with hy|hy
   ·exact hd y hy
   ·simp at hy;rw[hy];exact Xn hok h1
  rcases bA h with ⟨hk,h⟩|⟨hk,h⟩
  ·obtain⟨x,a1,o1,h1,h⟩:=bB h
   exact ih (u:=⟨u.globals,u.data,u.funcs++[x]⟩) hd h
  ·cases h
theorem FW:fitU uz0:=⟨by simp[uz0],(by intro y hy;cases hy),by simp[uz0],(by intro y hy;cases hy),by simp[uz0],by intro y hy;cases hy⟩
theorem Yy(s:Bs):fitU (uniP s).1∧ ∀x∈(uniP s).1.data,x.data.length≤4194304:=by
 have hz:fitU uz0∧ ∀x∈uz0.data,x.data.length≤4194304:=⟨FW,by intro y hy;cases hy⟩
 obtain⟨hok,hts,_⟩:=wB s
 unfold uniP
 split
 ·exact hz
 split
 ·exact hz
 split
 ·exact hz
 rcases sR (scnR s).1 with ⟨b,e,_,hx,_,_⟩|⟨x,b,p,_,hx,hr⟩
 ·rw[hx];exact hz
 ·rw[hx];exact⟨sQ hok hts hr,Vm hok _ (by intro y hy;cases hy) hr⟩
end Go.Proofs.YtmbmmckagcdapaaGreatDoor
