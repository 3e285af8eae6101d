import Derived.Test.YtmbmmckagcdapaaGreatDoorV35
set_option maxHeartbeats 8000000
set_option linter.all false
namespace Go.Proofs.YtmbmmckagcdapaaGreatDoor
open Go.RowKit
def opsR:List Bs:=[[62,62,115],[61,61],[33,61],[60,60],[60,115],[62,62]]++ops1.map fun c=>[c]
def tstR(x op:Bs):Bool:=pre op x&&((op !=[60,115]&&op !=[62,62,115])||nW (x.drop op.length))
theorem GZ:[V.im (.string ⟨#[62,62,115]⟩),V.im (.string ⟨#[61,61]⟩),V.im (.string ⟨#[33,61]⟩),V.im (.string ⟨#[60,60]⟩),V.im (.string ⟨#[60,115]⟩),V.im (.string ⟨#[62,62]⟩),V.im (.string ⟨#[40]⟩),V.im (.string ⟨#[41]⟩),V.im (.string ⟨#[123]⟩),V.im (.string ⟨#[125]⟩),V.im (.string ⟨#[91]⟩),V.im (.string ⟨#[93]⟩),V.im (.string ⟨#[44]⟩),V.im (.string ⟨#[59]⟩),V.im (.string ⟨#[58]⟩),V.im (.string ⟨#[63]⟩),V.im (.string ⟨#[61]⟩),V.im (.string ⟨#[43]⟩),V.im (.string ⟨#[45]⟩),V.im (.string ⟨#[42]⟩),V.im (.string ⟨#[38]⟩),V.im (.string ⟨#[124]⟩),V.im (.string ⟨#[94]⟩),V.im (.string ⟨#[33]⟩),V.im (.string ⟨#[60]⟩)]=opsR.map sV:=rfl
theorem Oe(c:UInt8)(r:Bs)(hc: ∀d:UInt8,tstR (c::r) [d]=(d==c)): ∀l:Bs,(l.map fun c=>[c]).find? (tstR (c::r))=if l.contains c then some [c]else none
 | []=>rfl
 | d::l=>by
  rw[List.map_cons,List.find?_cons,hc d]
  by_cases h:d=c
  ·subst h
   simp
  ·have h1:(d==c)=false:=beq_eq_false_iff_ne.2 h
   have h2:(c==d)=false:=beq_eq_false_iff_ne.2 fun e=>h e.symm
   rw[h1];simp only;rw[Oe c r hc l,List.contains_cons,h2,Bool.false_or]
theorem GB(c:UInt8)(r:Bs)(d:UInt8):tstR (c::r) [d]=(d==c):=by
 unfold tstR
 have h1:(([d]:Bs)!=[60,115])=true:=by simp[bne_iff_ne]
 have h2:(([d]:Bs)!=[62,62,115])=true:=by simp[bne_iff_ne]
 rw[h1,h2]
 simp[pre,List.isPrefixOf]
theorem Ka{p q x:Bs}{a b:UInt8}{i:Nat}(hp:p[i]? =some a)(hq:q[i]? =some b)(hab:a≠b)(h:pre p x=true):pre q x=false:=by
 rw[←Bool.not_eq_true]
 intro h2
 obtain⟨u,rfl⟩:=kN.1 h
 obtain⟨v,hv⟩:=kN.1 h2
 have h3:(p++u)[i]? =some a:=by rw[List.getElem?_append_left (List.getElem?_eq_some_iff.1 hp).1,hp]
 rw[hv,List.getElem?_append_left (List.getElem?_eq_some_iff.1 hq).1,hq]at h3
 exact hab (Option.some.inj h3).symm
theorem Xe(x:Bs):opsR.find? (tstR x)=symP x:=by
 have hs:(ops1.map fun c=>[c]).find? (tstR x)=match x with
   | []=>none
   | c::_=>if ops1.contains c then some [c]else none:=by
  cases x with
  | nil=>decide
  | cons c r=>exact Oe c r (GB c r) ops1
 have t1:tstR x [62,62,115]=(pre [62,62,115] x&&nW (x.drop 3)):=by
  unfold tstR;rw[show(([62,62,115]:Bs)!=[60,115]&&([62,62,115]:Bs)!=[62,62,115])=false from rfl,Bool.false_or]
  rfl
 have t2:tstR x [60,115]=(pre [60,115] x&&nW (x.drop 2)):=by
  unfold tstR;rw[show(([60,115]:Bs)!=[60,115]&&([60,115]:Bs)!=[62,62,115])=false from rfl,Bool.false_or]
  rfl
 have t3: ∀p:Bs,(p !=[60,115]&&p !=[62,62,115])=true→tstR x p=pre p x:=fun p h=>by
  unfold tstR;rw[h,Bool.true_or,Bool.and_true]
 unfold opsR
 rw[List.find?_append,hs]
 simp only[List.find?_cons,List.find?_nil,t1,t2,t3 [61,61] rfl,t3 [33,61] rfl,t3 [60,60] rfl,t3 [62,62] rfl]
 unfold symP
 by_cases h1:(pre [62,62,115] x&&nW (x.drop 3))=true
 ·simp[h1]
 by_cases h2:(pre [60,115] x&&nW (x.drop 2))=true
 ·have hp:=(Bool.and_eq_true _ _▸h2).1
  have e1:=Ka (i:=0) (p:=[60,115]) (q:=[61,61]) rfl rfl (by decide) hp
  have e2:=Ka (i:=0) (p:=[60,115]) (q:=[33,61]) rfl rfl (by decide) hp
  have e3:=Ka (i:=1) (p:=[60,115]) (q:=[60,60]) rfl rfl (by decide) hp
  simp[h1,h2,e1,e2,e3]
 by_cases h3:pre [61,61] x=true
 ·simp[h1,h2,h3]
 by_cases h4:pre [33,61] x=true
 ·simp[h1,h2,h3,h4]
 by_cases h5:pre [60,60] x=true
 ·simp[h1,h2,h3,h4,h5]
 by_cases h6:pre [62,62] x=true
 ·simp[h1,h2,h3,h4,h5,h6]
 simp[h1,h2,h3,h4,h5,h6]
 cases x<;>rfl
theorem MP(y:Bs):nW y=decide ((y.takeWhile isW).length=0):=by
 cases y with
 | nil=>rfl
 | cons c r =>
  unfold nW;rw[List.takeWhile_cons];cases h:isW c with
  | true=>simp[h]
  | false=>simp[h]
theorem STC:type_of%(A9 @yJ @vH @yH @yG @yI @vI @List.getElem?_map.{0,0} @List.length_map.{0,0} @Int.natCast_nonneg):=STB
def KF:=A3 @sO @lF @dM
theorem QG:PC Tryz.prog 225 [] (.sl (opsR.map sV) .full):=by
 refine pcEnt 2 Tryz.func225 rfl [] ?_
 refine wG KF GZ ?_
 exact aD
theorem MI: ∀op∈opsR,1≤op.length∧op.length≤3:=by decide
theorem BD:opsR.length=25:=rfl
def fU:=A4 @dY @lF @dM @gI
theorem QH(s:Bs)(a:Nat)(ha:a≤s.length)(hs:s.length≤4194304):PC Tryz.prog 172 [.im (.string ⟨(s).toArray⟩),(.im (.int .i64 ((a:Int))))] (.im (.string ⟨((symP (s.drop a)).getD []).toArray⟩)):=by
 rw[←Xe]
 have hdl:(s.drop a).length=s.length-a:=List.length_drop
 have hdr: ∀k,(s.drop a).drop k=s.drop (a+k):=fun k=>List.drop_drop
 obtain⟨x,hx⟩: ∃x,x=s.drop a:=⟨_,rfl⟩
 rw[←hx]at hdl hdr ⊢
 have qo:=QG
 have hol:=MI
 have h25:=BD
 generalize opsR=L at qo hol h25
 refine pcEnt 60 Tryz.func172 rfl [(0,.im (.string ⟨(s).toArray⟩)),(1,(.im (.int .i64 ((a:Int)))))] ?_
 refine wG fU TI ?_
 refine AR.callP qo TI (AI aH aW) ?_
 refine goG fU TI ?_
 refine wG fU TI ?_
 refine aT ?_
 refine ALp.cutP 0 [(0,.im (.string ⟨(s).toArray⟩)),(1,(.im (.int .i64 ((a:Int))))),(5,.sl (L.map sV) .full),(6,(.im (.int .i64 ((((0):Nat):Int)))))] [] (AI aH aW) ?_
 refine ALp.upto L.length (fun m=>L.find? (tstR x)=(L.drop m).find? (tstR x)) (fun m=>⟨dn 60 [(0,.im (.string ⟨(s).toArray⟩)),(1,(.im (.int .i64 ((a:Int))))),(5,.sl (L.map sV) .full),(6,(.im (.int .i64 ((((m):Nat):Int)))))],ofl []⟩) ?_ 0 (Nat.zero_le _) rfl
 intro m hm hI hnext
 by_cases hlt:m<L.length
 case neg =>
  obtain rfl:m=L.length:=by omega
  have hn: ¬(L.length:Int)<(L.length:Int):=by omega
  rw[show(L.find? (tstR x)).getD []=[] by rw[hI,List.drop_length];rfl]
  clear hnext hI;refine wG fU (AI STC hn) ?_;exact aD
 have hlt':(m:Int)<(L.length:Int):=by omega
 have hm1:=aQ hlt (by omega)
 have hg:L[m]? =some L[m]:=List.getElem?_eq_getElem hlt
 have hd:L.drop m=L[m]::L.drop (m+1):=List.drop_eq_getElem_cons hlt
 have hl:=hol L[m] (List.getElem_mem hlt)
 rw[hd,List.find?_cons]at hI
 generalize L[m]=op at hg hI hl
 have hw:IntKind.i64.wrap ((a:Int)+(op.length:Int))=((a+op.length:Nat):Int):=by rw[cI (by omega)];omega
 have hno:tstR x op=false→_:=fun h=>hnext (m+1) (by omega) (by omega) (by rw[hI,h])
 have hyes:tstR x op=true→(L.find? (tstR x)).getD []=op:=fun h=>by rw[hI,h];rfl
 clear hnext hI
 have hpre:=yN (p:=op) (s:=x)
 by_cases hto:a+op.length≤s.length
 case neg =>
  have e1:((a+op.length:Nat):Int)>(s.length:Int):=by omega
  have hn2:=hno (by unfold tstR;rw[hpre,decide_eq_false (by omega),Bool.false_and,Bool.false_and])
  clear hno hyes;refine wG fU (A5 BY STC hlt' hg hw) ?_;refine wdG fU (A7 BY STC hlt' hg hw e1 hm1) ?_;refine ALp.cutP 0 [(0,.im (.string ⟨(s).toArray⟩)),(1,(.im (.int .i64 ((a:Int))))),(5,.sl (L.map sV) .full),(6,(.im (.int .i64 ((((m+1):Nat):Int)))))] [] (AI aH aW) ?_;exact hn2
 have e1: ¬((a+op.length:Nat):Int)>(s.length:Int):=by omega
 rw[decide_eq_true (show op.length≤x.length by omega),Bool.true_and]at hpre
 have le1:(a:Int)≤((a+op.length:Nat):Int):=by omega
 have le2:((a+op.length:Nat):Int)≤(s.length:Int):=by omega
 have sb:a+op.length-a=op.length:=by omega
 cases ht:(x.take op.length==op)with
 | false =>
  have hn2:=hno (by unfold tstR;rw[hpre,ht,Bool.false_and])
  rw[hx]at ht;clear hno hyes;refine wG fU (A5 BY STC hlt' hg hw) ?_;refine wdG fU (A12 BY GDS STC hlt' hg hw e1 le1 le2 sb ht hm1) ?_;refine ALp.cutP 0 [(0,.im (.string ⟨(s).toArray⟩)),(1,(.im (.int .i64 ((a:Int))))),(5,.sl (L.map sV) .full),(6,(.im (.int .i64 ((((m+1):Nat):Int)))))] [] (AI aH aW) ?_;exact hn2
 | true =>
 rw[ht]at hpre
 have htx:=ht
 rw[hx]at ht
 have qw:=Jg s (a+op.length) hto hs
 have hnw:=MP (x.drop op.length)
 rw[hdr]at hnw
 have key:tstR x op=((op !=[60,115]&&op !=[62,62,115])||nW (s.drop (a+op.length))):=by unfold tstR;rw[hpre,Bool.true_and,hdr]
 cases b1:(op==[60,115])with
 | false =>
  cases b2:(op==[62,62,115])with
  | false =>
   rw[hyes (by rw[key];unfold bne;rw[b1,b2];rfl)]
   clear hno hyes key;refine wG fU (A5 BY STC hlt' hg hw) ?_;refine wdG fU (A13 BY GDS STC hlt' hg hw e1 le1 le2 sb ht b1 b2) ?_;exact aD
  | true =>
   have key2:tstR x op=nW (s.drop (a+op.length)):=by rw[key];unfold bne;rw[b1,b2];rfl
   by_cases hz:((s.drop (a+op.length)).takeWhile isW).length=0
   ·rw[hz]at qw
    rw[hyes (by rw[key2,hnw];exact decide_eq_true hz)]
    clear hno hyes key key2 hnw;refine wG fU (A5 BY STC hlt' hg hw) ?_;refine wdG fU (A13 BY GDS STC hlt' hg hw e1 le1 le2 sb ht b1 b2) ?_;refine AR.callP qw TI (AI aH aW) ?_;refine goG fU TI ?_;refine wG fU (A4 BY STC hlt' hg) ?_;exact aD
   ·have hn2:=hno (by rw[key2,hnw];exact decide_eq_false hz)
    have hne: ¬((a+op.length+((s.drop (a+op.length)).takeWhile isW).length:Nat):Int)=((a+op.length:Nat):Int):=by omega
    clear hno hyes key key2 hnw hz;generalize ((s.drop (a+op.length)).takeWhile isW).length=z at qw hne;refine wG fU (A5 BY STC hlt' hg hw) ?_;refine wdG fU (A13 BY GDS STC hlt' hg hw e1 le1 le2 sb ht b1 b2) ?_;refine AR.callP qw TI (AI aH aW) ?_;refine goG fU hne ?_;refine wG fU hm1 ?_;refine ALp.cutP 0 [(0,.im (.string ⟨(s).toArray⟩)),(1,(.im (.int .i64 ((a:Int))))),(5,.sl (L.map sV) .full),(6,(.im (.int .i64 ((((m+1):Nat):Int)))))] [] (AI aH aW) ?_;exact hn2
 | true =>
  have key2:tstR x op=nW (s.drop (a+op.length)):=by rw[key];unfold bne;rw[b1];rfl
  by_cases hz:((s.drop (a+op.length)).takeWhile isW).length=0
  ·rw[hz]at qw
   rw[hyes (by rw[key2,hnw];exact decide_eq_true hz)]
   clear hno hyes key key2 hnw;refine wG fU (A5 BY STC hlt' hg hw) ?_;refine wdG fU (A12 BY GDS STC hlt' hg hw e1 le1 le2 sb ht b1) ?_;refine AR.callP qw TI (AI aH aW) ?_;refine goG fU TI ?_;refine wG fU (A4 BY STC hlt' hg) ?_;exact aD
  ·have hn2:=hno (by rw[key2,hnw];exact decide_eq_false hz)
   have hne: ¬((a+op.length+((s.drop (a+op.length)).takeWhile isW).length:Nat):Int)=((a+op.length:Nat):Int):=by omega
   clear hno hyes key key2 hnw hz;generalize ((s.drop (a+op.length)).takeWhile isW).length=z at qw hne;refine wG fU (A5 BY STC hlt' hg hw) ?_;refine wdG fU (A12 BY GDS STC hlt' hg hw e1 le1 le2 sb ht b1) ?_;refine AR.callP qw TI (AI aH aW) ?_;refine goG fU hne ?_;refine wG fU hm1 ?_;refine ALp.cutP 0 [(0,.im (.string ⟨(s).toArray⟩)),(1,(.im (.int .i64 ((a:Int))))),(5,.sl (L.map sV) .full),(6,(.im (.int .i64 ((((m+1):Nat):Int)))))] [] (AI aH aW) ?_;exact hn2
def wtR(w:Bs):Tk:=(namP w).getD ⟨6,[],0,0,0⟩
theorem BO{c:UInt8}(h:isD c=true):isL c=false:=by
 have:=vC (fun c=> !isD c|| !isL c) (by decide +kernel) c
 rw[h]at this
 simpa using this
def eZ:=A5 @Hd @Hb @Pu @kG @gI
theorem IM(w:Bs)(hw:w.length≤4194304)(h0:w≠[])(ha: ∀c∈w,isW c=true):PC Tryz.prog 170 [.im (.string ⟨(w).toArray⟩)] (tkV (wtR w)):=by
 have qn:=DM w hw
 have qk:=OE w
 have hNn: ∀n,valP w=some n→numR w=(n,true):=fun n=>Wt
 have hNo:valP w=none→(numR w).2=false:=Wu
 cases hE:w with
 | nil=>exact absurd hE h0
 | cons c r =>
 rw[hE]at qn qk hNn hNo hw
 have hcw:isW c=true:=ha c (by rw[hE];simp)
 have qd:=Ky c
 have g0:(c::r)[0]? =some c:=rfl
 cases hd:isD c with
 | true =>
  rw[hd]at qd;have hL:=BO hd
  have hK:isK (c::r)=false:=by
   rw[←Bool.not_eq_true];intro h;have:=(Fc (c::r) (tU.1 h)).1;rw[show(c::r).head?.elim false isL=isL c from rfl,hL]at this
   cases this
  have hnP:namP (c::r)=match valP (c::r)with
    | some n=>some ⟨3,[],n,0,0⟩
    | none=>none:=by
   unfold namP;rw[if_neg (by simp[hK]),if_neg (by rw[show(c::r).head?.elim false isL=isL c from rfl,hL];decide)]
   cases valP (c::r)<;>rfl
  cases hv:valP (c::r)with
  | none =>
   rw[show wtR (c::r)=⟨6,[],0,0,0⟩ by unfold wtR;rw[hnP,hv];rfl]
   have h2:=hNo hv;generalize numR (c::r)=v at qn h2;obtain⟨n,b⟩:=v;simp only at h2;subst h2;generalize c::r=w at *;refine pcEnt 28 Tryz.func170 rfl [(0,.im (.string ⟨(w).toArray⟩))] ?_
   refine wG eZ (AI BY g0) ?_;refine AR.callP qd TI (AI aH aW) ?_;refine goG eZ TI ?_;refine wG eZ TI ?_;refine AR.callP qn TI (AI aH aW) ?_;refine goG eZ TI ?_;refine wG eZ TI ?_;refine fiGenO [.cell 2 177] (finG eZ) ?_
   all_goals exact wkG (AI aH aW)
  | some n =>
   rw[show wtR (c::r)=⟨3,[],n,0,0⟩ by unfold wtR;rw[hnP,hv];rfl]
   rw[hNn n hv]at qn;generalize c::r=w at *;refine pcEnt 28 Tryz.func170 rfl [(0,.im (.string ⟨(w).toArray⟩))] ?_
   refine wG eZ (AI BY g0) ?_;refine AR.callP qd TI (AI aH aW) ?_;refine goG eZ TI ?_;refine wG eZ TI ?_;refine AR.callP qn TI (AI aH aW) ?_;refine goG eZ TI ?_;refine wG eZ TI ?_;refine fiGenO [.cell 2 177] (finG eZ) ?_
   all_goals exact wkG (AI aH aW)
 | false =>
 rw[hd]at qd
 have hL:isL c=true:=by
  unfold isW at hcw
  rwa [hd,Bool.or_false]at hcw
 cases hK:isK (c::r)with
 | true =>
  rw[hK]at qk;rw[show wtR (c::r)=⟨2,c::r,0,0,0⟩ by unfold wtR namP;rw[if_pos hK];rfl]
  generalize c::r=w at *;refine pcEnt 28 Tryz.func170 rfl [(0,.im (.string ⟨(w).toArray⟩))] ?_
  refine wG eZ (AI BY g0) ?_;refine AR.callP qd TI (AI aH aW) ?_;refine goG eZ TI ?_;refine wG eZ TI ?_;refine AR.callP qk TI (AI aH aW) ?_;refine goG eZ TI ?_;refine wG eZ TI ?_;refine fiGenO [.cell 2 177] (finG eZ) ?_
  all_goals exact wkG (AI aH aW)
 | false =>
  rw[hK]at qk
  have hnP:namP (c::r)=if(c::r).length≤32 then some ⟨1,c::r,0,0,0⟩else none:=by
   unfold namP;rw[if_neg (by simp[hK]),if_pos (show(c::r).head?.elim false isL=true from hL)]
  by_cases h32:(c::r).length≤32
  ·rw[show wtR (c::r)=⟨1,c::r,0,0,0⟩ by unfold wtR;rw[hnP,if_pos h32];rfl]
   generalize c::r=w at *;have e32: ¬(w.length:Int)>32:=by omega
   refine pcEnt 28 Tryz.func170 rfl [(0,.im (.string ⟨(w).toArray⟩))] ?_
   refine wG eZ (AI BY g0) ?_;refine AR.callP qd TI (AI aH aW) ?_;refine goG eZ TI ?_;refine wG eZ TI ?_;refine AR.callP qk TI (AI aH aW) ?_;refine goG eZ TI ?_;refine wG eZ (AI BY e32) ?_;refine fiGenO [.cell 2 177] (finG eZ) ?_
   all_goals exact wkG (AI aH aW)
  ·rw[show wtR (c::r)=⟨6,[],0,0,0⟩ by unfold wtR;rw[hnP,if_neg h32];rfl]
   generalize c::r=w at *;have e32:(w.length:Int)>32:=by omega
   refine pcEnt 28 Tryz.func170 rfl [(0,.im (.string ⟨(w).toArray⟩))] ?_
   refine wG eZ (AI BY g0) ?_;refine AR.callP qd TI (AI aH aW) ?_;refine goG eZ TI ?_;refine wG eZ TI ?_;refine AR.callP qk TI (AI aH aW) ?_;refine goG eZ TI ?_;refine wG eZ (AI BY e32) ?_;refine fiGenO [.cell 2 177] (finG eZ) ?_
   all_goals exact wkG (AI aH aW)
def zR:= @gI
theorem IZ(s:Bs)(a:Nat)(ha:a≤s.length)(hs:s.length≤4194304):PC Tryz.prog 111 [.im (.string ⟨(s).toArray⟩),(.im (.int .i64 ((a:Int))))] (.tu [(.im (.int .i64 ((advs (1,1) (s.take a)).1))),(.im (.int .i64 ((advs (1,1) (s.take a)).2)))]):=by
 refine pcEnt 24 Tryz.func111 rfl [(0,.im (.string ⟨(s).toArray⟩)),(1,(.im (.int .i64 ((a:Int)))))] ?_
 refine wG zR TI ?_
 refine aT ?_
 refine ALp.cutP 0 [(0,.im (.string ⟨(s).toArray⟩)),(1,(.im (.int .i64 ((a:Int))))),(6,(.im (.int .i64 ((advs (1,1) (s.take (0))).1)))),(7,(.im (.int .i64 ((advs (1,1) (s.take (0))).2)))),(8,(.im (.int .i64 ((((0):Nat):Int)))))] [] (AI aH aW) ?_
 refine ALp.upto a (fun _=>True) (fun m=>⟨dn 24 [(0,.im (.string ⟨(s).toArray⟩)),(1,(.im (.int .i64 ((a:Int))))),(6,(.im (.int .i64 ((advs (1,1) (s.take (m))).1)))),(7,(.im (.int .i64 ((advs (1,1) (s.take (m))).2)))),(8,(.im (.int .i64 ((((m):Nat):Int)))))],ofl []⟩) ?_ 0 (Nat.zero_le _) trivial
 intro m hm _ hnext
 by_cases hlt:m<a
 case neg =>
  obtain rfl:m=a:=by omega
  have hn: ¬(m:Int)<(m:Int):=by omega
  clear hnext;generalize advs (1,1) (s.take m)=q;refine wG zR hn ?_;refine fiGenO [.tmp 4,.tmp 5] (finG zR) ?_
  all_goals exact wkG (AI aH aW)
 have hlt':(m:Int)<(a:Int):=by omega
 have hml:m<s.length:=by omega
 have hm1:=aQ hlt (by omega)
 have hg:s[m]? =some s[m]:=List.getElem?_eq_getElem hml
 have hn3:=hnext (m+1) (by omega) (by omega) trivial
 rw[Jp (1,1) hml]at hn3
 clear hnext
 have hb:=qU (s.take m) (1,1) (by decide) (by decide)
 rw[List.length_take]at hb
 generalize advs (1,1) (s.take m)=q at hn3 hb ⊢
 have hw1:IntKind.i64.wrap (q.1+1)=q.1+1:=cI (by omega)
 have hw2:IntKind.i64.wrap (q.2+1)=q.2+1:=cI (by omega)
 generalize s[m]=c at hg hn3
 by_cases hc:c.toNat=10
 ·have hc':(c.toNat:Int)=10:=by omega
  rw[show adv q c=(q.1+1,1) by unfold adv;rw[if_pos hc]]at hn3
  refine wG zR (A7 BY hlt' hg hw1 hw2 hc' hm1) ?_;refine ALp.cutP 0 [(0,.im (.string ⟨(s).toArray⟩)),(1,(.im (.int .i64 ((a:Int))))),(6,(.im (.int .i64 ((q.1+1,(1:Int)).1)))),(7,(.im (.int .i64 ((q.1+1,(1:Int)).2)))),(8,(.im (.int .i64 ((((m+1):Nat):Int)))))] [] (AI aH aW) ?_;exact hn3
 ·have hc': ¬(c.toNat:Int)=10:=by omega
  rw[show adv q c=(q.1,q.2+1) by unfold adv;rw[if_neg hc]]at hn3
  refine wG zR (A7 BY hlt' hg hw1 hw2 hc' hm1) ?_;refine ALp.cutP 0 [(0,.im (.string ⟨(s).toArray⟩)),(1,(.im (.int .i64 ((a:Int))))),(6,(.im (.int .i64 ((q.1,q.2+1).1)))),(7,(.im (.int .i64 ((q.1,q.2+1).2)))),(8,(.im (.int .i64 ((((m+1):Nat):Int)))))] [] (AI aH aW) ?_;exact hn3
def oneA(s:Bs)(a:Nat):Tk×Nat:=match tokP (s.drop a)with
 | some (t,n)=>(t,a+n)
 | none=>(⟨6,[],0,0,0⟩,a+((s.drop a).takeWhile isW).length)
theorem Yq{w:Bs}{t:Tk}(h:namP w=some t):wtR w=t:=by unfold wtR;rw[h];rfl
theorem Yr{w:Bs}(h:namP w=none):wtR w=⟨6,[],0,0,0⟩:=by unfold wtR;rw[h];rfl
theorem MN{b:Bs}(h:b≠[]):(b==[])=false:=beq_eq_false_iff_ne.2 h
def fA:=A5 @Hd @Hb @Pu @kG @gI
theorem QI(s:Bs)(a:Nat)(ha:a<s.length)(hs:s.length≤4194304):PC Tryz.prog 110 [.im (.string ⟨(s).toArray⟩),(.im (.int .i64 ((a:Int))))] (.tu [tkV (oneA s a).1,(.im (.int .i64 (((oneA s a).2:Int))))]):=by
 have qw:=Jg s a (by omega) hs
 have qo:=QH s a (by omega) hs
 have qq:=NM s a ha hs
 have hdl:(s.drop a).length=s.length-a:=List.length_drop
 have g0:s[a]? =some s[a]:=List.getElem?_eq_getElem ha
 have hd:s.drop a=s[a]::s.drop (a+1):=List.drop_eq_getElem_cons ha
 have hpre:(s.drop a).take ((s.drop a).takeWhile isW).length=(s.drop a).takeWhile isW:=(Vr _).symm
 have hwl:=Hz (s.drop a)
 by_cases hw:0<((s.drop a).takeWhile isW).length
 ·have qn:=IM ((s.drop a).takeWhile isW) (by omega) (fun h=>by rw[h]at hw;exact absurd hw (by decide)) Ia
  have hR:oneA s a=(wtR ((s.drop a).takeWhile isW),a+((s.drop a).takeWhile isW).length):=by
   unfold oneA tokP;rw[if_pos hw];cases hN:namP ((s.drop a).takeWhile isW)with
   | some t=>rw[Yq hN]
   | none=>rw[Yr hN]
  rw[hR];generalize (s.drop a).takeWhile isW=w at qw hpre hw qn hwl;have e1:((a+w.length:Nat):Int)>(a:Int):=by omega
  have le1:(a:Int)≤((a+w.length:Nat):Int):=by omega
  have le2:((a+w.length:Nat):Int)≤(s.length:Int):=by omega
  have sb:a+w.length-a=w.length:=by omega
  refine pcEnt 52 Tryz.func110 rfl [(0,.im (.string ⟨(s).toArray⟩)),(1,(.im (.int .i64 ((a:Int)))))] ?_
  refine wG fA TI ?_;refine AR.callP qw TI (A4 aC aB aH aW) ?_;refine goG fA TI ?_;refine wG fA (A7 BY GDS e1 le1 le2 sb hpre) ?_;refine AR.callP qn TI (A4 aC aB aH aW) ?_;refine goG fA TKT ?_;refine wdG fA TKT ?_;refine fiGenO [.cell 4 177,.tmp 5] (finG fA) ?_
  all_goals exact wkG (A4 aC aB aH aW)
 have hz:((s.drop a).takeWhile isW).length=0:=by omega
 have hR:oneA s a=if(s.drop a).head? =some 34 then(match quoP ((s.drop a).drop 1)with
   | some (t,n)=>(⟨4,t,0,0,0⟩,a+(n+1))
   | none=>(⟨6,[],0,0,0⟩,a))else(match symP (s.drop a)with
   | some op=>(⟨5,op,0,0,0⟩,a+op.length)
   | none=>(⟨6,[],0,0,0⟩,a)):=by
  unfold oneA tokP;rw[if_neg hw,hz]
  by_cases h34:(s.drop a).head? =some 34
  ·rw[if_pos h34,if_pos h34]
   cases quoP ((s.drop a).drop 1)<;>rfl
  ·rw[if_neg h34,if_neg h34]
   cases symP (s.drop a)<;>rfl
 rw[hR]
 rw[hz,Nat.add_zero]at qw
 clear hpre hwl hw hz hR
 have hd1:(s.drop a).drop 1=s.drop (a+1):=List.drop_drop
 have hne: ¬(a:Int)>(a:Int):=by omega
 rw[hd1]
 have hqs: ∀t n,quoP (s.drop (a+1))=some (t,n)→Na s a=(t,((a+1+n:Nat):Int)):=fun t n h=>Ih h
 have hqn:quoP (s.drop (a+1))=none→Na s a=([], -1):=fun h=>sY h
 have hsl: ∀op,symP (s.drop a)=some op→op≠[]:=fun op h=>(Du h).2
 have hsl2: ∀op,symP (s.drop a)=some op→op.length≤s.length-a:=fun op h=>by
  obtain⟨x,hx⟩:=kN.1 (Du h).1;have:=congrArg List.length hx;rw[List.length_append]at this;omega
 by_cases h34:s[a].toNat=34
 ·rw[if_pos (show(s.drop a).head? =some 34 by rw[hd];rw[show s[a]=34 from toNat_inj h34];rfl)]
  have e34:(s[a].toNat:Int)=34:=by omega
  generalize s[a]=c at g0 e34;cases hqu:quoP (s.drop (a+1))with
  | none =>
   rw[hqn hqu]at qq;clear hqs hqn hsl hsl2 hd;refine pcEnt 52 Tryz.func110 rfl [(0,.im (.string ⟨(s).toArray⟩)),(1,(.im (.int .i64 ((a:Int)))))] ?_
   refine wG fA TI ?_;refine AR.callP qw TI (A4 aC aB aH aW) ?_;refine goG fA TI ?_;refine wG fA (A4 BY hne g0 e34) ?_;refine AR.callP qq TI (A4 aC aB aH aW) ?_;refine goG fA TI ?_;refine wdG fA TI ?_;refine fiGenO [.cell 4 177,.tmp 5] (finG fA) ?_
   all_goals exact wkG (A4 aC aB aH aW)
  | some tn =>
   obtain⟨t,n⟩:=tn;rw[hqs t n hqu]at qq;have e0: ¬((a+1+n:Nat):Int)<0:=by omega
   simp only;rw[show a+(n+1)=a+1+n by omega]
   clear hqs hqn hsl hsl2 hd;refine pcEnt 52 Tryz.func110 rfl [(0,.im (.string ⟨(s).toArray⟩)),(1,(.im (.int .i64 ((a:Int)))))] ?_
   refine wG fA TI ?_;refine AR.callP qw TI (A4 aC aB aH aW) ?_;refine goG fA TI ?_;refine wG fA (A4 BY hne g0 e34) ?_;refine AR.callP qq TI (A4 aC aB aH aW) ?_;refine goG fA TI ?_;refine wdG fA e0 ?_;refine fiGenO [.cell 4 177,.tmp 5] (finG fA) ?_
   all_goals exact wkG (A4 aC aB aH aW)
 ·rw[if_neg (show ¬(s.drop a).head? =some 34 by rw[hd];intro h;exact h34 (by rw[Option.some.inj h];rfl))]
  have e34: ¬(s[a].toNat:Int)=34:=by omega
  generalize s[a]=c at g0 e34;cases hsy:symP (s.drop a)with
  | none =>
   rw[hsy]at qo;have k1:(([]:Bs)==[])=true:=rfl;clear hqs hqn hsl hsl2 hd;refine pcEnt 52 Tryz.func110 rfl [(0,.im (.string ⟨(s).toArray⟩)),(1,(.im (.int .i64 ((a:Int)))))] ?_
   refine wG fA TI ?_;refine AR.callP qw TI (A4 aC aB aH aW) ?_;refine goG fA TI ?_;refine wG fA (A4 BY hne g0 e34) ?_;refine AR.callP qo TI (A4 aC aB aH aW) ?_;refine goG fA (AI BY k1) ?_;refine wdG fA (AI BY k1) ?_;refine fiGenO [.cell 4 177,.tmp 5] (finG fA) ?_
   all_goals exact wkG (A4 aC aB aH aW)
  | some op =>
   rw[hsy]at qo;have qo:PC Tryz.prog 172 [.im (.string ⟨(s).toArray⟩),(.im (.int .i64 ((a:Int))))] (.im (.string ⟨(op).toArray⟩)):=qo;have k1:=MN (hsl op hsy);have hol:=hsl2 op hsy;have hw1:IntKind.i64.wrap ((a:Int)+(op.length:Int))=((a+op.length:Nat):Int):=by rw[cI (by omega)];omega
   simp only;clear hqs hqn hsl hsl2 hd;refine pcEnt 52 Tryz.func110 rfl [(0,.im (.string ⟨(s).toArray⟩)),(1,(.im (.int .i64 ((a:Int)))))] ?_
   refine wG fA TI ?_;refine AR.callP qw TI (A4 aC aB aH aW) ?_;refine goG fA TI ?_;refine wG fA (A4 BY hne g0 e34) ?_;refine AR.callP qo TI (A4 aC aB aH aW) ?_;refine goG fA (AI BY k1) ?_;refine wdG fA (A3 BY k1 hw1) ?_;refine fiGenO [.cell 4 177,.tmp 5] (finG fA) ?_
   all_goals exact wkG (A4 aC aB aH aW)
theorem My(f:Nat)(s:Bs)(p:Int×Int):nV f s p=nV f (skpG false s) (skq s p):=by
 rw[←wC,←wC]
 exact Ec f s p
theorem GQ{f:Nat}{x:Bs}{t:Tk}{n:Nat}(hx:skpG false x=x)(h0:x≠[])(h:tokP x=some (t,n))(q:Int×Int):nV (f+1) x q=(t.at_ q::(nV f (x.drop n) (advs q (x.take n))).1,(nV f (x.drop n) (advs q (x.take n))).2):=by
 conv=>lhs;rw[nV]
 rw[hx,vG hx,if_neg h0,h]
theorem GR{f:Nat}{x:Bs}(hx:skpG false x=x)(h0:x≠[])(h:tokP x=none)(q:Int×Int):nV (f+1) x q=([⟨6,[],0,q.1,q.2⟩],false):=by
 conv=>lhs;rw[nV]
 rw[hx,vG hx,if_neg h0,h]
theorem Vq{s:Bs}{t:Tk}{n:Nat}(h:tokP s=some (t,n)):t.kind≠6:=by
 unfold tokP at h
 split at h
 ·split at h
  ·rename_i hN
   cases h
   unfold namP at hN;split at hN
   ·cases hN;simp
   split at hN
   ·split at hN
    ·cases hN;simp
    ·cases hN
   ·split at hN
    ·cases hN;simp
    ·cases hN
  ·cases h
 split at h
 ·split at h
  ·cases h;simp
  ·cases h
 ·split at h
  ·cases h;simp
  ·cases h
def lQ:=A11 @Hd @cJ @Hb @FF @lN @xU @Gs @Gr @kG @cH @gI
theorem JS(s:Bs)(hs:s.length≤65536):PC Tryz.prog 54 [.im (.string ⟨(s).toArray⟩)] (.tu [.sl ((scan s).1.map tkV) .ro,(.im (.int .i64 (erN (scan s).2)))]):=by
 have qs0:PC Tryz.prog 109 [.im (.string ⟨(s).toArray⟩),(.im (.int .i64 (0)))] (.im (.int .i64 (((s.length-(skpG false s).length:Nat):Int)))):=by
  have q:=DE s 0 (Nat.zero_le _) (by omega)
  rw[List.drop_zero]at q;exact q
 have hb: ¬(s.length:Int)>65536:=by omega
 refine pcEnt 43 Tryz.func54 rfl [(0,.im (.string ⟨(s).toArray⟩))] ?_
 refine wG lQ (AI BY hb) ?_
 refine AR.callP qs0 TI (A4 aC aB aH aW) ?_
 refine goG lQ TI ?_
 refine wG lQ TI ?_
 refine aT ?_
 refine ALp.ghost 4 [] .nl 177 5 ?_
 suffices H: ∀(k f p:Nat) (A:List Tk),s.length-p=k→s.length-p<f→p≤s.length→skpG false (s.drop p)=s.drop p→scan s=(A++(nV f (s.drop p) (advs (1,1) (s.take p))).1,(nV f (s.drop p) (advs (1,1) (s.take p))).2)→A.length≤p→ALp _ _ _ _ _ ⟨dn 43 [(0,.im (.string ⟨(s).toArray⟩)),(4,.sl (A.map tkV) (.own 0)),(5,(.im (.int .i64 ((((p):Nat):Int)))))],ofl [.tip 177 5 A.length]⟩ by
  refine ALp.cutP 1 [(0,.im (.string ⟨(s).toArray⟩)),(4,.sl (([]:List Tk).map tkV) (.own 0)),(5,(.im (.int .i64 (((s.length-(skpG false s).length:Nat):Int)))))] [.tip 177 5 ([]:List Tk).length] (A4 aC aB aH aW) ?_;have hsuf:s.drop (s.length-(skpG false s).length)=skpG false s:=(List.suffix_iff_eq_drop.1 (rF s false)).symm;exact H _ (s.length+1) _ [] rfl (by omega) (by omega) (by rw[hsuf];exact mV s false) (by rw[hsuf,List.nil_append];exact My (s.length+1) s (1,1)) (Nat.zero_le _)
 intro k
 induction k using Nat.strongRecOn with
 | _ k ih =>
 intro f p A hk hf hpl hx hE hA
 refine cG ?_
 by_cases hlt:p<s.length
 case neg =>
  obtain rfl:p=s.length:=by omega
  have hn: ¬(s.length:Int)<(s.length:Int):=by omega
  rw[List.drop_length,AL,List.append_nil]at hE;rw[hE];clear ih;refine wG lQ (AI BY hn) ?_;refine fiGenO [.tmp 2,.tmp 3] (finG lQ) ?_
  all_goals exact wkG (A4 aC aB aH aW)
 have hlt':(p:Int)<(s.length:Int):=by omega
 have q1:=QI s p hlt (by omega)
 have q2:=IZ s p hpl (by omega)
 have hne:s.drop p≠[]:=fun e=>by
  have:=congrArg List.length e;rw[List.length_drop,List.length_nil]at this;omega
 cases f with
 | zero=>omega
 | succ f =>
 cases hk2:tokP (s.drop p)with
 | none =>
  rw[GR hx hne hk2]at hE;rw[show oneA s p=(⟨6,[],0,0,0⟩,p+((s.drop p).takeWhile isW).length) by unfold oneA;rw[hk2]]at q1
  rw[hE];generalize advs (1,1) (s.take p)=q at q2;obtain⟨B,hB⟩: ∃B,B=A++[(⟨6,[],0,q.1,q.2⟩:Tk)]:=⟨_,rfl⟩
  have hAs:A.map tkV++[V.ag [.im (.int .i64 6),.im (.string ⟨#[]⟩),.im (.int .u32 0),.im (.int .i64 q.1),.im (.int .i64 q.2)]]=B.map tkV:=by rw[hB,List.map_append];rfl
  have hAl:A.length+1=B.length:=by rw[hB];simp
  have hbl:B.length*48≤140737488355328:=by omega
  simp only[←hB];clear ih hE hB;refine wG lQ (AI BY hlt') ?_;refine AR.callP q1 TI (A4 aC aB aH aW) ?_;refine goG lQ TKT ?_;refine wG lQ TKT ?_;refine AR.callP q2 TI (A4 aC aB aH aW) ?_;refine goG lQ TI ?_;refine wdG lQ (A5 TKT hAs hAl hbl @List.length_map.{0,0}) ?_;refine fiGenO [.tmp 2,.tmp 3] (finG lQ) ?_
  all_goals exact wkG (A4 aC aB aH aW)
 | some tn =>
  obtain⟨t,n⟩:=tn;rw[GQ hx hne hk2]at hE;rw[show oneA s p=(t,p+n) by unfold oneA;rw[hk2]]at q1
  have hn:=xX hk2;rw[List.length_drop]at hn;have h6: ¬t.kind=6:=Vq hk2;have q3:=DE s (p+n) (by omega) (by omega)
  have hx3:(s.drop p).drop n=s.drop (p+n):=List.drop_drop;have hq3:advs (advs (1,1) (s.take p)) ((s.drop p).take n)=advs (1,1) (s.take (p+n)):=tD (1,1) s p n;rw[hx3,hq3]at hE;have hyl:(s.drop (p+n)).length=s.length-(p+n):=List.length_drop;have hle:=sF false (s.drop (p+n));obtain⟨p',hp'⟩: ∃p',p'=s.length-(skpG false (s.drop (p+n))).length:=⟨_,rfl⟩
  have hsuf:s.drop p'=skpG false (s.drop (p+n)):=by
   rw[hp'];exact(List.suffix_iff_eq_drop.1 ((rF _ false).trans (List.drop_suffix _ _))).symm
  have hq4:skq (s.drop (p+n)) (advs (1,1) (s.take (p+n)))=advs (1,1) (s.take p'):=by
   unfold skq;rw[tD,hyl,hp',show p+n+(s.length-(p+n)-(skpG false (s.drop (p+n))).length)=s.length-(skpG false (s.drop (p+n))).length by omega]
  obtain⟨B,hB⟩: ∃B,B=A++[t.at_ (advs (1,1) (s.take p))]:=⟨_,rfl⟩
  have hE2:scan s=(B++(nV f (s.drop p') (advs (1,1) (s.take p'))).1,(nV f (s.drop p') (advs (1,1) (s.take p'))).2):=by
   rw[hE,hB,My f (s.drop (p+n)),hq4,hsuf,List.append_assoc];rfl
  have hI:=ih (s.length-p') (by omega) f p' B rfl (by omega) (by omega) (by rw[hsuf];exact mV _ false) hE2 (by rw[hB];simp;omega)
  rw[←hp']at q3;generalize advs (1,1) (s.take p)=q at q2 hB;have hAs:A.map tkV++[V.ag [.im (.int .i64 t.kind),.im (.string ⟨t.text.toArray⟩),.im (.int .u32 t.n),.im (.int .i64 q.1),.im (.int .i64 q.2)]]=B.map tkV:=by rw[hB,List.map_append];rfl
  have hAl:A.length+1=B.length:=by rw[hB];simp
  have hbl:B.length*48≤140737488355328:=by omega
  clear ih hE hB hE2 hq4 hsuf hp' hle hyl hq3 hx3;refine wG lQ (AI BY hlt') ?_;refine AR.callP q1 TI (A4 aC aB aH aW) ?_;refine goG lQ TKT ?_;refine wG lQ TKT ?_;refine AR.callP q2 TI (A4 aC aB aH aW) ?_;refine goG lQ TI ?_;refine wdG lQ (A6 TKT hAs hAl hbl @List.length_map.{0,0} h6) ?_;refine AR.callP q3 TI (A4 aC aB aH aW) ?_;refine goG lQ TI ?_;refine wG lQ TI ?_;refine ALp.cutP 1 [(0,.im (.string ⟨(s).toArray⟩)),(4,.sl (B.map tkV) (.own 0)),(5,(.im (.int .i64 (((p':Nat):Int)))))] [.tip 177 5 B.length] (A4 aC aB aH aW) ?_;exact hI
theorem MO{w:Bs}{t:Tk}(h:namP w=some t):TkW t:=by
 unfold namP at h
 split at h
 ·next hk=>cases h;exact⟨fun _=>hk,fun h=>by cases h⟩
 split at h
 ·split at h
  ·cases h;exact⟨(fun h=>by cases h),fun h=>by cases h⟩
  ·cases h
 ·split at h
  ·cases h;exact⟨(fun h=>by cases h),fun h=>by cases h⟩
  ·cases h
theorem MH: ∀c∈ops1,isL c=false:=by decide
theorem LK{s op:Bs}(h:symP s=some op):op.head?.elim false isL=false:=by
 unfold symP at h
 split at h
 ·cases h;rfl
 split at h
 ·cases h;rfl
 split at h
 ·cases h;rfl
 split at h
 ·cases h;rfl
 split at h
 ·cases h;rfl
 split at h
 ·cases h;rfl
 split at h
 ·cases h
 ·split at h
  ·rename_i hc;cases h;exact MH _ (by simpa using hc)
  ·cases h
theorem LG{s:Bs}{t:Tk}{n:Nat}(h:tokP s=some (t,n)):TkW t:=by
 unfold tokP at h
 split at h
 ·split at h
  ·next hn=>cases h;exact MO hn
  ·cases h
 split at h
 ·split at h
  ·cases h;exact⟨(fun h=>by cases h),fun h=>by cases h⟩
  ·cases h
 ·split at h
  ·next hs=>cases h;exact⟨(fun h=>by cases h),fun _=>LK hs⟩
  ·cases h
theorem LR: ∀(f:Nat) (s:Bs) (p:Int×Int),∀t∈(nV f s p).1,TkW t:=by
 intro f
 induction f with
 | zero=>intro s p t h;rw[nV]at h;cases h
 | succ f ih =>
  intro s p t h;rw[nV]at h;split at h
  ·cases h
  split at h
  ·simp only[List.mem_singleton]at h
   rw[h];exact⟨(fun h=>by cases h),fun h=>by cases h⟩
  ·next t' n ht =>
   simp only[List.mem_cons]at h;rcases h with rfl|h
   ·exact(show TkW t' from LG ht)
   ·exact ih _ _ t h
theorem AJ(s:Bs): ∀t∈(scnR s).1,TkW t:=by
 unfold scnR
 by_cases h:65536<s.length
 ·rw[if_pos h];intro t h;cases h
 ·rw[if_neg h,An]
  exact LR _ _ _
theorem Us(s:Bs)(hs:s.length≤65536):PC Tryz.prog 54 [.im (.string ⟨(s).toArray⟩)] (.tu [.sl ((scnR s).1.map tkV) .ro,(.im (.int .i64 ((scnR s).2)))]):=by
 have h:=JS s hs
 unfold scnR
 rw[if_neg (by omega),An]
 exact h
theorem BB(l:List Tk):tT l (l.length:Int)=tT l ((l.length:Int)-1):=by
 cases l with
 | nil=>rfl
 | cons x r =>
  unfold tT;have h1: ¬((((x::r).length:Nat):Int)<0):=by omega
  have h2: ¬((((x::r).length:Nat):Int)-1<0):=by rw[List.length_cons];omega
  rw[if_neg h1,if_neg h2,show min (((x::r).length:Nat):Int).toNat ((x::r).length-1)=min ((((x::r).length:Nat):Int)-1).toNat ((x::r).length-1) by omega]
def Bo:=A6 @cJ @lN @Gs @Gr @kG @cH
theorem Cj(l:List Tk)(k:Int)(hl:l.length≤4194304):PC Tryz.prog 65 [.sl (l.map tkV) .ro,(.im (.int .i64 (k)))] (.tu [(.im (.int .i64 ((tT l k).1))),(.im (.int .i64 ((tT l k).2)))]):=by
 by_cases h0:k<0
 ·rw[show tT l k=(1,1)from if_pos h0]
  refine pcEnt 28 Tryz.func65 rfl [(0,.sl (l.map tkV) .ro),(1,(.im (.int .i64 (k))))] ?_
  refine wG Bo (AI TKT h0) ?_;refine fiGenO [.tmp 4,.tmp 5] (finG Bo) ?_
  all_goals exact wkG (A4 aC aB aH aW)
 cases hE:l with
 | nil =>
  rw[show tT [] k=(1,1) by unfold tT;split<;>rfl]
  refine pcEnt 28 Tryz.func65 rfl [(0,.sl (([]:List Tk).map tkV) .ro),(1,(.im (.int .i64 (k))))] ?_
  refine wG Bo (AI TKT h0) ?_;refine fiGenO [.tmp 4,.tmp 5] (finG Bo) ?_
  all_goals exact wkG (A4 aC aB aH aW)
 | cons x r =>
 rw[←hE]
 have hpos:1≤l.length:=by rw[hE];simp
 clear hE
 have hne: ¬(l.length:Int)=0:=by omega
 have hw:IntKind.i64.wrap ((l.length:Int)-1)=((l.length-1:Nat):Int):=by rw[cI (by omega)];omega
 obtain⟨j,hj⟩: ∃j,j=min k.toNat (l.length-1):=⟨_,rfl⟩
 have hjl:j<l.length:=by omega
 have hg:l[j]? =some l[j]:=List.getElem?_eq_getElem hjl
 have hR:tT l k=(l[j].line,l[j].col):=by
  unfold tT;rw[if_neg h0,←hj,hg]
 rw[hR]
 clear hR
 generalize l[j]=t at hg
 have hmin:(if((l.length-1:Nat):Int)<k then((l.length-1:Nat):Int)else k)=(j:Int):=by split<;>omega
 refine pcEnt 28 Tryz.func65 rfl [(0,.sl (l.map tkV) .ro),(1,(.im (.int .i64 (k))))] ?_
 refine wdG Bo (A7 TKT h0 hne hw hg hmin @Int.toNat_natCast) ?_
 refine fiGenO [.tmp 4,.tmp 5] (finG Bo) ?_
 all_goals exact wkG (A4 aC aB aH aW)
def StR(ts:List Tk)(f:Nat):Prop:= ∀(a o:Nat),a<ts.length→Pre (stM ts f .st) ⟨a,o,0⟩→ ∃x s',Post (stM ts f .st) ⟨a,o,0⟩ x s'∧DC Tryz.prog 188 [.pt 0 0] [rbx ts ⟨a,o,0⟩] (stV x) [rbx ts s']
inductive LpL (ts:List Tk):List Nd→Sr→List Nd→Sr→Prop where
 | stop {l:List Nd} {s:Sr} (h:s.e≠0∨ts.length≤s.a∨sees ts s.a [125]=true):LpL ts l s l s
 | step {l l':List Nd} {a a1:Nat} {o o1 e1:Int} {x:Nd} {s':Sr} (hl:l.length≤4194304) (hlt:a<ts.length) (hn:sees ts a [125]=false)
   (d:DC Tryz.prog 188 [.pt 0 0] [rbx ts ⟨a,o,0⟩] (ndV x) [rbx ts ⟨a1,o1,e1⟩]) (r:LpL ts (l++[x]) ⟨a1,o1,e1⟩ l' s'):LpL ts l ⟨a,o,0⟩ l' s'
def PostL{α:Type}(ts:List Tk)(m:Nat→Nat→Option (Rs α))(s:Sr)(x:α)(s':Sr):Prop:=Post m s x s'∨(s.e=0∧ ∃o b p:Nat,s.o=o∧m s.a o=some (.bad b 3)∧s'=⟨b,p,0⟩∧ts.length≤b)
theorem PostL.bind{α β:Type}{ts:List Tk}{m:Nat→Nat→Option (Rs α)}{k:α→Nat→Nat→Option (Rs β)}{s s1 s2:Sr}{x:α}{y:β}(q:Post m s x s1)(r:PostL ts (k x) s1 y s2):PostL ts (fun a o=>rb (m a o) k) s y s2:=by
 rcases r with r|⟨h0,o,b,p,ho,hm,hs,hb⟩
 ·exact .inl (q.bind r)
 ·obtain⟨h1,o',a',p',e1,e2,e3⟩:=q.ok h0
  rw[e3]at ho hm;have ho:(p':Int)=o:=ho;obtain rfl:p'=o:=by omega
  exact .inr ⟨h1,o',b,p,e1,by show rb (m s.a o') k=_;rw[e2];exact hm,hs,hb⟩
theorem Tp{α β:Type}{ts:List Tk}{m:Nat→Nat→Option (Rs α)}{g:α→β}{s s1 s2:Sr}{x:α}(q:PostL ts m s x s1)(h:s1.e=0→ ∃o:Nat,s1.o=o)(r:Post (endM ts [125]) s1 () s2):Post (fun a o=>rb (m a o) fun l a o=>rb (endM ts [125] a o) fun _ a o=>ret (g l) a o) s (g x) s2:=by
 rcases q with q|⟨h0,o,b,p,ho,hm,rfl,hb⟩
 ·refine q.bind (r.bind (k:=fun _ a o=>ret (g x) a o) (Post.ret (m:=fun a o=>ret (g x) a o) fun h=> ?_))
  obtain⟨_,o4,a4,p4,_,_,w⟩:=r.ok h;rw[w];exact⟨p4,rfl,_,rfl⟩
 ·have hs:sees ts b [125]=false:=by
   rw[←Bool.not_eq_true];intro hh;have:=cB hh;omega
  obtain⟨o',ho',r⟩:=r.2 rfl;have hE:endM ts [125] b o'=some (.bad b 3):=by unfold endM;rw[if_pos hs]
  rcases r with ⟨a2,p2,z,_⟩|⟨b2,e2,z,z1,z2,z3⟩
  ·rw[hE]at z;cases z
  ·rw[hE]at z
   cases z
   exact⟨fun h=>absurd h0 h,fun _=>⟨o,ho,.inr ⟨b,3,by show rb (m s.a o) _=_;rw[hm];rfl,z1,z2,z3⟩⟩⟩
theorem LM{ts:List Tk}{f a o:Nat}(h:ts.length≤a):stM ts (f+1) .st a o=some (.bad a 3):=by
 have hs: ∀x,sees ts a x=false:=fun x=>by
  rw[←Bool.not_eq_true];intro hh;have:=cB hh;omega
 have hk: ¬(pk ts a).kind=1:=by rw[wZ h];decide
 rw[stM,if_neg hk]
 simp only[hs,Bool.false_eq_true,if_false]
theorem KT{ts:List Tk}(hts:ts.length≤4194304): ∀(f:Nat),(∀g,g<f→StR ts g)→ ∀(l:List Nd) (s:Sr),Pre (stM ts f (.li l)) s→(s.e=0→l.length≤s.a) →
  ∃l' s',LpL ts l s l' s'∧PostL ts (stM ts f (.li l)) s [l'] s'∧(s'.e=0→s'.o=s.o):=by
 intro f
 induction f with
 | zero =>
  intro hS l s hp hb
  by_cases he:s.e=0
  ·obtain⟨o,_,r,hr⟩:=hp he
   cases hr
  ·exact⟨l,s,.stop (.inl he),.inl (Post.of_err he rfl rfl),fun h=>absurd h he⟩
 | succ f ih =>
  intro hS l s hp hb
  by_cases he:s.e=0
  case neg=>exact⟨l,s,.stop (.inl he),.inl (Post.of_err he rfl rfl),fun h=>absurd h he⟩
  obtain⟨a,o',e⟩:=s;cases he
  obtain⟨o,ho,r,hr⟩:=hp rfl;have ho:o'=(o:Int):=ho;subst ho;have hr:stM ts (f+1) (.li l) a o=some r:=hr;have hb:=hb rfl;simp only at hb
  by_cases hs:sees ts a [125]=true
  ·exact⟨l,⟨a,o,0⟩,.stop (.inr (.inr hs)),.inl (Post.of_ok (by rw[stM,if_pos hs];rfl)),fun _=>rfl⟩
  have hM: ∀o,stM ts (f+1) (.li l) a o=rb (stM ts f .st a o) fun s a o=>stM ts f (.li (l++[theS s])) a o:=fun o=>by rw[stM,if_neg hs]
  by_cases hlt:a<ts.length
  case neg =>
   refine⟨l,⟨a,o,0⟩,.stop (.inr (.inl (by show ts.length≤a;omega))),.inr ⟨rfl,o,a,o,rfl,?_,rfl,by omega⟩,fun _=>rfl⟩
   cases f with
   | zero=>rw[hM]at hr;cases hr
   | succ g=>exact(hM o).trans (by rw[LM (by omega)];rfl)
  have hp2:Pre (fun a o=>rb (stM ts f .st a o) fun s a o=>stM ts f (.li (l++[theS s])) a o) ⟨a,o,0⟩:=Pre.congr (fun _=>funext hM) hp
  obtain⟨x,⟨a1,o1,e1⟩,q,d⟩:=hS f (Nat.lt_succ_self f) a o hlt hp2.fst
  have hk:e1=0→o1=(o:Int)∧a<a1:=fun h=>by
   obtain⟨_,o2,a2,p2,w1,w2,w3⟩:=q.ok h;have w2:stM ts f .st a o2=some (.ok x a2 p2):=w2;have:=(gC ts f).1 _ _ _ _ _ w2;have w4:a1=a2:=congrArg Sr.a w3;have w5:o1=(p2:Int):=congrArg Sr.o w3;have w1:(o:Int)=o2:=w1;omega
  obtain⟨l',s',hL,hq,ho⟩:=ih (fun g hg=>hS g (by omega)) (l++[theS x]) ⟨a1,o1,e1⟩ (hp2.snd q) (fun h=>by
   have:=hk h;rw[List.length_append];show l.length+1≤a1
   omega)
  refine⟨l',s',.step (by omega) hlt (by rw[←Bool.not_eq_true];exact hs) d hL,?_,fun h=> ?_⟩
  ·have hh:=PostL.bind (k:=fun s a o=>stM ts f (.li (l++[theS s])) a o) q hq
   rcases hh with hh|⟨h0,o2,b,p,w1,w2,w3,w4⟩
   ·exact .inl (Post.congr (fun _=>funext hM) hh)
   ·exact .inr ⟨h0,o2,b,p,w1,by show stM ts (f+1) (.li l) a o2=_;rw[hM];exact w2,w3,w4⟩
  ·have h1:=ho h
   have he1:e1=0:=by
    rcases hq with hq|⟨h0,_⟩
    ·exact(hq.ok h).1
    ·exact h0
   rw[h1];exact(hk he1).1
def kF:=A15 @oO @lX @cJ @iR @Qa @lN @qC @lE @gP @jP @oI @fH @kG @lW @cH
theorem Kx{ts:List Tk}(hts:ts.length≤4194304){s s':Sr}{l':List Nd}(hL:LpL ts [] s l' s'):DC Tryz.prog 129 [.pt 0 0] [rbx ts s] (.sl (l'.map ndV) .ro) [rbx ts s']:=by
 refine dcEnt 32 Tryz.func129 rfl [(0,.pt 0 0)] ?_
 refine wG kF TI ?_
 refine aT ?_
 refine ALp.ghost 3 [] .nl 165 7 ?_
 suffices H: ∀(l:List Nd) (s:Sr),LpL ts l s l' s'→ALp _ _ _ _ _ ⟨dn 32 [(0,.pt 0 0),(3,.sl ((l).map ndV) (.own 1))],ofl [rbx ts s,.tip 165 7 (l).length]⟩ by
  simp only[rbx]at H ⊢;refine ALp.cutP 2 [(0,.pt 0 0),(3,.sl ((([]:List Nd)).map ndV) (.own 1))] [.box [.sl (ts.map tkV) .ro,(.im (.int .i64 ((s.a:Nat)))),(.im (.int .i64 (s.o))),(.im (.int .i64 (s.e)))],.tip 165 7 (([]:List Nd)).length] gS ?_;exact H [] s hL
 clear hL
 intro l s hL
 induction hL with
 | @stop l s h =>
  obtain⟨a,o,e⟩:=s;simp only[rbx]at h ⊢;refine cG ?_
  by_cases he:e=0
  case neg =>
   refine wdG kF he ?_;refine fiGen [.tmp 2] (finG kF) ?_ rfl (idG gS)
   show WkF _ _ _ (.sl (l.map ndV) .ro)
   all_goals exact wkG gS
  subst he
  by_cases hlt:a<ts.length
  case neg =>
   have hn: ¬(a:Int)<(ts.length:Int):=by omega
   refine wdG kF (AI hn @List.length_map.{0,0}) ?_;refine fiGen [.tmp 2] (finG kF) ?_ rfl (idG gS)
   show WkF _ _ _ (.sl (l.map ndV) .ro)
   all_goals exact wkG gS
  have hs:sees ts a [125]=true:=by
   rcases h with h|h|h
   ·exact absurd rfl h
   ·omega
   ·exact h
  have hn:(a:Int)<(ts.length:Int):=by omega
  have hi:=nR ts a o 0 [125];rw[fY,hs]at hi;refine wdG kF (AI hn @List.length_map.{0,0}) ?_;refine aA [0] hi TI gS mD ?_;refine goG kF TI ?_;refine wdG kF TI ?_;refine fiGen [.tmp 2] (finG kF) ?_ rfl (idG gS)
  show WkF _ _ _ (.sl (l.map ndV) .ro)
  all_goals exact wkG gS
 | @step l l' a a1 o o1 e1 x s' hl hlt hn d r ih =>
  have hn':(a:Int)<(ts.length:Int):=by omega
  have hi:=nR ts a o 0 [125];rw[fY,hn]at hi;obtain⟨B,hB⟩: ∃B,B=l++[x]:=⟨_,rfl⟩
  have hAs:l.map ndV++[ndV x]=B.map ndV:=by rw[hB,List.map_append];rfl
  have hAl:l.length+1=B.length:=by rw[hB];simp
  have hbl:B.length*128≤140737488355328:=by omega
  rw[←hB]at ih;simp only[rbx]at d ih ⊢;refine cG ?_;refine wdG kF (AI hn' @List.length_map.{0,0}) ?_;refine aA [0] hi TI gS mD ?_;refine goG kF TI ?_;refine wdG kF TI ?_;refine aA [0] d TI gS mD ?_;refine goG kF (A6 ND hAs hAl hbl Ke @List.length_map.{0,0}) ?_;refine wG kF (A6 ND hAs hAl hbl Ke @List.length_map.{0,0}) ?_;refine ALp.cutP 2 [(0,.pt 0 0),(3,.sl ((B).map ndV) (.own 1))] [.box [.sl (ts.map tkV) .ro,(.im (.int .i64 ((a1:Nat)))),(.im (.int .i64 (o1))),(.im (.int .i64 (e1)))],.tip 165 7 (B).length] gS ?_;exact ih
theorem EI{ts:List Tk}(hts:ts.length≤4194304)(f:Nat)(hS: ∀g,g<f→StR ts g):BrR ts (f+1):=by
 intro s hp
 have hM:stM ts (f+1) .br=fun a o=>rb (begM ts [123] a o) fun _ a o=>rb (stM ts f (.li []) a o) fun l a o=>rb (endM ts [125] a o) fun _ a o=>ret l a o:=by funext a o;rw[stM]
 rw[hM]at hp ⊢
 obtain⟨⟨a1,o1,e1⟩,q1,b1,d1⟩:=mX ts hts s [123] hp.fst
 have p1:=hp.snd q1
 obtain⟨l,⟨a2,o2,e2⟩,hL,q2,b2⟩:=KT hts f hS [] ⟨a1,o1,e1⟩ p1.fst (fun _=>Nat.zero_le _)
 have he1:e2=0→e1=0:=fun h=>by
  rcases q2 with q|⟨h0,_⟩
  ·exact(q.ok h).1
  ·exact h0
 have hb2:e2=0→1≤o2∧o2≤256:=fun h=>by
  have h2:=b2 h;have h1:=(b1 (he1 h)).2;simp only at h1 h2;omega
 have hpe:Pre (endM ts [125]) ⟨a2,o2,e2⟩:=fun h=>by
  have:=hb2 h;exact⟨o2.toNat,by show o2=_;omega,_,rfl⟩
 obtain⟨⟨a3,o3,e3⟩,q3,b3,d3⟩:=tZ ts hts ⟨a2,o2,e2⟩ [125] hb2 hpe
 refine⟨[l],⟨a3,o3,e3⟩,q1.bind (Tp (g:=id) q2 (fun h=>(hpe h).imp fun _ h=>h.1) q3),?_⟩
 have d2:=Kx hts hL
 obtain⟨a,o,e⟩:=s
 clear q1 q2 q3 p1 hp hL b1 b2 b3 hb2 hpe he1
 show DC _ _ _ _ (nlV l) _
 unfold nlV
 simp only[rbx]at d1 d2 d3 ⊢
 refine dcEnt 11 Tryz.func239 rfl [(0,.pt 0 0)] ?_
 refine wG TI TI ?_
 refine aA [0] d1 TI gS mD ?_
 refine goG TI TI ?_
 refine wG TI TI ?_
 refine aA [0] d2 TI gS mD ?_
 refine goG TI TI ?_
 refine wG TI TI ?_
 refine aA [0] d3 TI gS mD ?_
 refine goG TI TI ?_
 refine wG TI TI ?_
 refine fiGen [.tmp 2] (finG TI) ?_ rfl (idG gS)
 all_goals exact wkG gS
theorem Pd(ts:List Tk)(hts:ts.length≤4194304)(s:Sr)(he:s.e≠0): ∃x s',s'.a=s.a∧s'.e=s.e∧DC Tryz.prog 239 [.pt 0 0] [rbx ts s] (liV x) [rbx ts s']:=by
 obtain⟨⟨a1,o1,e1⟩,q1,b1,d1⟩:=mX ts hts s [123] (Pre.err he)
 have h1:e1≠0:=q1.err he
 have d2:=Kx hts (.stop (.inl h1):LpL ts [] ⟨a1,o1,e1⟩ [] ⟨a1,o1,e1⟩)
 obtain⟨⟨a3,o3,e3⟩,q3,b3,d3⟩:=tZ ts hts ⟨a1,o1,e1⟩ [125] (fun h=>absurd h h1) (Pre.err h1)
 refine⟨[[]],⟨a3,o3,e3⟩,(q3.1 h1).1.trans (q1.1 he).1,(q3.1 h1).2.trans (q1.1 he).2,?_⟩
 obtain⟨a,o,e⟩:=s
 clear q1 q3 b1 b3
 show DC _ _ _ _ (nlV []) _
 unfold nlV
 simp only[rbx]at d1 d2 d3 ⊢
 refine dcEnt 11 Tryz.func239 rfl [(0,.pt 0 0)] ?_
 refine wG TI TI ?_
 refine aA [0] d1 TI gS mD ?_
 refine goG TI TI ?_
 refine wG TI TI ?_
 refine aA [0] d2 TI gS mD ?_
 refine goG TI TI ?_
 refine wG TI TI ?_
 refine aA [0] d3 TI gS mD ?_
 refine goG TI TI ?_
 refine wG TI TI ?_
 refine fiGen [.tmp 2] (finG TI) ?_ rfl (idG gS)
 all_goals exact wkG gS
theorem Yt{n:Int}(h:0≤n∧n≤4294967295):IntKind.u32.wrap n=n:=by
 show n%4294967296=n
 omega
def csW:Bs:=[99,97,115,101]
inductive LpC (ts:List Tk):List (List Nd)→Sr→List (List Nd)→Sr→Prop where
 | stop {c:List (List Nd)} {s:Sr} (h:isR ts s.a s.e csW=false):LpC ts c s c s
 | step {c c':List (List Nd)} {a a1 a2:Nat} {o o1 o2 e1 e2 n:Int} {x:List Nd} {s':Sr} (hl:c.length≤4194304) (hs:sees ts a csW=true)
   (d1:DC Tryz.prog 174 [.pt 0 0] [rbx ts ⟨a+1,o,if(pk ts (a+1)).kind=3∧(pk ts (a+1)).n≠c.length then 3 else 0⟩] (.im (.int .u32 n)) [rbx ts ⟨a1,o1,e1⟩])
   (d2:DC Tryz.prog 239 [.pt 0 0] [rbx ts ⟨a1,o1,e1⟩] (nlV x) [rbx ts ⟨a2,o2,e2⟩])
   (r:LpC ts (c++[x]) ⟨a2,o2,e2⟩ c' s'):LpC ts c ⟨a,o,0⟩ c' s'
theorem QC{ts:List Tk}(hts:ts.length≤4194304)(hok: ∀t∈ts,TkOk t): ∀(f:Nat),(∀g,g<f→BrR ts g)→ ∀(c:List (List Nd)) (s:Sr),Pre (stM ts f (.ca c)) s→(s.e=0→(1≤s.o∧s.o≤256)∧c.length≤s.a) →
  ∃c' s',LpC ts c s c' s'∧Pre (endM ts [125]) s'∧(s'.e=0→1≤s'.o∧s'.o≤256)∧ ∀s'',Post (endM ts [125]) s' () s''→Post (stM ts f (.ca c)) s c' s'':=by
 intro f
 induction f with
 | zero =>
  intro hB c s hp hb
  by_cases he:s.e=0
  ·obtain⟨o,_,r,hr⟩:=hp he
   cases hr
  ·exact⟨c,s,.stop (uV he),Pre.err he,fun h=>absurd h he,fun s'' q=>Post.of_err he (q.1 he).1 (q.1 he).2⟩
 | succ f ih =>
  intro hB c s hp hb
  by_cases he:s.e=0
  case neg=>exact⟨c,s,.stop (uV he),Pre.err he,fun h=>absurd h he,fun s'' q=>Post.of_err he (q.1 he).1 (q.1 he).2⟩
  obtain⟨a,o',e⟩:=s;cases he
  obtain⟨o,ho,r,hr⟩:=hp rfl;have ho:o'=(o:Int):=ho;subst ho;have hr:stM ts (f+1) (.ca c) a o=some r:=hr;have hb:=hb rfl;simp only at hb
  by_cases hs:sees ts a csW=true
  case neg =>
   have hM: ∀o,stM ts (f+1) (.ca c) a o=rb (endM ts [125] a o) fun _ a o=>ret c a o:=fun o=>by rw[stM,if_neg (show ¬sees ts a [99,97,115,101]=true from hs)]
   refine⟨c,⟨a,o,0⟩,.stop (by show isR ts a 0 csW=false;rw[fY,←Bool.not_eq_true];exact hs),fun _=>⟨o,rfl,_,rfl⟩,fun _=>hb.1,fun s'' q=>Post.congr (fun _=>funext hM) (q.bind (k:=fun _ a o=>ret c a o) (Post.ret (m:=fun a o=>ret c a o) fun h=> ?_))⟩
   obtain⟨_,o4,a4,p4,_,_,w⟩:=q.ok h;rw[w];exact⟨p4,rfl,_,rfl⟩
  have hlt:=cB hs;have hcl:c.length≤4194304:=by omega
  by_cases hk:(pk ts (a+1)).kind=3∧(pk ts (a+1)).n=c.length
  ·have hM: ∀o,stM ts (f+1) (.ca c) a o=rb (stM ts f .br (a+2) o) fun l a o=>stM ts f (.ca (c++[l.headD []])) a o:=fun o=>by rw[stM,if_pos (show sees ts a [99,97,115,101]=true from hs),if_pos hk]
   have hc:(if(pk ts (a+1)).kind=3∧(pk ts (a+1)).n≠c.length then(3:Int)else 0)=0:=if_neg fun h=>h.2 hk.2
   obtain⟨n,s1,q1,_,_,d1⟩:=xM ts hts hok ⟨a+1,o,0⟩ (fun _=>⟨o,rfl,Sm.tak ts 3 (a+1) o⟩)
   have hT:takM ts 3 (a+1) o=some (.ok (pk ts (a+1)) (a+2) o):=by unfold takM;rw[if_neg (by simpa using hk.1)]
   obtain⟨o2,ho2,q1⟩:=q1.2 rfl;have ho2:(o:Int)=o2:=ho2;obtain rfl:o=o2:=by omega
   rcases q1 with ⟨b,p,z,hs1⟩|⟨b,e,z,_⟩
   case inr=>rw[hT]at z;cases z
   rw[hT]at z;injection z with z
   injection z with z1 z2 z3
   rw[←z2,←z3]at hs1;subst hs1;have hp2:Pre (fun a o=>rb (stM ts f .br a o) fun l a o=>stM ts f (.ca (c++[l.headD []])) a o) ⟨a+2,o,0⟩:=fun _=>⟨o,rfl,r,by show rb (stM ts f .br (a+2) o) _=some r;rw[←hM];exact hr⟩
   obtain⟨x,⟨a2,o3,e2⟩,q2,d2⟩:=hB f (Nat.lt_succ_self f) ⟨a+2,o,0⟩ hp2.fst
   have hk2:e2=0→o3=(o:Int)∧a<a2:=fun h=>by
    obtain⟨_,o4,a4,p4,w1,w2,w3⟩:=q2.ok h;have w2:stM ts f .br (a+2) o4=some (.ok x a4 p4):=w2;have:=(gC ts f).2.2.1 _ _ _ _ _ w2;have w4:a2=a4:=congrArg Sr.a w3;have w5:o3=(p4:Int):=congrArg Sr.o w3;have w1:(o:Int)=o4:=w1;omega
   obtain⟨c',s',hL,hpe,hbe,hq⟩:=ih (fun g hg=>hB g (by omega)) (c++[x.headD []]) ⟨a2,o3,e2⟩ (hp2.snd q2) (fun h=>by
    have:=hk2 h;refine⟨by show 1≤o3∧o3≤256;omega,?_⟩
    rw[List.length_append];show c.length+1≤a2
    omega)
   exact⟨c',s',.step hcl hs (by rw[hc];exact d1) d2 hL,hpe,hbe,fun s'' q=>postShift (fun o=>(hM o).symm) (q2.bind (k:=fun l a o=>stM ts f (.ca (c++[l.headD []])) a o) (hq s'' q))⟩
  ·have hM: ∀o,stM ts (f+1) (.ca c) a o=some (.bad (a+1) 3):=fun o=>by rw[stM,if_pos (show sees ts a [99,97,115,101]=true from hs),if_neg hk]
   have hN: ∃n a1 o1,DC Tryz.prog 174 [.pt 0 0] [rbx ts ⟨a+1,o,if(pk ts (a+1)).kind=3∧(pk ts (a+1)).n≠c.length then 3 else 0⟩] (.im (.int .u32 n)) [rbx ts ⟨a1,o1,3⟩]∧a1=a+1:=by
    by_cases h3:(pk ts (a+1)).kind=3
    ·rw[if_pos ⟨h3,fun h=>hk ⟨h3,h⟩⟩]
     obtain⟨n,⟨a1,o1,e1⟩,q,_,_,d⟩:=xM ts hts hok ⟨a+1,o,3⟩ (Pre.err (by show(3:Int)≠0;decide))
     obtain⟨w1,w2⟩:=q.1 (by show(3:Int)≠0;decide)
     have w2:e1=3:=w2;subst w2;exact⟨n.n,a1,o1,d,w1⟩
    ·rw[if_neg fun h=>h3 h.1]
     obtain⟨n,⟨a1,o1,e1⟩,q,_,_,d⟩:=xM ts hts hok ⟨a+1,o,0⟩ (fun _=>⟨o,rfl,Sm.tak ts 3 (a+1) o⟩)
     have hT:takM ts 3 (a+1) o=some (.bad (a+1) 3):=by unfold takM;rw[if_pos h3]
     obtain⟨o2,ho2,q⟩:=q.2 rfl;have ho2:(o:Int)=o2:=ho2;obtain rfl:o=o2:=by omega
     rcases q with ⟨b,p,z,_⟩|⟨b,e,z,w1,w2,_⟩
     ·rw[hT]at z;cases z
     rw[hT]at z;injection z with z
     injection z with z1 z2
     have w2:e1=e:=w2;have w1:a1=b:=w1;subst w2;subst z2;exact⟨n.n,a1,o1,d,by omega⟩
   obtain⟨n,a1,o1,d1,ha1⟩:=hN;obtain⟨x,⟨a2,o2,e2⟩,w1,w2,d2⟩:=Pd ts hts ⟨a1,o1,3⟩ (by show(3:Int)≠0;decide)
   have w1:a2=a1:=w1;have w2:e2=3:=w2;subst w2;have h3:(3:Int)≠0:=by decide
   refine⟨c++[x.headD []],⟨a2,o2,3⟩,.step hcl hs d1 d2 (.stop (uV h3)),Pre.err h3,(fun h=>absurd h h3),fun s'' q=> ?_⟩
   obtain⟨z1,z2⟩:=q.1 h3;obtain⟨a9,o9,e9⟩:=s'';have z1:a9=a2:=z1;have z2:e9=3:=z2;subst z2;obtain rfl:a9=a+1:=by omega
   exact Post.of_bad (hM o) h3
def choM(ts:List Tk)(f:Nat)(a o:Nat):Option (Rs (List (List Nd))):=rb (exM ts f (.ex 1) a o) fun x a o=>rb (begM ts [123] a o) fun _ a o=>rb (stM ts f (.ca []) a o) fun c a o=>ret (oneS (.mk 9 0 ByteArray.empty [x] [] [] c)) a o
def cU:=A16 @oO @oN @iA @cJ @oL @iR @Dn @gQ @Lx @lN @mC @fG @lE @gP @lZ (A14 @Gt @pU @rZ @nB @oI @oH @fH @kG @cH @jU @oG @eF @pT @rW)
theorem OC{ts:List Tk}(hts:ts.length≤4194304)(hok: ∀t∈ts,TkOk t){s0 s1 s2 s' s'':Sr}{x:Ex}{c':List (List Nd)}(d0:DC Tryz.prog 61 [.pt 0 0,(.im (.int .i64 (1)))] [rbx ts s0] (exV x) [rbx ts s1])
  (d1:DC Tryz.prog 128 [.pt 0 0,.im (.string ⟨([123]).toArray⟩)] [rbx ts s1] (.tu []) [rbx ts s2]) (hL:LpC ts [] s2 c' s') (d9:DC Tryz.prog 130 [.pt 0 0,.im (.string ⟨([125]).toArray⟩)] [rbx ts s'] (.tu []) [rbx ts s'']) :
  DC Tryz.prog 238 [.pt 0 0] [rbx ts s0] (ndV (.mk 9 0 ByteArray.empty [x] [] [] c')) [rbx ts s'']:=by
 obtain⟨a0,o0,e0⟩:=s0
 obtain⟨a1,o1,e1⟩:=s1
 obtain⟨a9,o9,e9⟩:=s''
 obtain⟨B,hB1⟩: ∃B,B=[x]:=⟨_,rfl⟩
 have hAs:[exV x]=B.map exV:=by rw[hB1];rfl
 have hAs2:[V.ag [(.im (.int .i64 (x.op))),.im (.int .u32 x.n),.im (.string x.name),(.im (.int .i64 (x.width))),.sl (x.l.map exV) .ro]]=B.map exV:=by rw[hB1,List.map_cons,List.map_nil,bW x]
 rw[←hB1]
 simp only[rbx]at d0 d1 d9 ⊢
 refine dcEnt 46 Tryz.func238 rfl [(0,.pt 0 0)] ?_
 refine wG cU TI ?_
 refine aA [0] d0 TI (A12 aB aC @aF @aE aP aG aU aM aV bL aW bT) (A12 aI aJ @aN @aO aX aR aZ cA bC bY cD cE) ?_
 refine goG cU (A10 @dJ @cQ @dH @dG @dI @cR @List.getElem?_map.{0,0} @Int.natCast_nonneg hAs hAs2) ?_
 refine wG cU (A10 @dJ @cQ @dH @dG @dI @cR @List.getElem?_map.{0,0} @Int.natCast_nonneg hAs hAs2) ?_
 refine aA [0] d1 TI (A12 aB aC @aF @aE aP aG aU aM aV bL aW bT) (A12 aI aJ @aN @aO aX aR aZ cA bC bY cD cE) ?_
 refine goG cU TI ?_
 refine wG cU TI ?_
 refine aT ?_
 refine cG ?_
 refine Af 3 [(0,.pt 0 0),(2,.pt 1 0),(3,.pt 2 0)] [.box [.sl (ts.map tkV) .ro,(.im (.int .i64 ((s2.a:Nat)))),(.im (.int .i64 (s2.o))),(.im (.int .i64 (s2.e)))],.box [(.im (.int .i64 (0))),(.im (.int .i64 (0))),.im (.string ByteArray.empty),.sl [] .nl,.sl [] .nl,.sl [] .nl,.sl [] .nl],.box [(.im (.int .i64 (9))),(.im (.int .i64 (0))),.im (.string ByteArray.empty),.sl (B.map exV) .ro,.sl [] .nl,.sl [] .nl,.sl [] .nl]] ?_ (by simp) (by repeat (first|exact WkFA.nil|refine WkFA.cons (by first|exact .of (Wk.refl _) (by first|rfl|simp only[List.length_cons,List.length_nil,Nat.reduceAdd,V.ids,V.idsL,idsA,entOk,List.all_cons,List.all_nil,Bool.and_self,Bool.and_true,Bool.true_and,ltB,noId,Nat.reduceLT,decide_true,Bool.true_eq_false,bN,bP,bO,bQ,aB,aC,aF,aE,aP,aG,aU,aM,aV,bL,aW,bT])|exact .of (Wk.ro _ _) (by simp[V.ids,V.idsL,aE])) ?_)) (by repeat (first|exact WkFE.nil|refine WkFE.box (by repeat (first|exact WkFL.nil|refine WkFL.cons (by first|exact .of (Wk.refl _) (by first|rfl|simp only[List.length_cons,List.length_nil,Nat.reduceAdd,V.ids,V.idsL,idsA,entOk,List.all_cons,List.all_nil,Bool.and_self,Bool.and_true,Bool.true_and,ltB,noId,Nat.reduceLT,decide_true,Bool.true_eq_false,bN,bP,bO,bQ,aB,aC,aF,aE,aP,aG,aU,aM,aV,bL,aW,bT])|exact .of (Wk.ro _ _) (by simp[V.ids,V.idsL,aE])) ?_)) ?_|refine WkFE.same (fun _ e=>by cases e) ?_)) (fun i hi=>by first|exact absurd rfl hi|exact Nat.lt_of_lt_of_le (oQ hi) (by simp))
 refine AWp.ghostB 2 6 [(.im (.int .i64 (9))),(.im (.int .i64 (0))),.im (.string ByteArray.empty),.sl (B.map exV) .ro,.sl [] .nl,.sl [] .nl,.sl [] .nl] 35 1 ?_
 suffices H: ∀(c:List (List Nd)) (s:Sr),LpC ts c s c' s'→AWpK _ _ _ _ _ ⟨dn 46 [(0,.pt 0 0),(2,.pt 1 0),(3,.pt 2 0)],ofl [rbx ts s,.box [(.im (.int .i64 (0))),(.im (.int .i64 (0))),.im (.string ByteArray.empty),.sl [] .nl,.sl [] .nl,.sl [] .nl,.sl [] .nl],.box [(.im (.int .i64 (9))),(.im (.int .i64 (0))),.im (.string ByteArray.empty),.sl (B.map exV) .ro,.sl [] .nl,.sl [] .nl,.sl ((c).map nlV) (.mine 3)],.tip 35 1 (c).length]⟩ by
  simp only[rbx]at H;refine AWp.cutP 4 [(0,.pt 0 0),(2,.pt 1 0),(3,.pt 2 0)] [.box [.sl (ts.map tkV) .ro,(.im (.int .i64 ((s2.a:Nat)))),(.im (.int .i64 (s2.o))),(.im (.int .i64 (s2.e)))],.box [(.im (.int .i64 (0))),(.im (.int .i64 (0))),.im (.string ByteArray.empty),.sl [] .nl,.sl [] .nl,.sl [] .nl,.sl [] .nl],.box [(.im (.int .i64 (9))),(.im (.int .i64 (0))),.im (.string ByteArray.empty),.sl (B.map exV) .ro,.sl [] .nl,.sl [] .nl,.sl ((([]:List (List Nd))).map nlV) (.mine 3)],.tip 35 1 (([]:List (List Nd))).length] (A12 aB aC @aF @aE aP aG aU aM aV bL aW bT) ?_;exact H [] s2 hL
 clear hL d0 d1 hAs hAs2 hB1
 intro c s hL
 induction hL with
 | @stop c s h =>
  have h3:=fR ts s.a s.o s.e csW hts;rw[h,if_neg (by decide)]at h3
  obtain⟨a,o,e⟩:=s;unfold csW at h3;simp only[rbx]at h3 d9 ⊢;refine wG cU TI ?_;refine aA [0] h3 TI (A12 aB aC @aF @aE aP aG aU aM aV bL aW bT) (A12 aI aJ @aN @aO aX aR aZ cA bC bY cD cE) ?_;refine goG cU TI ?_;refine wG cU TI ?_;refine aA [0] d9 TI (A12 aB aC @aF @aE aP aG aU aM aV bL aW bT) (A12 aI aJ @aN @aO aX aR aZ cA bC bY cD cE) ?_;refine goG cU TI ?_;refine wG cU TI ?_;refine fiGen [.cell 2 165] (finG cU) ?_ rfl (idG (A12 aB aC @aF @aE aP aG aU aM aV bL aW bT))
  simp only[gH,List.map_nil]
  all_goals exact wkG (A12 aB aC @aF @aE aP aG aU aM aV bL aW bT)
 | @step c c' a a1 a2 o o1 o2 e1 e2 n x s' hl hs d1 d2 r ih =>
  have ih:=ih d9;have h3:=fR ts a o 0 csW hts;rw[fY,hs,if_pos rfl]at h3;unfold csW at h3;have hik:=kP ts (a+1) o 0 3 (by decide)
  have hf:=tY ts (a+1) o 0;rw[if_pos rfl]at hf;rw[show decide ((0:Int)=0)=true from rfl,Bool.true_and]at hik
  have hn:=yP hok (a+1);have hwl:=Yt (n:=(c.length:Int)) (by omega)
  obtain⟨C,hC⟩: ∃C,C=c++[x]:=⟨_,rfl⟩
  have hAs:c.map nlV++[nlV x]=C.map nlV:=by rw[hC,List.map_append];rfl
  have hAl:c.length+1=C.length:=by rw[hC];simp
  have hbl:C.length*24≤140737488355328:=by omega
  rw[←hC]at ih
  by_cases k3:(pk ts (a+1)).kind=3
  ·have hlt:=eT k3 (by decide)
   obtain⟨hg,g0,gn⟩:=rtake hlt;rw[decide_eq_true k3]at hik
   by_cases kn:(pk ts (a+1)).n=c.length
   ·rw[if_neg (fun h=>h.2 kn)]at d1
    generalize pk ts (a+1)=t at hg kn;simp only[rbx]at h3 d1 d2 ih ⊢;refine wG cU TI ?_;refine aA [0] h3 TI (A12 aB aC @aF @aE aP aG aU aM aV bL aW bT) (A12 aI aJ @aN @aO aX aR aZ cA bC bY cD cE) ?_;refine goG cU TI ?_;refine wdG cU TI ?_;refine aA [0] hik TI (A12 aB aC @aF @aE aP aG aU aM aV bL aW bT) (A12 aI aJ @aN @aO aX aR aZ cA bC bY cD cE) ?_;refine goG cU (A7 TKT hg g0 gn kn hwl @List.length_map.{0,0}) ?_;refine wdG cU (A7 TKT hg g0 gn kn hwl @List.length_map.{0,0}) ?_;refine aA [0] d1 TI (A12 aB aC @aF @aE aP aG aU aM aV bL aW bT) (A12 aI aJ @aN @aO aX aR aZ cA bC bY cD cE) ?_;refine goG cU TI ?_;refine wdG cU TI ?_;refine aA [0] d2 TI (A12 aB aC @aF @aE aP aG aU aM aV bL aW bT) (A12 aI aJ @aN @aO aX aR aZ cA bC bY cD cE) ?_;refine goG cU (A6 ND hAs hAl hbl rJ @List.length_map.{0,0}) ?_;refine wdG cU (A6 ND hAs hAl hbl rJ @List.length_map.{0,0}) ?_;refine cG ?_;refine AWp.cutP 4 [(0,.pt 0 0),(2,.pt 1 0),(3,.pt 2 0)] [.box [.sl (ts.map tkV) .ro,(.im (.int .i64 ((a2:Nat)))),(.im (.int .i64 (o2))),(.im (.int .i64 (e2)))],.box [(.im (.int .i64 (0))),(.im (.int .i64 (0))),.im (.string ByteArray.empty),.sl [] .nl,.sl [] .nl,.sl [] .nl,.sl [] .nl],.box [(.im (.int .i64 (9))),(.im (.int .i64 (0))),.im (.string ByteArray.empty),.sl (B.map exV) .ro,.sl [] .nl,.sl [] .nl,.sl ((C).map nlV) (.mine 3)],.tip 35 1 (C).length] (A12 aB aC @aF @aE aP aG aU aM aV bL aW bT) ?_;exact ih
   ·rw[if_pos ⟨k3,kn⟩]at d1
    generalize pk ts (a+1)=t at hg kn;simp only[rbx]at h3 d1 d2 ih ⊢;refine wG cU TI ?_;refine aA [0] h3 TI (A12 aB aC @aF @aE aP aG aU aM aV bL aW bT) (A12 aI aJ @aN @aO aX aR aZ cA bC bY cD cE) ?_;refine goG cU TI ?_;refine wdG cU TI ?_;refine aA [0] hik TI (A12 aB aC @aF @aE aP aG aU aM aV bL aW bT) (A12 aI aJ @aN @aO aX aR aZ cA bC bY cD cE) ?_;refine goG cU (A7 TKT hg g0 gn kn hwl @List.length_map.{0,0}) ?_;refine wdG cU (A7 TKT hg g0 gn kn hwl @List.length_map.{0,0}) ?_;refine aA [0] hf TI (A12 aB aC @aF @aE aP aG aU aM aV bL aW bT) (A12 aI aJ @aN @aO aX aR aZ cA bC bY cD cE) ?_;refine goG cU TI ?_;refine wdG cU TI ?_;refine aA [0] d1 TI (A12 aB aC @aF @aE aP aG aU aM aV bL aW bT) (A12 aI aJ @aN @aO aX aR aZ cA bC bY cD cE) ?_;refine goG cU TI ?_;refine wdG cU TI ?_;refine aA [0] d2 TI (A12 aB aC @aF @aE aP aG aU aM aV bL aW bT) (A12 aI aJ @aN @aO aX aR aZ cA bC bY cD cE) ?_;refine goG cU (A6 ND hAs hAl hbl rJ @List.length_map.{0,0}) ?_;refine wdG cU (A6 ND hAs hAl hbl rJ @List.length_map.{0,0}) ?_;refine cG ?_;refine AWp.cutP 4 [(0,.pt 0 0),(2,.pt 1 0),(3,.pt 2 0)] [.box [.sl (ts.map tkV) .ro,(.im (.int .i64 ((a2:Nat)))),(.im (.int .i64 (o2))),(.im (.int .i64 (e2)))],.box [(.im (.int .i64 (0))),(.im (.int .i64 (0))),.im (.string ByteArray.empty),.sl [] .nl,.sl [] .nl,.sl [] .nl,.sl [] .nl],.box [(.im (.int .i64 (9))),(.im (.int .i64 (0))),.im (.string ByteArray.empty),.sl (B.map exV) .ro,.sl [] .nl,.sl [] .nl,.sl ((C).map nlV) (.mine 3)],.tip 35 1 (C).length] (A12 aB aC @aF @aE aP aG aU aM aV bL aW bT) ?_;exact ih
  ·rw[decide_eq_false k3]at hik
   rw[if_neg (fun h=>k3 h.1)]at d1
   simp only[rbx]at h3 d1 d2 ih ⊢;refine wG cU TI ?_;refine aA [0] h3 TI (A12 aB aC @aF @aE aP aG aU aM aV bL aW bT) (A12 aI aJ @aN @aO aX aR aZ cA bC bY cD cE) ?_;refine goG cU TI ?_;refine wdG cU TI ?_;refine aA [0] hik TI (A12 aB aC @aF @aE aP aG aU aM aV bL aW bT) (A12 aI aJ @aN @aO aX aR aZ cA bC bY cD cE) ?_;refine goG cU TI ?_;refine wdG cU TI ?_;refine aA [0] d1 TI (A12 aB aC @aF @aE aP aG aU aM aV bL aW bT) (A12 aI aJ @aN @aO aX aR aZ cA bC bY cD cE) ?_;refine goG cU TI ?_;refine wdG cU TI ?_;refine aA [0] d2 TI (A12 aB aC @aF @aE aP aG aU aM aV bL aW bT) (A12 aI aJ @aN @aO aX aR aZ cA bC bY cD cE) ?_;refine goG cU (A6 ND hAs hAl hbl rJ @List.length_map.{0,0}) ?_;refine wdG cU (A6 ND hAs hAl hbl rJ @List.length_map.{0,0}) ?_;refine cG ?_;refine AWp.cutP 4 [(0,.pt 0 0),(2,.pt 1 0),(3,.pt 2 0)] [.box [.sl (ts.map tkV) .ro,(.im (.int .i64 ((a2:Nat)))),(.im (.int .i64 (o2))),(.im (.int .i64 (e2)))],.box [(.im (.int .i64 (0))),(.im (.int .i64 (0))),.im (.string ByteArray.empty),.sl [] .nl,.sl [] .nl,.sl [] .nl,.sl [] .nl],.box [(.im (.int .i64 (9))),(.im (.int .i64 (0))),.im (.string ByteArray.empty),.sl (B.map exV) .ro,.sl [] .nl,.sl [] .nl,.sl ((C).map nlV) (.mine 3)],.tip 35 1 (C).length] (A12 aB aC @aF @aE aP aG aU aM aV bL aW bT) ?_;exact ih
theorem OB{ts:List Tk}(hts:ts.length≤4194304)(hok: ∀t∈ts,TkOk t){f:Nat}(hE:ExR ts f)(hB: ∀g,g<f→BrR ts g)(s:Sr)(hp:Pre (choM ts f) s): ∃x s',Post (choM ts f) s x s'∧DC Tryz.prog 238 [.pt 0 0] [rbx ts s] (stV x) [rbx ts s']:=by
 unfold choM at hp ⊢
 obtain⟨x,s1,q1,d1⟩:=hE 1 (by decide) s hp.fst
 rw[Re]at d1
 have p1:=hp.snd q1
 obtain⟨s2,q2,b2,d2⟩:=mX ts hts s1 [123] p1.fst
 have p2:=p1.snd q2
 obtain⟨c',s3,hL,hpe,hbe,hq⟩:=QC hts hok f hB [] s2 p2.fst (fun h=>⟨(b2 h).2,Nat.zero_le _⟩)
 obtain⟨s4,q4,_,d4⟩:=tZ ts hts s3 [125] hbe hpe
 have q3:=hq s4 q4
 exact⟨oneS (.mk 9 0 ByteArray.empty [x] [] [] c'),s4,q1.bind (q2.bind (q3.bind (Post.ret (p2.snd q3)))),OC hts hok d1 d2 hL d4⟩
def smW:List Bs:=[[98,114,101,97,107],[99,111,110,116,105,110,117,101],[114,101,116,117,114,110],[104,97,108,116],[103,111,116,111],[99,97,108,108],[111,117,116]]
def smK:List Int:=[10,11,14,15,12,5,4]
theorem AE:[V.im (.string ⟨#[98,114,101,97,107]⟩),V.im (.string ⟨#[99,111,110,116,105,110,117,101]⟩),V.im (.string ⟨#[114,101,116,117,114,110]⟩),V.im (.string ⟨#[104,97,108,116]⟩),V.im (.string ⟨#[103,111,116,111]⟩),V.im (.string ⟨#[99,97,108,108]⟩),V.im (.string ⟨#[111,117,116]⟩)]=smW.map sV:=rfl
theorem AF:[(.im (.int .i64 (10))),(.im (.int .i64 (11))),(.im (.int .i64 (14))),(.im (.int .i64 (15))),(.im (.int .i64 (12))),(.im (.int .i64 (5))),(.im (.int .i64 (4)))]=smK.map iV:=rfl
theorem OZ: ∀i:Nat,i<7→ ∀j:Nat,j<7→smW[i]? =smW[j]? →i=j:=by decide
inductive TlS (ts:List Tk) (a:Nat) (o:Int) (s':Sr):Int→Nd→Prop where
 | nm {k:Int} {n:ByteArray} {a1:Nat} {o1 e1:Int} (hk:k=12∨k=5) (d1:DC Tryz.prog 127 [.pt 0 0] [rbx ts ⟨a+1,o,0⟩] (.im (.string n)) [rbx ts ⟨a1,o1,e1⟩])
   (d2:DC Tryz.prog 126 [.pt 0 0,.im (.string ⟨([59]).toArray⟩)] [rbx ts ⟨a1,o1,e1⟩] (.tu []) [rbx ts s']):TlS ts a o s' k (.mk k 0 n [] [] [] [])
 | ex {x:Ex} {a1:Nat} {o1 e1:Int} (d1:DC Tryz.prog 61 [.pt 0 0,(.im (.int .i64 (1)))] [rbx ts ⟨a+1,o,0⟩] (exV x) [rbx ts ⟨a1,o1,e1⟩])
   (d2:DC Tryz.prog 126 [.pt 0 0,.im (.string ⟨([59]).toArray⟩)] [rbx ts ⟨a1,o1,e1⟩] (.tu []) [rbx ts s']):TlS ts a o s' 4 (.mk 4 0 ByteArray.empty [x] [] [] [])
 | no {k:Int} (h1:k≠12) (h2:k≠5) (h3:k≠4) (d2:DC Tryz.prog 126 [.pt 0 0,.im (.string ⟨([59]).toArray⟩)] [rbx ts ⟨a+1,o,0⟩] (.tu []) [rbx ts s']):TlS ts a o s' k (.mk k 0 ByteArray.empty [] [] [] [])
def cS:=A16 @iA @cJ @jV @dY @iR @Sy @gQ @sO @zW @fG @lF @jA @lD @lC @nB (A5 @fH @cH @jT @eF @dM)
theorem tX{ts:List Tk}(hts:ts.length≤4194304){a:Nat}{o:Int}{w:Bs}{k:Int}{y:Nd}{s':Sr}(q:Nat)(hq:smW[q]? =some w)(hk:smK[q]? =some k)(hs:sees ts a w=true)(ht:TlS ts a o s' k y) :
  DC Tryz.prog 240 [.pt 0 0] [rbx ts ⟨a,o,0⟩] (ndV y) [rbx ts s']:=by
 have hL:smW.length=7:=rfl
 have hK:smK.length=7:=rfl
 have hnd:=OZ
 have eL:=AE
 have eK:=AF
 have hq7:q<smW.length:=(List.getElem?_eq_some_iff.1 hq).1
 generalize smW=L at hL hq hnd eL hq7
 generalize smK=K at hK hk eK
 obtain⟨a9,o9,e9⟩:=s'
 simp only[rbx]
 refine dcEnt 51 Tryz.func240 rfl [(0,.pt 0 0)] ?_
 refine wG cS (AI eL eK) ?_
 refine aT ?_
 refine ALp.cutP 2 [(0,.pt 0 0),(2,.pt 1 0),(3,.sl (L.map sV) .full),(4,.sl (K.map iV) .full),(5,(.im (.int .i64 ((((0):Nat):Int)))))] [.box [.sl (ts.map tkV) .ro,(.im (.int .i64 ((a:Nat)))),(.im (.int .i64 (o))),(.im (.int .i64 (0)))],.box [(.im (.int .i64 (0))),(.im (.int .i64 (0))),.im (.string ByteArray.empty),.sl [] .nl,.sl [] .nl,.sl [] .nl,.sl [] .nl]] (A12 aB aC @aF @aE aP aG aU aM aV bL aW bT) ?_
 refine ALp.upto L.length (fun m=>m≤q) (fun m=>⟨dn 51 [(0,.pt 0 0),(2,.pt 1 0),(3,.sl (L.map sV) .full),(4,.sl (K.map iV) .full),(5,(.im (.int .i64 ((((m):Nat):Int)))))],ofl [.box [.sl (ts.map tkV) .ro,(.im (.int .i64 ((a:Nat)))),(.im (.int .i64 (o))),(.im (.int .i64 (0)))],.box [(.im (.int .i64 (0))),(.im (.int .i64 (0))),.im (.string ByteArray.empty),.sl [] .nl,.sl [] .nl,.sl [] .nl,.sl [] .nl]]⟩) ?_ 0 (Nat.zero_le _) (Nat.zero_le _)
 intro m hm hI hnext
 have hlt:m<L.length:=by omega
 have hlt':(m:Int)<(L.length:Int):=by omega
 have hm1:=aQ hlt (by omega)
 have hg:=bJ hlt
 have hc:=fR ts a o 0 L[m] hts
 rw[fY]at hc
 have hnx:=hnext (m+1) (by omega) (by omega)
 by_cases hmq:m=q
 case neg =>
  have hne:sees ts a L[m]=false:=by
   refine rI hs ?_;rw[beq_eq_false_iff_ne];intro e;have:=hnd m (by omega) q (by omega) (by rw[hq,List.getElem?_eq_getElem hlt,e])
   omega
  rw[hne,if_neg (by decide)]at hc
  generalize L[m]=x at hg hc;refine wG cS (A3 hlt' hg SI) ?_;refine aA [0] hc TI (A12 aB aC @aF @aE aP aG aU aM aV bL aW bT) (A12 aI aJ @aN @aO aX aR aZ cA bC bY cD cE) ?_;refine goG cS SI ?_;refine wG cS hm1 ?_;refine ALp.cutP 2 [(0,.pt 0 0),(2,.pt 1 0),(3,.sl (L.map sV) .full),(4,.sl (K.map iV) .full),(5,(.im (.int .i64 ((((m+1):Nat):Int)))))] [.box [.sl (ts.map tkV) .ro,(.im (.int .i64 ((a:Nat)))),(.im (.int .i64 (o))),(.im (.int .i64 (0)))],.box [(.im (.int .i64 (0))),(.im (.int .i64 (0))),.im (.string ByteArray.empty),.sl [] .nl,.sl [] .nl,.sl [] .nl,.sl [] .nl]] (A12 aB aC @aF @aE aP aG aU aM aV bL aW bT) ?_;exact hnx (by omega)
 subst hmq
 have hw:L[m]=w:=by rw[List.getElem?_eq_getElem hlt]at hq;exact Option.some.inj hq
 rw[hw]at hg hc
 rw[hs,if_pos rfl]at hc
 have hlk:m<K.length:=by omega
 have hlk':(m:Int)<(K.length:Int):=by omega
 have hgk:=bJ hlk
 have hw2:K[m]=k:=by rw[List.getElem?_eq_getElem hlk]at hk;exact Option.some.inj hk
 rw[hw2]at hgk
 clear hnx hnext hI hnd eL eK hw hw2
 cases ht with
 | nm hk12 d1 d2 =>
  simp only[rbx]at d1 d2;rcases hk12 with rfl|rfl
  ·refine wG cS (A3 hlt' hg SI) ?_
   refine aA [0] hc TI (A12 aB aC @aF @aE aP aG aU aM aV bL aW bT) (A12 aI aJ @aN @aO aX aR aZ cA bC bY cD cE) ?_;refine goG cS SI ?_;refine wG cS (A3 hgk hlk' SI) ?_;refine aA [0] d1 TI (A12 aB aC @aF @aE aP aG aU aM aV bL aW bT) (A12 aI aJ @aN @aO aX aR aZ cA bC bY cD cE) ?_;refine goG cS SI ?_;refine wG cS SI ?_;refine aA [0] d2 TI (A12 aB aC @aF @aE aP aG aU aM aV bL aW bT) (A12 aI aJ @aN @aO aX aR aZ cA bC bY cD cE) ?_;refine goG cS SI ?_;refine wG cS SI ?_;refine fiGen [.cell 2 165] (finG cS) ?_ rfl (idG (A12 aB aC @aF @aE aP aG aU aM aV bL aW bT))
   simp only[gH,List.map_nil]
   all_goals exact wkG (A12 aB aC @aF @aE aP aG aU aM aV bL aW bT)
  ·refine wG cS (A3 hlt' hg SI) ?_
   refine aA [0] hc TI (A12 aB aC @aF @aE aP aG aU aM aV bL aW bT) (A12 aI aJ @aN @aO aX aR aZ cA bC bY cD cE) ?_;refine goG cS SI ?_;refine wG cS (A3 hgk hlk' SI) ?_;refine aA [0] d1 TI (A12 aB aC @aF @aE aP aG aU aM aV bL aW bT) (A12 aI aJ @aN @aO aX aR aZ cA bC bY cD cE) ?_;refine goG cS SI ?_;refine wG cS SI ?_;refine aA [0] d2 TI (A12 aB aC @aF @aE aP aG aU aM aV bL aW bT) (A12 aI aJ @aN @aO aX aR aZ cA bC bY cD cE) ?_;refine goG cS SI ?_;refine wG cS SI ?_;refine fiGen [.cell 2 165] (finG cS) ?_ rfl (idG (A12 aB aC @aF @aE aP aG aU aM aV bL aW bT))
   simp only[gH,List.map_nil]
   all_goals exact wkG (A12 aB aC @aF @aE aP aG aU aM aV bL aW bT)
 | @ex x a1 o1 e1 d1 d2 =>
  simp only[rbx]at d1 d2;obtain⟨B,hB1⟩: ∃B,B=[x]:=⟨_,rfl⟩
  have hAs:[exV x]=B.map exV:=by rw[hB1];rfl
  have hAs2:[V.ag [(.im (.int .i64 (x.op))),.im (.int .u32 x.n),.im (.string x.name),(.im (.int .i64 (x.width))),.sl (x.l.map exV) .ro]]=B.map exV:=by rw[hB1,List.map_cons,List.map_nil,bW x]
  rw[←hB1];refine wG cS (A3 hlt' hg SI) ?_;refine aA [0] hc TI (A12 aB aC @aF @aE aP aG aU aM aV bL aW bT) (A12 aI aJ @aN @aO aX aR aZ cA bC bY cD cE) ?_;refine goG cS SI ?_;refine wG cS (A3 hgk hlk' SI) ?_;refine aA [0] d1 TI (A12 aB aC @aF @aE aP aG aU aM aV bL aW bT) (A12 aI aJ @aN @aO aX aR aZ cA bC bY cD cE) ?_;refine goG cS (A10 @dJ @cQ @dH @dG @dI @cR @List.getElem?_map.{0,0} @Int.natCast_nonneg hAs hAs2) ?_;refine wG cS (A10 @dJ @cQ @dH @dG @dI @cR @List.getElem?_map.{0,0} @Int.natCast_nonneg hAs hAs2) ?_;refine aA [0] d2 TI (A12 aB aC @aF @aE aP aG aU aM aV bL aW bT) (A12 aI aJ @aN @aO aX aR aZ cA bC bY cD cE) ?_;refine goG cS BN01 ?_;refine wG cS BN01 ?_;refine fiGen [.cell 2 165] (finG cS) ?_ rfl (idG (A12 aB aC @aF @aE aP aG aU aM aV bL aW bT))
  simp only[gH,List.map_nil]
  all_goals exact wkG (A12 aB aC @aF @aE aP aG aU aM aV bL aW bT)
 | no h1 h2 h3 d2 =>
  simp only[rbx]at d2;refine wG cS (A3 hlt' hg SI) ?_;refine aA [0] hc TI (A12 aB aC @aF @aE aP aG aU aM aV bL aW bT) (A12 aI aJ @aN @aO aX aR aZ cA bC bY cD cE) ?_;refine goG cS SI ?_;refine wG cS (A6 hgk hlk' SI h1 h2 h3) ?_;refine aA [0] d2 TI (A12 aB aC @aF @aE aP aG aU aM aV bL aW bT) (A12 aI aJ @aN @aO aX aR aZ cA bC bY cD cE) ?_;refine goG cS SI ?_;refine wG cS SI ?_;refine fiGen [.cell 2 165] (finG cS) ?_ rfl (idG (A12 aB aC @aF @aE aP aG aU aM aV bL aW bT))
  simp only[gH,List.map_nil]
  all_goals exact wkG (A12 aB aC @aF @aE aP aG aU aM aV bL aW bT)
theorem IU{ts:List Tk}(hts:ts.length≤4194304){a:Nat}{o:Int}(hs: ∀w∈smW,sees ts a w=false):DC Tryz.prog 240 [.pt 0 0] [rbx ts ⟨a,o,0⟩] (ndV nd0) [rbx ts ⟨a,o,3⟩]:=by
 have hL:smW.length=7:=rfl
 have eL:=AE
 have eK:=AF
 have hf:=tY ts a o 0
 rw[if_pos rfl]at hf
 generalize smW=L at hL hs eL
 generalize smK=K at eK
 simp only[rbx]
 refine dcEnt 51 Tryz.func240 rfl [(0,.pt 0 0)] ?_
 refine wG cS (AI eL eK) ?_
 refine aT ?_
 refine ALp.cutP 2 [(0,.pt 0 0),(2,.pt 1 0),(3,.sl (L.map sV) .full),(4,.sl (K.map iV) .full),(5,(.im (.int .i64 ((((0):Nat):Int)))))] [.box [.sl (ts.map tkV) .ro,(.im (.int .i64 ((a:Nat)))),(.im (.int .i64 (o))),(.im (.int .i64 (0)))],.box [(.im (.int .i64 (0))),(.im (.int .i64 (0))),.im (.string ByteArray.empty),.sl [] .nl,.sl [] .nl,.sl [] .nl,.sl [] .nl]] (A12 aB aC @aF @aE aP aG aU aM aV bL aW bT) ?_
 refine ALp.upto L.length (fun _=>True) (fun m=>⟨dn 51 [(0,.pt 0 0),(2,.pt 1 0),(3,.sl (L.map sV) .full),(4,.sl (K.map iV) .full),(5,(.im (.int .i64 ((((m):Nat):Int)))))],ofl [.box [.sl (ts.map tkV) .ro,(.im (.int .i64 ((a:Nat)))),(.im (.int .i64 (o))),(.im (.int .i64 (0)))],.box [(.im (.int .i64 (0))),(.im (.int .i64 (0))),.im (.string ByteArray.empty),.sl [] .nl,.sl [] .nl,.sl [] .nl,.sl [] .nl]]⟩) ?_ 0 (Nat.zero_le _) trivial
 intro m hm _ hnext
 by_cases hlt:m<L.length
 ·have hlt':(m:Int)<(L.length:Int):=by omega
  have hm1:=aQ hlt (by omega)
  have hg:=bJ hlt;have hc:=fR ts a o 0 L[m] hts;rw[fY,hs _ (List.getElem_mem hlt),if_neg (by decide)]at hc
  have hnx:=hnext (m+1) (by omega) (by omega) trivial
  generalize L[m]=x at hg hc;refine wG cS (A3 hlt' hg SI) ?_;refine aA [0] hc TI (A12 aB aC @aF @aE aP aG aU aM aV bL aW bT) (A12 aI aJ @aN @aO aX aR aZ cA bC bY cD cE) ?_;refine goG cS SI ?_;refine wG cS hm1 ?_;refine ALp.cutP 2 [(0,.pt 0 0),(2,.pt 1 0),(3,.sl (L.map sV) .full),(4,.sl (K.map iV) .full),(5,(.im (.int .i64 ((((m+1):Nat):Int)))))] [.box [.sl (ts.map tkV) .ro,(.im (.int .i64 ((a:Nat)))),(.im (.int .i64 (o))),(.im (.int .i64 (0)))],.box [(.im (.int .i64 (0))),(.im (.int .i64 (0))),.im (.string ByteArray.empty),.sl [] .nl,.sl [] .nl,.sl [] .nl,.sl [] .nl]] (A12 aB aC @aF @aE aP aG aU aM aV bL aW bT) ?_;exact hnx
 obtain rfl:m=L.length:=by omega
 clear hnext
 refine wG cS (AI @Int.lt_irrefl @List.length_map.{0,0}) ?_
 refine aA [0] hf TI (A12 aB aC @aF @aE aP aG aU aM aV bL aW bT) (A12 aI aJ @aN @aO aX aR aZ cA bC bY cD cE) ?_
 refine goG cS TI ?_
 refine wG cS TI ?_
 refine fiGen [.cell 2 165] (finG cS) ?_ rfl (idG (A12 aB aC @aF @aE aP aG aU aM aV bL aW bT))
 simp only[nd0,gH,List.map_nil]
 all_goals exact wkG (A12 aB aC @aF @aE aP aG aU aM aV bL aW bT)
theorem bK{ts:List Tk}{a:Nat}{x:Bs}(h:sees ts a x=true)(y:Bs):sees ts a y=(x==y):=by
 unfold sees at h ⊢
 rw[Bool.and_eq_true]at h
 rw[h.1,eq_of_beq h.2,Bool.true_and]
theorem GH{ts:List Tk}{f a:Nat}(hk: ¬(pk ts a).kind=1)(h:sees ts a [103,111,116,111]=true)(o:Nat):stM ts (f+1) .st a o=(rb (nmM ts (a+1) o) fun n a o=>rb (expM ts [59] a o) fun _ a o=>ret (oneS (.mk 12 0 n [] [] [] [])) a o):=by
 rw[stM,if_neg hk,if_pos h]
theorem GI{ts:List Tk}{f a:Nat}(hk: ¬(pk ts a).kind=1)(h:sees ts a [99,97,108,108]=true)(o:Nat):stM ts (f+1) .st a o=(rb (nmM ts (a+1) o) fun n a o=>rb (expM ts [59] a o) fun _ a o=>ret (oneS (.mk 5 0 n [] [] [] [])) a o):=by
 rw[stM,if_neg hk,if_neg (show ¬sees ts a [103,111,116,111]=true by rw[bK h];decide),if_pos h]
theorem We{ts:List Tk}{f a:Nat}(hk: ¬(pk ts a).kind=1)(h:sees ts a [115,116,111,114,101,49]=true)(o:Nat):stM ts (f+1) .st a o=(storM ts f 1 (a+1) o):=by
 rw[stM,if_neg hk,if_neg (show ¬sees ts a [103,111,116,111]=true by rw[bK h];decide),if_neg (show ¬sees ts a [99,97,108,108]=true by rw[bK h];decide),if_pos h]
theorem Wc{ts:List Tk}{f a:Nat}(hk: ¬(pk ts a).kind=1)(h:sees ts a [115,116,111,114,101,50]=true)(o:Nat):stM ts (f+1) .st a o=(storM ts f 2 (a+1) o):=by
 rw[stM,if_neg hk,if_neg (show ¬sees ts a [103,111,116,111]=true by rw[bK h];decide),if_neg (show ¬sees ts a [99,97,108,108]=true by rw[bK h];decide),if_neg (show ¬sees ts a [115,116,111,114,101,49]=true by rw[bK h];decide),if_pos h]
theorem Wb{ts:List Tk}{f a:Nat}(hk: ¬(pk ts a).kind=1)(h:sees ts a [115,116,111,114,101,52]=true)(o:Nat):stM ts (f+1) .st a o=(storM ts f 4 (a+1) o):=by
 rw[stM,if_neg hk,if_neg (show ¬sees ts a [103,111,116,111]=true by rw[bK h];decide),if_neg (show ¬sees ts a [99,97,108,108]=true by rw[bK h];decide),if_neg (show ¬sees ts a [115,116,111,114,101,49]=true by rw[bK h];decide),if_neg (show ¬sees ts a [115,116,111,114,101,50]=true by rw[bK h];decide),if_pos h]
theorem LL{ts:List Tk}{f a:Nat}(hk: ¬(pk ts a).kind=1)(h:sees ts a [111,117,116]=true)(o:Nat):stM ts (f+1) .st a o=(rb (exM ts f (.ex 1) (a+1) o) fun x a o=>rb (expM ts [59] a o) fun _ a o=>ret (oneS (.mk 4 0 ByteArray.empty [x] [] [] [])) a o):=by
 rw[stM,if_neg hk,if_neg (show ¬sees ts a [103,111,116,111]=true by rw[bK h];decide),if_neg (show ¬sees ts a [99,97,108,108]=true by rw[bK h];decide),if_neg (show ¬sees ts a [115,116,111,114,101,49]=true by rw[bK h];decide),if_neg (show ¬sees ts a [115,116,111,114,101,50]=true by rw[bK h];decide),if_neg (show ¬sees ts a [115,116,111,114,101,52]=true by rw[bK h];decide),if_pos h]
theorem OW{ts:List Tk}{f a:Nat}(hk: ¬(pk ts a).kind=1)(h:sees ts a [105,102]=true)(o:Nat):stM ts (f+1) .st a o=(conM ts f (a+1) o):=by
 rw[stM,if_neg hk,if_neg (show ¬sees ts a [103,111,116,111]=true by rw[bK h];decide),if_neg (show ¬sees ts a [99,97,108,108]=true by rw[bK h];decide),if_neg (show ¬sees ts a [115,116,111,114,101,49]=true by rw[bK h];decide),if_neg (show ¬sees ts a [115,116,111,114,101,50]=true by rw[bK h];decide),if_neg (show ¬sees ts a [115,116,111,114,101,52]=true by rw[bK h];decide),if_neg (show ¬sees ts a [111,117,116]=true by rw[bK h];decide),if_pos h]
 rfl
theorem Zy{ts:List Tk}{f a:Nat}(hk: ¬(pk ts a).kind=1)(h:sees ts a [119,104,105,108,101]=true)(o:Nat):stM ts (f+1) .st a o=(rb (exM ts f (.ex 1) (a+1) o) fun x a o=>rb (stM ts f .br a o) fun l a o=>ret (oneS (.mk 7 0 ByteArray.empty [x] (l.headD []) [] [])) a o):=by
 rw[stM,if_neg hk,if_neg (show ¬sees ts a [103,111,116,111]=true by rw[bK h];decide),if_neg (show ¬sees ts a [99,97,108,108]=true by rw[bK h];decide),if_neg (show ¬sees ts a [115,116,111,114,101,49]=true by rw[bK h];decide),if_neg (show ¬sees ts a [115,116,111,114,101,50]=true by rw[bK h];decide),if_neg (show ¬sees ts a [115,116,111,114,101,52]=true by rw[bK h];decide),if_neg (show ¬sees ts a [111,117,116]=true by rw[bK h];decide),if_neg (show ¬sees ts a [105,102]=true by rw[bK h];decide),if_pos h]
theorem GF{ts:List Tk}{f a:Nat}(hk: ¬(pk ts a).kind=1)(h:sees ts a [108,111,111,112]=true)(o:Nat):stM ts (f+1) .st a o=(rb (stM ts f .br (a+1) o) fun l a o=>ret (oneS (.mk 8 0 ByteArray.empty [] (l.headD []) [] [])) a o):=by
 rw[stM,if_neg hk,if_neg (show ¬sees ts a [103,111,116,111]=true by rw[bK h];decide),if_neg (show ¬sees ts a [99,97,108,108]=true by rw[bK h];decide),if_neg (show ¬sees ts a [115,116,111,114,101,49]=true by rw[bK h];decide),if_neg (show ¬sees ts a [115,116,111,114,101,50]=true by rw[bK h];decide),if_neg (show ¬sees ts a [115,116,111,114,101,52]=true by rw[bK h];decide),if_neg (show ¬sees ts a [111,117,116]=true by rw[bK h];decide),if_neg (show ¬sees ts a [105,102]=true by rw[bK h];decide),if_neg (show ¬sees ts a [119,104,105,108,101]=true by rw[bK h];decide),if_pos h]
theorem Wa{ts:List Tk}{f a:Nat}(hk: ¬(pk ts a).kind=1)(h:sees ts a [115,119,105,116,99,104]=true)(o:Nat):stM ts (f+1) .st a o=(choM ts f (a+1) o):=by
 rw[stM,if_neg hk,if_neg (show ¬sees ts a [103,111,116,111]=true by rw[bK h];decide),if_neg (show ¬sees ts a [99,97,108,108]=true by rw[bK h];decide),if_neg (show ¬sees ts a [115,116,111,114,101,49]=true by rw[bK h];decide),if_neg (show ¬sees ts a [115,116,111,114,101,50]=true by rw[bK h];decide),if_neg (show ¬sees ts a [115,116,111,114,101,52]=true by rw[bK h];decide),if_neg (show ¬sees ts a [111,117,116]=true by rw[bK h];decide),if_neg (show ¬sees ts a [105,102]=true by rw[bK h];decide),if_neg (show ¬sees ts a [119,104,105,108,101]=true by rw[bK h];decide),if_neg (show ¬sees ts a [108,111,111,112]=true by rw[bK h];decide),if_pos h]
 rfl
theorem Zz{ts:List Tk}{f a:Nat}(hk: ¬(pk ts a).kind=1)(h:sees ts a [98,114,101,97,107]=true)(o:Nat):stM ts (f+1) .st a o=(rG ts 10 (a+1) o):=by
 rw[stM,if_neg hk,if_neg (show ¬sees ts a [103,111,116,111]=true by rw[bK h];decide),if_neg (show ¬sees ts a [99,97,108,108]=true by rw[bK h];decide),if_neg (show ¬sees ts a [115,116,111,114,101,49]=true by rw[bK h];decide),if_neg (show ¬sees ts a [115,116,111,114,101,50]=true by rw[bK h];decide),if_neg (show ¬sees ts a [115,116,111,114,101,52]=true by rw[bK h];decide),if_neg (show ¬sees ts a [111,117,116]=true by rw[bK h];decide),if_neg (show ¬sees ts a [105,102]=true by rw[bK h];decide),if_neg (show ¬sees ts a [119,104,105,108,101]=true by rw[bK h];decide),if_neg (show ¬sees ts a [108,111,111,112]=true by rw[bK h];decide),if_neg (show ¬sees ts a [115,119,105,116,99,104]=true by rw[bK h];decide),if_pos h]
theorem Ms{ts:List Tk}{f a:Nat}(hk: ¬(pk ts a).kind=1)(h:sees ts a [99,111,110,116,105,110,117,101]=true)(o:Nat):stM ts (f+1) .st a o=(rG ts 11 (a+1) o):=by
 rw[stM,if_neg hk,if_neg (show ¬sees ts a [103,111,116,111]=true by rw[bK h];decide),if_neg (show ¬sees ts a [99,97,108,108]=true by rw[bK h];decide),if_neg (show ¬sees ts a [115,116,111,114,101,49]=true by rw[bK h];decide),if_neg (show ¬sees ts a [115,116,111,114,101,50]=true by rw[bK h];decide),if_neg (show ¬sees ts a [115,116,111,114,101,52]=true by rw[bK h];decide),if_neg (show ¬sees ts a [111,117,116]=true by rw[bK h];decide),if_neg (show ¬sees ts a [105,102]=true by rw[bK h];decide),if_neg (show ¬sees ts a [119,104,105,108,101]=true by rw[bK h];decide),if_neg (show ¬sees ts a [108,111,111,112]=true by rw[bK h];decide),if_neg (show ¬sees ts a [115,119,105,116,99,104]=true by rw[bK h];decide),if_neg (show ¬sees ts a [98,114,101,97,107]=true by rw[bK h];decide),if_pos h]
theorem Wf{ts:List Tk}{f a:Nat}(hk: ¬(pk ts a).kind=1)(h:sees ts a [114,101,116,117,114,110]=true)(o:Nat):stM ts (f+1) .st a o=(rG ts 14 (a+1) o):=by
 rw[stM,if_neg hk,if_neg (show ¬sees ts a [103,111,116,111]=true by rw[bK h];decide),if_neg (show ¬sees ts a [99,97,108,108]=true by rw[bK h];decide),if_neg (show ¬sees ts a [115,116,111,114,101,49]=true by rw[bK h];decide),if_neg (show ¬sees ts a [115,116,111,114,101,50]=true by rw[bK h];decide),if_neg (show ¬sees ts a [115,116,111,114,101,52]=true by rw[bK h];decide),if_neg (show ¬sees ts a [111,117,116]=true by rw[bK h];decide),if_neg (show ¬sees ts a [105,102]=true by rw[bK h];decide),if_neg (show ¬sees ts a [119,104,105,108,101]=true by rw[bK h];decide),if_neg (show ¬sees ts a [108,111,111,112]=true by rw[bK h];decide),if_neg (show ¬sees ts a [115,119,105,116,99,104]=true by rw[bK h];decide),if_neg (show ¬sees ts a [98,114,101,97,107]=true by rw[bK h];decide),if_neg (show ¬sees ts a [99,111,110,116,105,110,117,101]=true by rw[bK h];decide),if_pos h]
theorem GG{ts:List Tk}{f a:Nat}(hk: ¬(pk ts a).kind=1)(h:sees ts a [104,97,108,116]=true)(o:Nat):stM ts (f+1) .st a o=(rG ts 15 (a+1) o):=by
 rw[stM,if_neg hk,if_neg (show ¬sees ts a [103,111,116,111]=true by rw[bK h];decide),if_neg (show ¬sees ts a [99,97,108,108]=true by rw[bK h];decide),if_neg (show ¬sees ts a [115,116,111,114,101,49]=true by rw[bK h];decide),if_neg (show ¬sees ts a [115,116,111,114,101,50]=true by rw[bK h];decide),if_neg (show ¬sees ts a [115,116,111,114,101,52]=true by rw[bK h];decide),if_neg (show ¬sees ts a [111,117,116]=true by rw[bK h];decide),if_neg (show ¬sees ts a [105,102]=true by rw[bK h];decide),if_neg (show ¬sees ts a [119,104,105,108,101]=true by rw[bK h];decide),if_neg (show ¬sees ts a [108,111,111,112]=true by rw[bK h];decide),if_neg (show ¬sees ts a [115,119,105,116,99,104]=true by rw[bK h];decide),if_neg (show ¬sees ts a [98,114,101,97,107]=true by rw[bK h];decide),if_neg (show ¬sees ts a [99,111,110,116,105,110,117,101]=true by rw[bK h];decide),if_neg (show ¬sees ts a [114,101,116,117,114,110]=true by rw[bK h];decide),if_pos h]
theorem GE{ts:List Tk}{f a:Nat}(hk: ¬(pk ts a).kind=1)(h: ∀x∈([[103,111,116,111],[99,97,108,108],[115,116,111,114,101,49],[115,116,111,114,101,50],[115,116,111,114,101,52],[111,117,116],[105,102],[119,104,105,108,101],[108,111,111,112],[115,119,105,116,99,104],[98,114,101,97,107],[99,111,110,116,105,110,117,101],[114,101,116,117,114,110],[104,97,108,116]]:List Bs),sees ts a x=false)(o:Nat):stM ts (f+1) .st a o=some (.bad a 3):=by
 have hh: ∀x∈([[103,111,116,111],[99,97,108,108],[115,116,111,114,101,49],[115,116,111,114,101,50],[115,116,111,114,101,52],[111,117,116],[105,102],[119,104,105,108,101],[108,111,111,112],[115,119,105,116,99,104],[98,114,101,97,107],[99,111,110,116,105,110,117,101],[114,101,116,117,114,110],[104,97,108,116]]:List Bs),¬sees ts a x=true:=fun x hx=>by rw[h x hx];decide
 rw[stM,if_neg hk,if_neg (hh _ (by simp)),if_neg (hh _ (by simp)),if_neg (hh _ (by simp)),if_neg (hh _ (by simp)),if_neg (hh _ (by simp)),if_neg (hh _ (by simp)),if_neg (hh _ (by simp)),if_neg (hh _ (by simp)),if_neg (hh _ (by simp)),if_neg (hh _ (by simp)),if_neg (hh _ (by simp)),if_neg (hh _ (by simp)),if_neg (hh _ (by simp)),if_neg (hh _ (by simp))]
end Go.Proofs.YtmbmmckagcdapaaGreatDoor
