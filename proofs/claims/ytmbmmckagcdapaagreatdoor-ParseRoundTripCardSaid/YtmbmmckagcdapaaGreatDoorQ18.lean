import Derived.Test.YtmbmmckagcdapaaGreatDoorQ15
import Derived.Test.YtmbmmckagcdapaaGreatDoorQ14
set_option linter.all false
namespace Go.Proofs.YtmbmmckagcdapaaGreatDoor
def Sm{α:Type}(r:Option (Rs α)):Prop:= ∃z,r=some z
theorem Sm.rb{α β:Type}{r:Option (Rs α)}{k:α→Nat→Nat→Option (Rs β)}(h:Sm r)(hk: ∀x a o,r=some (.ok x a o)→Sm (k x a o)):Sm (rb r k):=by
 obtain⟨z,rfl⟩:=h
 cases z with
 | ok x a o=>exact hk x a o rfl
 | bad b e=>exact⟨_,rfl⟩
theorem Sm.ite{α:Type}{c:Prop}[Decidable c]{x y:Option (Rs α)}(hx:c→Sm x)(hy: ¬c→Sm y):Sm (if c then x else y):=by
 by_cases h:c
 ·rw[if_pos h];exact hx h
 ·rw[if_neg h];exact hy h
theorem oR{α:Type}(z:Rs α):Sm (some z):=⟨z,rfl⟩
theorem Sm.ret{α:Type}(x:α)(a o:Nat):Sm (ret x a o):=⟨_,rfl⟩
theorem Sm.beg(ts:List Tk)(s:Bs)(a o:Nat):Sm (begM ts s a o):=⟨_,rfl⟩
theorem Sm.exp(ts:List Tk)(s:Bs)(a o:Nat):Sm (expM ts s a o):=⟨_,rfl⟩
theorem Sm.en(ts:List Tk)(s:Bs)(a o:Nat):Sm (endM ts s a o):=⟨_,rfl⟩
theorem Sm.tak(ts:List Tk)(k:Int)(a o:Nat):Sm (takM ts k a o):=⟨_,rfl⟩
theorem Sm.nm(ts:List Tk)(a o:Nat):Sm (nmM ts a o):=Sm.rb (Sm.tak ..) fun _ _ _ _=>Sm.ret ..
theorem FY{ts:List Tk}{a:Nat}(h: ¬(stR (pk ts a)).2=0):a<ts.length:=by
 refine eJ (k:=5) ?_ (by decide)
 unfold stR at h
 split at h
 ·assumption
 ·exact absurd rfl h
theorem Ki{ts:List Tk}{f a o:Nat}{x:Ex}{b p:Nat}(h:exM ts f .op a o=some (.ok x b p)):a<b∧a<ts.length:=by
 cases f with
 | zero=>cases h
 | succ f =>
 have inn_lt: ∀(q:Ex→Ex) a o,inn ts (exM ts f (.ex 1)) q a o=some (.ok x b p)→a<b:=by
  intro q a o h;obtain⟨_,a1,o1,h1,h⟩:=aO h;obtain⟨y,a2,o2,h2,h⟩:=aO h;obtain⟨_,a3,o3,h3,h⟩:=aO h;cases h
  have e1:=cE h1;have e2:=dW _ _ _ _ _ _ _ _ h2;have e3:=oM h3;omega
 rw[exM]at h
 rcases aI h with ⟨hk,h⟩|⟨_,h⟩
 ·have:=eJ hk (by decide)
  cases h;omega
 rcases aI h with ⟨hk,h⟩|⟨_,h⟩
 ·have:=eJ hk (by decide)
  cases h;omega
 rcases aI h with ⟨hk,h⟩|⟨_,h⟩
 ·have:=eJ hk (by decide)
  split at h
  ·have:=inn_lt _ _ _ h;omega
  ·cases h
 rcases aI h with ⟨hk,h⟩|⟨_,h⟩
 ·have:=eJ hk (by decide)
  rcases aI h with ⟨_,h⟩|⟨_,h⟩
  ·have:=inn_lt _ _ _ h;omega
  rcases aI h with ⟨_,h⟩|⟨_,h⟩
  ·obtain⟨_,a1,o1,h1,h⟩:=aO h
   obtain⟨y,a2,o2,h2,h⟩:=aO h;cases h
   have e1:=cE h1;have e2:=dW _ _ _ _ _ _ _ _ h2;omega
  ·cases h
 ·cases h
theorem Bp{ts:List Tk}{f l a o:Nat}{x:Ex}{b p:Nat}(h:exM ts f (.ex l) a o=some (.ok x b p)):a<b∧a<ts.length:=by
 cases f with
 | zero=>cases h
 | succ f =>
 rw[exM]at h
 obtain⟨y,a1,o1,h1,h⟩:=aO h
 have e1:=Ki h1
 have e2:=dW _ _ _ _ _ _ _ _ h
 omega
theorem Qy(ts:List Tk): ∀f,(∀a o,3*(ts.length-a)+1≤f→Sm (exM ts f .op a o))∧(∀l a o,3*(ts.length-a)+2≤f→Sm (exM ts f (.ex l) a o))∧(∀l x a o,3*(ts.length-a)+1≤f→Sm (exM ts f (.lo l x) a o)):=by
 intro f
 induction f with
 | zero=>exact⟨(fun a o h=>by omega),(fun l a o h=>by omega),(fun l x a o h=>by omega)⟩
 | succ f ih =>
  obtain⟨i1,i2,i3⟩:=ih
  have hin: ∀q a o,a<ts.length→3*(ts.length-a)≤f→Sm (inn ts (exM ts f (.ex 1)) q a o):=fun q a o ha h=>by
   refine Sm.rb (Sm.beg ..) fun _ a1 o1 h1=>Sm.rb ?_ fun _ _ _ _=>Sm.rb (Sm.en ..) fun _ _ _ _=>Sm.ret ..
   have:=cE h1;exact i2 _ _ _ (by omega)
  refine⟨fun a o h=> ?_,fun l a o h=> ?_,fun l x a o h=> ?_⟩
  ·rw[exM]
   refine Sm.ite (fun _=>Sm.ret ..) fun _=>Sm.ite (fun _=>Sm.ret ..) fun _=>Sm.ite (fun hk=> ?_) fun _=>Sm.ite (fun hk=> ?_) fun _=>oR _
   ·have hl:=eJ hk (by decide)
    cases accW (pk ts a).text with
    | none=>exact oR _
    | some p =>
     by_cases hl2:a+1<ts.length
     ·exact hin _ _ _ hl2 (by omega)
     ·refine Sm.rb (Sm.beg ..) fun _ a1 o1 h1=> ?_
      have:=bJ (cE h1).1;omega
   ·have hl:=eJ hk (by decide)
    refine Sm.ite (fun _=>hin _ _ _ hl (by omega)) fun _=>Sm.ite (fun _=> ?_) fun _=>oR _
    refine Sm.rb (Sm.beg ..) fun _ a1 o1 h1=>Sm.rb ?_ fun _ _ _ _=>Sm.ret ..
    have:=cE h1;exact i1 _ _ (by omega)
  ·rw[exM]
   refine Sm.rb (i1 _ _ (by omega)) fun x b p h1=>i3 _ _ _ _ ?_
   have:=Ki h1;omega
  ·rw[exM]
   refine Sm.ite (fun _=>Sm.ret ..) fun hk=> ?_
   have hl:=FY (ts:=ts) (a:=a) (fun e=>hk (.inl e))
   refine Sm.rb (i2 _ _ _ (by omega)) fun y b p h1=>i3 _ _ _ _ ?_
   have:=Bp h1;omega
theorem EP(ts:List Tk): ∀f,(∀a o,ts.length-a+1≤f→Sm (tyM ts f .ty a o))∧(∀l a o,ts.length-a+1≤f→Sm (tyM ts f (.fl l) a o)):=by
 intro f
 induction f with
 | zero=>exact⟨(fun a o h=>by omega),(fun l a o h=>by omega)⟩
 | succ f ih =>
  obtain⟨i1,i2⟩:=ih;refine⟨fun a o h=> ?_,fun l a o h=> ?_⟩
  ·rw[tyM]
   refine Sm.ite (fun _=> ?_) fun _=>Sm.ite (fun _=>Sm.ret ..) fun _=>Sm.ite (fun hk=> ?_) fun _=>Sm.ite (fun hk=> ?_) fun _=>Sm.ite (fun hk=> ?_) fun _=>oR _
   ·cases intR (pk ts a).text with
    | none=>exact oR _
    | some p=>exact Sm.ret ..
   ·have hl:=bJ hk
    refine Sm.rb (Sm.beg ..) fun _ a1 o1 h1=>Sm.rb (i1 _ _ ?_) fun _ _ _ _=>Sm.ret ..
    have:=cE h1;omega
   ·have hl:=bJ hk
    refine Sm.rb (Sm.beg ..) fun _ a1 o1 h1=>Sm.rb (Sm.tak ..) fun _ a2 o2 h2=>Sm.rb (Sm.exp ..) fun _ a3 o3 h3=>Sm.rb (i1 _ _ ?_) fun _ _ _ _=>Sm.ret ..
    have:=cE h1;have:=iE h2;have:=cK h3;omega
   ·have hl:=bJ hk
    refine Sm.rb (Sm.beg ..) fun _ a1 o1 h1=>i2 _ _ _ ?_
    have:=cE h1;omega
  ·rw[tyM]
   refine Sm.ite (fun _=>Sm.rb (Sm.en ..) fun _ _ _ _=>Sm.ret ..) fun _=>Sm.rb (Sm.ite (fun _=>Sm.exp ..) fun _=>Sm.ret ..) fun _ a1 o1 h1=>Sm.rb (Sm.tak ..) fun _ a2 o2 h2=>Sm.rb (Sm.exp ..) fun _ a3 o3 h3=> ?_
   have e1:a≤a1:=by
    rcases aI h1 with ⟨_,h1⟩|⟨_,h1⟩
    ·have:=cK h1;omega
    ·cases h1;omega
   have e2:=iE h2;have e3:=cK h3;have e4:=eJ e2.1 (by decide)
   refine Sm.rb (i1 _ _ (by omega)) fun _ a5 o5 h5=>i2 _ _ _ ?_
   have:=(kX ts f).1 _ _ _ _ _ h5;omega
theorem FZ(ts:List Tk): ∀f,(∀a o,3*(ts.length-a)+2≤f→Sm (stM ts f .st a o))∧(∀l a o,3*(ts.length-a)+3≤f→Sm (stM ts f (.li l) a o))∧(∀a o,3*(ts.length-a)+3≤f→Sm (stM ts f .br a o))∧(∀c a o,3*(ts.length-a)+3≤f→Sm (stM ts f (.ca c) a o)):=by
 intro f
 induction f with
 | zero=>exact⟨(fun a o h=>by omega),(fun l a o h=>by omega),(fun a o h=>by omega),(fun c a o h=>by omega)⟩
 | succ f ih =>
  obtain⟨i1,i2,i3,i4⟩:=ih;have ex: ∀l a o,3*(ts.length-a)+2≤f→Sm (exM ts f (.ex l) a o):=fun l a o h=>(Qy ts f).2.1 l a o h
  refine⟨fun a o h=> ?_,fun l a o h=> ?_,fun a o h=> ?_,fun c a o h=> ?_⟩
  ·rw[stM]
   have sto: ∀w,a<ts.length→Sm (mA ts f w (a+1) o):=fun w ha=>by
    refine Sm.rb (Sm.beg ..) fun _ a1 o1 h1=> ?_
    have e1:=cE h1;have:=bJ e1.1;refine Sm.rb (ex _ _ _ (by omega)) fun _ a2 o2 h2=>Sm.rb (Sm.exp ..) fun _ a3 o3 h3=> ?_
    have e2:=Bp h2;have e3:=cK h3;refine Sm.rb (ex _ _ _ (by omega)) fun _ a4 o4 h4=>Sm.rb (Sm.en ..) fun _ a5 o5 h5=>Sm.rb (Sm.exp ..) fun _ a6 o6 h6=>Sm.ret ..
   have sim: ∀k a o,Sm (mB ts k a o):=fun k a o=>Sm.rb (Sm.exp ..) fun _ _ _ _=>Sm.ret ..
   refine Sm.ite (fun hk=> ?_) fun _=>Sm.ite (fun _=>Sm.rb (Sm.nm ..) fun _ _ _ _=>Sm.rb (Sm.exp ..) fun _ _ _ _=>Sm.ret ..) fun _=>Sm.ite (fun _=>Sm.rb (Sm.nm ..) fun _ _ _ _=>Sm.rb (Sm.exp ..) fun _ _ _ _=>Sm.ret ..) fun _ =>
    Sm.ite (fun hk=>sto _ (bJ hk)) fun _=>Sm.ite (fun hk=>sto _ (bJ hk)) fun _=>Sm.ite (fun hk=>sto _ (bJ hk)) fun _=>Sm.ite (fun hk=> ?_) fun _=>Sm.ite (fun hk=> ?_) fun _=>Sm.ite (fun hk=> ?_) fun _=>Sm.ite (fun hk=> ?_) fun _=>Sm.ite (fun hk=> ?_) fun _ =>
    Sm.ite (fun _=>sim ..) fun _=>Sm.ite (fun _=>sim ..) fun _=>Sm.ite (fun _=>sim ..) fun _=>Sm.ite (fun _=>sim ..) fun _=>oR _
   ·have hl:=eJ hk (by decide)
    refine Sm.rb (Sm.nm ..) fun _ a1 o1 h1=>Sm.ite (fun _=>Sm.ret ..) fun _=>Sm.rb (Sm.exp ..) fun _ a2 o2 h2=>Sm.ite (fun _=>Sm.rb (Sm.exp ..) fun _ _ _ _=>Sm.ret ..) fun _=> ?_
    have e1:=gQ h1;have e2:=cK h2;have:=bJ e2.1;exact Sm.rb (ex _ _ _ (by omega)) fun _ _ _ _=>Sm.rb (Sm.exp ..) fun _ _ _ _=>Sm.ret ..
   ·have hl:=bJ hk
    exact Sm.rb (ex _ _ _ (by omega)) fun _ _ _ _=>Sm.rb (Sm.exp ..) fun _ _ _ _=>Sm.ret ..
   ·have hl:=bJ hk
    refine Sm.rb (ex _ _ _ (by omega)) fun _ a1 o1 h1=> ?_
    have e1:=Bp h1;refine Sm.rb (i3 _ _ (by omega)) fun _ a2 o2 h2=>Sm.ite (fun _=> ?_) fun _=>Sm.ret ..
    have e2:=(fW ts f).2.2.1 _ _ _ _ _ h2;exact Sm.rb (i3 _ _ (by omega)) fun _ _ _ _=>Sm.ret ..
   ·have hl:=bJ hk
    refine Sm.rb (ex _ _ _ (by omega)) fun _ a1 o1 h1=> ?_
    have e1:=Bp h1;exact Sm.rb (i3 _ _ (by omega)) fun _ a2 o2 h2=>Sm.ret ..
   ·have hl:=bJ hk
    exact Sm.rb (i3 _ _ (by omega)) fun _ a2 o2 h2=>Sm.ret ..
   ·have hl:=bJ hk
    refine Sm.rb (ex _ _ _ (by omega)) fun _ a1 o1 h1=>Sm.rb (Sm.beg ..) fun _ a2 o2 h2=> ?_
    have e1:=Bp h1;have e2:=cE h2;exact Sm.rb (i4 _ _ _ (by omega)) fun _ _ _ _=>Sm.ret ..
  ·rw[stM]
   refine Sm.ite (fun _=>Sm.ret ..) fun _=>Sm.rb (i1 _ _ (by omega)) fun _ a1 o1 h1=> ?_
   have e1:=(fW ts f).1 _ _ _ _ _ h1;exact i2 _ _ _ (by omega)
  ·rw[stM]
   refine Sm.rb (Sm.beg ..) fun _ a1 o1 h1=> ?_
   have e1:=cE h1;have:=bJ e1.1;exact Sm.rb (i2 _ _ _ (by omega)) fun _ _ _ _=>Sm.rb (Sm.en ..) fun _ _ _ _=>Sm.ret ..
  ·rw[stM]
   refine Sm.ite (fun hk=>Sm.ite (fun hn=> ?_) fun _=>oR _) fun _=>Sm.rb (Sm.en ..) fun _ _ _ _=>Sm.ret ..
   have hl:=bJ hk;refine Sm.rb (i3 _ _ (by omega)) fun _ a1 o1 h1=> ?_
   have e1:=(fW ts f).2.2.1 _ _ _ _ _ h1;exact i4 _ _ _ (by omega)
theorem lY{ts:List Tk}{f a o:Nat}{v:Va}{b p:Nat}(h:xL ts f a o=some (.ok v b p)):p=o∧a<b∧b≤ts.length:=by
 obtain⟨_,a1,o1,h1,h⟩:=aO h
 obtain⟨_,a2,o2,h2,h⟩:=aO h
 obtain⟨_,a3,o3,h3,h⟩:=aO h
 obtain⟨_,a4,o4,h4,h⟩:=aO h
 obtain⟨_,a5,o5,h5,h⟩:=aO h
 have e1:=cK h1
 have e2:=gQ h2
 have e3:=cK h3
 have e4:=(kX ts f).1 _ _ _ _ _ h4
 have e5:=fJ h5
 cases h;omega
theorem Iv(ts:List Tk){f a o:Nat}(h:ts.length-a+1≤f):Sm (xL ts f a o):=by
 refine Sm.rb (Sm.exp ..) fun _ a1 o1 h1=>Sm.rb (Sm.nm ..) fun _ a2 o2 h2=>Sm.rb (Sm.exp ..) fun _ a3 o3 h3=>Sm.rb ((EP ts f).1 _ _ ?_) fun _ _ _ _=>Sm.rb (Sm.exp ..) fun _ _ _ _=>Sm.ret ..
 have e1:=cK h1
 have e2:=gQ h2
 have e3:=cK h3
 omega
theorem Dx{ts:List Tk}{s:Bs}{a o:Nat}{w:Bool}{b p:Nat}(h:accM ts s a o=some (.ok w b p)):p=o∧a≤b∧w=sees ts a s∧b=(if sees ts a s=true then a+1 else a):=by
 rcases aI h with ⟨hk,h⟩|⟨hk,h⟩
 ·cases h;rw[hk,if_pos rfl];exact⟨rfl,by omega,rfl,rfl⟩
 ·cases h;rw[if_neg hk];exact⟨rfl,by omega,by simpa using hk,rfl⟩
theorem Sm.acc(ts:List Tk)(s:Bs)(a o:Nat):Sm (accM ts s a o):=Sm.ite (fun _=>Sm.ret ..) fun _=>Sm.ret ..
theorem zM{ts:List Tk}{a o:Nat}{v:Sec}{b p:Nat}(h:Dg ts a o=some (.ok v b p)):p=o∧a<b∧b≤ts.length:=by
 obtain⟨_,a1,o1,h1,h⟩:=aO h
 obtain⟨_,a2,o2,h2,h⟩:=aO h
 obtain⟨_,a3,o3,h3,h⟩:=aO h
 obtain⟨_,a4,o4,h4,h⟩:=aO h
 obtain⟨_,a5,o5,h5,h⟩:=aO h
 obtain⟨_,a6,o6,h6,h⟩:=aO h
 obtain⟨_,a7,o7,h7,h⟩:=aO h
 obtain⟨_,a8,o8,h8,h⟩:=aO h
 have e1:=cK h1
 have e2:=gQ h2
 have e3:=iE h3
 have e4:=Dx h4
 have e5:=Dx h5
 have e6:=cK h6
 have e7:=iE h7
 have e8:=fJ h8
 cases h;omega
theorem XT(ts:List Tk)(a o:Nat):Sm (Dg ts a o) :=
 Sm.rb (Sm.exp ..) fun _ _ _ _=>Sm.rb (Sm.nm ..) fun _ _ _ _=>Sm.rb (Sm.tak ..) fun _ _ _ _=>Sm.rb (Sm.acc ..) fun _ _ _ _=>Sm.rb (Sm.acc ..) fun _ _ _ _=>Sm.rb (Sm.exp ..) fun _ _ _ _=>Sm.rb (Sm.tak ..) fun _ _ _ _=>Sm.rb (Sm.exp ..) fun _ _ _ _=>Sm.ret ..
theorem Ws{ts:List Tk}: ∀(f:Nat) {l:List Va} {a o:Nat} {v:List Va} {b p:Nat},vasM ts f l a o=some (.ok v b p)→p=o∧a≤b:=by
 intro f
 induction f with
 | zero=>intro l a o v b p h;cases h
 | succ f ih =>
  intro l a o v b p h;rw[vasM]at h;rcases aI h with ⟨hk,h⟩|⟨hk,h⟩
  ·obtain⟨_,a1,o1,h1,h⟩:=aO h
   have e1:=lY h1;have e2:=ih h;omega
  ·cases h;omega
theorem Zl(ts:List Tk): ∀(f:Nat) (l:List Va) (a o:Nat),ts.length-a+2≤f→Sm (vasM ts f l a o):=by
 intro f
 induction f with
 | zero=>intro l a o h;omega
 | succ f ih =>
  intro l a o h;rw[vasM];refine Sm.ite (fun hk=>Sm.rb (Iv ts (by omega)) fun _ a1 o1 h1=>ih _ _ _ ?_) fun _=>Sm.ret ..
  have e1:=lY h1;have:=bJ hk;omega
theorem wJ{ts:List Tk}{f a o:Nat}{v:Fun}{b p:Nat}(h:funM ts f a o=some (.ok v b p)):p=o∧a<b∧b≤ts.length:=by
 obtain⟨_,a1,o1,h1,h⟩:=aO h
 obtain⟨_,a2,o2,h2,h⟩:=aO h
 obtain⟨_,a3,o3,h3,h⟩:=aO h
 obtain⟨_,a4,o4,h4,h⟩:=aO h
 obtain⟨_,a5,o5,h5,h⟩:=aO h
 obtain⟨_,a6,o6,h6,h⟩:=aO h
 have e1:=cK h1
 have e2:=gQ h2
 have e3:=cE h3
 have e4:=Ws _ h4
 have e5:=(fW ts f).2.1 _ _ _ _ _ _ h5
 have e6:=vA h6
 cases h;omega
theorem Bk(ts:List Tk){f a o:Nat}(h:3*(ts.length-a)+3≤f):Sm (funM ts f a o):=by
 refine Sm.rb (Sm.exp ..) fun _ a1 o1 h1=>Sm.rb (Sm.nm ..) fun _ a2 o2 h2=>Sm.rb (Sm.beg ..) fun _ a3 o3 h3=> ?_
 have e1:=cK h1
 have e2:=gQ h2
 have e3:=cE h3
 refine Sm.rb (Zl ts _ _ _ _ (by omega)) fun _ a4 o4 h4=> ?_
 have e4:=Ws _ h4
 exact Sm.rb ((FZ ts f).2.1 _ _ _ (by omega)) fun _ _ _ _=>Sm.rb (Sm.en ..) fun _ _ _ _=>Sm.ret ..
theorem Iy(ts:List Tk): ∀(f:Nat) (u:Un) (a o:Nat),3*(ts.length-a)+4≤f→Sm (uniM ts f u a o):=by
 intro f
 induction f with
 | zero=>intro u a o h;omega
 | succ f ih =>
  intro u a o h;rw[uniM];refine Sm.ite (fun _=>Sm.ret ..) fun hl=>Sm.ite (fun hk=> ?_) fun _=>Sm.ite (fun hk=> ?_) fun _=>Sm.ite (fun hk=> ?_) fun _=>oR _
  ·refine Sm.rb (Iv ts (by omega)) fun _ a1 o1 h1=>ih _ _ _ ?_
   have e1:=lY h1;omega
  ·refine Sm.rb (XT ..) fun _ a1 o1 h1=>ih _ _ _ ?_
   have e1:=zM h1;omega
  ·refine Sm.rb (Bk ts (by omega)) fun _ a1 o1 h1=>ih _ _ _ ?_
   have e1:=wJ h1;omega
theorem Sm.all{α:Type}{ts:List Tk}{r:Option (Rs α)}(h:Sm r):Sm (allM ts r):=Sm.rb h fun _ _ _ _=>Sm.ite (fun _=>oR _) fun _=>Sm.ret ..
section
variable {ts us:List Tk} (h:ts.map core=us.map core)
include h
theorem JP:ts.length=us.length:=by simpa using congrArg List.length h
theorem Yg(a:Nat):core (pk ts a)=core (pk us a):=by
 have h1:=congrArg (fun l=>l[a]?) h
 simp only[List.getElem?_map]at h1
 unfold pk List.getD
 cases ha:ts[a]? with
 | none =>
  rw[ha]at h1;cases hb:us[a]? with
  | none=>rfl
  | some y=>rw[hb]at h1;cases h1
 | some x =>
  rw[ha]at h1;cases hb:us[a]? with
  | none=>rw[hb]at h1;cases h1
  | some y=>rw[hb]at h1;simpa using h1
theorem wQ(a:Nat):(pk ts a).kind=(pk us a).kind:=congrArg (·.1) (Yg h a)
theorem Dt(a:Nat):(pk ts a).text=(pk us a).text:=congrArg (·.2.1) (Yg h a)
theorem ZR(a:Nat):(pk ts a).n=(pk us a).n:=congrArg (·.2.2) (Yg h a)
theorem nG(a:Nat)(s:Bs):sees ts a s=sees us a s:=by unfold sees;rw[wQ h,Dt h]
theorem ZQ(a:Nat):stR (pk ts a)=stR (pk us a):=by unfold stR;rw[wQ h,Dt h]
theorem Bu(s:Bs)(a o:Nat):begM ts s a o=begM us s a o:=by unfold begM;rw[nG h]
theorem sW(s:Bs)(a o:Nat):expM ts s a o=expM us s a o:=by unfold expM;rw[nG h]
theorem Gv(s:Bs)(a o:Nat):endM ts s a o=endM us s a o:=by unfold endM;rw[nG h]
theorem WP(s:Bs)(a o:Nat):accM ts s a o=accM us s a o:=by unfold accM;rw[nG h]
theorem Gu{β:Type}(k:Int)(a o:Nat){g:Tk→Nat→Nat→Option (Rs β)}(hg: ∀t t' a o,core t=core t'→g t a o=g t' a o):rb (takM ts k a o) g=rb (takM us k a o) g:=by
 unfold takM
 rw[wQ h]
 by_cases hk:(pk us a).kind≠k
 ·rw[if_pos hk,if_pos hk]
  try rfl
 ·rw[if_neg hk,if_neg hk];exact hg _ _ _ _ (Yg h a)
theorem Rk(a o:Nat):nmM ts a o=nmM us a o:=Gu h _ _ _ fun t t' a o e=>by show ret _ _ _=ret _ _ _;rw[show t.text=t'.text from congrArg (·.2.1) e]
theorem JR: ∀f m a o,exM ts f m a o=exM us f m a o:=by
 intro f
 induction f with
 | zero=>intro m a o;cases m<;>rfl
 | succ f ih =>
  have hin: ∀q a o,inn ts (exM ts f (.ex 1)) q a o=inn us (exM us f (.ex 1)) q a o:=fun q a o=>by
   unfold inn;simp only[Bu h,Gv h,ih]
  intro m a o;cases m with
  | op=>rw[exM,exM,wQ h,Dt h,ZR h];simp only[hin,Bu h,ih]
  | ex l=>rw[exM,exM];simp only[ih]
  | lo l x=>rw[exM,exM,ZQ h];simp only[ih]
theorem ZP: ∀f m a o,tyM ts f m a o=tyM us f m a o:=by
 intro f
 induction f with
 | zero=>intro m a o;cases m<;>rfl
 | succ f ih =>
  intro m a o;cases m with
  | ty =>
   rw[tyM,tyM,wQ h,Dt h];simp only[nG h,Bu h,ih]
   have e: ∀a o,(rb (takM ts 3 a o) fun n a o=>rb (expM ts [93] a o) fun _ a o=>rb (tyM us f .ty a o) fun x a o=>ret (Ty.mk 0 4 0 n.n [x] []) a (o-1))=(rb (takM us 3 a o) fun n a o=>rb (expM us [93] a o) fun _ a o=>rb (tyM us f .ty a o) fun x a o=>ret (Ty.mk 0 4 0 n.n [x] []) a (o-1)):=fun a o=>by
    simp only[sW h];exact Gu h _ _ _ fun t t' a o e=>by simp only[show t.n=t'.n from congrArg (·.2.2) e]
   simp only[e]
  | fl l =>
   rw[tyM,tyM];simp only[nG h,Gv h,sW h,ih]
   have e: ∀a o,(rb (takM ts 3 a o) fun n a o=>rb (expM us [58] a o) fun _ a o=>rb (tyM us f .ty a o) fun x a o=>tyM us f (.fl (l++[x.at_ n.n])) a o)=(rb (takM us 3 a o) fun n a o=>rb (expM us [58] a o) fun _ a o=>rb (tyM us f .ty a o) fun x a o=>tyM us f (.fl (l++[x.at_ n.n])) a o):=fun a o =>
    Gu h _ _ _ fun t t' a o e=>by simp only[show t.n=t'.n from congrArg (·.2.2) e]
   simp only[e]
theorem WK(f:Nat)(w:Int)(a o:Nat):mA ts f w a o=mA us f w a o:=by unfold mA;simp only[Bu h,JR h,sW h,Gv h]
theorem WM(k:Int)(a o:Nat):mB ts k a o=mB us k a o:=by unfold mB;simp only[sW h]
theorem WN(f:Nat)(a o:Nat):Bc ts f a o=Bc us f a o:=by unfold Bc;simp only[Rk h,nG h,sW h,JR h]
theorem WL: ∀f m a o,stM ts f m a o=stM us f m a o:=by
 intro f
 induction f with
 | zero=>intro m a o;cases m<;>rfl
 | succ f ih =>
  intro m a o;cases m<;>rw[stM,stM]<;>simp only[wQ h,ZR h,nG h,Rk h,WN h,sW h,JR h,WK h,WM h,Bu h,Gv h,ih]
theorem JO(f a o:Nat):xL ts f a o=xL us f a o:=by unfold xL;simp only[Rk h,sW h,ZP h]
theorem WO(a o:Nat):Dg ts a o=Dg us a o:=by
 unfold Dg
 simp only[Rk h,sW h,WP h]
 have e1: ∀a o n (d:Tk) w x,(rb (takM ts 4 a o) fun b a o=>rb (expM us [59] a o) fun _ a o=>ret (Sec.mk n d.n b.text w x) a o)=(rb (takM us 4 a o) fun b a o=>rb (expM us [59] a o) fun _ a o=>ret (Sec.mk n d.n b.text w x) a o):=fun a o n d w x =>
  Gu h _ _ _ fun t t' a o e=>by simp only[show t.text=t'.text from congrArg (·.2.1) e]
 simp only[e1]
 have e2: ∀a o n,(rb (takM ts 3 a o) fun d a o=>rb (accM us [119,114,105,116,101] a o) fun w a o=>rb (accM us [101,120,101,99] a o) fun x a o=>rb (expM us [61] a o) fun _ a o=>rb (takM us 4 a o) fun b a o=>rb (expM us [59] a o) fun _ a o=>ret (Sec.mk n d.n b.text w x) a o) =
   (rb (takM us 3 a o) fun d a o=>rb (accM us [119,114,105,116,101] a o) fun w a o=>rb (accM us [101,120,101,99] a o) fun x a o=>rb (expM us [61] a o) fun _ a o=>rb (takM us 4 a o) fun b a o=>rb (expM us [59] a o) fun _ a o=>ret (Sec.mk n d.n b.text w x) a o):=fun a o n =>
  Gu h _ _ _ fun t t' a o e=>by simp only[show t.n=t'.n from congrArg (·.2.2) e]
 simp only[e2]
theorem WI: ∀f l a o,vasM ts f l a o=vasM us f l a o:=by
 intro f
 induction f with
 | zero=>intro l a o;rfl
 | succ f ih=>intro l a o;rw[vasM,vasM];simp only[nG h,JO h,ih]
theorem JQ(f a o:Nat):funM ts f a o=funM us f a o:=by unfold funM;simp only[sW h,Rk h,Bu h,WI h,WL h,Gv h]
theorem WJ: ∀f u a o,uniM ts f u a o=uniM us f u a o:=by
 intro f
 induction f with
 | zero=>intro u a o;rfl
 | succ f ih=>intro u a o;rw[uniM,uniM];simp only[JP h,nG h,JO h,WO h,JQ h,ih]
theorem JS{α:Type}(r:Option (Rs α)):allM ts r=allM us r:=by unfold allM;rw[JP h]
end
def nxq(f:Int→Int)(n:Int):Int:=if 0≤n then f n else n
def lpf(rs:List (Int→Int→Int))(most n:Int):Int:=if 20<rs.length∨most<1 then -1 else pfold (fun r n=>r most n) rs n
def ndp:Nd→Int→Int→Int:=Nd.para fun t a b c most n=>if 4<t.e.length∨70<t.cs.length then -1 else
 pfold (fun r n=>lpf r (most-1) n) c (nxq (lpf b (most-1)) (nxq (lpf a (most-1)) (pfold (fun x n=>epa x 70 n) t.e (n-1))))
def lpa(l:List Nd)(most n:Int):Int:=if 20<l.length∨most<1 then -1 else pfold (fun t n=>ndp t most n) l n
theorem OF(l:List Nd):lpf (l.map ndp)=lpa l:=by
 funext most n
 unfold lpf lpa
 rw[List.length_map,vX]
theorem Ba(t:Nd)(most n:Int):ndp t most n=if 4<t.e.length∨70<t.cs.length then -1 else
  pfold (fun c n=>lpa c (most-1) n) t.cs (nxq (lpa t.el (most-1)) (nxq (lpa t.l (most-1)) (pfold (fun x n=>epa x 70 n) t.e (n-1)))):=by
 obtain⟨k,w,nm,e,l,el,cs⟩:=t
 have h:ndp (.mk k w nm e l el cs) most n=_:=congrFun (congrFun (Nd.para_mk _ k w nm e l el cs) most) n
 refine h.trans ?_
 show(if 4<e.length∨70<cs.length then -1 else pfold (fun r n=>lpf r (most-1) n) (cs.map (List.map ndp)) (nxq (lpf (el.map ndp) (most-1)) (nxq (lpf (l.map ndp) (most-1)) (pfold (fun x n=>epa x 70 n) e (n-1)))))=_
 rw[vX]
 simp only[OF]
 rfl
theorem vZ{f:Int→Int}(hf: ∀n,0≤n→ -1≤f n∧f n≤n){n:Int}(h: -1≤n): -1≤nxq f n∧nxq f n≤n:=by
 unfold nxq
 split
 ·rename_i h0;exact hf n h0
 ·omega
theorem uS{α:Type}{f:α→Int→Int}{l:List α}(h: ∀x∈l,∀n,0≤n→ -1≤f x n∧f x n≤n)(n:Int)(hn: -1≤n): -1≤pfold f l n∧pfold f l n≤n:=dQ h n hn
theorem kP: ∀(l:List Nd) (most n:Int),0≤n→ -1≤lpa l most n∧lpa l most n≤n:=by
 refine Nd.listInduct fun l ih=> ?_
 intro most n hn
 unfold lpa
 split
 ·omega
 refine uS (fun t ht n hn=> ?_) n (by omega)
 obtain⟨i1,i2,i3⟩:=ih t ht
 rw[Ba]
 split
 ·omega
 have b1:=uS (f:=fun x n=>epa x 70 n) (l:=t.e) (fun x _ n hn=>mO x _ n hn) (n-1) (by omega)
 have b2:=vZ (i1 (most-1)) b1.1
 have b3:=vZ (i2 (most-1)) b2.1
 have b4:=uS (f:=fun c n=>lpa c (most-1) n) (l:=t.cs) (fun c hc n hn=>i3 c hc _ n hn) _ b3.1
 omega
theorem Js(t:Nd)(most n:Int)(hn:0≤n): -1≤ndp t most n∧ndp t most n≤n:=by
 rw[Ba]
 split
 ·omega
 have b1:=uS (f:=fun x n=>epa x 70 n) (l:=t.e) (fun x _ n hn=>mO x _ n hn) (n-1) (by omega)
 have b2:=vZ (kP t.l (most-1)) b1.1
 have b3:=vZ (kP t.el (most-1)) b2.1
 have b4:=uS (f:=fun c n=>lpa c (most-1) n) (l:=t.cs) (fun c hc n hn=>kP c _ n hn) _ b3.1
 omega
def smF(f:Fun):Bool:=decide (f.vars.length≤300)&&(decide (0≤lpa f.body 70 5000)&&f.vars.all fun v=>smallT v.ty 70)
theorem vV{α:Type}{f:α→Int→Int}{g:α→Nat}{C:Int}(hC:0≤C): ∀ {l:List α},(∀x∈l,∀n,0≤n→f x n≤n∧(0≤f x n→(g x:Int)≤C*(n-f x n)))→ ∀n,0≤n→0≤pfold f l n→(((l.map g).sum:Nat):Int)≤C*(n-pfold f l n)
 | [],_,n,hn,_=>by
  show((0:Nat):Int)≤C*(n-n)
  simp
 | x::l,h,n,hn,hp=>by
  have e:pfold f (x::l) n=pfold f l (f x n):=by unfold pfold;rw[List.foldl_cons,if_pos hn]
  rw[e]at hp ⊢
  have h0:0≤f x n:=Int.not_lt.1 fun hneg=>by
   rw[jG _ (by omega)]at hp
   omega
  have h1:=(h x (by simp) n hn).2 h0
  have h2:=vV hC (l:=l) (fun y hy=>h y (by simp[hy])) (f x n) h0 hp
  rw[List.map_cons,List.sum_cons];have e2:C*(n-pfold f l (f x n))=C*(n-f x n)+C*(f x n-pfold f l (f x n)):=by rw[←Int.mul_add];congr 1;omega
  rw[e2];omega
end Go.Proofs.YtmbmmckagcdapaaGreatDoor
