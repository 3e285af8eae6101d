import Derived.Test.YtmbmmckagcdapaaGreatDoorM12
import Derived.Test.YtmbmmckagcdapaaGreatDoorM13
set_option linter.all false
namespace Go.Proofs.YtmbmmckagcdapaaGreatDoor
def Sm{α:Type}(r:Option (Rs α)):Prop:= ∃z,r=some z
theorem Sm.rb{α β:Type}{r:Option (Rs α)}{k:α→Nat→Nat→Option (Rs β)}(h:Sm r)(hk: ∀x a o,r=some (.ok x a o)→Sm (k x a o)):Sm (rb r k):=by
 obtain⟨z,rfl⟩:=h
 cases z with
 | ok x a o=>exact hk x a o rfl
 | bad b e=>exact⟨_,rfl⟩
theorem Sm.ite{α:Type}{c:Prop}[Decidable c]{x y:Option (Rs α)}(hx:c→Sm x)(hy: ¬c→Sm y):Sm (if c then x else y):=by
 by_cases h:c
 ·rw[if_pos h];exact hx h
 ·rw[if_neg h];exact hy h
theorem nX{α:Type}(z:Rs α):Sm (some z):=⟨z,rfl⟩
theorem Sm.ret{α:Type}(x:α)(a o:Nat):Sm (ret x a o):=⟨_,rfl⟩
theorem Sm.beg(ts:List Tk)(s:Bs)(a o:Nat):Sm (begM ts s a o):=⟨_,rfl⟩
theorem Sm.exp(ts:List Tk)(s:Bs)(a o:Nat):Sm (expM ts s a o):=⟨_,rfl⟩
theorem Sm.en(ts:List Tk)(s:Bs)(a o:Nat):Sm (endM ts s a o):=⟨_,rfl⟩
theorem Sm.tak(ts:List Tk)(k:Int)(a o:Nat):Sm (takM ts k a o):=⟨_,rfl⟩
theorem Sm.nm(ts:List Tk)(a o:Nat):Sm (nmM ts a o):=Sm.rb (Sm.tak ..) fun _ _ _ _=>Sm.ret ..
theorem EC{ts:List Tk}{a:Nat}(h: ¬(stR (pk ts a)).2=0):a<ts.length:=by
 refine eE (k:=5) ?_ (by decide)
 unfold stR at h
 split at h
 ·assumption
 ·exact absurd rfl h
theorem Iy{ts:List Tk}{f a o:Nat}{x:Ex}{b p:Nat}(h:exM ts f .op a o=some (.ok x b p)):a<b∧a<ts.length:=by
 cases f with
 | zero=>cases h
 | succ f =>
 have inn_lt: ∀(q:Ex→Ex) a o,inn ts (exM ts f (.ex 1)) q a o=some (.ok x b p)→a<b:=by
  intro q a o h;obtain⟨_,a1,o1,h1,h⟩:=aN h;obtain⟨y,a2,o2,h2,h⟩:=aN h;obtain⟨_,a3,o3,h3,h⟩:=aN h;cases h
  have e1:=cE h1;have e2:=dS _ _ _ _ _ _ _ _ h2;have e3:=nT h3;omega
 rw[exM]at h
 rcases aI h with ⟨hk,h⟩|⟨_,h⟩
 ·have:=eE hk (by decide)
  cases h;omega
 rcases aI h with ⟨hk,h⟩|⟨_,h⟩
 ·have:=eE hk (by decide)
  cases h;omega
 rcases aI h with ⟨hk,h⟩|⟨_,h⟩
 ·have:=eE hk (by decide)
  split at h
  ·have:=inn_lt _ _ _ h;omega
  ·cases h
 rcases aI h with ⟨hk,h⟩|⟨_,h⟩
 ·have:=eE hk (by decide)
  rcases aI h with ⟨_,h⟩|⟨_,h⟩
  ·have:=inn_lt _ _ _ h;omega
  rcases aI h with ⟨_,h⟩|⟨_,h⟩
  ·obtain⟨_,a1,o1,h1,h⟩:=aN h
   obtain⟨y,a2,o2,h2,h⟩:=aN h;cases h
   have e1:=cE h1;have e2:=dS _ _ _ _ _ _ _ _ h2;omega
  ·cases h
 ·cases h
theorem Ai{ts:List Tk}{f l a o:Nat}{x:Ex}{b p:Nat}(h:exM ts f (.ex l) a o=some (.ok x b p)):a<b∧a<ts.length:=by
 cases f with
 | zero=>cases h
 | succ f =>
 rw[exM]at h
 obtain⟨y,a1,o1,h1,h⟩:=aN h
 have e1:=Iy h1
 have e2:=dS _ _ _ _ _ _ _ _ h
 omega
theorem Pe(ts:List Tk): ∀f,(∀a o,3*(ts.length-a)+1≤f→Sm (exM ts f .op a o))∧(∀l a o,3*(ts.length-a)+2≤f→Sm (exM ts f (.ex l) a o))∧(∀l x a o,3*(ts.length-a)+1≤f→Sm (exM ts f (.lo l x) a o)):=by
 intro f
 induction f with
 | zero=>exact⟨(fun a o h=>by omega),(fun l a o h=>by omega),(fun l x a o h=>by omega)⟩
 | succ f ih =>
  obtain⟨i1,i2,i3⟩:=ih
  have hin: ∀q a o,a<ts.length→3*(ts.length-a)≤f→Sm (inn ts (exM ts f (.ex 1)) q a o):=fun q a o ha h=>by
   refine Sm.rb (Sm.beg ..) fun _ a1 o1 h1=>Sm.rb ?_ fun _ _ _ _=>Sm.rb (Sm.en ..) fun _ _ _ _=>Sm.ret ..
   have:=cE h1;exact i2 _ _ _ (by omega)
  refine⟨fun a o h=> ?_,fun l a o h=> ?_,fun l x a o h=> ?_⟩
  ·rw[exM]
   refine Sm.ite (fun _=>Sm.ret ..) fun _=>Sm.ite (fun _=>Sm.ret ..) fun _=>Sm.ite (fun hk=> ?_) fun _=>Sm.ite (fun hk=> ?_) fun _=>nX _
   ·have hl:=eE hk (by decide)
    cases accW (pk ts a).text with
    | none=>exact nX _
    | some p =>
     by_cases hl2:a+1<ts.length
     ·exact hin _ _ _ hl2 (by omega)
     ·refine Sm.rb (Sm.beg ..) fun _ a1 o1 h1=> ?_
      have:=bJ (cE h1).1;omega
   ·have hl:=eE hk (by decide)
    refine Sm.ite (fun _=>hin _ _ _ hl (by omega)) fun _=>Sm.ite (fun _=> ?_) fun _=>nX _
    refine Sm.rb (Sm.beg ..) fun _ a1 o1 h1=>Sm.rb ?_ fun _ _ _ _=>Sm.ret ..
    have:=cE h1;exact i1 _ _ (by omega)
  ·rw[exM]
   refine Sm.rb (i1 _ _ (by omega)) fun x b p h1=>i3 _ _ _ _ ?_
   have:=Iy h1;omega
  ·rw[exM]
   refine Sm.ite (fun _=>Sm.ret ..) fun hk=> ?_
   have hl:=EC (ts:=ts) (a:=a) (fun e=>hk (.inl e))
   refine Sm.rb (i2 _ _ _ (by omega)) fun y b p h1=>i3 _ _ _ _ ?_
   have:=Ai h1;omega
theorem CX(ts:List Tk): ∀f,(∀a o,ts.length-a+1≤f→Sm (tyM ts f .ty a o))∧(∀l a o,ts.length-a+1≤f→Sm (tyM ts f (.fl l) a o)):=by
 intro f
 induction f with
 | zero=>exact⟨(fun a o h=>by omega),(fun l a o h=>by omega)⟩
 | succ f ih =>
  obtain⟨i1,i2⟩:=ih;refine⟨fun a o h=> ?_,fun l a o h=> ?_⟩
  ·rw[tyM]
   refine Sm.ite (fun _=> ?_) fun _=>Sm.ite (fun _=>Sm.ret ..) fun _=>Sm.ite (fun hk=> ?_) fun _=>Sm.ite (fun hk=> ?_) fun _=>Sm.ite (fun hk=> ?_) fun _=>nX _
   ·cases intR (pk ts a).text with
    | none=>exact nX _
    | some p=>exact Sm.ret ..
   ·have hl:=bJ hk
    refine Sm.rb (Sm.beg ..) fun _ a1 o1 h1=>Sm.rb (i1 _ _ ?_) fun _ _ _ _=>Sm.ret ..
    have:=cE h1;omega
   ·have hl:=bJ hk
    refine Sm.rb (Sm.beg ..) fun _ a1 o1 h1=>Sm.rb (Sm.tak ..) fun _ a2 o2 h2=>Sm.rb (Sm.exp ..) fun _ a3 o3 h3=>Sm.rb (i1 _ _ ?_) fun _ _ _ _=>Sm.ret ..
    have:=cE h1;have:=hM h2;have:=cJ h3;omega
   ·have hl:=bJ hk
    refine Sm.rb (Sm.beg ..) fun _ a1 o1 h1=>i2 _ _ _ ?_
    have:=cE h1;omega
  ·rw[tyM]
   refine Sm.ite (fun _=>Sm.rb (Sm.en ..) fun _ _ _ _=>Sm.ret ..) fun _=>Sm.rb (Sm.ite (fun _=>Sm.exp ..) fun _=>Sm.ret ..) fun _ a1 o1 h1=>Sm.rb (Sm.tak ..) fun _ a2 o2 h2=>Sm.rb (Sm.exp ..) fun _ a3 o3 h3=> ?_
   have e1:a≤a1:=by
    rcases aI h1 with ⟨_,h1⟩|⟨_,h1⟩
    ·have:=cJ h1;omega
    ·cases h1;omega
   have e2:=hM h2;have e3:=cJ h3;have e4:=eE e2.1 (by decide)
   refine Sm.rb (i1 _ _ (by omega)) fun _ a5 o5 h5=>i2 _ _ _ ?_
   have:=(kQ ts f).1 _ _ _ _ _ h5;omega
theorem ED(ts:List Tk): ∀f,(∀a o,3*(ts.length-a)+2≤f→Sm (stM ts f .st a o))∧(∀l a o,3*(ts.length-a)+3≤f→Sm (stM ts f (.li l) a o))∧(∀a o,3*(ts.length-a)+3≤f→Sm (stM ts f .br a o))∧(∀c a o,3*(ts.length-a)+3≤f→Sm (stM ts f (.ca c) a o)):=by
 intro f
 induction f with
 | zero=>exact⟨(fun a o h=>by omega),(fun l a o h=>by omega),(fun a o h=>by omega),(fun c a o h=>by omega)⟩
 | succ f ih =>
  obtain⟨i1,i2,i3,i4⟩:=ih;have ex: ∀l a o,3*(ts.length-a)+2≤f→Sm (exM ts f (.ex l) a o):=fun l a o h=>(Pe ts f).2.1 l a o h
  refine⟨fun a o h=> ?_,fun l a o h=> ?_,fun a o h=> ?_,fun c a o h=> ?_⟩
  ·rw[stM]
   have sto: ∀w,a<ts.length→Sm (lS ts f w (a+1) o):=fun w ha=>by
    refine Sm.rb (Sm.beg ..) fun _ a1 o1 h1=> ?_
    have e1:=cE h1;have:=bJ e1.1;refine Sm.rb (ex _ _ _ (by omega)) fun _ a2 o2 h2=>Sm.rb (Sm.exp ..) fun _ a3 o3 h3=> ?_
    have e2:=Ai h2;have e3:=cJ h3;refine Sm.rb (ex _ _ _ (by omega)) fun _ a4 o4 h4=>Sm.rb (Sm.en ..) fun _ a5 o5 h5=>Sm.rb (Sm.exp ..) fun _ a6 o6 h6=>Sm.ret ..
   have sim: ∀k a o,Sm (lT ts k a o):=fun k a o=>Sm.rb (Sm.exp ..) fun _ _ _ _=>Sm.ret ..
   refine Sm.ite (fun hk=> ?_) fun _=>Sm.ite (fun _=>Sm.rb (Sm.nm ..) fun _ _ _ _=>Sm.rb (Sm.exp ..) fun _ _ _ _=>Sm.ret ..) fun _=>Sm.ite (fun _=>Sm.rb (Sm.nm ..) fun _ _ _ _=>Sm.rb (Sm.exp ..) fun _ _ _ _=>Sm.ret ..) fun _ =>
    Sm.ite (fun hk=>sto _ (bJ hk)) fun _=>Sm.ite (fun hk=>sto _ (bJ hk)) fun _=>Sm.ite (fun hk=>sto _ (bJ hk)) fun _=>Sm.ite (fun hk=> ?_) fun _=>Sm.ite (fun hk=> ?_) fun _=>Sm.ite (fun hk=> ?_) fun _=>Sm.ite (fun hk=> ?_) fun _=>Sm.ite (fun hk=> ?_) fun _ =>
    Sm.ite (fun _=>sim ..) fun _=>Sm.ite (fun _=>sim ..) fun _=>Sm.ite (fun _=>sim ..) fun _=>Sm.ite (fun _=>sim ..) fun _=>nX _
   ·have hl:=eE hk (by decide)
    refine Sm.rb (Sm.nm ..) fun _ a1 o1 h1=>Sm.ite (fun _=>Sm.ret ..) fun _=>Sm.rb (Sm.exp ..) fun _ a2 o2 h2=>Sm.ite (fun _=>Sm.rb (Sm.exp ..) fun _ _ _ _=>Sm.ret ..) fun _=> ?_
    have e1:=gM h1;have e2:=cJ h2;have:=bJ e2.1;exact Sm.rb (ex _ _ _ (by omega)) fun _ _ _ _=>Sm.rb (Sm.exp ..) fun _ _ _ _=>Sm.ret ..
   ·have hl:=bJ hk
    exact Sm.rb (ex _ _ _ (by omega)) fun _ _ _ _=>Sm.rb (Sm.exp ..) fun _ _ _ _=>Sm.ret ..
   ·have hl:=bJ hk
    refine Sm.rb (ex _ _ _ (by omega)) fun _ a1 o1 h1=> ?_
    have e1:=Ai h1;refine Sm.rb (i3 _ _ (by omega)) fun _ a2 o2 h2=>Sm.ite (fun _=> ?_) fun _=>Sm.ret ..
    have e2:=(fQ ts f).2.2.1 _ _ _ _ _ h2;exact Sm.rb (i3 _ _ (by omega)) fun _ _ _ _=>Sm.ret ..
   ·have hl:=bJ hk
    refine Sm.rb (ex _ _ _ (by omega)) fun _ a1 o1 h1=> ?_
    have e1:=Ai h1;exact Sm.rb (i3 _ _ (by omega)) fun _ a2 o2 h2=>Sm.ret ..
   ·have hl:=bJ hk
    exact Sm.rb (i3 _ _ (by omega)) fun _ a2 o2 h2=>Sm.ret ..
   ·have hl:=bJ hk
    refine Sm.rb (ex _ _ _ (by omega)) fun _ a1 o1 h1=>Sm.rb (Sm.beg ..) fun _ a2 o2 h2=> ?_
    have e1:=Ai h1;have e2:=cE h2;exact Sm.rb (i4 _ _ _ (by omega)) fun _ _ _ _=>Sm.ret ..
  ·rw[stM]
   refine Sm.ite (fun _=>Sm.ret ..) fun _=>Sm.rb (i1 _ _ (by omega)) fun _ a1 o1 h1=> ?_
   have e1:=(fQ ts f).1 _ _ _ _ _ h1;exact i2 _ _ _ (by omega)
  ·rw[stM]
   refine Sm.rb (Sm.beg ..) fun _ a1 o1 h1=> ?_
   have e1:=cE h1;have:=bJ e1.1;exact Sm.rb (i2 _ _ _ (by omega)) fun _ _ _ _=>Sm.rb (Sm.en ..) fun _ _ _ _=>Sm.ret ..
  ·rw[stM]
   refine Sm.ite (fun hk=>Sm.ite (fun hn=> ?_) fun _=>nX _) fun _=>Sm.rb (Sm.en ..) fun _ _ _ _=>Sm.ret ..
   have hl:=bJ hk;refine Sm.rb (i3 _ _ (by omega)) fun _ a1 o1 h1=> ?_
   have e1:=(fQ ts f).2.2.1 _ _ _ _ _ h1;exact i4 _ _ _ (by omega)
theorem lQ{ts:List Tk}{f a o:Nat}{v:Va}{b p:Nat}(h:wN ts f a o=some (.ok v b p)):p=o∧a<b∧b≤ts.length:=by
 obtain⟨_,a1,o1,h1,h⟩:=aN h
 obtain⟨_,a2,o2,h2,h⟩:=aN h
 obtain⟨_,a3,o3,h3,h⟩:=aN h
 obtain⟨_,a4,o4,h4,h⟩:=aN h
 obtain⟨_,a5,o5,h5,h⟩:=aN h
 have e1:=cJ h1
 have e2:=gM h2
 have e3:=cJ h3
 have e4:=(kQ ts f).1 _ _ _ _ _ h4
 have e5:=fG h5
 cases h;omega
theorem Hl(ts:List Tk){f a o:Nat}(h:ts.length-a+1≤f):Sm (wN ts f a o):=by
 refine Sm.rb (Sm.exp ..) fun _ a1 o1 h1=>Sm.rb (Sm.nm ..) fun _ a2 o2 h2=>Sm.rb (Sm.exp ..) fun _ a3 o3 h3=>Sm.rb ((CX ts f).1 _ _ ?_) fun _ _ _ _=>Sm.rb (Sm.exp ..) fun _ _ _ _=>Sm.ret ..
 have e1:=cJ h1
 have e2:=gM h2
 have e3:=cJ h3
 omega
theorem Cp{ts:List Tk}{s:Bs}{a o:Nat}{w:Bool}{b p:Nat}(h:accM ts s a o=some (.ok w b p)):p=o∧a≤b∧w=sees ts a s∧b=(if sees ts a s=true then a+1 else a):=by
 rcases aI h with ⟨hk,h⟩|⟨hk,h⟩
 ·cases h;rw[hk,if_pos rfl];exact⟨rfl,by omega,rfl,rfl⟩
 ·cases h;rw[if_neg hk];exact⟨rfl,by omega,by simpa using hk,rfl⟩
theorem Sm.acc(ts:List Tk)(s:Bs)(a o:Nat):Sm (accM ts s a o):=Sm.ite (fun _=>Sm.ret ..) fun _=>Sm.ret ..
theorem yL{ts:List Tk}{a o:Nat}{v:Sec}{b p:Nat}(h:By ts a o=some (.ok v b p)):p=o∧a<b∧b≤ts.length:=by
 obtain⟨_,a1,o1,h1,h⟩:=aN h
 obtain⟨_,a2,o2,h2,h⟩:=aN h
 obtain⟨_,a3,o3,h3,h⟩:=aN h
 obtain⟨_,a4,o4,h4,h⟩:=aN h
 obtain⟨_,a5,o5,h5,h⟩:=aN h
 obtain⟨_,a6,o6,h6,h⟩:=aN h
 obtain⟨_,a7,o7,h7,h⟩:=aN h
 obtain⟨_,a8,o8,h8,h⟩:=aN h
 have e1:=cJ h1
 have e2:=gM h2
 have e3:=hM h3
 have e4:=Cp h4
 have e5:=Cp h5
 have e6:=cJ h6
 have e7:=hM h7
 have e8:=fG h8
 cases h;omega
theorem VW(ts:List Tk)(a o:Nat):Sm (By ts a o) :=
 Sm.rb (Sm.exp ..) fun _ _ _ _=>Sm.rb (Sm.nm ..) fun _ _ _ _=>Sm.rb (Sm.tak ..) fun _ _ _ _=>Sm.rb (Sm.acc ..) fun _ _ _ _=>Sm.rb (Sm.acc ..) fun _ _ _ _=>Sm.rb (Sm.exp ..) fun _ _ _ _=>Sm.rb (Sm.tak ..) fun _ _ _ _=>Sm.rb (Sm.exp ..) fun _ _ _ _=>Sm.ret ..
theorem Vd{ts:List Tk}: ∀(f:Nat) {l:List Va} {a o:Nat} {v:List Va} {b p:Nat},vasM ts f l a o=some (.ok v b p)→p=o∧a≤b:=by
 intro f
 induction f with
 | zero=>intro l a o v b p h;cases h
 | succ f ih =>
  intro l a o v b p h;rw[vasM]at h;rcases aI h with ⟨hk,h⟩|⟨hk,h⟩
  ·obtain⟨_,a1,o1,h1,h⟩:=aN h
   have e1:=lQ h1;have e2:=ih h;omega
  ·cases h;omega
theorem Xu(ts:List Tk): ∀(f:Nat) (l:List Va) (a o:Nat),ts.length-a+2≤f→Sm (vasM ts f l a o):=by
 intro f
 induction f with
 | zero=>intro l a o h;omega
 | succ f ih =>
  intro l a o h;rw[vasM];refine Sm.ite (fun hk=>Sm.rb (Hl ts (by omega)) fun _ a1 o1 h1=>ih _ _ _ ?_) fun _=>Sm.ret ..
  have e1:=lQ h1;have:=bJ hk;omega
theorem yG{ts:List Tk}{f a o:Nat}{v:Fun}{b p:Nat}(h:funM ts f a o=some (.ok v b p)):p=o∧a<b∧b≤ts.length:=by
 obtain⟨_,a1,o1,h1,h⟩:=aN h
 obtain⟨_,a2,o2,h2,h⟩:=aN h
 obtain⟨_,a3,o3,h3,h⟩:=aN h
 obtain⟨_,a4,o4,h4,h⟩:=aN h
 obtain⟨_,a5,o5,h5,h⟩:=aN h
 obtain⟨_,a6,o6,h6,h⟩:=aN h
 have e1:=cJ h1
 have e2:=gM h2
 have e3:=cE h3
 have e4:=Vd _ h4
 have e5:=(fQ ts f).2.1 _ _ _ _ _ _ h5
 have e6:=uE h6
 cases h;omega
theorem Zz(ts:List Tk){f a o:Nat}(h:3*(ts.length-a)+3≤f):Sm (funM ts f a o):=by
 refine Sm.rb (Sm.exp ..) fun _ a1 o1 h1=>Sm.rb (Sm.nm ..) fun _ a2 o2 h2=>Sm.rb (Sm.beg ..) fun _ a3 o3 h3=> ?_
 have e1:=cJ h1
 have e2:=gM h2
 have e3:=cE h3
 refine Sm.rb (Xu ts _ _ _ _ (by omega)) fun _ a4 o4 h4=> ?_
 have e4:=Vd _ h4
 exact Sm.rb ((ED ts f).2.1 _ _ _ (by omega)) fun _ _ _ _=>Sm.rb (Sm.en ..) fun _ _ _ _=>Sm.ret ..
theorem Ho(ts:List Tk): ∀(f:Nat) (u:Un) (a o:Nat),3*(ts.length-a)+4≤f→Sm (uniM ts f u a o):=by
 intro f
 induction f with
 | zero=>intro u a o h;omega
 | succ f ih =>
  intro u a o h;rw[uniM];refine Sm.ite (fun _=>Sm.ret ..) fun hl=>Sm.ite (fun hk=> ?_) fun _=>Sm.ite (fun hk=> ?_) fun _=>Sm.ite (fun hk=> ?_) fun _=>nX _
  ·refine Sm.rb (Hl ts (by omega)) fun _ a1 o1 h1=>ih _ _ _ ?_
   have e1:=lQ h1;omega
  ·refine Sm.rb (VW ..) fun _ a1 o1 h1=>ih _ _ _ ?_
   have e1:=yL h1;omega
  ·refine Sm.rb (Zz ts (by omega)) fun _ a1 o1 h1=>ih _ _ _ ?_
   have e1:=yG h1;omega
theorem Sm.all{α:Type}{ts:List Tk}{r:Option (Rs α)}(h:Sm r):Sm (allM ts r):=Sm.rb h fun _ _ _ _=>Sm.ite (fun _=>nX _) fun _=>Sm.ret ..
section
variable {ts us:List Tk} (h:ts.map core=us.map core)
include h
theorem HZ:ts.length=us.length:=by simpa using congrArg List.length h
theorem Wp(a:Nat):core (pk ts a)=core (pk us a):=by
 have h1:=congrArg (fun l=>l[a]?) h
 simp only[List.getElem?_map]at h1
 unfold pk List.getD
 cases ha:ts[a]? with
 | none =>
  rw[ha]at h1;cases hb:us[a]? with
  | none=>rfl
  | some y=>rw[hb]at h1;cases h1
 | some x =>
  rw[ha]at h1;cases hb:us[a]? with
  | none=>rw[hb]at h1;cases h1
  | some y=>rw[hb]at h1;simpa using h1
theorem vQ(a:Nat):(pk ts a).kind=(pk us a).kind:=congrArg (·.1) (Wp h a)
theorem Cm(a:Nat):(pk ts a).text=(pk us a).text:=congrArg (·.2.1) (Wp h a)
theorem YC(a:Nat):(pk ts a).n=(pk us a).n:=congrArg (·.2.2) (Wp h a)
theorem mS(a:Nat)(s:Bs):sees ts a s=sees us a s:=by unfold sees;rw[vQ h,Cm h]
theorem YB(a:Nat):stR (pk ts a)=stR (pk us a):=by unfold stR;rw[vQ h,Cm h]
theorem Am(s:Bs)(a o:Nat):begM ts s a o=begM us s a o:=by unfold begM;rw[mS h]
theorem sC(s:Bs)(a o:Nat):expM ts s a o=expM us s a o:=by unfold expM;rw[mS h]
theorem Fp(s:Bs)(a o:Nat):endM ts s a o=endM us s a o:=by unfold endM;rw[mS h]
theorem UV(s:Bs)(a o:Nat):accM ts s a o=accM us s a o:=by unfold accM;rw[mS h]
theorem Fo{β:Type}(k:Int)(a o:Nat){g:Tk→Nat→Nat→Option (Rs β)}(hg: ∀t t' a o,core t=core t'→g t a o=g t' a o):rb (takM ts k a o) g=rb (takM us k a o) g:=by
 unfold takM
 rw[vQ h]
 by_cases hk:(pk us a).kind≠k
 ·rw[if_pos hk,if_pos hk]
  try rfl
 ·rw[if_neg hk,if_neg hk];exact hg _ _ _ _ (Wp h a)
theorem Pp(a o:Nat):nmM ts a o=nmM us a o:=Fo h _ _ _ fun t t' a o e=>by show ret _ _ _=ret _ _ _;rw[show t.text=t'.text from congrArg (·.2.1) e]
theorem IA: ∀f m a o,exM ts f m a o=exM us f m a o:=by
 intro f
 induction f with
 | zero=>intro m a o;cases m<;>rfl
 | succ f ih =>
  have hin: ∀q a o,inn ts (exM ts f (.ex 1)) q a o=inn us (exM us f (.ex 1)) q a o:=fun q a o=>by
   unfold inn;simp only[Am h,Fp h,ih]
  intro m a o;cases m with
  | op=>rw[exM,exM,vQ h,Cm h,YC h];simp only[hin,Am h,ih]
  | ex l=>rw[exM,exM];simp only[ih]
  | lo l x=>rw[exM,exM,YB h];simp only[ih]
theorem YA: ∀f m a o,tyM ts f m a o=tyM us f m a o:=by
 intro f
 induction f with
 | zero=>intro m a o;cases m<;>rfl
 | succ f ih =>
  intro m a o;cases m with
  | ty =>
   rw[tyM,tyM,vQ h,Cm h];simp only[mS h,Am h,ih]
   have e: ∀a o,(rb (takM ts 3 a o) fun n a o=>rb (expM ts [93] a o) fun _ a o=>rb (tyM us f .ty a o) fun x a o=>ret (Ty.mk 0 4 0 n.n [x] []) a (o-1))=(rb (takM us 3 a o) fun n a o=>rb (expM us [93] a o) fun _ a o=>rb (tyM us f .ty a o) fun x a o=>ret (Ty.mk 0 4 0 n.n [x] []) a (o-1)):=fun a o=>by
    simp only[sC h];exact Fo h _ _ _ fun t t' a o e=>by simp only[show t.n=t'.n from congrArg (·.2.2) e]
   simp only[e]
  | fl l =>
   rw[tyM,tyM];simp only[mS h,Fp h,sC h,ih]
   have e: ∀a o,(rb (takM ts 3 a o) fun n a o=>rb (expM us [58] a o) fun _ a o=>rb (tyM us f .ty a o) fun x a o=>tyM us f (.fl (l++[x.at_ n.n])) a o)=(rb (takM us 3 a o) fun n a o=>rb (expM us [58] a o) fun _ a o=>rb (tyM us f .ty a o) fun x a o=>tyM us f (.fl (l++[x.at_ n.n])) a o):=fun a o =>
    Fo h _ _ _ fun t t' a o e=>by simp only[show t.n=t'.n from congrArg (·.2.2) e]
   simp only[e]
theorem UO(f:Nat)(w:Int)(a o:Nat):lS ts f w a o=lS us f w a o:=by unfold lS;simp only[Am h,IA h,sC h,Fp h]
theorem UQ(k:Int)(a o:Nat):lT ts k a o=lT us k a o:=by unfold lT;simp only[sC h]
theorem UR(f:Nat)(a o:Nat):zZ ts f a o=zZ us f a o:=by unfold zZ;simp only[Pp h,mS h,sC h,IA h]
theorem UP: ∀f m a o,stM ts f m a o=stM us f m a o:=by
 intro f
 induction f with
 | zero=>intro m a o;cases m<;>rfl
 | succ f ih =>
  intro m a o;cases m<;>rw[stM,stM]<;>simp only[vQ h,YC h,mS h,Pp h,UR h,sC h,IA h,UO h,UQ h,Am h,Fp h,ih]
theorem HY(f a o:Nat):wN ts f a o=wN us f a o:=by unfold wN;simp only[Pp h,sC h,YA h]
theorem UT(a o:Nat):By ts a o=By us a o:=by
 unfold By
 simp only[Pp h,sC h,UV h]
 have e1: ∀a o n (d:Tk) w x,(rb (takM ts 4 a o) fun b a o=>rb (expM us [59] a o) fun _ a o=>ret (Sec.mk n d.n b.text w x) a o)=(rb (takM us 4 a o) fun b a o=>rb (expM us [59] a o) fun _ a o=>ret (Sec.mk n d.n b.text w x) a o):=fun a o n d w x =>
  Fo h _ _ _ fun t t' a o e=>by simp only[show t.text=t'.text from congrArg (·.2.1) e]
 simp only[e1]
 have e2: ∀a o n,(rb (takM ts 3 a o) fun d a o=>rb (accM us [119,114,105,116,101] a o) fun w a o=>rb (accM us [101,120,101,99] a o) fun x a o=>rb (expM us [61] a o) fun _ a o=>rb (takM us 4 a o) fun b a o=>rb (expM us [59] a o) fun _ a o=>ret (Sec.mk n d.n b.text w x) a o) =
   (rb (takM us 3 a o) fun d a o=>rb (accM us [119,114,105,116,101] a o) fun w a o=>rb (accM us [101,120,101,99] a o) fun x a o=>rb (expM us [61] a o) fun _ a o=>rb (takM us 4 a o) fun b a o=>rb (expM us [59] a o) fun _ a o=>ret (Sec.mk n d.n b.text w x) a o):=fun a o n =>
  Fo h _ _ _ fun t t' a o e=>by simp only[show t.n=t'.n from congrArg (·.2.2) e]
 simp only[e2]
theorem UM: ∀f l a o,vasM ts f l a o=vasM us f l a o:=by
 intro f
 induction f with
 | zero=>intro l a o;rfl
 | succ f ih=>intro l a o;rw[vasM,vasM];simp only[mS h,HY h,ih]
theorem US(f a o:Nat):funM ts f a o=funM us f a o:=by unfold funM;simp only[sC h,Pp h,Am h,UM h,UP h,Fp h]
theorem UN: ∀f u a o,uniM ts f u a o=uniM us f u a o:=by
 intro f
 induction f with
 | zero=>intro u a o;rfl
 | succ f ih=>intro u a o;rw[uniM,uniM];simp only[HZ h,mS h,HY h,UT h,US h,ih]
theorem UU{α:Type}(r:Option (Rs α)):allM ts r=allM us r:=by unfold allM;rw[HZ h]
end
end Go.Proofs.YtmbmmckagcdapaaGreatDoor
namespace Go.Proofs.YtmbmmckagcdapaaGreatDoor
def nxq(f:Int→Int)(n:Int):Int:=if 0≤n then f n else n
def lpf(rs:List (Int→Int→Int))(most n:Int):Int:=if 20<rs.length∨most<1 then -1 else pfold (fun r n=>r most n) rs n
def ndp:Nd→Int→Int→Int:=Nd.para fun t a b c most n=>if 4<t.e.length∨70<t.cs.length then -1 else
 pfold (fun r n=>lpf r (most-1) n) c (nxq (lpf b (most-1)) (nxq (lpf a (most-1)) (pfold (fun x n=>epa x 70 n) t.e (n-1))))
def lpa(l:List Nd)(most n:Int):Int:=if 20<l.length∨most<1 then -1 else pfold (fun t n=>ndp t most n) l n
theorem MO(l:List Nd):lpf (l.map ndp)=lpa l:=by
 funext most n
 unfold lpf lpa
 rw[List.length_map,vA]
theorem Es(t:Nd)(most n:Int):ndp t most n=if 4<t.e.length∨70<t.cs.length then -1 else
  pfold (fun c n=>lpa c (most-1) n) t.cs (nxq (lpa t.el (most-1)) (nxq (lpa t.l (most-1)) (pfold (fun x n=>epa x 70 n) t.e (n-1)))):=by
 obtain⟨k,w,nm,e,l,el,cs⟩:=t
 have h:ndp (.mk k w nm e l el cs) most n=_:=congrFun (congrFun (Nd.para_mk _ k w nm e l el cs) most) n
 refine h.trans ?_
 show(if 4<e.length∨70<cs.length then -1 else pfold (fun r n=>lpf r (most-1) n) (cs.map (List.map ndp)) (nxq (lpf (el.map ndp) (most-1)) (nxq (lpf (l.map ndp) (most-1)) (pfold (fun x n=>epa x 70 n) e (n-1)))))=_
 rw[vA]
 simp only[MO]
 rfl
theorem vC{f:Int→Int}(hf: ∀n,0≤n→ -1≤f n∧f n≤n){n:Int}(h: -1≤n): -1≤nxq f n∧nxq f n≤n:=by
 unfold nxq
 split
 ·rename_i h0;exact hf n h0
 ·omega
theorem tW{α:Type}{f:α→Int→Int}{l:List α}(h: ∀x∈l,∀n,0≤n→ -1≤f x n∧f x n≤n)(n:Int)(hn: -1≤n): -1≤pfold f l n∧pfold f l n≤n:=dQ h n hn
theorem kE: ∀(l:List Nd) (most n:Int),0≤n→ -1≤lpa l most n∧lpa l most n≤n:=by
 refine Nd.listInduct fun l ih=> ?_
 intro most n hn
 unfold lpa
 split
 ·omega
 refine tW (fun t ht n hn=> ?_) n (by omega)
 obtain⟨i1,i2,i3⟩:=ih t ht
 rw[Es]
 split
 ·omega
 have b1:=tW (f:=fun x n=>epa x 70 n) (l:=t.e) (fun x _ n hn=>oD x _ n hn) (n-1) (by omega)
 have b2:=vC (i1 (most-1)) b1.1
 have b3:=vC (i2 (most-1)) b2.1
 have b4:=tW (f:=fun c n=>lpa c (most-1) n) (l:=t.cs) (fun c hc n hn=>i3 c hc _ n hn) _ b3.1
 omega
theorem Il(t:Nd)(most n:Int)(hn:0≤n): -1≤ndp t most n∧ndp t most n≤n:=by
 rw[Es]
 split
 ·omega
 have b1:=tW (f:=fun x n=>epa x 70 n) (l:=t.e) (fun x _ n hn=>oD x _ n hn) (n-1) (by omega)
 have b2:=vC (kE t.l (most-1)) b1.1
 have b3:=vC (kE t.el (most-1)) b2.1
 have b4:=tW (f:=fun c n=>lpa c (most-1) n) (l:=t.cs) (fun c hc n hn=>kE c _ n hn) _ b3.1
 omega
def smF(f:Fun):Bool:=decide (f.vars.length≤300)&&(decide (0≤lpa f.body 70 5000)&&f.vars.all fun v=>smallT v.ty 70)
theorem uZ{α:Type}{f:α→Int→Int}{g:α→Nat}{C:Int}(hC:0≤C): ∀ {l:List α},(∀x∈l,∀n,0≤n→f x n≤n∧(0≤f x n→(g x:Int)≤C*(n-f x n)))→ ∀n,0≤n→0≤pfold f l n→(((l.map g).sum:Nat):Int)≤C*(n-pfold f l n)
 | [],_,n,hn,_=>by
  show((0:Nat):Int)≤C*(n-n)
  simp
 | x::l,h,n,hn,hp=>by
  have e:pfold f (x::l) n=pfold f l (f x n):=by unfold pfold;rw[List.foldl_cons,if_pos hn]
  rw[e]at hp ⊢
  have h0:0≤f x n:=Int.not_lt.1 fun hneg=>by
   rw[lB _ (by omega)]at hp
   omega
  have h1:=(h x (by simp) n hn).2 h0
  have h2:=uZ hC (l:=l) (fun y hy=>h y (by simp[hy])) (f x n) h0 hp
  rw[List.map_cons,List.sum_cons];have e2:C*(n-pfold f l (f x n))=C*(n-f x n)+C*(f x n-pfold f l (f x n)):=by rw[←Int.mul_add];congr 1;omega
  rw[e2];omega
end Go.Proofs.YtmbmmckagcdapaaGreatDoor
