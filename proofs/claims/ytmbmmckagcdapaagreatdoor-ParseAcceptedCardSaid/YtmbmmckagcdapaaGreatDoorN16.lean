import Derived.Test.YtmbmmckagcdapaaGreatDoorN12
import Derived.Test.YtmbmmckagcdapaaGreatDoorN13
set_option linter.all false
namespace Go.Proofs.YtmbmmckagcdapaaGreatDoor
def Sm{α:Type}(r:Option (Rs α)):Prop:= ∃z,r=some z
theorem Sm.rb{α β:Type}{r:Option (Rs α)}{k:α→Nat→Nat→Option (Rs β)}(h:Sm r)(hk: ∀x a o,r=some (.ok x a o)→Sm (k x a o)):Sm (rb r k):=by
 obtain⟨z,rfl⟩:=h
 cases z with
 | ok x a o=>exact hk x a o rfl
 | bad b e=>exact⟨_,rfl⟩
theorem Sm.ite{α:Type}{c:Prop}[Decidable c]{x y:Option (Rs α)}(hx:c→Sm x)(hy: ¬c→Sm y):Sm (if c then x else y):=by
 by_cases h:c
 ·rw[if_pos h];exact hx h
 ·rw[if_neg h];exact hy h
theorem nF{α:Type}(z:Rs α):Sm (some z):=⟨z,rfl⟩
theorem Sm.ret{α:Type}(x:α)(a o:Nat):Sm (ret x a o):=⟨_,rfl⟩
theorem Sm.beg(ts:List Tk)(s:Bs)(a o:Nat):Sm (begM ts s a o):=⟨_,rfl⟩
theorem Sm.exp(ts:List Tk)(s:Bs)(a o:Nat):Sm (expM ts s a o):=⟨_,rfl⟩
theorem Sm.en(ts:List Tk)(s:Bs)(a o:Nat):Sm (endM ts s a o):=⟨_,rfl⟩
theorem Sm.tak(ts:List Tk)(k:Int)(a o:Nat):Sm (takM ts k a o):=⟨_,rfl⟩
theorem Sm.nm(ts:List Tk)(a o:Nat):Sm (nmM ts a o):=Sm.rb (Sm.tak ..) fun _ _ _ _=>Sm.ret ..
theorem CX{ts:List Tk}{a:Nat}(h: ¬(stR (pk ts a)).2=0):a<ts.length:=by
 refine dZ (k:=5) ?_ (by decide)
 unfold stR at h
 split at h
 ·assumption
 ·exact absurd rfl h
theorem Hx{ts:List Tk}{f a o:Nat}{x:Ex}{b p:Nat}(h:exM ts f .op a o=some (.ok x b p)):a<b∧a<ts.length:=by
 cases f with
 | zero=>cases h
 | succ f =>
 have inn_lt: ∀(q:Ex→Ex) a o,inn ts (exM ts f (.ex 1)) q a o=some (.ok x b p)→a<b:=by
  intro q a o h;obtain⟨_,a1,o1,h1,h⟩:=aG h;obtain⟨y,a2,o2,h2,h⟩:=aG h;obtain⟨_,a3,o3,h3,h⟩:=aG h;cases h
  have e1:=bO h1;have e2:=dM _ _ _ _ _ _ _ _ h2;have e3:=iQ h3;omega
 rw[exM]at h
 rcases aF h with ⟨hk,h⟩|⟨_,h⟩
 ·have:=dZ hk (by decide)
  cases h;omega
 rcases aF h with ⟨hk,h⟩|⟨_,h⟩
 ·have:=dZ hk (by decide)
  cases h;omega
 rcases aF h with ⟨hk,h⟩|⟨_,h⟩
 ·have:=dZ hk (by decide)
  split at h
  ·have:=inn_lt _ _ _ h;omega
  ·cases h
 rcases aF h with ⟨hk,h⟩|⟨_,h⟩
 ·have:=dZ hk (by decide)
  rcases aF h with ⟨_,h⟩|⟨_,h⟩
  ·have:=inn_lt _ _ _ h;omega
  rcases aF h with ⟨_,h⟩|⟨_,h⟩
  ·obtain⟨_,a1,o1,h1,h⟩:=aG h
   obtain⟨y,a2,o2,h2,h⟩:=aG h;cases h
   have e1:=bO h1;have e2:=dM _ _ _ _ _ _ _ _ h2;omega
  ·cases h
 ·cases h
theorem zO{ts:List Tk}{f l a o:Nat}{x:Ex}{b p:Nat}(h:exM ts f (.ex l) a o=some (.ok x b p)):a<b∧a<ts.length:=by
 cases f with
 | zero=>cases h
 | succ f =>
 rw[exM]at h
 obtain⟨y,a1,o1,h1,h⟩:=aG h
 have e1:=Hx h1
 have e2:=dM _ _ _ _ _ _ _ _ h
 omega
theorem Oc(ts:List Tk): ∀f,(∀a o,3*(ts.length-a)+1≤f→Sm (exM ts f .op a o))∧(∀l a o,3*(ts.length-a)+2≤f→Sm (exM ts f (.ex l) a o))∧(∀l x a o,3*(ts.length-a)+1≤f→Sm (exM ts f (.lo l x) a o)):=by
 intro f
 induction f with
 | zero=>exact⟨(fun a o h=>by omega),(fun l a o h=>by omega),(fun l x a o h=>by omega)⟩
 | succ f ih =>
  obtain⟨i1,i2,i3⟩:=ih
  have hin: ∀q a o,a<ts.length→3*(ts.length-a)≤f→Sm (inn ts (exM ts f (.ex 1)) q a o):=fun q a o ha h=>by
   refine Sm.rb (Sm.beg ..) fun _ a1 o1 h1=>Sm.rb ?_ fun _ _ _ _=>Sm.rb (Sm.en ..) fun _ _ _ _=>Sm.ret ..
   have:=bO h1;exact i2 _ _ _ (by omega)
  refine⟨fun a o h=> ?_,fun l a o h=> ?_,fun l x a o h=> ?_⟩
  ·rw[exM]
   refine Sm.ite (fun _=>Sm.ret ..) fun _=>Sm.ite (fun _=>Sm.ret ..) fun _=>Sm.ite (fun hk=> ?_) fun _=>Sm.ite (fun hk=> ?_) fun _=>nF _
   ·have hl:=dZ hk (by decide)
    cases accW (pk ts a).text with
    | none=>exact nF _
    | some p =>
     by_cases hl2:a+1<ts.length
     ·exact hin _ _ _ hl2 (by omega)
     ·refine Sm.rb (Sm.beg ..) fun _ a1 o1 h1=> ?_
      have:=bI (bO h1).1;omega
   ·have hl:=dZ hk (by decide)
    refine Sm.ite (fun _=>hin _ _ _ hl (by omega)) fun _=>Sm.ite (fun _=> ?_) fun _=>nF _
    refine Sm.rb (Sm.beg ..) fun _ a1 o1 h1=>Sm.rb ?_ fun _ _ _ _=>Sm.ret ..
    have:=bO h1;exact i1 _ _ (by omega)
  ·rw[exM]
   refine Sm.rb (i1 _ _ (by omega)) fun x b p h1=>i3 _ _ _ _ ?_
   have:=Hx h1;omega
  ·rw[exM]
   refine Sm.ite (fun _=>Sm.ret ..) fun hk=> ?_
   have hl:=CX (ts:=ts) (a:=a) (fun e=>hk (.inl e))
   refine Sm.rb (i2 _ _ _ (by omega)) fun y b p h1=>i3 _ _ _ _ ?_
   have:=zO h1;omega
theorem BR(ts:List Tk): ∀f,(∀a o,ts.length-a+1≤f→Sm (tyM ts f .ty a o))∧(∀l a o,ts.length-a+1≤f→Sm (tyM ts f (.fl l) a o)):=by
 intro f
 induction f with
 | zero=>exact⟨(fun a o h=>by omega),(fun l a o h=>by omega)⟩
 | succ f ih =>
  obtain⟨i1,i2⟩:=ih;refine⟨fun a o h=> ?_,fun l a o h=> ?_⟩
  ·rw[tyM]
   refine Sm.ite (fun _=> ?_) fun _=>Sm.ite (fun _=>Sm.ret ..) fun _=>Sm.ite (fun hk=> ?_) fun _=>Sm.ite (fun hk=> ?_) fun _=>Sm.ite (fun hk=> ?_) fun _=>nF _
   ·cases intR (pk ts a).text with
    | none=>exact nF _
    | some p=>exact Sm.ret ..
   ·have hl:=bI hk
    refine Sm.rb (Sm.beg ..) fun _ a1 o1 h1=>Sm.rb (i1 _ _ ?_) fun _ _ _ _=>Sm.ret ..
    have:=bO h1;omega
   ·have hl:=bI hk
    refine Sm.rb (Sm.beg ..) fun _ a1 o1 h1=>Sm.rb (Sm.tak ..) fun _ a2 o2 h2=>Sm.rb (Sm.exp ..) fun _ a3 o3 h3=>Sm.rb (i1 _ _ ?_) fun _ _ _ _=>Sm.ret ..
    have:=bO h1;have:=eY h2;have:=bH h3;omega
   ·have hl:=bI hk
    refine Sm.rb (Sm.beg ..) fun _ a1 o1 h1=>i2 _ _ _ ?_
    have:=bO h1;omega
  ·rw[tyM]
   refine Sm.ite (fun _=>Sm.rb (Sm.en ..) fun _ _ _ _=>Sm.ret ..) fun _=>Sm.rb (Sm.ite (fun _=>Sm.exp ..) fun _=>Sm.ret ..) fun _ a1 o1 h1=>Sm.rb (Sm.tak ..) fun _ a2 o2 h2=>Sm.rb (Sm.exp ..) fun _ a3 o3 h3=> ?_
   have e1:a≤a1:=by
    rcases aF h1 with ⟨_,h1⟩|⟨_,h1⟩
    ·have:=bH h1;omega
    ·cases h1;omega
   have e2:=eY h2;have e3:=bH h3;have e4:=dZ e2.1 (by decide)
   refine Sm.rb (i1 _ _ (by omega)) fun _ a5 o5 h5=>i2 _ _ _ ?_
   have:=(kA ts f).1 _ _ _ _ _ h5;omega
theorem CY(ts:List Tk): ∀f,(∀a o,3*(ts.length-a)+2≤f→Sm (stM ts f .st a o))∧(∀l a o,3*(ts.length-a)+3≤f→Sm (stM ts f (.li l) a o))∧(∀a o,3*(ts.length-a)+3≤f→Sm (stM ts f .br a o))∧(∀c a o,3*(ts.length-a)+3≤f→Sm (stM ts f (.ca c) a o)):=by
 intro f
 induction f with
 | zero=>exact⟨(fun a o h=>by omega),(fun l a o h=>by omega),(fun a o h=>by omega),(fun c a o h=>by omega)⟩
 | succ f ih =>
  obtain⟨i1,i2,i3,i4⟩:=ih;have ex: ∀l a o,3*(ts.length-a)+2≤f→Sm (exM ts f (.ex l) a o):=fun l a o h=>(Oc ts f).2.1 l a o h
  refine⟨fun a o h=> ?_,fun l a o h=> ?_,fun a o h=> ?_,fun c a o h=> ?_⟩
  ·rw[stM]
   have sto: ∀w,a<ts.length→Sm (kR ts f w (a+1) o):=fun w ha=>by
    refine Sm.rb (Sm.beg ..) fun _ a1 o1 h1=> ?_
    have e1:=bO h1;have:=bI e1.1;refine Sm.rb (ex _ _ _ (by omega)) fun _ a2 o2 h2=>Sm.rb (Sm.exp ..) fun _ a3 o3 h3=> ?_
    have e2:=zO h2;have e3:=bH h3;refine Sm.rb (ex _ _ _ (by omega)) fun _ a4 o4 h4=>Sm.rb (Sm.en ..) fun _ a5 o5 h5=>Sm.rb (Sm.exp ..) fun _ a6 o6 h6=>Sm.ret ..
   have sim: ∀k a o,Sm (kS ts k a o):=fun k a o=>Sm.rb (Sm.exp ..) fun _ _ _ _=>Sm.ret ..
   refine Sm.ite (fun hk=> ?_) fun _=>Sm.ite (fun _=>Sm.rb (Sm.nm ..) fun _ _ _ _=>Sm.rb (Sm.exp ..) fun _ _ _ _=>Sm.ret ..) fun _=>Sm.ite (fun _=>Sm.rb (Sm.nm ..) fun _ _ _ _=>Sm.rb (Sm.exp ..) fun _ _ _ _=>Sm.ret ..) fun _ =>
    Sm.ite (fun hk=>sto _ (bI hk)) fun _=>Sm.ite (fun hk=>sto _ (bI hk)) fun _=>Sm.ite (fun hk=>sto _ (bI hk)) fun _=>Sm.ite (fun hk=> ?_) fun _=>Sm.ite (fun hk=> ?_) fun _=>Sm.ite (fun hk=> ?_) fun _=>Sm.ite (fun hk=> ?_) fun _=>Sm.ite (fun hk=> ?_) fun _ =>
    Sm.ite (fun _=>sim ..) fun _=>Sm.ite (fun _=>sim ..) fun _=>Sm.ite (fun _=>sim ..) fun _=>Sm.ite (fun _=>sim ..) fun _=>nF _
   ·have hl:=dZ hk (by decide)
    refine Sm.rb (Sm.nm ..) fun _ a1 o1 h1=>Sm.ite (fun _=>Sm.ret ..) fun _=>Sm.rb (Sm.exp ..) fun _ a2 o2 h2=>Sm.ite (fun _=>Sm.rb (Sm.exp ..) fun _ _ _ _=>Sm.ret ..) fun _=> ?_
    have e1:=eQ h1;have e2:=bH h2;have:=bI e2.1;exact Sm.rb (ex _ _ _ (by omega)) fun _ _ _ _=>Sm.rb (Sm.exp ..) fun _ _ _ _=>Sm.ret ..
   ·have hl:=bI hk
    exact Sm.rb (ex _ _ _ (by omega)) fun _ _ _ _=>Sm.rb (Sm.exp ..) fun _ _ _ _=>Sm.ret ..
   ·have hl:=bI hk
    refine Sm.rb (ex _ _ _ (by omega)) fun _ a1 o1 h1=> ?_
    have e1:=zO h1;refine Sm.rb (i3 _ _ (by omega)) fun _ a2 o2 h2=>Sm.ite (fun _=> ?_) fun _=>Sm.ret ..
    have e2:=(fN ts f).2.2.1 _ _ _ _ _ h2;exact Sm.rb (i3 _ _ (by omega)) fun _ _ _ _=>Sm.ret ..
   ·have hl:=bI hk
    refine Sm.rb (ex _ _ _ (by omega)) fun _ a1 o1 h1=> ?_
    have e1:=zO h1;exact Sm.rb (i3 _ _ (by omega)) fun _ a2 o2 h2=>Sm.ret ..
   ·have hl:=bI hk
    exact Sm.rb (i3 _ _ (by omega)) fun _ a2 o2 h2=>Sm.ret ..
   ·have hl:=bI hk
    refine Sm.rb (ex _ _ _ (by omega)) fun _ a1 o1 h1=>Sm.rb (Sm.beg ..) fun _ a2 o2 h2=> ?_
    have e1:=zO h1;have e2:=bO h2;exact Sm.rb (i4 _ _ _ (by omega)) fun _ _ _ _=>Sm.ret ..
  ·rw[stM]
   refine Sm.ite (fun _=>Sm.ret ..) fun _=>Sm.rb (i1 _ _ (by omega)) fun _ a1 o1 h1=> ?_
   have e1:=(fN ts f).1 _ _ _ _ _ h1;exact i2 _ _ _ (by omega)
  ·rw[stM]
   refine Sm.rb (Sm.beg ..) fun _ a1 o1 h1=> ?_
   have e1:=bO h1;have:=bI e1.1;exact Sm.rb (i2 _ _ _ (by omega)) fun _ _ _ _=>Sm.rb (Sm.en ..) fun _ _ _ _=>Sm.ret ..
  ·rw[stM]
   refine Sm.ite (fun hk=>Sm.ite (fun hn=> ?_) fun _=>nF _) fun _=>Sm.rb (Sm.en ..) fun _ _ _ _=>Sm.ret ..
   have hl:=bI hk;refine Sm.rb (i3 _ _ (by omega)) fun _ a1 o1 h1=> ?_
   have e1:=(fN ts f).2.2.1 _ _ _ _ _ h1;exact i4 _ _ _ (by omega)
theorem kX{ts:List Tk}{f a o:Nat}{v:Va}{b p:Nat}(h:vM ts f a o=some (.ok v b p)):p=o∧a<b∧b≤ts.length:=by
 obtain⟨_,a1,o1,h1,h⟩:=aG h
 obtain⟨_,a2,o2,h2,h⟩:=aG h
 obtain⟨_,a3,o3,h3,h⟩:=aG h
 obtain⟨_,a4,o4,h4,h⟩:=aG h
 obtain⟨_,a5,o5,h5,h⟩:=aG h
 have e1:=bH h1
 have e2:=eQ h2
 have e3:=bH h3
 have e4:=(kA ts f).1 _ _ _ _ _ h4
 have e5:=fC h5
 cases h;omega
theorem Gm(ts:List Tk){f a o:Nat}(h:ts.length-a+1≤f):Sm (vM ts f a o):=by
 refine Sm.rb (Sm.exp ..) fun _ a1 o1 h1=>Sm.rb (Sm.nm ..) fun _ a2 o2 h2=>Sm.rb (Sm.exp ..) fun _ a3 o3 h3=>Sm.rb ((BR ts f).1 _ _ ?_) fun _ _ _ _=>Sm.rb (Sm.exp ..) fun _ _ _ _=>Sm.ret ..
 have e1:=bH h1
 have e2:=eQ h2
 have e3:=bH h3
 omega
theorem Br{ts:List Tk}{s:Bs}{a o:Nat}{w:Bool}{b p:Nat}(h:accM ts s a o=some (.ok w b p)):p=o∧a≤b∧w=sees ts a s∧b=(if sees ts a s=true then a+1 else a):=by
 rcases aF h with ⟨hk,h⟩|⟨hk,h⟩
 ·cases h;rw[hk,if_pos rfl];exact⟨rfl,by omega,rfl,rfl⟩
 ·cases h;rw[if_neg hk];exact⟨rfl,by omega,by simpa using hk,rfl⟩
theorem Sm.acc(ts:List Tk)(s:Bs)(a o:Nat):Sm (accM ts s a o):=Sm.ite (fun _=>Sm.ret ..) fun _=>Sm.ret ..
theorem xU{ts:List Tk}{a o:Nat}{v:Sec}{b p:Nat}(h:wC ts a o=some (.ok v b p)):p=o∧a<b∧b≤ts.length:=by
 obtain⟨_,a1,o1,h1,h⟩:=aG h
 obtain⟨_,a2,o2,h2,h⟩:=aG h
 obtain⟨_,a3,o3,h3,h⟩:=aG h
 obtain⟨_,a4,o4,h4,h⟩:=aG h
 obtain⟨_,a5,o5,h5,h⟩:=aG h
 obtain⟨_,a6,o6,h6,h⟩:=aG h
 obtain⟨_,a7,o7,h7,h⟩:=aG h
 obtain⟨_,a8,o8,h8,h⟩:=aG h
 have e1:=bH h1
 have e2:=eQ h2
 have e3:=eY h3
 have e4:=Br h4
 have e5:=Br h5
 have e6:=bH h6
 have e7:=eY h7
 have e8:=fC h8
 cases h;omega
theorem UE(ts:List Tk)(a o:Nat):Sm (wC ts a o) :=
 Sm.rb (Sm.exp ..) fun _ _ _ _=>Sm.rb (Sm.nm ..) fun _ _ _ _=>Sm.rb (Sm.tak ..) fun _ _ _ _=>Sm.rb (Sm.acc ..) fun _ _ _ _=>Sm.rb (Sm.acc ..) fun _ _ _ _=>Sm.rb (Sm.exp ..) fun _ _ _ _=>Sm.rb (Sm.tak ..) fun _ _ _ _=>Sm.rb (Sm.exp ..) fun _ _ _ _=>Sm.ret ..
theorem Ts{ts:List Tk}: ∀(f:Nat) {l:List Va} {a o:Nat} {v:List Va} {b p:Nat},vasM ts f l a o=some (.ok v b p)→p=o∧a≤b:=by
 intro f
 induction f with
 | zero=>intro l a o v b p h;cases h
 | succ f ih =>
  intro l a o v b p h;rw[vasM]at h;rcases aF h with ⟨hk,h⟩|⟨hk,h⟩
  ·obtain⟨_,a1,o1,h1,h⟩:=aG h
   have e1:=kX h1;have e2:=ih h;omega
  ·cases h;omega
theorem Wl(ts:List Tk): ∀(f:Nat) (l:List Va) (a o:Nat),ts.length-a+2≤f→Sm (vasM ts f l a o):=by
 intro f
 induction f with
 | zero=>intro l a o h;omega
 | succ f ih =>
  intro l a o h;rw[vasM];refine Sm.ite (fun hk=>Sm.rb (Gm ts (by omega)) fun _ a1 o1 h1=>ih _ _ _ ?_) fun _=>Sm.ret ..
  have e1:=kX h1;have:=bI hk;omega
theorem xQ{ts:List Tk}{f a o:Nat}{v:Fun}{b p:Nat}(h:funM ts f a o=some (.ok v b p)):p=o∧a<b∧b≤ts.length:=by
 obtain⟨_,a1,o1,h1,h⟩:=aG h
 obtain⟨_,a2,o2,h2,h⟩:=aG h
 obtain⟨_,a3,o3,h3,h⟩:=aG h
 obtain⟨_,a4,o4,h4,h⟩:=aG h
 obtain⟨_,a5,o5,h5,h⟩:=aG h
 obtain⟨_,a6,o6,h6,h⟩:=aG h
 have e1:=bH h1
 have e2:=eQ h2
 have e3:=bO h3
 have e4:=Ts _ h4
 have e5:=(fN ts f).2.1 _ _ _ _ _ _ h5
 have e6:=tM h6
 cases h;omega
theorem Ys(ts:List Tk){f a o:Nat}(h:3*(ts.length-a)+3≤f):Sm (funM ts f a o):=by
 refine Sm.rb (Sm.exp ..) fun _ a1 o1 h1=>Sm.rb (Sm.nm ..) fun _ a2 o2 h2=>Sm.rb (Sm.beg ..) fun _ a3 o3 h3=> ?_
 have e1:=bH h1
 have e2:=eQ h2
 have e3:=bO h3
 refine Sm.rb (Wl ts _ _ _ _ (by omega)) fun _ a4 o4 h4=> ?_
 have e4:=Ts _ h4
 exact Sm.rb ((CY ts f).2.1 _ _ _ (by omega)) fun _ _ _ _=>Sm.rb (Sm.en ..) fun _ _ _ _=>Sm.ret ..
theorem Gq(ts:List Tk): ∀(f:Nat) (u:Un) (a o:Nat),3*(ts.length-a)+4≤f→Sm (uniM ts f u a o):=by
 intro f
 induction f with
 | zero=>intro u a o h;omega
 | succ f ih =>
  intro u a o h;rw[uniM];refine Sm.ite (fun _=>Sm.ret ..) fun hl=>Sm.ite (fun hk=> ?_) fun _=>Sm.ite (fun hk=> ?_) fun _=>Sm.ite (fun hk=> ?_) fun _=>nF _
  ·refine Sm.rb (Gm ts (by omega)) fun _ a1 o1 h1=>ih _ _ _ ?_
   have e1:=kX h1;omega
  ·refine Sm.rb (UE ..) fun _ a1 o1 h1=>ih _ _ _ ?_
   have e1:=xU h1;omega
  ·refine Sm.rb (Ys ts (by omega)) fun _ a1 o1 h1=>ih _ _ _ ?_
   have e1:=xQ h1;omega
theorem Sm.all{α:Type}{ts:List Tk}{r:Option (Rs α)}(h:Sm r):Sm (allM ts r):=Sm.rb h fun _ _ _ _=>Sm.ite (fun _=>nF _) fun _=>Sm.ret ..
section
variable {ts us:List Tk} (h:ts.map core=us.map core)
include h
theorem GS:ts.length=us.length:=by simpa using congrArg List.length h
theorem Vg(a:Nat):core (pk ts a)=core (pk us a):=by
 have h1:=congrArg (fun l=>l[a]?) h
 simp only[List.getElem?_map]at h1
 unfold pk List.getD
 cases ha:ts[a]? with
 | none =>
  rw[ha]at h1;cases hb:us[a]? with
  | none=>rfl
  | some y=>rw[hb]at h1;cases h1
 | some x =>
  rw[ha]at h1;cases hb:us[a]? with
  | none=>rw[hb]at h1;cases h1
  | some y=>rw[hb]at h1;simpa using h1
theorem uQ(a:Nat):(pk ts a).kind=(pk us a).kind:=congrArg (·.1) (Vg h a)
theorem Bo(a:Nat):(pk ts a).text=(pk us a).text:=congrArg (·.2.1) (Vg h a)
theorem WC(a:Nat):(pk ts a).n=(pk us a).n:=congrArg (·.2.2) (Vg h a)
theorem mI(a:Nat)(s:Bs):sees ts a s=sees us a s:=by unfold sees;rw[uQ h,Bo h]
theorem WB(a:Nat):stR (pk ts a)=stR (pk us a):=by unfold stR;rw[uQ h,Bo h]
theorem zT(s:Bs)(a o:Nat):begM ts s a o=begM us s a o:=by unfold begM;rw[mI h]
theorem rI(s:Bs)(a o:Nat):expM ts s a o=expM us s a o:=by unfold expM;rw[mI h]
theorem Em(s:Bs)(a o:Nat):endM ts s a o=endM us s a o:=by unfold endM;rw[mI h]
theorem TC(s:Bs)(a o:Nat):accM ts s a o=accM us s a o:=by unfold accM;rw[mI h]
theorem El{β:Type}(k:Int)(a o:Nat){g:Tk→Nat→Nat→Option (Rs β)}(hg: ∀t t' a o,core t=core t'→g t a o=g t' a o):rb (takM ts k a o) g=rb (takM us k a o) g:=by
 unfold takM
 rw[uQ h]
 by_cases hk:(pk us a).kind≠k
 ·rw[if_pos hk,if_pos hk]
  try rfl
 ·rw[if_neg hk,if_neg hk];exact hg _ _ _ _ (Vg h a)
theorem On(a o:Nat):nmM ts a o=nmM us a o:=El h _ _ _ fun t t' a o e=>by show ret _ _ _=ret _ _ _;rw[show t.text=t'.text from congrArg (·.2.1) e]
theorem GT: ∀f m a o,exM ts f m a o=exM us f m a o:=by
 intro f
 induction f with
 | zero=>intro m a o;cases m<;>rfl
 | succ f ih =>
  have hin: ∀q a o,inn ts (exM ts f (.ex 1)) q a o=inn us (exM us f (.ex 1)) q a o:=fun q a o=>by
   unfold inn;simp only[zT h,Em h,ih]
  intro m a o;cases m with
  | op=>rw[exM,exM,uQ h,Bo h,WC h];simp only[hin,zT h,ih]
  | ex l=>rw[exM,exM];simp only[ih]
  | lo l x=>rw[exM,exM,WB h];simp only[ih]
theorem WA: ∀f m a o,tyM ts f m a o=tyM us f m a o:=by
 intro f
 induction f with
 | zero=>intro m a o;cases m<;>rfl
 | succ f ih =>
  intro m a o;cases m with
  | ty =>
   rw[tyM,tyM,uQ h,Bo h];simp only[mI h,zT h,ih]
   have e: ∀a o,(rb (takM ts 3 a o) fun n a o=>rb (expM ts [93] a o) fun _ a o=>rb (tyM us f .ty a o) fun x a o=>ret (Ty.mk 0 4 0 n.n [x] []) a (o-1))=(rb (takM us 3 a o) fun n a o=>rb (expM us [93] a o) fun _ a o=>rb (tyM us f .ty a o) fun x a o=>ret (Ty.mk 0 4 0 n.n [x] []) a (o-1)):=fun a o=>by
    simp only[rI h];exact El h _ _ _ fun t t' a o e=>by simp only[show t.n=t'.n from congrArg (·.2.2) e]
   simp only[e]
  | fl l =>
   rw[tyM,tyM];simp only[mI h,Em h,rI h,ih]
   have e: ∀a o,(rb (takM ts 3 a o) fun n a o=>rb (expM us [58] a o) fun _ a o=>rb (tyM us f .ty a o) fun x a o=>tyM us f (.fl (l++[x.at_ n.n])) a o)=(rb (takM us 3 a o) fun n a o=>rb (expM us [58] a o) fun _ a o=>rb (tyM us f .ty a o) fun x a o=>tyM us f (.fl (l++[x.at_ n.n])) a o):=fun a o =>
    El h _ _ _ fun t t' a o e=>by simp only[show t.n=t'.n from congrArg (·.2.2) e]
   simp only[e]
theorem SV(f:Nat)(w:Int)(a o:Nat):kR ts f w a o=kR us f w a o:=by unfold kR;simp only[zT h,GT h,rI h,Em h]
theorem SX(k:Int)(a o:Nat):kS ts k a o=kS us k a o:=by unfold kS;simp only[rI h]
theorem SY(f:Nat)(a o:Nat):zF ts f a o=zF us f a o:=by unfold zF;simp only[On h,mI h,rI h,GT h]
theorem SW: ∀f m a o,stM ts f m a o=stM us f m a o:=by
 intro f
 induction f with
 | zero=>intro m a o;cases m<;>rfl
 | succ f ih =>
  intro m a o;cases m<;>rw[stM,stM]<;>simp only[uQ h,WC h,mI h,On h,SY h,rI h,GT h,SV h,SX h,zT h,Em h,ih]
theorem GR(f a o:Nat):vM ts f a o=vM us f a o:=by unfold vM;simp only[On h,rI h,WA h]
theorem TA(a o:Nat):wC ts a o=wC us a o:=by
 unfold wC
 simp only[On h,rI h,TC h]
 have e1: ∀a o n (d:Tk) w x,(rb (takM ts 4 a o) fun b a o=>rb (expM us [59] a o) fun _ a o=>ret (Sec.mk n d.n b.text w x) a o)=(rb (takM us 4 a o) fun b a o=>rb (expM us [59] a o) fun _ a o=>ret (Sec.mk n d.n b.text w x) a o):=fun a o n d w x =>
  El h _ _ _ fun t t' a o e=>by simp only[show t.text=t'.text from congrArg (·.2.1) e]
 simp only[e1]
 have e2: ∀a o n,(rb (takM ts 3 a o) fun d a o=>rb (accM us [119,114,105,116,101] a o) fun w a o=>rb (accM us [101,120,101,99] a o) fun x a o=>rb (expM us [61] a o) fun _ a o=>rb (takM us 4 a o) fun b a o=>rb (expM us [59] a o) fun _ a o=>ret (Sec.mk n d.n b.text w x) a o) =
   (rb (takM us 3 a o) fun d a o=>rb (accM us [119,114,105,116,101] a o) fun w a o=>rb (accM us [101,120,101,99] a o) fun x a o=>rb (expM us [61] a o) fun _ a o=>rb (takM us 4 a o) fun b a o=>rb (expM us [59] a o) fun _ a o=>ret (Sec.mk n d.n b.text w x) a o):=fun a o n =>
  El h _ _ _ fun t t' a o e=>by simp only[show t.n=t'.n from congrArg (·.2.2) e]
 simp only[e2]
theorem ST: ∀f l a o,vasM ts f l a o=vasM us f l a o:=by
 intro f
 induction f with
 | zero=>intro l a o;rfl
 | succ f ih=>intro l a o;rw[vasM,vasM];simp only[mI h,GR h,ih]
theorem SZ(f a o:Nat):funM ts f a o=funM us f a o:=by unfold funM;simp only[rI h,On h,zT h,ST h,SW h,Em h]
theorem SU: ∀f u a o,uniM ts f u a o=uniM us f u a o:=by
 intro f
 induction f with
 | zero=>intro u a o;rfl
 | succ f ih=>intro u a o;rw[uniM,uniM];simp only[GS h,mI h,GR h,TA h,SZ h,ih]
theorem TB{α:Type}(r:Option (Rs α)):allM ts r=allM us r:=by unfold allM;rw[GS h]
end
end Go.Proofs.YtmbmmckagcdapaaGreatDoor
namespace Go.Proofs.YtmbmmckagcdapaaGreatDoor
end Go.Proofs.YtmbmmckagcdapaaGreatDoor
