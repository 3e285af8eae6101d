import Derived.Test.YtmbmmckagcdapaaGreatDoorU09
import Derived.Test.YtmbmmckagcdapaaGreatDoorU02
import Derived.Lib.Repeat
import Derived.Lib.ItoaNum
set_option linter.all false
namespace Go.Proofs.YtmbmmckagcdapaaGreatDoor
def strA(b:Bs):ByteArray:=⟨b.toArray⟩
def nd0:Nd:= .mk 0 0 ByteArray.empty [] [] [] []
def nmM(ts:List Tk)(a o:Nat):Option (Rs ByteArray):=rb (takM ts 1 a o) fun t a o=>ret (strA t.text) a o
inductive Md6 where
 | st
 | li (l:List Nd)
 | br
 | ca (l:List (List Nd))
def oneS(s:Nd):List (List Nd):=[[s]]
def theS(x:List (List Nd)):Nd:=(x.headD []).headD nd0
def storM(ts:List Tk)(f:Nat)(w:Int)(a o:Nat):Option (Rs (List (List Nd))) :=
 rb (begM ts [40] a o) fun _ a o=>rb (exM ts f (.ex 1) a o) fun x a o=>rb (expM ts [44] a o) fun _ a o=>rb (exM ts f (.ex 1) a o) fun y a o=>rb (endM ts [41] a o) fun _ a o=>rb (expM ts [59] a o) fun _ a o =>
  ret (oneS (.mk 2 w ByteArray.empty [x,y] [] [] [])) a o
def pK(ts:List Tk)(k:Int)(a o:Nat):Option (Rs (List (List Nd))):=rb (expM ts [59] a o) fun _ a o=>ret (oneS (.mk k 0 ByteArray.empty [] [] [] [])) a o
def Ky(ts:List Tk)(f:Nat)(a o:Nat):Option (Rs (List (List Nd))) :=
 rb (nmM ts a o) fun n a o=>if sees ts a [58]=true then ret (oneS (.mk 13 0 n [] [] [] [])) (a+1) o
  else rb (expM ts [61] a o) fun _ a o=>if sees ts a [105,110]=true then rb (expM ts [59] (a+1) o) fun _ a o=>ret (oneS (.mk 3 0 n [] [] [] [])) a o
   else rb (exM ts f (.ex 1) a o) fun x a o=>rb (expM ts [59] a o) fun _ a o=>ret (oneS (.mk 1 0 n [x] [] [] [])) a o
def stM(ts:List Tk):Nat→Md6→Nat→Nat→Option (Rs (List (List Nd)))
 | 0,_,_,_=>none
 | f+1,.st,a,o =>
  if(pk ts a).kind=1 then Ky ts f a o
  else if sees ts a [103,111,116,111]=true then rb (nmM ts (a+1) o) fun n a o=>rb (expM ts [59] a o) fun _ a o=>ret (oneS (.mk 12 0 n [] [] [] [])) a o
  else if sees ts a [99,97,108,108]=true then rb (nmM ts (a+1) o) fun n a o=>rb (expM ts [59] a o) fun _ a o=>ret (oneS (.mk 5 0 n [] [] [] [])) a o
  else if sees ts a [115,116,111,114,101,49]=true then storM ts f 1 (a+1) o
  else if sees ts a [115,116,111,114,101,50]=true then storM ts f 2 (a+1) o
  else if sees ts a [115,116,111,114,101,52]=true then storM ts f 4 (a+1) o
  else if sees ts a [111,117,116]=true then rb (exM ts f (.ex 1) (a+1) o) fun x a o=>rb (expM ts [59] a o) fun _ a o=>ret (oneS (.mk 4 0 ByteArray.empty [x] [] [] [])) a o
  else if sees ts a [105,102]=true then rb (exM ts f (.ex 1) (a+1) o) fun x a o=>rb (stM ts f .br a o) fun l a o =>
   if sees ts a [101,108,115,101]=true then rb (stM ts f .br (a+1) o) fun e a o=>ret (oneS (.mk 6 0 ByteArray.empty [x] (l.headD []) (e.headD []) [])) a o
   else ret (oneS (.mk 6 0 ByteArray.empty [x] (l.headD []) [] [])) a o
  else if sees ts a [119,104,105,108,101]=true then rb (exM ts f (.ex 1) (a+1) o) fun x a o=>rb (stM ts f .br a o) fun l a o=>ret (oneS (.mk 7 0 ByteArray.empty [x] (l.headD []) [] [])) a o
  else if sees ts a [108,111,111,112]=true then rb (stM ts f .br (a+1) o) fun l a o=>ret (oneS (.mk 8 0 ByteArray.empty [] (l.headD []) [] [])) a o
  else if sees ts a [115,119,105,116,99,104]=true then rb (exM ts f (.ex 1) (a+1) o) fun x a o=>rb (begM ts [123] a o) fun _ a o=>rb (stM ts f (.ca []) a o) fun c a o=>ret (oneS (.mk 9 0 ByteArray.empty [x] [] [] c)) a o
  else if sees ts a [98,114,101,97,107]=true then pK ts 10 (a+1) o
  else if sees ts a [99,111,110,116,105,110,117,101]=true then pK ts 11 (a+1) o
  else if sees ts a [114,101,116,117,114,110]=true then pK ts 14 (a+1) o
  else if sees ts a [104,97,108,116]=true then pK ts 15 (a+1) o
  else some (.bad a 3)
 | f+1,.li l,a,o=>if sees ts a [125]=true then ret [l] a o else rb (stM ts f .st a o) fun s a o=>stM ts f (.li (l++[theS s])) a o
 | f+1,.br,a,o=>rb (begM ts [123] a o) fun _ a o=>rb (stM ts f (.li []) a o) fun l a o=>rb (endM ts [125] a o) fun _ a o=>ret l a o
 | f+1,.ca c,a,o =>
  if sees ts a [99,97,115,101]=true then(if(pk ts (a+1)).kind=3∧(pk ts (a+1)).n=c.length then rb (stM ts f .br (a+2) o) fun l a o=>stM ts f (.ca (c++[l.headD []])) a o else some (.bad (a+1) 3))
  else rb (endM ts [125] a o) fun _ a o=>ret c a o
def varM(ts:List Tk)(f:Nat)(a o:Nat):Option (Rs Va) :=
 rb (expM ts [118,97,114] a o) fun _ a o=>rb (nmM ts a o) fun n a o=>rb (expM ts [58] a o) fun _ a o=>rb (tyM ts f .ty a o) fun t a o=>rb (expM ts [59] a o) fun _ a o=>ret ⟨n,t⟩ a o
def accM(ts:List Tk)(s:Bs)(a o:Nat):Option (Rs Bool):=if sees ts a s=true then ret true (a+1) o else ret false a o
def Pf(ts:List Tk)(a o:Nat):Option (Rs Sec) :=
 rb (expM ts [100,97,116,97] a o) fun _ a o=>rb (nmM ts a o) fun n a o=>rb (takM ts 3 a o) fun d a o=>rb (accM ts [119,114,105,116,101] a o) fun w a o=>rb (accM ts [101,120,101,99] a o) fun x a o =>
  rb (expM ts [61] a o) fun _ a o=>rb (takM ts 4 a o) fun b a o=>rb (expM ts [59] a o) fun _ a o=>ret ⟨n,d.n,b.text,w,x⟩ a o
def vasM(ts:List Tk):Nat→List Va→Nat→Nat→Option (Rs (List Va))
 | 0,_,_,_=>none
 | f+1,l,a,o=>if sees ts a [118,97,114]=true then rb (varM ts f a o) fun v a o=>vasM ts f (l++[v]) a o else ret l a o
def funM(ts:List Tk)(f:Nat)(a o:Nat):Option (Rs Fun) :=
 rb (expM ts [102,117,110,99] a o) fun _ a o=>rb (nmM ts a o) fun n a o=>rb (begM ts [123] a o) fun _ a o=>rb (vasM ts f [] a o) fun v a o=>rb (stM ts f (.li []) a o) fun l a o=>rb (endM ts [125] a o) fun _ a o =>
  ret ⟨n,v,l.headD []⟩ a o
def uniM(ts:List Tk):Nat→Un→Nat→Nat→Option (Rs Un)
 | 0,_,_,_=>none
 | f+1,u,a,o =>
  if ts.length≤a then ret u a o
  else if sees ts a [118,97,114]=true then rb (varM ts f a o) fun v a o=>uniM ts f ⟨u.globals++[v],u.data,u.funcs⟩ a o
  else if sees ts a [100,97,116,97]=true then rb (Pf ts a o) fun d a o=>uniM ts f ⟨u.globals,u.data++[d],u.funcs⟩ a o
  else if sees ts a [102,117,110,99]=true then rb (funM ts f a o) fun g a o=>uniM ts f ⟨u.globals,u.data,u.funcs++[g]⟩ a o
  else some (.bad a 3)
def allM{α:Type}(ts:List Tk)(r:Option (Rs α)):Option (Rs α):=rb r fun x a o=>if a<ts.length then some (.bad a 3)else ret x a o
theorem gV{ts:List Tk}{a o:Nat}{n:ByteArray}{b p:Nat}(h:nmM ts a o=some (.ok n b p)):n=strA (pk ts a).text∧b=a+1∧p=o∧a<ts.length:=by
 obtain⟨t,a1,o1,h1,h2⟩:=bE h
 obtain⟨hk,rfl,rfl,rfl⟩:=hX h1
 cases h2
 exact⟨rfl,rfl,rfl,dQ hk (by decide)⟩
theorem fP{ts:List Tk}{s:Bs}{a o:Nat}{u:Unit}{b p:Nat}(h:expM ts s a o=some (.ok u b p)):a<ts.length∧b=a+1∧p=o:=by
 obtain⟨h1,h2,h3⟩:=cV h
 exact⟨bX h1,h2,h3⟩
theorem tN{ts:List Tk}{s:Bs}{a o:Nat}{u:Unit}{b p:Nat}(h:endM ts s a o=some (.ok u b p)):a<ts.length∧b=a+1∧p=o-1:=by
 obtain⟨h1,h2,h3⟩:=mV h
 exact⟨bX h1,h2,h3⟩
theorem vD{ts:List Tk}{f:Nat}{w:Int}{a o:Nat}{x:List (List Nd)}{b p:Nat}(h:storM ts f w a o=some (.ok x b p)):p=o∧a<b∧b≤ts.length:=by
 obtain⟨_,a1,o1,h1,h⟩:=bE h
 obtain⟨_,a2,o2,h2,h⟩:=bE h
 obtain⟨_,a3,o3,h3,h⟩:=bE h
 obtain⟨_,a4,o4,h4,h⟩:=bE h
 obtain⟨_,a5,o5,h5,h⟩:=bE h
 obtain⟨_,a6,o6,h6,h⟩:=bE h
 have e1:=cK h1
 have e2:=dH _ _ _ _ _ _ _ _ h2
 have e3:=cV h3
 have e4:=dH _ _ _ _ _ _ _ _ h4
 have e5:=mV h5
 have e6:=fP h6
 cases h;omega
theorem rO{ts:List Tk}{k:Int}{a o:Nat}{x:List (List Nd)}{b p:Nat}(h:pK ts k a o=some (.ok x b p)):p=o∧a<b∧b≤ts.length:=by
 obtain⟨_,a1,o1,h1,h⟩:=bE h
 have e1:=fP h1
 cases h;omega
theorem Tt{ts:List Tk}{f:Nat}{a o:Nat}{x:List (List Nd)}{b p:Nat}(h:Ky ts f a o=some (.ok x b p)):p=o∧a<b∧b≤ts.length:=by
 obtain⟨_,a1,o1,h1,h⟩:=bE h
 have e1:=gV h1
 split at h
 ·rename_i hk
  have:=bX hk;cases h;omega
 obtain⟨_,a2,o2,h2,h⟩:=bE h
 have e2:=cV h2
 split at h
 ·obtain⟨_,a3,o3,h3,h⟩:=bE h
  have e3:=fP h3;cases h;omega
 ·obtain⟨_,a3,o3,h3,h⟩:=bE h
  obtain⟨_,a4,o4,h4,h⟩:=bE h;have e3:=dH _ _ _ _ _ _ _ _ h3;have e4:=fP h4;cases h;omega
theorem aZ{α:Type}{c:Prop}[Decidable c]{x y z:α}(h:(if c then x else y)=z):(c∧x=z)∨(¬c∧y=z):=by
 by_cases hc:c
 ·exact .inl ⟨hc,by rw[if_pos hc]at h;exact h⟩
 ·exact .inr ⟨hc,by rw[if_neg hc]at h;exact h⟩
theorem fI(ts:List Tk): ∀f,(∀a o x b p,stM ts f .st a o=some (.ok x b p)→p=o∧a<b∧b≤ts.length)∧(∀l a o x b p,stM ts f (.li l) a o=some (.ok x b p)→p=o∧a≤b∧b<ts.length) ∧
  (∀a o x b p,stM ts f .br a o=some (.ok x b p)→p=o∧a<b∧b≤ts.length)∧(∀l a o x b p,stM ts f (.ca l) a o=some (.ok x b p)→p=o-1∧a<b∧b≤ts.length):=by
 intro f
 induction f with
 | zero=>exact⟨(fun _ _ _ _ _ h=>by cases h),(fun _ _ _ _ _ _ h=>by cases h),(fun _ _ _ _ _ h=>by cases h),(fun _ _ _ _ _ _ h=>by cases h)⟩
 | succ f ih =>
  obtain⟨i1,i2,i3,i4⟩:=ih;refine⟨fun a o x b p h=> ?_,fun l a o x b p h=> ?_,fun a o x b p h=> ?_,fun l a o x b p h=> ?_⟩
  ·rw[stM]at h
   have kw: ∀ {r:Option (Rs (List (List Nd)))},(r=some (.ok x b p)→p=o∧a+1<b∧b≤ts.length)→r=some (.ok x b p)→p=o∧a<b∧b≤ts.length:=fun g h=>by have:=g h;omega
   rcases aZ h with ⟨_,h⟩|⟨_,h⟩
   ·exact Tt h
   rcases aZ h with ⟨_,h⟩|⟨_,h⟩
   ·obtain⟨_,a1,o1,h1,h⟩:=bE h
    obtain⟨_,a2,o2,h2,h⟩:=bE h;have e1:=gV h1;have e2:=fP h2;cases h;omega
   rcases aZ h with ⟨_,h⟩|⟨_,h⟩
   ·obtain⟨_,a1,o1,h1,h⟩:=bE h
    obtain⟨_,a2,o2,h2,h⟩:=bE h;have e1:=gV h1;have e2:=fP h2;cases h;omega
   rcases aZ h with ⟨_,h⟩|⟨_,h⟩
   ·exact kw vD h
   rcases aZ h with ⟨_,h⟩|⟨_,h⟩
   ·exact kw vD h
   rcases aZ h with ⟨_,h⟩|⟨_,h⟩
   ·exact kw vD h
   rcases aZ h with ⟨_,h⟩|⟨_,h⟩
   ·obtain⟨_,a1,o1,h1,h⟩:=bE h
    obtain⟨_,a2,o2,h2,h⟩:=bE h;have e1:=dH _ _ _ _ _ _ _ _ h1;have e2:=fP h2;cases h;omega
   rcases aZ h with ⟨_,h⟩|⟨_,h⟩
   ·obtain⟨_,a1,o1,h1,h⟩:=bE h
    obtain⟨_,a2,o2,h2,h⟩:=bE h;have e1:=dH _ _ _ _ _ _ _ _ h1;have e2:=i3 _ _ _ _ _ h2;rcases aZ h with ⟨_,h⟩|⟨_,h⟩
    ·obtain⟨_,a3,o3,h3,h⟩:=bE h
     have e3:=i3 _ _ _ _ _ h3;cases h;omega
    ·cases h;omega
   rcases aZ h with ⟨_,h⟩|⟨_,h⟩
   ·obtain⟨_,a1,o1,h1,h⟩:=bE h
    obtain⟨_,a2,o2,h2,h⟩:=bE h;have e1:=dH _ _ _ _ _ _ _ _ h1;have e2:=i3 _ _ _ _ _ h2;cases h;omega
   rcases aZ h with ⟨_,h⟩|⟨_,h⟩
   ·obtain⟨_,a1,o1,h1,h⟩:=bE h
    have e1:=i3 _ _ _ _ _ h1;cases h;omega
   rcases aZ h with ⟨_,h⟩|⟨_,h⟩
   ·obtain⟨_,a1,o1,h1,h⟩:=bE h
    obtain⟨_,a2,o2,h2,h⟩:=bE h;obtain⟨_,a3,o3,h3,h⟩:=bE h;have e1:=dH _ _ _ _ _ _ _ _ h1;have e2:=cK h2;have e3:=i4 _ _ _ _ _ _ h3;cases h;omega
   rcases aZ h with ⟨_,h⟩|⟨_,h⟩
   ·exact kw rO h
   rcases aZ h with ⟨_,h⟩|⟨_,h⟩
   ·exact kw rO h
   rcases aZ h with ⟨_,h⟩|⟨_,h⟩
   ·exact kw rO h
   rcases aZ h with ⟨_,h⟩|⟨_,h⟩
   ·exact kw rO h
   ·cases h
  ·rw[stM]at h
   rcases aZ h with ⟨hk,h⟩|⟨_,h⟩
   ·have:=bX hk
    cases h;omega
   ·obtain⟨_,a1,o1,h1,h⟩:=bE h
    have e1:=i1 _ _ _ _ _ h1;have e2:=i2 _ _ _ _ _ _ h;omega
  ·rw[stM]at h
   obtain⟨_,a1,o1,h1,h⟩:=bE h;obtain⟨_,a2,o2,h2,h⟩:=bE h;obtain⟨_,a3,o3,h3,h⟩:=bE h;have e1:=cK h1;have e2:=i2 _ _ _ _ _ _ h2;have e3:=tN h3;cases h;omega
  ·rw[stM]at h
   rcases aZ h with ⟨_,h⟩|⟨_,h⟩
   ·rcases aZ h with ⟨_,h⟩|⟨_,h⟩
    ·obtain⟨_,a1,o1,h1,h⟩:=bE h
     have e1:=i3 _ _ _ _ _ h1;have e2:=i4 _ _ _ _ _ _ h;omega
    ·cases h
   ·obtain⟨_,a1,o1,h1,h⟩:=bE h
    have e1:=tN h1;cases h;omega
end Go.Proofs.YtmbmmckagcdapaaGreatDoor
namespace Go.Proofs.YtmbmmckagcdapaaGreatDoor
def Sm{α:Type}(r:Option (Rs α)):Prop:= ∃z,r=some z
theorem Sm.rb{α β:Type}{r:Option (Rs α)}{k:α→Nat→Nat→Option (Rs β)}(h:Sm r)(hk: ∀x a o,r=some (.ok x a o)→Sm (k x a o)):Sm (rb r k):=by
 obtain⟨z,rfl⟩:=h
 cases z with
 | ok x a o=>exact hk x a o rfl
 | bad b e=>exact⟨_,rfl⟩
theorem Sm.ite{α:Type}{c:Prop}[Decidable c]{x y:Option (Rs α)}(hx:c→Sm x)(hy: ¬c→Sm y):Sm (if c then x else y):=by
 by_cases h:c
 ·rw[if_pos h];exact hx h
 ·rw[if_neg h];exact hy h
theorem nX{α:Type}(z:Rs α):Sm (some z):=⟨z,rfl⟩
theorem Sm.ret{α:Type}(x:α)(a o:Nat):Sm (ret x a o):=⟨_,rfl⟩
theorem Sm.beg(ts:List Tk)(s:Bs)(a o:Nat):Sm (begM ts s a o):=⟨_,rfl⟩
theorem Sm.exp(ts:List Tk)(s:Bs)(a o:Nat):Sm (expM ts s a o):=⟨_,rfl⟩
theorem Sm.en(ts:List Tk)(s:Bs)(a o:Nat):Sm (endM ts s a o):=⟨_,rfl⟩
theorem Sm.tak(ts:List Tk)(k:Int)(a o:Nat):Sm (takM ts k a o):=⟨_,rfl⟩
theorem Sm.nm(ts:List Tk)(a o:Nat):Sm (nmM ts a o):=Sm.rb (Sm.tak ..) fun _ _ _ _=>Sm.ret ..
theorem Oe{ts:List Tk}{a:Nat}(h: ¬(stR (pk ts a)).2=0):a<ts.length:=by
 refine dQ (k:=5) ?_ (by decide)
 unfold stR at h
 split at h
 ·assumption
 ·exact absurd rfl h
theorem Fw{ts:List Tk}{f a o:Nat}{x:Ex}{b p:Nat}(h:exM ts f .op a o=some (.ok x b p)):a<b∧a<ts.length:=by
 cases f with
 | zero=>cases h
 | succ f =>
 have inn_lt: ∀(q:Ex→Ex) a o,inn ts (exM ts f (.ex 1)) q a o=some (.ok x b p)→a<b:=by
  intro q a o h;obtain⟨_,a1,o1,h1,h⟩:=bE h;obtain⟨y,a2,o2,h2,h⟩:=bE h;obtain⟨_,a3,o3,h3,h⟩:=bE h;cases h
  have e1:=cK h1;have e2:=dH _ _ _ _ _ _ _ _ h2;have e3:=mV h3;omega
 rw[exM]at h
 rcases aZ h with ⟨hk,h⟩|⟨_,h⟩
 ·have:=dQ hk (by decide)
  cases h;omega
 rcases aZ h with ⟨hk,h⟩|⟨_,h⟩
 ·have:=dQ hk (by decide)
  cases h;omega
 rcases aZ h with ⟨hk,h⟩|⟨_,h⟩
 ·have:=dQ hk (by decide)
  split at h
  ·have:=inn_lt _ _ _ h;omega
  ·cases h
 rcases aZ h with ⟨hk,h⟩|⟨_,h⟩
 ·have:=dQ hk (by decide)
  rcases aZ h with ⟨_,h⟩|⟨_,h⟩
  ·have:=inn_lt _ _ _ h;omega
  rcases aZ h with ⟨_,h⟩|⟨_,h⟩
  ·obtain⟨_,a1,o1,h1,h⟩:=bE h
   obtain⟨y,a2,o2,h2,h⟩:=bE h;cases h
   have e1:=cK h1;have e2:=dH _ _ _ _ _ _ _ _ h2;omega
  ·cases h
 ·cases h
theorem yM{ts:List Tk}{f l a o:Nat}{x:Ex}{b p:Nat}(h:exM ts f (.ex l) a o=some (.ok x b p)):a<b∧a<ts.length:=by
 cases f with
 | zero=>cases h
 | succ f =>
 rw[exM]at h
 obtain⟨y,a1,o1,h1,h⟩:=bE h
 have e1:=Fw h1
 have e2:=dH _ _ _ _ _ _ _ _ h
 omega
theorem Cn(ts:List Tk): ∀f,(∀a o,3*(ts.length-a)+1≤f→Sm (exM ts f .op a o))∧(∀l a o,3*(ts.length-a)+2≤f→Sm (exM ts f (.ex l) a o))∧(∀l x a o,3*(ts.length-a)+1≤f→Sm (exM ts f (.lo l x) a o)):=by
 intro f
 induction f with
 | zero=>exact⟨(fun a o h=>by omega),(fun l a o h=>by omega),(fun l x a o h=>by omega)⟩
 | succ f ih =>
  obtain⟨i1,i2,i3⟩:=ih
  have hin: ∀q a o,a<ts.length→3*(ts.length-a)≤f→Sm (inn ts (exM ts f (.ex 1)) q a o):=fun q a o ha h=>by
   refine Sm.rb (Sm.beg ..) fun _ a1 o1 h1=>Sm.rb ?_ fun _ _ _ _=>Sm.rb (Sm.en ..) fun _ _ _ _=>Sm.ret ..
   have:=cK h1;exact i2 _ _ _ (by omega)
  refine⟨fun a o h=> ?_,fun l a o h=> ?_,fun l x a o h=> ?_⟩
  ·rw[exM]
   refine Sm.ite (fun _=>Sm.ret ..) fun _=>Sm.ite (fun _=>Sm.ret ..) fun _=>Sm.ite (fun hk=> ?_) fun _=>Sm.ite (fun hk=> ?_) fun _=>nX _
   ·have hl:=dQ hk (by decide)
    cases accW (pk ts a).text with
    | none=>exact nX _
    | some p =>
     by_cases hl2:a+1<ts.length
     ·exact hin _ _ _ hl2 (by omega)
     ·refine Sm.rb (Sm.beg ..) fun _ a1 o1 h1=> ?_
      have:=bX (cK h1).1;omega
   ·have hl:=dQ hk (by decide)
    refine Sm.ite (fun _=>hin _ _ _ hl (by omega)) fun _=>Sm.ite (fun _=> ?_) fun _=>nX _
    refine Sm.rb (Sm.beg ..) fun _ a1 o1 h1=>Sm.rb ?_ fun _ _ _ _=>Sm.ret ..
    have:=cK h1;exact i1 _ _ (by omega)
  ·rw[exM]
   refine Sm.rb (i1 _ _ (by omega)) fun x b p h1=>i3 _ _ _ _ ?_
   have:=Fw h1;omega
  ·rw[exM]
   refine Sm.ite (fun _=>Sm.ret ..) fun hk=> ?_
   have hl:=Oe (ts:=ts) (a:=a) (fun e=>hk (.inl e))
   refine Sm.rb (i2 _ _ _ (by omega)) fun y b p h1=>i3 _ _ _ _ ?_
   have:=yM h1;omega
theorem We(ts:List Tk): ∀f,(∀a o,ts.length-a+1≤f→Sm (tyM ts f .ty a o))∧(∀l a o,ts.length-a+1≤f→Sm (tyM ts f (.fl l) a o)):=by
 intro f
 induction f with
 | zero=>exact⟨(fun a o h=>by omega),(fun l a o h=>by omega)⟩
 | succ f ih =>
  obtain⟨i1,i2⟩:=ih;refine⟨fun a o h=> ?_,fun l a o h=> ?_⟩
  ·rw[tyM]
   refine Sm.ite (fun _=> ?_) fun _=>Sm.ite (fun _=>Sm.ret ..) fun _=>Sm.ite (fun hk=> ?_) fun _=>Sm.ite (fun hk=> ?_) fun _=>Sm.ite (fun hk=> ?_) fun _=>nX _
   ·cases intR (pk ts a).text with
    | none=>exact nX _
    | some p=>exact Sm.ret ..
   ·have hl:=bX hk
    refine Sm.rb (Sm.beg ..) fun _ a1 o1 h1=>Sm.rb (i1 _ _ ?_) fun _ _ _ _=>Sm.ret ..
    have:=cK h1;omega
   ·have hl:=bX hk
    refine Sm.rb (Sm.beg ..) fun _ a1 o1 h1=>Sm.rb (Sm.tak ..) fun _ a2 o2 h2=>Sm.rb (Sm.exp ..) fun _ a3 o3 h3=>Sm.rb (i1 _ _ ?_) fun _ _ _ _=>Sm.ret ..
    have:=cK h1;have:=hX h2;have:=cV h3;omega
   ·have hl:=bX hk
    refine Sm.rb (Sm.beg ..) fun _ a1 o1 h1=>i2 _ _ _ ?_
    have:=cK h1;omega
  ·rw[tyM]
   refine Sm.ite (fun _=>Sm.rb (Sm.en ..) fun _ _ _ _=>Sm.ret ..) fun _=>Sm.rb (Sm.ite (fun _=>Sm.exp ..) fun _=>Sm.ret ..) fun _ a1 o1 h1=>Sm.rb (Sm.tak ..) fun _ a2 o2 h2=>Sm.rb (Sm.exp ..) fun _ a3 o3 h3=> ?_
   have e1:a≤a1:=by
    rcases aZ h1 with ⟨_,h1⟩|⟨_,h1⟩
    ·have:=cV h1;omega
    ·cases h1;omega
   have e2:=hX h2;have e3:=cV h3;have e4:=dQ e2.1 (by decide)
   refine Sm.rb (i1 _ _ (by omega)) fun _ a5 o5 h5=>i2 _ _ _ ?_
   have:=(jP ts f).1 _ _ _ _ _ h5;omega
theorem Wz(ts:List Tk): ∀f,(∀a o,3*(ts.length-a)+2≤f→Sm (stM ts f .st a o))∧(∀l a o,3*(ts.length-a)+3≤f→Sm (stM ts f (.li l) a o))∧(∀a o,3*(ts.length-a)+3≤f→Sm (stM ts f .br a o))∧(∀c a o,3*(ts.length-a)+3≤f→Sm (stM ts f (.ca c) a o)):=by
 intro f
 induction f with
 | zero=>exact⟨(fun a o h=>by omega),(fun l a o h=>by omega),(fun a o h=>by omega),(fun c a o h=>by omega)⟩
 | succ f ih =>
  obtain⟨i1,i2,i3,i4⟩:=ih;have ex: ∀l a o,3*(ts.length-a)+2≤f→Sm (exM ts f (.ex l) a o):=fun l a o h=>(Cn ts f).2.1 l a o h
  refine⟨fun a o h=> ?_,fun l a o h=> ?_,fun a o h=> ?_,fun c a o h=> ?_⟩
  ·rw[stM]
   have sto: ∀w,a<ts.length→Sm (storM ts f w (a+1) o):=fun w ha=>by
    refine Sm.rb (Sm.beg ..) fun _ a1 o1 h1=> ?_
    have e1:=cK h1;have:=bX e1.1;refine Sm.rb (ex _ _ _ (by omega)) fun _ a2 o2 h2=>Sm.rb (Sm.exp ..) fun _ a3 o3 h3=> ?_
    have e2:=yM h2;have e3:=cV h3;refine Sm.rb (ex _ _ _ (by omega)) fun _ a4 o4 h4=>Sm.rb (Sm.en ..) fun _ a5 o5 h5=>Sm.rb (Sm.exp ..) fun _ a6 o6 h6=>Sm.ret ..
   have sim: ∀k a o,Sm (pK ts k a o):=fun k a o=>Sm.rb (Sm.exp ..) fun _ _ _ _=>Sm.ret ..
   refine Sm.ite (fun hk=> ?_) fun _=>Sm.ite (fun _=>Sm.rb (Sm.nm ..) fun _ _ _ _=>Sm.rb (Sm.exp ..) fun _ _ _ _=>Sm.ret ..) fun _=>Sm.ite (fun _=>Sm.rb (Sm.nm ..) fun _ _ _ _=>Sm.rb (Sm.exp ..) fun _ _ _ _=>Sm.ret ..) fun _ =>
    Sm.ite (fun hk=>sto _ (bX hk)) fun _=>Sm.ite (fun hk=>sto _ (bX hk)) fun _=>Sm.ite (fun hk=>sto _ (bX hk)) fun _=>Sm.ite (fun hk=> ?_) fun _=>Sm.ite (fun hk=> ?_) fun _=>Sm.ite (fun hk=> ?_) fun _=>Sm.ite (fun hk=> ?_) fun _=>Sm.ite (fun hk=> ?_) fun _ =>
    Sm.ite (fun _=>sim ..) fun _=>Sm.ite (fun _=>sim ..) fun _=>Sm.ite (fun _=>sim ..) fun _=>Sm.ite (fun _=>sim ..) fun _=>nX _
   ·have hl:=dQ hk (by decide)
    refine Sm.rb (Sm.nm ..) fun _ a1 o1 h1=>Sm.ite (fun _=>Sm.ret ..) fun _=>Sm.rb (Sm.exp ..) fun _ a2 o2 h2=>Sm.ite (fun _=>Sm.rb (Sm.exp ..) fun _ _ _ _=>Sm.ret ..) fun _=> ?_
    have e1:=gV h1;have e2:=cV h2;have:=bX e2.1;exact Sm.rb (ex _ _ _ (by omega)) fun _ _ _ _=>Sm.rb (Sm.exp ..) fun _ _ _ _=>Sm.ret ..
   ·have hl:=bX hk
    exact Sm.rb (ex _ _ _ (by omega)) fun _ _ _ _=>Sm.rb (Sm.exp ..) fun _ _ _ _=>Sm.ret ..
   ·have hl:=bX hk
    refine Sm.rb (ex _ _ _ (by omega)) fun _ a1 o1 h1=> ?_
    have e1:=yM h1;refine Sm.rb (i3 _ _ (by omega)) fun _ a2 o2 h2=>Sm.ite (fun _=> ?_) fun _=>Sm.ret ..
    have e2:=(fI ts f).2.2.1 _ _ _ _ _ h2;exact Sm.rb (i3 _ _ (by omega)) fun _ _ _ _=>Sm.ret ..
   ·have hl:=bX hk
    refine Sm.rb (ex _ _ _ (by omega)) fun _ a1 o1 h1=> ?_
    have e1:=yM h1;exact Sm.rb (i3 _ _ (by omega)) fun _ a2 o2 h2=>Sm.ret ..
   ·have hl:=bX hk
    exact Sm.rb (i3 _ _ (by omega)) fun _ a2 o2 h2=>Sm.ret ..
   ·have hl:=bX hk
    refine Sm.rb (ex _ _ _ (by omega)) fun _ a1 o1 h1=>Sm.rb (Sm.beg ..) fun _ a2 o2 h2=> ?_
    have e1:=yM h1;have e2:=cK h2;exact Sm.rb (i4 _ _ _ (by omega)) fun _ _ _ _=>Sm.ret ..
  ·rw[stM]
   refine Sm.ite (fun _=>Sm.ret ..) fun _=>Sm.rb (i1 _ _ (by omega)) fun _ a1 o1 h1=> ?_
   have e1:=(fI ts f).1 _ _ _ _ _ h1;exact i2 _ _ _ (by omega)
  ·rw[stM]
   refine Sm.rb (Sm.beg ..) fun _ a1 o1 h1=> ?_
   have e1:=cK h1;have:=bX e1.1;exact Sm.rb (i2 _ _ _ (by omega)) fun _ _ _ _=>Sm.rb (Sm.en ..) fun _ _ _ _=>Sm.ret ..
  ·rw[stM]
   refine Sm.ite (fun hk=>Sm.ite (fun hn=> ?_) fun _=>nX _) fun _=>Sm.rb (Sm.en ..) fun _ _ _ _=>Sm.ret ..
   have hl:=bX hk;refine Sm.rb (i3 _ _ (by omega)) fun _ a1 o1 h1=> ?_
   have e1:=(fI ts f).2.2.1 _ _ _ _ _ h1;exact i4 _ _ _ (by omega)
theorem lF{ts:List Tk}{f a o:Nat}{v:Va}{b p:Nat}(h:varM ts f a o=some (.ok v b p)):p=o∧a<b∧b≤ts.length:=by
 obtain⟨_,a1,o1,h1,h⟩:=bE h
 obtain⟨_,a2,o2,h2,h⟩:=bE h
 obtain⟨_,a3,o3,h3,h⟩:=bE h
 obtain⟨_,a4,o4,h4,h⟩:=bE h
 obtain⟨_,a5,o5,h5,h⟩:=bE h
 have e1:=cV h1
 have e2:=gV h2
 have e3:=cV h3
 have e4:=(jP ts f).1 _ _ _ _ _ h4
 have e5:=fP h5
 cases h;omega
theorem Ei(ts:List Tk){f a o:Nat}(h:ts.length-a+1≤f):Sm (varM ts f a o):=by
 refine Sm.rb (Sm.exp ..) fun _ a1 o1 h1=>Sm.rb (Sm.nm ..) fun _ a2 o2 h2=>Sm.rb (Sm.exp ..) fun _ a3 o3 h3=>Sm.rb ((We ts f).1 _ _ ?_) fun _ _ _ _=>Sm.rb (Sm.exp ..) fun _ _ _ _=>Sm.ret ..
 have e1:=cV h1
 have e2:=gV h2
 have e3:=cV h3
 omega
theorem Ak{ts:List Tk}{s:Bs}{a o:Nat}{w:Bool}{b p:Nat}(h:accM ts s a o=some (.ok w b p)):p=o∧a≤b∧w=sees ts a s∧b=(if sees ts a s=true then a+1 else a):=by
 rcases aZ h with ⟨hk,h⟩|⟨hk,h⟩
 ·cases h;rw[hk,if_pos rfl];exact⟨rfl,by omega,rfl,rfl⟩
 ·cases h;rw[if_neg hk];exact⟨rfl,by omega,by simpa using hk,rfl⟩
theorem Sm.acc(ts:List Tk)(s:Bs)(a o:Nat):Sm (accM ts s a o):=Sm.ite (fun _=>Sm.ret ..) fun _=>Sm.ret ..
theorem wT{ts:List Tk}{a o:Nat}{v:Sec}{b p:Nat}(h:Pf ts a o=some (.ok v b p)):p=o∧a<b∧b≤ts.length:=by
 obtain⟨_,a1,o1,h1,h⟩:=bE h
 obtain⟨_,a2,o2,h2,h⟩:=bE h
 obtain⟨_,a3,o3,h3,h⟩:=bE h
 obtain⟨_,a4,o4,h4,h⟩:=bE h
 obtain⟨_,a5,o5,h5,h⟩:=bE h
 obtain⟨_,a6,o6,h6,h⟩:=bE h
 obtain⟨_,a7,o7,h7,h⟩:=bE h
 obtain⟨_,a8,o8,h8,h⟩:=bE h
 have e1:=cV h1
 have e2:=gV h2
 have e3:=hX h3
 have e4:=Ak h4
 have e5:=Ak h5
 have e6:=cV h6
 have e7:=hX h7
 have e8:=fP h8
 cases h;omega
theorem KJ(ts:List Tk)(a o:Nat):Sm (Pf ts a o) :=
 Sm.rb (Sm.exp ..) fun _ _ _ _=>Sm.rb (Sm.nm ..) fun _ _ _ _=>Sm.rb (Sm.tak ..) fun _ _ _ _=>Sm.rb (Sm.acc ..) fun _ _ _ _=>Sm.rb (Sm.acc ..) fun _ _ _ _=>Sm.rb (Sm.exp ..) fun _ _ _ _=>Sm.rb (Sm.tak ..) fun _ _ _ _=>Sm.rb (Sm.exp ..) fun _ _ _ _=>Sm.ret ..
theorem Qe{ts:List Tk}: ∀(f:Nat) {l:List Va} {a o:Nat} {v:List Va} {b p:Nat},vasM ts f l a o=some (.ok v b p)→p=o∧a≤b:=by
 intro f
 induction f with
 | zero=>intro l a o v b p h;cases h
 | succ f ih =>
  intro l a o v b p h;rw[vasM]at h;rcases aZ h with ⟨hk,h⟩|⟨hk,h⟩
  ·obtain⟨_,a1,o1,h1,h⟩:=bE h
   have e1:=lF h1;have e2:=ih h;omega
  ·cases h;omega
theorem Sc(ts:List Tk): ∀(f:Nat) (l:List Va) (a o:Nat),ts.length-a+2≤f→Sm (vasM ts f l a o):=by
 intro f
 induction f with
 | zero=>intro l a o h;omega
 | succ f ih =>
  intro l a o h;rw[vasM];refine Sm.ite (fun hk=>Sm.rb (Ei ts (by omega)) fun _ a1 o1 h1=>ih _ _ _ ?_) fun _=>Sm.ret ..
  have e1:=lF h1;have:=bX hk;omega
theorem uC{ts:List Tk}{f a o:Nat}{v:Fun}{b p:Nat}(h:funM ts f a o=some (.ok v b p)):p=o∧a<b∧b≤ts.length:=by
 obtain⟨_,a1,o1,h1,h⟩:=bE h
 obtain⟨_,a2,o2,h2,h⟩:=bE h
 obtain⟨_,a3,o3,h3,h⟩:=bE h
 obtain⟨_,a4,o4,h4,h⟩:=bE h
 obtain⟨_,a5,o5,h5,h⟩:=bE h
 obtain⟨_,a6,o6,h6,h⟩:=bE h
 have e1:=cV h1
 have e2:=gV h2
 have e3:=cK h3
 have e4:=Qe _ h4
 have e5:=(fI ts f).2.1 _ _ _ _ _ _ h5
 have e6:=tN h6
 cases h;omega
theorem yH(ts:List Tk){f a o:Nat}(h:3*(ts.length-a)+3≤f):Sm (funM ts f a o):=by
 refine Sm.rb (Sm.exp ..) fun _ a1 o1 h1=>Sm.rb (Sm.nm ..) fun _ a2 o2 h2=>Sm.rb (Sm.beg ..) fun _ a3 o3 h3=> ?_
 have e1:=cV h1
 have e2:=gV h2
 have e3:=cK h3
 refine Sm.rb (Sc ts _ _ _ _ (by omega)) fun _ a4 o4 h4=> ?_
 have e4:=Qe _ h4
 exact Sm.rb ((Wz ts f).2.1 _ _ _ (by omega)) fun _ _ _ _=>Sm.rb (Sm.en ..) fun _ _ _ _=>Sm.ret ..
theorem Sg(ts:List Tk): ∀(f:Nat) (u:Un) (a o:Nat),3*(ts.length-a)+4≤f→Sm (uniM ts f u a o):=by
 intro f
 induction f with
 | zero=>intro u a o h;omega
 | succ f ih =>
  intro u a o h;rw[uniM];refine Sm.ite (fun _=>Sm.ret ..) fun hl=>Sm.ite (fun hk=> ?_) fun _=>Sm.ite (fun hk=> ?_) fun _=>Sm.ite (fun hk=> ?_) fun _=>nX _
  ·refine Sm.rb (Ei ts (by omega)) fun _ a1 o1 h1=>ih _ _ _ ?_
   have e1:=lF h1;omega
  ·refine Sm.rb (KJ ..) fun _ a1 o1 h1=>ih _ _ _ ?_
   have e1:=wT h1;omega
  ·refine Sm.rb (yH ts (by omega)) fun _ a1 o1 h1=>ih _ _ _ ?_
   have e1:=uC h1;omega
theorem Sm.all{α:Type}{ts:List Tk}{r:Option (Rs α)}(h:Sm r):Sm (allM ts r):=Sm.rb h fun _ _ _ _=>Sm.ite (fun _=>nX _) fun _=>Sm.ret ..
section
variable {ts us:List Tk} (h:ts.map core=us.map core)
include h
end
end Go.Proofs.YtmbmmckagcdapaaGreatDoor
namespace Go.Proofs.YtmbmmckagcdapaaGreatDoor
def nE(k:Int):Int:=if k==1||k==4||k==6||k==7||k==9 then 1 else if k==2 then 2 else 0
def nmd(k:Int):Bool:=k==1||k==3||k==5||k==12||k==13
def lst(k:Int):Bool:=k==6||k==7||k==8
def stT(s:Nd):Bool:=decide (1≤s.kind)&&decide (s.kind≤15)&&decide ((s.e.length:Int)=nE s.kind)&&(if nmd s.kind then nameT s.name else eqS s.name ByteArray.empty)&&(lst s.kind||decide (s.l.length=0))&&(s.kind==6||decide (s.el.length=0)) &&
 (if s.kind==2 then s.width==1||s.width==2||s.width==4 else s.width==0)&&(if s.kind==9 then decide (1≤s.cs.length)&&decide (s.cs.length≤64)else decide (s.cs.length=0))&&s.e.all efm
end Go.Proofs.YtmbmmckagcdapaaGreatDoor
namespace Go.Proofs.YtmbmmckagcdapaaGreatDoor
structure Sr where
 a:Nat
 o:Int
 e:Int
def Pre{α:Type}(m:Nat→Nat→Option (Rs α))(s:Sr):Prop:=s.e=0→ ∃o:Nat,s.o=o∧ ∃r,m s.a o=some r
def Post{α:Type}(m:Nat→Nat→Option (Rs α))(s:Sr)(x:α)(s':Sr):Prop:=(s.e≠0→s'.a=s.a∧s'.e=s.e) ∧
 (s.e=0→ ∃o:Nat,s.o=o∧((∃a p:Nat,m s.a o=some (.ok x a p)∧s'=⟨a,p,0⟩)∨ ∃b e,m s.a o=some (.bad b e)∧s'.a=b∧s'.e=e∧e≠0))
section
variable {α β:Type} {m m':Nat→Nat→Option (Rs α)} {k:α→Nat→Nat→Option (Rs β)} {s s1 s2:Sr} {x:α} {y:β}
theorem Pre.err(h:s.e≠0):Pre m s:=fun e=>absurd e h
theorem Pre.fst(h:Pre (fun a o=>rb (m a o) k) s):Pre m s:=fun he=>by
 obtain⟨o,ho,r,hr⟩:=h he
 refine⟨o,ho,?_⟩
 change rb (m s.a o) k=some r at hr
 cases hm:m s.a o with
 | none=>rw[hm]at hr;cases hr
 | some z=>exact⟨z,rfl⟩
theorem Pre.snd(h:Pre (fun a o=>rb (m a o) k) s)(q:Post m s x s1):Pre (k x) s1:=fun he=>by
 by_cases h0:s.e=0
 case neg=>exact absurd ((q.1 h0).2.symm.trans he) h0
 obtain⟨o,ho,r,hr⟩:=h h0
 obtain⟨o',ho',q⟩:=q.2 h0
 obtain rfl:o=o':=by omega
 change rb (m s.a o) k=some r at hr
 rcases q with ⟨a,p,q1,rfl⟩|⟨b,e,q1,q2,q3,q4⟩
 ·rw[q1]at hr
  exact⟨p,rfl,r,hr⟩
 ·exact absurd (q3.symm.trans he) q4
theorem Post.bind(q:Post m s x s1)(r:Post (k x) s1 y s2):Post (fun a o=>rb (m a o) k) s y s2:=by
 refine⟨fun h=> ?_,fun h=> ?_⟩
 ·obtain⟨h1,h2⟩:=q.1 h
  obtain⟨h3,h4⟩:=r.1 (by rw[h2];exact h)
  exact⟨h3.trans h1,h4.trans h2⟩
 ·obtain⟨o,ho,q⟩:=q.2 h
  refine⟨o,ho,?_⟩;rcases q with ⟨a,p,q1,rfl⟩|⟨b,e,q1,q2,q3,q4⟩
  ·obtain⟨o1,h1,r⟩:=r.2 rfl
   have h1:(p:Int)=o1:=h1;obtain rfl:p=o1:=by omega
   rcases r with ⟨a2,p2,r1,rfl⟩|⟨b,e,r1,r2⟩
   ·exact .inl ⟨a2,p2,by show rb (m s.a o) k=_;rw[q1];exact r1,rfl⟩
   ·exact .inr ⟨b,e,by show rb (m s.a o) k=_;rw[q1];exact r1,r2⟩
  ·obtain⟨h3,h4⟩:=r.1 (by rw[q3];exact q4)
   exact .inr ⟨b,e,by show rb (m s.a o) k=_;rw[q1];rfl,h3.trans q2,h4.trans q3,q4⟩
theorem Post.ret(h:Pre m s):Post (ret x) s x s:=by
 refine⟨fun _=>⟨rfl,rfl⟩,fun he=> ?_⟩
 obtain⟨o,ho,_⟩:=h he
 obtain⟨a,o',e⟩:=s
 cases he
 cases ho
 exact⟨o,rfl,.inl ⟨a,o,rfl,rfl⟩⟩
theorem Post.congr(h:s.e=0→m s.a=m' s.a)(q:Post m' s x s1):Post m s x s1:=⟨q.1,fun he=>by rw[h he];exact q.2 he⟩
theorem Pre.congr(h:s.e=0→m s.a=m' s.a)(q:Pre m s):Pre m' s:=fun he=>by rw[←h he];exact q he
theorem Post.ok(q:Post m s x s1)(h:s1.e=0):s.e=0∧ ∃o a p:Nat,s.o=o∧m s.a o=some (.ok x a p)∧s1=⟨a,p,0⟩:=by
 by_cases h0:s.e=0
 case neg=>exact absurd ((q.1 h0).2.symm.trans h) h0
 obtain⟨o,ho,q⟩:=q.2 h0
 rcases q with ⟨a,p,q1,rfl⟩|⟨b,e,q1,q2,q3,q4⟩
 ·exact⟨h0,o,a,p,ho,q1,rfl⟩
 ·exact absurd (q3.symm.trans h) q4
theorem Post.err(q:Post m s x s1)(h:s.e≠0):s1.e≠0:=by rw[(q.1 h).2];exact h
theorem Post.of_err(h:s.e≠0)(h1:s1.a=s.a)(h2:s1.e=s.e):Post m s x s1:=⟨fun _=>⟨h1,h2⟩,fun he=>absurd he h⟩
theorem Post.of_ok{a o b p:Nat}(h:m a o=some (.ok x b p)):Post m ⟨a,o,0⟩ x ⟨b,p,0⟩:=⟨fun h=>absurd rfl h,fun _=>⟨o,rfl,.inl ⟨b,p,h,rfl⟩⟩⟩
theorem Post.of_bad{a o b:Nat}{o' e:Int}(h:m a o=some (.bad b e))(he:e≠0):Post m ⟨a,o,0⟩ x ⟨b,o',e⟩:=⟨fun h=>absurd rfl h,fun _=>⟨o,rfl,.inr ⟨b,e,h,rfl,rfl,he⟩⟩⟩
end
end Go.Proofs.YtmbmmckagcdapaaGreatDoor
