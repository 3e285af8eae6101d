import Derived.Test.YtmbmmckagcdapaaGreatDoorQ02
import Derived.Test.YtmbmmckagcdapaaGreatDoorQ12
set_option linter.all false
namespace Go.Proofs.YtmbmmckagcdapaaGreatDoor
def epa:Ex→Int→Int→Int:=Ex.para fun e r most left=>if most<1∨left<1∨4<e.l.length then -1 else pfold (fun r n=>r (most-1) n) r (left-1)
theorem Mu(o n:Int)(s:ByteArray)(w:Int)(l:List Ex)(most left:Int):epa (.mk o n s w l) most left=if most<1∨left<1∨4<l.length then -1 else pfold (fun x n=>epa x (most-1) n) l (left-1):=by
 have h:epa (.mk o n s w l) most left=_:=congrFun (congrFun (Ex.para_mk _ o n s w l) most) left
 rw[h]
 simp only[Ex.l,vX]
 rfl
theorem mO: ∀(t:Ex) (most left:Int),0≤left→ -1≤epa t most left∧epa t most left≤left:=by
 intro t
 induction t using Ex.induct with
 | h o n s w l ih =>
 intro most left h
 rw[Mu]
 split
 ·omega
 ·rename_i hc
  have:=dQ (f:=fun x n=>epa x (most-1) n) (l:=l) (fun x hx n hn=>ih x hx (most-1) n hn) (left-1) (by omega)
  omega
theorem PS: ∀(t:Ex) (most left:Int),0≤left→0≤epa t most left→exn t (left+1)=epa t most left+1:=by
 intro t
 induction t using Ex.induct with
 | h o n s w l ih =>
 intro most left h h0
 rw[Mu]at h0 ⊢
 split at h0
 ·omega
 ·rename_i hc
  rw[if_neg hc,IT]
  have key: ∀(l:List Ex),(∀x∈l,∀left,0≤left→0≤epa x (most-1) left→exn x (left+1)=epa x (most-1) left+1)→ ∀n:Int,0≤n→0≤pfold (fun x n=>epa x (most-1) n) l n→gfold exn l (n+1)=pfold (fun x n=>epa x (most-1) n) l n+1:=by
   intro l
   induction l with
   | nil=>intro _ n _ _;rfl
   | cons x l ihl =>
    intro hl n hn hp
    have e1:pfold (fun x n=>epa x (most-1) n) (x::l) n=pfold (fun x n=>epa x (most-1) n) l (epa x (most-1) n):=by
     unfold pfold;rw[List.foldl_cons,if_pos hn]
    rw[e1]at hp ⊢
    have h1:0≤epa x (most-1) n:=by
     refine Classical.byContradiction fun hc=> ?_
     rw[jG _ hc]at hp;exact hc hp
    have e2:gfold exn (x::l) (n+1)=gfold exn l (exn x (n+1)):=by
     unfold gfold;rw[List.foldl_cons,if_pos (by omega)]
    rw[e2,hl x (by simp) n hn h1]
    exact ihl (fun y hy=>hl y (by simp[hy])) _ h1 hp
  have:=key l (fun x hx left h1 h2=>ih x hx (most-1) left h1 h2) (left-1) (by omega) h0
  rw[show left+1-1=left-1+1 by omega]
  exact this
def strA(b:Bs):ByteArray:=⟨b.toArray⟩
def nd0:Nd:= .mk 0 0 ByteArray.empty [] [] [] []
def nmM(ts:List Tk)(a o:Nat):Option (Rs ByteArray):=rb (takM ts 1 a o) fun t a o=>ret (strA t.text) a o
inductive Md6 where
 | st
 | li (l:List Nd)
 | br
 | ca (l:List (List Nd))
def oneS(s:Nd):List (List Nd):=[[s]]
def theS(x:List (List Nd)):Nd:=(x.headD []).headD nd0
def mA(ts:List Tk)(f:Nat)(w:Int)(a o:Nat):Option (Rs (List (List Nd))) :=
 rb (begM ts [40] a o) fun _ a o=>rb (exM ts f (.ex 1) a o) fun x a o=>rb (expM ts [44] a o) fun _ a o=>rb (exM ts f (.ex 1) a o) fun y a o=>rb (endM ts [41] a o) fun _ a o=>rb (expM ts [59] a o) fun _ a o =>
  ret (oneS (.mk 2 w ByteArray.empty [x,y] [] [] [])) a o
def mB(ts:List Tk)(k:Int)(a o:Nat):Option (Rs (List (List Nd))):=rb (expM ts [59] a o) fun _ a o=>ret (oneS (.mk k 0 ByteArray.empty [] [] [] [])) a o
def Bc(ts:List Tk)(f:Nat)(a o:Nat):Option (Rs (List (List Nd))) :=
 rb (nmM ts a o) fun n a o=>if sees ts a [58]=true then ret (oneS (.mk 13 0 n [] [] [] [])) (a+1) o
  else rb (expM ts [61] a o) fun _ a o=>if sees ts a [105,110]=true then rb (expM ts [59] (a+1) o) fun _ a o=>ret (oneS (.mk 3 0 n [] [] [] [])) a o
   else rb (exM ts f (.ex 1) a o) fun x a o=>rb (expM ts [59] a o) fun _ a o=>ret (oneS (.mk 1 0 n [x] [] [] [])) a o
def stM(ts:List Tk):Nat→Md6→Nat→Nat→Option (Rs (List (List Nd)))
 | 0,_,_,_=>none
 | f+1,.st,a,o =>
  if(pk ts a).kind=1 then Bc ts f a o
  else if sees ts a [103,111,116,111]=true then rb (nmM ts (a+1) o) fun n a o=>rb (expM ts [59] a o) fun _ a o=>ret (oneS (.mk 12 0 n [] [] [] [])) a o
  else if sees ts a [99,97,108,108]=true then rb (nmM ts (a+1) o) fun n a o=>rb (expM ts [59] a o) fun _ a o=>ret (oneS (.mk 5 0 n [] [] [] [])) a o
  else if sees ts a [115,116,111,114,101,49]=true then mA ts f 1 (a+1) o
  else if sees ts a [115,116,111,114,101,50]=true then mA ts f 2 (a+1) o
  else if sees ts a [115,116,111,114,101,52]=true then mA ts f 4 (a+1) o
  else if sees ts a [111,117,116]=true then rb (exM ts f (.ex 1) (a+1) o) fun x a o=>rb (expM ts [59] a o) fun _ a o=>ret (oneS (.mk 4 0 ByteArray.empty [x] [] [] [])) a o
  else if sees ts a [105,102]=true then rb (exM ts f (.ex 1) (a+1) o) fun x a o=>rb (stM ts f .br a o) fun l a o =>
   if sees ts a [101,108,115,101]=true then rb (stM ts f .br (a+1) o) fun e a o=>ret (oneS (.mk 6 0 ByteArray.empty [x] (l.headD []) (e.headD []) [])) a o
   else ret (oneS (.mk 6 0 ByteArray.empty [x] (l.headD []) [] [])) a o
  else if sees ts a [119,104,105,108,101]=true then rb (exM ts f (.ex 1) (a+1) o) fun x a o=>rb (stM ts f .br a o) fun l a o=>ret (oneS (.mk 7 0 ByteArray.empty [x] (l.headD []) [] [])) a o
  else if sees ts a [108,111,111,112]=true then rb (stM ts f .br (a+1) o) fun l a o=>ret (oneS (.mk 8 0 ByteArray.empty [] (l.headD []) [] [])) a o
  else if sees ts a [115,119,105,116,99,104]=true then rb (exM ts f (.ex 1) (a+1) o) fun x a o=>rb (begM ts [123] a o) fun _ a o=>rb (stM ts f (.ca []) a o) fun c a o=>ret (oneS (.mk 9 0 ByteArray.empty [x] [] [] c)) a o
  else if sees ts a [98,114,101,97,107]=true then mB ts 10 (a+1) o
  else if sees ts a [99,111,110,116,105,110,117,101]=true then mB ts 11 (a+1) o
  else if sees ts a [114,101,116,117,114,110]=true then mB ts 14 (a+1) o
  else if sees ts a [104,97,108,116]=true then mB ts 15 (a+1) o
  else some (.bad a 3)
 | f+1,.li l,a,o=>if sees ts a [125]=true then ret [l] a o else rb (stM ts f .st a o) fun s a o=>stM ts f (.li (l++[theS s])) a o
 | f+1,.br,a,o=>rb (begM ts [123] a o) fun _ a o=>rb (stM ts f (.li []) a o) fun l a o=>rb (endM ts [125] a o) fun _ a o=>ret l a o
 | f+1,.ca c,a,o =>
  if sees ts a [99,97,115,101]=true then(if(pk ts (a+1)).kind=3∧(pk ts (a+1)).n=c.length then rb (stM ts f .br (a+2) o) fun l a o=>stM ts f (.ca (c++[l.headD []])) a o else some (.bad (a+1) 3))
  else rb (endM ts [125] a o) fun _ a o=>ret c a o
def xL(ts:List Tk)(f:Nat)(a o:Nat):Option (Rs Va) :=
 rb (expM ts [118,97,114] a o) fun _ a o=>rb (nmM ts a o) fun n a o=>rb (expM ts [58] a o) fun _ a o=>rb (tyM ts f .ty a o) fun t a o=>rb (expM ts [59] a o) fun _ a o=>ret ⟨n,t⟩ a o
def accM(ts:List Tk)(s:Bs)(a o:Nat):Option (Rs Bool):=if sees ts a s=true then ret true (a+1) o else ret false a o
def Dg(ts:List Tk)(a o:Nat):Option (Rs Sec) :=
 rb (expM ts [100,97,116,97] a o) fun _ a o=>rb (nmM ts a o) fun n a o=>rb (takM ts 3 a o) fun d a o=>rb (accM ts [119,114,105,116,101] a o) fun w a o=>rb (accM ts [101,120,101,99] a o) fun x a o =>
  rb (expM ts [61] a o) fun _ a o=>rb (takM ts 4 a o) fun b a o=>rb (expM ts [59] a o) fun _ a o=>ret ⟨n,d.n,b.text,w,x⟩ a o
def vasM(ts:List Tk):Nat→List Va→Nat→Nat→Option (Rs (List Va))
 | 0,_,_,_=>none
 | f+1,l,a,o=>if sees ts a [118,97,114]=true then rb (xL ts f a o) fun v a o=>vasM ts f (l++[v]) a o else ret l a o
def funM(ts:List Tk)(f:Nat)(a o:Nat):Option (Rs Fun) :=
 rb (expM ts [102,117,110,99] a o) fun _ a o=>rb (nmM ts a o) fun n a o=>rb (begM ts [123] a o) fun _ a o=>rb (vasM ts f [] a o) fun v a o=>rb (stM ts f (.li []) a o) fun l a o=>rb (endM ts [125] a o) fun _ a o =>
  ret ⟨n,v,l.headD []⟩ a o
def uniM(ts:List Tk):Nat→Un→Nat→Nat→Option (Rs Un)
 | 0,_,_,_=>none
 | f+1,u,a,o =>
  if ts.length≤a then ret u a o
  else if sees ts a [118,97,114]=true then rb (xL ts f a o) fun v a o=>uniM ts f ⟨u.globals++[v],u.data,u.funcs⟩ a o
  else if sees ts a [100,97,116,97]=true then rb (Dg ts a o) fun d a o=>uniM ts f ⟨u.globals,u.data++[d],u.funcs⟩ a o
  else if sees ts a [102,117,110,99]=true then rb (funM ts f a o) fun g a o=>uniM ts f ⟨u.globals,u.data,u.funcs++[g]⟩ a o
  else some (.bad a 3)
def allM{α:Type}(ts:List Tk)(r:Option (Rs α)):Option (Rs α):=rb r fun x a o=>if a<ts.length then some (.bad a 3)else ret x a o
theorem gQ{ts:List Tk}{a o:Nat}{n:ByteArray}{b p:Nat}(h:nmM ts a o=some (.ok n b p)):n=strA (pk ts a).text∧b=a+1∧p=o∧a<ts.length:=by
 obtain⟨t,a1,o1,h1,h2⟩:=aO h
 obtain⟨hk,rfl,rfl,rfl⟩:=iE h1
 cases h2
 exact⟨rfl,rfl,rfl,eJ hk (by decide)⟩
theorem fJ{ts:List Tk}{s:Bs}{a o:Nat}{u:Unit}{b p:Nat}(h:expM ts s a o=some (.ok u b p)):a<ts.length∧b=a+1∧p=o:=by
 obtain⟨h1,h2,h3⟩:=cK h
 exact⟨bJ h1,h2,h3⟩
theorem vA{ts:List Tk}{s:Bs}{a o:Nat}{u:Unit}{b p:Nat}(h:endM ts s a o=some (.ok u b p)):a<ts.length∧b=a+1∧p=o-1:=by
 obtain⟨h1,h2,h3⟩:=oM h
 exact⟨bJ h1,h2,h3⟩
theorem xM{ts:List Tk}{f:Nat}{w:Int}{a o:Nat}{x:List (List Nd)}{b p:Nat}(h:mA ts f w a o=some (.ok x b p)):p=o∧a<b∧b≤ts.length:=by
 obtain⟨_,a1,o1,h1,h⟩:=aO h
 obtain⟨_,a2,o2,h2,h⟩:=aO h
 obtain⟨_,a3,o3,h3,h⟩:=aO h
 obtain⟨_,a4,o4,h4,h⟩:=aO h
 obtain⟨_,a5,o5,h5,h⟩:=aO h
 obtain⟨_,a6,o6,h6,h⟩:=aO h
 have e1:=cE h1
 have e2:=dW _ _ _ _ _ _ _ _ h2
 have e3:=cK h3
 have e4:=dW _ _ _ _ _ _ _ _ h4
 have e5:=oM h5
 have e6:=fJ h6
 cases h;omega
theorem sK{ts:List Tk}{k:Int}{a o:Nat}{x:List (List Nd)}{b p:Nat}(h:mB ts k a o=some (.ok x b p)):p=o∧a<b∧b≤ts.length:=by
 obtain⟨_,a1,o1,h1,h⟩:=aO h
 have e1:=fJ h1
 cases h;omega
theorem BM{ts:List Tk}{f:Nat}{a o:Nat}{x:List (List Nd)}{b p:Nat}(h:Bc ts f a o=some (.ok x b p)):p=o∧a<b∧b≤ts.length:=by
 obtain⟨_,a1,o1,h1,h⟩:=aO h
 have e1:=gQ h1
 split at h
 ·rename_i hk
  have:=bJ hk;cases h;omega
 obtain⟨_,a2,o2,h2,h⟩:=aO h
 have e2:=cK h2
 split at h
 ·obtain⟨_,a3,o3,h3,h⟩:=aO h
  have e3:=fJ h3;cases h;omega
 ·obtain⟨_,a3,o3,h3,h⟩:=aO h
  obtain⟨_,a4,o4,h4,h⟩:=aO h;have e3:=dW _ _ _ _ _ _ _ _ h3;have e4:=fJ h4;cases h;omega
theorem aI{α:Type}{c:Prop}[Decidable c]{x y z:α}(h:(if c then x else y)=z):(c∧x=z)∨(¬c∧y=z):=by
 by_cases hc:c
 ·exact .inl ⟨hc,by rw[if_pos hc]at h;exact h⟩
 ·exact .inr ⟨hc,by rw[if_neg hc]at h;exact h⟩
theorem fW(ts:List Tk): ∀f,(∀a o x b p,stM ts f .st a o=some (.ok x b p)→p=o∧a<b∧b≤ts.length)∧(∀l a o x b p,stM ts f (.li l) a o=some (.ok x b p)→p=o∧a≤b∧b<ts.length) ∧
  (∀a o x b p,stM ts f .br a o=some (.ok x b p)→p=o∧a<b∧b≤ts.length)∧(∀l a o x b p,stM ts f (.ca l) a o=some (.ok x b p)→p=o-1∧a<b∧b≤ts.length):=by
 intro f
 induction f with
 | zero=>exact⟨(fun _ _ _ _ _ h=>by cases h),(fun _ _ _ _ _ _ h=>by cases h),(fun _ _ _ _ _ h=>by cases h),(fun _ _ _ _ _ _ h=>by cases h)⟩
 | succ f ih =>
  obtain⟨i1,i2,i3,i4⟩:=ih;refine⟨fun a o x b p h=> ?_,fun l a o x b p h=> ?_,fun a o x b p h=> ?_,fun l a o x b p h=> ?_⟩
  ·rw[stM]at h
   have kw: ∀ {r:Option (Rs (List (List Nd)))},(r=some (.ok x b p)→p=o∧a+1<b∧b≤ts.length)→r=some (.ok x b p)→p=o∧a<b∧b≤ts.length:=fun g h=>by have:=g h;omega
   rcases aI h with ⟨_,h⟩|⟨_,h⟩
   ·exact BM h
   rcases aI h with ⟨_,h⟩|⟨_,h⟩
   ·obtain⟨_,a1,o1,h1,h⟩:=aO h
    obtain⟨_,a2,o2,h2,h⟩:=aO h;have e1:=gQ h1;have e2:=fJ h2;cases h;omega
   rcases aI h with ⟨_,h⟩|⟨_,h⟩
   ·obtain⟨_,a1,o1,h1,h⟩:=aO h
    obtain⟨_,a2,o2,h2,h⟩:=aO h;have e1:=gQ h1;have e2:=fJ h2;cases h;omega
   rcases aI h with ⟨_,h⟩|⟨_,h⟩
   ·exact kw xM h
   rcases aI h with ⟨_,h⟩|⟨_,h⟩
   ·exact kw xM h
   rcases aI h with ⟨_,h⟩|⟨_,h⟩
   ·exact kw xM h
   rcases aI h with ⟨_,h⟩|⟨_,h⟩
   ·obtain⟨_,a1,o1,h1,h⟩:=aO h
    obtain⟨_,a2,o2,h2,h⟩:=aO h;have e1:=dW _ _ _ _ _ _ _ _ h1;have e2:=fJ h2;cases h;omega
   rcases aI h with ⟨_,h⟩|⟨_,h⟩
   ·obtain⟨_,a1,o1,h1,h⟩:=aO h
    obtain⟨_,a2,o2,h2,h⟩:=aO h;have e1:=dW _ _ _ _ _ _ _ _ h1;have e2:=i3 _ _ _ _ _ h2;rcases aI h with ⟨_,h⟩|⟨_,h⟩
    ·obtain⟨_,a3,o3,h3,h⟩:=aO h
     have e3:=i3 _ _ _ _ _ h3;cases h;omega
    ·cases h;omega
   rcases aI h with ⟨_,h⟩|⟨_,h⟩
   ·obtain⟨_,a1,o1,h1,h⟩:=aO h
    obtain⟨_,a2,o2,h2,h⟩:=aO h;have e1:=dW _ _ _ _ _ _ _ _ h1;have e2:=i3 _ _ _ _ _ h2;cases h;omega
   rcases aI h with ⟨_,h⟩|⟨_,h⟩
   ·obtain⟨_,a1,o1,h1,h⟩:=aO h
    have e1:=i3 _ _ _ _ _ h1;cases h;omega
   rcases aI h with ⟨_,h⟩|⟨_,h⟩
   ·obtain⟨_,a1,o1,h1,h⟩:=aO h
    obtain⟨_,a2,o2,h2,h⟩:=aO h;obtain⟨_,a3,o3,h3,h⟩:=aO h;have e1:=dW _ _ _ _ _ _ _ _ h1;have e2:=cE h2;have e3:=i4 _ _ _ _ _ _ h3;cases h;omega
   rcases aI h with ⟨_,h⟩|⟨_,h⟩
   ·exact kw sK h
   rcases aI h with ⟨_,h⟩|⟨_,h⟩
   ·exact kw sK h
   rcases aI h with ⟨_,h⟩|⟨_,h⟩
   ·exact kw sK h
   rcases aI h with ⟨_,h⟩|⟨_,h⟩
   ·exact kw sK h
   ·cases h
  ·rw[stM]at h
   rcases aI h with ⟨hk,h⟩|⟨_,h⟩
   ·have:=bJ hk
    cases h;omega
   ·obtain⟨_,a1,o1,h1,h⟩:=aO h
    have e1:=i1 _ _ _ _ _ h1;have e2:=i2 _ _ _ _ _ _ h;omega
  ·rw[stM]at h
   obtain⟨_,a1,o1,h1,h⟩:=aO h;obtain⟨_,a2,o2,h2,h⟩:=aO h;obtain⟨_,a3,o3,h3,h⟩:=aO h;have e1:=cE h1;have e2:=i2 _ _ _ _ _ _ h2;have e3:=vA h3;cases h;omega
  ·rw[stM]at h
   rcases aI h with ⟨_,h⟩|⟨_,h⟩
   ·rcases aI h with ⟨_,h⟩|⟨_,h⟩
    ·obtain⟨_,a1,o1,h1,h⟩:=aO h
     have e1:=i3 _ _ _ _ _ h1;have e2:=i4 _ _ _ _ _ _ h;omega
    ·cases h
   ·obtain⟨_,a1,o1,h1,h⟩:=aO h
    have e1:=vA h1;cases h;omega
end Go.Proofs.YtmbmmckagcdapaaGreatDoor
