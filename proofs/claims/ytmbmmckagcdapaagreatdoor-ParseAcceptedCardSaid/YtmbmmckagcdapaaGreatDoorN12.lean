import Derived.Lib.Repeat
import Derived.Lib.ItoaNum
import Derived.Test.YtmbmmckagcdapaaGreatDoorN10
import Derived.Test.YtmbmmckagcdapaaGreatDoorN02
set_option linter.all false
namespace Go.Proofs.YtmbmmckagcdapaaGreatDoor
def nE(k:Int):Int:=if k==1||k==4||k==6||k==7||k==9 then 1 else if k==2 then 2 else 0
def nmd(k:Int):Bool:=k==1||k==3||k==5||k==12||k==13
def lst(k:Int):Bool:=k==6||k==7||k==8
def stT(s:Nd):Bool:=decide (1≤s.kind)&&decide (s.kind≤15)&&decide ((s.e.length:Int)=nE s.kind)&&(if nmd s.kind then nameT s.name else eqS s.name ByteArray.empty)&&(lst s.kind||decide (s.l.length=0))&&(s.kind==6||decide (s.el.length=0)) &&
 (if s.kind==2 then s.width==1||s.width==2||s.width==4 else s.width==0)&&(if s.kind==9 then decide (1≤s.cs.length)&&decide (s.cs.length≤64)else decide (s.cs.length=0))&&s.e.all efm
def lnT(k:Nat)(s:Bs):Bs:=Lib.repeatL [32,32] k++(s++[10])
def Ge(l:List Ex)(i:Nat):Bs:=match l[i]? with
 | some x=>txE x
 | none=>[]
def simT(t:Nd):Bs :=
 if t.kind=1 then t.name.data.toList++([32,61,32]++(Ge t.e 0++[59]))
 else if t.kind=2 then [115,116,111,114,101]++(wB t.width++([40]++(Ge t.e 0++([44,32]++(Ge t.e 1++[41,59])))))
 else if t.kind=3 then t.name.data.toList++[32,61,32,105,110,59]
 else if t.kind=4 then [111,117,116,32]++(Ge t.e 0++[59])
 else if t.kind=5 then [99,97,108,108,32]++(t.name.data.toList++[59])
 else if t.kind=12 then [103,111,116,111,32]++(t.name.data.toList++[59])
 else if t.kind=13 then t.name.data.toList++[58]
 else if t.kind=10 then [98,114,101,97,107,59]
 else if t.kind=11 then [99,111,110,116,105,110,117,101,59]
 else if t.kind=14 then [114,101,116,117,114,110,59]
 else [104,97,108,116,59]
theorem iF{t:Nd}(h:stT t=true):(1≤t.kind∧t.kind≤15)∧(t.e.length:Int)=nE t.kind∧(∀x∈t.e,efm x=true)∧(t.kind=2→t.width=1∨t.width=2∨t.width=4):=by
 unfold stT at h
 simp only[Bool.and_eq_true,decide_eq_true_eq,List.all_eq_true]at h
 obtain⟨⟨⟨⟨⟨⟨⟨⟨h1,h2⟩,h3⟩,h4⟩,h5⟩,h6⟩,h7⟩,h8⟩,h9⟩:=h
 refine⟨⟨h1,h2⟩,h3,h9,fun hk=> ?_⟩
 rw[hk]at h7
 simpa[or_assoc]using h7
theorem xG{l:List Ex}(h:(l.length:Int)=1): ∃a,l=[a]:=by
 match l,h with
 | [a],_=>exact⟨a,rfl⟩
 | [],h=>simp at h
 | a::b::r,h=>simp at h;omega
theorem BT{l:List Ex}(h:(l.length:Int)=2): ∃a b,l=[a,b]:=by
 match l,h with
 | [a,b],_=>exact⟨a,b,rfl⟩
 | [],h=>simp at h
 | [a],h=>simp at h
 | a::b::c::r,h=>simp at h;omega
def caT(k:Nat)(p:List (Nat→Bs)×Nat):Bs:=lnT (k+1) ([99,97,115,101,32]++(Lib.itoa p.2++[32,123]))++((p.1.map fun f=>f (k+2)).flatten++lnT (k+1) [125])
def ndN(t:Nd)(r1 r2:List (Nat→Bs))(r3:List (List (Nat→Bs)))(k:Nat):Bs :=
 if t.kind=6 then lnT k ([105,102,32]++(Ge t.e 0++[32,123]))++((r1.map fun f=>f (k+1)).flatten++((if r2.length=0 then []else lnT k [125,32,101,108,115,101,32,123]++(r2.map fun f=>f (k+1)).flatten)++lnT k [125]))
 else if t.kind=7 then lnT k ([119,104,105,108,101,32]++(Ge t.e 0++[32,123]))++((r1.map fun f=>f (k+1)).flatten++lnT k [125])
 else if t.kind=8 then lnT k [108,111,111,112,32,123]++((r1.map fun f=>f (k+1)).flatten++lnT k [125])
 else if t.kind=9 then lnT k ([115,119,105,116,99,104,32]++(Ge t.e 0++[32,123]))++((r3.zipIdx.map (caT k)).flatten++lnT k [125])
 else lnT k (simT t)
def ndT:Nd→Nat→Bs:=Nd.para ndN
theorem jK(k w:Int)(n:ByteArray)(e:List Ex)(l el:List Nd)(cs:List (List Nd)):ndT (.mk k w n e l el cs)=ndN (.mk k w n e l el cs) (l.map ndT) (el.map ndT) (cs.map (List.map ndT)):=by
 unfold ndT
 rw[Nd.para_mk]
def lsT(l:List Nd)(k:Nat):Bs:=(l.map fun t=>ndT t k).flatten
theorem xI(l:List Nd)(k:Nat):((l.map ndT).map fun f=>f k).flatten=lsT l k:=by
 unfold lsT
 rw[List.map_map]
 rfl
theorem Nl{l:List Nd}{m k:Nat}(h:m<l.length):lsT (l.take (m+1)) k=lsT (l.take m) k++ndT l[m] k:=by
 unfold lsT
 rw[List.take_succ_eq_append_getElem h,List.map_append,List.flatten_append]
 simp
theorem RP{l:List Nd}{m k:Nat}:(lsT (l.take m) k).length≤(lsT l k).length:=by
 have:lsT l k=lsT (l.take m) k++lsT (l.drop m) k:=by
  unfold lsT;rw[←List.flatten_append,←List.map_append,List.take_append_drop]
 rw[this,List.length_append]
 omega
def okT:Nd→Bool:=Nd.para fun t a b c=>stT t&&(a.all id&&(b.all id&&c.all fun r=>r.all id))
theorem zB(k w:Int)(n:ByteArray)(e:List Ex)(l el:List Nd)(cs:List (List Nd)):okT (.mk k w n e l el cs)=(stT (.mk k w n e l el cs)&&(l.all okT&&(el.all okT&&cs.all fun c=>c.all okT))):=by
 have h:okT (.mk k w n e l el cs)=_:=Nd.para_mk _ k w n e l el cs
 rw[h]
 simp only[List.all_map,Function.comp_def,id_eq]
 rfl
theorem mH{l:List Nd}{t:Nd}(h:t∈l):depT t≤dep l:=ER (List.mem_map.2 ⟨t,h,rfl⟩)
theorem qU{t:Nd}{c:List Nd}(h:c∈subs t):1+dep c≤depT t:=by
 rw[Bn]
 have:dep c≤mx ((subs t).map dep):=ER (List.mem_map.2 ⟨c,h,rfl⟩)
 omega
theorem Ej(t:Nd):1≤depT t:=by
 rw[Bn]
 have:=OV ((subs t).map dep)
 omega
theorem nd6(k:Nat)(w:Int)(n:ByteArray)(a:Ex)(l el:List Nd)(cs:List (List Nd)):ndT (.mk 6 w n [a] l el cs) k=lnT k ([105,102,32]++(txE a++[32,123]))++(lsT l (k+1)++((if el.length=0 then []else lnT k [125,32,101,108,115,101,32,123]++lsT el (k+1))++lnT k [125])):=by
 have hl:(el.map ndT).length=el.length:=List.length_map _
 rw[jK,←xI,←xI,←hl]
 rfl
theorem nd7(k:Nat)(w:Int)(n:ByteArray)(a:Ex)(l el:List Nd)(cs:List (List Nd)):ndT (.mk 7 w n [a] l el cs) k=lnT k ([119,104,105,108,101,32]++(txE a++[32,123]))++(lsT l (k+1)++lnT k [125]):=by
 rw[jK,←xI]
 rfl
theorem nd8(k:Nat)(w:Int)(n:ByteArray)(e:List Ex)(l el:List Nd)(cs:List (List Nd)):ndT (.mk 8 w n e l el cs) k=lnT k [108,111,111,112,32,123]++(lsT l (k+1)++lnT k [125]):=by
 rw[jK,←xI]
 rfl
def caS(k:Nat)(p:List Nd×Nat):Bs:=lnT (k+1) ([99,97,115,101,32]++(Lib.itoa p.2++[32,123]))++(lsT p.1 (k+2)++lnT (k+1) [125])
theorem nd9(k:Nat)(w:Int)(n:ByteArray)(a:Ex)(l el:List Nd)(cs:List (List Nd)):ndT (.mk 9 w n [a] l el cs) k=lnT k ([115,119,105,116,99,104,32]++(txE a++[32,123]))++((cs.zipIdx.map (caS k)).flatten++lnT k [125]):=by
 rw[jK]
 have:((cs.map (List.map ndT)).zipIdx.map (caT k))=cs.zipIdx.map (caS k):=by
  rw[List.zipIdx_map,List.map_map];refine List.map_congr_left fun p _=> ?_
  obtain⟨c,i⟩:=p;unfold caS;rw[←xI];rfl
 rw[←this]
 rfl
def strA(b:Bs):ByteArray:=⟨b.toArray⟩
def nd0:Nd:= .mk 0 0 ByteArray.empty [] [] [] []
def nmM(ts:List Tk)(a o:Nat):Option (Rs ByteArray):=rb (takM ts 1 a o) fun t a o=>ret (strA t.text) a o
inductive Md6 where
 | st
 | li (l:List Nd)
 | br
 | ca (l:List (List Nd))
def oneS(s:Nd):List (List Nd):=[[s]]
def theS(x:List (List Nd)):Nd:=(x.headD []).headD nd0
def kR(ts:List Tk)(f:Nat)(w:Int)(a o:Nat):Option (Rs (List (List Nd))) :=
 rb (begM ts [40] a o) fun _ a o=>rb (exM ts f (.ex 1) a o) fun x a o=>rb (expM ts [44] a o) fun _ a o=>rb (exM ts f (.ex 1) a o) fun y a o=>rb (endM ts [41] a o) fun _ a o=>rb (expM ts [59] a o) fun _ a o =>
  ret (oneS (.mk 2 w ByteArray.empty [x,y] [] [] [])) a o
def kS(ts:List Tk)(k:Int)(a o:Nat):Option (Rs (List (List Nd))):=rb (expM ts [59] a o) fun _ a o=>ret (oneS (.mk k 0 ByteArray.empty [] [] [] [])) a o
def zF(ts:List Tk)(f:Nat)(a o:Nat):Option (Rs (List (List Nd))) :=
 rb (nmM ts a o) fun n a o=>if sees ts a [58]=true then ret (oneS (.mk 13 0 n [] [] [] [])) (a+1) o
  else rb (expM ts [61] a o) fun _ a o=>if sees ts a [105,110]=true then rb (expM ts [59] (a+1) o) fun _ a o=>ret (oneS (.mk 3 0 n [] [] [] [])) a o
   else rb (exM ts f (.ex 1) a o) fun x a o=>rb (expM ts [59] a o) fun _ a o=>ret (oneS (.mk 1 0 n [x] [] [] [])) a o
def stM(ts:List Tk):Nat→Md6→Nat→Nat→Option (Rs (List (List Nd)))
 | 0,_,_,_=>none
 | f+1,.st,a,o =>
  if(pk ts a).kind=1 then zF ts f a o
  else if sees ts a [103,111,116,111]=true then rb (nmM ts (a+1) o) fun n a o=>rb (expM ts [59] a o) fun _ a o=>ret (oneS (.mk 12 0 n [] [] [] [])) a o
  else if sees ts a [99,97,108,108]=true then rb (nmM ts (a+1) o) fun n a o=>rb (expM ts [59] a o) fun _ a o=>ret (oneS (.mk 5 0 n [] [] [] [])) a o
  else if sees ts a [115,116,111,114,101,49]=true then kR ts f 1 (a+1) o
  else if sees ts a [115,116,111,114,101,50]=true then kR ts f 2 (a+1) o
  else if sees ts a [115,116,111,114,101,52]=true then kR ts f 4 (a+1) o
  else if sees ts a [111,117,116]=true then rb (exM ts f (.ex 1) (a+1) o) fun x a o=>rb (expM ts [59] a o) fun _ a o=>ret (oneS (.mk 4 0 ByteArray.empty [x] [] [] [])) a o
  else if sees ts a [105,102]=true then rb (exM ts f (.ex 1) (a+1) o) fun x a o=>rb (stM ts f .br a o) fun l a o =>
   if sees ts a [101,108,115,101]=true then rb (stM ts f .br (a+1) o) fun e a o=>ret (oneS (.mk 6 0 ByteArray.empty [x] (l.headD []) (e.headD []) [])) a o
   else ret (oneS (.mk 6 0 ByteArray.empty [x] (l.headD []) [] [])) a o
  else if sees ts a [119,104,105,108,101]=true then rb (exM ts f (.ex 1) (a+1) o) fun x a o=>rb (stM ts f .br a o) fun l a o=>ret (oneS (.mk 7 0 ByteArray.empty [x] (l.headD []) [] [])) a o
  else if sees ts a [108,111,111,112]=true then rb (stM ts f .br (a+1) o) fun l a o=>ret (oneS (.mk 8 0 ByteArray.empty [] (l.headD []) [] [])) a o
  else if sees ts a [115,119,105,116,99,104]=true then rb (exM ts f (.ex 1) (a+1) o) fun x a o=>rb (begM ts [123] a o) fun _ a o=>rb (stM ts f (.ca []) a o) fun c a o=>ret (oneS (.mk 9 0 ByteArray.empty [x] [] [] c)) a o
  else if sees ts a [98,114,101,97,107]=true then kS ts 10 (a+1) o
  else if sees ts a [99,111,110,116,105,110,117,101]=true then kS ts 11 (a+1) o
  else if sees ts a [114,101,116,117,114,110]=true then kS ts 14 (a+1) o
  else if sees ts a [104,97,108,116]=true then kS ts 15 (a+1) o
  else some (.bad a 3)
 | f+1,.li l,a,o=>if sees ts a [125]=true then ret [l] a o else rb (stM ts f .st a o) fun s a o=>stM ts f (.li (l++[theS s])) a o
 | f+1,.br,a,o=>rb (begM ts [123] a o) fun _ a o=>rb (stM ts f (.li []) a o) fun l a o=>rb (endM ts [125] a o) fun _ a o=>ret l a o
 | f+1,.ca c,a,o =>
  if sees ts a [99,97,115,101]=true then(if(pk ts (a+1)).kind=3∧(pk ts (a+1)).n=c.length then rb (stM ts f .br (a+2) o) fun l a o=>stM ts f (.ca (c++[l.headD []])) a o else some (.bad (a+1) 3))
  else rb (endM ts [125] a o) fun _ a o=>ret c a o
def vM(ts:List Tk)(f:Nat)(a o:Nat):Option (Rs Va) :=
 rb (expM ts [118,97,114] a o) fun _ a o=>rb (nmM ts a o) fun n a o=>rb (expM ts [58] a o) fun _ a o=>rb (tyM ts f .ty a o) fun t a o=>rb (expM ts [59] a o) fun _ a o=>ret ⟨n,t⟩ a o
def accM(ts:List Tk)(s:Bs)(a o:Nat):Option (Rs Bool):=if sees ts a s=true then ret true (a+1) o else ret false a o
def wC(ts:List Tk)(a o:Nat):Option (Rs Sec) :=
 rb (expM ts [100,97,116,97] a o) fun _ a o=>rb (nmM ts a o) fun n a o=>rb (takM ts 3 a o) fun d a o=>rb (accM ts [119,114,105,116,101] a o) fun w a o=>rb (accM ts [101,120,101,99] a o) fun x a o =>
  rb (expM ts [61] a o) fun _ a o=>rb (takM ts 4 a o) fun b a o=>rb (expM ts [59] a o) fun _ a o=>ret ⟨n,d.n,b.text,w,x⟩ a o
def vasM(ts:List Tk):Nat→List Va→Nat→Nat→Option (Rs (List Va))
 | 0,_,_,_=>none
 | f+1,l,a,o=>if sees ts a [118,97,114]=true then rb (vM ts f a o) fun v a o=>vasM ts f (l++[v]) a o else ret l a o
def funM(ts:List Tk)(f:Nat)(a o:Nat):Option (Rs Fun) :=
 rb (expM ts [102,117,110,99] a o) fun _ a o=>rb (nmM ts a o) fun n a o=>rb (begM ts [123] a o) fun _ a o=>rb (vasM ts f [] a o) fun v a o=>rb (stM ts f (.li []) a o) fun l a o=>rb (endM ts [125] a o) fun _ a o =>
  ret ⟨n,v,l.headD []⟩ a o
def uniM(ts:List Tk):Nat→Un→Nat→Nat→Option (Rs Un)
 | 0,_,_,_=>none
 | f+1,u,a,o =>
  if ts.length≤a then ret u a o
  else if sees ts a [118,97,114]=true then rb (vM ts f a o) fun v a o=>uniM ts f ⟨u.globals++[v],u.data,u.funcs⟩ a o
  else if sees ts a [100,97,116,97]=true then rb (wC ts a o) fun d a o=>uniM ts f ⟨u.globals,u.data++[d],u.funcs⟩ a o
  else if sees ts a [102,117,110,99]=true then rb (funM ts f a o) fun g a o=>uniM ts f ⟨u.globals,u.data,u.funcs++[g]⟩ a o
  else some (.bad a 3)
def allM{α:Type}(ts:List Tk)(r:Option (Rs α)):Option (Rs α):=rb r fun x a o=>if a<ts.length then some (.bad a 3)else ret x a o
theorem eQ{ts:List Tk}{a o:Nat}{n:ByteArray}{b p:Nat}(h:nmM ts a o=some (.ok n b p)):n=strA (pk ts a).text∧b=a+1∧p=o∧a<ts.length:=by
 obtain⟨t,a1,o1,h1,h2⟩:=aG h
 obtain⟨hk,rfl,rfl,rfl⟩:=eY h1
 cases h2
 exact⟨rfl,rfl,rfl,dZ hk (by decide)⟩
theorem fC{ts:List Tk}{s:Bs}{a o:Nat}{u:Unit}{b p:Nat}(h:expM ts s a o=some (.ok u b p)):a<ts.length∧b=a+1∧p=o:=by
 obtain⟨h1,h2,h3⟩:=bH h
 exact⟨bI h1,h2,h3⟩
theorem tM{ts:List Tk}{s:Bs}{a o:Nat}{u:Unit}{b p:Nat}(h:endM ts s a o=some (.ok u b p)):a<ts.length∧b=a+1∧p=o-1:=by
 obtain⟨h1,h2,h3⟩:=iQ h
 exact⟨bI h1,h2,h3⟩
theorem vT{ts:List Tk}{f:Nat}{w:Int}{a o:Nat}{x:List (List Nd)}{b p:Nat}(h:kR ts f w a o=some (.ok x b p)):p=o∧a<b∧b≤ts.length:=by
 obtain⟨_,a1,o1,h1,h⟩:=aG h
 obtain⟨_,a2,o2,h2,h⟩:=aG h
 obtain⟨_,a3,o3,h3,h⟩:=aG h
 obtain⟨_,a4,o4,h4,h⟩:=aG h
 obtain⟨_,a5,o5,h5,h⟩:=aG h
 obtain⟨_,a6,o6,h6,h⟩:=aG h
 have e1:=bO h1
 have e2:=dM _ _ _ _ _ _ _ _ h2
 have e3:=bH h3
 have e4:=dM _ _ _ _ _ _ _ _ h4
 have e5:=iQ h5
 have e6:=fC h6
 cases h;omega
theorem qX{ts:List Tk}{k:Int}{a o:Nat}{x:List (List Nd)}{b p:Nat}(h:kS ts k a o=some (.ok x b p)):p=o∧a<b∧b≤ts.length:=by
 obtain⟨_,a1,o1,h1,h⟩:=aG h
 have e1:=fC h1
 cases h;omega
theorem Ym{ts:List Tk}{f:Nat}{a o:Nat}{x:List (List Nd)}{b p:Nat}(h:zF ts f a o=some (.ok x b p)):p=o∧a<b∧b≤ts.length:=by
 obtain⟨_,a1,o1,h1,h⟩:=aG h
 have e1:=eQ h1
 split at h
 ·rename_i hk
  have:=bI hk;cases h;omega
 obtain⟨_,a2,o2,h2,h⟩:=aG h
 have e2:=bH h2
 split at h
 ·obtain⟨_,a3,o3,h3,h⟩:=aG h
  have e3:=fC h3;cases h;omega
 ·obtain⟨_,a3,o3,h3,h⟩:=aG h
  obtain⟨_,a4,o4,h4,h⟩:=aG h;have e3:=dM _ _ _ _ _ _ _ _ h3;have e4:=fC h4;cases h;omega
theorem aF{α:Type}{c:Prop}[Decidable c]{x y z:α}(h:(if c then x else y)=z):(c∧x=z)∨(¬c∧y=z):=by
 by_cases hc:c
 ·exact .inl ⟨hc,by rw[if_pos hc]at h;exact h⟩
 ·exact .inr ⟨hc,by rw[if_neg hc]at h;exact h⟩
theorem fN(ts:List Tk): ∀f,(∀a o x b p,stM ts f .st a o=some (.ok x b p)→p=o∧a<b∧b≤ts.length)∧(∀l a o x b p,stM ts f (.li l) a o=some (.ok x b p)→p=o∧a≤b∧b<ts.length) ∧
  (∀a o x b p,stM ts f .br a o=some (.ok x b p)→p=o∧a<b∧b≤ts.length)∧(∀l a o x b p,stM ts f (.ca l) a o=some (.ok x b p)→p=o-1∧a<b∧b≤ts.length):=by
 intro f
 induction f with
 | zero=>exact⟨(fun _ _ _ _ _ h=>by cases h),(fun _ _ _ _ _ _ h=>by cases h),(fun _ _ _ _ _ h=>by cases h),(fun _ _ _ _ _ _ h=>by cases h)⟩
 | succ f ih =>
  obtain⟨i1,i2,i3,i4⟩:=ih;refine⟨fun a o x b p h=> ?_,fun l a o x b p h=> ?_,fun a o x b p h=> ?_,fun l a o x b p h=> ?_⟩
  ·rw[stM]at h
   have kw: ∀ {r:Option (Rs (List (List Nd)))},(r=some (.ok x b p)→p=o∧a+1<b∧b≤ts.length)→r=some (.ok x b p)→p=o∧a<b∧b≤ts.length:=fun g h=>by have:=g h;omega
   rcases aF h with ⟨_,h⟩|⟨_,h⟩
   ·exact Ym h
   rcases aF h with ⟨_,h⟩|⟨_,h⟩
   ·obtain⟨_,a1,o1,h1,h⟩:=aG h
    obtain⟨_,a2,o2,h2,h⟩:=aG h;have e1:=eQ h1;have e2:=fC h2;cases h;omega
   rcases aF h with ⟨_,h⟩|⟨_,h⟩
   ·obtain⟨_,a1,o1,h1,h⟩:=aG h
    obtain⟨_,a2,o2,h2,h⟩:=aG h;have e1:=eQ h1;have e2:=fC h2;cases h;omega
   rcases aF h with ⟨_,h⟩|⟨_,h⟩
   ·exact kw vT h
   rcases aF h with ⟨_,h⟩|⟨_,h⟩
   ·exact kw vT h
   rcases aF h with ⟨_,h⟩|⟨_,h⟩
   ·exact kw vT h
   rcases aF h with ⟨_,h⟩|⟨_,h⟩
   ·obtain⟨_,a1,o1,h1,h⟩:=aG h
    obtain⟨_,a2,o2,h2,h⟩:=aG h;have e1:=dM _ _ _ _ _ _ _ _ h1;have e2:=fC h2;cases h;omega
   rcases aF h with ⟨_,h⟩|⟨_,h⟩
   ·obtain⟨_,a1,o1,h1,h⟩:=aG h
    obtain⟨_,a2,o2,h2,h⟩:=aG h;have e1:=dM _ _ _ _ _ _ _ _ h1;have e2:=i3 _ _ _ _ _ h2;rcases aF h with ⟨_,h⟩|⟨_,h⟩
    ·obtain⟨_,a3,o3,h3,h⟩:=aG h
     have e3:=i3 _ _ _ _ _ h3;cases h;omega
    ·cases h;omega
   rcases aF h with ⟨_,h⟩|⟨_,h⟩
   ·obtain⟨_,a1,o1,h1,h⟩:=aG h
    obtain⟨_,a2,o2,h2,h⟩:=aG h;have e1:=dM _ _ _ _ _ _ _ _ h1;have e2:=i3 _ _ _ _ _ h2;cases h;omega
   rcases aF h with ⟨_,h⟩|⟨_,h⟩
   ·obtain⟨_,a1,o1,h1,h⟩:=aG h
    have e1:=i3 _ _ _ _ _ h1;cases h;omega
   rcases aF h with ⟨_,h⟩|⟨_,h⟩
   ·obtain⟨_,a1,o1,h1,h⟩:=aG h
    obtain⟨_,a2,o2,h2,h⟩:=aG h;obtain⟨_,a3,o3,h3,h⟩:=aG h;have e1:=dM _ _ _ _ _ _ _ _ h1;have e2:=bO h2;have e3:=i4 _ _ _ _ _ _ h3;cases h;omega
   rcases aF h with ⟨_,h⟩|⟨_,h⟩
   ·exact kw qX h
   rcases aF h with ⟨_,h⟩|⟨_,h⟩
   ·exact kw qX h
   rcases aF h with ⟨_,h⟩|⟨_,h⟩
   ·exact kw qX h
   rcases aF h with ⟨_,h⟩|⟨_,h⟩
   ·exact kw qX h
   ·cases h
  ·rw[stM]at h
   rcases aF h with ⟨hk,h⟩|⟨_,h⟩
   ·have:=bI hk
    cases h;omega
   ·obtain⟨_,a1,o1,h1,h⟩:=aG h
    have e1:=i1 _ _ _ _ _ h1;have e2:=i2 _ _ _ _ _ _ h;omega
  ·rw[stM]at h
   obtain⟨_,a1,o1,h1,h⟩:=aG h;obtain⟨_,a2,o2,h2,h⟩:=aG h;obtain⟨_,a3,o3,h3,h⟩:=aG h;have e1:=bO h1;have e2:=i2 _ _ _ _ _ _ h2;have e3:=tM h3;cases h;omega
  ·rw[stM]at h
   rcases aF h with ⟨_,h⟩|⟨_,h⟩
   ·rcases aF h with ⟨_,h⟩|⟨_,h⟩
    ·obtain⟨_,a1,o1,h1,h⟩:=aG h
     have e1:=i3 _ _ _ _ _ h1;have e2:=i4 _ _ _ _ _ _ h;omega
    ·cases h
   ·obtain⟨_,a1,o1,h1,h⟩:=aG h
    have e1:=tM h1;cases h;omega
end Go.Proofs.YtmbmmckagcdapaaGreatDoor
