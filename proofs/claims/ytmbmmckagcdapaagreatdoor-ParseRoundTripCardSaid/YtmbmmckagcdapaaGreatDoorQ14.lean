import Derived.Lib.Repeat
import Derived.Lib.ItoaNum
import Derived.Test.YtmbmmckagcdapaaGreatDoorQ12
import Derived.Test.YtmbmmckagcdapaaGreatDoorQ07
set_option linter.all false
namespace Go.Proofs.YtmbmmckagcdapaaGreatDoor
def nE(k:Int):Int:=if k==1||k==4||k==6||k==7||k==9 then 1 else if k==2 then 2 else 0
def nmd(k:Int):Bool:=k==1||k==3||k==5||k==12||k==13
def lst(k:Int):Bool:=k==6||k==7||k==8
def stT(s:Nd):Bool:=decide (1≤s.kind)&&decide (s.kind≤15)&&decide ((s.e.length:Int)=nE s.kind)&&(if nmd s.kind then nameT s.name else eqS s.name ByteArray.empty)&&(lst s.kind||decide (s.l.length=0))&&(s.kind==6||decide (s.el.length=0)) &&
 (if s.kind==2 then s.width==1||s.width==2||s.width==4 else s.width==0)&&(if s.kind==9 then decide (1≤s.cs.length)&&decide (s.cs.length≤64)else decide (s.cs.length=0))&&s.e.all efm
def lnT(k:Nat)(s:Bs):Bs:=Lib.repeatL [32,32] k++(s++[10])
def In(l:List Ex)(i:Nat):Bs:=match l[i]? with
 | some x=>txE x
 | none=>[]
def simT(t:Nd):Bs :=
 if t.kind=1 then t.name.data.toList++([32,61,32]++(In t.e 0++[59]))
 else if t.kind=2 then [115,116,111,114,101]++(wB t.width++([40]++(In t.e 0++([44,32]++(In t.e 1++[41,59])))))
 else if t.kind=3 then t.name.data.toList++[32,61,32,105,110,59]
 else if t.kind=4 then [111,117,116,32]++(In t.e 0++[59])
 else if t.kind=5 then [99,97,108,108,32]++(t.name.data.toList++[59])
 else if t.kind=12 then [103,111,116,111,32]++(t.name.data.toList++[59])
 else if t.kind=13 then t.name.data.toList++[58]
 else if t.kind=10 then [98,114,101,97,107,59]
 else if t.kind=11 then [99,111,110,116,105,110,117,101,59]
 else if t.kind=14 then [114,101,116,117,114,110,59]
 else [104,97,108,116,59]
theorem iI{t:Nd}(h:stT t=true):(1≤t.kind∧t.kind≤15)∧(t.e.length:Int)=nE t.kind∧(∀x∈t.e,efm x=true)∧(t.kind=2→t.width=1∨t.width=2∨t.width=4):=by
 unfold stT at h
 simp only[Bool.and_eq_true,decide_eq_true_eq,List.all_eq_true]at h
 obtain⟨⟨⟨⟨⟨⟨⟨⟨h1,h2⟩,h3⟩,h4⟩,h5⟩,h6⟩,h7⟩,h8⟩,h9⟩:=h
 refine⟨⟨h1,h2⟩,h3,h9,fun hk=> ?_⟩
 rw[hk]at h7
 simpa[or_assoc]using h7
theorem yZ{l:List Ex}(h:(l.length:Int)=1): ∃a,l=[a]:=by
 match l,h with
 | [a],_=>exact⟨a,rfl⟩
 | [],h=>simp at h
 | a::b::r,h=>simp at h;omega
theorem ER{l:List Ex}(h:(l.length:Int)=2): ∃a b,l=[a,b]:=by
 match l,h with
 | [a,b],_=>exact⟨a,b,rfl⟩
 | [],h=>simp at h
 | [a],h=>simp at h
 | a::b::c::r,h=>simp at h;omega
def caT(k:Nat)(p:List (Nat→Bs)×Nat):Bs:=lnT (k+1) ([99,97,115,101,32]++(Lib.itoa p.2++[32,123]))++((p.1.map fun f=>f (k+2)).flatten++lnT (k+1) [125])
def ndN(t:Nd)(r1 r2:List (Nat→Bs))(r3:List (List (Nat→Bs)))(k:Nat):Bs :=
 if t.kind=6 then lnT k ([105,102,32]++(In t.e 0++[32,123]))++((r1.map fun f=>f (k+1)).flatten++((if r2.length=0 then []else lnT k [125,32,101,108,115,101,32,123]++(r2.map fun f=>f (k+1)).flatten)++lnT k [125]))
 else if t.kind=7 then lnT k ([119,104,105,108,101,32]++(In t.e 0++[32,123]))++((r1.map fun f=>f (k+1)).flatten++lnT k [125])
 else if t.kind=8 then lnT k [108,111,111,112,32,123]++((r1.map fun f=>f (k+1)).flatten++lnT k [125])
 else if t.kind=9 then lnT k ([115,119,105,116,99,104,32]++(In t.e 0++[32,123]))++((r3.zipIdx.map (caT k)).flatten++lnT k [125])
 else lnT k (simT t)
def ndT:Nd→Nat→Bs:=Nd.para ndN
theorem kH(k w:Int)(n:ByteArray)(e:List Ex)(l el:List Nd)(cs:List (List Nd)):ndT (.mk k w n e l el cs)=ndN (.mk k w n e l el cs) (l.map ndT) (el.map ndT) (cs.map (List.map ndT)):=by
 unfold ndT
 rw[Nd.para_mk]
def lsT(l:List Nd)(k:Nat):Bs:=(l.map fun t=>ndT t k).flatten
theorem zB(l:List Nd)(k:Nat):((l.map ndT).map fun f=>f k).flatten=lsT l k:=by
 unfold lsT
 rw[List.map_map]
 rfl
theorem Qe{l:List Nd}{m k:Nat}(h:m<l.length):lsT (l.take (m+1)) k=lsT (l.take m) k++ndT l[m] k:=by
 unfold lsT
 rw[List.take_succ_eq_append_getElem h,List.map_append,List.flatten_append]
 simp
theorem VJ{l:List Nd}{m k:Nat}:(lsT (l.take m) k).length≤(lsT l k).length:=by
 have:lsT l k=lsT (l.take m) k++lsT (l.drop m) k:=by
  unfold lsT;rw[←List.flatten_append,←List.map_append,List.take_append_drop]
 rw[this,List.length_append]
 omega
def okT:Nd→Bool:=Nd.para fun t a b c=>stT t&&(a.all id&&(b.all id&&c.all fun r=>r.all id))
theorem Ax(k w:Int)(n:ByteArray)(e:List Ex)(l el:List Nd)(cs:List (List Nd)):okT (.mk k w n e l el cs)=(stT (.mk k w n e l el cs)&&(l.all okT&&(el.all okT&&cs.all fun c=>c.all okT))):=by
 have h:okT (.mk k w n e l el cs)=_:=Nd.para_mk _ k w n e l el cs
 rw[h]
 simp only[List.all_map,Function.comp_def,id_eq]
 rfl
theorem wC{l:List Nd}{t:Nd}(h:t∈l):depT t≤dep l:=HV (List.mem_map.2 ⟨t,h,rfl⟩)
theorem vR{t:Nd}{c:List Nd}(h:c∈subs t):1+dep c≤depT t:=by
 rw[Ds]
 have:dep c≤mx ((subs t).map dep):=HV (List.mem_map.2 ⟨c,h,rfl⟩)
 omega
theorem Rh(t:Nd):1≤depT t:=by
 rw[Ds]
 have:=SJ ((subs t).map dep)
 omega
theorem nd6(k:Nat)(w:Int)(n:ByteArray)(a:Ex)(l el:List Nd)(cs:List (List Nd)):ndT (.mk 6 w n [a] l el cs) k=lnT k ([105,102,32]++(txE a++[32,123]))++(lsT l (k+1)++((if el.length=0 then []else lnT k [125,32,101,108,115,101,32,123]++lsT el (k+1))++lnT k [125])):=by
 have hl:(el.map ndT).length=el.length:=List.length_map _
 rw[kH,←zB,←zB,←hl]
 rfl
theorem nd7(k:Nat)(w:Int)(n:ByteArray)(a:Ex)(l el:List Nd)(cs:List (List Nd)):ndT (.mk 7 w n [a] l el cs) k=lnT k ([119,104,105,108,101,32]++(txE a++[32,123]))++(lsT l (k+1)++lnT k [125]):=by
 rw[kH,←zB]
 rfl
theorem nd8(k:Nat)(w:Int)(n:ByteArray)(e:List Ex)(l el:List Nd)(cs:List (List Nd)):ndT (.mk 8 w n e l el cs) k=lnT k [108,111,111,112,32,123]++(lsT l (k+1)++lnT k [125]):=by
 rw[kH,←zB]
 rfl
def caS(k:Nat)(p:List Nd×Nat):Bs:=lnT (k+1) ([99,97,115,101,32]++(Lib.itoa p.2++[32,123]))++(lsT p.1 (k+2)++lnT (k+1) [125])
theorem nd9(k:Nat)(w:Int)(n:ByteArray)(a:Ex)(l el:List Nd)(cs:List (List Nd)):ndT (.mk 9 w n [a] l el cs) k=lnT k ([115,119,105,116,99,104,32]++(txE a++[32,123]))++((cs.zipIdx.map (caS k)).flatten++lnT k [125]):=by
 rw[kH]
 have:((cs.map (List.map ndT)).zipIdx.map (caT k))=cs.zipIdx.map (caS k):=by
  rw[List.zipIdx_map,List.map_map];refine List.map_congr_left fun p _=> ?_
  obtain⟨c,i⟩:=p;unfold caS;rw[←zB];rfl
 rw[←this]
 rfl
end Go.Proofs.YtmbmmckagcdapaaGreatDoor
