import Derived.Test.YtmbmmckagcdapaaGreatDoorQ00
import Derived.Test.YtmbmmckagcdapaaGreatDoorQ10
set_option linter.all false
namespace Go.Proofs.YtmbmmckagcdapaaGreatDoor
def oJ(o:Int):Bs:=if o=3 then [43]else if o=4 then [45]else if o=5 then [42]else if o=6 then [38]else if o=7 then [124]else if o=8 then [94]else if o=9 then [60,60]else if o=10 then [62,62]else if o=11 then [62,62,115]else if o=12 then [61,61]else if o=13 then [33,61]else if o=14 then [60,115]else [60]
def stO(o:Int):Nat:=if o=3 then 7 else if o=4 then 7 else if o=5 then 8 else if o=6 then 3 else if o=7 then 1 else if o=8 then 2 else if o=9 then 6 else if o=10 then 6 else if o=11 then 6 else if o=12 then 4 else if o=13 then 4 else if o=14 then 5 else 5
def strE(o:Int):Nat:=if 3≤o∧o≤15 then stO o else if o=16∨o=17 then 9 else 10
def opdT(o:Int)(t:Bs)(need:Nat):Bs:=if strE o<need then 40::(t++[41])else t
def wB(w:Int):Bs:=[UInt8.ofNat (48+w.toNat)]
def Fu(l:List Ex)(i:Nat):Int:=match l[i]? with
 | some x=>x.op
 | none=>0
def txN(o n:Int)(s:Bs)(w:Int)(l:List Ex)(r:List Bs):Bs :=
 if o=1 then uU n.toNat
 else if o=2 then s
 else if o=18 then 108::111::97::100::(wB w++40::(r.getD 0 []++[41]))
 else if o=19 then 115::101::120::116::(wB w++40::(r.getD 0 []++[41]))
 else if o=16 then 33::opdT (Fu l 0) (r.getD 0 []) 9
 else if o=17 then 45::opdT (Fu l 0) (r.getD 0 []) 9
 else opdT (Fu l 0) (r.getD 0 []) (stO o)++32::(oJ o++32::opdT (Fu l 1) (r.getD 1 []) (stO o+1))
def txE:Ex→Bs:=Ex.para fun e r=>txN e.op e.n e.name.data.toList e.width e.l r
theorem sH(o n:Int)(s:ByteArray)(w:Int)(l:List Ex):txE (.mk o n s w l)=txN o n s.data.toList w l (l.map txE):=by
 unfold txE
 rw[Ex.para_mk]
 rfl
inductive Raw where
 | atom (w:Bs)
 | un (c:UInt8) (x:Raw)
 | call (w:Bs) (x:Raw)
 | bin (s:Bs) (x y:Raw)
def raN(o n:Int)(s:Bs)(w:Int)(r:List Raw):Raw :=
 if o=1 then .atom (uU n.toNat)
 else if o=2 then .atom s
 else if o=18 then .call (108::111::97::100::wB w) (r.getD 0 (.atom []))
 else if o=19 then .call (115::101::120::116::wB w) (r.getD 0 (.atom []))
 else if o=16 then .un 33 (r.getD 0 (.atom []))
 else if o=17 then .un 45 (r.getD 0 (.atom []))
 else .bin (oJ o) (r.getD 0 (.atom [])) (r.getD 1 (.atom []))
def raw:Ex→Raw:=Ex.para fun e r=>raN e.op e.n e.name.data.toList e.width r
theorem UT(o n:Int)(s:ByteArray)(w:Int)(l:List Ex):raw (.mk o n s w l)=raN o n s.data.toList w (l.map raw):=by
 unfold raw
 rw[Ex.para_mk]
 rfl
def stS(s:Bs):Nat:=if s=[43]then 7 else if s=[45]then 7 else if s=[42]then 8 else if s=[38]then 3 else if s=[124]then 1 else if s=[94]then 2 else if s=[60,60]then 6 else if s=[62,62]then 6 else if s=[62,62,115]then 6 else if s=[61,61]then 4 else if s=[33,61]then 4 else if s=[60,115]then 5 else if s=[60]then 5 else 0
theorem ite1{p:Prop}[Decidable p]{a b:Nat}(ha:1≤a)(hb:1≤b):1≤(if p then a else b):=by split<;>assumption
theorem Xb(o:Int):1≤stO o:=by
 unfold stO
 repeat (refine ite1 (by decide) ?_)
 decide
theorem Ph(o:Int):1≤strE o:=ite1 (Xb o) (ite1 (by decide) (by decide))
theorem Lk{o:Int}(h:3≤o∧o≤15):stS (oJ o)=stO o∧stO o≠0∧stO o≤8∧ ∀c∈oJ o,c≠32:=by
 have key: ∀i:Fin 13,stS (oJ ((i.val+3:Nat):Int))=stO ((i.val+3:Nat):Int)∧stO ((i.val+3:Nat):Int)≠0∧stO ((i.val+3:Nat):Int)≤8∧ ∀c∈oJ ((i.val+3:Nat):Int),c≠32:=by decide
 have:=key ⟨(o-3).toNat,by omega⟩
 rwa [show((((o-3).toNat+3:Nat)):Int)=o by omega]at this
theorem NZ{s:ByteArray}(h:okN s=true): ∀c∈s.data.toList,isW c=true:=by
 intro c hc
 obtain⟨i,hi,rfl⟩:=List.mem_iff_getElem.1 hc
 have:=List.all_eq_true.1 h i (List.mem_range.2 (by simpa using hi))
 unfold okB bAt at this
 rw[show s.data.toList.getD i 0=s.data.toList[i] by simp[List.getD,List.getElem?_eq_getElem hi]]at this
 generalize s.data.toList[i]=c at this
 simp only[Bool.or_eq_true,Bool.and_eq_true,decide_eq_true_eq,beq_iff_eq]at this
 unfold isW isL isD
 simp only[Bool.or_eq_true,decide_eq_true_eq]
 omega
theorem HQ{s:ByteArray}(h:okN s=true)(hs:0<s.size):s.data.toList.head?.elim false isL=true:=by
 have hl:0<s.data.toList.length:=by simpa using hs
 have:=List.all_eq_true.1 h 0 (List.mem_range.2 hs)
 unfold okB bAt at this
 rw[show s.data.toList.getD 0 0=s.data.toList[0] by simp[List.getD,List.getElem?_eq_getElem hl]]at this
 rw[List.head?_eq_getElem?,List.getElem?_eq_getElem hl]
 generalize s.data.toList[0]=c at this
 simp only[Bool.or_eq_true,Bool.and_eq_true,decide_eq_true_eq,beq_iff_eq,ne_eq,not_true_eq_false,false_and,or_false]at this
 show isL c=true
 unfold isL
 simp only[decide_eq_true_eq]
 omega
theorem mM{s:ByteArray}(h:nameT s=true):s.data.toList≠[]∧(∀c∈s.data.toList,isW c=true)∧s.data.toList.head?.elim false isL=true∧s.size≤32:=by
 unfold nameT at h
 simp only[Bool.and_eq_true,decide_eq_true_eq]at h
 refine⟨fun e=> ?_,NZ h.1.1.1,HQ h.1.1.1 h.1.2,h.2⟩
 have:=h.1.2
 rw[show s.size=s.data.toList.length by simp,e]at this
 cases this
theorem wP{o n:Int}{s:ByteArray}{w:Int}{m:Nat}(h:ebase o n s w m=true) :
  (o=1∧s=ByteArray.empty∧w=0∧m=0)∨(o=2∧nameT s=true∧n=0∧w=0∧m=0)∨((3≤o∧o≤15)∧n=0∧s=ByteArray.empty∧w=0∧m=2) ∨
  ((o=16∨o=17)∧n=0∧s=ByteArray.empty∧w=0∧m=1)∨(o=18∧n=0∧s=ByteArray.empty∧(w=1∨w=2∨w=4)∧m=1)∨(o=19∧n=0∧s=ByteArray.empty∧(w=1∨w=2)∧m=1):=by
 unfold ebase at h
 repeat' split at h
 all_goals (try simp only[Bool.and_eq_true,Bool.or_eq_true,beq_iff_eq,wO,decide_eq_true_eq]at *)
 ·exact .inl ⟨by assumption,h.1.1,h.1.2,h.2⟩
 ·exact .inr (.inl ⟨by assumption,h.1.1.1,h.1.1.2,h.1.2,h.2⟩)
 ·exact .inr (.inr (.inl ⟨by omega,h.1.1.1,h.1.1.2,h.1.2,h.2⟩))
 ·exact .inr (.inr (.inr (.inl ⟨by assumption,h.1.1.1,h.1.1.2,h.1.2,h.2⟩)))
 ·exact .inr (.inr (.inr (.inr (.inl ⟨by assumption,h.1.1.1,h.1.1.2,by have:=h.1.2;omega,h.2⟩))))
 ·exact .inr (.inr (.inr (.inr (.inr ⟨by assumption,h.1.1.1,h.1.1.2,h.1.2,h.2⟩))))
 ·cases h
def n32:Ex→Bool:=Ex.para fun e r=>decide (0≤e.n∧e.n<4294967296)&&r.all id
theorem Gd(o n:Int)(s:ByteArray)(w:Int)(l:List Ex):n32 (.mk o n s w l)=(decide (0≤n∧n<4294967296)&&l.all n32):=by
 unfold n32
 rw[Ex.para_mk]
 simp only[List.all_map]
 rfl
inductive Fm (o n:Int) (s:ByteArray) (w:Int) (l:List Ex):Raw→Prop
 | num (h:o=1) (hs:s=ByteArray.empty) (hw:w=0) (hl:l=[]):Fm o n s w l (.atom (uU n.toNat))
 | nam (h:o=2) (hs:nameT s=true) (hn:n=0) (hw:w=0) (hl:l=[]):Fm o n s w l (.atom s.data.toList)
 | bin (h:3≤o∧o≤15) (hn:n=0) (hs:s=ByteArray.empty) (hw:w=0) (a b:Ex) (hl:l=[a,b]):Fm o n s w l (.bin (oJ o) (raw a) (raw b))
 | un (c:UInt8) (h:(o=16∧c=33)∨(o=17∧c=45)) (hn:n=0) (hs:s=ByteArray.empty) (hw:w=0) (a:Ex) (hl:l=[a]):Fm o n s w l (.un c (raw a))
 | call (q:Bs) (h:(o=18∧q=108::111::97::100::wB w)∨(o=19∧q=115::101::120::116::wB w)) (hn:n=0) (hs:s=ByteArray.empty) (hw:w=1∨w=2∨w=4) (a:Ex) (hl:l=[a]):Fm o n s w l (.call q (raw a))
theorem Uh{o n:Int}{s:ByteArray}{w:Int}{l:List Ex}(hb:ebase o n s w l.length=true):Fm o n s w l (raw (.mk o n s w l)):=by
 rw[UT]
 rcases wP hb with ⟨rfl,h2,h3,h4⟩|⟨rfl,h1,h2,h3,h4⟩|⟨ho,h1,h2,h3,h4⟩|⟨ho,h1,h2,h3,h4⟩|⟨rfl,h1,h2,h3,h4⟩|⟨rfl,h1,h2,h3,h4⟩
 ·exact .num rfl h2 h3 (List.eq_nil_of_length_eq_zero h4)
 ·exact .nam rfl h1 h2 h3 (List.eq_nil_of_length_eq_zero h4)
 ·match l,h4 with
  | [a,b],_ =>
   unfold raN;rw[if_neg (by omega),if_neg (by omega),if_neg (by omega),if_neg (by omega),if_neg (by omega),if_neg (by omega)]
   exact .bin ho h1 h2 h3 a b rfl
 ·match l,h4 with
  | [a],_ =>
   rcases ho with rfl|rfl
   ·exact .un 33 (.inl ⟨rfl,rfl⟩) h1 h2 h3 a rfl
   ·exact .un 45 (.inr ⟨rfl,rfl⟩) h1 h2 h3 a rfl
 ·match l,h4 with
  | [a],_=>exact .call _ (.inl ⟨rfl,rfl⟩) h1 h2 h3 a rfl
 ·match l,h4 with
  | [a],_=>exact .call _ (.inr ⟨rfl,rfl⟩) h1 h2 (by omega) a rfl
def samE:Ex→Ex→Bool:=Ex.para fun e r b=>e.op==b.op&&e.n==b.n&&eqS e.name b.name&&e.width==b.width&&all2 (fun q y=>q y) r b.l
theorem Xf(o n:Int)(s:ByteArray)(w:Int)(l:List Ex)(b:Ex):samE (.mk o n s w l) b=(o==b.op&&n==b.n&&eqS s b.name&&w==b.width&&all2 samE l b.l):=by
 unfold samE
 rw[Ex.para_mk,Sn]
 rfl
theorem DY{α:Type}{p:α→α→Bool}: ∀ {l:List α},(∀x∈l,p x x=true)→all2 p l l=true
 | [],_=>rfl
 | x::l,h=>by
  rw[vF];refine⟨rfl,fun i h1 h2=>h _ (List.getElem_mem _)⟩
theorem AY: ∀e:Ex,samE e e=true:=by
 refine Ex.induct fun o n s w l hl=> ?_
 rw[Xf]
 simp only[Ex.op,Ex.n,Ex.name,Ex.width,Ex.l,beq_self_eq_true,Qz,Bool.true_and]
 exact DY hl
theorem Mq{a:Ex}{n:Int}(h:0<gfold exn [a] n):0<n∧gfold exn [a] n=exn a n:=by
 simp only[gfold,List.foldl_cons,List.foldl_nil]at h ⊢
 split at h
 ·rename_i hn
  exact⟨hn,if_pos hn⟩
 ·omega
theorem PP{a b:Ex}{n:Int}(h:0<gfold exn [a,b] n):0<n∧0<exn a n∧gfold exn [a,b] n=exn b (exn a n):=by
 simp only[gfold,List.foldl_cons,List.foldl_nil]at h ⊢
 by_cases hn:0<n
 ·rw[if_pos hn]at h ⊢
  by_cases ha:0<exn a n
  ·rw[if_pos ha]at h ⊢
   exact⟨hn,ha,rfl⟩
  ·rw[if_neg ha]at h
   omega
 ·rw[if_neg hn,if_neg hn]at h
  omega
theorem Lz(o:Int)(t:Bs)(need:Nat):(opdT o t need).length≤t.length+2:=by
 unfold opdT
 split
 ·simp only[List.length_cons,List.length_append,List.length_nil];omega
 ·omega
theorem ite3{p:Prop}[Decidable p]{a b:Bs}(ha:1≤a.length∧a.length≤3)(hb:1≤b.length∧b.length≤3):1≤(if p then a else b).length∧(if p then a else b).length≤3:=by split<;>assumption
theorem EZ(o:Int):1≤(oJ o).length∧(oJ o).length≤3:=by
 unfold oJ
 repeat (refine ite3 (by decide) ?_)
 decide
theorem NC: ∀e:Ex,efm e=true→n32 e=true→ ∀n:Int,0<exn e n→((txE e).length:Int)≤40*(n-exn e n)-8:=by
 refine Ex.induct fun o k s w l hl=> ?_
 intro hf hn n hp
 rw[vB,Bool.and_eq_true]at hf
 rw[Gd,Bool.and_eq_true,decide_eq_true_eq]at hn
 have IH:=fun t ht=>hl t ht (List.all_eq_true.1 hf.2 t ht) (List.all_eq_true.1 hn.2 t ht)
 clear hl
 rw[IT]at hp ⊢
 rw[sH]
 rcases wP hf.1 with ⟨rfl,_,_,h4⟩|⟨rfl,h1,_,_,h4⟩|⟨ho,_,_,_,h4⟩|⟨ho,_,_,_,h4⟩|⟨rfl,_,_,h3,h4⟩|⟨rfl,_,_,h3,h4⟩
 ·obtain rfl:=List.eq_nil_of_length_eq_zero h4
  have:=Qd k.toNat (by omega)
  show((uU k.toNat).length:Int)≤40*(n-(n-1))-8
  omega
 ·obtain rfl:=List.eq_nil_of_length_eq_zero h4
  have:=(mM h1).2.2.2;show(s.data.toList.length:Int)≤40*(n-(n-1))-8
  have e:s.data.toList.length=s.size:=by simp
  omega
 ·match l,h4 with
  | [a,b],_ =>
   obtain⟨p1,p2,p3⟩:=PP hp;rw[p3]at hp ⊢;have ia:=IH a (by simp) (n-1) p2
   have ib:=IH b (by simp) _ hp
   have e1:txN o k s.data.toList w [a,b] ([a,b].map txE)=opdT a.op (txE a) (stO o)++32::(oJ o++32::opdT b.op (txE b) (stO o+1)):=by
    unfold txN;rw[if_neg (by omega),if_neg (by omega),if_neg (by omega),if_neg (by omega),if_neg (by omega),if_neg (by omega)]
    rfl
   rw[e1];simp only[List.length_append,List.length_cons];have l1:=Lz a.op (txE a) (stO o);have l2:=Lz b.op (txE b) (stO o+1);have l3:=EZ o;omega
 ·match l,h4 with
  | [a],_ =>
   obtain⟨p1,p3⟩:=Mq hp;rw[p3]at hp ⊢;have ia:=IH a (by simp) (n-1) hp
   obtain⟨c,e1⟩: ∃c:UInt8,txN o k s.data.toList w [a] ([a].map txE)=c::opdT a.op (txE a) 9:=by
    rcases ho with rfl|rfl
    ·exact⟨33,rfl⟩
    ·exact⟨45,rfl⟩
   rw[e1];simp only[List.length_cons];have l1:=Lz a.op (txE a) 9;omega
 ·match l,h4 with
  | [a],_ =>
   obtain⟨p1,p3⟩:=Mq hp;rw[p3]at hp ⊢;have ia:=IH a (by simp) (n-1) hp
   show((108::111::97::100::(wB w++40::(txE a++[41])):Bs).length:Int)≤_
   simp only[List.length_cons,List.length_append,wB,List.length_nil];omega
 ·match l,h4 with
  | [a],_ =>
   obtain⟨p1,p3⟩:=Mq hp;rw[p3]at hp ⊢;have ia:=IH a (by simp) (n-1) hp
   show((115::101::120::116::(wB w++40::(txE a++[41])):Bs).length:Int)≤_
   simp only[List.length_cons,List.length_append,wB,List.length_nil];omega
inductive Rs (α:Type)where
 | ok (x:α) (a o:Nat)
 | bad (a:Nat) (e:Int)
def rb{α β:Type}(r:Option (Rs α))(k:α→Nat→Nat→Option (Rs β)):Option (Rs β):=match r with
 | none=>none
 | some (.bad a e)=>some (.bad a e)
 | some (.ok x a o)=>k x a o
theorem aO{α β:Type}{r:Option (Rs α)}{k:α→Nat→Nat→Option (Rs β)}{y:β}{b p:Nat}(h:rb r k=some (.ok y b p)): ∃x a o,r=some (.ok x a o)∧k x a o=some (.ok y b p):=by
 match r,h with
 | some (.ok x a o),h=>exact⟨x,a,o,rfl,h⟩
theorem UR{α β:Type}{r:Option (Rs α)}{k:α→Nat→Nat→Option (Rs β)}{b:Nat}{e:Int}(h:rb r k=some (.bad b e)):r=some (.bad b e)∨ ∃x a o,r=some (.ok x a o)∧k x a o=some (.bad b e):=by
 match r,h with
 | some (.bad a e'),h=>cases h;exact .inl rfl
 | some (.ok x a o),h=>exact .inr ⟨x,a,o,rfl,h⟩
theorem aU{α β:Type}{r:Option (Rs α)}{k:α→Nat→Nat→Option (Rs β)}{z:Rs β}(h:rb r k=some z):(∃b e,r=some (.bad b e)∧z= .bad b e)∨ ∃x a o,r=some (.ok x a o)∧k x a o=some z:=by
 match r,h with
 | some (.bad a e),h=>cases h;exact .inl ⟨_,_,rfl,rfl⟩
 | some (.ok x a o),h=>exact .inr ⟨x,a,o,rfl,h⟩
def tk0:Tk:=⟨0,[],0,0,0⟩
def pk(ts:List Tk)(a:Nat):Tk:=ts.getD a tk0
def sees(ts:List Tk)(a:Nat)(s:Bs):Bool:=((pk ts a).kind==2||(pk ts a).kind==5)&&(pk ts a).text==s
theorem bJ{ts:List Tk}{a:Nat}{s:Bs}(h:sees ts a s=true):a<ts.length:=by
 refine Nat.lt_of_not_le fun hle=> ?_
 have:pk ts a=tk0:=by simp[pk,List.getD,List.getElem?_eq_none hle]
 simp[sees,this,tk0]at h
theorem Xh{ts:List Tk}{a:Nat}(h:a<ts.length):ts[a]? =some (pk ts a):=by
 unfold pk List.getD
 rw[List.getElem?_eq_getElem h];rfl
theorem Jn{ts:List Tk}{a:Nat}(h:ts.length≤a):pk ts a=tk0:=by
 unfold pk List.getD
 rw[List.getElem?_eq_none h];rfl
theorem eJ{ts:List Tk}{a:Nat}{k:Int}(h:(pk ts a).kind=k)(hk:k≠0):a<ts.length:=Nat.lt_of_not_le fun hle=>by rw[Jn hle]at h;exact hk h.symm
theorem Fs{ts:List Tk}(h: ∀t∈ts,TkOk t)(a:Nat):0≤(pk ts a).n∧(pk ts a).n<4294967296:=by
 by_cases hl:a<ts.length
 ·exact(h _ (List.mem_of_getElem? (Xh hl))).1
 ·rw[Jn (by omega)];decide
def begM(ts:List Tk)(s:Bs)(a o:Nat):Option (Rs Unit):=some (if sees ts a s=false then .bad a 3 else if 256≤o then .bad a 20 else .ok () (a+1) (o+1))
def expM(ts:List Tk)(s:Bs)(a o:Nat):Option (Rs Unit):=some (if sees ts a s=false then .bad a 3 else .ok () (a+1) o)
def endM(ts:List Tk)(s:Bs)(a o:Nat):Option (Rs Unit):=some (if sees ts a s=false then .bad a 3 else .ok () (a+1) (o-1))
def takM(ts:List Tk)(k:Int)(a o:Nat):Option (Rs Tk):=some (if(pk ts a).kind≠k then .bad a 3 else .ok (pk ts a) (a+1) o)
def ret{α:Type}(x:α)(a o:Nat):Option (Rs α):=some (.ok x a o)
def opR(s:Bs):Int×Nat:=if s=[124]then(7,1)else if s=[94]then(8,2)else if s=[38]then(6,3)else if s=[61,61]then(12,4)else if s=[33,61]then(13,4)else if s=[60]then(15,5)else if s=[60,115]then(14,5)else if s=[60,60]then(9,6)else if s=[62,62]then(10,6)else if s=[62,62,115]then(11,6)else if s=[43]then(3,7)else if s=[45]then(4,7)else if s=[42]then(5,8)else(0,0)
def stR(t:Tk):Int×Nat:=if t.kind=5 then opR t.text else(0,0)
def accW(s:Bs):Option (Int×Int):=if s=[108,111,97,100,49]then some (18,1)else if s=[108,111,97,100,50]then some (18,2)else if s=[108,111,97,100,52]then some (18,4)else if s=[115,101,120,116,49]then some (19,1)else if s=[115,101,120,116,50]then some (19,2)else none
inductive Md4 where
 | op
 | ex (l:Nat)
 | lo (l:Nat) (x:Ex)
def inn(ts:List Tk)(g:Nat→Nat→Option (Rs Ex))(h:Ex→Ex)(a o:Nat):Option (Rs Ex) :=
 rb (begM ts [40] a o) fun _ a o=>rb (g a o) fun x a o=>rb (endM ts [41] a o) fun _ a o=>ret (h x) a o
def mkU(o w:Int)(x:Ex):Ex:= .mk o 0 ByteArray.empty w [x]
def exM(ts:List Tk):Nat→Md4→Nat→Nat→Option (Rs Ex)
 | 0,_,_,_=>none
 | f+1,.op,a,o =>
  if(pk ts a).kind=3 then ret (.mk 1 (pk ts a).n ByteArray.empty 0 []) (a+1) o
  else if(pk ts a).kind=1 then ret (.mk 2 0 ⟨(pk ts a).text.toArray⟩ 0 []) (a+1) o
  else if(pk ts a).kind=2 then match accW (pk ts a).text with
   | some (k,w)=>inn ts (exM ts f (.ex 1)) (mkU k w) (a+1) o
   | none=>some (.bad a 3)
  else if(pk ts a).kind=5 then
   if(pk ts a).text=[40]then inn ts (exM ts f (.ex 1)) id a o
   else if(pk ts a).text=[33]∨(pk ts a).text=[45]then
    rb (begM ts (pk ts a).text a o) fun _ a' o=>rb (exM ts f .op a' o) fun x b p=>ret (mkU (if(pk ts a).text=[45]then 17 else 16) 0 x) b (p-1)
   else some (.bad a 3)
  else some (.bad a 3)
 | f+1,.ex l,a,o=>rb (exM ts f .op a o) fun x b p=>exM ts f (.lo l x) b p
 | f+1,.lo l x,a,o =>
  if(stR (pk ts a)).2=0∨(stR (pk ts a)).2<l then ret x a o
  else rb (exM ts f (.ex ((stR (pk ts a)).2+1)) (a+1) o) fun y b p=>exM ts f (.lo l (.mk (stR (pk ts a)).1 0 ByteArray.empty 0 [x,y])) b p
theorem cE{ts:List Tk}{s:Bs}{a o:Nat}{u:Unit}{b p:Nat}(h:begM ts s a o=some (.ok u b p)):sees ts a s=true∧o<256∧b=a+1∧p=o+1:=by
 unfold begM at h
 cases hs:sees ts a s with
 | false=>rw[if_pos hs]at h;cases h
 | true =>
  rw[if_neg (by rw[hs];decide)]at h
  split at h
  ·cases h
  ·cases h;exact⟨rfl,by omega,rfl,rfl⟩
theorem oM{ts:List Tk}{s:Bs}{a o:Nat}{u:Unit}{b p:Nat}(h:endM ts s a o=some (.ok u b p)):sees ts a s=true∧b=a+1∧p=o-1:=by
 unfold endM at h
 cases hs:sees ts a s with
 | false=>rw[if_pos hs]at h;cases h
 | true=>rw[if_neg (by rw[hs];decide)]at h;cases h;exact⟨rfl,rfl,rfl⟩
theorem cK{ts:List Tk}{s:Bs}{a o:Nat}{u:Unit}{b p:Nat}(h:expM ts s a o=some (.ok u b p)):sees ts a s=true∧b=a+1∧p=o:=by
 unfold expM at h
 cases hs:sees ts a s with
 | false=>rw[if_pos hs]at h;cases h
 | true=>rw[if_neg (by rw[hs];decide)]at h;cases h;exact⟨rfl,rfl,rfl⟩
theorem dW(ts:List Tk): ∀(f:Nat) (m:Md4) (a o:Nat) (x:Ex) (b p:Nat),exM ts f m a o=some (.ok x b p)→p=o∧a≤b:=by
 have inn_open: ∀(g:Nat→Nat→Option (Rs Ex)) (q:Ex→Ex),(∀a o x b p,g a o=some (.ok x b p)→p=o∧a≤b)→ ∀a o x b p,inn ts g q a o=some (.ok x b p)→p=o∧a≤b:=by
  intro g q hg a o x b p h;obtain⟨_,a1,o1,h1,h⟩:=aO h;obtain⟨y,a2,o2,h2,h⟩:=aO h;obtain⟨_,a3,o3,h3,h⟩:=aO h;cases h
  have e1:=cE h1;have e2:=hg _ _ _ _ _ h2;have e3:=oM h3;omega
 intro f
 induction f with
 | zero=>intro m a o x b p h;cases m<;>cases h
 | succ f ih =>
  intro m a o x b p h;cases m with
  | op =>
   rw[exM]at h;split at h
   ·cases h;omega
   split at h
   ·cases h;omega
   split at h
   ·split at h
    ·have:=inn_open _ _ (fun a o x b p=>ih _ a o x b p) _ _ _ _ _ h
     omega
    ·cases h
   split at h
   ·split at h
    ·exact inn_open _ _ (fun a o x b p=>ih _ a o x b p) _ _ _ _ _ h
    split at h
    ·obtain⟨_,a1,o1,h1,h⟩:=aO h
     obtain⟨y,a2,o2,h2,h⟩:=aO h;cases h
     have e1:=cE h1;have e2:=ih _ _ _ _ _ _ h2;omega
    ·cases h
   ·cases h
  | ex l =>
   rw[exM]at h;obtain⟨y,a1,o1,h1,h⟩:=aO h;have e1:=ih _ _ _ _ _ _ h1;have e2:=ih _ _ _ _ _ _ h;omega
  | lo l y =>
   rw[exM]at h;split at h
   ·cases h;omega
   ·obtain⟨z,a1,o1,h1,h⟩:=aO h
    have e1:=ih _ _ _ _ _ _ h1;have e2:=ih _ _ _ _ _ _ h;omega
def intR(s:Bs):Option (Int×Int):=if s=[97,110,121]then some (6,0)else if s=[105,110,116,56]then some (1,1)else if s=[105,110,116,49,54]then some (1,2)else if s=[105,110,116,51,50]then some (1,4)else if s=[117,105,110,116,56]then some (2,1)else if s=[117,105,110,116,49,54]then some (2,2)else if s=[117,105,110,116,51,50]then some (2,4)else none
inductive Md5 where
 | ty
 | fl (l:List Ty)
def tyM(ts:List Tk):Nat→Md5→Nat→Nat→Option (Rs Ty)
 | 0,_,_,_=>none
 | f+1,.ty,a,o =>
  if(pk ts a).kind=1 then match intR (pk ts a).text with
   | some (k,s)=>ret (.mk 0 k s 0 [] []) (a+1) o
   | none=>some (.bad a 3)
  else if sees ts a [63]=true then ret (.mk 0 0 0 0 [] []) (a+1) o
  else if sees ts a [42]=true then rb (begM ts [42] a o) fun _ a o=>rb (tyM ts f .ty a o) fun x a o=>ret (.mk 0 3 0 0 [x] []) a (o-1)
  else if sees ts a [91]=true then rb (begM ts [91] a o) fun _ a o=>rb (takM ts 3 a o) fun n a o=>rb (expM ts [93] a o) fun _ a o=>rb (tyM ts f .ty a o) fun x a o=>ret (.mk 0 4 0 n.n [x] []) a (o-1)
  else if sees ts a [123]=true then rb (begM ts [123] a o) fun _ a o=>tyM ts f (.fl []) a o
  else some (.bad a 3)
 | f+1,.fl l,a,o =>
  if sees ts a [125]=true then rb (endM ts [125] a o) fun _ a o=>ret (.mk 0 5 0 0 [] l) a o
  else rb (if 0<l.length then expM ts [44] a o else ret () a o) fun _ a o=>rb (takM ts 3 a o) fun n a o=>rb (expM ts [58] a o) fun _ a o=>rb (tyM ts f .ty a o) fun x a o=>tyM ts f (.fl (l++[x.at_ n.n])) a o
theorem iE{ts:List Tk}{k:Int}{a o:Nat}{t:Tk}{b p:Nat}(h:takM ts k a o=some (.ok t b p)):(pk ts a).kind=k∧t=pk ts a∧b=a+1∧p=o:=by
 unfold takM at h
 split at h
 ·cases h
 ·rename_i hk
  cases h
  exact⟨Classical.not_not.1 hk,rfl,rfl,rfl⟩
theorem kX(ts:List Tk): ∀f,(∀a o x b p,tyM ts f .ty a o=some (.ok x b p)→p=o∧a≤b∧b≤ts.length)∧(∀l a o x b p,tyM ts f (.fl l) a o=some (.ok x b p)→p=o-1∧a≤b∧b≤ts.length):=by
 intro f
 induction f with
 | zero=>exact⟨(fun _ _ _ _ _ h=>by cases h),(fun _ _ _ _ _ _ h=>by cases h)⟩
 | succ f ih =>
  refine⟨fun a o x b p h=> ?_,fun l a o x b p h=> ?_⟩
  ·rw[tyM]at h
   split at h
   ·rename_i hk
    have:=eJ hk (by decide)
    split at h
    ·cases h;omega
    ·cases h
   split at h
   ·rename_i hk
    have:=bJ hk;cases h;omega
   split at h
   ·obtain⟨_,a1,o1,h1,h⟩:=aO h
    obtain⟨y,a2,o2,h2,h⟩:=aO h;have e1:=cE h1;have e2:=ih.1 _ _ _ _ _ h2;cases h;omega
   split at h
   ·obtain⟨_,a1,o1,h1,h⟩:=aO h
    obtain⟨n,a2,o2,h2,h⟩:=aO h;obtain⟨_,a3,o3,h3,h⟩:=aO h;obtain⟨y,a4,o4,h4,h⟩:=aO h;have e1:=cE h1;have e2:=iE h2;have e3:=cK h3;have e4:=ih.1 _ _ _ _ _ h4;cases h;omega
   split at h
   ·obtain⟨_,a1,o1,h1,h⟩:=aO h
    have e1:=cE h1;have e2:=ih.2 _ _ _ _ _ _ h;omega
   ·cases h
  ·rw[tyM]at h
   split at h
   ·obtain⟨_,a1,o1,h1,h⟩:=aO h
    have e1:=oM h1;have:=bJ e1.1;cases h;omega
   ·obtain⟨_,a1,o1,h1,h⟩:=aO h
    obtain⟨n,a2,o2,h2,h⟩:=aO h;obtain⟨_,a3,o3,h3,h⟩:=aO h;obtain⟨y,a4,o4,h4,h⟩:=aO h
    have e0:a≤a1∧o1=o:=by
     split at h1
     ·have:=cK h1;omega
     ·cases h1;omega
    have e2:=iE h2;have e3:=cK h3;have e4:=ih.1 _ _ _ _ _ h4;have e5:=ih.2 _ _ _ _ _ _ h;omega
def Sc(s:Bs)(l:List Tk):Prop:= ∀f p,s.length<f→(qV f s p).2=true∧(qV f s p).1.map core=l.map core
theorem Sc.nil:Sc [] []:=fun f p _=>by rw[GJ];exact⟨rfl,rfl⟩
theorem Sc.blank{c:UInt8}{s:Bs}{l:List Tk}(hc:isS c=true)(h:Sc s l):Sc (c::s) l:=fun f p hf=>by
 rw[Ub hc]
 exact h f _ (by rw[List.length_cons]at hf;omega)
theorem Sc.blanks{s:Bs}{l:List Tk}: ∀(b:Bs),(∀c∈b,isS c=true)→Sc s l→Sc (b++s) l
 | [],_,h=>h
 | c::b,hb,h=>Sc.blank (hb c (by simp)) (Sc.blanks b (fun x hx=>hb x (by simp[hx])) h)
theorem Sc.tok{w s:Bs}{t t0:Tk}{l:List Tk}(hw:w≠[])(hs:skpG false (w++s)=w++s)(ht:tokP (w++s)=some (t0,w.length))(hc:core t0=core t)(h:Sc s l):Sc (w++s) (t::l):=fun f p hf=>by
 have hwl:0<w.length:=List.length_pos_iff.2 hw
 rw[List.length_append]at hf
 cases f with
 | zero=>omega
 | succ f =>
  rw[qV,if_neg (by rw[hs];simp[hw]),hs,ht]
  obtain⟨h1,h2⟩:=h f (advs (skq (w++s) p) ((w++s).take w.length)) (by omega)
  simp only[List.drop_left,List.map_cons];exact⟨h1,by rw[h2,←hc];rfl⟩
def kwT(w:Bs):Tk:=⟨2,w,0,0,0⟩
def opT(w:Bs):Tk:=⟨5,w,0,0,0⟩
def idT(w:Bs):Tk:=⟨1,w,0,0,0⟩
def nuT(n:Nat):Tk:=⟨3,[],n,0,0⟩
def AF(w:Bs):Tk:=⟨4,w,0,0,0⟩
theorem Zv{w s:Bs}{t:Tk}(hw:w≠[])(ha: ∀c∈w,isW c=true)(hs:nW s=true)(hn:namP w=some t):tokP (w++s)=some (t,w.length):=by
 unfold tokP
 rw[Zz ha hs,if_pos (List.length_pos_iff.2 hw),hn]
theorem Sc.word{w s:Bs}{t:Tk}{l:List Tk}(hw:w≠[])(ha: ∀c∈w,isW c=true)(hs:nW s=true)(hn:namP w=some t)(h:Sc s l):Sc (w++s) (t::l) :=
 Sc.tok hw (GD hw ha s) (Zv hw ha hs hn) rfl h
theorem Sc.kw{w s:Bs}{l:List Tk}(hk:isK w=true)(hs:nW s=true)(h:Sc s l):Sc (w++s) (kwT w::l):=by
 have hm:=zD w (wE.1 hk)
 refine Sc.word (fun e=>by subst e;exact absurd hm.1 (by decide)) hm.2.2 hs ?_ h
 unfold namP
 rw[if_pos hk];rfl
theorem Sc.id{w s:Bs}{l:List Tk}(hk:isK w=false)(hw:w≠[])(ha: ∀c∈w,isW c=true)(hh:w.head?.elim false isL=true)(hl:w.length≤32)(hs:nW s=true)(h:Sc s l):Sc (w++s) (idT w::l):=by
 refine Sc.word hw ha hs ?_ h
 unfold namP
 rw[if_neg (by rw[hk];decide),if_pos hh,if_pos hl];rfl
theorem Sc.nu{v:Nat}{s:Bs}{l:List Tk}(hv:v<4294967296)(hs:nW s=true)(h:Sc s l):Sc (uU v++s) (nuT v::l):=by
 obtain⟨h1,h2,h3,h4,h5⟩:=Jq v hv
 refine Sc.word h1 h2 hs ?_ h
 unfold namP
 rw[if_neg (by rw[h3];decide),if_neg (by rw[h4];decide),h5];rfl
theorem vT{c:UInt8}{s:Bs}(h:isS c=false)(h2:c.toNat≠47):skpG false (c::s)=c::s:=by
 rw[skpG,if_neg (by rw[h];decide),if_neg (fun e=>h2 e.1)]
def ops0:Bs:=[40,41,123,125,91,93,44,59,58,63,43,45,42,38,124,94]
theorem NV: ∀c∈ops0,isW c=false∧c≠34∧isS c=false∧c.toNat≠47∧c≠62∧c≠60∧c≠61∧c≠33∧ops1.contains c=true:=by decide
theorem kD{p:Bs}{a c:UInt8}{s:Bs}(h:c≠a):pre (a::p) (c::s)=false:=by
 unfold pre
 rw[List.isPrefixOf]
 have:(a==c)=false:=beq_eq_false_iff_ne.2 (Ne.symm h)
 rw[this];rfl
theorem En{c:UInt8}{s:Bs}(h:isW c=false):((c::s).takeWhile isW).length=0:=by rw[List.takeWhile_cons,h];rfl
theorem Sc.op{c:UInt8}{s:Bs}{l:List Tk}(hc:c∈ops0)(h:Sc s l):Sc (c::s) (opT [c]::l):=by
 obtain⟨h1,h2,h3,h4,h5,h6,h7,h8,h9⟩:=NV c hc
 refine Sc.tok (w:=[c]) (by simp) (vT h3 h4) ?_ rfl h
 show tokP (c::s)=_
 unfold tokP
 rw[En h1,if_neg (by decide),if_neg (by simpa using h2)]
 have:symP (c::s)=some [c]:=by
  unfold symP;rw[kD h5,kD h6,kD h7,kD h8,kD h6,kD h5];simp only[Bool.false_and,Bool.false_eq_true,if_false];rw[if_pos h9]
 rw[this];rfl
theorem Sc.bang{s:Bs}{l:List Tk}(hs:s.head? ≠some 61)(h:Sc s l):Sc (33::s) (opT [33]::l):=by
 refine Sc.tok (w:=[33]) (by simp) (vT (by decide) (by decide)) ?_ rfl h
 show tokP (33::s)=_
 unfold tokP
 rw[En (by decide),if_neg (by decide),if_neg (by simp)]
 have e:pre [33,61] (33::s)=false:=by
  unfold pre;rw[List.isPrefixOf];cases s with
  | nil=>rfl
  | cons d s =>
   have:d≠61:=fun e=>hs (by rw[e];rfl)
   rw[List.isPrefixOf,show((61:UInt8)==d)=false from beq_eq_false_iff_ne.2 (Ne.symm this)];simp
 have:symP (33::s)=some [33]:=by
  unfold symP;rw[kD (by decide),kD (by decide),kD (by decide),e,kD (by decide),kD (by decide)]
  simp only[Bool.false_and,Bool.false_eq_true,if_false];rfl
 rw[this];rfl
theorem NW: ∀op∈opl,tokP op=some (opT op,op.length):=by decide
theorem BC: ∀op∈opl,op.head?.elim false (fun c=> !isS c&&decide (c.toNat≠47))=true:=by decide
theorem Sc.opS{op s:Bs}{l:List Tk}(ho:op∈opl)(h:Sc (32::s) l):Sc (op++32::s) (opT op::l):=by
 have hn:=(Xi op ho).1
 refine Sc.tok hn ?_ (Zw (NW op ho) rfl) rfl h
 have hf:=BC op ho
 cases op with
 | nil=>exact absurd rfl hn
 | cons c op =>
  simp only[List.head?_cons,Option.elim,Bool.and_eq_true,Bool.not_eq_true',decide_eq_true_eq]at hf;exact vT hf.1 hf.2
theorem Sc.str{t s:Bs}{l:List Tk}(h:Sc s l):Sc (quoS t++s) (AF t::l):=by
 refine Sc.tok (by simp[quoS]) (vT (by decide) (by decide)) ?_ rfl h
 show tokP (34::((t.flatMap escC++[34])++s))=_
 unfold tokP
 rw[En (by decide),if_neg (by decide),if_pos (by rfl)]
 have e:=BB t s
 simp only[List.drop_succ_cons,List.drop_zero,List.append_assoc,List.cons_append,List.nil_append]
 rw[e]
 simp[quoS,AF]
theorem Sc.scan{s:Bs}{l:List Tk}(h:Sc s l):(scan s).2=true∧(scan s).1.map core=l.map core:=h _ _ (by omega)
def mD(o:Int)(t:List Tk)(need:Nat):List Tk:=if strE o<need then opT [40]::(t++[opT [41]])else t
def tkN(o n:Int)(s:Bs)(w:Int)(l:List Ex)(r:List (List Tk)):List Tk :=
 if o=1 then [nuT n.toNat]else if o=2 then [idT s]
 else if o=18 then kwT ([108,111,97,100]++wB w)::opT [40]::(r.flatten++[opT [41]])
 else if o=19 then kwT ([115,101,120,116]++wB w)::opT [40]::(r.flatten++[opT [41]])
 else if o=16 then opT [33]::mD (Fu l 0) (r.getD 0 []) 9
 else if o=17 then opT [45]::mD (Fu l 0) (r.getD 0 []) 9
 else mD (Fu l 0) (r.getD 0 []) (stO o)++opT (oJ o)::mD (Fu l 1) (r.getD 1 []) (stO o+1)
def tkE:Ex→List Tk:=Ex.para fun e r=>tkN e.op e.n e.name.data.toList e.width e.l r
theorem kC(o n:Int)(s:ByteArray)(w:Int)(l:List Ex):tkE (.mk o n s w l)=tkN o n s.data.toList w l (l.map tkE):=by
 unfold tkE
 rw[Ex.para_mk]
 rfl
theorem Tg: ∀w∈kwds,words.any (fun x=>eqS x ⟨w.toArray⟩)=true:=by decide +kernel
theorem Uk{s:ByteArray}(h:nameT s=true):isK s.data.toList=false:=by
 cases hk:isK s.data.toList with
 | false=>rfl
 | true =>
  have h1:=Tg _ (wE.1 hk);unfold nameT at h;rw[Bool.and_eq_true,Bool.and_eq_true,Bool.and_eq_true]at h;have h2:=h.1.1.2;rw[show(⟨s.data.toList.toArray⟩:ByteArray)=s from rfl]at h1
  rw[h1]at h2;cases h2
theorem Sc.name{n:ByteArray}{s:Bs}{l:List Tk}(hn:nameT n=true)(hs:nW s=true)(h:Sc s l):Sc (n.data.toList++s) (idT n.data.toList::l):=by
 obtain⟨h1,h2,h3,h4⟩:=mM hn
 exact Sc.id (Uk hn) h1 h2 h3 (by simpa using h4) hs h
theorem EY{o:Int}(h:3≤o∧o≤15):oJ o∈opl:=by
 obtain⟨n,rfl⟩: ∃n:Nat,o=n:=⟨o.toNat,by omega⟩
 have key: ∀n:Nat,n<16→3≤n→oJ (n:Int)∈opl:=by decide
 exact key n (by omega) (by omega)
theorem HY{w:Int}(h:w=1∨w=2∨w=4):isK ([108,111,97,100]++wB w)=true:=by rcases h with rfl|rfl|rfl<;>decide
theorem GH{w:Int}(h:w=1∨w=2):isK ([115,101,120,116]++wB w)=true:=by rcases h with rfl|rfl<;>decide
theorem Rc{n:Int}{s:ByteArray}{w:Int}{m:Nat}(h:ebase 19 n s w m=true):w=1∨w=2:=by
 unfold ebase at h
 simp at h
 omega
theorem wI{c d:UInt8}{s:Bs}(h:c≠d):(c::s).head? ≠some d:=fun e=>h (by simpa using e)
theorem Iu{w s:Bs}{d:UInt8}(hw:w≠[])(ha: ∀c∈w,isW c=true)(hd:isW d=false):(w++s).head? ≠some d:=by
 cases w with
 | nil=>exact absurd rfl hw
 | cons c w=>exact wI (fun e=>by have:=ha c (by simp);rw[e,hd]at this;cases this)
theorem YJ: ∀e:Ex,efm e=true→n32 e=true→(∀s,(txE e++s).head? ≠some 61)∧ ∀s l,nW s=true→Sc s l→Sc (txE e++s) (tkE e++l):=by
 intro e
 induction e using Ex.induct with
 | h o n s w l ih =>
 intro hf hn
 rw[vB,Bool.and_eq_true]at hf
 rw[Gd,Bool.and_eq_true,decide_eq_true_eq]at hn
 obtain⟨hb,hl⟩:=hf
 obtain⟨hn,hln⟩:=hn
 have IH:=fun t ht=>ih t ht (List.all_eq_true.1 hl t ht) (List.all_eq_true.1 hln t ht)
 clear ih hl hln
 have opd: ∀a∈l,∀need,(∀r,(opdT a.op (txE a) need++r).head? ≠some 61)∧ ∀r k,nW r=true→Sc r k→Sc (opdT a.op (txE a) need++r) (mD a.op (tkE a) need++k):=by
  intro a ha need;obtain⟨i1,i2⟩:=IH a ha;unfold opdT mD
  by_cases hc:strE a.op<need
  ·rw[if_pos hc,if_pos hc]
   refine⟨fun r=>wI (by decide),fun r k hr hk=> ?_⟩
   simp only[List.cons_append,List.append_assoc,List.nil_append];exact Sc.op (by decide) (i2 _ _ rfl (Sc.op (by decide) hk))
  ·rw[if_neg hc,if_neg hc]
   exact⟨i1,i2⟩
 rcases wP hb with ⟨rfl,_,_,h4⟩|⟨rfl,h1,_,_,h4⟩|⟨ho,_,_,_,h4⟩|⟨ho,_,_,_,h4⟩|⟨rfl,_,_,h3,h4⟩|⟨rfl,_,_,h3,h4⟩
 ·obtain⟨k1,k2,_⟩:=Jq n.toNat (by omega)
  rw[sH,kC];exact⟨fun s=>Iu k1 k2 (by decide),fun s l hs h=>Sc.nu (by omega) hs h⟩
 ·obtain⟨k1,k2,_⟩:=mM h1
  rw[sH,kC];exact⟨fun s=>Iu k1 k2 (by decide),fun s l hs h=>Sc.name h1 hs h⟩
 ·obtain⟨a,b,rfl⟩: ∃a b,l=[a,b]:=by
   match l,h4 with
   | [a,b],_=>exact⟨a,b,rfl⟩
  have e1:txE (.mk o n s w [a,b])=opdT a.op (txE a) (stO o)++32::(oJ o++32::opdT b.op (txE b) (stO o+1)):=by
   rw[sH];unfold txN;rw[if_neg (by omega),if_neg (by omega),if_neg (by omega),if_neg (by omega),if_neg (by omega),if_neg (by omega)]
   rfl
  have e2:tkE (.mk o n s w [a,b])=mD a.op (tkE a) (stO o)++opT (oJ o)::mD b.op (tkE b) (stO o+1):=by
   rw[kC];unfold tkN;rw[if_neg (by omega),if_neg (by omega),if_neg (by omega),if_neg (by omega),if_neg (by omega),if_neg (by omega)]
   rfl
  rw[e1,e2];obtain⟨a1,a2⟩:=opd a (by simp) (stO o)
  obtain⟨b1,b2⟩:=opd b (by simp) (stO o+1)
  refine⟨fun s=> ?_,fun s l hs h=> ?_⟩
  ·rw[List.append_assoc];exact a1 _
  ·rw[List.append_assoc,List.cons_append,List.append_assoc,List.cons_append,List.append_assoc,List.cons_append]
   exact a2 _ _ rfl (Sc.blank (by decide) (Sc.opS (EY ho) (Sc.blank (by decide) (b2 _ _ hs h))))
 ·obtain⟨a,rfl⟩: ∃a,l=[a]:=by
   match l,h4 with
   | [a],_=>exact⟨a,rfl⟩
  obtain⟨a1,a2⟩:=opd a (by simp) 9
  rcases ho with rfl|rfl
  ·rw[sH,kC]
   refine⟨fun s=>wI (by decide),fun s l hs h=> ?_⟩
   exact Sc.bang (a1 s) (a2 s l hs h)
  ·rw[sH,kC]
   refine⟨fun s=>wI (by decide),fun s l hs h=> ?_⟩
   exact Sc.op (by decide) (a2 s l hs h)
 ·obtain⟨a,rfl⟩: ∃a,l=[a]:=by
   match l,h4 with
   | [a],_=>exact⟨a,rfl⟩
  obtain⟨a1,a2⟩:=IH a (by simp)
  have e1: ∀r,txE (.mk 18 n s w [a])++r=([108,111,97,100]++wB w)++40::(txE a++41::r):=by
   intro r;rw[sH];show(108::111::97::100::(wB w++40::(txE a++[41])))++r=_
   simp
  have e2: ∀r,tkE (.mk 18 n s w [a])++r=kwT ([108,111,97,100]++wB w)::opT [40]::(tkE a++opT [41]::r):=by
   intro r;rw[kC];show(kwT ([108,111,97,100]++wB w)::opT [40]::((([a].map tkE).flatten)++[opT [41]]))++r=_
   simp
  refine⟨fun r=>by rw[e1];exact wI (by decide),fun r k hr h=> ?_⟩
  rw[e1,e2];exact Sc.kw (HY h3) rfl (Sc.op (by decide) (a2 _ _ rfl (Sc.op (by decide) h)))
 ·obtain⟨a,rfl⟩: ∃a,l=[a]:=by
   match l,h4 with
   | [a],_=>exact⟨a,rfl⟩
  obtain⟨a1,a2⟩:=IH a (by simp)
  have e1: ∀r,txE (.mk 19 n s w [a])++r=([115,101,120,116]++wB w)++40::(txE a++41::r):=by
   intro r;rw[sH];show(115::101::120::116::(wB w++40::(txE a++[41])))++r=_
   simp
  have e2: ∀r,tkE (.mk 19 n s w [a])++r=kwT ([115,101,120,116]++wB w)::opT [40]::(tkE a++opT [41]::r):=by
   intro r;rw[kC];show(kwT ([115,101,120,116]++wB w)::opT [40]::((([a].map tkE).flatten)++[opT [41]]))++r=_
   simp
  refine⟨fun r=>by rw[e1];exact wI (by decide),fun r k hr h=> ?_⟩
  rw[e1,e2];exact Sc.kw (GH (Rc hb)) rfl (Sc.op (by decide) (a2 _ _ rfl (Sc.op (by decide) h)))
end Go.Proofs.YtmbmmckagcdapaaGreatDoor
