import Derived.Lib.ItoaNum
import Derived.Test.YtmbmmckagcdapaaGreatDoorM00
import Derived.Test.YtmbmmckagcdapaaGreatDoorM01
set_option linter.all false
namespace Go.Proofs.YtmbmmckagcdapaaGreatDoor
def bA(l:Bs):ByteArray:=⟨l.toArray⟩
theorem Ao(a b:Bs):bA a++bA b=bA (a++b):=by
 apply ByteArray.ext
 simp[bA,ByteArray.data_append]
theorem pO(l:Bs):(bA l).size=l.length:=by
 show l.toArray.size=_
 simp
def pcT(p:Int×Bs):Bs:=Lib.itoa p.1++[58,32]++p.2
def fldT(l:List (Int×Bs)):Bs:=match l with
 | []=>[]
 | p::r=>pcT p++(r.map fun q=>[44,32]++pcT q).flatten
theorem AB(l:List (Int×Bs))(p:Int×Bs):fldT (l++[p])=fldT l++(if l=[]then []else [44,32])++pcT p:=by
 cases l with
 | nil=>simp[fldT]
 | cons q r=>simp[fldT]
def txF(t:Ty)(es fs:List Bs):Bs :=
 if t.kind=0 then [63]else if t.kind=6 then [97,110,121]else if t.kind=1 then [105,110,116]++Lib.itoa (8*t.size)else if t.kind=2 then [117]++([105,110,116]++Lib.itoa (8*t.size))
 else if t.kind=3 then [42]++es.headD []else if t.kind=4 then([91]++Lib.itoa t.count++[93])++es.headD []else if t.kind=5 then [123]++fldT ((t.fields.map Ty.off).zip fs)++[125]else []
def txT:Ty→Bs:=Ty.para txF
theorem rN(o k s c:Int)(es fs:List Ty):txT (.mk o k s c es fs) =
  if k=0 then [63]else if k=6 then [97,110,121]else if k=1 then [105,110,116]++Lib.itoa (8*s)else if k=2 then [117]++([105,110,116]++Lib.itoa (8*s))
  else if k=3 then [42]++(es.map txT).headD []else if k=4 then([91]++Lib.itoa c++[93])++(es.map txT).headD []else if k=5 then [123]++fldT (fs.map fun f=>(f.off,txT f))++[125]else []:=by
 have e:txT (.mk o k s c es fs)=txF (.mk o k s c es fs) (es.map txT) (fs.map txT):=Ty.para_mk _ o k s c es fs
 rw[e]
 have hz:(List.map Ty.off fs).zip (List.map txT fs)=fs.map fun f=>(f.off,txT f):=List.zip_map' ..
 rw[←hz]
 rfl
theorem It(fs:List Ty){m:Nat}(h:m<fs.length):fldT ((fs.take (m+1)).map fun f=>(f.off,txT f))=fldT ((fs.take m).map fun f=>(f.off,txT f))++((if m=0 then []else [44,32])++(Lib.itoa fs[m].off++[58,32]++txT fs[m])):=by
 rw[List.take_succ_eq_append_getElem h,List.map_append,List.map_singleton,AB,List.append_assoc]
 congr 2
 have:(List.map (fun f=>(f.off,txT f)) (List.take m fs)=[])↔m=0:=by
  rw[List.map_eq_nil_iff,List.take_eq_nil_iff];constructor
  ·rintro(h1|h1)
   ·exact h1
   ·subst h1;simp at h
  ·exact .inl
 simp only[this]
theorem NI(fs:List Ty){m:Nat}(h:m≤fs.length):(fldT ((fs.take m).map fun f=>(f.off,txT f))).length≤(fldT (fs.map fun f=>(f.off,txT f))).length:=by
 have H: ∀(d m:Nat),m+d=fs.length→(fldT ((fs.take m).map fun f=>(f.off,txT f))).length≤(fldT (fs.map fun f=>(f.off,txT f))).length:=by
  intro d
  induction d with
  | zero=>intro m hm;rw[List.take_of_length_le (by omega)];exact Nat.le_refl _
  | succ d ih =>
   intro m hm;refine Nat.le_trans ?_ (ih (m+1) (by omega))
   rw[It fs (by omega:m<fs.length),List.length_append]
   omega
 exact H (fs.length-m) m (by omega)
def pfold{α:Type}(f:α→Int→Int)(l:List α)(n:Int):Int:=l.foldl (fun m x=>if 0≤m then f x m else m) n
theorem vA{α β:Type}(g:α→β)(f:β→Int→Int)(l:List α)(n:Int):pfold f (l.map g) n=pfold (fun x=>f (g x)) l n:=by
 unfold pfold
 rw[List.foldl_map]
theorem jS{α:Type}{f:α→Int→Int}{l:List α}{m:Nat}(h:m<l.length){n:Int}(hp:0≤pfold f (l.take m) n):pfold f (l.take (m+1)) n=f l[m] (pfold f (l.take m) n):=by
 unfold pfold at *
 rw[List.take_succ_eq_append_getElem h,List.foldl_append,List.foldl_cons,List.foldl_nil,if_pos hp]
theorem lB{α:Type}{f:α→Int→Int}: ∀(l:List α) {n:Int},¬0≤n→pfold f l n=n
 | [],n,_=>rfl
 | x::l,n,h=>by
  have:=lB (f:=f) l h;unfold pfold at *;rw[List.foldl_cons,if_neg h];exact this
theorem dQ{α:Type}{f:α→Int→Int}: ∀ {l:List α},(∀t∈l,∀n,0≤n→ -1≤f t n∧f t n≤n)→ ∀n, -1≤n→ -1≤pfold f l n∧pfold f l n≤n
 | [],_,n,h=>⟨h,Int.le_refl _⟩
 | x::l,hf,n,h=>by
  have ih:=dQ (l:=l) fun t ht=>hf t (by simp[ht])
  unfold pfold at *;rw[List.foldl_cons]
  by_cases h0:0≤n
  ·rw[if_pos h0]
   have h1:=hf x (by simp) n h0
   have h2:=ih (f x n) h1.1;exact⟨h2.1,Int.le_trans h2.2 h1.2⟩
  ·rw[if_neg h0]
   exact ih n h
theorem Ii{α:Type}{f:α→Int→Int}{l:List α}{m:Nat}{n:Int}(h: ¬0≤pfold f (l.take m) n):pfold f l n=pfold f (l.take m) n:=by
 have e:pfold f l n=pfold f (l.drop m) (pfold f (l.take m) n):=by
  unfold pfold;rw[←List.foldl_append,List.take_append_drop]
 rw[e,lB _ h]
def tpa:Ty→Int→Int→Int:=Ty.para fun t re rf most left =>
 if most<1∨left<1∨12<t.elem.length∨70<t.fields.length then -1 else pfold (fun r n=>r (most-1) n) rf (pfold (fun r n=>r (most-1) n) re (left-1))
theorem Dh(o k s c:Int)(es fs:List Ty)(most left:Int):tpa (.mk o k s c es fs) most left =
  if most<1∨left<1∨12<es.length∨70<fs.length then -1 else pfold (fun x n=>tpa x (most-1) n) fs (pfold (fun x n=>tpa x (most-1) n) es (left-1)):=by
 have h:tpa (.mk o k s c es fs) most left=_:=congrFun (congrFun (Ty.para_mk _ o k s c es fs) most) left
 rw[h]
 simp only[Ty.elem,Ty.fields,vA]
 rfl
theorem zJ: ∀(t:Ty) (most left:Int),0≤left→ -1≤tpa t most left∧tpa t most left≤left:=by
 refine Ty.induct fun o k s c es fs hE hF most left hl=> ?_
 rw[Dh]
 split
 ·omega
 ·rename_i h
  have h1:=dQ (f:=fun x n=>tpa x (most-1) n) (l:=es) (fun t ht n hn=>hE t ht _ n hn) (left-1) (by omega)
  have h2:=dQ (f:=fun x n=>tpa x (most-1) n) (l:=fs) (fun t ht n hn=>hF t ht _ n hn) _ h1.1
  omega
def smallT(t:Ty)(most:Int):Bool:=decide (tpa t most 3000≥0)
theorem NW: ∀(k u:Nat),u<10^(k+1)→(Lib.decDigits u).length≤k+1:=by
 intro k
 induction k with
 | zero =>
  intro u h;rw[Lib.decDigits,dif_pos (by simpa using h)]
  simp
 | succ k ih =>
  intro u h;rw[Lib.decDigits];split
  ·simp
  ·rw[List.length_append,List.length_singleton]
   have:=ih (u/10) (by rw[Nat.pow_succ]at h;omega)
   omega
theorem uB{c:Int}(h0:0≤c)(h1:c<1000000):(Lib.itoa c).length≤6:=by
 have e:Lib.itoa c=Lib.decDigits c.toNat:=by unfold Lib.itoa;rw[if_neg (by omega)]
 rw[e]
 exact NW 5 _ (by omega)
def tlT(l:List Ty):Bs:=(l.map fun f=>[44,32]++pcT (f.off,txT f)).flatten
theorem AC(f:Ty)(r:List Ty):fldT ((f::r).map fun f=>(f.off,txT f))=pcT (f.off,txT f)++tlT r:=by
 unfold fldT tlT
 rw[List.map_cons]
 simp only[List.map_map]
 rfl
theorem DB(f:Ty)(r:List Ty):tlT (f::r)=[44,32]++(pcT (f.off,txT f)++tlT r):=by
 unfold tlT
 rw[List.map_cons,List.flatten_cons,List.append_assoc]
def sumT(l:List Ty):Nat:=(l.map fun x=>(txT x).length+10).sum
theorem qU(x:Ty)(l:List Ty):sumT (x::l)=(txT x).length+10+sumT l:=by unfold sumT;simp
theorem Vh: ∀l:List Ty,(∀x∈l,0≤x.off∧x.off<65536)→(tlT l).length≤sumT l
 | [],_=>by simp[tlT,sumT]
 | x::l,h=>by
  have:=Vh l fun y hy=>h y (by simp[hy])
  have hx:=h x (by simp)
  have hi:=uB hx.1 (by omega)
  rw[DB,qU];simp only[pcT,List.length_append,List.length_cons,List.length_nil];omega
theorem GY(l:List Ty)(h: ∀x∈l,0≤x.off∧x.off<65536):(fldT (l.map fun f=>(f.off,txT f))).length≤sumT l:=by
 cases l with
 | nil=>simp[fldT,sumT]
 | cons x l =>
  have:=Vh l fun y hy=>h y (by simp[hy])
  have hx:=h x (by simp)
  have hi:=uB hx.1 (by omega)
  rw[AC,qU];simp only[pcT,List.length_append,List.length_cons,List.length_nil];omega
theorem wT{most:Int}: ∀(l:List Ty),(∀x∈l,∀n,0≤tpa x most n→((txT x).length:Int)+10≤40*(n-tpa x most n))→ ∀n,0≤n→0≤pfold (fun x n=>tpa x most n) l n→(sumT l:Int)≤40*(n-pfold (fun x n=>tpa x most n) l n)
 | [],_,n,hn,h=>by simp[pfold,sumT]
 | x::l,hx,n,hn,h=>by
  have e:pfold (fun x n=>tpa x most n) (x::l) n=pfold (fun x n=>tpa x most n) l (tpa x most n):=by unfold pfold;rw[List.foldl_cons,if_pos hn]
  rw[e]at h ⊢
  have h0:0≤tpa x most n:=Int.not_lt.1 fun hneg=>by
   rw[lB _ (by omega)]at h
   omega
  have h1:=hx x (by simp) n h0
  have h2:=wT l (fun y hy=>hx y (by simp[hy])) _ h0 h
  rw[qU];omega
theorem LK: ∀t:Ty,frm t=true→ ∀most left:Int,0≤left→0≤tpa t most left→((txT t).length:Int)+10≤40*(left-tpa t most left):=by
 refine Ty.induct fun o k s c es fs hE hF=> ?_
 intro hfrm most left hl h
 obtain⟨hb,hof,hfs,hes⟩:=pH hfrm
 rw[Dh]at h ⊢
 split at h
 ·omega
 ·rename_i hn
  rw[if_neg hn]
  have h0:0≤pfold (fun x n=>tpa x (most-1) n) es (left-1):=Int.not_lt.1 fun hneg=>by
   rw[lB _ (by omega)]at h
   omega
  have a1:=wT es (fun x hx n hn=>by
   by_cases hn0:0≤n
   ·exact hE x hx (hes x hx) _ _ hn0 hn
   ·obtain⟨o',k',s',c',es',fs'⟩:=x
    rw[Dh,if_pos (by omega)]at hn
    omega) (left-1) (by omega) h0
  have a2:=wT fs (fun x hx n hn=>by
   by_cases hn0:0≤n
   ·exact hF x hx (hfs x hx) _ _ hn0 hn
   ·obtain⟨o',k',s',c',es',fs'⟩:=x
    rw[Dh,if_pos (by omega)]at hn
    omega) _ h0 h
  have hlen:((txT (.mk o k s c es fs)).length:Int)≤12+sumT es+sumT fs:=by
   rw[rN];rcases mG hb with ⟨hk,h1⟩|⟨hk,hs,h1⟩|⟨rfl,h1⟩|⟨rfl,h0,h1,h2,h3,h4⟩|⟨rfl,h1⟩
   ·rcases hk with rfl|rfl
    ·rw[if_pos rfl];simp;omega
    ·rw[if_neg (by decide),if_pos rfl];simp;omega
   ·have hi:=uB (c:=8*s) (by omega) (by omega)
    rcases hk with rfl|rfl
    ·rw[if_neg (by decide),if_neg (by decide),if_pos rfl];simp only[List.length_append,List.length_cons,List.length_nil];omega
    ·rw[if_neg (by decide),if_neg (by decide),if_neg (by decide),if_pos rfl];simp only[List.length_append,List.length_cons,List.length_nil];omega
   ·rw[if_neg (by decide),if_neg (by decide),if_neg (by decide),if_neg (by decide),if_pos rfl]
    obtain⟨x,rfl⟩:=List.length_eq_one_iff.1 h1.2.2.1;simp only[List.map_cons,List.map_nil,List.headD_cons,List.length_append,List.length_cons,List.length_nil,qU];omega
   ·rw[if_neg (by decide),if_neg (by decide),if_neg (by decide),if_neg (by decide),if_neg (by decide),if_pos rfl]
    obtain⟨x,rfl⟩:=List.length_eq_one_iff.1 h3;have hi:=uB (c:=c) (by omega) (by omega)
    simp only[List.map_cons,List.map_nil,List.headD_cons,List.length_append,List.length_cons,List.length_nil,qU];omega
   ·rw[if_neg (by decide),if_neg (by decide),if_neg (by decide),if_neg (by decide),if_neg (by decide),if_neg (by decide),if_pos rfl]
    have:=GY fs fun x hx=>by
     obtain⟨i,hi,rfl⟩:=List.getElem_of_mem hx;have:=hof i hi;unfold fok at this;simp only[Bool.and_eq_true,decide_eq_true_eq]at this;have e:(List.map Ty.off fs).getD i 0=fs[i].off:=by rw[List.getD_eq_getElem?_getD,List.getElem?_map,List.getElem?_eq_getElem hi];rfl
     rw[e]at this;exact this.1
    simp only[List.length_append,List.length_cons,List.length_nil];omega
  omega
theorem Yd{t:Ty}{most:Int}(h:frm t=true)(hs:smallT t most=true):(txT t).length≤120000:=by
 unfold smallT at hs
 have h1:0≤tpa t most 3000:=by simpa using hs
 have:=LK t h most 3000 (by decide) h1
 omega
end Go.Proofs.YtmbmmckagcdapaaGreatDoor
