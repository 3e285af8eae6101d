import Derived.WalkKit
import Derived.Laws.Strings
import Derived.Lib.IndexMore
import Derived.Laws.RangeString
import Derived.KernelRfl
import Derived.Shelf.Strings.Builder1
import Derived.Shelf.Strings.Builder2
import Derived.Shelf.Strings.OnBuilder
import Derived.Shelf.Small.Utf8
import Derived.Shelf.Small.Strs
import Derived.Shelf.Strconv.Itoa0
import Derived.Shelf.Strconv.Itoa1
import Derived.Shelf.LaysM
import Derived.Shelf.Strconv.Itoa2
import Derived.Shelf.Strconv.Itoa3
import Derived.Shelf.Strconv.Clone
import Derived.Shelf.Strconv.SyntaxError
import Derived.Shelf.LaysC
import Derived.Shelf.Strconv.ToError
import Derived.Shelf.Strconv.RangeError
import Derived.Shelf.Strconv.ToErrorRange
import Derived.Shelf.Strings.Search1
import Derived.Shelf.Strings.Search2
import Derived.Shelf.Strings.Search3
import Derived.Shelf.Strings.Shaped
import Derived.Shelf.Strings.Runes
import Derived.Shelf.Strings.IndexAny
import Derived.Shelf.Strings.AsciiSet
import Derived.Shelf.Strings.IndexAnyAll
import Derived.Shelf.Strings.Prefix
import Derived.Shelf.Bits.Mul64
import Derived.Shelf.Strings.Repeat
import Derived.Shelf.Strings.BuilderF
import Derived.Shelf.Strings.BuilderK
import Derived.Test.YtmbmmckagcdapaaGreatDoorProg
set_option linter.all false
namespace Go.Proofs.YtmbmmckagcdapaaGreatDoor
theorem AI{a b:Prop}(h:a)(k:b):a∧b:=⟨h,k⟩
theorem TI:True:=True.intro
theorem A3{pa pb pc:Prop}(xa:pa)(xb:pb)(xc:pc):pa∧pb∧pc:=AI xa (AI xb xc)
theorem A4{pa pb pc pd:Prop}(xa:pa)(xb:pb)(xc:pc)(xd:pd):pa∧pb∧pc∧pd:=AI xa (A3 xb xc xd)
theorem A5{pa pb pc pd pe:Prop}(xa:pa)(xb:pb)(xc:pc)(xd:pd)(xe:pe):pa∧pb∧pc∧pd∧pe:=AI xa (A4 xb xc xd xe)
theorem A6{pa pb pc pd pe pf:Prop}(xa:pa)(xb:pb)(xc:pc)(xd:pd)(xe:pe)(xf:pf):pa∧pb∧pc∧pd∧pe∧pf:=AI xa (A5 xb xc xd xe xf)
theorem A7{pa pb pc pd pe pf pg:Prop}(xa:pa)(xb:pb)(xc:pc)(xd:pd)(xe:pe)(xf:pf)(xg:pg):pa∧pb∧pc∧pd∧pe∧pf∧pg:=AI xa (A6 xb xc xd xe xf xg)
theorem A8{pa pb pc pd pe pf pg ph:Prop}(xa:pa)(xb:pb)(xc:pc)(xd:pd)(xe:pe)(xf:pf)(xg:pg)(xh:ph):pa∧pb∧pc∧pd∧pe∧pf∧pg∧ph:=AI xa (A7 xb xc xd xe xf xg xh)
theorem A9{pa pb pc pd pe pf pg ph pi:Prop}(xa:pa)(xb:pb)(xc:pc)(xd:pd)(xe:pe)(xf:pf)(xg:pg)(xh:ph)(xi:pi):pa∧pb∧pc∧pd∧pe∧pf∧pg∧ph∧pi:=AI xa (A8 xb xc xd xe xf xg xh xi)
theorem A10{pa pb pc pd pe pf pg ph pi pj:Prop}(xa:pa)(xb:pb)(xc:pc)(xd:pd)(xe:pe)(xf:pf)(xg:pg)(xh:ph)(xi:pi)(xj:pj):pa∧pb∧pc∧pd∧pe∧pf∧pg∧ph∧pi∧pj:=AI xa (A9 xb xc xd xe xf xg xh xi xj)
theorem A11{pa pb pc pd pe pf pg ph pi pj pk:Prop}(xa:pa)(xb:pb)(xc:pc)(xd:pd)(xe:pe)(xf:pf)(xg:pg)(xh:ph)(xi:pi)(xj:pj)(xk:pk):pa∧pb∧pc∧pd∧pe∧pf∧pg∧ph∧pi∧pj∧pk:=AI xa (A10 xb xc xd xe xf xg xh xi xj xk)
theorem A12{pa pb pc pd pe pf pg ph pi pj pk pl:Prop}(xa:pa)(xb:pb)(xc:pc)(xd:pd)(xe:pe)(xf:pf)(xg:pg)(xh:ph)(xi:pi)(xj:pj)(xk:pk)(xl:pl):pa∧pb∧pc∧pd∧pe∧pf∧pg∧ph∧pi∧pj∧pk∧pl:=AI xa (A11 xb xc xd xe xf xg xh xi xj xk xl)
theorem A13{pa pb pc pd pe pf pg ph pi pj pk pl pm:Prop}(xa:pa)(xb:pb)(xc:pc)(xd:pd)(xe:pe)(xf:pf)(xg:pg)(xh:ph)(xi:pi)(xj:pj)(xk:pk)(xl:pl)(xm:pm):pa∧pb∧pc∧pd∧pe∧pf∧pg∧ph∧pi∧pj∧pk∧pl∧pm:=AI xa (A12 xb xc xd xe xf xg xh xi xj xk xl xm)
theorem A14{pa pb pc pd pe pf pg ph pi pj pk pl pm pn:Prop}(xa:pa)(xb:pb)(xc:pc)(xd:pd)(xe:pe)(xf:pf)(xg:pg)(xh:ph)(xi:pi)(xj:pj)(xk:pk)(xl:pl)(xm:pm)(xn:pn):pa∧pb∧pc∧pd∧pe∧pf∧pg∧ph∧pi∧pj∧pk∧pl∧pm∧pn:=AI xa (A13 xb xc xd xe xf xg xh xi xj xk xl xm xn)
theorem A15{pa pb pc pd pe pf pg ph pi pj pk pl pm pn po:Prop}(xa:pa)(xb:pb)(xc:pc)(xd:pd)(xe:pe)(xf:pf)(xg:pg)(xh:ph)(xi:pi)(xj:pj)(xk:pk)(xl:pl)(xm:pm)(xn:pn)(xo:po):pa∧pb∧pc∧pd∧pe∧pf∧pg∧ph∧pi∧pj∧pk∧pl∧pm∧pn∧po:=AI xa (A14 xb xc xd xe xf xg xh xi xj xk xl xm xn xo)
theorem A16{pa pb pc pd pe pf pg ph pi pj pk pl pm pn po pp:Prop}(xa:pa)(xb:pb)(xc:pc)(xd:pd)(xe:pe)(xf:pf)(xg:pg)(xh:ph)(xi:pi)(xj:pj)(xk:pk)(xl:pl)(xm:pm)(xn:pn)(xo:po)(xp:pp):pa∧pb∧pc∧pd∧pe∧pf∧pg∧ph∧pi∧pj∧pk∧pl∧pm∧pn∧po∧pp:=AI xa (A15 xb xc xd xe xf xg xh xi xj xk xl xm xn xo xp)
def tab64:List Int:=[0,1,56,2,57,49,28,3,61,58,42,50,38,29,17,4,62,47,59,36,45,43,51,22,53,39,33,30,24,18,12,5,63,55,48,27,60,41,37,16,46,35,44,21,52,32,23,11,54,26,40,15,34,20,31,10,25,14,19,9,13,8,7,6]
def tab32:List Int:=[0,1,28,2,29,14,24,3,30,22,20,15,25,17,4,8,31,27,13,23,21,19,16,7,26,12,18,6,11,5,10,9]
def tab10:List Int:=[1,10,100,1000,10000,100000,1000000,10000000,100000000,1000000000,10000000000,100000000000,1000000000000,10000000000000,100000000000000,1000000000000000,10000000000000000,100000000000000000,1000000000000000000,10000000000000000000]
def glT(g:Nat)(k:IntKind)(l:List Int):List (Addr×(Value→Prop)):=(List.range l.length).map fun i=>(⟨g,i,none⟩,fun v=>v= .int k (l.getD i 0))
def glL:List (Addr×(Value→Prop)):=[(⟨0,0,none⟩,fun v=> ∃m:Int,v= .int .i64 m),(⟨4,0,none⟩,fun v=> ∃t x,v= .iface t x),(⟨5,0,none⟩,fun v=> ∃t x,v= .iface t x)] ++
 (glT 3 .u8 tab64++(glT 2 .u8 tab32++glT 1 .u64 tab10))
def glN:List (Nat×Nat):=[(1,20)]
theorem VQ: ∀p∈glN,∃a∈glL,a.1.block=p.1:=fun p hp=>by
 obtain rfl:=List.mem_singleton.1 hp
 exact⟨(⟨1,0,none⟩,fun v=>v= .int .u64 (tab10.getD 0 0)),List.mem_append_right _ (List.mem_append_right _ (List.mem_append_right _ (List.mem_map.2 ⟨0,by simp[tab10],rfl⟩))),rfl⟩
inductive Ty where
 | mk (off kind size count:Int) (elem fields:List Ty)
namespace Ty
def off:Ty→Int| .mk o _ _ _ _ _=>o
def kind:Ty→Int| .mk _ k _ _ _ _=>k
def size:Ty→Int| .mk _ _ s _ _ _=>s
def count:Ty→Int| .mk _ _ _ c _ _=>c
def elem:Ty→List Ty| .mk _ _ _ _ es _=>es
def fields:Ty→List Ty| .mk _ _ _ _ _ fs=>fs
def at_(t:Ty)(o:Int):Ty:= .mk o t.kind t.size t.count t.elem t.fields
mutual
def para{α:Type}(f:Ty→List α→List α→α):Ty→α
 | .mk o k s c es fs=>f (.mk o k s c es fs) (lR f es) (lR f fs)
def lR{α:Type}(f:Ty→List α→List α→α):List Ty→List α
 | []=>[]
 | t::r=>para f t::lR f r
end
theorem mC{α:Type}(f:Ty→List α→List α→α): ∀l:List Ty,lR f l=l.map (para f)
 | []=>by simp[lR]
 | t::r=>by simp[lR,mC f r]
theorem para_mk{α:Type}(f:Ty→List α→List α→α)(o k s c:Int)(es fs:List Ty) :
  para f (.mk o k s c es fs)=f (.mk o k s c es fs) (es.map (para f)) (fs.map (para f)):=by
 simp[para,mC]
theorem induct{P:Ty→Prop}(h: ∀o k s c es fs,(∀t∈es,P t)→(∀t∈fs,P t)→P (.mk o k s c es fs)): ∀t,P t:=by
 intro t
 refine Ty.rec (motive_1:=P) (motive_2:=fun l=> ∀t∈l,P t) ?_ ?_ ?_ t
 ·intro o k s c es fs h1 h2
  exact h o k s c es fs h1 h2
 ·intro t ht
  cases ht
 ·intro t r ht hr x hx
  rcases List.mem_cons.1 hx with rfl|hx
  ·exact ht
  ·exact hr x hx
end Ty
def shal:Ty→Int→Bool:=Ty.para fun _ re rf n=>decide (1≤n)&&re.all (· (n-1))&&rf.all (· (n-1))
theorem sL(o k s c:Int)(es fs:List Ty)(n:Int):shal (.mk o k s c es fs) n=(decide (1≤n)&&es.all (fun t=>shal t (n-1))&&fs.all (fun t=>shal t (n-1))):=by
 unfold shal
 rw[Ty.para_mk]
 simp only[List.all_map]
 rfl
def siz:Ty→Int:=Ty.para fun t re rf =>
 min (if t.kind==1||t.kind==2 then t.size else if t.kind==3 then 4 else if t.kind==4 then t.count*re.headD 0
  else if t.kind==5 then(List.zipWith (fun(f:Ty) r=>f.off+r) t.fields rf).foldl max 0 else 0) 65537
theorem Wq{α β γ:Type}(f:α→β→γ)(g:α→β): ∀l:List α,List.zipWith f l (l.map g)=l.map fun x=>f x (g x)
 | []=>rfl
 | x::l=>by simp[Wq f g l]
theorem Fc(o k s c:Int)(es fs:List Ty):siz (.mk o k s c es fs) =
  min (if k==1||k==2 then s else if k==3 then 4 else if k==4 then c*(es.map siz).headD 0
   else if k==5 then(fs.map fun f=>f.off+siz f).foldl max 0 else 0) 65537:=by
 have h:siz (.mk o k s c es fs)=_:=Ty.para_mk _ o k s c es fs
 rw[h]
 simp only[Ty.kind,Ty.size,Ty.count,Ty.fields,Wq]
 rfl
def fok(fs:List Ty)(i:Nat):Bool :=
 decide (0≤((fs.map Ty.off).getD i 0))&&decide (((fs.map Ty.off).getD i 0)<65536)&&(i==0||decide ((fs.map Ty.off).getD (i-1) 0<(fs.map Ty.off).getD i 0))
def asc(fs:List Ty):Bool:=(List.range fs.length).all (fok fs)
def base(k s c:Int)(ne nf:Nat):Bool :=
 if k==0||k==6 then s==0&&c==0&&ne==0&&nf==0
 else if k==1||k==2 then(s==1||s==2||s==4)&&c==0&&ne==0&&nf==0
 else if k==3 then s==0&&c==0&&ne==1&&nf==0
 else if k==4 then s==0&&decide (1≤c)&&decide (c≤65536)&&ne==1&&nf==0
 else if k==5 then s==0&&c==0&&ne==0
 else false
def frm:Ty→Bool:=Ty.para fun t re rf=>base t.kind t.size t.count t.elem.length t.fields.length&&asc t.fields&&rf.all id&&re.all id
theorem xT(o k s c:Int)(es fs:List Ty):frm (.mk o k s c es fs)=(base k s c es.length fs.length&&asc fs&&fs.all frm&&es.all frm):=by
 have h:frm (.mk o k s c es fs)=_:=Ty.para_mk _ o k s c es fs
 rw[h]
 simp only[Ty.kind,Ty.size,Ty.count,Ty.fields,Ty.elem,List.all_map]
 rfl
def wit:Ty→Bool:=Ty.para fun t re rf=>decide (t.fields.length≤64)&&decide (siz t≤65536)&&rf.all id&&re.all id
theorem El(o k s c:Int)(es fs:List Ty):wit (.mk o k s c es fs)=(decide (fs.length≤64)&&decide (siz (.mk o k s c es fs)≤65536)&&fs.all wit&&es.all wit):=by
 have h:wit (.mk o k s c es fs)=_:=Ty.para_mk _ o k s c es fs
 rw[h]
 simp only[Ty.fields,List.all_map]
 rfl
def chk(t:Ty):Int:=if !shal t 64 then 20 else if !frm t then 2 else if !wit t then 6 else 0
def good(t:Ty):Bool:=chk t==0
theorem pX{o k s c:Int}{es fs:List Ty}(h:frm (.mk o k s c es fs)=true) :
  base k s c es.length fs.length=true∧(∀i,i<fs.length→fok fs i=true)∧(∀t∈fs,frm t=true)∧(∀t∈es,frm t=true):=by
 rw[xT]at h
 simp only[Bool.and_eq_true,List.all_eq_true,asc,List.mem_range]at h
 exact⟨h.1.1.1,h.1.1.2,h.1.2,h.2⟩
theorem mP{k s c:Int}{ne nf:Nat}(h:base k s c ne nf=true) :
  ((k=0∨k=6)∧s=0∧c=0∧ne=0∧nf=0)∨((k=1∨k=2)∧(s=1∨s=2∨s=4)∧c=0∧ne=0∧nf=0)∨(k=3∧s=0∧c=0∧ne=1∧nf=0) ∨
  (k=4∧s=0∧1≤c∧c≤65536∧ne=1∧nf=0)∨(k=5∧s=0∧c=0∧ne=0):=by
 unfold base at h
 split at h
 ·rename_i hk;simp at h hk;omega
 ·split at h
  ·rename_i hk;simp at h hk;omega
  ·split at h
   ·rename_i hk;simp at h hk;omega
   ·split at h
    ·rename_i hk;simp at h hk;omega
    ·split at h
     ·rename_i hk;simp at h hk;omega
     ·cases h
theorem OU{fs:List Ty}{i:Nat}(hi:i<fs.length)(h:fok fs i=true):0≤fs[i].off∧fs[i].off<65536:=by
 unfold fok at h
 simp only[Bool.and_eq_true,decide_eq_true_eq]at h
 have e:(fs.map Ty.off).getD i 0=fs[i].off:=by simp[List.getD,hi]
 rw[e]at h
 exact h.1
theorem sQ(l:List Int): ∀a:Int,a≤l.foldl max a:=by
 induction l with
 | nil=>intro a;exact Int.le_refl _
 | cons x l ih=>intro a;exact Int.le_trans (Int.le_max_left a x) (ih _)
theorem Mm(l:List Int)(b:Int)(h: ∀x∈l,x≤b): ∀a:Int,a≤b→l.foldl max a≤b:=by
 induction l with
 | nil=>intro a ha;exact ha
 | cons x l ih =>
  intro a ha;exact ih (fun y hy=>h y (List.mem_cons_of_mem _ hy)) _ (Int.max_le.2 ⟨ha,h x (List.mem_cons_self ..)⟩)
theorem GG(t:Ty):siz t≤65537:=by
 cases t
 rw[Fc]
 omega
theorem Fb: ∀t:Ty,frm t=true→0≤siz t:=by
 refine Ty.induct fun o k s c es fs hE hF h=> ?_
 obtain⟨hb,hf,hfs,hes⟩:=pX h
 rw[Fc]
 rcases mP hb with h1|h1|h1|h1|h1
 ·obtain⟨h1,rfl,rfl,_,_⟩:=h1
  rcases h1 with rfl|rfl<;>simp<;>omega
 ·obtain⟨h1,h2,_⟩:=h1
  have:(k==1||k==2)=true:=by rcases h1 with rfl|rfl<;>rfl
  rw[this];simp;omega
 ·obtain⟨rfl,_⟩:=h1
  simp;omega
 ·obtain⟨rfl,_,h2,h3,h4,_⟩:=h1
  match es,h4 with
  | [e],_ =>
   have:=hE e (List.mem_singleton.2 rfl) (hes e (List.mem_singleton.2 rfl));have h5:0≤c*siz e:=Int.mul_nonneg (by omega) this
   simp;omega
 ·obtain⟨rfl,_⟩:=h1
  have:=sQ (fs.map fun f=>f.off+siz f) 0
  simp;omega
def hd2(f:Ty→Ty→Bool):List Ty→List Ty→Bool
 | x::_,y::_=>f x y
 | _,_=>false
theorem Gf{t:Ty}(h:good t=true):frm t=true:=by
 unfold good chk at h
 cases h1:frm t with
 | true=>rfl
 | false =>
  rw[h1]at h;split at h<;>simp at h
inductive Ex where
 | mk (op n:Int) (name:ByteArray) (width:Int) (l:List Ex)
namespace Ex
def op:Ex→Int| .mk o _ _ _ _=>o
def n:Ex→Int| .mk _ n _ _ _=>n
def name:Ex→ByteArray| .mk _ _ s _ _=>s
def width:Ex→Int| .mk _ _ _ w _=>w
def l:Ex→List Ex| .mk _ _ _ _ l=>l
mutual
def para{α:Type}(f:Ex→List α→α):Ex→α
 | .mk o n s w l=>f (.mk o n s w l) (lR f l)
def lR{α:Type}(f:Ex→List α→α):List Ex→List α
 | []=>[]
 | t::r=>para f t::lR f r
end
theorem mC{α:Type}(f:Ex→List α→α): ∀l:List Ex,lR f l=l.map (para f)
 | []=>by simp[lR]
 | t::r=>by simp[lR,mC f r]
theorem para_mk{α:Type}(f:Ex→List α→α)(o n:Int)(s:ByteArray)(w:Int)(l:List Ex) :
  para f (.mk o n s w l)=f (.mk o n s w l) (l.map (para f)):=by
 simp[para,mC]
theorem induct{P:Ex→Prop}(h: ∀o n s w l,(∀t∈l,P t)→P (.mk o n s w l)): ∀t,P t:=by
 intro t
 refine Ex.rec (motive_1:=P) (motive_2:=fun l=> ∀t∈l,P t) ?_ ?_ ?_ t
 ·intro o n s w l h1
  exact h o n s w l h1
 ·intro t ht
  cases ht
 ·intro t r ht hr x hx
  rcases List.mem_cons.1 hx with rfl|hx
  ·exact ht
  ·exact hr x hx
end Ex
def esh:Ex→Int→Bool:=Ex.para fun _ r n=>decide (1≤n)&&r.all (· (n-1))
theorem Bq(o k:Int)(s:ByteArray)(w:Int)(l:List Ex)(n:Int):esh (.mk o k s w l) n=(decide (1≤n)&&l.all (fun t=>esh t (n-1))):=by
 unfold esh
 rw[Ex.para_mk]
 simp only[List.all_map]
 rfl
def eqS(a b:ByteArray):Bool:=a.toList==b.toList
theorem wO(a b:ByteArray):eqS a b=true↔a=b:=by
 unfold eqS
 rw[beq_iff_eq,ByteArray.toList_eq,ByteArray.toList_eq]
 constructor
 ·intro e
  cases a;cases b
  simp only at e
  congr
  exact Array.ext' e
 ·rintro rfl;rfl
theorem Qz(a:ByteArray):eqS a a=true:=(wO a a).2 rfl
theorem ZO{a b:ByteArray}:eqS a b=false↔a≠b:=by
 rw[←Bool.not_eq_true,wO]
def okB(i:Nat)(b:Int):Bool:=(decide (b≥97)&&decide (b≤122))||(decide (b≥65)&&decide (b≤90))||b==95||b==46||(decide (i≠0)&&decide (48≤b)&&decide (b≤57))
def bAt(s:ByteArray)(i:Nat):Int:=(s.data.toList.getD i 0).toNat
def okN(s:ByteArray):Bool:=(List.range s.size).all fun i=>okB i (bAt s i)
def words:List ByteArray:=["break", "call", "case", "continue", "data", "else", "exec", "func", "goto", "halt", "if", "in", "loop", "out", "return", "switch", "var", "while", "write", "load1", "load2", "load4", "sext1", "sext2", "store1", "store2", "store4"].map String.toUTF8
def nameT(s:ByteArray):Bool:=okN s&& !words.any (eqS · s)&&decide (0<s.size)&&decide (s.size≤32)
def ebase(o n:Int)(s:ByteArray)(w:Int)(m:Nat):Bool :=
 if o==1 then eqS s ByteArray.empty&&w==0&&m==0
 else if o==2 then nameT s&&n==0&&w==0&&m==0
 else if decide (o≥3)&&decide (o≤15)then n==0&&eqS s ByteArray.empty&&w==0&&m==2
 else if o==16||o==17 then n==0&&eqS s ByteArray.empty&&w==0&&m==1
 else if o==18 then n==0&&eqS s ByteArray.empty&&(w==1||w==2||w==4)&&m==1
 else if o==19 then n==0&&eqS s ByteArray.empty&&(w==1||w==2)&&m==1
 else false
def efm:Ex→Bool:=Ex.para fun e r=>ebase e.op e.n e.name e.width e.l.length&&r.all id
theorem vB(o n:Int)(s:ByteArray)(w:Int)(l:List Ex):efm (.mk o n s w l)=(ebase o n s w l.length&&l.all efm):=by
 unfold efm
 rw[Ex.para_mk]
 simp only[List.all_map]
 rfl
structure Va where
 name:ByteArray
 ty:Ty
def has(vs:List Va)(s:ByteArray):Bool:=vs.any fun v=>eqS v.name s
def knw(vs:List Va):Ex→Bool:=Ex.para fun e r=>if e.op==2 then has vs e.name else r.all id
theorem Um(vs:List Va)(o n:Int)(s:ByteArray)(w:Int)(l:List Ex):knw vs (.mk o n s w l)=if o==2 then has vs s else l.all (knw vs):=by
 unfold knw
 rw[Ex.para_mk]
 simp only[List.all_map]
 rfl
def gfold{α:Type}(f:α→Int→Int)(l:List α)(n:Int):Int:=l.foldl (fun m x=>if 0<m then f x m else m) n
theorem BS{α β:Type}(g:α→β)(f:β→Int→Int)(l:List α)(n:Int):gfold f (l.map g) n=gfold (fun x=>f (g x)) l n:=by
 simp only[gfold,List.foldl_map]
def exn:Ex→Int→Int:=Ex.para fun _ r n=>gfold (fun r=>r) r (n-1)
theorem IT(o k:Int)(s:ByteArray)(w:Int)(l:List Ex)(n:Int):exn (.mk o k s w l) n=gfold exn l (n-1):=by
 unfold exn
 rw[Ex.para_mk]
 simp only[BS]
def all2{α β:Type}(p:α→β→Bool):List α→List β→Bool
 | [],[]=>true
 | x::l,y::m=>p x y&&all2 p l m
 | _,_=>false
theorem vF{α β:Type}{p:α→β→Bool}: ∀ {l:List α} {m:List β},all2 p l m=true↔l.length=m.length∧ ∀i (h:i<l.length) (h':i<m.length),p l[i] m[i]=true
 | [],[]=>by simp[all2]
 | [],y::m=>by simp[all2]
 | x::l,[]=>by simp[all2]
 | x::l,y::m=>by
  simp only[all2,Bool.and_eq_true,vF,List.length_cons,Nat.add_right_cancel_iff];constructor
  ·rintro⟨h1,h2,h3⟩
   refine⟨h2,fun i hi hi'=> ?_⟩
   cases i with
   | zero=>exact h1
   | succ i=>exact h3 i (by omega) (by omega)
  ·rintro⟨h1,h2⟩
   exact⟨h2 0 (by omega) (by omega),h1,fun i hi hi'=>h2 (i+1) (by omega) (by omega)⟩
theorem Sn{α β γ:Type}(g:γ→α)(p:α→β→Bool): ∀(l:List γ) (m:List β),all2 p (l.map g) m=all2 (fun x y=>p (g x) y) l m
 | [],[]=>rfl
 | [],_::_=>rfl
 | _::_,[]=>rfl
 | x::l,y::m=>by simp[all2,Sn g p l m]
end Go.Proofs.YtmbmmckagcdapaaGreatDoor
namespace Go.Proofs.YtmbmmckagcdapaaGreatDoor
open Go
def sp(b:UInt8):Bool:=b !=32
def tween:List UInt8→List (List UInt8)
 | []=>[]
 | c::t=>if c==32&& !(t.dropWhile sp).isEmpty then t.takeWhile sp::tween t else tween t
theorem Cn: ∀(s t:List UInt8),(∀b∈s,b≠32)→(s++[32]).isPrefixOf t=(t.takeWhile sp==s&& !(t.dropWhile sp).isEmpty)
 | [],[],_=>rfl
 | [],c::t,_=>by
  by_cases h:c=32
  ·subst h;rfl
  ·have h2:sp c=true:=by simp[sp,h]
   have h3:((32:UInt8)==c)=false:=by simp;exact fun e=>h e.symm
   simp[List.isPrefixOf,h2,h3]
 | a::s,[],_=>rfl
 | a::s,c::t,h=>by
  have ha:a≠32:=h a (by simp)
  have ih:=Cn s t (fun b hb=>h b (by simp[hb]))
  simp only[List.cons_append,List.isPrefixOf];rw[ih]
  by_cases hc:c=32
  ·subst hc
   have h3:(a==(32:UInt8))=false:=by simpa using ha
   have h4:sp 32=false:=rfl;simp[h3,h4,List.takeWhile,List.dropWhile]
  ·have h2:sp c=true:=by simp[sp,hc]
   simp only[List.takeWhile,List.dropWhile,h2]
   by_cases hac:a=c
   ·subst hac;simp
   ·have h3:(a==c)=false:=by simpa using hac
    have h4:((c::t.takeWhile sp)==a::s)=false:=by
     rw[beq_eq_false_iff_ne];intro e;cases e
     exact hac rfl
    rw[h3,h4,Bool.false_and,Bool.false_and]
theorem contains_cons(c:UInt8)(t sub:List UInt8):Lib.contains (c::t) sub=(sub.isPrefixOf (c::t)||Lib.contains t sub):=by
 unfold Lib.contains
 rw[Lib.index]
 split
 ·rename_i h;rw[h];simp
 ·rename_i h
  have h':sub.isPrefixOf (c::t)=false:=Bool.eq_false_iff.2 h;rw[h',Bool.false_or];have:=Lib.index_ge t sub;split<;>simp_all<;>omega
theorem qY: ∀(t s:List UInt8),(∀b∈s,b≠32)→Lib.contains t (32::(s++[32]))=(tween t).any (· ==s)
 | [],s,_=>by simp[Lib.contains,Lib.index,tween]
 | c::t,s,h=>by
  rw[contains_cons,qY t s h];simp only[List.isPrefixOf,Cn s t h,tween]
  by_cases hc:c=32
  ·subst hc
   cases h2:(t.dropWhile sp).isEmpty
   ·simp[h2]
   ·simp[h2]
  ·have h3:((32:UInt8)==c)=false:=by simp;exact fun e=>hc e.symm
   have h4:(c==(32:UInt8))=false:=by simpa using hc
   simp[h3,h4]
def wtxt:List UInt8:=32::words.flatMap fun w=>w.data.toList++[32]
theorem Tj:tween wtxt=words.map fun w=>w.data.toList:=by kernel_rfl
theorem Iq(s:ByteArray)(h:okN s=true):Lib.contains wtxt (32::(s.data.toList++[32]))=words.any (eqS · s):=by
 rw[qY,Tj,List.any_map]
 ·congr 1
  funext w
  simp only[Function.comp];unfold eqS;rw[ByteArray.toList_eq,ByteArray.toList_eq]
 ·intro b hb e
  subst e;obtain⟨i,hi,hbi⟩:=List.getElem_of_mem hb;have hi':i<s.size:=by simpa using hi
  have h1:okB i (bAt s i)=true:=List.all_eq_true.1 h i (by simpa using hi')
  have h2:bAt s i=32:=by
   unfold bAt;have:s.data.toList.getD i 0=32:=by rw[List.getD_eq_getElem?_getD,List.getElem?_eq_getElem hi,hbi];rfl
   rw[this];rfl
  rw[h2]at h1;simp[okB]at h1
theorem RE(s:ByteArray)(i:Nat)(h:i<s.size):bAt s i=(s[i]'h).toNat:=by
 unfold bAt
 have hi:i<s.data.toList.length:=by simpa using h
 rw[List.getD_eq_getElem?_getD,List.getElem?_eq_getElem hi]
 rfl
theorem Gt(s:ByteArray)(i:Nat)(h:i<s.size)(hb:128≤(s[i]'h).toNat):128≤(Utf8.decode s i).1:=by
 have e:s.get! (i+0)=s[i]'h:=by
  show s.get! i=_
  simp[ByteArray.get!,getElem!_pos,h];rfl
 have h0: ¬(s[i]'h).toNat<128:=by omega
 simp only[Utf8.decode,e,h0,if_false,Utf8.runeError]
 split
 ·split<;>simp_all
 ·split
  ·split
   ·rename_i h2;simp only[Bool.and_eq_true,decide_eq_true_eq]at h2;omega
   ·decide
  ·split
   ·split
    ·rename_i h2;simp only[Bool.and_eq_true,decide_eq_true_eq]at h2;omega
    ·decide
   ·decide
end Go.Proofs.YtmbmmckagcdapaaGreatDoor
namespace Go.Proofs
open Go.Shelf
def Tryz.lays156_ren:Go.Shelf.Ren:=⟨fun|156=>71|165=>139|166=>82|169=>40|240=>149|241=>198|276=>203|277=>250|n=>n,fun|31=>84|9=>9|3=>3|4=>4|0=>0|20=>20|72=>71|76=>140|70=>68|37=>69|75=>139|127=>148|164=>248|5=>5|80=>81|n=>n,fun|n=>n⟩
theorem Tryz.lays156:Go.Proofs.Lays.n156 Tryz.prog Tryz.lays156_ren:={
 mixed:=by kernel_rfl
 f156:=Tryz.func71.trans (congrArg some (by kernel_rfl))
 f165:=Tryz.func139.trans (congrArg some (by kernel_rfl))
 f166:=Tryz.func82.trans (congrArg some (by kernel_rfl))
 f169:=Tryz.func40.trans (congrArg some (by kernel_rfl))
 f240:=Tryz.func149.trans (congrArg some (by kernel_rfl))
 f241:=Tryz.func198.trans (congrArg some (by kernel_rfl))
 f276:=Tryz.func203.trans (congrArg some (by kernel_rfl))
 f277:=Tryz.func250.trans (congrArg some (by kernel_rfl))
 t0:=Tryz.underlying0
 a0:=Tryz.isAgg0
 z0:=Tryz.sizeOf0
 v0:=Tryz.zeroValue0
 t3:=Tryz.underlying3
 a3:=Tryz.isAgg3
 z3:=Tryz.sizeOf3
 v3:=Tryz.zeroValue3
 t4:=Tryz.underlying4
 a4:=Tryz.isAgg4
 z4:=Tryz.sizeOf4
 v4:=Tryz.zeroValue4
 t9:=Tryz.underlying9
 a9:=Tryz.isAgg9
 z9:=Tryz.sizeOf9
 v9:=Tryz.zeroValue9
 t20:=Tryz.underlying20
 a20:=Tryz.isAgg20
 z20:=Tryz.sizeOf20
 v20:=Tryz.zeroValue20
 t31:=Tryz.underlying84
 a31:=Tryz.isAgg84
 z31:=Tryz.sizeOf84
 v31:=Tryz.zeroValue84
 t37:=Tryz.underlying69
 a37:=Tryz.isAgg69
 z37:=Tryz.sizeOf69
 v37:=Tryz.zeroValue69
 t70:=Tryz.underlying68
 a70:=Tryz.isAgg68
 z70:=Tryz.sizeOf68
 v70:=Tryz.zeroValue68
 t72:=Tryz.underlying71
 a72:=Tryz.isAgg71
 z72:=Tryz.sizeOf71
 v72:=Tryz.zeroValue71
 t75:=Tryz.underlying139
 a75:=Tryz.isAgg139
 z75:=Tryz.sizeOf139
 v75:=Tryz.zeroValue139
 t76:=Tryz.underlying140
 a76:=Tryz.isAgg140
 z76:=Tryz.sizeOf140
 v76:=Tryz.zeroValue140
 t127:=Tryz.underlying148
 a127:=Tryz.isAgg148
 z127:=Tryz.sizeOf148
 v127:=Tryz.zeroValue148
 t164:=Tryz.underlying248
 a164:=Tryz.isAgg248
 z164:=Tryz.sizeOf248
 v164:=Tryz.zeroValue248}
theorem Tryz.Builder_Extra_156:Builder.Extra Tryz.prog Tryz.lays156_ren:={
 sizeBuilder:=by kernel_rfl
 liesBuilder:=by kernel_rfl
 t5:=Tryz.underlying5
 a5:=Tryz.isAgg5
 z5:=Tryz.sizeOf5
 v5:=Tryz.zeroValue5
 infoByte:=by kernel_rfl
 cellsByte:=by kernel_rfl
 sizeByte:=by kernel_rfl
 neB5:=by decide}
open Go.RowKit in
theorem Tryz.strings_Join_none(a:Option Addr)(c:Nat)(sep:ByteArray)(w:World) :
  Calls Tryz.prog 71 #[.slice a 0 c,.string sep] w fun e w'=>e= .returned (.string ⟨#[]⟩)∧w'=w:=Any.strings_Join_none Tryz.lays156 Tryz.Builder_Extra_156 a c sep w
open Go.RowKit in
theorem Tryz.strings_Join(bk o c:Nat)(xs:List ByteArray)(sep:ByteArray)(w:World)(hcells: ∀(j:Nat) x,xs[j]? =some x→w.cell? ⟨bk,o+j,none⟩=some (.string x))(hbk:bk<w.heap.size)(hN:xs.length≤140737488355328)(hcap:xs.length≤c)(hlen:(Lib.join (xs.map (·.data.toList)) sep.data.toList).length≤140737488355328) :
  Calls Tryz.prog 71 #[.slice (some ⟨bk,o,none⟩) xs.length c,.string sep] w fun e w'=>e= .returned (.string ⟨(Lib.join (xs.map (·.data.toList)) sep.data.toList).toArray⟩)∧Below w.heap.size w w':=Any.strings_Join Tryz.lays156 Tryz.Builder_Extra_156 bk o c xs sep w hcells hbk hN hcap hlen
def Tryz.laysM171_ren:Go.Shelf.Ren:=⟨fun|171=>137|243=>197|246=>249|283=>206|284=>207|285=>208|286=>209|129=>252|317=>251|318=>253|319=>254|320=>255|337=>270|338=>271|n=>n,fun|3=>3|9=>9|2=>2|4=>4|171=>254|0=>0|53=>145|37=>69|5=>5|173=>257|212=>280|51=>43|20=>20|213=>281|46=>146|232=>301|233=>302|n=>n,fun|17=>1|18=>2|19=>3|n=>n⟩
theorem Tryz.laysM171:Go.Proofs.LaysM.n171 Tryz.prog Tryz.laysM171_ren:={
 mixed:=by kernel_rfl
 f129:=Tryz.func252.trans (congrArg some (by kernel_rfl))
 f171:=Tryz.func137.trans (congrArg some (by kernel_rfl))
 f243:=Tryz.func197.trans (congrArg some (by kernel_rfl))
 f246:=Tryz.func249.trans (congrArg some (by kernel_rfl))
 f283:=Tryz.func206.trans (congrArg some (by kernel_rfl))
 f284:=Tryz.func207.trans (congrArg some (by kernel_rfl))
 f285:=Tryz.func208.trans (congrArg some (by kernel_rfl))
 f286:=Tryz.func209.trans (congrArg some (by kernel_rfl))
 f317:=Tryz.func251.trans (congrArg some (by kernel_rfl))
 f318:=Tryz.func253.trans (congrArg some (by kernel_rfl))
 f319:=Tryz.func254.trans (congrArg some (by kernel_rfl))
 f320:=Tryz.func255.trans (congrArg some (by kernel_rfl))
 f337:=Tryz.func270.trans (congrArg some (by kernel_rfl))
 f338:=Tryz.func271.trans (congrArg some (by kernel_rfl))
 t0:=Tryz.underlying0
 a0:=Tryz.isAgg0
 z0:=Tryz.sizeOf0
 v0:=Tryz.zeroValue0
 t2:=Tryz.underlying2
 a2:=Tryz.isAgg2
 z2:=Tryz.sizeOf2
 v2:=Tryz.zeroValue2
 t3:=Tryz.underlying3
 a3:=Tryz.isAgg3
 z3:=Tryz.sizeOf3
 v3:=Tryz.zeroValue3
 t4:=Tryz.underlying4
 a4:=Tryz.isAgg4
 z4:=Tryz.sizeOf4
 v4:=Tryz.zeroValue4
 t5:=Tryz.underlying5
 a5:=Tryz.isAgg5
 z5:=Tryz.sizeOf5
 v5:=Tryz.zeroValue5
 t9:=Tryz.underlying9
 a9:=Tryz.isAgg9
 z9:=Tryz.sizeOf9
 v9:=Tryz.zeroValue9
 t20:=Tryz.underlying20
 a20:=Tryz.isAgg20
 z20:=Tryz.sizeOf20
 v20:=Tryz.zeroValue20
 t37:=Tryz.underlying69
 a37:=Tryz.isAgg69
 z37:=Tryz.sizeOf69
 v37:=Tryz.zeroValue69
 t46:=Tryz.underlying146
 a46:=Tryz.isAgg146
 z46:=Tryz.sizeOf146
 v46:=Tryz.zeroValue146
 t51:=Tryz.underlying43
 a51:=Tryz.isAgg43
 z51:=Tryz.sizeOf43
 v51:=Tryz.zeroValue43
 t53:=Tryz.underlying145
 a53:=Tryz.isAgg145
 z53:=Tryz.sizeOf145
 v53:=Tryz.zeroValue145
 t171:=Tryz.underlying254
 a171:=Tryz.isAgg254
 z171:=Tryz.sizeOf254
 v171:=Tryz.zeroValue254
 t173:=Tryz.underlying257
 a173:=Tryz.isAgg257
 z173:=Tryz.sizeOf257
 v173:=Tryz.zeroValue257
 t212:=Tryz.underlying280
 a212:=Tryz.isAgg280
 z212:=Tryz.sizeOf280
 v212:=Tryz.zeroValue280
 t213:=Tryz.underlying281
 a213:=Tryz.isAgg281
 z213:=Tryz.sizeOf281
 t232:=Tryz.underlying301
 a232:=Tryz.isAgg301
 z232:=Tryz.sizeOf301
 v232:=Tryz.zeroValue301
 t233:=Tryz.underlying302
 a233:=Tryz.isAgg302
 z233:=Tryz.sizeOf302
 v233:=Tryz.zeroValue302
 g17:=by kernel_rfl
 g18:=by kernel_rfl
 g19:=by kernel_rfl
 i0:=by kernel_rfl
 i2:=by kernel_rfl
 i3:=by kernel_rfl
 i4:=by kernel_rfl
 i5:=by kernel_rfl
 i9:=by kernel_rfl
 i20:=by kernel_rfl
 i37:=by kernel_rfl
 i46:=by kernel_rfl
 i51:=by kernel_rfl
 i53:=by kernel_rfl
 i171:=by kernel_rfl
 i173:=by kernel_rfl
 i212:=by kernel_rfl
 i232:=by kernel_rfl
 i233:=by kernel_rfl
 m17:=by kernel_rfl
 m18:=by kernel_rfl
 m19:=by kernel_rfl}
open Go.RowKit Go.Sort Go.Lib in
theorem Tryz.strconv_Itoa(n:Int)(h0: -9223372036854775808≤n)(h1:n≤9223372036854775807)(w:World)(htab:Lib.TabIs Tryz.prog w "internal/strconv.uint64pow10" .u64 Lib.pow10Tab) :
  Calls Tryz.prog 137 #[.int .i64 n] w fun e w'=>e= .returned (.string ⟨(Lib.itoa n).toArray⟩)∧ ∃k os,w'=grow (w.drewN k) os:=Any.strconv_Itoa Tryz.laysM171 n h0 h1 w htab
def Tryz.laysC245_ren:Go.Shelf.Ren:=⟨fun|245=>267|279=>274|280=>275|281=>276|282=>277|316=>282|171=>137|205=>283|243=>197|246=>249|283=>206|284=>207|285=>208|286=>209|129=>252|317=>251|318=>253|319=>254|320=>255|337=>270|338=>271|n=>n,fun|9=>9|3=>3|75=>139|167=>291|4=>4|168=>293|210=>304|37=>69|0=>0|127=>148|145=>309|143=>307|2=>2|171=>254|53=>145|5=>5|173=>257|212=>280|51=>43|20=>20|213=>281|46=>146|232=>301|233=>302|80=>81|n=>n,fun|15=>4|16=>5|17=>1|18=>2|19=>3|n=>n⟩
theorem Tryz.laysC245:Go.Proofs.LaysC.n245 Tryz.prog Tryz.laysC245_ren:={
 mixed:=by kernel_rfl
 f129:=Tryz.func252.trans (congrArg some (by kernel_rfl))
 f171:=Tryz.func137.trans (congrArg some (by kernel_rfl))
 f205:=Tryz.func283.trans (congrArg some (by kernel_rfl))
 f243:=Tryz.func197.trans (congrArg some (by kernel_rfl))
 f245:=Tryz.func267.trans (congrArg some (by kernel_rfl))
 f246:=Tryz.func249.trans (congrArg some (by kernel_rfl))
 f279:=Tryz.func274.trans (congrArg some (by kernel_rfl))
 f280:=Tryz.func275.trans (congrArg some (by kernel_rfl))
 f281:=Tryz.func276.trans (congrArg some (by kernel_rfl))
 f282:=Tryz.func277.trans (congrArg some (by kernel_rfl))
 f283:=Tryz.func206.trans (congrArg some (by kernel_rfl))
 f284:=Tryz.func207.trans (congrArg some (by kernel_rfl))
 f285:=Tryz.func208.trans (congrArg some (by kernel_rfl))
 f286:=Tryz.func209.trans (congrArg some (by kernel_rfl))
 f316:=Tryz.func282.trans (congrArg some (by kernel_rfl))
 f317:=Tryz.func251.trans (congrArg some (by kernel_rfl))
 f318:=Tryz.func253.trans (congrArg some (by kernel_rfl))
 f319:=Tryz.func254.trans (congrArg some (by kernel_rfl))
 f320:=Tryz.func255.trans (congrArg some (by kernel_rfl))
 f337:=Tryz.func270.trans (congrArg some (by kernel_rfl))
 f338:=Tryz.func271.trans (congrArg some (by kernel_rfl))
 t0:=Tryz.underlying0
 a0:=Tryz.isAgg0
 z0:=Tryz.sizeOf0
 v0:=Tryz.zeroValue0
 t2:=Tryz.underlying2
 a2:=Tryz.isAgg2
 z2:=Tryz.sizeOf2
 v2:=Tryz.zeroValue2
 t3:=Tryz.underlying3
 a3:=Tryz.isAgg3
 z3:=Tryz.sizeOf3
 v3:=Tryz.zeroValue3
 t4:=Tryz.underlying4
 a4:=Tryz.isAgg4
 z4:=Tryz.sizeOf4
 v4:=Tryz.zeroValue4
 t5:=Tryz.underlying5
 a5:=Tryz.isAgg5
 z5:=Tryz.sizeOf5
 v5:=Tryz.zeroValue5
 t9:=Tryz.underlying9
 a9:=Tryz.isAgg9
 z9:=Tryz.sizeOf9
 v9:=Tryz.zeroValue9
 t20:=Tryz.underlying20
 a20:=Tryz.isAgg20
 z20:=Tryz.sizeOf20
 v20:=Tryz.zeroValue20
 t37:=Tryz.underlying69
 a37:=Tryz.isAgg69
 z37:=Tryz.sizeOf69
 v37:=Tryz.zeroValue69
 t46:=Tryz.underlying146
 a46:=Tryz.isAgg146
 z46:=Tryz.sizeOf146
 v46:=Tryz.zeroValue146
 t51:=Tryz.underlying43
 a51:=Tryz.isAgg43
 z51:=Tryz.sizeOf43
 v51:=Tryz.zeroValue43
 t53:=Tryz.underlying145
 a53:=Tryz.isAgg145
 z53:=Tryz.sizeOf145
 v53:=Tryz.zeroValue145
 t75:=Tryz.underlying139
 a75:=Tryz.isAgg139
 z75:=Tryz.sizeOf139
 v75:=Tryz.zeroValue139
 t127:=Tryz.underlying148
 a127:=Tryz.isAgg148
 z127:=Tryz.sizeOf148
 v127:=Tryz.zeroValue148
 t143:=Tryz.underlying307
 a143:=Tryz.isAgg307
 z143:=Tryz.sizeOf307
 v143:=Tryz.zeroValue307
 t145:=Tryz.underlying309
 a145:=Tryz.isAgg309
 z145:=Tryz.sizeOf309
 v145:=Tryz.zeroValue309
 t167:=Tryz.underlying291
 a167:=Tryz.isAgg291
 z167:=Tryz.sizeOf291
 v167:=Tryz.zeroValue291
 t168:=Tryz.underlying293
 a168:=Tryz.isAgg293
 z168:=Tryz.sizeOf293
 v168:=Tryz.zeroValue293
 t171:=Tryz.underlying254
 a171:=Tryz.isAgg254
 z171:=Tryz.sizeOf254
 v171:=Tryz.zeroValue254
 t173:=Tryz.underlying257
 a173:=Tryz.isAgg257
 z173:=Tryz.sizeOf257
 v173:=Tryz.zeroValue257
 t210:=Tryz.underlying304
 a210:=Tryz.isAgg304
 z210:=Tryz.sizeOf304
 v210:=Tryz.zeroValue304
 t212:=Tryz.underlying280
 a212:=Tryz.isAgg280
 z212:=Tryz.sizeOf280
 v212:=Tryz.zeroValue280
 t213:=Tryz.underlying281
 a213:=Tryz.isAgg281
 z213:=Tryz.sizeOf281
 t232:=Tryz.underlying301
 a232:=Tryz.isAgg301
 z232:=Tryz.sizeOf301
 v232:=Tryz.zeroValue301
 t233:=Tryz.underlying302
 a233:=Tryz.isAgg302
 z233:=Tryz.sizeOf302
 v233:=Tryz.zeroValue302
 g15:=by kernel_rfl
 g16:=by kernel_rfl
 g17:=by kernel_rfl
 g18:=by kernel_rfl
 g19:=by kernel_rfl
 t80:=Tryz.underlying81
 a80:=Tryz.isAgg81
 z80:=Tryz.sizeOf81
 v80:=Tryz.zeroValue81
 i0:=by kernel_rfl
 i2:=by kernel_rfl
 i3:=by kernel_rfl
 i4:=by kernel_rfl
 i5:=by kernel_rfl
 i9:=by kernel_rfl
 i20:=by kernel_rfl
 i37:=by kernel_rfl
 i46:=by kernel_rfl
 i51:=by kernel_rfl
 i53:=by kernel_rfl
 i75:=by kernel_rfl
 i80:=by kernel_rfl
 i127:=by kernel_rfl
 i143:=by kernel_rfl
 i145:=by kernel_rfl
 i167:=by kernel_rfl
 i168:=by kernel_rfl
 i171:=by kernel_rfl
 i173:=by kernel_rfl
 i210:=by kernel_rfl
 i212:=by kernel_rfl
 i232:=by kernel_rfl
 i233:=by kernel_rfl
 m15:=by kernel_rfl
 m16:=by kernel_rfl
 m17:=by kernel_rfl
 m18:=by kernel_rfl
 m19:=by kernel_rfl
 c0:=by kernel_rfl
 c2:=by kernel_rfl
 c3:=by kernel_rfl
 c4:=by kernel_rfl
 c5:=by kernel_rfl
 c9:=by kernel_rfl
 c20:=by kernel_rfl
 c37:=by kernel_rfl
 c46:=by kernel_rfl
 c51:=by kernel_rfl
 c53:=by kernel_rfl
 c75:=by kernel_rfl
 c80:=by kernel_rfl
 c127:=by kernel_rfl
 c143:=by kernel_rfl
 c145:=by kernel_rfl
 c167:=by kernel_rfl
 c168:=by kernel_rfl
 c171:=by kernel_rfl
 c173:=by kernel_rfl
 c210:=by kernel_rfl
 c212:=by kernel_rfl
 c213:=by kernel_rfl
 c232:=by kernel_rfl
 c233:=by kernel_rfl}
open Go.RowKit in
theorem Tryz.strconv_toError_syntax(fn s:ByteArray)(base bits:Int)(ev:Value)(w:World)(hlim:s.size≤281474976710656)(hv:w.cell? ⟨4,0,none⟩=some ev)(hev:ev= .nilIface∨ ∃te pe,ev= .iface te pe) :
  Calls Tryz.prog 267 #[.string fn,.string s,.int .i64 base,.int .i64 bits,.iface 291 (.int .i64 2)] w fun e w'=> ∃N,e= .returned (.iface 293 (.pointer (some ⟨N,0,none⟩)))∧w.heap.size≤N∧w'.heap[N]? =some (.cells #[.string fn,.string s,ev] 304 (0,0))∧Below w.heap.size w w':=Any.strconv_toError_syntax Tryz.laysC245 fn s base bits ev w hlim hv hev
open Go.RowKit in
theorem Tryz.strconv_toError_range(fn s:ByteArray)(base bits:Int)(ev:Value)(w:World)(hlim:s.size≤281474976710656)(hv:w.cell? ⟨5,0,none⟩=some ev)(hev:ev= .nilIface∨ ∃te pe,ev= .iface te pe) :
  Calls Tryz.prog 267 #[.string fn,.string s,.int .i64 base,.int .i64 bits,.iface 291 (.int .i64 1)] w fun e w'=> ∃N,e= .returned (.iface 293 (.pointer (some ⟨N,0,none⟩)))∧w.heap.size≤N∧w'.heap[N]? =some (.cells #[.string fn,.string s,ev] 304 (0,0))∧Below w.heap.size w w':=Any.strconv_toError_range Tryz.laysC245 fn s base bits ev w hlim hv hev
def Tryz.lays150_ren:Go.Shelf.Ren:=⟨fun|150=>246|153=>268|152=>278|226=>279|227=>280|228=>281|137=>269|119=>284|224=>243|225=>242|217=>241|266=>264|n=>n,fun|9=>9|4=>4|3=>3|5=>5|21=>21|117=>299|116=>298|0=>0|46=>146|124=>306|n=>n,fun|n=>n⟩
theorem Tryz.lays150:Go.Proofs.Lays.n150 Tryz.prog Tryz.lays150_ren:={
 mixed:=by kernel_rfl
 f119:=Tryz.func284.trans (congrArg some (by kernel_rfl))
 f137:=Tryz.func269.trans (congrArg some (by kernel_rfl))
 f150:=Tryz.func246.trans (congrArg some (by kernel_rfl))
 f152:=Tryz.func278.trans (congrArg some (by kernel_rfl))
 f153:=Tryz.func268.trans (congrArg some (by kernel_rfl))
 f217:=Tryz.func241.trans (congrArg some (by kernel_rfl))
 f224:=Tryz.func243.trans (congrArg some (by kernel_rfl))
 f225:=Tryz.func242.trans (congrArg some (by kernel_rfl))
 f226:=Tryz.func279.trans (congrArg some (by kernel_rfl))
 f227:=Tryz.func280.trans (congrArg some (by kernel_rfl))
 f228:=Tryz.func281.trans (congrArg some (by kernel_rfl))
 f266:=Tryz.func264.trans (congrArg some (by kernel_rfl))
 t0:=Tryz.underlying0
 a0:=Tryz.isAgg0
 z0:=Tryz.sizeOf0
 v0:=Tryz.zeroValue0
 t3:=Tryz.underlying3
 a3:=Tryz.isAgg3
 z3:=Tryz.sizeOf3
 v3:=Tryz.zeroValue3
 t4:=Tryz.underlying4
 a4:=Tryz.isAgg4
 z4:=Tryz.sizeOf4
 v4:=Tryz.zeroValue4
 t5:=Tryz.underlying5
 a5:=Tryz.isAgg5
 z5:=Tryz.sizeOf5
 v5:=Tryz.zeroValue5
 t9:=Tryz.underlying9
 a9:=Tryz.isAgg9
 z9:=Tryz.sizeOf9
 v9:=Tryz.zeroValue9
 t21:=Tryz.underlying21
 a21:=Tryz.isAgg21
 z21:=Tryz.sizeOf21
 v21:=Tryz.zeroValue21
 t46:=Tryz.underlying146
 a46:=Tryz.isAgg146
 z46:=Tryz.sizeOf146
 v46:=Tryz.zeroValue146
 t116:=Tryz.underlying298
 a116:=Tryz.isAgg298
 z116:=Tryz.sizeOf298
 t117:=Tryz.underlying299
 a117:=Tryz.isAgg299
 z117:=Tryz.sizeOf299
 v117:=Tryz.zeroValue299
 t124:=Tryz.underlying306
 a124:=Tryz.isAgg306
 z124:=Tryz.sizeOf306
 v124:=Tryz.zeroValue306}
open Go.RowKit Go.Lib in
theorem Tryz.strings_ContainsAny_laid(s chars:ByteArray)(w:World)(hs:s.size<4294967281)(hcs:chars.size<4294967281)(has: ∀(j:Nat) b,s.data.toList[j]? =some b→b.toNat<128)(hac: ∀(j:Nat) b,chars.data.toList[j]? =some b→b.toNat<128) :
  Calls Tryz.prog 246 #[.string s,.string chars] w fun e w'=>e= .returned (.bool (Lib.containsAny s.data.toList chars.data.toList))∧Below w.heap.size w w':=Any.strings_ContainsAny_laid Tryz.lays150 (by kernel_rfl) s chars w hs hcs has hac
def Tryz.lays105_ren:Go.Shelf.Ren:=⟨fun|105=>84|212=>150|99=>131|165=>139|166=>82|170=>151|169=>40|263=>204|264=>205|206=>189|240=>149|241=>198|276=>203|277=>250|n=>n,fun|9=>9|3=>3|4=>4|20=>20|0=>0|46=>146|109=>208|5=>5|72=>71|76=>140|51=>43|146=>250|53=>145|148=>252|70=>68|37=>69|75=>139|127=>148|164=>248|80=>81|n=>n,fun|n=>n⟩
theorem Tryz.lays105:Go.Proofs.Lays.n105 Tryz.prog Tryz.lays105_ren:={
 mixed:=by kernel_rfl
 f99:=Tryz.func131.trans (congrArg some (by kernel_rfl))
 f105:=Tryz.func84.trans (congrArg some (by kernel_rfl))
 f165:=Tryz.func139.trans (congrArg some (by kernel_rfl))
 f166:=Tryz.func82.trans (congrArg some (by kernel_rfl))
 f169:=Tryz.func40.trans (congrArg some (by kernel_rfl))
 f170:=Tryz.func151.trans (congrArg some (by kernel_rfl))
 f206:=Tryz.func189.trans (congrArg some (by kernel_rfl))
 f212:=Tryz.func150.trans (congrArg some (by kernel_rfl))
 f240:=Tryz.func149.trans (congrArg some (by kernel_rfl))
 f241:=Tryz.func198.trans (congrArg some (by kernel_rfl))
 f263:=Tryz.func204.trans (congrArg some (by kernel_rfl))
 f264:=Tryz.func205.trans (congrArg some (by kernel_rfl))
 f276:=Tryz.func203.trans (congrArg some (by kernel_rfl))
 f277:=Tryz.func250.trans (congrArg some (by kernel_rfl))
 t0:=Tryz.underlying0
 a0:=Tryz.isAgg0
 z0:=Tryz.sizeOf0
 v0:=Tryz.zeroValue0
 t3:=Tryz.underlying3
 a3:=Tryz.isAgg3
 z3:=Tryz.sizeOf3
 v3:=Tryz.zeroValue3
 t4:=Tryz.underlying4
 a4:=Tryz.isAgg4
 z4:=Tryz.sizeOf4
 v4:=Tryz.zeroValue4
 t5:=Tryz.underlying5
 a5:=Tryz.isAgg5
 z5:=Tryz.sizeOf5
 v5:=Tryz.zeroValue5
 t9:=Tryz.underlying9
 a9:=Tryz.isAgg9
 z9:=Tryz.sizeOf9
 v9:=Tryz.zeroValue9
 t20:=Tryz.underlying20
 a20:=Tryz.isAgg20
 z20:=Tryz.sizeOf20
 v20:=Tryz.zeroValue20
 t37:=Tryz.underlying69
 a37:=Tryz.isAgg69
 z37:=Tryz.sizeOf69
 v37:=Tryz.zeroValue69
 t46:=Tryz.underlying146
 a46:=Tryz.isAgg146
 z46:=Tryz.sizeOf146
 v46:=Tryz.zeroValue146
 t51:=Tryz.underlying43
 a51:=Tryz.isAgg43
 z51:=Tryz.sizeOf43
 v51:=Tryz.zeroValue43
 t53:=Tryz.underlying145
 a53:=Tryz.isAgg145
 z53:=Tryz.sizeOf145
 v53:=Tryz.zeroValue145
 t70:=Tryz.underlying68
 a70:=Tryz.isAgg68
 z70:=Tryz.sizeOf68
 v70:=Tryz.zeroValue68
 t72:=Tryz.underlying71
 a72:=Tryz.isAgg71
 z72:=Tryz.sizeOf71
 v72:=Tryz.zeroValue71
 t75:=Tryz.underlying139
 a75:=Tryz.isAgg139
 z75:=Tryz.sizeOf139
 v75:=Tryz.zeroValue139
 t76:=Tryz.underlying140
 a76:=Tryz.isAgg140
 z76:=Tryz.sizeOf140
 v76:=Tryz.zeroValue140
 t109:=Tryz.underlying208
 a109:=Tryz.isAgg208
 z109:=Tryz.sizeOf208
 v109:=Tryz.zeroValue208
 t127:=Tryz.underlying148
 a127:=Tryz.isAgg148
 z127:=Tryz.sizeOf148
 v127:=Tryz.zeroValue148
 t146:=Tryz.underlying250
 a146:=Tryz.isAgg250
 z146:=Tryz.sizeOf250
 v146:=Tryz.zeroValue250
 t148:=Tryz.underlying252
 a148:=Tryz.isAgg252
 z148:=Tryz.sizeOf252
 v148:=Tryz.zeroValue252
 t164:=Tryz.underlying248
 a164:=Tryz.isAgg248
 z164:=Tryz.sizeOf248
 v164:=Tryz.zeroValue248}
theorem Tryz.Builder_Extra_105:Builder.Extra Tryz.prog Tryz.lays105_ren:={
 sizeBuilder:=by kernel_rfl
 liesBuilder:=by kernel_rfl
 t5:=Tryz.underlying5
 a5:=Tryz.isAgg5
 z5:=Tryz.sizeOf5
 v5:=Tryz.zeroValue5
 infoByte:=by kernel_rfl
 cellsByte:=by kernel_rfl
 sizeByte:=by kernel_rfl
 neB5:=by decide}
open Go.RowKit Go.Lib in
theorem Tryz.strings_Repeat(s:ByteArray)(c:Nat)(w:World)(hc:c≤9223372036854775807)(hlen:s.size*c≤140737488355328) :
  Calls Tryz.prog 84 #[.string s,.int .i64 c] w fun e w'=>e= .returned (.string ⟨(Lib.repeatL s.data.toList c).toArray⟩)∧Below w.heap.size w w':=Any.strings_Repeat Tryz.lays105 Tryz.Builder_Extra_105 s c w hc hlen
end Go.Proofs
