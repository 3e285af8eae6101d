import Derived.Test.YtmbmmckagcdapaaGreatDoorQ01
set_option linter.all false
namespace Go.Proofs.YtmbmmckagcdapaaGreatDoor
def opl:List Bs:=[[62,62,115],[60,115],[61,61],[33,61],[60,60],[62,62]]++ops1.map fun c=>[c]
theorem AC{s op:Bs}(h:symP s=some op):op∈opl∧ ∃x,s=op++x:=by
 unfold symP at h
 split at h
 ·rename_i q
  cases h
  simp only[Bool.and_eq_true]at q;exact⟨by simp[opl],jV.1 q.1⟩
 split at h
 ·rename_i q
  cases h
  simp only[Bool.and_eq_true]at q;exact⟨by simp[opl],jV.1 q.1⟩
 split at h
 ·rename_i q;cases h;exact⟨by simp[opl],jV.1 q⟩
 split at h
 ·rename_i q;cases h;exact⟨by simp[opl],jV.1 q⟩
 split at h
 ·rename_i q;cases h;exact⟨by simp[opl],jV.1 q⟩
 split at h
 ·rename_i q;cases h;exact⟨by simp[opl],jV.1 q⟩
 split at h
 ·cases h
 ·rename_i c r _ _ _ _ _ _
  split at h
  ·rename_i q
   cases h
   refine⟨?_,r,rfl⟩;unfold opl;refine List.mem_append_right _ (List.mem_map.2 ⟨c,?_,rfl⟩);simpa using q
  ·cases h
theorem Xi: ∀op∈opl,op≠[]∧symP op=some op∧(op.takeWhile isW).length=0∧op.head? ≠some 34∧op.head?.elim false (fun c=> !isS c&&c !=47)=true:=by decide
theorem JG{s:Bs}{x:UInt8}{n:Nat}(h:Ip s=some (x,n)):1≤n∧n≤s.length+1:=by
 match s,h with
 | a::b::r,h =>
  rw[Ip]at h;cases h1:hexv a with
  | none=>rw[h1]at h;cases h
  | some u =>
   cases h2:hexv b with
   | none=>rw[h1,h2]at h;cases h
   | some v=>rw[h1,h2]at h;cases h;simp
theorem zK{s:Bs}{x:UInt8}{n:Nat}(h:escP s=some (x,n)):1≤n∧n≤s.length:=by
 cases s with
 | nil=>cases h
 | cons c r =>
  rw[escP]at h;split at h
  ·cases h;simp
  split at h
  ·have:=JG h
   simpa using this
  ·cases h
theorem yX: ∀(f:Nat) {s t:Bs} {n:Nat},uB f s=some (t,n)→1≤n∧n≤s.length
 | 0,s,t,n,h=>by simp[uB]at h
 | f+1,[],t,n,h=>by simp[uB]at h
 | f+1,c::r,t,n,h=>by
  rw[uB]at h;split at h
  ·cases h;simp
  split at h
  ·split at h
   ·cases h
   ·rename_i x k hk
    split at h
    ·cases h
    ·rename_i t' m hm
     cases h
     have h1:=zK hk;have h2:=yX f hm;rw[List.length_drop]at h2;simp only[List.length_cons];omega
  split at h
  ·cases h
  ·split at h
   ·cases h
   ·rename_i t' m hm
    cases h
    have h2:=yX f hm;simp only[List.length_cons];omega
theorem Aw: ∀(f g:Nat) (s:Bs),s.length<f→s.length<g→uB f s=uB g s
 | 0,_,s,h,_=>by omega
 | _,0,s,_,h=>by omega
 | f+1,g+1,[],_,_=>by rw[uB,uB]
 | f+1,g+1,c::r,hf,hg=>by
  simp only[List.length_cons]at hf hg;rw[uB,uB,Aw f g r (by omega) (by omega)]
  split
  ·rfl
  split
  ·cases h:escP r with
   | none=>rfl
   | some x =>
   obtain⟨x,k⟩:=x;simp only;rw[Aw f g (r.drop k) (by rw[List.length_drop];omega) (by rw[List.length_drop];omega)]
  ·rfl
theorem HH:quoP []=none:=rfl
theorem mL(c:UInt8)(r:Bs):quoP (c::r)=if c.toNat=34 then some ([],1)else if c.toNat=92 then(match escP r with
   | none=>none
   | some (x,n)=>match quoP (r.drop n)with
    | none=>none
    | some (t,m)=>some (x::t,m+n+1))
  else if c.toNat<32∨126<c.toNat then none
  else match quoP r with
   | none=>none
   | some (t,m)=>some (c::t,m+1):=by
 unfold quoP
 rw[uB]
 split
 ·rfl
 split
 ·cases h:escP r with
  | none=>rfl
  | some x =>
   obtain⟨x,k⟩:=x;simp only;rw[Aw (c::r).length ((r.drop k).length+1) (r.drop k) (by rw[List.length_drop,List.length_cons];omega) (by omega)]
   rfl
 ·rfl
theorem yP{s:Bs}{t:Tk}{n:Nat}(h:tokP s=some (t,n)):1≤n∧n≤s.length:=by
 unfold tokP at h
 split at h
 ·rename_i q
  split at h
  ·cases h;exact⟨q,Zy s⟩
  ·cases h
 split at h
 ·rename_i q
  split at h
  ·rename_i t' m hm
   cases h
   have:=yX _ hm;rw[List.length_drop]at this;have h1:s≠[]:=fun e=>by rw[e]at q;cases q
   have h2:=List.length_pos_iff.2 h1;omega
  ·cases h
 ·split at h
  ·rename_i op hop
   cases h
   obtain⟨h1,x,rfl⟩:=AC hop;have h2:=(Xi _ h1).1;have h3:=List.length_pos_iff.2 h2;simp only[List.length_append];omega
  ·cases h
def NO:Bs→Bool
 | []=>true
 | c::_=>isS c
theorem VN{c:UInt8}(h:isS c=true):isW c=false:=by
 have:=pD (fun c=> !isS c|| !isW c) (by decide +kernel) c
 simp only[h,Bool.not_true,Bool.false_or]at this
 simpa using this
theorem Xd{r:Bs}(h:NO r=true):nW r=true:=by
 cases r with
 | nil=>rfl
 | cons c r=>simp only[nW,VN h,Bool.not_false]
theorem Tm{s r:Bs}(hr:nW r=true):(s++r).takeWhile isW=s.takeWhile isW:=by
 induction s with
 | nil =>
  cases r with
  | nil=>rfl
  | cons c r =>
   unfold nW at hr;rw[List.nil_append,List.takeWhile_cons,if_neg (by simpa using hr)]
   rfl
 | cons x s ih =>
  rw[List.cons_append,List.takeWhile_cons,List.takeWhile_cons,ih]
theorem rO{p:Bs}(hp: ∀c∈p,isS c=false){r:Bs}(hr:NO r=true): ∀s:Bs,pre p (s++r)=pre p s:=by
 unfold pre
 induction p with
 | nil=>intro s;simp[List.isPrefixOf]
 | cons a p ih =>
  intro s;cases s with
  | nil =>
   cases r with
   | nil=>rfl
   | cons c r =>
    have h1:=hp a (by simp)
    have h2:isS c=true:=hr
    have h3:(a==c)=false:=by
     rw[beq_eq_false_iff_ne];rintro rfl;rw[h1]at h2;cases h2
    simp[List.isPrefixOf,h3]
  | cons b s =>
   simp only[List.cons_append,List.isPrefixOf];rw[ih fun c hc=>hp c (by simp[hc])]
theorem Xp{s r:Bs}(hr:nW r=true):nW (s++r)=nW s:=by
 cases s with
 | nil=>simpa[nW]using hr
 | cons c s=>rfl
theorem AB{s r:Bs}(hs:s≠[])(hr:NO r=true):symP (s++r)=symP s:=by
 have hn:=Xd hr
 have hd: ∀k,pre [62,62,115] s=true∧k=3∨pre [60,115] s=true∧k=2→nW ((s++r).drop k)=nW (s.drop k):=fun k h=>by
  rcases h with ⟨h,rfl⟩|⟨h,rfl⟩
  ·obtain⟨x,rfl⟩:=jV.1 h
   show nW (x++r)=nW x
   exact Xp hn
  ·obtain⟨x,rfl⟩:=jV.1 h
   show nW (x++r)=nW x
   exact Xp hn
 have e1:(pre [62,62,115] (s++r)&&nW ((s++r).drop 3))=(pre [62,62,115] s&&nW (s.drop 3)):=by
  rw[rO (by decide) hr]
  cases h:pre [62,62,115] s with
  | false=>rfl
  | true=>rw[hd 3 (.inl ⟨h,rfl⟩)]
 have e2:(pre [60,115] (s++r)&&nW ((s++r).drop 2))=(pre [60,115] s&&nW (s.drop 2)):=by
  rw[rO (by decide) hr]
  cases h:pre [60,115] s with
  | false=>rfl
  | true=>rw[hd 2 (.inr ⟨h,rfl⟩)]
 unfold symP
 rw[e1,e2,rO (by decide) hr,rO (by decide) hr,rO (by decide) hr,rO (by decide) hr]
 cases s with
 | nil=>exact absurd rfl hs
 | cons c s=>rfl
theorem CF{s:Bs}{x:UInt8}{n:Nat}(h:Ip s=some (x,n))(r:Bs):Ip (s++r)=some (x,n):=by
 match s,h with
 | a::b::t,h=>exact h
theorem CI{s:Bs}{x:UInt8}{n:Nat}(h:escP s=some (x,n))(r:Bs):escP (s++r)=some (x,n):=by
 cases s with
 | nil=>cases h
 | cons c s =>
  rw[escP]at h;rw[List.cons_append,escP];split at h
  ·rename_i q;rw[if_pos q];exact h
  rename_i q;rw[if_neg q];split at h
  ·rename_i q2
   rw[if_pos q2];exact CF h r
  ·cases h
theorem Au: ∀(N:Nat) {s t:Bs} {n:Nat},s.length≤N→quoP s=some (t,n)→ ∀r,quoP (s++r)=some (t,n)
 | _,[],t,n,_,h,r=>by rw[HH]at h;cases h
 | 0,c::s,t,n,hN,h,r=>by simp at hN
 | N+1,c::s,t,n,hN,h,r=>by
  simp only[List.length_cons]at hN;rw[mL]at h;rw[List.cons_append,mL];split at h
  ·rename_i q;rw[if_pos q];exact h
  rename_i q;rw[if_neg q];split at h
  ·rename_i q2
   rw[if_pos q2];split at h
   ·cases h
   ·rename_i x k hk
    rw[CI hk r];simp only;split at h
    ·cases h
    ·rename_i t' m hm
     have h1:=zK hk;rw[List.drop_append_of_le_length h1.2,Au N (by rw[List.length_drop];omega) hm r]
     exact h
  rename_i q2;rw[if_neg q2];split at h
  ·cases h
  rename_i q3;rw[if_neg q3];split at h
  ·cases h
  ·rename_i t' m hm
   rw[Au N (by omega) hm r]
   exact h
theorem Zw{s:Bs}{t:Tk}{n:Nat}(h:tokP s=some (t,n)){r:Bs}(hr:NO r=true):tokP (s++r)=some (t,n):=by
 have hs:s≠[]:=fun e=>by
  have:=yP h;rw[e]at this;simp at this;omega
 unfold tokP at h ⊢
 rw[Tm (Xd hr)]
 split at h
 ·rename_i q;rw[if_pos q];exact h
 rename_i q
 rw[if_neg q]
 have e:(s++r).head? =s.head? :=by
  cases s with
  | nil=>exact absurd rfl hs
  | cons c s=>rfl
 rw[e]
 split at h
 ·rename_i q2
  rw[if_pos q2];have h1:=List.length_pos_iff.2 hs;rw[List.drop_append_of_le_length (by omega)]
  split at h
  ·rename_i t' m hm
   rw[Au _ (Nat.le_refl _) hm r];exact h
  ·cases h
 rename_i q2
 rw[if_neg q2,AB hs hr]
 exact h
theorem wH: ∀d<16,hexv (hexD d)=some d∧isW (hexD d)=true∧(d<10→isD (hexD d)=true):=by decide
theorem Rf(b:Nat)(l:Bs)(m:Bs): ∀a,digV b a (l++m)=(digV b a l).bind fun v=>digV b v m:=by
 induction l with
 | nil=>intro a;rfl
 | cons c l ih =>
  intro a;rw[List.cons_append,digV,digV];cases hexv c with
  | none=>rfl
  | some d =>
   simp only;split
   ·exact ih _
   ·rfl
theorem Bt: ∀(f n:Nat),n<f→digV 16 0 (zE f n)=some n∧zE f n≠[]∧ ∀c∈zE f n,isW c=true
 | 0,n,h=>by omega
 | f+1,n,h=>by
  rw[zE];split
  ·rename_i q
   obtain⟨h1,h2,_⟩:=wH n q;refine⟨?_,by simp,fun c hc=> ?_⟩
   ·rw[digV,h1]
    simp only;rw[if_pos q,digV]
    congr 1
    omega
   ·obtain rfl:=List.mem_singleton.1 hc
    exact h2
  ·rename_i q
   obtain⟨h1,h2,h3⟩:=Bt f (n/16) (by omega)
   obtain⟨k1,k2,_⟩:=wH (n%16) (by omega)
   refine⟨?_,by simp,fun c hc=> ?_⟩
   ·rw[Rf,h1,Option.bind_some,digV,k1]
    simp only;rw[if_pos (by omega),digV]
    congr 1
    omega
   ·rcases List.mem_append.1 hc with hc|hc
    ·exact h3 c hc
    ·obtain rfl:=List.mem_singleton.1 hc
     exact k2
theorem rV: ∀(k f n:Nat),n<16^(k+1)→n<f→(zE f n).length≤k+1
 | k,0,n,_,h=>by omega
 | k,f+1,n,hn,h=>by
  rw[zE];split
  ·simp
  ·cases k with
   | zero=>omega
   | succ k =>
    have:=rV k f (n/16) (by rw[Nat.pow_succ]at hn;omega) (by omega)
    simp;omega
theorem zD: ∀w∈kwds,w.head?.elim false isL=true∧w.length≤32∧ ∀c∈w,isW c=true:=by decide
theorem wE{w:Bs}:isK w=true↔w∈kwds:=by unfold isK;simp
theorem Jq(v:Nat)(hv:v<4294967296):uU v≠[]∧(∀c∈uU v,isW c=true)∧isK (uU v)=false∧(uU v).head?.elim false isL=false∧valP (uU v)=some v:=by
 unfold uU
 have nk: ∀w:Bs,w.head?.elim false isL=false→isK w=false:=fun w h=>by
  rw[←Bool.not_eq_true,wE];intro hm;rw[(zD w hm).1]at h;cases h
 split
 ·rename_i q
  have key: ∀d<10,(∀c∈[hexD d],isW c=true)∧([hexD d]:Bs).head?.elim false isL=false∧valP [hexD d]=some d:=by decide
  obtain⟨k1,k2,k3⟩:=key v (by omega)
  exact⟨by simp,k1,nk _ k2,k2,k3⟩
 ·rename_i q
  obtain⟨h1,h2,h3⟩:=Bt (v+1) v (by omega)
  have h4:=rV 7 (v+1) v (by omega) (by omega)
  refine⟨by simp,fun c hc=> ?_,nk _ rfl,rfl,?_⟩
  ·rcases List.mem_cons.1 hc with rfl|hc
   ·decide
   rcases List.mem_cons.1 hc with rfl|hc
   ·decide
   exact h3 c hc
  ·unfold valP
   rw[if_pos (show pre [48,120] (48::120::lX v)=true from Do [48,120] (lX v))]
   rw[show(48::120::lX v).drop 2=lX v from rfl]
   have h5:=List.length_pos_iff.2 h2;unfold lX;rw[if_pos ⟨h5,h4⟩];exact h1
theorem CJ(c:UInt8)(r:Bs):quoP (escC c++r)=(match quoP r with
  | none=>none
  | some (t,m)=>some (c::t,m+(escC c).length)):=by
 unfold escC
 split
 ·rename_i q
  show quoP (92::c::r)=_
  rw[mL,if_neg (by decide),if_pos (by decide),escP,if_pos q]
  simp only[List.drop_succ_cons,List.drop_zero];cases quoP r<;>rfl
 rename_i q
 split
 ·rename_i q2
  have hd1:=wH (c.toNat/16) (by have:=c.toNat_lt;omega)
  have hd2:=wH (c.toNat%16) (by omega)
  show quoP (92::120::hexD (c.toNat/16)::hexD (c.toNat%16)::r)=_
  rw[mL,if_neg (by decide),if_pos (by decide),escP,if_neg (by decide),if_pos (by decide),Ip]
  simp only[hd1.1,hd2.1];rw[show 16*(c.toNat/16)+c.toNat%16=c.toNat by omega,show UInt8.ofNat c.toNat=c from by simp]
  simp only[List.drop_succ_cons,List.drop_zero];cases quoP r<;>rfl
 ·rename_i q2
  rw[List.singleton_append,mL,if_neg (by omega),if_neg (by omega),if_neg q2]
  rfl
theorem BB(t r:Bs):quoP (t.flatMap escC++34::r)=some (t,(t.flatMap escC).length+1):=by
 induction t with
 | nil=>rw[List.flatMap_nil,List.nil_append,mL,if_pos (by decide)];rfl
 | cons c t ih =>
  rw[List.flatMap_cons,List.append_assoc,CJ,ih];simp only[List.length_append]
  congr 2
  omega
theorem GF{c:UInt8}{w:Bs}(h:(!isS c&&c !=47)=true)(x:Bs):skpG false ((c::w)++x)=(c::w)++x:=by
 simp only[Bool.and_eq_true,Bool.not_eq_true',bne_iff_ne,ne_eq]at h
 rw[List.cons_append,skpG,if_neg (by simp[h.1]),if_neg (fun q=>h.2 (toNat_inj q.1))]
theorem GD{w:Bs}(hw:w≠[])(h: ∀c∈w,isW c=true)(x:Bs):skpG false (w++x)=w++x:=by
 cases w with
 | nil=>exact absurd rfl hw
 | cons c w =>
  refine GF ?_ x;have:=pD (fun c=> !isW c||(!isS c&&c !=47)) (by decide +kernel) c
  rw[h c (by simp)]at this
  simpa using this
theorem Ye: ∀(l:Bs) (b a v:Nat),digV b a l=some v→v<(a+1)*b^l.length
 | [],b,a,v,h=>by cases h;simp
 | c::l,b,a,v,h=>by
  rw[digV]at h;split at h
  ·rename_i d _
   split at h
   ·rename_i q
    have:=Ye l b _ v h;rw[List.length_cons,Nat.pow_succ];have h2:a*b+d+1≤(a+1)*b:=by rw[Nat.add_mul];omega
    have h3:=Nat.mul_le_mul_right (b^l.length) h2;rw[show(a+1)*(b^l.length*b)=(a+1)*b*b^l.length by rw[Nat.mul_comm (b^l.length) b,Nat.mul_assoc]]
    omega
   ·cases h
  ·cases h
theorem MQ{w:Bs}{v:Nat}(h:valP w=some v):v<4294967296:=by
 unfold valP at h
 split at h
 ·split at h
  ·rename_i q
   have:=Ye _ _ _ _ h;have h2:16^(w.drop 2).length≤16^8:=Nat.pow_le_pow_right (by decide) q.2
   have h3:(16:Nat)^8=4294967296:=by decide
   omega
  ·cases h
 split at h
 ·cases h
 split at h
 ·split at h
  ·rename_i q
   cases h
   exact q
  ·cases h
 ·cases h
def core(t:Tk):Int×Bs×Int:=(t.kind,t.text,t.n)
theorem qU: ∀(b:Bool) (s:Bs),(skpG b s).length≤s.length
 | b,[]=>by cases b<;>simp[skpG]
 | true,c::r=>by
  rw[skpG];have h1:=qU false r;have h2:=qU true r;split<;>simp<;>omega
 | false,c::r=>by
  rw[skpG];have h1:=qU false r;have h2:=qU true r;split
  ·simp;omega
  split
  ·simp;omega
  ·simp
theorem AU{c:UInt8}(hc:isS c=true)(s:Bs)(p:Int×Int):skq (c::s) p=skq s (adv p c):=by
 unfold skq
 have h1:skpG false (c::s)=skpG false s:=by rw[skpG,if_pos hc]
 have h2:=qU false s
 rw[h1,List.length_cons,show s.length+1-(skpG false s).length=(s.length-(skpG false s).length)+1 by omega,List.take_succ_cons]
 rfl
theorem Ub{c:UInt8}(hc:isS c=true)(f:Nat)(s:Bs)(p:Int×Int):qV f (c::s) p=qV f s (adv p c):=by
 cases f with
 | zero=>rfl
 | succ f =>
  rw[qV,qV,AU hc,show skpG false (c::s)=skpG false s by rw[skpG,if_pos hc]]
theorem GJ(f:Nat)(p:Int×Int):qV f [] p=([],true):=by
 cases f with
 | zero=>rfl
 | succ f=>rw[qV,if_pos (show skpG false []=[]from rfl)]
end Go.Proofs.YtmbmmckagcdapaaGreatDoor
