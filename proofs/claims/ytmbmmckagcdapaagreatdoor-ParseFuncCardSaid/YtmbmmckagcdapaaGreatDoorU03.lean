import Derived.Test.YtmbmmckagcdapaaGreatDoorU01
set_option linter.all false
namespace Go.Proofs.YtmbmmckagcdapaaGreatDoor
def opl:List Bs:=[[62,62,115],[60,115],[61,61],[33,61],[60,60],[62,62]]++ops1.map fun c=>[c]
theorem Sn{s op:Bs}(h:symP s=some op):op∈opl∧ ∃x,s=op++x:=by
 unfold symP at h
 split at h
 ·rename_i q
  cases h
  simp only[Bool.and_eq_true]at q;exact⟨by simp[opl],jC.1 q.1⟩
 split at h
 ·rename_i q
  cases h
  simp only[Bool.and_eq_true]at q;exact⟨by simp[opl],jC.1 q.1⟩
 split at h
 ·rename_i q;cases h;exact⟨by simp[opl],jC.1 q⟩
 split at h
 ·rename_i q;cases h;exact⟨by simp[opl],jC.1 q⟩
 split at h
 ·rename_i q;cases h;exact⟨by simp[opl],jC.1 q⟩
 split at h
 ·rename_i q;cases h;exact⟨by simp[opl],jC.1 q⟩
 split at h
 ·cases h
 ·rename_i c r _ _ _ _ _ _
  split at h
  ·rename_i q
   cases h
   refine⟨?_,r,rfl⟩;unfold opl;refine List.mem_append_right _ (List.mem_map.2 ⟨c,?_,rfl⟩);simpa using q
  ·cases h
theorem CW: ∀op∈opl,op≠[]∧symP op=some op∧(op.takeWhile isW).length=0∧op.head? ≠some 34∧op.head?.elim false (fun c=> !isS c&&c !=47)=true:=by decide
theorem Zc{s:Bs}{x:UInt8}{n:Nat}(h:Lu s=some (x,n)):1≤n∧n≤s.length+1:=by
 match s,h with
 | a::b::r,h =>
  rw[Lu]at h;cases h1:hexv a with
  | none=>rw[h1]at h;cases h
  | some u =>
   cases h2:hexv b with
   | none=>rw[h1,h2]at h;cases h
   | some v=>rw[h1,h2]at h;cases h;simp
theorem wR{s:Bs}{x:UInt8}{n:Nat}(h:escP s=some (x,n)):1≤n∧n≤s.length:=by
 cases s with
 | nil=>cases h
 | cons c r =>
  rw[escP]at h;split at h
  ·cases h;simp
  split at h
  ·have:=Zc h
   simpa using this
  ·cases h
theorem wH: ∀(f:Nat) {s t:Bs} {n:Nat},sR f s=some (t,n)→1≤n∧n≤s.length
 | 0,s,t,n,h=>by simp[sR]at h
 | f+1,[],t,n,h=>by simp[sR]at h
 | f+1,c::r,t,n,h=>by
  rw[sR]at h;split at h
  ·cases h;simp
  split at h
  ·split at h
   ·cases h
   ·rename_i x k hk
    split at h
    ·cases h
    ·rename_i t' m hm
     cases h
     have h1:=wR hk;have h2:=wH f hm;rw[List.length_drop]at h2;simp only[List.length_cons];omega
  split at h
  ·cases h
  ·split at h
   ·cases h
   ·rename_i t' m hm
    cases h
    have h2:=wH f hm;simp only[List.length_cons];omega
theorem yB: ∀(f g:Nat) (s:Bs),s.length<f→s.length<g→sR f s=sR g s
 | 0,_,s,h,_=>by omega
 | _,0,s,_,h=>by omega
 | f+1,g+1,[],_,_=>by rw[sR,sR]
 | f+1,g+1,c::r,hf,hg=>by
  simp only[List.length_cons]at hf hg;rw[sR,sR,yB f g r (by omega) (by omega)]
  split
  ·rfl
  split
  ·cases h:escP r with
   | none=>rfl
   | some x =>
   obtain⟨x,k⟩:=x;simp only;rw[yB f g (r.drop k) (by rw[List.length_drop];omega) (by rw[List.length_drop];omega)]
  ·rfl
theorem Fd(c:UInt8)(r:Bs):quoP (c::r)=if c.toNat=34 then some ([],1)else if c.toNat=92 then(match escP r with
   | none=>none
   | some (x,n)=>match quoP (r.drop n)with
    | none=>none
    | some (t,m)=>some (x::t,m+n+1))
  else if c.toNat<32∨126<c.toNat then none
  else match quoP r with
   | none=>none
   | some (t,m)=>some (c::t,m+1):=by
 unfold quoP
 rw[sR]
 split
 ·rfl
 split
 ·cases h:escP r with
  | none=>rfl
  | some x =>
   obtain⟨x,k⟩:=x;simp only;rw[yB (c::r).length ((r.drop k).length+1) (r.drop k) (by rw[List.length_drop,List.length_cons];omega) (by omega)]
   rfl
 ·rfl
theorem vU{s:Bs}{t:Tk}{n:Nat}(h:tokP s=some (t,n)):1≤n∧n≤s.length:=by
 unfold tokP at h
 split at h
 ·rename_i q
  split at h
  ·cases h;exact⟨q,Es s⟩
  ·cases h
 split at h
 ·rename_i q
  split at h
  ·rename_i t' m hm
   cases h
   have:=wH _ hm;rw[List.length_drop]at this;have h1:s≠[]:=fun e=>by rw[e]at q;cases q
   have h2:=List.length_pos_iff.2 h1;omega
  ·cases h
 ·split at h
  ·rename_i op hop
   cases h
   obtain⟨h1,x,rfl⟩:=Sn hop;have h2:=(CW _ h1).1;have h3:=List.length_pos_iff.2 h2;simp only[List.length_append];omega
  ·cases h
theorem Fm: ∀d<16,hexv (Cg d)=some d∧isW (Cg d)=true∧(d<10→isD (Cg d)=true):=by decide
theorem Zj(b:Nat)(l:Bs)(m:Bs): ∀a,digV b a (l++m)=(digV b a l).bind fun v=>digV b v m:=by
 induction l with
 | nil=>intro a;rfl
 | cons c l ih =>
  intro a;rw[List.cons_append,digV,digV];cases hexv c with
  | none=>rfl
  | some d =>
   simp only;split
   ·exact ih _
   ·rfl
theorem Fy: ∀(f n:Nat),n<f→digV 16 0 (Lj f n)=some n∧Lj f n≠[]∧ ∀c∈Lj f n,isW c=true
 | 0,n,h=>by omega
 | f+1,n,h=>by
  rw[Lj];split
  ·rename_i q
   obtain⟨h1,h2,_⟩:=Fm n q;refine⟨?_,by simp,fun c hc=> ?_⟩
   ·rw[digV,h1]
    simp only;rw[if_pos q,digV]
    congr 1
    omega
   ·obtain rfl:=List.mem_singleton.1 hc
    exact h2
  ·rename_i q
   obtain⟨h1,h2,h3⟩:=Fy f (n/16) (by omega)
   obtain⟨k1,k2,_⟩:=Fm (n%16) (by omega)
   refine⟨?_,by simp,fun c hc=> ?_⟩
   ·rw[Zj,h1,Option.bind_some,digV,k1]
    simp only;rw[if_pos (by omega),digV]
    congr 1
    omega
   ·rcases List.mem_append.1 hc with hc|hc
    ·exact h3 c hc
    ·obtain rfl:=List.mem_singleton.1 hc
     exact k2
theorem Ce: ∀(k f n:Nat),n<16^(k+1)→n<f→(Lj f n).length≤k+1
 | k,0,n,_,h=>by omega
 | k,f+1,n,hn,h=>by
  rw[Lj];split
  ·simp
  ·cases k with
   | zero=>omega
   | succ k =>
    have:=Ce k f (n/16) (by rw[Nat.pow_succ]at hn;omega) (by omega)
    simp;omega
theorem Cc: ∀w∈kwds,w.head?.elim false isL=true∧w.length≤32∧ ∀c∈w,isW c=true:=by decide
theorem rP{w:Bs}:isK w=true↔w∈kwds:=by unfold isK;simp
theorem KP(v:Nat)(hv:v<4294967296):Hk v≠[]∧(∀c∈Hk v,isW c=true)∧isK (Hk v)=false∧(Hk v).head?.elim false isL=false∧valP (Hk v)=some v:=by
 unfold Hk
 have nk: ∀w:Bs,w.head?.elim false isL=false→isK w=false:=fun w h=>by
  rw[←Bool.not_eq_true,rP];intro hm;rw[(Cc w hm).1]at h;cases h
 split
 ·rename_i q
  have key: ∀d<10,(∀c∈[Cg d],isW c=true)∧([Cg d]:Bs).head?.elim false isL=false∧valP [Cg d]=some d:=by decide
  obtain⟨k1,k2,k3⟩:=key v (by omega)
  exact⟨by simp,k1,nk _ k2,k2,k3⟩
 ·rename_i q
  obtain⟨h1,h2,h3⟩:=Fy (v+1) v (by omega)
  have h4:=Ce 7 (v+1) v (by omega) (by omega)
  refine⟨by simp,fun c hc=> ?_,nk _ rfl,rfl,?_⟩
  ·rcases List.mem_cons.1 hc with rfl|hc
   ·decide
   rcases List.mem_cons.1 hc with rfl|hc
   ·decide
   exact h3 c hc
  ·unfold valP
   rw[if_pos (show pre [48,120] (48::120::Ou v)=true from Hh [48,120] (Ou v))]
   rw[show(48::120::Ou v).drop 2=Ou v from rfl]
   have h5:=List.length_pos_iff.2 h2;unfold Ou;rw[if_pos ⟨h5,h4⟩];exact h1
theorem Ra: ∀(l:Bs) (b a v:Nat),digV b a l=some v→v<(a+1)*b^l.length
 | [],b,a,v,h=>by cases h;simp
 | c::l,b,a,v,h=>by
  rw[digV]at h;split at h
  ·rename_i d _
   split at h
   ·rename_i q
    have:=Ra l b _ v h;rw[List.length_cons,Nat.pow_succ];have h2:a*b+d+1≤(a+1)*b:=by rw[Nat.add_mul];omega
    have h3:=Nat.mul_le_mul_right (b^l.length) h2;rw[show(a+1)*(b^l.length*b)=(a+1)*b*b^l.length by rw[Nat.mul_comm (b^l.length) b,Nat.mul_assoc]]
    omega
   ·cases h
  ·cases h
theorem BW{w:Bs}{v:Nat}(h:valP w=some v):v<4294967296:=by
 unfold valP at h
 split at h
 ·split at h
  ·rename_i q
   have:=Ra _ _ _ _ h;have h2:16^(w.drop 2).length≤16^8:=Nat.pow_le_pow_right (by decide) q.2
   have h3:(16:Nat)^8=4294967296:=by decide
   omega
  ·cases h
 split at h
 ·cases h
 split at h
 ·split at h
  ·rename_i q
   cases h
   exact q
  ·cases h
 ·cases h
def core(t:Tk):Int×Bs×Int:=(t.kind,t.text,t.n)
theorem qF: ∀(b:Bool) (s:Bs),(skpG b s).length≤s.length
 | b,[]=>by cases b<;>simp[skpG]
 | true,c::r=>by
  rw[skpG];have h1:=qF false r;have h2:=qF true r;split<;>simp<;>omega
 | false,c::r=>by
  rw[skpG];have h1:=qF false r;have h2:=qF true r;split
  ·simp;omega
  split
  ·simp;omega
  ·simp
theorem Xi(f:Nat)(p:Int×Int):lT f [] p=([],true):=by
 cases f with
 | zero=>rfl
 | succ f=>rw[lT,if_pos (show skpG false []=[]from rfl)]
end Go.Proofs.YtmbmmckagcdapaaGreatDoor
