import Derived.Test.YtmbmmckagcdapaaGreatDoorQ06
set_option linter.all false
namespace Go.Proofs.YtmbmmckagcdapaaGreatDoor
def TkOk(t:Tk):Prop:=(0≤t.n∧t.n<4294967296)∧t.text.length≤4194304
theorem JH(c:UInt8):(escC c).length≤4:=by unfold escC;split<;>(try split)<;>simp
theorem Qt(l:Bs):(l.flatMap escC).length≤4*l.length:=by
 induction l with
 | nil=>simp
 | cons c l ih =>
  have h1:=JH c;rw[List.flatMap_cons,List.length_append,List.length_cons];omega
theorem HF(t:Bs):(quoS t).length≤4*t.length+2:=by
 have:=Qt t
 simp only[quoS,List.length_cons,List.length_append,List.length_nil]
 omega
theorem Qd(v:Nat)(hv:v<4294967296):(uU v).length≤10:=by
 unfold uU
 split
 ·simp
 ·have h4:=rV 7 (v+1) v (by omega) (by omega)
  simp only[List.length_cons];unfold lX;omega
theorem Av: ∀(f:Nat) {s t:Bs} {n:Nat},uB f s=some (t,n)→t.length≤n
 | 0,s,t,n,h=>by simp[uB]at h
 | f+1,[],t,n,h=>by simp[uB]at h
 | f+1,c::r,t,n,h=>by
  rw[uB]at h;split at h
  ·cases h;simp
  split at h
  ·split at h
   ·cases h
   ·rename_i x k hk
    split at h
    ·cases h
    ·rename_i t' m hm
     cases h
     have h1:=zK hk;have h2:=Av f hm;simp only[List.length_cons];omega
  split at h
  ·cases h
  ·split at h
   ·cases h
   ·rename_i t' m hm
    cases h
    have h2:=Av f hm;simp only[List.length_cons];omega
def wdt(t:Tk):Nat:=(shw t).elim 0 fun w=>w.length+1
theorem zOk:(0:Int)≤0∧(0:Int)<4294967296:=⟨by decide,by decide⟩
theorem Zx{s:Bs}{t:Tk}{n:Nat}(h:tokP s=some (t,n)):(0≤t.n∧t.n<4294967296)∧t.text.length≤n∧wdt t≤15*n:=by
 have hn:=yP h
 unfold tokP at h
 split at h
 ·split at h
  ·rename_i q t' hN
   cases h
   unfold namP at hN;split at hN
   ·cases hN
    refine⟨zOk,Nat.le_refl _,?_⟩;simp[wdt,shw];omega
   split at hN
   ·split at hN
    ·cases hN
     refine⟨zOk,Nat.le_refl _,?_⟩;simp[wdt,shw];omega
    ·cases hN
   ·split at hN
    ·rename_i v hv
     cases hN
     have hlt:=MQ hv;have:=Qd v hlt;refine⟨⟨by simp,by simp only;omega⟩,by simp,?_⟩
     simp[wdt,shw];omega
    ·cases hN
  ·cases h
 split at h
 ·split at h
  ·rename_i t' m hq
   cases h
   have h1:=Av _ hq;have h2:=HF t';refine⟨zOk,by simp only;omega,?_⟩
   simp[wdt,shw];omega
  ·cases h
 ·split at h
  ·cases h
   refine⟨zOk,Nat.le_refl _,?_⟩;simp[wdt,shw];omega
  ·cases h
theorem Jk: ∀(f:Nat) (s:Bs) (p:Int×Int),(∀t∈(qV f s p).1,(0≤t.n∧t.n<4294967296)∧t.text.length≤s.length)∧((qV f s p).1.map wdt).sum≤15*s.length
 | 0,s,p=>⟨fun t h=>(by cases h),by simp[qV]⟩
 | f+1,s,p=>by
  have h2:=qU false s;rw[qV];split
  ·exact⟨fun t h=>(by cases h),by simp⟩
  split
  ·refine⟨fun t h=> ?_,by simp[wdt,shw]⟩
   obtain rfl:=List.mem_singleton.1 h;exact⟨zOk,by simp⟩
  ·rename_i t n hk
   have h1:=yP hk;obtain⟨k1,k2,k3⟩:=Zx hk;obtain⟨r1,r2⟩:=Jk f ((skpG false s).drop n) (advs (skq s p) ((skpG false s).take n));rw[List.length_drop]at r1 r2;refine⟨fun u hu=> ?_,?_⟩
   ·rcases List.mem_cons.1 hu with rfl|hu
    ·exact⟨k1,by simp only[Tk.at_];omega⟩
    ·obtain⟨r3,r4⟩:=r1 u hu
     exact⟨r3,by omega⟩
   ·rw[List.map_cons,List.sum_cons]
    have:wdt (t.at_ (skq s p))=wdt t:=rfl;omega
theorem NR{s:Bs}(h:s.length≤4194304): ∀t∈(scan s).1,TkOk t:=fun t ht=>by
 obtain⟨h1,h2⟩:=(Jk _ s (1,1)).1 t ht
 exact⟨h1,by omega⟩
end Go.Proofs.YtmbmmckagcdapaaGreatDoor
