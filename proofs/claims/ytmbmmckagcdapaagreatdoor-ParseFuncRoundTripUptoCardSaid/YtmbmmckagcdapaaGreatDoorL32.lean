import Derived.Test.YtmbmmckagcdapaaGreatDoorL18
import Derived.Test.YtmbmmckagcdapaaGreatDoorL17
import Derived.Test.YtmbmmckagcdapaaGreatDoorL07
import Derived.Test.YtmbmmckagcdapaaGreatDoorL31
import Derived.Test.YtmbmmckagcdapaaGreatDoorL33
import Derived.Test.YtmbmmckagcdapaaGreatDoorL13
import Derived.KernelRfl
import Derived.Test.YtmbmmckagcdapaaGreatDoorL30
import Derived.Test.YtmbmmckagcdapaaGreatDoorL21
import Derived.Test.YtmbmmckagcdapaaGreatDoorL20
import Derived.Test.YtmbmmckagcdapaaGreatDoorL04
import Derived.Test.YtmbmmckagcdapaaGreatDoorL14
import Derived.Test.YtmbmmckagcdapaaGreatDoorL24
import Derived.Test.YtmbmmckagcdapaaGreatDoorL26
set_option linter.all false
namespace Go.Proofs.YtmbmmckagcdapaaGreatDoor
theorem NZ{n:Int}(h:0≤n∧n<4294967296):I64 n:=⟨by omega,by omega⟩
theorem Be{o n:Int}{s:ByteArray}{w:Int}{l:List Ex}(h0:I64 o)(h1:0≤n∧n<4294967296)(h2:I64 w)(h3:l.length≤4194304)(h4:s.size≤9223372036854775807)(h5: ∀t∈l,fitE t):fitE (.mk o n s w l):=by
 have e:fitEB (.mk o n s w l)=_:=Ex.para_mk _ o n s w l
 unfold fitE
 rw[e]
 simp only[Bool.and_eq_true,Ex.op,Ex.n,Ex.width,Ex.name,Ex.l,List.all_map,List.all_eq_true]
 exact⟨⟨⟨decide_eq_true ⟨h0,⟨h1.1,by omega⟩,h2⟩,decide_eq_true h3⟩,decide_eq_true h4⟩,h5⟩
theorem zL{o k s c:Int}{es fs:List Ty}(h0:I64 o∧I64 k∧I64 s∧I64 c)(h1:es.length≤4194304)(h2:fs.length≤4194304)(hE: ∀t∈es,fit t)(hF: ∀t∈fs,fit t):fit (.mk o k s c es fs):=by
 have e:Yr (.mk o k s c es fs)=_:=Ty.para_mk _ o k s c es fs
 unfold fit
 rw[e]
 simp only[Bool.and_eq_true,decide_eq_true_eq,Ty.elem,Ty.fields,Ty.off,Ty.kind,Ty.size,Ty.count,List.all_map,List.all_eq_true]
 exact⟨⟨⟨⟨decide_eq_true h0,decide_eq_true h1⟩,decide_eq_true h2⟩,hE⟩,hF⟩
theorem LK{t:Ty}(h:fit t){o:Int}(ho:I64 o):fit (t.at_ o):=by
 cases t
 exact zL ⟨ho,(Ux h).2⟩ (kF h).1 (kF h).2.1 (kF h).2.2.1 (kF h).2.2.2
theorem uW{k w:Int}{n:ByteArray}{e:List Ex}{l el:List Nd}{cs:List (List Nd)}(h0:I64 k∧I64 w)(h1:n.size≤9223372036854775807)(h2:e.length≤4194304)(h3: ∀x∈e,fitE x)(h4:fitNL l)(h5:fitNL el)(h6:cs.length≤4194304)(h7: ∀c∈cs,fitNL c):fitN (.mk k w n e l el cs):=by
 have q:Od (.mk k w n e l el cs)=_:=Nd.para_mk _ k w n e l el cs
 unfold fitN
 rw[q]
 simp only[Bool.and_eq_true,Nd.kind,Nd.width,Nd.name,Nd.e,Nd.l,Nd.el,Nd.cs,List.all_map,List.all_eq_true]
 refine⟨⟨⟨⟨⟨⟨⟨decide_eq_true h0,decide_eq_true h1⟩,decide_eq_true ⟨h2,h4.1,h5.1,h6⟩⟩,h3⟩,fun c hc=>decide_eq_true (h7 c hc).1⟩,h4.2⟩,h5.2⟩,fun c hc=> ?_⟩
 simp only[Function.comp,List.all_map,List.all_eq_true]
 exact(h7 c hc).2
section
variable {ts:List Tk}
theorem uI(hok: ∀t∈ts,TkOk t)(a:Nat):(strA (pk ts a).text).size≤9223372036854775807:=by
 have:(pk ts a).text.length≤4194304:=by
  by_cases hl:a<ts.length
  ·exact(hok _ (List.mem_of_getElem? (Uc hl))).2
  ·rw[Gv (by omega)];decide
 show(pk ts a).text.toArray.size≤_
 rw[List.size_toArray]
 omega
theorem UC(s:Bs):I64 (opR s).1:=by
 have key: ∀(c:Prop) [Decidable c] (x y:Int×Nat),I64 x.1→I64 y.1→I64 (if c then x else y).1:=fun c _ x y hx hy=>by by_cases h:c<;>simp[h,hx,hy]
 unfold opR
 repeat (refine key _ _ _ (by decide) ?_)
 decide
theorem TJ(t:Tk):I64 (stR t).1:=by
 unfold stR
 split
 ·exact UC _
 ·decide
theorem HW{s:Bs}{k w:Int}(h:accW s=some (k,w)):I64 k∧I64 w:=by
 unfold accW at h
 rcases aK h with ⟨_,h⟩|⟨_,h⟩
 ·cases h;decide
 rcases aK h with ⟨_,h⟩|⟨_,h⟩
 ·cases h;decide
 rcases aK h with ⟨_,h⟩|⟨_,h⟩
 ·cases h;decide
 rcases aK h with ⟨_,h⟩|⟨_,h⟩
 ·cases h;decide
 rcases aK h with ⟨_,h⟩|⟨_,h⟩
 ·cases h;decide
 ·cases h
theorem EL{s:Bs}{k w:Int}(h:intR s=some (k,w)):I64 k∧I64 w:=by
 unfold intR at h
 rcases aK h with ⟨_,h⟩|⟨_,h⟩
 ·cases h;decide
 rcases aK h with ⟨_,h⟩|⟨_,h⟩
 ·cases h;decide
 rcases aK h with ⟨_,h⟩|⟨_,h⟩
 ·cases h;decide
 rcases aK h with ⟨_,h⟩|⟨_,h⟩
 ·cases h;decide
 rcases aK h with ⟨_,h⟩|⟨_,h⟩
 ·cases h;decide
 rcases aK h with ⟨_,h⟩|⟨_,h⟩
 ·cases h;decide
 rcases aK h with ⟨_,h⟩|⟨_,h⟩
 ·cases h;decide
 ·cases h
theorem Oe{o w:Int}{x:Ex}(ho:I64 o)(hw:I64 w)(hx:fitE x):fitE (mkU o w x) :=
 Be ho (by decide) hw (by simp) (by decide) (fun t ht=>by simp at ht;rw[ht];exact hx)
theorem Uz(hok: ∀t∈ts,TkOk t): ∀f,(∀a o x b p,exM ts f .op a o=some (.ok x b p)→fitE x)∧(∀l a o x b p,exM ts f (.ex l) a o=some (.ok x b p)→fitE x)∧(∀l y a o x b p,fitE y→exM ts f (.lo l y) a o=some (.ok x b p)→fitE x):=by
 intro f
 induction f with
 | zero=>exact⟨(fun _ _ _ _ _ h=>by cases h),(fun _ _ _ _ _ _ h=>by cases h),(fun _ _ _ _ _ _ _ _ h=>by cases h)⟩
 | succ f ih =>
  obtain⟨i1,i2,i3⟩:=ih
  have hin: ∀q a o x b p,(∀y,fitE y→fitE (q y))→inn ts (exM ts f (.ex 1)) q a o=some (.ok x b p)→fitE x:=fun q a o x b p hq h=>by
   obtain⟨_,a1,o1,h1,h⟩:=aN h;obtain⟨y,a2,o2,h2,h⟩:=aN h;obtain⟨_,a3,o3,h3,h⟩:=aN h;cases h
   exact hq y (i2 _ _ _ _ _ _ h2)
  refine⟨fun a o x b p h=> ?_,fun l a o x b p h=> ?_,fun l y a o x b p hy h=> ?_⟩
  ·rw[exM]at h
   rcases aK h with ⟨hk,h⟩|⟨_,h⟩
   ·cases h;exact Be (by decide) (Cw hok a) (by decide) (by simp) (by decide) (by simp)
   rcases aK h with ⟨hk,h⟩|⟨_,h⟩
   ·cases h;exact Be (by decide) (by decide) (by decide) (by simp) (uI hok a) (by simp)
   rcases aK h with ⟨hk,h⟩|⟨_,h⟩
   ·cases hw:accW (pk ts a).text with
    | none=>rw[hw]at h;cases h
    | some p=>rw[hw]at h;exact hin _ _ _ _ _ _ (fun y hy=>Oe (HW hw).1 (HW hw).2 hy) h
   rcases aK h with ⟨hk,h⟩|⟨_,h⟩
   ·rcases aK h with ⟨_,h⟩|⟨_,h⟩
    ·exact hin _ _ _ _ _ _ (fun y hy=>hy) h
    rcases aK h with ⟨_,h⟩|⟨_,h⟩
    ·obtain⟨_,a1,o1,h1,h⟩:=aN h
     obtain⟨y,a2,o2,h2,h⟩:=aN h;cases h
     exact Oe (by split<;>decide) (by decide) (i1 _ _ _ _ _ h2)
    ·cases h
   ·cases h
  ·rw[exM]at h
   obtain⟨y,a1,o1,h1,h⟩:=aN h;exact i3 _ _ _ _ _ _ _ (i1 _ _ _ _ _ h1) h
  ·rw[exM]at h
   rcases aK h with ⟨_,h⟩|⟨_,h⟩
   ·cases h;exact hy
   ·obtain⟨z,a1,o1,h1,h⟩:=aN h
    refine i3 _ _ _ _ _ _ _ (Be (TJ _) (by decide) (by decide) (by simp) (by decide) fun t ht=> ?_) h
    simp at ht;rcases ht with rfl|rfl
    ·exact hy
    ·exact i2 _ _ _ _ _ _ h1
theorem JM(hok: ∀t∈ts,TkOk t)(hts:ts.length≤65536): ∀f,(∀a o x b p,tyM ts f .ty a o=some (.ok x b p)→fit x)∧(∀l a o x b p,l.length≤a→a≤ts.length→(∀t∈l,fit t)→tyM ts f (.fl l) a o=some (.ok x b p)→fit x):=by
 intro f
 induction f with
 | zero=>exact⟨(fun _ _ _ _ _ h=>by cases h),(fun _ _ _ _ _ _ _ _ _ h=>by cases h)⟩
 | succ f ih =>
  obtain⟨i1,i2⟩:=ih;refine⟨fun a o x b p h=> ?_,fun l a o x b p hl ha hf h=> ?_⟩
  ·rw[tyM]at h
   rcases aK h with ⟨hk,h⟩|⟨_,h⟩
   ·cases hw:intR (pk ts a).text with
    | none=>rw[hw]at h;cases h
    | some q =>
     rw[hw]at h;cases h
     exact zL ⟨by decide,(EL hw).1,(EL hw).2,by decide⟩ (by simp) (by simp) (by simp) (by simp)
   rcases aK h with ⟨hk,h⟩|⟨_,h⟩
   ·cases h;exact zL (by decide) (by simp) (by simp) (by simp) (by simp)
   rcases aK h with ⟨hk,h⟩|⟨_,h⟩
   ·obtain⟨_,a1,o1,h1,h⟩:=aN h
    obtain⟨y,a2,o2,h2,h⟩:=aN h;cases h
    exact zL (by decide) (by simp) (by simp) (fun t ht=>by simp at ht;rw[ht];exact i1 _ _ _ _ _ h2) (by simp)
   rcases aK h with ⟨hk,h⟩|⟨_,h⟩
   ·obtain⟨_,a1,o1,h1,h⟩:=aN h
    obtain⟨n,a2,o2,h2,h⟩:=aN h;obtain⟨_,a3,o3,h3,h⟩:=aN h;obtain⟨y,a4,o4,h4,h⟩:=aN h;obtain⟨_,rfl,_,_⟩:=gZ h2;cases h
    exact zL ⟨by decide,by decide,by decide,NZ (Cw hok _)⟩ (by simp) (by simp) (fun t ht=>by simp at ht;rw[ht];exact i1 _ _ _ _ _ h4) (by simp)
   rcases aK h with ⟨hk,h⟩|⟨_,h⟩
   ·obtain⟨_,a1,o1,h1,h⟩:=aN h
    have e1:=cB h1;have:=bJ e1.1;exact i2 _ _ _ _ _ _ (Nat.zero_le _) (by omega) (by simp) h
   ·cases h
  ·rw[tyM]at h
   rcases aK h with ⟨hk,h⟩|⟨_,h⟩
   ·obtain⟨_,a1,o1,h1,h⟩:=aN h
    cases h
    exact zL (by decide) (by simp) (by omega) (by simp) hf
   ·obtain⟨_,a1,o1,h1,h⟩:=aN h
    obtain⟨n,a2,o2,h2,h⟩:=aN h;obtain⟨_,a3,o3,h3,h⟩:=aN h;obtain⟨y,a4,o4,h4,h⟩:=aN h
    have e0:a≤a1:=by
     rcases aK h1 with ⟨_,h1⟩|⟨_,h1⟩
     ·have:=cH h1;omega
     ·cases h1;omega
    obtain⟨_,rfl,e2,_⟩:=gZ h2;have e3:=cH h3;have e4:=(kI ts f).1 _ _ _ _ _ h4;refine i2 _ _ _ _ _ _ (by simp;omega) (by omega) (fun t ht=> ?_) h
    rcases List.mem_append.1 ht with ht|ht
    ·exact hf t ht
    ·simp at ht;rw[ht];exact LK (i1 _ _ _ _ _ h4) (NZ (Cw hok _))
theorem fit0:fitNL []:=⟨by simp,by simp⟩
theorem MC(l:List Nd)(t:Nd):cnt (l++[t])=cnt l+cntT t:=by unfold cnt;rw[List.map_append,List.sum_append];simp
theorem vB:cnt []=0:=rfl
theorem oG(k w:Int)(n:ByteArray)(e:List Ex):cntT (.mk k w n e [] [] [])=1:=by rw[mI];rfl
theorem lW{k w:Int}{n:ByteArray}{e:List Ex}(hk:I64 k)(hw:I64 w)(hn:n.size≤9223372036854775807)(he:e.length≤4194304)(hx: ∀x∈e,fitE x):fitN (.mk k w n e [] [] []):=uW ⟨hk,hw⟩ hn he hx fit0 fit0 (by simp) (by simp)
theorem JX(hok: ∀t∈ts,TkOk t)(hts:ts.length≤65536): ∀f,(∀a o x b p,stM ts f .st a o=some (.ok x b p)→fitN (theS x)∧cntT (theS x)+a≤b) ∧
  (∀l a o x b p,l.length≤a→(∀t∈l,fitN t)→stM ts f (.li l) a o=some (.ok x b p)→(∀t∈x.headD [],fitN t)∧(x.headD []).length≤b∧cnt (x.headD [])+a≤cnt l+b) ∧
  (∀a o x b p,stM ts f .br a o=some (.ok x b p)→fitNL (x.headD [])∧cnt (x.headD [])+a+2≤b) ∧
  (∀c a o x b p,c.length≤a→(∀l∈c,fitNL l)→stM ts f (.ca c) a o=some (.ok x b p)→(∀l∈x,fitNL l)∧x.length≤b∧(x.map cnt).sum+a≤(c.map cnt).sum+b):=by
 intro f
 induction f with
 | zero=>exact⟨(fun _ _ _ _ _ h=>by cases h),(fun _ _ _ _ _ _ _ _ h=>by cases h),(fun _ _ _ _ _ h=>by cases h),(fun _ _ _ _ _ _ _ _ h=>by cases h)⟩
 | succ f ih =>
  obtain⟨i1,i2,i3,i4⟩:=ih;have ex: ∀l a o x b p,exM ts f (.ex l) a o=some (.ok x b p)→fitE x∧a<b:=fun l a o x b p h=>⟨(Uz hok f).2.1 l a o x b p h,(zM h).1⟩
  have one: ∀ {x:Ex},fitE x→ ∀y∈[x],fitE y:=fun hx y hy=>by simp at hy;rw[hy];exact hx
  have e0: ∀y∈([]:List Ex),fitE y:=by simp
  have z0:(ByteArray.empty).size≤9223372036854775807:=by decide
  refine⟨fun a o x b p h=> ?_,fun l a o x b p hl hf h=> ?_,fun a o x b p h=> ?_,fun c a o x b p hc hf h=> ?_⟩
  ·rw[stM]at h
   have leafN: ∀(k:Int) (a1 o1:Nat),I64 k→a≤a1→(rb (nmM ts a1 o1) fun n a o=>rb (expM ts [59] a o) fun _ a o=>ret (oneS (.mk k 0 n [] [] [] [])) a o)=some (.ok x b p)→fitN (theS x)∧cntT (theS x)+a≤b:=fun k a1 o1 hk ha h=>by
    obtain⟨n,a2,o2,h2,h⟩:=aN h;obtain⟨_,a3,o3,h3,h⟩:=aN h;have q2:=gJ h2;have q3:=cH h3;cases h
    refine⟨lW hk (by decide) (by rw[q2.1];exact uI hok _) (by simp) e0,?_⟩
    show cntT (.mk k 0 n [] [] [] [])+a≤_
    rw[oG];omega
   have simp': ∀(k:Int) (a1 o1:Nat),I64 k→a≤a1→lM ts k a1 o1=some (.ok x b p)→fitN (theS x)∧cntT (theS x)+a≤b:=fun k a1 o1 hk ha h=>by
    obtain⟨_,a2,o2,h2,h⟩:=aN h;have q2:=cH h2;cases h
    refine⟨lW hk (by decide) z0 (by simp) e0,?_⟩
    show cntT (.mk k 0 ByteArray.empty [] [] [] [])+a≤_
    rw[oG];omega
   have sto: ∀(w:Int) (a1 o1:Nat),I64 w→a≤a1→lL ts f w a1 o1=some (.ok x b p)→fitN (theS x)∧cntT (theS x)+a≤b:=fun w a1 o1 hw ha h=>by
    obtain⟨_,a2,o2,h2,h⟩:=aN h;obtain⟨y,a3,o3,h3,h⟩:=aN h;obtain⟨_,a4,o4,h4,h⟩:=aN h;obtain⟨z,a5,o5,h5,h⟩:=aN h;obtain⟨_,a6,o6,h6,h⟩:=aN h;obtain⟨_,a7,o7,h7,h⟩:=aN h;have q2:=cB h2;have q3:=ex _ _ _ _ _ _ h3;have q4:=cH h4;have q5:=ex _ _ _ _ _ _ h5;have q6:=nH h6;have q7:=cH h7;cases h
    refine⟨lW (by decide) hw z0 (by simp) fun t ht=> ?_,?_⟩
    ·simp at ht
     rcases ht with rfl|rfl
     ·exact q3.1
     ·exact q5.1
    ·show cntT (.mk 2 w ByteArray.empty [y,z] [] [] [])+a≤_
     rw[oG];omega
   rcases aK h with ⟨hk,h⟩|⟨_,h⟩
   ·obtain⟨n,a2,o2,h2,h⟩:=aN h
    have q2:=gJ h2;have hn:n.size≤9223372036854775807:=by rw[q2.1];exact uI hok _
    rcases aK h with ⟨hk,h⟩|⟨_,h⟩
    ·cases h
     refine⟨lW (by decide) (by decide) hn (by simp) e0,?_⟩
     show cntT (.mk 13 0 n [] [] [] [])+a≤_
     rw[oG];omega
    obtain⟨_,a3,o3,h3,h⟩:=aN h;have q3:=cH h3;rcases aK h with ⟨hk,h⟩|⟨_,h⟩
    ·obtain⟨_,a4,o4,h4,h⟩:=aN h
     have q4:=cH h4;cases h
     refine⟨lW (by decide) (by decide) hn (by simp) e0,?_⟩
     show cntT (.mk 3 0 n [] [] [] [])+a≤_
     rw[oG];omega
    obtain⟨y,a4,o4,h4,h⟩:=aN h;obtain⟨_,a5,o5,h5,h⟩:=aN h;have q4:=ex _ _ _ _ _ _ h4;have q5:=cH h5;cases h
    refine⟨lW (by decide) (by decide) hn (by simp) (one q4.1),?_⟩
    show cntT (.mk 1 0 n [y] [] [] [])+a≤_
    rw[oG];omega
   rcases aK h with ⟨_,h⟩|⟨_,h⟩
   ·exact leafN 12 _ _ (by decide) (by omega) h
   rcases aK h with ⟨_,h⟩|⟨_,h⟩
   ·exact leafN 5 _ _ (by decide) (by omega) h
   rcases aK h with ⟨_,h⟩|⟨_,h⟩
   ·exact sto 1 _ _ (by decide) (by omega) h
   rcases aK h with ⟨_,h⟩|⟨_,h⟩
   ·exact sto 2 _ _ (by decide) (by omega) h
   rcases aK h with ⟨_,h⟩|⟨_,h⟩
   ·exact sto 4 _ _ (by decide) (by omega) h
   rcases aK h with ⟨_,h⟩|⟨_,h⟩
   ·obtain⟨y,a2,o2,h2,h⟩:=aN h
    obtain⟨_,a3,o3,h3,h⟩:=aN h;have q2:=ex _ _ _ _ _ _ h2;have q3:=cH h3;cases h
    refine⟨lW (by decide) (by decide) z0 (by simp) (one q2.1),?_⟩
    show cntT (.mk 4 0 ByteArray.empty [y] [] [] [])+a≤_
    rw[oG];omega
   rcases aK h with ⟨_,h⟩|⟨_,h⟩
   ·obtain⟨y,a2,o2,h2,h⟩:=aN h
    obtain⟨l,a3,o3,h3,h⟩:=aN h;have q2:=ex _ _ _ _ _ _ h2;have q3:=i3 _ _ _ _ _ h3;rcases aK h with ⟨_,h⟩|⟨_,h⟩
    ·obtain⟨e,a4,o4,h4,h⟩:=aN h
     have q4:=i3 _ _ _ _ _ h4;cases h
     refine⟨uW (by decide) z0 (by simp) (one q2.1) q3.1 q4.1 (by simp) (by simp),?_⟩
     show cntT (.mk 6 0 ByteArray.empty [y] (l.headD []) (e.headD []) [])+a≤_
     rw[mI];show 1+([cnt (l.headD []),cnt (e.headD [])]:List Nat).sum+a≤_
     simp only[List.sum_cons,List.sum_nil];omega
    ·cases h
     refine⟨uW (by decide) z0 (by simp) (one q2.1) q3.1 fit0 (by simp) (by simp),?_⟩
     show cntT (.mk 6 0 ByteArray.empty [y] (l.headD []) [] [])+a≤_
     rw[mI];show 1+([cnt (l.headD []),cnt []]:List Nat).sum+a≤_
     simp only[List.sum_cons,List.sum_nil,vB];omega
   rcases aK h with ⟨_,h⟩|⟨_,h⟩
   ·obtain⟨y,a2,o2,h2,h⟩:=aN h
    obtain⟨l,a3,o3,h3,h⟩:=aN h;have q2:=ex _ _ _ _ _ _ h2;have q3:=i3 _ _ _ _ _ h3;cases h
    refine⟨uW (by decide) z0 (by simp) (one q2.1) q3.1 fit0 (by simp) (by simp),?_⟩
    show cntT (.mk 7 0 ByteArray.empty [y] (l.headD []) [] [])+a≤_
    rw[mI];show 1+([cnt (l.headD []),cnt []]:List Nat).sum+a≤_
    simp only[List.sum_cons,List.sum_nil,vB];omega
   rcases aK h with ⟨_,h⟩|⟨_,h⟩
   ·obtain⟨l,a3,o3,h3,h⟩:=aN h
    have q3:=i3 _ _ _ _ _ h3;cases h
    refine⟨uW (by decide) z0 (by simp) e0 q3.1 fit0 (by simp) (by simp),?_⟩
    show cntT (.mk 8 0 ByteArray.empty [] (l.headD []) [] [])+a≤_
    rw[mI];show 1+([cnt (l.headD []),cnt []]:List Nat).sum+a≤_
    simp only[List.sum_cons,List.sum_nil,vB];omega
   rcases aK h with ⟨_,h⟩|⟨_,h⟩
   ·obtain⟨y,a2,o2,h2,h⟩:=aN h
    obtain⟨_,a3,o3,h3,h⟩:=aN h;obtain⟨c,a4,o4,h4,h⟩:=aN h;have q2:=ex _ _ _ _ _ _ h2;have q3:=cB h3;have q4:=i4 _ _ _ _ _ _ (Nat.zero_le _) (by simp) h4
    have q5:=(fR ts f).2.2.2 _ _ _ _ _ _ h4;cases h
    simp only[List.map_nil,List.sum_nil]at q4;refine⟨uW (by decide) z0 (by simp) (one q2.1) fit0 fit0 (by omega) q4.1,?_⟩
    show cntT (.mk 9 0 ByteArray.empty [y] [] [] c)+a≤_
    rw[mI];show 1+(cnt []::cnt []::c.map cnt).sum+a≤_
    simp only[List.sum_cons,vB];omega
   rcases aK h with ⟨_,h⟩|⟨_,h⟩
   ·exact simp' 10 _ _ (by decide) (by omega) h
   rcases aK h with ⟨_,h⟩|⟨_,h⟩
   ·exact simp' 11 _ _ (by decide) (by omega) h
   rcases aK h with ⟨_,h⟩|⟨_,h⟩
   ·exact simp' 14 _ _ (by decide) (by omega) h
   rcases aK h with ⟨_,h⟩|⟨_,h⟩
   ·exact simp' 15 _ _ (by decide) (by omega) h
   ·cases h
  ·rw[stM]at h
   rcases aK h with ⟨_,h⟩|⟨_,h⟩
   ·cases h
    exact⟨hf,hl,by show cnt l+a≤_;omega⟩
   ·obtain⟨s,a1,o1,h1,h⟩:=aN h
    have q1:=i1 _ _ _ _ _ h1;have q2:=(fR ts f).1 _ _ _ _ _ h1
    have q3:=i2 _ _ _ _ _ _ (by simp;omega) (fun t ht=>by
     rcases List.mem_append.1 ht with ht|ht
     ·exact hf t ht
     ·simp at ht;rw[ht];exact q1.1) h
    rw[MC]at q3;exact⟨q3.1,q3.2.1,by omega⟩
  ·rw[stM]at h
   obtain⟨_,a1,o1,h1,h⟩:=aN h;obtain⟨l,a2,o2,h2,h⟩:=aN h;obtain⟨_,a3,o3,h3,h⟩:=aN h;have q1:=cB h1;have q2:=i2 _ _ _ _ _ _ (Nat.zero_le _) (by simp) h2
   have q4:=(fR ts f).2.1 _ _ _ _ _ _ h2;have q3:=nH h3;cases h
   rw[vB]at q2;exact⟨⟨by omega,q2.1⟩,by omega⟩
  ·rw[stM]at h
   rcases aK h with ⟨_,h⟩|⟨_,h⟩
   ·rcases aK h with ⟨_,h⟩|⟨_,h⟩
    ·obtain⟨l,a1,o1,h1,h⟩:=aN h
     have q1:=i3 _ _ _ _ _ h1
     have q3:=i4 _ _ _ _ _ _ (by simp;omega) (fun t ht=>by
      rcases List.mem_append.1 ht with ht|ht
      ·exact hf t ht
      ·rw[List.mem_singleton.1 ht];exact q1.1) h
     rw[List.map_append,List.sum_append]at q3;simp only[List.map_cons,List.map_nil,List.sum_cons,List.sum_nil]at q3;exact⟨q3.1,q3.2.1,by omega⟩
    ·cases h
   ·obtain⟨_,a1,o1,h1,h⟩:=aN h
    have q1:=nH h1;cases h
    exact⟨hf,by omega,by omega⟩
theorem Lv(hok: ∀t∈ts,TkOk t)(hts:ts.length≤65536){f a o:Nat}{v:Va}{b p:Nat}(h:vY ts f a o=some (.ok v b p)):fit v.ty∧v.name.size≤9223372036854775807:=by
 obtain⟨_,a1,o1,h1,h⟩:=aN h
 obtain⟨n,a2,o2,h2,h⟩:=aN h
 obtain⟨_,a3,o3,h3,h⟩:=aN h
 obtain⟨t,a4,o4,h4,h⟩:=aN h
 obtain⟨_,a5,o5,h5,h⟩:=aN h
 have e2:=gJ h2
 cases h
 exact⟨(JM hok hts f).1 _ _ _ _ _ h4,by show n.size≤_;rw[e2.1];exact uI hok _⟩
theorem BB(hok: ∀t∈ts,TkOk t)(hts:ts.length≤65536): ∀(f:Nat) {l:List Va} {a o:Nat} {v:List Va} {b p:Nat},l.length≤a→xQ l→vasM ts f l a o=some (.ok v b p)→xQ v∧v.length≤b:=by
 intro f
 induction f with
 | zero=>intro l a o v b p _ _ h;cases h
 | succ f ih =>
  intro l a o v b p hl hf h;rw[vasM]at h;rcases aK h with ⟨hk,h⟩|⟨hk,h⟩
  ·obtain⟨x,a1,o1,h1,h⟩:=aN h
   have e1:=lJ h1;refine ih (by simp;omega) (fun y hy=> ?_) h
   rcases List.mem_append.1 hy with hy|hy
   ·exact hf y hy
   ·simp at hy;rw[hy];exact Lv hok hts h1
  ·cases h;exact⟨hf,hl⟩
theorem ES(hok: ∀t∈ts,TkOk t)(hts:ts.length≤65536){f a o:Nat}{v:Fun}{b p:Nat}(h:funM ts f a o=some (.ok v b p)):fitFn v:=by
 obtain⟨_,a1,o1,h1,h⟩:=aN h
 obtain⟨n,a2,o2,h2,h⟩:=aN h
 obtain⟨_,a3,o3,h3,h⟩:=aN h
 obtain⟨l,a4,o4,h4,h⟩:=aN h
 obtain⟨s,a5,o5,h5,h⟩:=aN h
 obtain⟨_,a6,o6,h6,h⟩:=aN h
 have e2:=gJ h2
 have e4:=BB hok hts f (Nat.zero_le _) (by intro y hy;cases hy) h4
 have e5:=(JX hok hts f).2.1 _ _ _ _ _ _ (Nat.zero_le _) (by simp) h5
 have e6:=(fR ts f).2.1 _ _ _ _ _ _ h5
 rw[vB]at e5
 cases h
 exact⟨by show l.length≤_;omega,e4.1,⟨by show(s.headD []).length≤_;omega,e5.1⟩,by show cnt (s.headD [])≤_;omega,by show n.size≤_;rw[e2.1];exact uI hok _⟩
theorem GA(hok: ∀t∈ts,TkOk t){a o:Nat}{v:Sec}{b p:Nat}(h:Ru ts a o=some (.ok v b p)):v.name.size≤9223372036854775807:=by
 obtain⟨_,a1,o1,h1,h⟩:=aN h
 obtain⟨n,a2,o2,h2,h⟩:=aN h
 obtain⟨_,a3,o3,h3,h⟩:=aN h
 obtain⟨_,a4,o4,h4,h⟩:=aN h
 obtain⟨_,a5,o5,h5,h⟩:=aN h
 obtain⟨_,a6,o6,h6,h⟩:=aN h
 obtain⟨_,a7,o7,h7,h⟩:=aN h
 obtain⟨_,a8,o8,h8,h⟩:=aN h
 have e2:=gJ h2
 cases h
 show n.size≤_
 rw[e2.1]
 exact uI hok _
theorem BE(hok: ∀t∈ts,TkOk t)(hts:ts.length≤65536): ∀(f:Nat) {u:Un} {a o:Nat} {v:Un} {b p:Nat},a≤ts.length→u.globals.length≤a→u.data.length≤a→u.funcs.length≤a→fitU u→uniM ts f u a o=some (.ok v b p)→fitU v:=by
 intro f
 induction f with
 | zero=>intro u a o v b p _ _ _ _ _ h;cases h
 | succ f ih =>
  intro u a o v b p ha hg hd hn hf h;rw[uniM]at h;rcases aK h with ⟨hk,h⟩|⟨hk,h⟩
  ·cases h;exact hf
  rcases aK h with ⟨hk,h⟩|⟨hk,h⟩
  ·obtain⟨x,a1,o1,h1,h⟩:=aN h
   have e1:=lJ h1;refine ih (u:=⟨u.globals++[x],u.data,u.funcs⟩) (a:=a1) (by omega) (by simp;omega) (by show u.data.length≤a1;omega) (by show u.funcs.length≤a1;omega) ⟨by simp;omega,fun y hy=> ?_,hf.dl,hf.dn,hf.fl,hf.fn⟩ h
   rcases List.mem_append.1 hy with hy|hy
   ·exact hf.gn y hy
   ·simp at hy;rw[hy];exact Lv hok hts h1
  rcases aK h with ⟨hk,h⟩|⟨hk,h⟩
  ·obtain⟨x,a1,o1,h1,h⟩:=aN h
   have e1:=xT h1;refine ih (u:=⟨u.globals,u.data++[x],u.funcs⟩) (a:=a1) (by omega) (by show u.globals.length≤a1;omega) (by simp;omega) (by show u.funcs.length≤a1;omega) ⟨hf.gl,hf.gn,by simp;omega,fun y hy=> ?_,hf.fl,hf.fn⟩ h
   rcases List.mem_append.1 hy with hy|hy
   ·exact hf.dn y hy
   ·simp at hy;rw[hy];exact GA hok h1
  rcases aK h with ⟨hk,h⟩|⟨hk,h⟩
  ·obtain⟨x,a1,o1,h1,h⟩:=aN h
   have e1:=uU h1;refine ih (u:=⟨u.globals,u.data,u.funcs++[x]⟩) (a:=a1) (by omega) (by show u.globals.length≤a1;omega) (by show u.data.length≤a1;omega) (by simp;omega) ⟨hf.gl,hf.gn,hf.dl,hf.dn,by simp;omega,fun y hy=> ?_⟩ h
   rcases List.mem_append.1 hy with hy|hy
   ·exact hf.fn y hy
   ·simp at hy;rw[hy];exact ES hok hts h1
  ·cases h
theorem Ge(hok: ∀t∈ts,TkOk t)(hts:ts.length≤65536){f:Nat}{v:Un}{b p:Nat}(h:uniM ts f ⟨[],[],[]⟩ 0 0=some (.ok v b p)):fitU v :=
 BE hok hts f (Nat.zero_le _) (Nat.le_refl _) (Nat.le_refl _) (Nat.le_refl _) ⟨by simp,(by intro y hy;cases hy),by simp,(by intro y hy;cases hy),by simp,by simp⟩ h
def Er{α:Type}(n:Nat)(r:Option (Rs α)):Prop:= ∀b e,r=some (.bad b e)→(e=3∨e=20)∧b≤n
theorem Er.rb{α β:Type}{n:Nat}{r:Option (Rs α)}{k:α→Nat→Nat→Option (Rs β)}(h:Er n r)(hk: ∀x a o,r=some (.ok x a o)→Er n (k x a o)):Er n (rb r k):=fun b e q=>by
 rcases PR q with q|⟨x,a,o,h1,q⟩
 ·exact h b e q
 ·exact hk x a o h1 b e q
theorem Er.ite{α:Type}{n:Nat}{c:Prop}[Decidable c]{x y:Option (Rs α)}(hx:c→Er n x)(hy: ¬c→Er n y):Er n (if c then x else y):=by
 by_cases h:c
 ·rw[if_pos h];exact hx h
 ·rw[if_neg h];exact hy h
theorem Er.ret{α:Type}{n:Nat}(x:α)(a o:Nat):Er n (ret x a o):=fun b e q=>by cases q
theorem sM{α:Type}{n a:Nat}(h:a≤n):Er (α:=α) n (some (.bad a 3)):=fun b e q=>by cases q;exact⟨.inl rfl,h⟩
theorem Er.beg{n:Nat}(s:Bs){a:Nat}(o:Nat)(h:a≤n):Er n (begM ts s a o):=fun b e q=>by
 unfold begM at q
 rcases aK (Option.some.inj q)with ⟨_,q⟩|⟨_,q⟩
 ·cases q;exact⟨.inl rfl,h⟩
 rcases aK q with ⟨_,q⟩|⟨_,q⟩
 ·cases q;exact⟨.inr rfl,h⟩
 ·cases q
theorem Er.exp{n:Nat}(s:Bs){a:Nat}(o:Nat)(h:a≤n):Er n (expM ts s a o):=fun b e q=>by
 unfold expM at q
 rcases aK (Option.some.inj q)with ⟨_,q⟩|⟨_,q⟩
 ·cases q;exact⟨.inl rfl,h⟩
 ·cases q
theorem Er.en{n:Nat}(s:Bs){a:Nat}(o:Nat)(h:a≤n):Er n (endM ts s a o):=fun b e q=>by
 unfold endM at q
 rcases aK (Option.some.inj q)with ⟨_,q⟩|⟨_,q⟩
 ·cases q;exact⟨.inl rfl,h⟩
 ·cases q
theorem Er.tak{n:Nat}(k:Int){a:Nat}(o:Nat)(h:a≤n):Er n (takM ts k a o):=fun b e q=>by
 unfold takM at q
 rcases aK (Option.some.inj q)with ⟨_,q⟩|⟨_,q⟩
 ·cases q;exact⟨.inl rfl,h⟩
 ·cases q
theorem Er.nm{n:Nat}{a:Nat}(o:Nat)(h:a≤n):Er n (nmM ts a o):=Er.rb (Er.tak _ _ h) fun _ _ _ _=>Er.ret _ _ _
theorem Rp: ∀f,(∀a o x b p,exM ts f .op a o=some (.ok x b p)→b≤ts.length)∧(∀l a o x b p,exM ts f (.ex l) a o=some (.ok x b p)→b≤ts.length)∧(∀l y a o x b p,a≤ts.length→exM ts f (.lo l y) a o=some (.ok x b p)→b≤ts.length):=by
 intro f
 induction f with
 | zero=>exact⟨(fun _ _ _ _ _ h=>by cases h),(fun _ _ _ _ _ _ h=>by cases h),(fun _ _ _ _ _ _ _ _ h=>by cases h)⟩
 | succ f ih =>
  obtain⟨i1,i2,i3⟩:=ih
  have hin: ∀q a o x b p,inn ts (exM ts f (.ex 1)) q a o=some (.ok x b p)→b≤ts.length:=fun q a o x b p h=>by
   obtain⟨_,a1,o1,h1,h⟩:=aN h;obtain⟨y,a2,o2,h2,h⟩:=aN h;obtain⟨_,a3,o3,h3,h⟩:=aN h;have e3:=tT h3;cases h
   omega
  refine⟨fun a o x b p h=> ?_,fun l a o x b p h=> ?_,fun l y a o x b p ha h=> ?_⟩
  ·rw[exM]at h
   rcases aK h with ⟨hk,h⟩|⟨_,h⟩
   ·have:=eD hk (by decide)
    cases h;omega
   rcases aK h with ⟨hk,h⟩|⟨_,h⟩
   ·have:=eD hk (by decide)
    cases h;omega
   rcases aK h with ⟨hk,h⟩|⟨_,h⟩
   ·cases hw:accW (pk ts a).text with
    | none=>rw[hw]at h;cases h
    | some p=>rw[hw]at h;exact hin _ _ _ _ _ _ h
   rcases aK h with ⟨hk,h⟩|⟨_,h⟩
   ·rcases aK h with ⟨_,h⟩|⟨_,h⟩
    ·exact hin _ _ _ _ _ _ h
    rcases aK h with ⟨_,h⟩|⟨_,h⟩
    ·obtain⟨_,a1,o1,h1,h⟩:=aN h
     obtain⟨y,a2,o2,h2,h⟩:=aN h;have:=i1 _ _ _ _ _ h2;cases h
     exact this
    ·cases h
   ·cases h
  ·rw[exM]at h
   obtain⟨y,a1,o1,h1,h⟩:=aN h;exact i3 _ _ _ _ _ _ _ (i1 _ _ _ _ _ h1) h
  ·rw[exM]at h
   rcases aK h with ⟨_,h⟩|⟨_,h⟩
   ·cases h;exact ha
   ·obtain⟨z,a1,o1,h1,h⟩:=aN h
    exact i3 _ _ _ _ _ _ _ (i2 _ _ _ _ _ _ h1) h
theorem FG: ∀f,(∀a o,a≤ts.length→Er ts.length (exM ts f .op a o))∧(∀l a o,a≤ts.length→Er ts.length (exM ts f (.ex l) a o))∧(∀l x a o,a≤ts.length→Er ts.length (exM ts f (.lo l x) a o)):=by
 intro f
 induction f with
 | zero=>exact⟨(fun _ _ _ _ _ h=>by cases h),(fun _ _ _ _ _ _ h=>by cases h),(fun _ _ _ _ _ _ _ h=>by cases h)⟩
 | succ f ih =>
  obtain⟨i1,i2,i3⟩:=ih;obtain⟨l1,l2,l3⟩:=Rp (ts:=ts) f
  have hin: ∀q a o,a≤ts.length→Er ts.length (inn ts (exM ts f (.ex 1)) q a o):=fun q a o ha=>by
   refine Er.rb (Er.beg _ _ ha) fun _ a1 o1 h1=>Er.rb ?_ fun _ a2 o2 h2=>Er.rb (Er.en _ _ (l2 _ _ _ _ _ _ h2)) fun _ _ _ _=>Er.ret _ _ _
   have e1:=cB h1;have:=bJ e1.1;exact i2 _ _ _ (by omega)
  refine⟨fun a o ha=> ?_,fun l a o ha=> ?_,fun l x a o ha=> ?_⟩
  ·rw[exM]
   refine Er.ite (fun _=>Er.ret _ _ _) fun _=>Er.ite (fun _=>Er.ret _ _ _) fun _=>Er.ite (fun hk=> ?_) fun _=>Er.ite (fun hk=> ?_) fun _=>sM ha
   ·have hl:=eD hk (by decide)
    cases accW (pk ts a).text with
    | none=>exact sM ha
    | some p=>exact hin _ _ _ (by omega)
   ·refine Er.ite (fun _=>hin _ _ _ ha) fun _=>Er.ite (fun _=> ?_) fun _=>sM ha
    refine Er.rb (Er.beg _ _ ha) fun _ a1 o1 h1=>Er.rb ?_ fun _ _ _ _=>Er.ret _ _ _
    have e1:=cB h1;have:=bJ e1.1;exact i1 _ _ (by omega)
  ·rw[exM]
   exact Er.rb (i1 _ _ ha) fun x b p h1=>i3 _ _ _ _ (l1 _ _ _ _ _ h1)
  ·rw[exM]
   refine Er.ite (fun _=>Er.ret _ _ _) fun hk=> ?_
   have hl:=CQ (ts:=ts) (a:=a) (fun e=>hk (.inl e))
   exact Er.rb (i2 _ _ _ (by omega)) fun y b p h1=>i3 _ _ _ _ (l2 _ _ _ _ _ _ h1)
theorem OI: ∀f,(∀a o,a≤ts.length→Er ts.length (tyM ts f .ty a o))∧(∀l a o,a≤ts.length→Er ts.length (tyM ts f (.fl l) a o)):=by
 intro f
 induction f with
 | zero=>exact⟨(fun _ _ _ _ _ h=>by cases h),(fun _ _ _ _ _ _ h=>by cases h)⟩
 | succ f ih =>
  obtain⟨i1,i2⟩:=ih;obtain⟨l1,l2⟩:=kI ts f;refine⟨fun a o ha=> ?_,fun l a o ha=> ?_⟩
  ·rw[tyM]
   refine Er.ite (fun _=> ?_) fun _=>Er.ite (fun _=>Er.ret _ _ _) fun _=>Er.ite (fun hk=> ?_) fun _=>Er.ite (fun hk=> ?_) fun _=>Er.ite (fun hk=> ?_) fun _=>sM ha
   ·cases intR (pk ts a).text with
    | none=>exact sM ha
    | some p=>exact Er.ret _ _ _
   ·have hl:=bJ hk
    refine Er.rb (Er.beg _ _ ha) fun _ a1 o1 h1=>Er.rb (i1 _ _ ?_) fun _ _ _ _=>Er.ret _ _ _
    have:=cB h1;omega
   ·have hl:=bJ hk
    refine Er.rb (Er.beg _ _ ha) fun _ a1 o1 h1=> ?_
    have e1:=cB h1;refine Er.rb (Er.tak _ _ (by omega)) fun _ a2 o2 h2=> ?_
    have e2:=gZ h2;have e4:=eD e2.1 (by decide)
    refine Er.rb (Er.exp _ _ (by omega)) fun _ a3 o3 h3=> ?_
    have e3:=fF h3;exact Er.rb (i1 _ _ (by omega)) fun _ _ _ _=>Er.ret _ _ _
   ·have hl:=bJ hk
    refine Er.rb (Er.beg _ _ ha) fun _ a1 o1 h1=>i2 _ _ _ ?_
    have:=cB h1;omega
  ·rw[tyM]
   refine Er.ite (fun _=>Er.rb (Er.en _ _ ha) fun _ _ _ _=>Er.ret _ _ _) fun _=>Er.rb (Er.ite (fun _=>Er.exp _ _ ha) fun _=>Er.ret _ _ _) fun _ a1 o1 h1=> ?_
   have e1:a1≤ts.length:=by
    rcases aK h1 with ⟨_,h1⟩|⟨_,h1⟩
    ·have:=fF h1;omega
    ·cases h1;exact ha
   refine Er.rb (Er.tak _ _ e1) fun _ a2 o2 h2=> ?_
   have e2:=gZ h2;have e4:=eD e2.1 (by decide)
   refine Er.rb (Er.exp _ _ (by omega)) fun _ a3 o3 h3=> ?_
   have e3:=fF h3;exact Er.rb (i1 _ _ (by omega)) fun _ a5 o5 h5=>i2 _ _ _ (l1 _ _ _ _ _ h5).2.2
theorem OU: ∀f,(∀a o,a≤ts.length→Er ts.length (stM ts f .st a o))∧(∀l a o,a≤ts.length→Er ts.length (stM ts f (.li l) a o))∧(∀a o,a≤ts.length→Er ts.length (stM ts f .br a o))∧(∀c a o,a≤ts.length→Er ts.length (stM ts f (.ca c) a o)):=by
 intro f
 induction f with
 | zero=>exact⟨(fun _ _ _ _ _ h=>by cases h),(fun _ _ _ _ _ _ h=>by cases h),(fun _ _ _ _ _ h=>by cases h),(fun _ _ _ _ _ _ h=>by cases h)⟩
 | succ f ih =>
  obtain⟨i1,i2,i3,i4⟩:=ih;obtain⟨l1,l2,l3,l4⟩:=fR ts f;have ex: ∀l a o,a≤ts.length→Er ts.length (exM ts f (.ex l) a o):=(FG f).2.1
  have exl: ∀ {l a o x b p},exM ts f (.ex l) a o=some (.ok x b p)→b≤ts.length:=fun h=>(Rp f).2.1 _ _ _ _ _ _ h
  refine⟨fun a o ha=> ?_,fun l a o ha=> ?_,fun a o ha=> ?_,fun c a o ha=> ?_⟩
  ·rw[stM]
   have sim: ∀k a o,a≤ts.length→Er ts.length (lM ts k a o):=fun k a o ha=>Er.rb (Er.exp _ _ ha) fun _ _ _ _=>Er.ret _ _ _
   have sto: ∀w a o,a≤ts.length→Er ts.length (lL ts f w a o):=fun w a o ha=>by
    refine Er.rb (Er.beg _ _ ha) fun _ a1 o1 h1=> ?_
    have e1:=cB h1;have:=bJ e1.1;refine Er.rb (ex _ _ _ (by omega)) fun _ a2 o2 h2=>Er.rb (Er.exp _ _ (exl h2)) fun _ a3 o3 h3=> ?_
    have e3:=fF h3;refine Er.rb (ex _ _ _ (by omega)) fun _ a4 o4 h4=>Er.rb (Er.en _ _ (exl h4)) fun _ a5 o5 h5=> ?_
    have e5:=tT h5;exact Er.rb (Er.exp _ _ (by omega)) fun _ _ _ _=>Er.ret _ _ _
   have nam: ∀k a o,a≤ts.length→Er ts.length (rb (nmM ts a o) fun n a o=>rb (expM ts [59] a o) fun _ a o=>ret (oneS (.mk k 0 n [] [] [] [])) a o):=fun k a o ha=>by
    refine Er.rb (Er.nm _ ha) fun _ a1 o1 h1=> ?_
    have e1:=gJ h1;exact Er.rb (Er.exp _ _ (by omega)) fun _ _ _ _=>Er.ret _ _ _
   refine Er.ite (fun hk=> ?_) fun _=>Er.ite (fun hk=>nam _ _ _ (by have:=bJ hk;omega)) fun _=>Er.ite (fun hk=>nam _ _ _ (by have:=bJ hk;omega)) fun _ =>
    Er.ite (fun hk=>sto _ _ _ (by have:=bJ hk;omega)) fun _=>Er.ite (fun hk=>sto _ _ _ (by have:=bJ hk;omega)) fun _=>Er.ite (fun hk=>sto _ _ _ (by have:=bJ hk;omega)) fun _=>Er.ite (fun hk=> ?_) fun _=>Er.ite (fun hk=> ?_) fun _=>Er.ite (fun hk=> ?_) fun _=>Er.ite (fun hk=> ?_) fun _=>Er.ite (fun hk=> ?_) fun _ =>
    Er.ite (fun hk=>sim _ _ _ (by have:=bJ hk;omega)) fun _=>Er.ite (fun hk=>sim _ _ _ (by have:=bJ hk;omega)) fun _=>Er.ite (fun hk=>sim _ _ _ (by have:=bJ hk;omega)) fun _=>Er.ite (fun hk=>sim _ _ _ (by have:=bJ hk;omega)) fun _=>sM ha
   ·have hl:=eD hk (by decide)
    refine Er.rb (Er.nm _ ha) fun _ a1 o1 h1=> ?_
    have e1:=gJ h1;refine Er.ite (fun _=>Er.ret _ _ _) fun _=>Er.rb (Er.exp _ _ (by omega)) fun _ a2 o2 h2=> ?_
    have e2:=fF h2;refine Er.ite (fun hk=>Er.rb (Er.exp _ _ (by have:=bJ hk;omega)) fun _ _ _ _=>Er.ret _ _ _) fun _=> ?_
    exact Er.rb (ex _ _ _ (by omega)) fun _ _ _ h3=>Er.rb (Er.exp _ _ (exl h3)) fun _ _ _ _=>Er.ret _ _ _
   ·have hl:=bJ hk
    exact Er.rb (ex _ _ _ (by omega)) fun _ _ _ h3=>Er.rb (Er.exp _ _ (exl h3)) fun _ _ _ _=>Er.ret _ _ _
   ·have hl:=bJ hk
    refine Er.rb (ex _ _ _ (by omega)) fun _ a1 o1 h1=>Er.rb (i3 _ _ (exl h1)) fun _ a2 o2 h2=>Er.ite (fun hk=> ?_) fun _=>Er.ret _ _ _
    have:=bJ hk;exact Er.rb (i3 _ _ (by omega)) fun _ _ _ _=>Er.ret _ _ _
   ·have hl:=bJ hk
    exact Er.rb (ex _ _ _ (by omega)) fun _ a1 o1 h1=>Er.rb (i3 _ _ (exl h1)) fun _ a2 o2 h2=>Er.ret _ _ _
   ·have hl:=bJ hk
    exact Er.rb (i3 _ _ (by omega)) fun _ a2 o2 h2=>Er.ret _ _ _
   ·have hl:=bJ hk
    refine Er.rb (ex _ _ _ (by omega)) fun _ a1 o1 h1=>Er.rb (Er.beg _ _ (exl h1)) fun _ a2 o2 h2=> ?_
    have e2:=cB h2;have:=bJ e2.1;exact Er.rb (i4 _ _ _ (by omega)) fun _ _ _ _=>Er.ret _ _ _
  ·rw[stM]
   exact Er.ite (fun _=>Er.ret _ _ _) fun _=>Er.rb (i1 _ _ ha) fun _ a1 o1 h1=>i2 _ _ _ (l1 _ _ _ _ _ h1).2.2
  ·rw[stM]
   refine Er.rb (Er.beg _ _ ha) fun _ a1 o1 h1=> ?_
   have e1:=cB h1;have:=bJ e1.1;refine Er.rb (i2 _ _ _ (by omega)) fun _ a2 o2 h2=> ?_
   have e2:=l2 _ _ _ _ _ _ h2;exact Er.rb (Er.en _ _ (by omega)) fun _ _ _ _=>Er.ret _ _ _
  ·rw[stM]
   refine Er.ite (fun hk=>Er.ite (fun hn=> ?_) fun _=>sM (by have:=bJ hk;omega)) fun _=>Er.rb (Er.en _ _ ha) fun _ _ _ _=>Er.ret _ _ _
   have hl:=bJ hk;have hl2:=eD hn.1 (by decide)
   exact Er.rb (i3 _ _ (by omega)) fun _ a1 o1 h1=>i4 _ _ _ (l3 _ _ _ _ _ h1).2.2
theorem Er.acc{n:Nat}(s:Bs)(a o:Nat):Er n (accM ts s a o):=Er.ite (fun _=>Er.ret _ _ _) fun _=>Er.ret _ _ _
theorem HV{s:Bs}{a o:Nat}{w:Bool}{b p:Nat}(h:accM ts s a o=some (.ok w b p))(ha:a≤ts.length):b≤ts.length:=by
 rcases aK h with ⟨hk,h⟩|⟨_,h⟩
 ·have:=bJ hk
  cases h;omega
 ·cases h;exact ha
theorem Tp{f a o:Nat}(ha:a≤ts.length):Er ts.length (vY ts f a o):=by
 refine Er.rb (Er.exp _ _ ha) fun _ a1 o1 h1=> ?_
 have e1:=fF h1
 refine Er.rb (Er.nm _ (by omega)) fun _ a2 o2 h2=> ?_
 have e2:=gJ h2
 refine Er.rb (Er.exp _ _ (by omega)) fun _ a3 o3 h3=> ?_
 have e3:=fF h3
 exact Er.rb ((OI f).1 _ _ (by omega)) fun _ a4 o4 h4=>Er.rb (Er.exp _ _ ((kI ts f).1 _ _ _ _ _ h4).2.2) fun _ _ _ _=>Er.ret _ _ _
theorem MA{a o:Nat}(ha:a≤ts.length):Er ts.length (Ru ts a o):=by
 refine Er.rb (Er.exp _ _ ha) fun _ a1 o1 h1=> ?_
 have e1:=fF h1
 refine Er.rb (Er.nm _ (by omega)) fun _ a2 o2 h2=> ?_
 have e2:=gJ h2
 refine Er.rb (Er.tak _ _ (by omega)) fun _ a3 o3 h3=> ?_
 have e3:=gZ h3
 have q3:=eD e3.1 (by decide)
 refine Er.rb (Er.acc _ _ _) fun _ a4 o4 h4=>Er.rb (Er.acc _ _ _) fun _ a5 o5 h5=> ?_
 have e5:=HV h5 (HV h4 (by omega))
 refine Er.rb (Er.exp _ _ e5) fun _ a6 o6 h6=> ?_
 have e6:=fF h6
 refine Er.rb (Er.tak _ _ (by omega)) fun _ a7 o7 h7=> ?_
 have e7:=gZ h7
 have q7:=eD e7.1 (by decide)
 exact Er.rb (Er.exp _ _ (by omega)) fun _ _ _ _=>Er.ret _ _ _
theorem JE: ∀(f:Nat) (l:List Va) (a o:Nat),a≤ts.length→Er ts.length (vasM ts f l a o):=by
 intro f
 induction f with
 | zero=>intro l a o _ b e h;cases h
 | succ f ih =>
  intro l a o ha;rw[vasM];exact Er.ite (fun hk=>Er.rb (Tp ha) fun _ a1 o1 h1=>ih _ _ _ (lJ h1).2.2) fun _=>Er.ret _ _ _
theorem JD: ∀(f:Nat) {l:List Va} {a o:Nat} {v:List Va} {b p:Nat},a≤ts.length→vasM ts f l a o=some (.ok v b p)→b≤ts.length:=by
 intro f
 induction f with
 | zero=>intro l a o v b p _ h;cases h
 | succ f ih =>
  intro l a o v b p ha h;rw[vasM]at h;rcases aK h with ⟨hk,h⟩|⟨hk,h⟩
  ·obtain⟨_,a1,o1,h1,h⟩:=aN h
   exact ih (lJ h1).2.2 h
  ·cases h;exact ha
theorem Us{f a o:Nat}(ha:a≤ts.length):Er ts.length (funM ts f a o):=by
 refine Er.rb (Er.exp _ _ ha) fun _ a1 o1 h1=> ?_
 have e1:=fF h1
 refine Er.rb (Er.nm _ (by omega)) fun _ a2 o2 h2=> ?_
 have e2:=gJ h2
 refine Er.rb (Er.beg _ _ (by omega)) fun _ a3 o3 h3=> ?_
 have e3:=cB h3
 have q3:=bJ e3.1
 refine Er.rb (JE _ _ _ _ (by omega)) fun _ a4 o4 h4=> ?_
 have e4:=JD f (by omega) h4
 refine Er.rb ((OU f).2.1 _ _ _ e4) fun _ a5 o5 h5=> ?_
 have e5:=(fR ts f).2.1 _ _ _ _ _ _ h5
 exact Er.rb (Er.en _ _ (by omega)) fun _ _ _ _=>Er.ret _ _ _
theorem JI: ∀(f:Nat) (u:Un) (a o:Nat),a≤ts.length→Er ts.length (uniM ts f u a o):=by
 intro f
 induction f with
 | zero=>intro u a o _ b e h;cases h
 | succ f ih =>
  intro u a o ha;rw[uniM]
  exact Er.ite (fun _=>Er.ret _ _ _) fun _=>Er.ite (fun hk=>Er.rb (Tp ha) fun _ a1 o1 h1=>ih _ _ _ (lJ h1).2.2) fun _=>Er.ite (fun hk=>Er.rb (MA ha) fun _ a1 o1 h1=>ih _ _ _ (xT h1).2.2) fun _ =>
   Er.ite (fun hk=>Er.rb (Us ha) fun _ a1 o1 h1=>ih _ _ _ (uU h1).2.2) fun _=>sM ha
theorem Er.all{α:Type}{r:Option (Rs α)}(h:Er ts.length r)(hl: ∀x a o,r=some (.ok x a o)→a≤ts.length):Er ts.length (allM ts r):=Er.rb h fun x a o h1=>Er.ite (fun _=>sM (hl x a o h1)) fun _=>Er.ret _ _ _
end
end Go.Proofs.YtmbmmckagcdapaaGreatDoor
namespace Go.Proofs.YtmbmmckagcdapaaGreatDoor
def fu(ts:List Tk):Nat:=3*ts.length+10
def rdX{α:Type}(ts:List Tk)(z:α)(r:Option (Rs α)):α×Int×Nat:=match allM ts r with
 | some (.ok x _ _)=>(x,0,0)
 | some (.bad b e)=>(z,e,b)
 | none=>(z,0,0)
def ex0:Ex:= .mk 0 0 ByteArray.empty 0 []
def fn0:Fun:=⟨ByteArray.empty,[],[]⟩
def uz0:Un:=⟨[],[],[]⟩
def exR(ts:List Tk):Ex×Int×Nat:=rdX ts ex0 (exM ts (fu ts) (.ex 1) 0 0)
def fnR(ts:List Tk):Fun×Int×Nat:=rdX ts fn0 (funM ts (fu ts) 0 0)
def unR(ts:List Tk):Un×Int×Nat:=rdX ts uz0 (uniM ts (fu ts) uz0 0 0)
def Ys(s:Bs):Ex×Int:=if(scnR s).2≠0 then(ex0,(scnR s).2)else if(exR (scnR s).1).2.1≠0 then(ex0,(exR (scnR s).1).2.1)else if esh (exR (scnR s).1).1 64=true then((exR (scnR s).1).1,0)else(ex0,20)
def funP(s:Bs):Fun×Int:=if(scnR s).2≠0 then(fn0,(scnR s).2)else if(fnR (scnR s).1).2.1≠0 then(fn0,(fnR (scnR s).1).2.1)else((fnR (scnR s).1).1,0)
def BD(s:Bs):Un×Int:=if(scnR s).2≠0 then(uz0,(scnR s).2)else if(unR (scnR s).1).2.1≠0 then(uz0,(unR (scnR s).1).2.1)else if unE (unR (scnR s).1).1≠0 then(uz0,unE (unR (scnR s).1).1)else((unR (scnR s).1).1,0)
def FY(s:Bs):(Int×Int)×Int:=if(scnR s).2=3 then(Jd (scnR s).1 ((scnR s).1.length-1),3)else if(scnR s).2≠0 then((0,0),(scnR s).2)
 else if(unR (scnR s).1).2.1≠0 then(Jd (scnR s).1 (unR (scnR s).1).2.2,(unR (scnR s).1).2.1)else((0,0),unE (unR (scnR s).1).1)
theorem Ba(s:Bs):(∀t∈(scnR s).1,TkOk t)∧(scnR s).1.length≤65536∧((scnR s).2=0∨(scnR s).2=3∨(scnR s).2=6):=by
 unfold scnR
 by_cases h:65536<s.length
 ·rw[if_pos h];exact⟨by simp,by simp,.inr (.inr rfl)⟩
 ·rw[if_neg h,Gr]
  refine⟨KD (by omega),by have:=DD s;show(scan s).1.length≤_;omega,?_⟩
  show(if(scan s).2 then(0:Int)else 3)=0∨(if(scan s).2 then(0:Int)else 3)=3∨_
  cases (scan s).2
  ·exact .inr (.inl rfl)
  ·exact .inl rfl
theorem yW{α:Type}{ts:List Tk}{z:α}{r:Option (Rs α)}(hs:Sm r)(he:Er ts.length r)(hl: ∀x a o,r=some (.ok x a o)→a≤ts.length) :
  (∃b e,allM ts r=some (.bad b e)∧rdX ts z r=(z,e,b)∧(e=3∨e=20)∧b≤ts.length)∨ ∃x b p,allM ts r=some (.ok x b p)∧rdX ts z r=(x,0,0)∧r=some (.ok x b p):=by
 obtain⟨q,hq⟩:=Sm.all (ts:=ts) hs
 cases q with
 | bad b e =>
  obtain⟨h1,h2⟩:=Er.all he hl b e hq;exact .inl ⟨b,e,hq,by unfold rdX;rw[hq],h1,h2⟩
 | ok x b p =>
  refine .inr ⟨x,b,p,hq,by unfold rdX;rw[hq],?_⟩
  obtain⟨y,a,o,h1,h2⟩:=aN hq;rcases aK h2 with ⟨_,h2⟩|⟨_,h2⟩
  ·cases h2
  ·cases h2;exact h1
theorem Yt(ts:List Tk):(∃b e,allM ts (exM ts (fu ts) (.ex 1) 0 0)=some (.bad b e)∧exR ts=(ex0,e,b)∧(e=3∨e=20)∧b≤ts.length)∨ ∃x b p,allM ts (exM ts (fu ts) (.ex 1) 0 0)=some (.ok x b p)∧exR ts=(x,0,0)∧exM ts (fu ts) (.ex 1) 0 0=some (.ok x b p) :=
 yW ((Og ts _).2.1 _ _ _ (by unfold fu;omega)) ((FG _).2.1 _ _ _ (Nat.zero_le _)) fun x a o h=>(Rp _).2.1 _ _ _ _ _ _ h
theorem Yn(ts:List Tk):(∃b e,allM ts (funM ts (fu ts) 0 0)=some (.bad b e)∧fnR ts=(fn0,e,b)∧(e=3∨e=20)∧b≤ts.length)∨ ∃x b p,allM ts (funM ts (fu ts) 0 0)=some (.ok x b p)∧fnR ts=(x,0,0)∧funM ts (fu ts) 0 0=some (.ok x b p) :=
 yW (zJ ts (by unfold fu;omega)) (Us (Nat.zero_le _)) fun x a o h=>(uU h).2.2
theorem JH{ts:List Tk}: ∀(f:Nat) {u:Un} {a o:Nat} {v:Un} {b p:Nat},a≤ts.length→uniM ts f u a o=some (.ok v b p)→b≤ts.length:=by
 intro f
 induction f with
 | zero=>intro u a o v b p _ h;cases h
 | succ f ih =>
  intro u a o v b p ha h;rw[uniM]at h;rcases aK h with ⟨hk,h⟩|⟨hk,h⟩
  ·cases h;exact ha
  rcases aK h with ⟨hk,h⟩|⟨hk,h⟩
  ·obtain⟨x,a1,o1,h1,h⟩:=aN h
   exact ih (lJ h1).2.2 h
  rcases aK h with ⟨hk,h⟩|⟨hk,h⟩
  ·obtain⟨x,a1,o1,h1,h⟩:=aN h
   exact ih (xT h1).2.2 h
  rcases aK h with ⟨hk,h⟩|⟨hk,h⟩
  ·obtain⟨x,a1,o1,h1,h⟩:=aN h
   exact ih (uU h1).2.2 h
  ·cases h
theorem Gf(ts:List Tk):(∃b e,allM ts (uniM ts (fu ts) uz0 0 0)=some (.bad b e)∧unR ts=(uz0,e,b)∧(e=3∨e=20)∧b≤ts.length)∨ ∃x b p,allM ts (uniM ts (fu ts) uz0 0 0)=some (.ok x b p)∧unR ts=(x,0,0)∧uniM ts (fu ts) uz0 0 0=some (.ok x b p) :=
 yW (Wo ts _ _ _ _ (by unfold fu;omega)) (JI _ _ _ _ (Nat.zero_le _)) fun x a o h=>JH _ (Nat.zero_le _) h
end Go.Proofs.YtmbmmckagcdapaaGreatDoor
namespace Go.Proofs.YtmbmmckagcdapaaGreatDoor
open Go.RowKit
def kR:=A7 @gV @eU @kD @gG @lH @gU @dG
def iT:=A4 aZ bC @aE @aD
theorem GW: ∀(e:Ex),fitE e→ ∀k:Int, -65536≤k→k≤65536→PC Tryz.prog 60 [exV e,(.im (.int .i64 (k)))] (.im (.bool (esh e k))):=by
 intro e
 induction e using Ex.induct with
 | h o n s w l ih =>
 intro hf k hk1 hk2
 obtain⟨hl,hfl⟩:=nG hf
 have hw:=cU (n:=k-1) (by omega)
 by_cases h1:k<1
 ·have:esh (.mk o n s w l) k=false:=by rw[zN];simp;intro h;omega
  rw[this];refine PC.enter 22 Tryz.func60 rfl (by decide) rfl rfl (s:=[(0,exV (.mk o n s w l)),(1,(.im (.int .i64 (k))))]) (by rfl) ?_
  rw[gQ];refine wG kR h1 ?_;refine aG (rs:=[.tmp 4]) rfl (by first|exact .inl rfl|exact .inr rfl) (finG kR) ?_
  all_goals exact wkG iT
 refine PC.enter 22 Tryz.func60 rfl (by decide) rfl rfl (s:=[(0,exV (.mk o n s w l)),(1,(.im (.int .i64 (k))))]) (by rfl) ?_
 refine wG kR (AI h1 @gQ) ?_
 refine aV ?_
 refine ALp.cutP 0 [(1,(.im (.int .i64 (k)))),(4,(.im (.bool (false)))),(10,.sl (l.map exV) .ro),(11,(.im (.int .i64 (l.length)))),(12,(.im (.int .i64 ((((0:Nat)):Int)))))] [] iT ?_
 refine ALp.upto l.length (AllTo (fun t=>esh t (k-1)) l) (fun m=>⟨dn 22 [(1,(.im (.int .i64 (k)))),(4,(.im (.bool (false)))),(10,.sl (l.map exV) .ro),(11,(.im (.int .i64 (l.length)))),(12,(.im (.int .i64 ((((m:Nat)):Int)))))],ofl []⟩) ?_ 0 (Nat.zero_le _) (AllTo.zero _ _)
 intro m hm hI hnext
 by_cases hlt:m<l.length
 ·have hlt':(m:Int)<(l.length:Int):=by omega
  have hm1:=aP hlt (by omega)
  have hg:=bE hlt;have hc:=ih l[m] (List.getElem_mem hlt) (hfl _ (List.getElem_mem hlt)) (k-1) (by omega) (by omega)
  cases b:esh l[m] (k-1)with
  | false =>
   rw[b]at hc;have hr:esh (.mk o n s w l) k=false:=by rw[zN,oC hlt b,Bool.and_false]
   rw[hr];refine wG kR (A11 hlt' hg @fW @eH @fT @fS @fU @eI @List.getElem?_map.{0,0} @Int.natCast_nonneg hw) ?_;refine AR.callP hc @bI iT ?_;refine goG kR TI ?_;refine wG kR TI ?_;refine aG (rs:=[.tmp 4]) rfl (by first|exact .inl rfl|exact .inr rfl) (finG kR) ?_
   all_goals exact wkG iT
  | true =>
   rw[b]at hc;refine wG kR (A11 hlt' hg @fW @eH @fT @fS @fU @eI @List.getElem?_map.{0,0} @Int.natCast_nonneg hw) ?_;refine AR.callP hc @bI iT ?_;refine goG kR TI ?_;refine wG kR hm1 ?_;refine ALp.cutP 0 [(1,(.im (.int .i64 (k)))),(4,(.im (.bool (false)))),(10,.sl (l.map exV) .ro),(11,(.im (.int .i64 (l.length)))),(12,(.im (.int .i64 ((((m+1:Nat)):Int)))))] [] iT ?_;exact hnext (m+1) (by omega) (by omega) (hI.succ hlt b)
 obtain rfl:m=l.length:=by omega
 clear hnext
 have hall:l.all (fun t=>esh t (k-1))=true:=List.all_eq_true.2 fun x hx=>by
  obtain⟨j,hj,rfl⟩:=List.getElem_of_mem hx;exact hI j hj hj
 have hr:esh (.mk o n s w l) k=true:=by rw[zN,hall,Bool.and_true];exact decide_eq_true (by omega)
 rw[hr]
 have hn: ¬(l.length:Int)<(l.length:Int):=by omega
 refine wG kR hn ?_
 refine aG (rs:=[.tmp 4]) rfl (by first|exact .inl rfl|exact .inr rfl) (finG kR) ?_
 all_goals exact wkG iT
theorem t3:(3:Int)≠0:=by decide
theorem LX{e:Int}(h:e=3∨e=20):e≠0:=by omega
def eF:=A9 @By @eU @kD @nQ @vM @yF @Bq @dG @pI
theorem Sr(s:Bs)(hs:s.length≤4194304):PC Tryz.prog 22 [.im (.string ⟨(s).toArray⟩)] (.tu [exV (Ys s).1,(.im (.int .i64 ((Ys s).2)))]):=by
 have h1:=Kf s hs
 obtain⟨hok,hts,hes⟩:=Ba s
 unfold Ys
 generalize scnR s=q at h1 hok hts hes
 obtain⟨ts,e⟩:=q
 simp only at h1 hok hts hes ⊢
 by_cases he:e=0
 case neg =>
  rw[if_pos he];refine PC.enter 33 Tryz.func22 rfl (by decide) rfl rfl (s:=[(0,.im (.string ⟨(s).toArray⟩))]) (by rfl) ?_
  refine wG eF TI ?_;refine AR.callP h1 TI iT ?_;refine goG eF TI ?_;refine wG eF he ?_;refine aG (rs:=[.cell 2 46,.tmp 3]) rfl (by first|exact .inl rfl|exact .inr rfl) (finG eF) ?_
  all_goals exact wkG iT
 subst he
 rw[if_neg (by decide)]
 rcases Yt ts with ⟨b,e,hz,hx,he,hb⟩|⟨x,b,p,hz,hx,hr⟩
 ·have h2:=Hy (by omega) _ _ hz
  change PC _ _ _ (.tu [exV (.mk 0 0 ByteArray.empty 0 []),.ag [(.im (.int .i64 ((b:Nat)))),(.im (.int .i64 (e)))]])at h2;have he: ¬e=0:=LX he;rw[hx,if_pos he];refine PC.enter 33 Tryz.func22 rfl (by decide) rfl rfl (s:=[(0,.im (.string ⟨(s).toArray⟩))]) (by rfl) ?_
  refine wG eF TI ?_;refine AR.callP h1 TI iT ?_;refine goG eF TI ?_;refine wG eF TI ?_;refine AR.callP h2 TI iT ?_;refine goG eF BN01 ?_;refine wdG eF he ?_;refine aG (rs:=[.cell 2 46,.tmp 3]) rfl (by first|exact .inl rfl|exact .inr rfl) (finG eF) ?_
  all_goals exact wkG iT
 have h2:=Hy (by omega) _ _ hz
 change PC _ _ _ (.tu [exV x,.ag [(.im (.int .i64 (0))),(.im (.int .i64 (0)))]])at h2
 have hf:=(Uz hok _).2.1 _ _ _ _ _ _ hr
 have h3:=GW x hf 64 (by decide) (by decide)
 rw[hx,if_neg (fun h=>h rfl)]
 simp only
 cases hl:esh x 64 with
 | true =>
  rw[hl]at h3;rw[if_pos rfl];refine PC.enter 33 Tryz.func22 rfl (by decide) rfl rfl (s:=[(0,.im (.string ⟨(s).toArray⟩))]) (by rfl) ?_
  refine wG eF TI ?_;refine AR.callP h1 TI iT ?_;refine goG eF TI ?_;refine wG eF TI ?_;refine AR.callP h2 TI iT ?_;refine goG eF BN01 ?_;refine wG eF BN01 ?_;refine AR.callP h3 @bI iT ?_;refine goG eF TI ?_;refine wG eF TI ?_;refine aG (rs:=[.cell 2 46,.tmp 3]) rfl (by first|exact .inl rfl|exact .inr rfl) (finG eF) ?_
  rw[bI x]
  all_goals exact wkG iT
 | false =>
  rw[hl]at h3;rw[if_neg (by decide)]
  refine PC.enter 33 Tryz.func22 rfl (by decide) rfl rfl (s:=[(0,.im (.string ⟨(s).toArray⟩))]) (by rfl) ?_
  refine wG eF TI ?_;refine AR.callP h1 TI iT ?_;refine goG eF TI ?_;refine wG eF TI ?_;refine AR.callP h2 TI iT ?_;refine goG eF BN01 ?_;refine wG eF BN01 ?_;refine AR.callP h3 @bI iT ?_;refine goG eF TI ?_;refine wG eF TI ?_;refine aG (rs:=[.cell 2 46,.tmp 3]) rfl (by first|exact .inl rfl|exact .inr rfl) (finG eF) ?_
  all_goals exact wkG iT
theorem xX(u:Un)(hu:fitU u):PC Tryz.prog 15 [.ag [.sl (u.globals.map vaV) .ro,.sl (u.data.map scV) .ro,.sl (u.funcs.map fnV) .ro]] (.im (.int .i64 (unE u))):=Ph u hu
def iQ:=A9 @By @sL @vQ @nQ @vM @Vz @Bq @nN @pI
def dS:=A10 aZ bC @aO @aL hU fM tQ lV aH Cb
theorem SP(s:Bs)(hs:s.length≤4194304):PC Tryz.prog 19 [.im (.string ⟨(s).toArray⟩)] (.tu [fnV (funP s).1,(.im (.int .i64 ((funP s).2)))]):=by
 have h1:=Kf s hs
 obtain⟨hok,hts,hes⟩:=Ba s
 unfold funP
 generalize scnR s=q at h1 hok hts hes
 obtain⟨ts,e⟩:=q
 simp only at h1 hok hts hes ⊢
 by_cases he:e=0
 case neg =>
  rw[if_pos he];refine PC.enter 29 Tryz.func19 rfl (by decide) rfl rfl (s:=[(0,.im (.string ⟨(s).toArray⟩))]) (by rfl) ?_
  refine wG iQ TI ?_;refine AR.callP h1 TI dS ?_;refine goG iQ TI ?_;refine wG iQ he ?_;refine aG (rs:=[.cell 2 37,.tmp 3]) rfl (by first|exact .inl rfl|exact .inr rfl) (finG iQ) ?_
  all_goals exact wkG dS
 subst he
 rw[if_neg (by decide)]
 rcases Yn ts with ⟨b,e,hz,hx,he,hb⟩|⟨x,b,p,hz,hx,hr⟩
 ·have h2:=Hx (by omega) hok _ _ hz
  change PC _ _ _ (.tu [fnV ⟨ByteArray.empty,[],[]⟩,.ag [(.im (.int .i64 ((b:Nat)))),(.im (.int .i64 (e)))]])at h2;have he: ¬e=0:=LX he;rw[hx,if_pos he];refine PC.enter 29 Tryz.func19 rfl (by decide) rfl rfl (s:=[(0,.im (.string ⟨(s).toArray⟩))]) (by rfl) ?_
  refine wG iQ TI ?_;refine AR.callP h1 TI dS ?_;refine goG iQ TI ?_;refine wG iQ TI ?_;refine AR.callP h2 TI dS ?_;refine goG iQ FU ?_;refine wdG iQ he ?_;refine aG (rs:=[.cell 2 37,.tmp 3]) rfl (by first|exact .inl rfl|exact .inr rfl) (finG iQ) ?_
  all_goals exact wkG dS
 have h2:=Hx (by omega) hok _ _ hz
 change PC _ _ _ (.tu [fnV x,.ag [(.im (.int .i64 (0))),(.im (.int .i64 (0)))]])at h2
 rw[hx,if_neg (fun h=>h rfl)]
 simp only
 refine PC.enter 29 Tryz.func19 rfl (by decide) rfl rfl (s:=[(0,.im (.string ⟨(s).toArray⟩))]) (by rfl) ?_
 refine wG iQ TI ?_
 refine AR.callP h1 TI dS ?_
 refine goG iQ TI ?_
 refine wG iQ TI ?_
 refine AR.callP h2 TI dS ?_
 refine goG iQ FU ?_
 refine wG iQ FU ?_
 refine aG (rs:=[.cell 2 37,.tmp 3]) rfl (by first|exact .inl rfl|exact .inr rfl) (finG iQ) ?_
 rw[kU x]
 all_goals exact wkG dS
def eG:=A9 @yM @By @yK @nQ @vM @NH @vI @Bq @pI
theorem HN(s:Bs)(hs:s.length≤4194304):PC Tryz.prog 13 [.im (.string ⟨(s).toArray⟩)] (.tu [unV (BD s).1,(.im (.int .i64 ((BD s).2)))]):=by
 have h1:=Kf s hs
 obtain⟨hok,hts,hes⟩:=Ba s
 unfold BD
 generalize scnR s=q at h1 hok hts hes
 obtain⟨ts,e⟩:=q
 simp only at h1 hok hts hes ⊢
 by_cases he:e=0
 case neg =>
  rw[if_pos he];refine PC.enter 36 Tryz.func13 rfl (by decide) rfl rfl (s:=[(0,.im (.string ⟨(s).toArray⟩))]) (by rfl) ?_
  refine wG eG TI ?_;refine AR.callP h1 TI dS ?_;refine goG eG TI ?_;refine wG eG he ?_;refine aG (rs:=[.cell 2 27,.tmp 3]) rfl (by first|exact .inl rfl|exact .inr rfl) (finG eG) ?_
  all_goals exact wkG dS
 subst he
 rw[if_neg (by decide)]
 rcases Gf ts with ⟨b,e,hz,hx,he,hb⟩|⟨x,b,p,hz,hx,hr⟩
 ·have h2:=vD (by omega) hok _ _ hz
  change PC _ _ _ (.tu [unV ⟨[],[],[]⟩,.ag [(.im (.int .i64 ((b:Nat)))),(.im (.int .i64 (e)))]])at h2;have he: ¬e=0:=LX he;rw[hx,if_pos he];refine PC.enter 36 Tryz.func13 rfl (by decide) rfl rfl (s:=[(0,.im (.string ⟨(s).toArray⟩))]) (by rfl) ?_
  refine wG eG TI ?_;refine AR.callP h1 TI dS ?_;refine goG eG TI ?_;refine wG eG TI ?_;refine AR.callP h2 TI dS ?_;refine goG eG UNT ?_;refine wdG eG he ?_;refine aG (rs:=[.cell 2 27,.tmp 3]) rfl (by first|exact .inl rfl|exact .inr rfl) (finG eG) ?_
  all_goals exact wkG dS
 have h2:=vD (by omega) hok _ _ hz
 change PC _ _ _ (.tu [unV x,.ag [(.im (.int .i64 (0))),(.im (.int .i64 (0)))]])at h2
 have h3:=xX x (Ge hok hts hr)
 rw[hx,if_neg (fun h=>h rfl)]
 simp only
 by_cases hu:unE x=0
 case neg =>
  rw[if_pos hu];refine PC.enter 36 Tryz.func13 rfl (by decide) rfl rfl (s:=[(0,.im (.string ⟨(s).toArray⟩))]) (by rfl) ?_
  refine wG eG TI ?_;refine AR.callP h1 TI dS ?_;refine goG eG TI ?_;refine wG eG TI ?_;refine AR.callP h2 TI dS ?_;refine goG eG UNT ?_;refine wG eG UNT ?_;refine AR.callP h3 TI dS ?_;refine goG eG TI ?_;refine wG eG hu ?_;refine aG (rs:=[.cell 2 27,.tmp 3]) rfl (by first|exact .inl rfl|exact .inr rfl) (finG eG) ?_
  all_goals exact wkG dS
 rw[if_neg (fun h=>h hu)]
 rw[hu]at h3
 refine PC.enter 36 Tryz.func13 rfl (by decide) rfl rfl (s:=[(0,.im (.string ⟨(s).toArray⟩))]) (by rfl) ?_
 refine wG eG TI ?_
 refine AR.callP h1 TI dS ?_
 refine goG eG TI ?_
 refine wG eG TI ?_
 refine AR.callP h2 TI dS ?_
 refine goG eG UNT ?_
 refine wG eG UNT ?_
 refine AR.callP h3 TI dS ?_
 refine goG eG TI ?_
 refine wG eG TI ?_
 refine aG (rs:=[.cell 2 27,.tmp 3]) rfl (by first|exact .inl rfl|exact .inr rfl) (finG eG) ?_
 rw[sZ x]
 all_goals exact wkG dS
def eE:=A13 @yM @By @cL @yK @nQ @pM @AV @vM @gX @vI @Bq @cK @pI
theorem AL(s:Bs)(hs:s.length≤4194304):PC Tryz.prog 25 [.im (.string ⟨(s).toArray⟩)] (.tu [(.im (.int .i64 ((FY s).1.1))),(.im (.int .i64 ((FY s).1.2))),(.im (.int .i64 ((FY s).2)))]):=by
 have h1:=Kf s hs
 obtain⟨hok,hts,hes⟩:=Ba s
 unfold FY
 generalize scnR s=q at h1 hok hts hes
 obtain⟨ts,e⟩:=q
 simp only at h1 hok hts hes ⊢
 by_cases he3:e=3
 ·subst he3
  rw[if_pos rfl];have hw:=cU (n:=(ts.length:Int)-1) (by omega)
  have h2:=Eg ts ((ts.length:Int)-1) (by omega)
  refine PC.enter 55 Tryz.func25 rfl (by decide) rfl rfl (s:=[(0,.im (.string ⟨(s).toArray⟩))]) (by rfl) ?_
  refine wG eE TI ?_;refine AR.callP h1 TI dS ?_;refine goG eE TI ?_;refine wG eE (AI hw @List.length_map.{0,0}) ?_;refine AR.callP h2 TI dS ?_;refine goG eE TI ?_;refine wG eE TI ?_;refine aG (rs:=[.tmp 2,.tmp 3,.tmp 4]) rfl (by first|exact .inl rfl|exact .inr rfl) (finG eE) ?_
  all_goals exact wkG dS
 rw[if_neg he3]
 by_cases he:e=0
 case neg =>
  rw[if_pos he];refine PC.enter 55 Tryz.func25 rfl (by decide) rfl rfl (s:=[(0,.im (.string ⟨(s).toArray⟩))]) (by rfl) ?_
  refine wG eE TI ?_;refine AR.callP h1 TI dS ?_;refine goG eE TI ?_;refine wG eE (AI he he3) ?_;refine aG (rs:=[.tmp 2,.tmp 3,.tmp 4]) rfl (by first|exact .inl rfl|exact .inr rfl) (finG eE) ?_
  all_goals exact wkG dS
 subst he
 rw[if_neg (by decide)]
 rcases Gf ts with ⟨b,e,hz,hx,he,hb⟩|⟨x,b,p,hz,hx,hr⟩
 ·have h2:=vD (by omega) hok _ _ hz
  change PC _ _ _ (.tu [unV ⟨[],[],[]⟩,.ag [(.im (.int .i64 ((b:Nat)))),(.im (.int .i64 (e)))]])at h2;have he: ¬e=0:=LX he;have h3:=Eg ts (b:Int) (by omega)
  rw[hx,if_pos he];refine PC.enter 55 Tryz.func25 rfl (by decide) rfl rfl (s:=[(0,.im (.string ⟨(s).toArray⟩))]) (by rfl) ?_
  refine wG eE TI ?_;refine AR.callP h1 TI dS ?_;refine goG eE TI ?_;refine wG eE TI ?_;refine AR.callP h2 TI dS ?_;refine goG eE UNT ?_;refine wG eE he ?_;refine AR.callP h3 TI dS ?_;refine goG eE TI ?_;refine wdG eE TI ?_;refine aG (rs:=[.tmp 2,.tmp 3,.tmp 4]) rfl (by first|exact .inl rfl|exact .inr rfl) (finG eE) ?_
  all_goals exact wkG dS
 have h2:=vD (by omega) hok _ _ hz
 change PC _ _ _ (.tu [unV x,.ag [(.im (.int .i64 (0))),(.im (.int .i64 (0)))]])at h2
 have h3:=xX x (Ge hok hts hr)
 rw[hx,if_neg (fun h=>h rfl)]
 simp only
 refine PC.enter 55 Tryz.func25 rfl (by decide) rfl rfl (s:=[(0,.im (.string ⟨(s).toArray⟩))]) (by rfl) ?_
 refine wG eE TI ?_
 refine AR.callP h1 TI dS ?_
 refine goG eE TI ?_
 refine wG eE TI ?_
 refine AR.callP h2 TI dS ?_
 refine goG eE UNT ?_
 refine wG eE UNT ?_
 refine AR.callP h3 TI dS ?_
 refine goG eE TI ?_
 refine wG eE TI ?_
 refine aG (rs:=[.tmp 2,.tmp 3,.tmp 4]) rfl (by first|exact .inl rfl|exact .inr rfl) (finG eE) ?_
 all_goals exact wkG dS
def nmX(s:Bs):Ex:= .mk 2 0 ⟨s.toArray⟩ 0 []
def coX(n:Int):Ex:= .mk 1 n ByteArray.empty 0 []
def twX(o:Int)(a b:Ex):Ex:= .mk o 0 ByteArray.empty 0 [a,b]
def s1X:Bs:=[114,48,32,45,32,49,32,45,32,114,49,32,42,32,50]
def s2X:Bs:=[45,114,48,32,42,32,50]
def s3X:Bs:=[114,48,32,43]
def s4X:Bs:=[102,117,110,99,32,109,97,105,110,32,123,32,114,48,32,61,32,49,59,32,104,97,108,116,59,32,125]
def s5X:Bs:=[118,97,114,32,114,48,58,32,117,105,110,116,51,50,59,32,102,117,110,99,32,109,97,105,110,32,123,32,114,48,32,61,32,49,59,32,104,97,108,116,59,32,125]
def s6X:Bs:=[102,117,110,99,32,102,32,123,10,32,32,104,97,108,116,10,125]
theorem e1X:Ys s1X=(twX 4 (twX 4 (nmX [114,48]) (coX 1)) (twX 5 (nmX [114,49]) (coX 2)),0):=by kernel_rfl
theorem e2X:Ys s2X=(twX 5 (mkU 17 0 (nmX [114,48])) (coX 2),0):=by kernel_rfl
theorem e3X:Ys s3X=(ex0,3):=by kernel_rfl
theorem e4X:BD s4X=(uz0,17):=by kernel_rfl
def v5X:Va:=⟨⟨#[114,48]⟩,.mk 0 2 4 0 [] []⟩
def f5X:Fun:=⟨⟨#[109,97,105,110]⟩,[],[.mk 1 0 ⟨#[114,48]⟩ [coX 1] [] [] [],.mk 15 0 ByteArray.empty [] [] [] []]⟩
theorem e5X:BD s5X=(⟨[v5X],[],[f5X]⟩,0):=by kernel_rfl
theorem e6X:FY s6X=((3,1),3):=by kernel_rfl
def jL:=A16 @lT @Lr @cL @gV @yK @kD @kC @Li @gG @qY @vP @nZ @lH @kB @Br (A6 @vI @cK @nN @gU @dG @jM)
def wQ:=A12 aZ bC @aE @aD @aO @aL hU fM tQ lV aH Cb
set_option maxRecDepth 4000 in
set_option maxHeartbeats 4000000 in
theorem VK:PC Tryz.prog 12 [] (.im (.bool (true))):=by
 have h1:=Sr s1X (by decide)
 have h2:=Sr s2X (by decide)
 have h3:=Sr s3X (by decide)
 have h4:=HN s4X (by decide)
 have h5:=HN s5X (by decide)
 have h6:=AL s6X (by decide)
 rw[e1X]at h1
 rw[e2X]at h2
 rw[e3X]at h3
 rw[e4X]at h4
 rw[e5X]at h5
 rw[e6X]at h6
 simp only[twX,nmX,coX,mkU,ex0,gQ,List.map_cons,List.map_nil,sZ,uz0]at h1 h2 h3 h4 h5 h6
 unfold s1X at h1
 unfold s2X at h2
 unfold s3X at h3
 unfold s4X at h4
 unfold s5X at h5
 unfold s6X at h6
 generalize vaV v5X=va at h5
 generalize fnV f5X=fa at h5
 refine PC.enter 127 Tryz.func12 rfl (by decide) rfl rfl (s:=[]) (by rfl) ?_
 simp only[List.append]
 refine wG jL TI ?_
 refine AR.callP h1 TI wQ ?_
 refine goG jL TI ?_
 refine wG jL TI ?_
 refine AR.callP h2 TI wQ ?_
 refine goG jL TI ?_
 refine wG jL TI ?_
 refine AR.callP h3 TI wQ ?_
 refine goG jL TI ?_
 refine wG jL TI ?_
 refine AR.callP h4 TI wQ ?_
 refine goG jL TI ?_
 refine wG jL TI ?_
 refine AR.callP h5 TI wQ ?_
 refine goG jL TI ?_
 refine wG jL TI ?_
 refine AR.callP h6 TI wQ ?_
 refine goG jL TI ?_
 refine wG jL TI ?_
 refine aG (rs:=[.tmp 0]) rfl (by first|exact .inl rfl|exact .inr rfl) (finG jL) ?_
 all_goals exact wkG wQ
theorem Aw(s:ByteArray)(l m:Bs)(hs:s=bA m)(hlen:l.length+m.length≤140737488355328):DC Tryz.prog 82 [.pt 0 0,.im (.string s)] [.box [.nb 0 206,.sl (byV (bA (l))) (.mine 1)],.tip 5 1 (bA (l)).size] (.tu [(.im (.int .i64 ((m.length:Int)))),.im Value.nilIface]) [.box [.nb 0 206,.sl (byV (bA ((l++m)))) (.mine 1)],.tip 5 1 (bA ((l++m))).size]:=by
 have h:=Ga (bA l) s (by rw[hs,pF,pF];exact hlen)
 rw[hs,zQ,pF m]at h
 rw[hs]
 exact h
theorem QM{s:Int}(h:s=1∨s=2∨s=4):IntKind.i64.wrap (8*s)=8*s:=by rcases h with rfl|rfl|rfl<;>rfl
def jD:=A7 @cL @vR @wS @qW @vL @cK @vH
def cJ:=A5 @bR @bT @bS @bU Ss
def iR:=A6 @rR @rD @rQ @rC Vr eO
theorem Eb(o k s c:Int)(es fs:List Ty)(hs:s=1∨s=2∨s=4)(l:Bs)(hl:(if k=2 then l++[117]else l).length+(3+(Lib.itoa (8*s)).length)≤140737488355328) :
  DC Tryz.prog 202 [.pt 0 0,tyV (.mk o k s c es fs)] [.box [.nb 0 206,.sl (byV (bA (l))) (.mine 1)],.tip 5 1 (bA (l)).size] (.tu []) [.box [.nb 0 206,.sl (byV (bA ((if k=2 then l++[117]else l)++([105,110,116]++Lib.itoa (8*s))))) (.mine 1)],.tip 5 1 (bA ((if k=2 then l++[117]else l)++([105,110,116]++Lib.itoa (8*s)))).size]:=by
 have hi:=tW (8*s) (by omega) (by omega)
 have hw:=QM hs
 refine DC.enter 20 Tryz.func202 rfl (by decide) rfl rfl (s:=[(0,.pt 0 0),(1,tyV (.mk o k s c es fs))]) (by rfl) ?_
 simp only[dY]
 have hz1:((⟨#[105,110,116]⟩:ByteArray)).size+((⟨(Lib.itoa (8*s)).toArray⟩:ByteArray)).size≤9223372036854775807:=by
  show 3+(bA (Lib.itoa (8*s))).size≤_
  rw[pF];split at hl<;>(try simp at hl)<;>omega
 by_cases hk:k=2
 ·rw[if_pos hk]at hl ⊢
  have h1:=Aw ⟨#[117]⟩ l [117] rfl (by simp at hl ⊢;omega)
  have h2:=Aw (⟨#[105,110,116]⟩++⟨(Lib.itoa (8*s)).toArray⟩) (l++[117]) ([105,110,116]++Lib.itoa (8*s)) (zQ [105,110,116] _) (by simp at hl ⊢;omega)
  refine wdG jD hk ?_;refine aA [0,1] h1 TI cJ iR ?_;refine goG jD TI ?_;refine wdG jD hw ?_;refine AR.callP hi TI cJ ?_;refine goG jD hz1 ?_;refine aA [0,1] h2 TI cJ iR ?_;refine goG jD TI ?_;refine wdG jD TI ?_;refine aQ (rs:=[]) rfl (by first|exact .inl rfl|exact .inr rfl) (finG jD) ?_ rfl (idG cJ)
  all_goals exact wkG cJ
 ·rw[if_neg hk]at hl ⊢
  have h2:=Aw (⟨#[105,110,116]⟩++⟨(Lib.itoa (8*s)).toArray⟩) l ([105,110,116]++Lib.itoa (8*s)) (zQ [105,110,116] _) (by simp at hl ⊢;omega)
  refine wdG jD (AI hk hw) ?_;refine AR.callP hi TI cJ ?_;refine goG jD hz1 ?_;refine aA [0,1] h2 TI cJ iR ?_;refine goG jD TI ?_;refine wdG jD TI ?_;refine aQ (rs:=[]) rfl (by first|exact .inl rfl|exact .inr rfl) (finG jD) ?_ rfl (idG cJ)
  all_goals exact wkG cJ
def bH:=A16 @uG @cL @vR @sK @pO @gH @qZ @pL @pK @wS @sI @kZ @qW @vK @mC (A7 @jH @mT @cK @vH @sG @mN @gF)
set_option maxHeartbeats 2000000 in
theorem GH: ∀(t:Ty),fit t→frm t=true→ ∀(l:Bs),l.length+(txT t).length≤140737488355328→DC Tryz.prog 148 [.pt 0 0,tyV t] [.box [.nb 0 206,.sl (byV (bA (l))) (.mine 1)],.tip 5 1 (bA (l)).size] (.tu []) [.box [.nb 0 206,.sl (byV (bA ((l++txT t)))) (.mine 1)],.tip 5 1 (bA ((l++txT t))).size]:=by
 refine Ty.induct fun o k s c es fs hE hF=> ?_
 intro hfit hfrm l hl
 obtain⟨hl1,hl2,hfE,hfF⟩:=kF hfit
 obtain⟨hb,hof,hfs,hes⟩:=oW hfrm
 rw[rE]at hl ⊢
 refine DC.enter 96 Tryz.func148 rfl (by decide) rfl rfl (s:=[(0,.pt 0 0),(1,tyV (.mk o k s c es fs))]) (by rfl) ?_
 simp only[dY]
 rcases lX hb with ⟨hk,h1⟩|⟨hk,hs,h1⟩|⟨rfl,h1⟩|⟨rfl,h0,h1,h2,h3,h4⟩|⟨rfl,h1⟩
 ·rcases hk with rfl|rfl
  ·rw[if_pos rfl]at hl ⊢
   have h:=Aw ⟨#[63]⟩ l [63] rfl hl;refine wG bH TI ?_;refine aA [0,1] h TI cJ iR ?_;refine goG bH TI ?_;refine wG bH TI ?_;refine aQ (rs:=[]) rfl (by first|exact .inl rfl|exact .inr rfl) (finG bH) ?_ rfl (idG cJ)
   all_goals exact wkG cJ
  ·rw[if_neg (by decide),if_pos rfl]at hl ⊢
   have h:=Aw ⟨#[97,110,121]⟩ l [97,110,121] rfl hl;refine wG bH TI ?_;refine aA [0,1] h TI cJ iR ?_;refine goG bH TI ?_;refine wG bH TI ?_;refine aQ (rs:=[]) rfl (by first|exact .inl rfl|exact .inr rfl) (finG bH) ?_ rfl (idG cJ)
   all_goals exact wkG cJ
 ·rcases hk with rfl|rfl
  ·rw[if_neg (by decide),if_neg (by decide),if_pos rfl]at hl ⊢
   have h:=Eb o 1 s c es fs hs l (by rw[if_neg (by decide)];simp at hl;omega)
   rw[if_neg (by decide)]at h
   refine wG bH TI ?_;refine aA [0,1] h @dY cJ iR ?_;refine goG bH TI ?_;refine wG bH TI ?_;refine aQ (rs:=[]) rfl (by first|exact .inl rfl|exact .inr rfl) (finG bH) ?_ rfl (idG cJ)
   all_goals exact wkG cJ
  ·rw[if_neg (by decide),if_neg (by decide),if_neg (by decide),if_pos rfl]at hl ⊢
   have h:=Eb o 2 s c es fs hs l (by rw[if_pos rfl];simp at hl ⊢;omega)
   rw[if_pos rfl,List.append_assoc]at h;refine wG bH TI ?_;refine aA [0,1] h @dY cJ iR ?_;refine goG bH TI ?_;refine wG bH TI ?_;refine aQ (rs:=[]) rfl (by first|exact .inl rfl|exact .inr rfl) (finG bH) ?_ rfl (idG cJ)
   all_goals exact wkG cJ
 ·rw[if_neg (by decide),if_neg (by decide),if_neg (by decide),if_neg (by decide),if_pos rfl]at hl ⊢
  obtain⟨x,rfl⟩:=List.length_eq_one_iff.1 h1.2.2.1;simp only[List.map_cons,List.map_nil,List.headD_cons]at hl ⊢;have h:=Aw ⟨#[42]⟩ l [42] rfl (by simp at hl ⊢;omega)
  have hc:=hE x (by simp) (hfE x (by simp)) (hes x (by simp)) (l++[42]) (by simp at hl ⊢;omega)
  rw[List.append_assoc]at hc;refine wG bH TI ?_;refine aA [0,1] h TI cJ iR ?_;refine goG bH TI ?_;refine wG bH BN03 ?_;refine aA [0,1] hc @bW cJ iR ?_;refine goG bH TI ?_;refine wG bH TI ?_;refine aQ (rs:=[]) rfl (by first|exact .inl rfl|exact .inr rfl) (finG bH) ?_ rfl (idG cJ)
  all_goals exact wkG cJ
 ·rw[if_neg (by decide),if_neg (by decide),if_neg (by decide),if_neg (by decide),if_neg (by decide),if_pos rfl]at hl ⊢
  obtain⟨x,rfl⟩:=List.length_eq_one_iff.1 h3;simp only[List.map_cons,List.map_nil,List.headD_cons]at hl ⊢;have hi:=tW c (by omega) (by omega)
  have hz1:((⟨#[91]⟩:ByteArray)).size+((⟨(Lib.itoa c).toArray⟩:ByteArray)).size≤9223372036854775807:=by
   show 1+(bA (Lib.itoa c)).size≤_
   rw[pF];simp at hl;omega
  have hz2:((⟨#[91]⟩++⟨(Lib.itoa c).toArray⟩:ByteArray)).size+((⟨#[93]⟩:ByteArray)).size≤9223372036854775807:=by
   rw[ByteArray.size_append];show 1+(bA (Lib.itoa c)).size+1≤_
   rw[pF];simp at hl;omega
  have he:((⟨#[91]⟩++⟨(Lib.itoa c).toArray⟩)++⟨#[93]⟩:ByteArray)=bA ([91]++Lib.itoa c++[93]):=by rw[←zQ,←zQ];rfl
  obtain⟨m,hm⟩: ∃m,m=[91]++Lib.itoa c++[93]:=⟨_,rfl⟩
  rw[←hm]at he hl ⊢;have h:=Aw _ l m he (by simp at hl ⊢;omega)
  have hc:=hE x (by simp) (hfE x (by simp)) (hes x (by simp)) (l++m) (by simp at hl ⊢;omega)
  rw[List.append_assoc]at hc;refine wdG bH TI ?_;refine AR.callP hi TI cJ ?_;refine goG bH (AI hz1 hz2) ?_;refine aA [0,1] h TI cJ iR ?_;refine goG bH TI ?_;refine wdG bH BN03 ?_;refine aA [0,1] hc @bW cJ iR ?_;refine goG bH TI ?_;refine wdG bH TI ?_;refine aQ (rs:=[]) rfl (by first|exact .inl rfl|exact .inr rfl) (finG bH) ?_ rfl (idG cJ)
  all_goals exact wkG cJ
 ·rw[if_neg (by decide),if_neg (by decide),if_neg (by decide),if_neg (by decide),if_neg (by decide),if_neg (by decide),if_pos rfl]at hl ⊢
  obtain⟨F,hF0⟩: ∃F:Nat→Bs,F=fun m=>fldT ((fs.take m).map fun f=>(f.off,txT f)):=⟨_,rfl⟩
  have hFs: ∀m (h:m<fs.length),F (m+1)=F m++((if m=0 then []else [44,32])++(Lib.itoa fs[m].off++[58,32]++txT fs[m])):=fun m h=>by rw[hF0];exact Hl fs h
  have hFl: ∀m,m≤fs.length→(F m).length≤(fldT (fs.map fun f=>(f.off,txT f))).length:=fun m h=>by rw[hF0];exact LJ fs h
  have hFn:F fs.length=fldT (fs.map fun f=>(f.off,txT f)):=by rw[hF0];simp
  have hF00:F 0=[]:=by rw[hF0];simp[fldT]
  rw[←hFn]at hl ⊢;rw[←hFn]at hFl;have h:=Aw ⟨#[123]⟩ l [123] rfl (by simp at hl ⊢;omega)
  refine wG bH TI ?_;refine aA [0,1] h TI cJ iR ?_;refine goG bH TI ?_;refine wG bH @List.length_map.{0,0} ?_;obtain⟨l0,hl0⟩: ∃l0,l0=l++[123]:=⟨_,rfl⟩
  have hll:l0.length=l.length+1:=by rw[hl0];simp
  have hgoal:l++([123]++F fs.length++[125])=l0++F fs.length++[125]:=by rw[hl0];simp
  have hl00:l++[123]=l0++F 0:=by rw[hF00,hl0];simp
  rw[hgoal,hl00];refine aV ?_;refine ALp.cutP 3 [(0,.pt 0 0),(3,.pt 2 0),(4,.fn (.func 148) [] []),(65,.sl (fs.map fdV) .ro),(66,(.im (.int .i64 (fs.length)))),(67,(.im (.int .i64 ((((0:Nat)):Int)))))] [.box [.nb 0 206,.sl (byV (bA ((l0++F 0)))) (.mine 1)],.tip 5 1 (bA ((l0++F 0))).size,.box [(.im (.int .i64 ((5:Int)))),(.im (.int .i64 (s))),(.im (.int .i64 (c))),.sl (es.map tyV) .ro,.sl (fs.map fdV) .ro]] cJ ?_;refine ALp.upto fs.length (fun _=>True) (fun m=>⟨dn 96 [(0,.pt 0 0),(3,.pt 2 0),(4,.fn (.func 148) [] []),(65,.sl (fs.map fdV) .ro),(66,(.im (.int .i64 (fs.length)))),(67,(.im (.int .i64 ((((m:Nat)):Int)))))],ofl [.box [.nb 0 206,.sl (byV (bA ((l0++F m)))) (.mine 1)],.tip 5 1 (bA ((l0++F m))).size,.box [(.im (.int .i64 ((5:Int)))),(.im (.int .i64 (s))),(.im (.int .i64 (c))),.sl (es.map tyV) .ro,.sl (fs.map fdV) .ro]]⟩) ?_ 0 (Nat.zero_le _) trivial
  intro m hm _ hnext
  by_cases hlt:m<fs.length
  ·have hlt':(m:Int)<(fs.length:Int):=by omega
   have hg:=bE hlt;have hm1:=aP hlt (by omega)
   have hn:=hnext (m+1) (by omega) (by omega) trivial
   clear hnext
   have ho:0≤fs[m].off∧fs[m].off≤9223372036854775807:=by
    have:=hof m hlt;unfold fok at this;simp[hlt]at this;omega
   have hi:=tW fs[m].off ho.1 ho.2;have hle:=hFl (m+1) (by omega)
   rw[hFs m hlt]at hle hn
   have hz1:((⟨(Lib.itoa fs[m].off).toArray⟩:ByteArray)).size+((⟨#[58,32]⟩:ByteArray)).size≤9223372036854775807:=by
    show(bA (Lib.itoa fs[m].off)).size+2≤_
    rw[pF];simp at hl hle;omega
   have he:(⟨(Lib.itoa fs[m].off).toArray⟩++⟨#[58,32]⟩:ByteArray)=bA (Lib.itoa fs[m].off++[58,32]):=by rw[←zQ];rfl
   by_cases h0:m=0
   ·rw[if_pos h0,List.nil_append]at hle hn
    obtain⟨q,hq⟩: ∃q,q=Lib.itoa fs[m].off++[58,32]:=⟨_,rfl⟩
    rw[←hq]at he hle hn;obtain⟨l1,hl1'⟩: ∃l1,l1=l0++F m:=⟨_,rfl⟩
    have h2:=Aw _ l1 q he (by rw[hl1'];simp at hl hle ⊢;omega)
    have hc:=hF fs[m] (List.getElem_mem hlt) (hfF _ (List.getElem_mem hlt)) (hfs _ (List.getElem_mem hlt)) (l1++q) (by rw[hl1'];simp at hl hle ⊢;omega)
    rw[←List.append_assoc,←List.append_assoc,←hl1']at hn;rw[←hl1'];have hg0: ¬((m:Nat):Int)>0:=by omega
    refine wdG bH (A16 @eM @eQ @dH @dJ @eK @eJ @eL @dI @dU @dT @eP @dK @List.getElem?_map.{0,0} @Int.natCast_nonneg hlt' (AI hg hg0)) ?_;refine AR.callP hi TI cJ ?_;refine goG bH hz1 ?_;refine aA [0,1] h2 TI cJ iR ?_;refine goG bH TI ?_;refine wdG bH BN03 ?_;refine aA [0,1] hc @bW cJ iR ?_;refine goG bH TI ?_;refine wdG bH hm1 ?_;refine ALp.cutP 3 [(0,.pt 0 0),(3,.pt 2 0),(4,.fn (.func 148) [] []),(65,.sl (fs.map fdV) .ro),(66,(.im (.int .i64 (fs.length)))),(67,(.im (.int .i64 ((((m+1:Nat)):Int)))))] [.box [.nb 0 206,.sl (byV (bA ((l1++q++txT fs[m])))) (.mine 1)],.tip 5 1 (bA ((l1++q++txT fs[m]))).size,.box [(.im (.int .i64 ((5:Int)))),(.im (.int .i64 (s))),(.im (.int .i64 (c))),.sl (es.map tyV) .ro,.sl (fs.map fdV) .ro]] cJ ?_;exact hn
   ·rw[if_neg h0]at hle hn
    obtain⟨q,hq⟩: ∃q,q=Lib.itoa fs[m].off++[58,32]:=⟨_,rfl⟩
    rw[←hq]at he hle hn;obtain⟨l1,hl1'⟩: ∃l1,l1=l0++F m:=⟨_,rfl⟩
    obtain⟨l2,hl2'⟩: ∃l2,l2=l1++[44,32]:=⟨_,rfl⟩
    have h2:=Aw ⟨#[44,32]⟩ l1 [44,32] rfl (by rw[hl1'];simp at hl hle ⊢;omega)
    rw[←hl2']at h2;have h3:=Aw _ l2 q he (by rw[hl2',hl1'];simp at hl hle ⊢;omega)
    have hc:=hF fs[m] (List.getElem_mem hlt) (hfF _ (List.getElem_mem hlt)) (hfs _ (List.getElem_mem hlt)) (l2++q) (by rw[hl2',hl1'];simp at hl hle ⊢;omega)
    rw[←List.append_assoc,←List.append_assoc,←List.append_assoc,←hl1',←hl2']at hn;rw[←hl1'];have hg0:((m:Nat):Int)>0:=by omega
    refine wdG bH (A16 @eM @eQ @dH @dJ @eK @eJ @eL @dI @dU @dT @eP @dK @List.getElem?_map.{0,0} @Int.natCast_nonneg hlt' (AI hg hg0)) ?_;refine aA [0,1] h2 TI cJ iR ?_;refine goG bH TI ?_;refine wdG bH BN03 ?_;refine AR.callP hi TI cJ ?_;refine goG bH hz1 ?_;refine aA [0,1] h3 TI cJ iR ?_;refine goG bH TI ?_;refine wdG bH BN03 ?_;refine aA [0,1] hc @bW cJ iR ?_;refine goG bH TI ?_;refine wdG bH hm1 ?_;refine ALp.cutP 3 [(0,.pt 0 0),(3,.pt 2 0),(4,.fn (.func 148) [] []),(65,.sl (fs.map fdV) .ro),(66,(.im (.int .i64 (fs.length)))),(67,(.im (.int .i64 ((((m+1:Nat)):Int)))))] [.box [.nb 0 206,.sl (byV (bA ((l2++q++txT fs[m])))) (.mine 1)],.tip 5 1 (bA ((l2++q++txT fs[m]))).size,.box [(.im (.int .i64 ((5:Int)))),(.im (.int .i64 (s))),(.im (.int .i64 (c))),.sl (es.map tyV) .ro,.sl (fs.map fdV) .ro]] cJ ?_;exact hn
  ·obtain rfl:m=fs.length:=by omega
   have hlt': ¬(fs.length:Int)<(fs.length:Int):=by omega
   clear hnext;have h2:=Aw ⟨#[125]⟩ (l0++F fs.length) [125] rfl (by simp at hl ⊢;omega)
   refine wG bH hlt' ?_;refine aA [0,1] h2 TI cJ iR ?_;refine goG bH TI ?_;refine wG bH TI ?_;refine aQ (rs:=[]) rfl (by first|exact .inl rfl|exact .inr rfl) (finG bH) ?_ rfl (idG cJ)
   all_goals exact wkG cJ
def iP:=A7 @vR @gH @IT @wS @ID @vH @gF
theorem OJ{t:Ty}(h:frm t=true):txT t≠[]:=by
 obtain⟨o,k,s,c,es,fs⟩:=t
 obtain⟨hb,_⟩:=oW h
 rw[rE]
 rcases lX hb with ⟨hk,h1⟩|⟨hk,hs,h1⟩|⟨rfl,h1⟩|⟨rfl,h0,h1,h2,h3,h4⟩|⟨rfl,h1⟩
 ·rcases hk with rfl|rfl<;>simp
 ·rcases hk with rfl|rfl<;>simp
 ·simp
 ·simp
 ·simp
def prT(t:Ty):Bs:=if good t=true then txT t else []
theorem Zg(t:Ty)(hfit:fit t)(hl:good t=true→(txT t).length≤140737488355328):PC Tryz.prog 81 [tyV t] (.im (.string (bA (prT t)))):=by
 have hgd:=SJ t hfit
 unfold prT
 refine PC.enter 16 Tryz.func81 rfl (by decide) rfl rfl (s:=[(0,tyV t)]) (by rfl) ?_
 simp only[bW t]
 cases hg:good t with
 | false =>
  rw[hg]at hgd;rw[if_neg (by decide)]
  refine wG iP TI ?_;refine AR.callP hgd @bW cJ ?_;refine goG iP TI ?_;refine wG iP TI ?_;refine aG (rs:=[.tmp 2]) rfl (by first|exact .inl rfl|exact .inr rfl) (finG iP) ?_
  skip
  all_goals exact wkG cJ
 | true =>
  rw[hg]at hgd;rw[if_pos rfl];have hfrm:=Nt hg;have hl:=hl hg;have hw:=GH t hfit hfrm [] (by simpa using hl)
  rw[List.nil_append]at hw;have hs:=HO (bA (txT t)) (by rw[pF];intro e;exact OJ hfrm (List.length_eq_zero_iff.1 e))
  refine wG iP TI ?_;refine AR.callP hgd @bW cJ ?_;refine goG iP TI ?_
  repeat (with_reducible first|refine AWp.seq ?_|refine qF ?_|refine Thn.n ?_|refine kN ?_)
  with_reducible apply jW
  case ht=>rfl
  case hc=>rfl
  repeat (with_reducible first|refine AWp.seq ?_|refine qF ?_|refine Thn.n ?_|refine kN ?_)
  refine AWp.region ?_;refine AR.one rfl (by simp only[↓iY,↓reduceIte,SA,SB,SC,SD,iP,oR,fpsG,evO,evB,evA,oF,oS,eqF,eqC,kG,iC,slB,slK,gd,St.ev,eW,ofl,wrl,putE,V.ofVal,V.ofCell,bin2,un1,seg,iV,eT,Value.oneCell',Nat.reduceBEq,Nat.reduceLT,Nat.reduceSub,Nat.reduceAdd,Nat.reduceMul,Nat.reduceLeDiff,Nat.reduceEqDiff,reduceCtorEq,Int.reduceLT,Int.reduceLE,Int.reduceEq,Int.reduceNe,Int.reduceBEq,Int.reduceBNe,Int.reduceAdd,Int.reduceSub,Int.reduceMul,Int.reduceToNat];with_reducible exact rfl) (by simp only[↓iY,↓reduceIte,SA,SB,SC,SD,iP,oR,fpsG,evO,evB,evA,oF,oS,eqF,eqC,kG,iC,slB,slK,gd,St.ev,eW,ofl,wrl,putE,V.ofVal,V.ofCell,bin2,un1,seg,iV,eT,Value.oneCell',Nat.reduceBEq,Nat.reduceLT,Nat.reduceSub,Nat.reduceAdd,Nat.reduceMul,Nat.reduceLeDiff,Nat.reduceEqDiff,reduceCtorEq,Int.reduceLT,Int.reduceLE,Int.reduceEq,Int.reduceNe,Int.reduceBEq,Int.reduceBNe,Int.reduceAdd,Int.reduceSub,Int.reduceMul,Int.reduceToNat];with_reducible exact rfl) (by simp only[↓iY,↓reduceIte,SA,SB,SC,SD,iP,oR,fpsG,evO,evB,evA,oF,oS,eqF,eqC,kG,iC,slB,slK,gd,St.ev,eW,ofl,wrl,putE,V.ofVal,V.ofCell,bin2,un1,seg,iV,eT,Value.oneCell',Nat.reduceBEq,Nat.reduceLT,Nat.reduceSub,Nat.reduceAdd,Nat.reduceMul,Nat.reduceLeDiff,Nat.reduceEqDiff,reduceCtorEq,Int.reduceLT,Int.reduceLE,Int.reduceEq,Int.reduceNe,Int.reduceBEq,Int.reduceBNe,Int.reduceAdd,Int.reduceSub,Int.reduceMul,Int.reduceToNat];with_reducible exact rfl) ?_
  refine NP (by decide) rfl ?_
  refine goG iP TI ?_
  repeat (with_reducible first|refine AWp.seq ?_|refine qF ?_|refine Thn.n ?_|refine kN ?_)
  refine AWp.ghostB 1 1 [.nb 1 206,.sl [] .nl] 5 1 ?_;simp only[List.set_cons_succ,List.set_cons_zero,List.cons_append,List.nil_append,List.length_cons,List.length_nil,Nat.reduceAdd];rw[show byV (bA ([]:Bs))=[]from rfl,show(bA ([]:Bs)).size=0 from rfl]at hw
  refine wG iP TI ?_;refine aA [1,2] hw @bW cJ iR ?_;refine goG iP TI ?_;refine wG iP TI ?_;refine aA [1,2] hs TI cJ iR ?_;refine goG iP TI ?_;refine wG iP TI ?_;refine aG (rs:=[.tmp 2]) rfl (by first|exact .inl rfl|exact .inr rfl) (finG iP) ?_
  skip
  all_goals exact wkG cJ
theorem Fi{P:Program}{f:FuncId}{x:V}{es:List V}{l l':List Ent}{r:V}(h:DC P f [x,.sl es .ro] l r l'):DC P f [x,.sl es .full] l r l' :=
 ⟨h.1,fun C vs hst hC hsz hR=>h.2 C vs hst hC hsz fun i hi=>match i,hi with
  | 0,_=>hR 0 (by simp)
  | 1,_=>Wk.ro _ _ C _ (hR 1 (by simp))⟩
theorem mJ(b x r:Bs)(k:Nat)(hr:b++lnT k x=r)(hlen:r.length≤140737488355328):DC Tryz.prog 36 [.pt 0 0,.sl [.im (.string ⟨(x).toArray⟩)] .full] [.box [.nb 0 PQ,.sl ((b).map byB) (.mine 1),(.im (.int .i64 ((k:Int))))],.tip 5 1 (b).length] (.tu []) [.box [.nb 0 PQ,.sl ((r).map byB) (.mine 1),(.im (.int .i64 ((k:Int))))],.tip 5 1 (r).length]:=by
 subst hr
 exact Fi<|Sg b [x] x (by simp) k (by simp) hlen
theorem vF(b x y z r:Bs)(k:Nat)(hr:b++lnT k (x++(y++z))=r)(hlen:r.length≤140737488355328):DC Tryz.prog 36 [.pt 0 0,.sl [.im (.string ⟨(x).toArray⟩),.im (.string ⟨(y).toArray⟩),.im (.string ⟨(z).toArray⟩)] .full] [.box [.nb 0 PQ,.sl ((b).map byB) (.mine 1),(.im (.int .i64 ((k:Int))))],.tip 5 1 (b).length] (.tu []) [.box [.nb 0 PQ,.sl ((r).map byB) (.mine 1),(.im (.int .i64 ((k:Int))))],.tip 5 1 (r).length]:=by
 subst hr
 exact Fi<|Sg b [x,y,z] (x++(y++z)) (by simp) k (by simp) hlen
def zT:=A7 @iJ @cL @jV @nP @qX @gP @cK
theorem xW(l:List Nd)(k:Nat)(b:Bs)(hl:l.length≤4194304)(hk:k≤4194304)(hlen:(b++lsT l (k+1)).length≤140737488355328)
  (h: ∀t∈l,∀c:Bs,(c++ndT t (k+1)).length≤140737488355328→DC Tryz.prog 153 [.pt 0 0,ndV t] [.box [.nb 0 PQ,.sl ((c).map byB) (.mine 1),(.im (.int .i64 (((k+1:Nat):Int))))],.tip 5 1 (c).length] (.tu []) [.box [.nb 0 PQ,.sl (((c++ndT t (k+1))).map byB) (.mine 1),(.im (.int .i64 (((k+1:Nat):Int))))],.tip 5 1 ((c++ndT t (k+1))).length]) :
  DC Tryz.prog 86 [.pt 0 0,.sl (l.map ndV) .ro] [.box [.nb 0 PQ,.sl ((b).map byB) (.mine 1),(.im (.int .i64 ((k:Int))))],.tip 5 1 (b).length] (.tu []) [.box [.nb 0 PQ,.sl (((b++lsT l (k+1))).map byB) (.mine 1),(.im (.int .i64 ((k:Int))))],.tip 5 1 ((b++lsT l (k+1))).length]:=by
 have hw1:IntKind.i64.wrap ((k:Int)+1)=((k+1:Nat):Int):=by rw[cU (by omega)];omega
 have hw2:IntKind.i64.wrap (((k+1:Nat):Int)-1)=(k:Int):=by rw[cU (by omega)];omega
 obtain⟨Bf,hBf⟩: ∃Bf:Nat→Bs,∀m,Bf m=b++lsT (l.take m) (k+1):=⟨_,fun _=>rfl⟩
 have h0:Bf 0=b:=by rw[hBf];simp[lsT]
 have hend:Bf l.length=b++lsT l (k+1):=by rw[hBf,List.take_length]
 rw[←hend,←h0]
 refine DC.enter 30 Tryz.func86 rfl (by decide) rfl rfl (s:=[(0,.pt 0 0),(1,.sl (l.map ndV) .ro)]) (by rfl) ?_
 refine wG zT hw1 ?_
 refine aV ?_
 refine ALp.cutP 2 [(0,.pt 0 0),(6,.pt 0 0),(13,.sl (l.map ndV) .ro),(14,(.im (.int .i64 (l.length)))),(15,(.im (.int .i64 ((((0:Nat)):Int)))))] [.box [.nb 0 PQ,.sl (((Bf 0)).map byB) (.mine 1),(.im (.int .i64 (((k+1:Nat):Int))))],.tip 5 1 ((Bf 0)).length] (A8 aT aH aI aX @aD @aE bB aB) ?_
 refine ALp.upto l.length (fun _=>True) (fun m=>⟨dn 30 [(0,.pt 0 0),(6,.pt 0 0),(13,.sl (l.map ndV) .ro),(14,(.im (.int .i64 (l.length)))),(15,(.im (.int .i64 ((((m:Nat)):Int)))))],ofl [.box [.nb 0 PQ,.sl (((Bf m)).map byB) (.mine 1),(.im (.int .i64 (((k+1:Nat):Int))))],.tip 5 1 ((Bf m)).length]⟩) ?_ 0 (Nat.zero_le _) trivial
 intro m hm _ hnext
 by_cases hlt:m<l.length
 ·have hlt':(m:Int)<(l.length:Int):=by omega
  have hm1:=aP hlt (by omega)
  have hg:=bE hlt;have hle:=QK (l:=l) (m:=m+1) (k:=k+1)
  have hc:=h l[m] (List.getElem_mem hlt) (b++lsT (l.take m) (k+1)) (by
   rw[List.append_assoc,←Nl hlt,List.length_append];rw[List.length_append]at hlen
   omega)
  rw[List.append_assoc,←Nl hlt,←hBf,←hBf]at hc;refine wG zT (A3 ND hlt' hg) ?_;refine aA [0,1] hc dZ (A8 aT aH aI aX @aD @aE bB aB) (A8 cA bK bM @aR @aS fC cF eO) ?_;refine goG zT TI ?_;refine wG zT hm1 ?_;refine ALp.cutP 2 [(0,.pt 0 0),(6,.pt 0 0),(13,.sl (l.map ndV) .ro),(14,(.im (.int .i64 (l.length)))),(15,(.im (.int .i64 ((((m+1:Nat)):Int)))))] [.box [.nb 0 PQ,.sl (((Bf (m+1))).map byB) (.mine 1),(.im (.int .i64 (((k+1:Nat):Int))))],.tip 5 1 ((Bf (m+1))).length] (A8 aT aH aI aX @aD @aE bB aB) ?_;exact hnext (m+1) (by omega) (by omega) trivial
 obtain rfl:m=l.length:=by omega
 clear hnext h
 refine wG zT (AI @Int.lt_irrefl hw2) ?_
 refine aQ (rs:=[]) rfl (by first|exact .inl rfl|exact .inr rfl) (finG zT) ?_ rfl (idG (A8 aT aH aI aX @aD @aE bB aB))
 all_goals exact wkG (A8 aT aH aI aX @aD @aE bB aB)
def yC:=A16 @mV @iJ @cL @jC @gV @eU @mG @kL @nP @gG @jN @iN @gY @lC @lB (A9 @lA @qX @mU @gP @cK @iI @gU @dG @dD)
theorem MI(t:Nd)(k:Nat)(b:Bs)(hf:fitN t)(hs:stT t=true)(h6:t.kind≠6)(h7:t.kind≠7)(h8:t.kind≠8)(h9:t.kind≠9)(hlen:(b++ndT t k).length≤140737488355328) :
  DC Tryz.prog 153 [.pt 0 0,ndV t] [.box [.nb 0 PQ,.sl ((b).map byB) (.mine 1),(.im (.int .i64 ((k:Int))))],.tip 5 1 (b).length] (.tu []) [.box [.nb 0 PQ,.sl (((b++ndT t k)).map byB) (.mine 1),(.im (.int .i64 ((k:Int))))],.tip 5 1 ((b++ndT t k)).length]:=by
 have he:ndT t k=lnT k (simT t):=by
  obtain⟨o,w,n,e,l,el,cs⟩:=t;rw[jT];unfold ndN;rw[if_neg h6,if_neg h7,if_neg h8,if_neg h9]
 rw[he]at hlen ⊢
 have hl0:=hlen
 unfold lnT at hl0
 simp only[List.length_append]at hl0
 have q:=GO t hf hs ⟨h6,h7,h8,h9⟩ (by omega)
 obtain⟨B,hB⟩: ∃B,B=b++lnT k (simT t):=⟨_,rfl⟩
 rw[←hB]at hlen
 have ql:=mJ b (simT t) B k hB.symm hlen
 rw[←hB]
 generalize simT t=s at q ql
 refine DC.enter 112 Tryz.func153 rfl (by decide) rfl rfl (s:=[(0,.pt 0 0),(1,ndV t)]) (by rfl) ?_
 refine wG yC (A5 ND h6 h7 h8 h9) ?_
 refine AR.callP q dZ (A8 aT aH aI aX @aD @aE bB aB) ?_
 refine goG yC TI ?_
 refine aA [0,1] ql TI (A8 aT aH aI aX @aD @aE bB aB) (A8 cA bK bM @aR @aS fC cF eO) ?_
 refine goG yC TI ?_
 refine wG yC TI ?_
 refine aQ (rs:=[]) rfl (by first|exact .inl rfl|exact .inr rfl) (finG yC) ?_ rfl (idG (A8 aT aH aI aX @aD @aE bB aB))
 all_goals exact wkG (A8 aT aH aI aX @aD @aE bB aB)
def La:=AI @eU @dG
theorem SF(x:Ex)(hx:fitE x):PC Tryz.prog 102 [exV x] (.im (.bool (!esh x 64))):=by
 have h:=Ed x hx 64 (by unfold I64;omega)
 refine PC.enter 6 Tryz.func102 rfl (by decide) rfl rfl (s:=[(0,exV x)]) (by rfl) ?_
 refine wG La EX ?_
 refine AR.callP h @bI (A12 aT aH aI aX @aD @aE bB aB fE dQ @aL @aO) ?_
 refine goG La TI ?_
 refine wG La TI ?_
 exact aC
def qA:=A14 @lT @cL @jC @eC @mG @jN @vO @mD @oA @qX @kB @cK @iI @dD
theorem Sh(f:Fun)(k:Nat)(hk:k≤4194304)(b b1 b2 b3 b4:Bs)(h1:b++lnT k ([102,117,110,99,32]++(f.name.data.toList++[32,123]))=b1)(hl1:b1.length≤140737488355328)
  (hv:DC Tryz.prog 35 [.pt 0 0,.sl (f.vars.map vaV) .ro] [.box [.nb 0 PQ,.sl ((b1).map byB) (.mine 1),(.im (.int .i64 (((k+1:Nat):Int))))],.tip 5 1 (b1).length] (.tu []) [.box [.nb 0 PQ,.sl ((b2).map byB) (.mine 1),(.im (.int .i64 (((k+1:Nat):Int))))],.tip 5 1 (b2).length])
  (hn:DC Tryz.prog 86 [.pt 0 0,.sl (f.body.map ndV) .ro] [.box [.nb 0 PQ,.sl ((b2).map byB) (.mine 1),(.im (.int .i64 ((k:Int))))],.tip 5 1 (b2).length] (.tu []) [.box [.nb 0 PQ,.sl ((b3).map byB) (.mine 1),(.im (.int .i64 ((k:Int))))],.tip 5 1 (b3).length])
  (h4:b3++lnT k [125]=b4) (hl4:b4.length≤140737488355328) :
  DC Tryz.prog 39 [.pt 0 0,fnV f] [.box [.nb 0 PQ,.sl ((b).map byB) (.mine 1),(.im (.int .i64 ((k:Int))))],.tip 5 1 (b).length] (.tu []) [.box [.nb 0 PQ,.sl ((b4).map byB) (.mine 1),(.im (.int .i64 ((k:Int))))],.tip 5 1 (b4).length]:=by
 have hw1:IntKind.i64.wrap ((k:Int)+1)=((k+1:Nat):Int):=by rw[cU (by omega)];omega
 have hw2:IntKind.i64.wrap (((k+1:Nat):Int)-1)=(k:Int):=by rw[cU (by omega)];omega
 have q1:=vF b [102,117,110,99,32] f.name.data.toList [32,123] b1 k h1 hl1
 rw[Sy]at q1
 have q4:=mJ b3 [125] b4 k h4 hl4
 rw[kU]
 refine DC.enter 34 Tryz.func39 rfl (by decide) rfl rfl (s:=[(0,.pt 0 0),(1,.ag [.im (.string f.name),.sl (f.vars.map vaV) .ro,.sl (f.body.map ndV) .ro])]) (by rfl) ?_
 refine wG qA TI ?_
 refine aA [0,1] q1 TI (A12 aT aH aI aX @aD @aE bB aB fE dQ @aL @aO) (A10 cA bK bM @aR @aS fC cF eO @bF @bD) ?_
 refine goG qA TI ?_
 refine wG qA hw1 ?_
 refine aA [0,1] hv TI (A12 aT aH aI aX @aD @aE bB aB fE dQ @aL @aO) (A10 cA bK bM @aR @aS fC cF eO @bF @bD) ?_
 refine goG qA TI ?_
 refine wG qA hw2 ?_
 refine aA [0,1] hn TI (A12 aT aH aI aX @aD @aE bB aB fE dQ @aL @aO) (A10 cA bK bM @aR @aS fC cF eO @bF @bD) ?_
 refine goG qA TI ?_
 refine wG qA TI ?_
 refine aA [0,1] q4 TI (A12 aT aH aI aX @aD @aE bB aB fE dQ @aL @aO) (A10 cA bK bM @aR @aS fC cF eO @bF @bD) ?_
 refine goG qA TI ?_
 refine wG qA TI ?_
 refine aQ (rs:=[]) rfl (by first|exact .inl rfl|exact .inr rfl) (finG qA) ?_ rfl (idG (A12 aT aH aI aX @aD @aE bB aB fE dQ @aL @aO))
 all_goals exact wkG (A12 aT aH aI aX @aD @aE bB aB fE dQ @aL @aO)
end Go.Proofs.YtmbmmckagcdapaaGreatDoor
namespace Go.Proofs.YtmbmmckagcdapaaGreatDoor
def varT(k:Nat)(v:Va):Bs:=lnT k ([118,97,114,32]++(v.name.data.toList++([58,32]++(txT v.ty++[59]))))
def vasT(k:Nat)(l:List Va):Bs:=(l.map (varT k)).flatten
def funT(f:Fun):Bs:=lnT 0 ([102,117,110,99,32]++(f.name.data.toList++[32,123]))++(vasT 1 f.vars++(lsT f.body 1++lnT 0 [125]))
def Lw(v:Va):List Tk:=kwT [118,97,114]::idT v.name.data.toList::opT [58]::(tyK v.ty++[opT [59]])
def vasK(l:List Va):List Tk:=(l.map Lw).flatten
def funK(f:Fun):List Tk:=kwT [102,117,110,99]::idT f.name.data.toList::opT [123]::(vasK f.vars++(lsK f.body++[opT [125]]))
structure VaOk (v:Va):Prop where
 name:nameT v.name=true
 ty:frm v.ty=true
 sh:shal v.ty 64=true
structure FunOk (f:Fun):Prop where
 name:nameT f.name=true
 vars: ∀v∈f.vars,VaOk v
 body: ∀t∈f.body,okT t=true∧exA qE t=true
 dep:dep f.body≤64
structure SecOk (d:Sec):Prop where
 name:nameT d.name=true
 addr:0≤d.addr∧d.addr<4294967296
structure UnOk (u:Un):Prop where
 globals: ∀v∈u.globals,VaOk v
 data: ∀d∈u.data,SecOk d
 funcs: ∀f∈u.funcs,FunOk f
theorem DP(e:Ex)(h:qE e=true):n32 e=true:=(DQ h).1
theorem Tz{α:Type}{g:α→Bs}{k:α→List Tk}: ∀(l:List α),(∀x∈l,∀s r,Sc s r→Sc (g x++s) (k x++r))→ ∀s r,Sc s r→Sc ((l.map g).flatten++s) ((l.map k).flatten++r)
 | [],_,s,r,h=>h
 | x::l,hl,s,r,h=>by
  rw[List.map_cons,List.map_cons,List.flatten_cons,List.flatten_cons,List.append_assoc,List.append_assoc];exact hl x (by simp) _ _ (Tz l (fun y hy=>hl y (by simp[hy])) s r h)
theorem OW{v:Va}(hv:VaOk v)(j:Nat){s:Bs}{r:List Tk}(h:Sc s r):Sc (varT j v++s) (Lw v++r):=by
 unfold varT Lw
 refine Sc.line ?_
 simp only[List.append_assoc,List.cons_append,List.nil_append]
 refine Sc.kw (w:=[118,97,114]) (by decide) rfl (Sc.sp (Sc.name hv.name rfl (Sc.op (by decide) (Sc.sp ?_))))
 exact TK v.ty hv.ty _ _ rfl (Sc.op (by decide) (Sc.nl h))
theorem OV{l:List Va}(hl: ∀v∈l,VaOk v)(j:Nat){s:Bs}{r:List Tk}(h:Sc s r):Sc (vasT j l++s) (vasK l++r):=Tz l (fun v hv s r h=>OW (hl v hv) j h) s r h
theorem OX{f:Fun}(hf:FunOk f){s:Bs}{r:List Tk}(h:Sc s r):Sc (funT f++s) (funK f++r):=by
 unfold funT funK
 simp only[List.append_assoc,List.cons_append,List.nil_append]
 refine Sc.line ?_
 simp only[List.append_assoc,List.cons_append,List.nil_append]
 refine Sc.kw (w:=[102,117,110,99]) (by decide) rfl (Sc.sp (Sc.name hf.name rfl (Sc.sp (Sc.op (by decide) (Sc.nl ?_)))))
 refine OV hf.vars 1 ?_
 refine Cp f.body (fun t ht=>TL t (hf.body t ht).1 (FI DP t (hf.body t ht).2)) 1 _ _ ?_
 exact Sc.line (Sc.op (by decide) (Sc.nl h))
section
variable {ts:List Tk}
theorem PN{v:Va}(hv:VaOk v){a o:Nat}{rest:List Tk}(hd:ts.drop a=Lw v++rest)(ho:o≤192): ∃v',vaV v'=vaV v∧ ∃F,∀f,F≤f→vY ts f a o=some (.ok v' (a+(Lw v).length) o):=by
 unfold Lw at hd ⊢
 simp only[List.append_assoc,List.cons_append,List.nil_append]at hd
 have d1:=cO hd
 have d2:=cO d1
 have d3:=cO d2
 obtain⟨t',⟨F,hF⟩,ht⟩:=TN (ts:=ts) v.ty hv.ty 64 _ o _ hv.sh (by omega) d3
 have d4:=mY d3
 refine⟨⟨v.name,t'⟩,?_,F,fun f hf=> ?_⟩
 ·rw[bW,bW]at ht
  injection ht with ht
  injection ht with h1 ht
  injection ht with h2 ht
  injection ht with h3 ht
  injection ht with h4 ht
  injection ht with h5 ht
  rw[sY,sY];show V.ag [.im (.string v.name),.im (.int .i64 t'.kind),.im (.int .i64 t'.size),.im (.int .i64 t'.count),.sl (t'.elem.map tyV) .ro,.sl (t'.fields.map fdV) .ro]=_
  rw[h1,h2,h3,h4,h5]
 ·unfold vY
  rw[FE hd,cN,Da d1,cN,kV d2,cN,hF f (by omega),cN,kV d4,cN,rH]
  show some _=some _
  congr 2
  simp only[List.length_cons,List.length_append,List.length_nil];omega
theorem DL: ∀(l:List Va),(∀v∈l,VaOk v)→ ∀(acc:List Va) (a o:Nat) (rest:List Tk),ts.drop a=vasK l++rest→sees ts (a+(vasK l).length) [118,97,114]=false→o≤192 →
  ∃l',l'.map vaV=l.map vaV∧ ∃F,∀f,F≤f→vasM ts f acc a o=some (.ok (acc++l') (a+(vasK l).length) o)
 | [],_,acc,a,o,rest,hd,hs,ho=>by
  refine⟨[],rfl,1,fun f hf=> ?_⟩
  cases f with
  | zero=>omega
  | succ f =>
   have hs:sees ts a [118,97,114]=false:=hs;rw[vasM,if_neg (by rw[hs];decide),List.append_nil]
   rfl
 | v::l,hl,acc,a,o,rest,hd,hs,ho=>by
  have e:vasK (v::l)=Lw v++vasK l:=by unfold vasK;rw[List.map_cons,List.flatten_cons]
  rw[e]at hd hs ⊢;rw[List.append_assoc]at hd;rw[List.length_append,←Nat.add_assoc]at hs ⊢;obtain⟨v',hv,F,hF⟩:=PN (hl v (by simp)) hd ho
  obtain⟨l',hl',G,hG⟩:=DL l (fun x hx=>hl x (by simp[hx])) (acc++[v']) _ o rest (mY hd) hs ho
  refine⟨v'::l',by rw[List.map_cons,List.map_cons,hv,hl'],F+G+1,fun f hf=> ?_⟩
  cases f with
  | zero=>omega
  | succ f =>
   have hk:sees ts a [118,97,114]=true:=by
    unfold Lw at hd;rw[List.cons_append]at hd;rw[cS hd];decide
   rw[vasM,if_pos hk,hF f (by omega),cN,hG f (by omega),List.append_assoc]
   rfl
def fnQ(f:Fun):ByteArray×List V×List Nd:=(f.name,f.vars.map vaV,f.body)
theorem UT{f g:Fun}(h:fnQ f=fnQ g):fnV f=fnV g:=by
 unfold fnQ at h
 rw[Prod.mk.injEq,Prod.mk.injEq]at h
 obtain⟨h1,h2,h3⟩:=h
 unfold fnV
 rw[h1,h2,h3]
theorem PO{g:Fun}(hg:FunOk g){a o:Nat}{rest:List Tk}(hd:ts.drop a=funK g++rest)(ho:o=0): ∃g',fnQ g'=fnQ g∧ ∃F,∀f,F≤f→funM ts f a o=some (.ok g' (a+(funK g).length) o):=by
 subst ho
 unfold funK at hd ⊢
 simp only[List.append_assoc,List.cons_append,List.nil_append]at hd
 have d1:=cO hd
 have d2:=cO d1
 have d3:=cO d2
 have d4:=mY d3
 have hb: ∀t∈g.body,RdN ts t∧stT t=true:=fun t ht=>⟨TO t (hg.body t ht).1 (hg.body t ht).2,by
  have:=(hg.body t ht).1;obtain⟨k,w,n,e,l,el,cs⟩:=t;rw[zC,Bool.and_eq_true]at this
  exact this.1⟩
 have hs:=(Ul (fun t ht=>(hb t ht).2) d4).2
 obtain⟨l',hl',F,hF⟩:=DL g.vars hg.vars [] _ 1 _ d3 hs (by omega)
 obtain⟨G,hG⟩:=NX g.body hb [] _ 1 _ d4 (by have:=hg.dep;unfold room;omega)
 have d5:=mY d4
 refine⟨⟨g.name,l',g.body⟩,?_,F+G,fun f hf=> ?_⟩
 ·show(g.name,l'.map vaV,g.body)=(g.name,g.vars.map vaV,g.body)
  rw[hl']
 ·unfold funM
  rw[FE hd,cN,Da d1,cN,rU d2 (by omega),cN,hF f (by omega),cN,hG f (by omega),cN,zO d5,cN,rH]
  show some _=some _
  congr 2
  simp only[List.length_cons,List.length_append,List.length_nil];omega
theorem TQ{g:Fun}(hg:FunOk g)(hd:ts=funK g): ∃g',fnQ g'=fnQ g∧ ∃F,∀f,F≤f→allM ts (funM ts f 0 0)=some (.ok g' ts.length 0):=by
 have h0:ts.drop 0=funK g++[]:=by rw[List.drop_zero,List.append_nil];exact hd
 obtain⟨g',hg',F,hF⟩:=PO hg h0 rfl
 have hlen:0+(funK g).length=ts.length:=by rw[hd,Nat.zero_add]
 rw[hlen]at hF
 refine⟨g',hg',F,fun f hf=> ?_⟩
 unfold allM
 rw[hF f hf,cN,if_neg (Nat.lt_irrefl _)]
 rfl
end
end Go.Proofs.YtmbmmckagcdapaaGreatDoor
namespace Go.Proofs.YtmbmmckagcdapaaGreatDoor
theorem PP{α:Type}{ts:List Tk}{z x:α}{r:Nat→Option (Rs α)}{f0 F b o:Nat}(hm: ∀f,Le (r f) (r (f+1)))(hs:Sm (r f0))(h2: ∀g,F≤g→allM ts (r g)=some (.ok x b o)):rdX ts z (r f0)=(x,0,0):=by
 obtain⟨y,hy⟩:=Sm.all (ts:=ts) hs
 have hy2:=LG (r:=fun f=>allM ts (r f)) (fun f=>Le.rb (hm f) fun _ _ _=>Le.refl _) hy h2
 unfold rdX
 rw[hy,hy2]
theorem KA{s:Bs}{ts0:List Tk}(hsz:s.length≤65536)(h:Sc s ts0):(scnR s).2=0∧(scnR s).1.map core=ts0.map core:=by
 obtain⟨h1,h2⟩:=Sc.scan h
 unfold scnR
 rw[if_neg (by omega),Gr]
 exact⟨by show(if(scan s).2 then(0:Int)else 3)=0;rw[h1];rfl,h2⟩
theorem NQ(g:Nd→Bool): ∀(t:Nd) (lp:Bool),(∀q∈allT t lp,g q.1=true)→Nd.para (fun t a b c=>g t&&(a.all id&&(b.all id&&c.all fun r=>r.all id))) t=true:=by
 refine Nd.induct fun k w n e l el cs h1 h2 h3=> ?_
 intro lp h
 rw[Nd.para_mk]
 simp only[List.all_map,Function.comp_def,id_eq,Bool.and_eq_true,List.all_eq_true]
 rw[Bk]at h
 have hs: ∀c∈subs (.mk k w n e l el cs),∀x∈c,∀q∈allT x (inL (.mk k w n e l el cs) lp),g q.1=true:=fun c hc x hx q hq =>
  h q (List.mem_cons_of_mem _ (List.mem_flatMap.2 ⟨c,hc,List.mem_flatMap.2 ⟨x,hx,hq⟩⟩))
 refine⟨h (_,lp) (List.mem_cons_self ..),fun x hx=>h1 x hx _ (hs l (by simp[subs,Nd.l]) x hx),fun x hx=>h2 x hx _ (hs el (by simp[subs,Nd.el]) x hx),fun c hc x hx=>h3 c hc x hx _ (hs c (by simp[subs,Nd.cs,hc]) x hx)⟩
theorem PX{t:Nd}{lp:Bool}(h: ∀q∈allT t lp,stT q.1=true):okT t=true:=NQ stT t lp h
theorem QZ{t:Nd}{lp:Bool}(p:Ex→Bool)(h: ∀q∈allT t lp,q.1.e.all p=true):exA p t=true:=NQ (fun t=>t.e.all p) t lp h
theorem Rl{f:Fun}(h:FunOk f)(hl:(funT f).length≤65536): ∃g,fnV g=fnV f∧funP (funT f)=(g,0):=by
 have hsc:=OX h Sc.nil
 rw[List.append_nil,List.append_nil]at hsc
 obtain⟨h0,h1⟩:=KA hl hsc
 obtain⟨g,hg,F,hF⟩:=TQ h rfl
 refine⟨g,UT hg,?_⟩
 have e:fnR (scnR (funT f)).1=(g,0,0):=PP (r:=fun f=>funM (scnR (funT _)).1 f 0 0) (Ym _ · _ _) (zJ _ (by unfold fu;omega)) (fun f hf=>by rw[RS h1,RR h1];exact hF f hf)
 unfold funP
 rw[if_neg (by rw[h0];decide),e,if_neg (show ¬((0:Int)≠0) by decide)]
end Go.Proofs.YtmbmmckagcdapaaGreatDoor
namespace Go.Proofs.YtmbmmckagcdapaaGreatDoor
open Go.RowKit
def iF:=A16 @mV @iJ @cL @jC @gV @eU @eC @jV @kL @nP @gG @iN @wU @mE @gY (A10 @lC @lB @lA @mU @gP @cK @iI @gU @dG @dD)
def qC:=A8 @aD @aL @aE @aO aT aH aI aX
def SamL(l:List Nd):Prop:=PC Tryz.prog 53 [.sl (l.map ndV) .ro,.sl (l.map ndV) .ro] (.im (.bool (true)))
theorem GR(l:List Nd)(hl:fitNL l)(h: ∀t∈l,SamL t.l∧SamL t.el∧ ∀c∈t.cs,SamL c):SamL l:=by
 show PC _ _ _ _
 obtain⟨hn,hf⟩:=hl
 refine PC.enter 120 Tryz.func53 rfl (by decide) rfl rfl (s:=[(0,.sl (l.map ndV) .ro),(1,.sl (l.map ndV) .ro)]) (by rfl) ?_
 refine wG iF @List.length_map.{0,0} ?_
 refine aV ?_
 refine ALp.cutP 0 [(0,.sl (l.map ndV) .ro),(1,.sl (l.map ndV) .ro),(5,(.im (.int .i64 ((((0:Nat)):Int)))))] [] qC ?_
 refine ALp.upto l.length (fun _=>True) (fun m=>⟨dn 120 [(0,.sl (l.map ndV) .ro),(1,.sl (l.map ndV) .ro),(5,(.im (.int .i64 ((((m:Nat)):Int)))))],ofl []⟩) ?_ 0 (Nat.zero_le _) trivial
 intro m hm hI hnext
 by_cases hlt:m<l.length
 ·have hlt':(m:Int)<(l.length:Int):=by omega
  have hg:=bE hlt;have hm1:=aP hlt (by omega)
  obtain⟨h1,h2,h3⟩:=h l[m] (List.getElem_mem hlt);unfold SamL at h1 h2;have hf:=dN (hf _ (List.getElem_mem hlt));generalize l[m]=t at hg h1 h2 h3 hf;obtain⟨_,hnm,⟨hel,hex⟩,_,_,hcl,hcx⟩:=hf;refine wG iF (A3 hlt' hg BN05) ?_;refine wdG iF BN05 ?_;refine AR.callP h1 TI qC ?_;refine goG iF BN05 ?_;refine AR.callP h2 TI qC ?_;refine goG iF BN05 ?_;refine wdG iF BN05 ?_;refine aV ?_;refine ALp.cutP 2 [(0,.sl (l.map ndV) .ro),(1,.sl (l.map ndV) .ro),(5,(.im (.int .i64 ((m:Int))))),(6,.pt 0 0),(7,.pt 1 0),(8,(.im (.int .i64 ((((0:Nat)):Int)))))] [.box [.im (.int .i64 (t).kind),.im (.int .i64 (t).width),.im (.string (t).name),.sl ((t).e.map exV) .ro,.sl ((t).l.map ndV) .ro,.sl ((t).el.map ndV) .ro,.sl ((t).cs.map nlV) .ro],.box [.im (.int .i64 (t).kind),.im (.int .i64 (t).width),.im (.string (t).name),.sl ((t).e.map exV) .ro,.sl ((t).l.map ndV) .ro,.sl ((t).el.map ndV) .ro,.sl ((t).cs.map nlV) .ro]] qC ?_;refine ALp.upto t.e.length (fun _=>True) (fun j=>⟨dn 120 [(0,.sl (l.map ndV) .ro),(1,.sl (l.map ndV) .ro),(5,(.im (.int .i64 ((m:Int))))),(6,.pt 0 0),(7,.pt 1 0),(8,(.im (.int .i64 ((((j:Nat)):Int)))))],ofl [.box [.im (.int .i64 (t).kind),.im (.int .i64 (t).width),.im (.string (t).name),.sl ((t).e.map exV) .ro,.sl ((t).l.map ndV) .ro,.sl ((t).el.map ndV) .ro,.sl ((t).cs.map nlV) .ro],.box [.im (.int .i64 (t).kind),.im (.int .i64 (t).width),.im (.string (t).name),.sl ((t).e.map exV) .ro,.sl ((t).l.map ndV) .ro,.sl ((t).el.map ndV) .ro,.sl ((t).cs.map nlV) .ro]]⟩) ?_ 0 (Nat.zero_le _) trivial
  intro j hj hJ hnext2
  by_cases hlj:j<t.e.length
  ·have hlj':(j:Int)<(t.e.length:Int):=by omega
   have hgj:=bE hlj;have hj1:=aP hlj (by omega)
   have hc:=Sq t.e[j] (hex _ (List.getElem_mem hlj)) t.e[j] (hex _ (List.getElem_mem hlj));rw[Xs]at hc;refine wdG iF (A3 hlj' hgj EX) ?_;refine AR.callP hc @bI qC ?_;refine goG iF TI ?_;refine wdG iF hj1 ?_;refine ALp.cutP 2 [(0,.sl (l.map ndV) .ro),(1,.sl (l.map ndV) .ro),(5,(.im (.int .i64 ((m:Int))))),(6,.pt 0 0),(7,.pt 1 0),(8,(.im (.int .i64 ((((j+1:Nat)):Int)))))] [.box [.im (.int .i64 (t).kind),.im (.int .i64 (t).width),.im (.string (t).name),.sl ((t).e.map exV) .ro,.sl ((t).l.map ndV) .ro,.sl ((t).el.map ndV) .ro,.sl ((t).cs.map nlV) .ro],.box [.im (.int .i64 (t).kind),.im (.int .i64 (t).width),.im (.string (t).name),.sl ((t).e.map exV) .ro,.sl ((t).l.map ndV) .ro,.sl ((t).el.map ndV) .ro,.sl ((t).cs.map nlV) .ro]] qC ?_;exact hnext2 (j+1) (by omega) (by omega) trivial
  obtain rfl:j=t.e.length:=by omega
  clear hnext2 hJ;refine whG iF @Int.lt_irrefl ?_;refine Blk'.here (Thn.n ?_);refine wG iF TI ?_;refine aV ?_;refine ALp.cutP 2 [(0,.sl (l.map ndV) .ro),(1,.sl (l.map ndV) .ro),(5,(.im (.int .i64 ((m:Int))))),(6,.pt 0 0),(7,.pt 1 0),(9,(.im (.int .i64 ((((0:Nat)):Int)))))] [.box [.im (.int .i64 (t).kind),.im (.int .i64 (t).width),.im (.string (t).name),.sl ((t).e.map exV) .ro,.sl ((t).l.map ndV) .ro,.sl ((t).el.map ndV) .ro,.sl ((t).cs.map nlV) .ro],.box [.im (.int .i64 (t).kind),.im (.int .i64 (t).width),.im (.string (t).name),.sl ((t).e.map exV) .ro,.sl ((t).l.map ndV) .ro,.sl ((t).el.map ndV) .ro,.sl ((t).cs.map nlV) .ro]] qC ?_;refine ALp.upto t.cs.length (fun _=>True) (fun j=>⟨dn 120 [(0,.sl (l.map ndV) .ro),(1,.sl (l.map ndV) .ro),(5,(.im (.int .i64 ((m:Int))))),(6,.pt 0 0),(7,.pt 1 0),(9,(.im (.int .i64 ((((j:Nat)):Int)))))],ofl [.box [.im (.int .i64 (t).kind),.im (.int .i64 (t).width),.im (.string (t).name),.sl ((t).e.map exV) .ro,.sl ((t).l.map ndV) .ro,.sl ((t).el.map ndV) .ro,.sl ((t).cs.map nlV) .ro],.box [.im (.int .i64 (t).kind),.im (.int .i64 (t).width),.im (.string (t).name),.sl ((t).e.map exV) .ro,.sl ((t).l.map ndV) .ro,.sl ((t).el.map ndV) .ro,.sl ((t).cs.map nlV) .ro]]⟩) ?_ 0 (Nat.zero_le _) trivial
  intro j hj hJ hnext2
  by_cases hlj:j<t.cs.length
  ·have hlj':(j:Int)<(t.cs.length:Int):=by omega
   have hgj:=bE hlj;have hj1:=aP hlj (by omega)
   have hc:=h3 t.cs[j] (List.getElem_mem hlj);unfold SamL at hc;refine wdG iF (A3 hlj' hgj BN05) ?_;refine AR.callP hc TI qC ?_;refine goG iF TI ?_;refine wdG iF hj1 ?_;refine ALp.cutP 2 [(0,.sl (l.map ndV) .ro),(1,.sl (l.map ndV) .ro),(5,(.im (.int .i64 ((m:Int))))),(6,.pt 0 0),(7,.pt 1 0),(9,(.im (.int .i64 ((((j+1:Nat)):Int)))))] [.box [.im (.int .i64 (t).kind),.im (.int .i64 (t).width),.im (.string (t).name),.sl ((t).e.map exV) .ro,.sl ((t).l.map ndV) .ro,.sl ((t).el.map ndV) .ro,.sl ((t).cs.map nlV) .ro],.box [.im (.int .i64 (t).kind),.im (.int .i64 (t).width),.im (.string (t).name),.sl ((t).e.map exV) .ro,.sl ((t).l.map ndV) .ro,.sl ((t).el.map ndV) .ro,.sl ((t).cs.map nlV) .ro]] qC ?_;exact hnext2 (j+1) (by omega) (by omega) trivial
  obtain rfl:j=t.cs.length:=by omega
  clear hnext2 hJ;refine whG iF @Int.lt_irrefl ?_;refine Blk'.here (Blk'.n (Thn.n ?_));refine wG iF hm1 ?_;refine ALp.cutP 0 [(0,.sl (l.map ndV) .ro),(1,.sl (l.map ndV) .ro),(5,(.im (.int .i64 ((((m+1:Nat)):Int)))))] [] qC ?_;exact hnext (m+1) (by omega) (by omega) trivial
 obtain rfl:m=l.length:=by omega
 clear hnext hI
 refine wG iF @Int.lt_irrefl ?_
 exact aC
theorem MK: ∀l,fitNL l→SamL l:=by
 refine Nd.listInduct fun l ih=> ?_
 intro hl
 refine GR l hl fun t ht=> ?_
 have hf:=dN (hl.2 t ht)
 obtain⟨i1,i2,i3⟩:=ih t ht
 exact⟨i1 hf.2.2.2.1,i2 hf.2.2.2.2.1,fun c hc=>i3 c hc (hf.2.2.2.2.2.2 c hc)⟩
def Bn:=A9 @lT @jC @eC @vO @mD @oA @kB @iI @dD
def HY:=A5 tQ lV fM @aL aH
theorem ML(f:Fun)(hf:fitFn f):PC Tryz.prog 20 [fnV f,fnV f] (.im (.bool (true))):=by
 have h1:=GP f.vars hf.vn (Nat.le_trans hf.vl (by decide))
 have h2:=MK f.body hf.bd
 unfold SamL at h2
 rw[kU]
 refine PC.enter 24 Tryz.func20 rfl (by decide) rfl rfl (s:=[(0,.ag [.im (.string f.name),.sl (f.vars.map vaV) .ro,.sl (f.body.map ndV) .ro]),(1,.ag [.im (.string f.name),.sl (f.vars.map vaV) .ro,.sl (f.body.map ndV) .ro])]) (by rfl) ?_
 refine wdG Bn TI ?_
 refine AR.callP h1 TI HY ?_
 refine goG Bn TI ?_
 refine AR.callP h2 TI HY ?_
 refine goG Bn TI ?_
 refine wG Bn TI ?_
 exact aC
end Go.Proofs.YtmbmmckagcdapaaGreatDoor
