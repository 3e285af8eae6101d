import Derived.Test.YtmbmmckagcdapaaGreatDoorU10
import Derived.Test.YtmbmmckagcdapaaGreatDoorU34
import Derived.Test.YtmbmmckagcdapaaGreatDoorU31
import Derived.Test.YtmbmmckagcdapaaGreatDoorU11
import Derived.Test.YtmbmmckagcdapaaGreatDoorU13
import Derived.Test.YtmbmmckagcdapaaGreatDoorU02
import Derived.Test.YtmbmmckagcdapaaGreatDoorU32
import Derived.Test.YtmbmmckagcdapaaGreatDoorU22
import Derived.Test.YtmbmmckagcdapaaGreatDoorU25
import Derived.Test.YtmbmmckagcdapaaGreatDoorU09
set_option linter.all false
namespace Go.Proofs.YtmbmmckagcdapaaGreatDoor
open Go.RowKit
def erN(b:Bool):Int:=if b then 0 else 3
theorem DF:[V.im (.string ⟨#[98,114,101,97,107]⟩),V.im (.string ⟨#[99,97,108,108]⟩),V.im (.string ⟨#[99,97,115,101]⟩),V.im (.string ⟨#[99,111,110,116,105,110,117,101]⟩),V.im (.string ⟨#[100,97,116,97]⟩),V.im (.string ⟨#[101,108,115,101]⟩),V.im (.string ⟨#[101,120,101,99]⟩),V.im (.string ⟨#[102,117,110,99]⟩),V.im (.string ⟨#[103,111,116,111]⟩),V.im (.string ⟨#[104,97,108,116]⟩),V.im (.string ⟨#[105,102]⟩),V.im (.string ⟨#[105,110]⟩),V.im (.string ⟨#[108,111,111,112]⟩),V.im (.string ⟨#[111,117,116]⟩),V.im (.string ⟨#[114,101,116,117,114,110]⟩),V.im (.string ⟨#[115,119,105,116,99,104]⟩),V.im (.string ⟨#[118,97,114]⟩),V.im (.string ⟨#[119,104,105,108,101]⟩),V.im (.string ⟨#[119,114,105,116,101]⟩),V.im (.string ⟨#[108,111,97,100,49]⟩),V.im (.string ⟨#[108,111,97,100,50]⟩),V.im (.string ⟨#[108,111,97,100,52]⟩),V.im (.string ⟨#[115,116,111,114,101,49]⟩),V.im (.string ⟨#[115,116,111,114,101,50]⟩),V.im (.string ⟨#[115,116,111,114,101,52]⟩),V.im (.string ⟨#[115,101,120,116,49]⟩),V.im (.string ⟨#[115,101,120,116,50]⟩)]=kwds.map sV:=rfl
theorem STB:type_of%(A9 @wD @tE @wB @wA @wC @tF @List.getElem?_map.{0,0} @List.length_map.{0,0} @Int.natCast_nonneg) :=
 A9 @wD @tE @wB @wA @wC @tF @List.getElem?_map.{0,0} @List.length_map.{0,0} @Int.natCast_nonneg
def FQ:=A3 @sL @kS @dR
theorem ME:PC Tryz.prog 259 [] (.sl (kwds.map sV) .full):=by
 refine PC.enter 2 Tryz.func259 rfl (by decide) rfl rfl (s:=[]) (by rfl) ?_
 refine wG FQ DF ?_
 exact aM
def uL:=A3 @eF @kS @dR
theorem KD(s:Bs):PC Tryz.prog 223 [.im (.string ⟨(s).toArray⟩)] (.im (.bool (isK s))):=by
 have qk:=ME
 have hlen:kwds.length=27:=rfl
 have hK: ∀m:Nat,kwds[m]? =some s→isK s=true:=fun m h=>rP.2 (List.mem_of_getElem? h)
 have hK2:(∀j,j<kwds.length→kwds[j]? ≠some s)→isK s=false:=fun h=>by
  rw[←Bool.not_eq_true];intro hc;obtain⟨j,hj,e⟩:=List.mem_iff_getElem.1 (rP.1 hc);exact h j hj (by rw[List.getElem?_eq_getElem hj,e])
 generalize kwds=L at qk hlen hK hK2
 refine PC.enter 18 Tryz.func223 rfl (by decide) rfl rfl (s:=[(0,.im (.string ⟨(s).toArray⟩))]) (by rfl) ?_
 refine wG uL TI ?_
 refine AR.callP qk TI (A4 aC aB aF aT) ?_
 refine goG uL TI ?_
 refine wG uL TI ?_
 refine bH ?_
 refine ALp.cutP 0 [(0,.im (.string ⟨(s).toArray⟩)),(3,.sl (L.map sV) .full),(4,(.im (.int .i64 ((((0:Nat)):Int)))))] [] (A4 aC aB aF aT) ?_
 refine ALp.upto L.length (fun m=> ∀j,j<m→L[j]? ≠some s) (fun m=>⟨dn 18 [(0,.im (.string ⟨(s).toArray⟩)),(3,.sl (L.map sV) .full),(4,(.im (.int .i64 ((((m:Nat)):Int)))))],ofl []⟩) ?_ 0 (Nat.zero_le _) (fun j hj=>absurd hj (Nat.not_lt_zero j))
 intro m hm hI hnext
 by_cases hlt:m<L.length
 case neg =>
  have hn: ¬(m:Int)<(L.length:Int):=by omega
  rw[hK2 fun j hj=>hI j (by omega)]
  clear hnext hI hK hK2;refine wG uL (AI STB hn) ?_;exact aM
 have hlt':(m:Int)<(L.length:Int):=by omega
 have hm1:=bD hlt (by omega)
 have hg:L[m]? =some L[m]:=List.getElem?_eq_getElem hlt
 generalize L[m]=w at hg
 by_cases hw:w=s
 ·subst hw
  have hb:(w==w)=true:=beq_self_eq_true _;rw[hK m hg];clear hnext hI hK hK2;refine wG uL (A5 BY STB hlt' hg hb) ?_;exact aM
 ·have hb:(w==s)=false:=beq_eq_false_iff_ne.2 hw
  have hn2:=hnext (m+1) (by omega) (by omega) (fun j hj=>by
   rcases Nat.lt_or_ge j m with h3|h3
   ·exact hI j h3
   ·obtain rfl:j=m:=by omega
    rw[hg];intro e
    exact hw (Option.some.inj e))
  clear hnext hI hK hK2;refine wG uL (A6 BY STB hlt' hg hb hm1) ?_;refine ALp.cutP 0 [(0,.im (.string ⟨(s).toArray⟩)),(3,.sl (L.map sV) .full),(4,(.im (.int .i64 ((((m+1:Nat)):Int)))))] [] (A4 aC aB aF aT) ?_;exact hn2
end Go.Proofs.YtmbmmckagcdapaaGreatDoor
namespace Go.Proofs.YtmbmmckagcdapaaGreatDoor
theorem GL{n:Int}(h:0≤n∧n<4294967296):I64 n:=⟨by omega,by omega⟩
theorem wP{o n:Int}{s:ByteArray}{w:Int}{l:List Ex}(h0:I64 o)(h1:0≤n∧n<4294967296)(h2:I64 w)(h3:l.length≤4194304)(h4:s.size≤9223372036854775807)(h5: ∀t∈l,fitE t):fitE (.mk o n s w l):=by
 have e:fitEB (.mk o n s w l)=_:=Ex.para_mk _ o n s w l
 unfold fitE
 rw[e]
 simp only[Bool.and_eq_true,Ex.op,Ex.n,Ex.width,Ex.name,Ex.l,List.all_map,List.all_eq_true]
 exact⟨⟨⟨decide_eq_true ⟨h0,⟨h1.1,by omega⟩,h2⟩,decide_eq_true h3⟩,decide_eq_true h4⟩,h5⟩
theorem yK{o k s c:Int}{es fs:List Ty}(h0:I64 o∧I64 k∧I64 s∧I64 c)(h1:es.length≤4194304)(h2:fs.length≤4194304)(hE: ∀t∈es,fit t)(hF: ∀t∈fs,fit t):fit (.mk o k s c es fs):=by
 have e:DS (.mk o k s c es fs)=_:=Ty.para_mk _ o k s c es fs
 unfold fit
 rw[e]
 simp only[Bool.and_eq_true,decide_eq_true_eq,Ty.elem,Ty.fields,Ty.off,Ty.kind,Ty.size,Ty.count,List.all_map,List.all_eq_true]
 exact⟨⟨⟨⟨decide_eq_true h0,decide_eq_true h1⟩,decide_eq_true h2⟩,hE⟩,hF⟩
theorem DR{t:Ty}(h:fit t){o:Int}(ho:I64 o):fit (t.at_ o):=by
 cases t
 exact yK ⟨ho,(DQ h).2⟩ (qH h).1 (qH h).2.1 (qH h).2.2.1 (qH h).2.2.2
theorem uG{k w:Int}{n:ByteArray}{e:List Ex}{l el:List Nd}{cs:List (List Nd)}(h0:I64 k∧I64 w)(h1:n.size≤9223372036854775807)(h2:e.length≤4194304)(h3: ∀x∈e,fitE x)(h4:mF l)(h5:mF el)(h6:cs.length≤4194304)(h7: ∀c∈cs,mF c):fitN (.mk k w n e l el cs):=by
 have q:Yr (.mk k w n e l el cs)=_:=Nd.para_mk _ k w n e l el cs
 unfold fitN
 rw[q]
 simp only[Bool.and_eq_true,Nd.kind,Nd.width,Nd.name,Nd.e,Nd.l,Nd.el,Nd.cs,List.all_map,List.all_eq_true]
 refine⟨⟨⟨⟨⟨⟨⟨decide_eq_true h0,decide_eq_true h1⟩,decide_eq_true ⟨h2,h4.1,h5.1,h6⟩⟩,h3⟩,fun c hc=>decide_eq_true (h7 c hc).1⟩,h4.2⟩,h5.2⟩,fun c hc=> ?_⟩
 simp only[Function.comp,List.all_map,List.all_eq_true]
 exact(h7 c hc).2
section
variable {ts:List Tk}
theorem tW(hok: ∀t∈ts,TkOk t)(a:Nat):(strA (pk ts a).text).size≤9223372036854775807:=by
 have:(pk ts a).text.length≤4194304:=by
  by_cases hl:a<ts.length
  ·exact(hok _ (List.mem_of_getElem? (zJ hl))).2
  ·rw[uZ (by omega)];decide
 show(pk ts a).text.toArray.size≤_
 rw[List.size_toArray]
 omega
theorem LC(s:Bs):I64 (opR s).1:=by
 have key: ∀(c:Prop) [Decidable c] (x y:Int×Nat),I64 x.1→I64 y.1→I64 (if c then x else y).1:=fun c _ x y hx hy=>by by_cases h:c<;>simp[h,hx,hy]
 unfold opR
 repeat (refine key _ _ _ (by decide) ?_)
 decide
theorem KV(t:Tk):I64 (stR t).1:=by
 unfold stR
 split
 ·exact LC _
 ·decide
theorem BA{s:Bs}{k w:Int}(h:accW s=some (k,w)):I64 k∧I64 w:=by
 unfold accW at h
 rcases aZ h with ⟨_,h⟩|⟨_,h⟩
 ·cases h;decide
 rcases aZ h with ⟨_,h⟩|⟨_,h⟩
 ·cases h;decide
 rcases aZ h with ⟨_,h⟩|⟨_,h⟩
 ·cases h;decide
 rcases aZ h with ⟨_,h⟩|⟨_,h⟩
 ·cases h;decide
 rcases aZ h with ⟨_,h⟩|⟨_,h⟩
 ·cases h;decide
 ·cases h
theorem Yf{s:Bs}{k w:Int}(h:intR s=some (k,w)):I64 k∧I64 w:=by
 unfold intR at h
 rcases aZ h with ⟨_,h⟩|⟨_,h⟩
 ·cases h;decide
 rcases aZ h with ⟨_,h⟩|⟨_,h⟩
 ·cases h;decide
 rcases aZ h with ⟨_,h⟩|⟨_,h⟩
 ·cases h;decide
 rcases aZ h with ⟨_,h⟩|⟨_,h⟩
 ·cases h;decide
 rcases aZ h with ⟨_,h⟩|⟨_,h⟩
 ·cases h;decide
 rcases aZ h with ⟨_,h⟩|⟨_,h⟩
 ·cases h;decide
 rcases aZ h with ⟨_,h⟩|⟨_,h⟩
 ·cases h;decide
 ·cases h
theorem Ls{o w:Int}{x:Ex}(ho:I64 o)(hw:I64 w)(hx:fitE x):fitE (mkU o w x) :=
 wP ho (by decide) hw (by simp) (by decide) (fun t ht=>by simp at ht;rw[ht];exact hx)
theorem Ah(hok: ∀t∈ts,TkOk t): ∀f,(∀a o x b p,exM ts f .op a o=some (.ok x b p)→fitE x)∧(∀l a o x b p,exM ts f (.ex l) a o=some (.ok x b p)→fitE x)∧(∀l y a o x b p,fitE y→exM ts f (.lo l y) a o=some (.ok x b p)→fitE x):=by
 intro f
 induction f with
 | zero=>exact⟨(fun _ _ _ _ _ h=>by cases h),(fun _ _ _ _ _ _ h=>by cases h),(fun _ _ _ _ _ _ _ _ h=>by cases h)⟩
 | succ f ih =>
  obtain⟨i1,i2,i3⟩:=ih
  have hin: ∀q a o x b p,(∀y,fitE y→fitE (q y))→inn ts (exM ts f (.ex 1)) q a o=some (.ok x b p)→fitE x:=fun q a o x b p hq h=>by
   obtain⟨_,a1,o1,h1,h⟩:=bE h;obtain⟨y,a2,o2,h2,h⟩:=bE h;obtain⟨_,a3,o3,h3,h⟩:=bE h;cases h
   exact hq y (i2 _ _ _ _ _ _ h2)
  refine⟨fun a o x b p h=> ?_,fun l a o x b p h=> ?_,fun l y a o x b p hy h=> ?_⟩
  ·rw[exM]at h
   rcases aZ h with ⟨hk,h⟩|⟨_,h⟩
   ·cases h;exact wP (by decide) (wJ hok a) (by decide) (by simp) (by decide) (by simp)
   rcases aZ h with ⟨hk,h⟩|⟨_,h⟩
   ·cases h;exact wP (by decide) (by decide) (by decide) (by simp) (tW hok a) (by simp)
   rcases aZ h with ⟨hk,h⟩|⟨_,h⟩
   ·cases hw:accW (pk ts a).text with
    | none=>rw[hw]at h;cases h
    | some p=>rw[hw]at h;exact hin _ _ _ _ _ _ (fun y hy=>Ls (BA hw).1 (BA hw).2 hy) h
   rcases aZ h with ⟨hk,h⟩|⟨_,h⟩
   ·rcases aZ h with ⟨_,h⟩|⟨_,h⟩
    ·exact hin _ _ _ _ _ _ (fun y hy=>hy) h
    rcases aZ h with ⟨_,h⟩|⟨_,h⟩
    ·obtain⟨_,a1,o1,h1,h⟩:=bE h
     obtain⟨y,a2,o2,h2,h⟩:=bE h;cases h
     exact Ls (by split<;>decide) (by decide) (i1 _ _ _ _ _ h2)
    ·cases h
   ·cases h
  ·rw[exM]at h
   obtain⟨y,a1,o1,h1,h⟩:=bE h;exact i3 _ _ _ _ _ _ _ (i1 _ _ _ _ _ h1) h
  ·rw[exM]at h
   rcases aZ h with ⟨_,h⟩|⟨_,h⟩
   ·cases h;exact hy
   ·obtain⟨z,a1,o1,h1,h⟩:=bE h
    refine i3 _ _ _ _ _ _ _ (wP (KV _) (by decide) (by decide) (by simp) (by decide) fun t ht=> ?_) h
    simp at ht;rcases ht with rfl|rfl
    ·exact hy
    ·exact i2 _ _ _ _ _ _ h1
theorem CB(hok: ∀t∈ts,TkOk t)(hts:ts.length≤65536): ∀f,(∀a o x b p,tyM ts f .ty a o=some (.ok x b p)→fit x)∧(∀l a o x b p,l.length≤a→a≤ts.length→(∀t∈l,fit t)→tyM ts f (.fl l) a o=some (.ok x b p)→fit x):=by
 intro f
 induction f with
 | zero=>exact⟨(fun _ _ _ _ _ h=>by cases h),(fun _ _ _ _ _ _ _ _ _ h=>by cases h)⟩
 | succ f ih =>
  obtain⟨i1,i2⟩:=ih;refine⟨fun a o x b p h=> ?_,fun l a o x b p hl ha hf h=> ?_⟩
  ·rw[tyM]at h
   rcases aZ h with ⟨hk,h⟩|⟨_,h⟩
   ·cases hw:intR (pk ts a).text with
    | none=>rw[hw]at h;cases h
    | some q =>
     rw[hw]at h;cases h
     exact yK ⟨by decide,(Yf hw).1,(Yf hw).2,by decide⟩ (by simp) (by simp) (by simp) (by simp)
   rcases aZ h with ⟨hk,h⟩|⟨_,h⟩
   ·cases h;exact yK (by decide) (by simp) (by simp) (by simp) (by simp)
   rcases aZ h with ⟨hk,h⟩|⟨_,h⟩
   ·obtain⟨_,a1,o1,h1,h⟩:=bE h
    obtain⟨y,a2,o2,h2,h⟩:=bE h;cases h
    exact yK (by decide) (by simp) (by simp) (fun t ht=>by simp at ht;rw[ht];exact i1 _ _ _ _ _ h2) (by simp)
   rcases aZ h with ⟨hk,h⟩|⟨_,h⟩
   ·obtain⟨_,a1,o1,h1,h⟩:=bE h
    obtain⟨n,a2,o2,h2,h⟩:=bE h;obtain⟨_,a3,o3,h3,h⟩:=bE h;obtain⟨y,a4,o4,h4,h⟩:=bE h;obtain⟨_,rfl,_,_⟩:=hX h2;cases h
    exact yK ⟨by decide,by decide,by decide,GL (wJ hok _)⟩ (by simp) (by simp) (fun t ht=>by simp at ht;rw[ht];exact i1 _ _ _ _ _ h4) (by simp)
   rcases aZ h with ⟨hk,h⟩|⟨_,h⟩
   ·obtain⟨_,a1,o1,h1,h⟩:=bE h
    have e1:=cK h1;have:=bX e1.1;exact i2 _ _ _ _ _ _ (Nat.zero_le _) (by omega) (by simp) h
   ·cases h
  ·rw[tyM]at h
   rcases aZ h with ⟨hk,h⟩|⟨_,h⟩
   ·obtain⟨_,a1,o1,h1,h⟩:=bE h
    cases h
    exact yK (by decide) (by simp) (by omega) (by simp) hf
   ·obtain⟨_,a1,o1,h1,h⟩:=bE h
    obtain⟨n,a2,o2,h2,h⟩:=bE h;obtain⟨_,a3,o3,h3,h⟩:=bE h;obtain⟨y,a4,o4,h4,h⟩:=bE h
    have e0:a≤a1:=by
     rcases aZ h1 with ⟨_,h1⟩|⟨_,h1⟩
     ·have:=cV h1;omega
     ·cases h1;omega
    obtain⟨_,rfl,e2,_⟩:=hX h2;have e3:=cV h3;have e4:=(jP ts f).1 _ _ _ _ _ h4;refine i2 _ _ _ _ _ _ (by simp;omega) (by omega) (fun t ht=> ?_) h
    rcases List.mem_append.1 ht with ht|ht
    ·exact hf t ht
    ·simp at ht;rw[ht];exact DR (i1 _ _ _ _ _ h4) (GL (wJ hok _))
theorem fit0:mF []:=⟨by simp,by simp⟩
theorem EG(l:List Nd)(t:Nd):cnt (l++[t])=cnt l+cntT t:=by unfold cnt;rw[List.map_append,List.sum_append];simp
theorem uH:cnt []=0:=rfl
theorem oP(k w:Int)(n:ByteArray)(e:List Ex):cntT (.mk k w n e [] [] [])=1:=by rw[nS];rfl
theorem mK{k w:Int}{n:ByteArray}{e:List Ex}(hk:I64 k)(hw:I64 w)(hn:n.size≤9223372036854775807)(he:e.length≤4194304)(hx: ∀x∈e,fitE x):fitN (.mk k w n e [] [] []):=uG ⟨hk,hw⟩ hn he hx fit0 fit0 (by simp) (by simp)
theorem CL(hok: ∀t∈ts,TkOk t)(hts:ts.length≤65536): ∀f,(∀a o x b p,stM ts f .st a o=some (.ok x b p)→fitN (theS x)∧cntT (theS x)+a≤b) ∧
  (∀l a o x b p,l.length≤a→(∀t∈l,fitN t)→stM ts f (.li l) a o=some (.ok x b p)→(∀t∈x.headD [],fitN t)∧(x.headD []).length≤b∧cnt (x.headD [])+a≤cnt l+b) ∧
  (∀a o x b p,stM ts f .br a o=some (.ok x b p)→mF (x.headD [])∧cnt (x.headD [])+a+2≤b) ∧
  (∀c a o x b p,c.length≤a→(∀l∈c,mF l)→stM ts f (.ca c) a o=some (.ok x b p)→(∀l∈x,mF l)∧x.length≤b∧(x.map cnt).sum+a≤(c.map cnt).sum+b):=by
 intro f
 induction f with
 | zero=>exact⟨(fun _ _ _ _ _ h=>by cases h),(fun _ _ _ _ _ _ _ _ h=>by cases h),(fun _ _ _ _ _ h=>by cases h),(fun _ _ _ _ _ _ _ _ h=>by cases h)⟩
 | succ f ih =>
  obtain⟨i1,i2,i3,i4⟩:=ih;have ex: ∀l a o x b p,exM ts f (.ex l) a o=some (.ok x b p)→fitE x∧a<b:=fun l a o x b p h=>⟨(Ah hok f).2.1 l a o x b p h,(yM h).1⟩
  have one: ∀ {x:Ex},fitE x→ ∀y∈[x],fitE y:=fun hx y hy=>by simp at hy;rw[hy];exact hx
  have e0: ∀y∈([]:List Ex),fitE y:=by simp
  have z0:(ByteArray.empty).size≤9223372036854775807:=by decide
  refine⟨fun a o x b p h=> ?_,fun l a o x b p hl hf h=> ?_,fun a o x b p h=> ?_,fun c a o x b p hc hf h=> ?_⟩
  ·rw[stM]at h
   have leafN: ∀(k:Int) (a1 o1:Nat),I64 k→a≤a1→(rb (nmM ts a1 o1) fun n a o=>rb (expM ts [59] a o) fun _ a o=>ret (oneS (.mk k 0 n [] [] [] [])) a o)=some (.ok x b p)→fitN (theS x)∧cntT (theS x)+a≤b:=fun k a1 o1 hk ha h=>by
    obtain⟨n,a2,o2,h2,h⟩:=bE h;obtain⟨_,a3,o3,h3,h⟩:=bE h;have q2:=gV h2;have q3:=cV h3;cases h
    refine⟨mK hk (by decide) (by rw[q2.1];exact tW hok _) (by simp) e0,?_⟩
    show cntT (.mk k 0 n [] [] [] [])+a≤_
    rw[oP];omega
   have simp': ∀(k:Int) (a1 o1:Nat),I64 k→a≤a1→pK ts k a1 o1=some (.ok x b p)→fitN (theS x)∧cntT (theS x)+a≤b:=fun k a1 o1 hk ha h=>by
    obtain⟨_,a2,o2,h2,h⟩:=bE h;have q2:=cV h2;cases h
    refine⟨mK hk (by decide) z0 (by simp) e0,?_⟩
    show cntT (.mk k 0 ByteArray.empty [] [] [] [])+a≤_
    rw[oP];omega
   have sto: ∀(w:Int) (a1 o1:Nat),I64 w→a≤a1→storM ts f w a1 o1=some (.ok x b p)→fitN (theS x)∧cntT (theS x)+a≤b:=fun w a1 o1 hw ha h=>by
    obtain⟨_,a2,o2,h2,h⟩:=bE h;obtain⟨y,a3,o3,h3,h⟩:=bE h;obtain⟨_,a4,o4,h4,h⟩:=bE h;obtain⟨z,a5,o5,h5,h⟩:=bE h;obtain⟨_,a6,o6,h6,h⟩:=bE h;obtain⟨_,a7,o7,h7,h⟩:=bE h;have q2:=cK h2;have q3:=ex _ _ _ _ _ _ h3;have q4:=cV h4;have q5:=ex _ _ _ _ _ _ h5;have q6:=mV h6;have q7:=cV h7;cases h
    refine⟨mK (by decide) hw z0 (by simp) fun t ht=> ?_,?_⟩
    ·simp at ht
     rcases ht with rfl|rfl
     ·exact q3.1
     ·exact q5.1
    ·show cntT (.mk 2 w ByteArray.empty [y,z] [] [] [])+a≤_
     rw[oP];omega
   rcases aZ h with ⟨hk,h⟩|⟨_,h⟩
   ·obtain⟨n,a2,o2,h2,h⟩:=bE h
    have q2:=gV h2;have hn:n.size≤9223372036854775807:=by rw[q2.1];exact tW hok _
    rcases aZ h with ⟨hk,h⟩|⟨_,h⟩
    ·cases h
     refine⟨mK (by decide) (by decide) hn (by simp) e0,?_⟩
     show cntT (.mk 13 0 n [] [] [] [])+a≤_
     rw[oP];omega
    obtain⟨_,a3,o3,h3,h⟩:=bE h;have q3:=cV h3;rcases aZ h with ⟨hk,h⟩|⟨_,h⟩
    ·obtain⟨_,a4,o4,h4,h⟩:=bE h
     have q4:=cV h4;cases h
     refine⟨mK (by decide) (by decide) hn (by simp) e0,?_⟩
     show cntT (.mk 3 0 n [] [] [] [])+a≤_
     rw[oP];omega
    obtain⟨y,a4,o4,h4,h⟩:=bE h;obtain⟨_,a5,o5,h5,h⟩:=bE h;have q4:=ex _ _ _ _ _ _ h4;have q5:=cV h5;cases h
    refine⟨mK (by decide) (by decide) hn (by simp) (one q4.1),?_⟩
    show cntT (.mk 1 0 n [y] [] [] [])+a≤_
    rw[oP];omega
   rcases aZ h with ⟨_,h⟩|⟨_,h⟩
   ·exact leafN 12 _ _ (by decide) (by omega) h
   rcases aZ h with ⟨_,h⟩|⟨_,h⟩
   ·exact leafN 5 _ _ (by decide) (by omega) h
   rcases aZ h with ⟨_,h⟩|⟨_,h⟩
   ·exact sto 1 _ _ (by decide) (by omega) h
   rcases aZ h with ⟨_,h⟩|⟨_,h⟩
   ·exact sto 2 _ _ (by decide) (by omega) h
   rcases aZ h with ⟨_,h⟩|⟨_,h⟩
   ·exact sto 4 _ _ (by decide) (by omega) h
   rcases aZ h with ⟨_,h⟩|⟨_,h⟩
   ·obtain⟨y,a2,o2,h2,h⟩:=bE h
    obtain⟨_,a3,o3,h3,h⟩:=bE h;have q2:=ex _ _ _ _ _ _ h2;have q3:=cV h3;cases h
    refine⟨mK (by decide) (by decide) z0 (by simp) (one q2.1),?_⟩
    show cntT (.mk 4 0 ByteArray.empty [y] [] [] [])+a≤_
    rw[oP];omega
   rcases aZ h with ⟨_,h⟩|⟨_,h⟩
   ·obtain⟨y,a2,o2,h2,h⟩:=bE h
    obtain⟨l,a3,o3,h3,h⟩:=bE h;have q2:=ex _ _ _ _ _ _ h2;have q3:=i3 _ _ _ _ _ h3;rcases aZ h with ⟨_,h⟩|⟨_,h⟩
    ·obtain⟨e,a4,o4,h4,h⟩:=bE h
     have q4:=i3 _ _ _ _ _ h4;cases h
     refine⟨uG (by decide) z0 (by simp) (one q2.1) q3.1 q4.1 (by simp) (by simp),?_⟩
     show cntT (.mk 6 0 ByteArray.empty [y] (l.headD []) (e.headD []) [])+a≤_
     rw[nS];show 1+([cnt (l.headD []),cnt (e.headD [])]:List Nat).sum+a≤_
     simp only[List.sum_cons,List.sum_nil];omega
    ·cases h
     refine⟨uG (by decide) z0 (by simp) (one q2.1) q3.1 fit0 (by simp) (by simp),?_⟩
     show cntT (.mk 6 0 ByteArray.empty [y] (l.headD []) [] [])+a≤_
     rw[nS];show 1+([cnt (l.headD []),cnt []]:List Nat).sum+a≤_
     simp only[List.sum_cons,List.sum_nil,uH];omega
   rcases aZ h with ⟨_,h⟩|⟨_,h⟩
   ·obtain⟨y,a2,o2,h2,h⟩:=bE h
    obtain⟨l,a3,o3,h3,h⟩:=bE h;have q2:=ex _ _ _ _ _ _ h2;have q3:=i3 _ _ _ _ _ h3;cases h
    refine⟨uG (by decide) z0 (by simp) (one q2.1) q3.1 fit0 (by simp) (by simp),?_⟩
    show cntT (.mk 7 0 ByteArray.empty [y] (l.headD []) [] [])+a≤_
    rw[nS];show 1+([cnt (l.headD []),cnt []]:List Nat).sum+a≤_
    simp only[List.sum_cons,List.sum_nil,uH];omega
   rcases aZ h with ⟨_,h⟩|⟨_,h⟩
   ·obtain⟨l,a3,o3,h3,h⟩:=bE h
    have q3:=i3 _ _ _ _ _ h3;cases h
    refine⟨uG (by decide) z0 (by simp) e0 q3.1 fit0 (by simp) (by simp),?_⟩
    show cntT (.mk 8 0 ByteArray.empty [] (l.headD []) [] [])+a≤_
    rw[nS];show 1+([cnt (l.headD []),cnt []]:List Nat).sum+a≤_
    simp only[List.sum_cons,List.sum_nil,uH];omega
   rcases aZ h with ⟨_,h⟩|⟨_,h⟩
   ·obtain⟨y,a2,o2,h2,h⟩:=bE h
    obtain⟨_,a3,o3,h3,h⟩:=bE h;obtain⟨c,a4,o4,h4,h⟩:=bE h;have q2:=ex _ _ _ _ _ _ h2;have q3:=cK h3;have q4:=i4 _ _ _ _ _ _ (Nat.zero_le _) (by simp) h4
    have q5:=(fI ts f).2.2.2 _ _ _ _ _ _ h4;cases h
    simp only[List.map_nil,List.sum_nil]at q4;refine⟨uG (by decide) z0 (by simp) (one q2.1) fit0 fit0 (by omega) q4.1,?_⟩
    show cntT (.mk 9 0 ByteArray.empty [y] [] [] c)+a≤_
    rw[nS];show 1+(cnt []::cnt []::c.map cnt).sum+a≤_
    simp only[List.sum_cons,uH];omega
   rcases aZ h with ⟨_,h⟩|⟨_,h⟩
   ·exact simp' 10 _ _ (by decide) (by omega) h
   rcases aZ h with ⟨_,h⟩|⟨_,h⟩
   ·exact simp' 11 _ _ (by decide) (by omega) h
   rcases aZ h with ⟨_,h⟩|⟨_,h⟩
   ·exact simp' 14 _ _ (by decide) (by omega) h
   rcases aZ h with ⟨_,h⟩|⟨_,h⟩
   ·exact simp' 15 _ _ (by decide) (by omega) h
   ·cases h
  ·rw[stM]at h
   rcases aZ h with ⟨_,h⟩|⟨_,h⟩
   ·cases h
    exact⟨hf,hl,by show cnt l+a≤_;omega⟩
   ·obtain⟨s,a1,o1,h1,h⟩:=bE h
    have q1:=i1 _ _ _ _ _ h1;have q2:=(fI ts f).1 _ _ _ _ _ h1
    have q3:=i2 _ _ _ _ _ _ (by simp;omega) (fun t ht=>by
     rcases List.mem_append.1 ht with ht|ht
     ·exact hf t ht
     ·simp at ht;rw[ht];exact q1.1) h
    rw[EG]at q3;exact⟨q3.1,q3.2.1,by omega⟩
  ·rw[stM]at h
   obtain⟨_,a1,o1,h1,h⟩:=bE h;obtain⟨l,a2,o2,h2,h⟩:=bE h;obtain⟨_,a3,o3,h3,h⟩:=bE h;have q1:=cK h1;have q2:=i2 _ _ _ _ _ _ (Nat.zero_le _) (by simp) h2
   have q4:=(fI ts f).2.1 _ _ _ _ _ _ h2;have q3:=mV h3;cases h
   rw[uH]at q2;exact⟨⟨by omega,q2.1⟩,by omega⟩
  ·rw[stM]at h
   rcases aZ h with ⟨_,h⟩|⟨_,h⟩
   ·rcases aZ h with ⟨_,h⟩|⟨_,h⟩
    ·obtain⟨l,a1,o1,h1,h⟩:=bE h
     have q1:=i3 _ _ _ _ _ h1
     have q3:=i4 _ _ _ _ _ _ (by simp;omega) (fun t ht=>by
      rcases List.mem_append.1 ht with ht|ht
      ·exact hf t ht
      ·rw[List.mem_singleton.1 ht];exact q1.1) h
     rw[List.map_append,List.sum_append]at q3;simp only[List.map_cons,List.map_nil,List.sum_cons,List.sum_nil]at q3;exact⟨q3.1,q3.2.1,by omega⟩
    ·cases h
   ·obtain⟨_,a1,o1,h1,h⟩:=bE h
    have q1:=mV h1;cases h
    exact⟨hf,by omega,by omega⟩
theorem Jp(hok: ∀t∈ts,TkOk t)(hts:ts.length≤65536){f a o:Nat}{v:Va}{b p:Nat}(h:varM ts f a o=some (.ok v b p)):fit v.ty∧v.name.size≤9223372036854775807:=by
 obtain⟨_,a1,o1,h1,h⟩:=bE h
 obtain⟨n,a2,o2,h2,h⟩:=bE h
 obtain⟨_,a3,o3,h3,h⟩:=bE h
 obtain⟨t,a4,o4,h4,h⟩:=bE h
 obtain⟨_,a5,o5,h5,h⟩:=bE h
 have e2:=gV h2
 cases h
 exact⟨(CB hok hts f).1 _ _ _ _ _ h4,by show n.size≤_;rw[e2.1];exact tW hok _⟩
theorem Vw(hok: ∀t∈ts,TkOk t)(hts:ts.length≤65536): ∀(f:Nat) {l:List Va} {a o:Nat} {v:List Va} {b p:Nat},l.length≤a→Cm l→vasM ts f l a o=some (.ok v b p)→Cm v∧v.length≤b:=by
 intro f
 induction f with
 | zero=>intro l a o v b p _ _ h;cases h
 | succ f ih =>
  intro l a o v b p hl hf h;rw[vasM]at h;rcases aZ h with ⟨hk,h⟩|⟨hk,h⟩
  ·obtain⟨x,a1,o1,h1,h⟩:=bE h
   have e1:=lF h1;refine ih (by simp;omega) (fun y hy=> ?_) h
   rcases List.mem_append.1 hy with hy|hy
   ·exact hf y hy
   ·simp at hy;rw[hy];exact Jp hok hts h1
  ·cases h;exact⟨hf,hl⟩
theorem Lm(hok: ∀t∈ts,TkOk t)(hts:ts.length≤65536){f a o:Nat}{v:Fun}{b p:Nat}(h:funM ts f a o=some (.ok v b p)):fitFn v:=by
 obtain⟨_,a1,o1,h1,h⟩:=bE h
 obtain⟨n,a2,o2,h2,h⟩:=bE h
 obtain⟨_,a3,o3,h3,h⟩:=bE h
 obtain⟨l,a4,o4,h4,h⟩:=bE h
 obtain⟨s,a5,o5,h5,h⟩:=bE h
 obtain⟨_,a6,o6,h6,h⟩:=bE h
 have e2:=gV h2
 have e4:=Vw hok hts f (Nat.zero_le _) (by intro y hy;cases hy) h4
 have e5:=(CL hok hts f).2.1 _ _ _ _ _ _ (Nat.zero_le _) (by simp) h5
 have e6:=(fI ts f).2.1 _ _ _ _ _ _ h5
 rw[uH]at e5
 cases h
 exact⟨by show l.length≤_;omega,e4.1,⟨by show(s.headD []).length≤_;omega,e5.1⟩,by show cnt (s.headD [])≤_;omega,by show n.size≤_;rw[e2.1];exact tW hok _⟩
theorem Zk(hok: ∀t∈ts,TkOk t){a o:Nat}{v:Sec}{b p:Nat}(h:Pf ts a o=some (.ok v b p)):v.name.size≤9223372036854775807:=by
 obtain⟨_,a1,o1,h1,h⟩:=bE h
 obtain⟨n,a2,o2,h2,h⟩:=bE h
 obtain⟨_,a3,o3,h3,h⟩:=bE h
 obtain⟨_,a4,o4,h4,h⟩:=bE h
 obtain⟨_,a5,o5,h5,h⟩:=bE h
 obtain⟨_,a6,o6,h6,h⟩:=bE h
 obtain⟨_,a7,o7,h7,h⟩:=bE h
 obtain⟨_,a8,o8,h8,h⟩:=bE h
 have e2:=gV h2
 cases h
 show n.size≤_
 rw[e2.1]
 exact tW hok _
theorem Vy(hok: ∀t∈ts,TkOk t)(hts:ts.length≤65536): ∀(f:Nat) {u:Un} {a o:Nat} {v:Un} {b p:Nat},a≤ts.length→u.globals.length≤a→u.data.length≤a→u.funcs.length≤a→fitU u→uniM ts f u a o=some (.ok v b p)→fitU v:=by
 intro f
 induction f with
 | zero=>intro u a o v b p _ _ _ _ _ h;cases h
 | succ f ih =>
  intro u a o v b p ha hg hd hn hf h;rw[uniM]at h;rcases aZ h with ⟨hk,h⟩|⟨hk,h⟩
  ·cases h;exact hf
  rcases aZ h with ⟨hk,h⟩|⟨hk,h⟩
  ·obtain⟨x,a1,o1,h1,h⟩:=bE h
   have e1:=lF h1;refine ih (u:=⟨u.globals++[x],u.data,u.funcs⟩) (a:=a1) (by omega) (by simp;omega) (by show u.data.length≤a1;omega) (by show u.funcs.length≤a1;omega) ⟨by simp;omega,fun y hy=> ?_,hf.dl,hf.dn,hf.fl,hf.fn⟩ h
   rcases List.mem_append.1 hy with hy|hy
   ·exact hf.gn y hy
   ·simp at hy;rw[hy];exact Jp hok hts h1
  rcases aZ h with ⟨hk,h⟩|⟨hk,h⟩
  ·obtain⟨x,a1,o1,h1,h⟩:=bE h
   have e1:=wT h1;refine ih (u:=⟨u.globals,u.data++[x],u.funcs⟩) (a:=a1) (by omega) (by show u.globals.length≤a1;omega) (by simp;omega) (by show u.funcs.length≤a1;omega) ⟨hf.gl,hf.gn,by simp;omega,fun y hy=> ?_,hf.fl,hf.fn⟩ h
   rcases List.mem_append.1 hy with hy|hy
   ·exact hf.dn y hy
   ·simp at hy;rw[hy];exact Zk hok h1
  rcases aZ h with ⟨hk,h⟩|⟨hk,h⟩
  ·obtain⟨x,a1,o1,h1,h⟩:=bE h
   have e1:=uC h1;refine ih (u:=⟨u.globals,u.data,u.funcs++[x]⟩) (a:=a1) (by omega) (by show u.globals.length≤a1;omega) (by show u.data.length≤a1;omega) (by simp;omega) ⟨hf.gl,hf.gn,hf.dl,hf.dn,by simp;omega,fun y hy=> ?_⟩ h
   rcases List.mem_append.1 hy with hy|hy
   ·exact hf.fn y hy
   ·simp at hy;rw[hy];exact Lm hok hts h1
  ·cases h
theorem Ej(hok: ∀t∈ts,TkOk t)(hts:ts.length≤65536){f:Nat}{v:Un}{b p:Nat}(h:uniM ts f ⟨[],[],[]⟩ 0 0=some (.ok v b p)):fitU v :=
 Vy hok hts f (Nat.zero_le _) (Nat.le_refl _) (Nat.le_refl _) (Nat.le_refl _) ⟨by simp,(by intro y hy;cases hy),by simp,(by intro y hy;cases hy),by simp,by simp⟩ h
def Er{α:Type}(n:Nat)(r:Option (Rs α)):Prop:= ∀b e,r=some (.bad b e)→(e=3∨e=20)∧b≤n
theorem Er.rb{α β:Type}{n:Nat}{r:Option (Rs α)}{k:α→Nat→Nat→Option (Rs β)}(h:Er n r)(hk: ∀x a o,r=some (.ok x a o)→Er n (k x a o)):Er n (rb r k):=fun b e q=>by
 rcases HV q with q|⟨x,a,o,h1,q⟩
 ·exact h b e q
 ·exact hk x a o h1 b e q
theorem Er.ite{α:Type}{n:Nat}{c:Prop}[Decidable c]{x y:Option (Rs α)}(hx:c→Er n x)(hy: ¬c→Er n y):Er n (if c then x else y):=by
 by_cases h:c
 ·rw[if_pos h];exact hx h
 ·rw[if_neg h];exact hy h
theorem Er.ret{α:Type}{n:Nat}(x:α)(a o:Nat):Er n (ret x a o):=fun b e q=>by cases q
theorem sO{α:Type}{n a:Nat}(h:a≤n):Er (α:=α) n (some (.bad a 3)):=fun b e q=>by cases q;exact⟨.inl rfl,h⟩
theorem Er.beg{n:Nat}(s:Bs){a:Nat}(o:Nat)(h:a≤n):Er n (begM ts s a o):=fun b e q=>by
 unfold begM at q
 rcases aZ (Option.some.inj q)with ⟨_,q⟩|⟨_,q⟩
 ·cases q;exact⟨.inl rfl,h⟩
 rcases aZ q with ⟨_,q⟩|⟨_,q⟩
 ·cases q;exact⟨.inr rfl,h⟩
 ·cases q
theorem Er.exp{n:Nat}(s:Bs){a:Nat}(o:Nat)(h:a≤n):Er n (expM ts s a o):=fun b e q=>by
 unfold expM at q
 rcases aZ (Option.some.inj q)with ⟨_,q⟩|⟨_,q⟩
 ·cases q;exact⟨.inl rfl,h⟩
 ·cases q
theorem Er.en{n:Nat}(s:Bs){a:Nat}(o:Nat)(h:a≤n):Er n (endM ts s a o):=fun b e q=>by
 unfold endM at q
 rcases aZ (Option.some.inj q)with ⟨_,q⟩|⟨_,q⟩
 ·cases q;exact⟨.inl rfl,h⟩
 ·cases q
theorem Er.tak{n:Nat}(k:Int){a:Nat}(o:Nat)(h:a≤n):Er n (takM ts k a o):=fun b e q=>by
 unfold takM at q
 rcases aZ (Option.some.inj q)with ⟨_,q⟩|⟨_,q⟩
 ·cases q;exact⟨.inl rfl,h⟩
 ·cases q
theorem Er.nm{n:Nat}{a:Nat}(o:Nat)(h:a≤n):Er n (nmM ts a o):=Er.rb (Er.tak _ _ h) fun _ _ _ _=>Er.ret _ _ _
theorem Hu: ∀f,(∀a o x b p,exM ts f .op a o=some (.ok x b p)→b≤ts.length)∧(∀l a o x b p,exM ts f (.ex l) a o=some (.ok x b p)→b≤ts.length)∧(∀l y a o x b p,a≤ts.length→exM ts f (.lo l y) a o=some (.ok x b p)→b≤ts.length):=by
 intro f
 induction f with
 | zero=>exact⟨(fun _ _ _ _ _ h=>by cases h),(fun _ _ _ _ _ _ h=>by cases h),(fun _ _ _ _ _ _ _ _ h=>by cases h)⟩
 | succ f ih =>
  obtain⟨i1,i2,i3⟩:=ih
  have hin: ∀q a o x b p,inn ts (exM ts f (.ex 1)) q a o=some (.ok x b p)→b≤ts.length:=fun q a o x b p h=>by
   obtain⟨_,a1,o1,h1,h⟩:=bE h;obtain⟨y,a2,o2,h2,h⟩:=bE h;obtain⟨_,a3,o3,h3,h⟩:=bE h;have e3:=tN h3;cases h
   omega
  refine⟨fun a o x b p h=> ?_,fun l a o x b p h=> ?_,fun l y a o x b p ha h=> ?_⟩
  ·rw[exM]at h
   rcases aZ h with ⟨hk,h⟩|⟨_,h⟩
   ·have:=dQ hk (by decide)
    cases h;omega
   rcases aZ h with ⟨hk,h⟩|⟨_,h⟩
   ·have:=dQ hk (by decide)
    cases h;omega
   rcases aZ h with ⟨hk,h⟩|⟨_,h⟩
   ·cases hw:accW (pk ts a).text with
    | none=>rw[hw]at h;cases h
    | some p=>rw[hw]at h;exact hin _ _ _ _ _ _ h
   rcases aZ h with ⟨hk,h⟩|⟨_,h⟩
   ·rcases aZ h with ⟨_,h⟩|⟨_,h⟩
    ·exact hin _ _ _ _ _ _ h
    rcases aZ h with ⟨_,h⟩|⟨_,h⟩
    ·obtain⟨_,a1,o1,h1,h⟩:=bE h
     obtain⟨y,a2,o2,h2,h⟩:=bE h;have:=i1 _ _ _ _ _ h2;cases h
     exact this
    ·cases h
   ·cases h
  ·rw[exM]at h
   obtain⟨y,a1,o1,h1,h⟩:=bE h;exact i3 _ _ _ _ _ _ _ (i1 _ _ _ _ _ h1) h
  ·rw[exM]at h
   rcases aZ h with ⟨_,h⟩|⟨_,h⟩
   ·cases h;exact ha
   ·obtain⟨z,a1,o1,h1,h⟩:=bE h
    exact i3 _ _ _ _ _ _ _ (i2 _ _ _ _ _ _ h1) h
theorem Yv: ∀f,(∀a o,a≤ts.length→Er ts.length (exM ts f .op a o))∧(∀l a o,a≤ts.length→Er ts.length (exM ts f (.ex l) a o))∧(∀l x a o,a≤ts.length→Er ts.length (exM ts f (.lo l x) a o)):=by
 intro f
 induction f with
 | zero=>exact⟨(fun _ _ _ _ _ h=>by cases h),(fun _ _ _ _ _ _ h=>by cases h),(fun _ _ _ _ _ _ _ h=>by cases h)⟩
 | succ f ih =>
  obtain⟨i1,i2,i3⟩:=ih;obtain⟨l1,l2,l3⟩:=Hu (ts:=ts) f
  have hin: ∀q a o,a≤ts.length→Er ts.length (inn ts (exM ts f (.ex 1)) q a o):=fun q a o ha=>by
   refine Er.rb (Er.beg _ _ ha) fun _ a1 o1 h1=>Er.rb ?_ fun _ a2 o2 h2=>Er.rb (Er.en _ _ (l2 _ _ _ _ _ _ h2)) fun _ _ _ _=>Er.ret _ _ _
   have e1:=cK h1;have:=bX e1.1;exact i2 _ _ _ (by omega)
  refine⟨fun a o ha=> ?_,fun l a o ha=> ?_,fun l x a o ha=> ?_⟩
  ·rw[exM]
   refine Er.ite (fun _=>Er.ret _ _ _) fun _=>Er.ite (fun _=>Er.ret _ _ _) fun _=>Er.ite (fun hk=> ?_) fun _=>Er.ite (fun hk=> ?_) fun _=>sO ha
   ·have hl:=dQ hk (by decide)
    cases accW (pk ts a).text with
    | none=>exact sO ha
    | some p=>exact hin _ _ _ (by omega)
   ·refine Er.ite (fun _=>hin _ _ _ ha) fun _=>Er.ite (fun _=> ?_) fun _=>sO ha
    refine Er.rb (Er.beg _ _ ha) fun _ a1 o1 h1=>Er.rb ?_ fun _ _ _ _=>Er.ret _ _ _
    have e1:=cK h1;have:=bX e1.1;exact i1 _ _ (by omega)
  ·rw[exM]
   exact Er.rb (i1 _ _ ha) fun x b p h1=>i3 _ _ _ _ (l1 _ _ _ _ _ h1)
  ·rw[exM]
   refine Er.ite (fun _=>Er.ret _ _ _) fun hk=> ?_
   have hl:=Oe (ts:=ts) (a:=a) (fun e=>hk (.inl e))
   exact Er.rb (i2 _ _ _ (by omega)) fun y b p h1=>i3 _ _ _ _ (l2 _ _ _ _ _ _ h1)
theorem GT: ∀f,(∀a o,a≤ts.length→Er ts.length (tyM ts f .ty a o))∧(∀l a o,a≤ts.length→Er ts.length (tyM ts f (.fl l) a o)):=by
 intro f
 induction f with
 | zero=>exact⟨(fun _ _ _ _ _ h=>by cases h),(fun _ _ _ _ _ _ h=>by cases h)⟩
 | succ f ih =>
  obtain⟨i1,i2⟩:=ih;obtain⟨l1,l2⟩:=jP ts f;refine⟨fun a o ha=> ?_,fun l a o ha=> ?_⟩
  ·rw[tyM]
   refine Er.ite (fun _=> ?_) fun _=>Er.ite (fun _=>Er.ret _ _ _) fun _=>Er.ite (fun hk=> ?_) fun _=>Er.ite (fun hk=> ?_) fun _=>Er.ite (fun hk=> ?_) fun _=>sO ha
   ·cases intR (pk ts a).text with
    | none=>exact sO ha
    | some p=>exact Er.ret _ _ _
   ·have hl:=bX hk
    refine Er.rb (Er.beg _ _ ha) fun _ a1 o1 h1=>Er.rb (i1 _ _ ?_) fun _ _ _ _=>Er.ret _ _ _
    have:=cK h1;omega
   ·have hl:=bX hk
    refine Er.rb (Er.beg _ _ ha) fun _ a1 o1 h1=> ?_
    have e1:=cK h1;refine Er.rb (Er.tak _ _ (by omega)) fun _ a2 o2 h2=> ?_
    have e2:=hX h2;have e4:=dQ e2.1 (by decide)
    refine Er.rb (Er.exp _ _ (by omega)) fun _ a3 o3 h3=> ?_
    have e3:=fP h3;exact Er.rb (i1 _ _ (by omega)) fun _ _ _ _=>Er.ret _ _ _
   ·have hl:=bX hk
    refine Er.rb (Er.beg _ _ ha) fun _ a1 o1 h1=>i2 _ _ _ ?_
    have:=cK h1;omega
  ·rw[tyM]
   refine Er.ite (fun _=>Er.rb (Er.en _ _ ha) fun _ _ _ _=>Er.ret _ _ _) fun _=>Er.rb (Er.ite (fun _=>Er.exp _ _ ha) fun _=>Er.ret _ _ _) fun _ a1 o1 h1=> ?_
   have e1:a1≤ts.length:=by
    rcases aZ h1 with ⟨_,h1⟩|⟨_,h1⟩
    ·have:=fP h1;omega
    ·cases h1;exact ha
   refine Er.rb (Er.tak _ _ e1) fun _ a2 o2 h2=> ?_
   have e2:=hX h2;have e4:=dQ e2.1 (by decide)
   refine Er.rb (Er.exp _ _ (by omega)) fun _ a3 o3 h3=> ?_
   have e3:=fP h3;exact Er.rb (i1 _ _ (by omega)) fun _ a5 o5 h5=>i2 _ _ _ (l1 _ _ _ _ _ h5).2.2
theorem HG: ∀f,(∀a o,a≤ts.length→Er ts.length (stM ts f .st a o))∧(∀l a o,a≤ts.length→Er ts.length (stM ts f (.li l) a o))∧(∀a o,a≤ts.length→Er ts.length (stM ts f .br a o))∧(∀c a o,a≤ts.length→Er ts.length (stM ts f (.ca c) a o)):=by
 intro f
 induction f with
 | zero=>exact⟨(fun _ _ _ _ _ h=>by cases h),(fun _ _ _ _ _ _ h=>by cases h),(fun _ _ _ _ _ h=>by cases h),(fun _ _ _ _ _ _ h=>by cases h)⟩
 | succ f ih =>
  obtain⟨i1,i2,i3,i4⟩:=ih;obtain⟨l1,l2,l3,l4⟩:=fI ts f;have ex: ∀l a o,a≤ts.length→Er ts.length (exM ts f (.ex l) a o):=(Yv f).2.1
  have exl: ∀ {l a o x b p},exM ts f (.ex l) a o=some (.ok x b p)→b≤ts.length:=fun h=>(Hu f).2.1 _ _ _ _ _ _ h
  refine⟨fun a o ha=> ?_,fun l a o ha=> ?_,fun a o ha=> ?_,fun c a o ha=> ?_⟩
  ·rw[stM]
   have sim: ∀k a o,a≤ts.length→Er ts.length (pK ts k a o):=fun k a o ha=>Er.rb (Er.exp _ _ ha) fun _ _ _ _=>Er.ret _ _ _
   have sto: ∀w a o,a≤ts.length→Er ts.length (storM ts f w a o):=fun w a o ha=>by
    refine Er.rb (Er.beg _ _ ha) fun _ a1 o1 h1=> ?_
    have e1:=cK h1;have:=bX e1.1;refine Er.rb (ex _ _ _ (by omega)) fun _ a2 o2 h2=>Er.rb (Er.exp _ _ (exl h2)) fun _ a3 o3 h3=> ?_
    have e3:=fP h3;refine Er.rb (ex _ _ _ (by omega)) fun _ a4 o4 h4=>Er.rb (Er.en _ _ (exl h4)) fun _ a5 o5 h5=> ?_
    have e5:=tN h5;exact Er.rb (Er.exp _ _ (by omega)) fun _ _ _ _=>Er.ret _ _ _
   have nam: ∀k a o,a≤ts.length→Er ts.length (rb (nmM ts a o) fun n a o=>rb (expM ts [59] a o) fun _ a o=>ret (oneS (.mk k 0 n [] [] [] [])) a o):=fun k a o ha=>by
    refine Er.rb (Er.nm _ ha) fun _ a1 o1 h1=> ?_
    have e1:=gV h1;exact Er.rb (Er.exp _ _ (by omega)) fun _ _ _ _=>Er.ret _ _ _
   refine Er.ite (fun hk=> ?_) fun _=>Er.ite (fun hk=>nam _ _ _ (by have:=bX hk;omega)) fun _=>Er.ite (fun hk=>nam _ _ _ (by have:=bX hk;omega)) fun _ =>
    Er.ite (fun hk=>sto _ _ _ (by have:=bX hk;omega)) fun _=>Er.ite (fun hk=>sto _ _ _ (by have:=bX hk;omega)) fun _=>Er.ite (fun hk=>sto _ _ _ (by have:=bX hk;omega)) fun _=>Er.ite (fun hk=> ?_) fun _=>Er.ite (fun hk=> ?_) fun _=>Er.ite (fun hk=> ?_) fun _=>Er.ite (fun hk=> ?_) fun _=>Er.ite (fun hk=> ?_) fun _ =>
    Er.ite (fun hk=>sim _ _ _ (by have:=bX hk;omega)) fun _=>Er.ite (fun hk=>sim _ _ _ (by have:=bX hk;omega)) fun _=>Er.ite (fun hk=>sim _ _ _ (by have:=bX hk;omega)) fun _=>Er.ite (fun hk=>sim _ _ _ (by have:=bX hk;omega)) fun _=>sO ha
   ·have hl:=dQ hk (by decide)
    refine Er.rb (Er.nm _ ha) fun _ a1 o1 h1=> ?_
    have e1:=gV h1;refine Er.ite (fun _=>Er.ret _ _ _) fun _=>Er.rb (Er.exp _ _ (by omega)) fun _ a2 o2 h2=> ?_
    have e2:=fP h2;refine Er.ite (fun hk=>Er.rb (Er.exp _ _ (by have:=bX hk;omega)) fun _ _ _ _=>Er.ret _ _ _) fun _=> ?_
    exact Er.rb (ex _ _ _ (by omega)) fun _ _ _ h3=>Er.rb (Er.exp _ _ (exl h3)) fun _ _ _ _=>Er.ret _ _ _
   ·have hl:=bX hk
    exact Er.rb (ex _ _ _ (by omega)) fun _ _ _ h3=>Er.rb (Er.exp _ _ (exl h3)) fun _ _ _ _=>Er.ret _ _ _
   ·have hl:=bX hk
    refine Er.rb (ex _ _ _ (by omega)) fun _ a1 o1 h1=>Er.rb (i3 _ _ (exl h1)) fun _ a2 o2 h2=>Er.ite (fun hk=> ?_) fun _=>Er.ret _ _ _
    have:=bX hk;exact Er.rb (i3 _ _ (by omega)) fun _ _ _ _=>Er.ret _ _ _
   ·have hl:=bX hk
    exact Er.rb (ex _ _ _ (by omega)) fun _ a1 o1 h1=>Er.rb (i3 _ _ (exl h1)) fun _ a2 o2 h2=>Er.ret _ _ _
   ·have hl:=bX hk
    exact Er.rb (i3 _ _ (by omega)) fun _ a2 o2 h2=>Er.ret _ _ _
   ·have hl:=bX hk
    refine Er.rb (ex _ _ _ (by omega)) fun _ a1 o1 h1=>Er.rb (Er.beg _ _ (exl h1)) fun _ a2 o2 h2=> ?_
    have e2:=cK h2;have:=bX e2.1;exact Er.rb (i4 _ _ _ (by omega)) fun _ _ _ _=>Er.ret _ _ _
  ·rw[stM]
   exact Er.ite (fun _=>Er.ret _ _ _) fun _=>Er.rb (i1 _ _ ha) fun _ a1 o1 h1=>i2 _ _ _ (l1 _ _ _ _ _ h1).2.2
  ·rw[stM]
   refine Er.rb (Er.beg _ _ ha) fun _ a1 o1 h1=> ?_
   have e1:=cK h1;have:=bX e1.1;refine Er.rb (i2 _ _ _ (by omega)) fun _ a2 o2 h2=> ?_
   have e2:=l2 _ _ _ _ _ _ h2;exact Er.rb (Er.en _ _ (by omega)) fun _ _ _ _=>Er.ret _ _ _
  ·rw[stM]
   refine Er.ite (fun hk=>Er.ite (fun hn=> ?_) fun _=>sO (by have:=bX hk;omega)) fun _=>Er.rb (Er.en _ _ ha) fun _ _ _ _=>Er.ret _ _ _
   have hl:=bX hk;have hl2:=dQ hn.1 (by decide)
   exact Er.rb (i3 _ _ (by omega)) fun _ a1 o1 h1=>i4 _ _ _ (l3 _ _ _ _ _ h1).2.2
theorem Er.acc{n:Nat}(s:Bs)(a o:Nat):Er n (accM ts s a o):=Er.ite (fun _=>Er.ret _ _ _) fun _=>Er.ret _ _ _
theorem AZ{s:Bs}{a o:Nat}{w:Bool}{b p:Nat}(h:accM ts s a o=some (.ok w b p))(ha:a≤ts.length):b≤ts.length:=by
 rcases aZ h with ⟨hk,h⟩|⟨_,h⟩
 ·have:=bX hk
  cases h;omega
 ·cases h;exact ha
theorem Qf{f a o:Nat}(ha:a≤ts.length):Er ts.length (varM ts f a o):=by
 refine Er.rb (Er.exp _ _ ha) fun _ a1 o1 h1=> ?_
 have e1:=fP h1
 refine Er.rb (Er.nm _ (by omega)) fun _ a2 o2 h2=> ?_
 have e2:=gV h2
 refine Er.rb (Er.exp _ _ (by omega)) fun _ a3 o3 h3=> ?_
 have e3:=fP h3
 exact Er.rb ((GT f).1 _ _ (by omega)) fun _ a4 o4 h4=>Er.rb (Er.exp _ _ ((jP ts f).1 _ _ _ _ _ h4).2.2) fun _ _ _ _=>Er.ret _ _ _
theorem EF{a o:Nat}(ha:a≤ts.length):Er ts.length (Pf ts a o):=by
 refine Er.rb (Er.exp _ _ ha) fun _ a1 o1 h1=> ?_
 have e1:=fP h1
 refine Er.rb (Er.nm _ (by omega)) fun _ a2 o2 h2=> ?_
 have e2:=gV h2
 refine Er.rb (Er.tak _ _ (by omega)) fun _ a3 o3 h3=> ?_
 have e3:=hX h3
 have q3:=dQ e3.1 (by decide)
 refine Er.rb (Er.acc _ _ _) fun _ a4 o4 h4=>Er.rb (Er.acc _ _ _) fun _ a5 o5 h5=> ?_
 have e5:=AZ h5 (AZ h4 (by omega))
 refine Er.rb (Er.exp _ _ e5) fun _ a6 o6 h6=> ?_
 have e6:=fP h6
 refine Er.rb (Er.tak _ _ (by omega)) fun _ a7 o7 h7=> ?_
 have e7:=hX h7
 have q7:=dQ e7.1 (by decide)
 exact Er.rb (Er.exp _ _ (by omega)) fun _ _ _ _=>Er.ret _ _ _
theorem BV: ∀(f:Nat) (l:List Va) (a o:Nat),a≤ts.length→Er ts.length (vasM ts f l a o):=by
 intro f
 induction f with
 | zero=>intro l a o _ b e h;cases h
 | succ f ih =>
  intro l a o ha;rw[vasM];exact Er.ite (fun hk=>Er.rb (Qf ha) fun _ a1 o1 h1=>ih _ _ _ (lF h1).2.2) fun _=>Er.ret _ _ _
theorem BU: ∀(f:Nat) {l:List Va} {a o:Nat} {v:List Va} {b p:Nat},a≤ts.length→vasM ts f l a o=some (.ok v b p)→b≤ts.length:=by
 intro f
 induction f with
 | zero=>intro l a o v b p _ h;cases h
 | succ f ih =>
  intro l a o v b p ha h;rw[vasM]at h;rcases aZ h with ⟨hk,h⟩|⟨hk,h⟩
  ·obtain⟨_,a1,o1,h1,h⟩:=bE h
   exact ih (lF h1).2.2 h
  ·cases h;exact ha
theorem Qx{f a o:Nat}(ha:a≤ts.length):Er ts.length (funM ts f a o):=by
 refine Er.rb (Er.exp _ _ ha) fun _ a1 o1 h1=> ?_
 have e1:=fP h1
 refine Er.rb (Er.nm _ (by omega)) fun _ a2 o2 h2=> ?_
 have e2:=gV h2
 refine Er.rb (Er.beg _ _ (by omega)) fun _ a3 o3 h3=> ?_
 have e3:=cK h3
 have q3:=bX e3.1
 refine Er.rb (BV _ _ _ _ (by omega)) fun _ a4 o4 h4=> ?_
 have e4:=BU f (by omega) h4
 refine Er.rb ((HG f).2.1 _ _ _ e4) fun _ a5 o5 h5=> ?_
 have e5:=(fI ts f).2.1 _ _ _ _ _ _ h5
 exact Er.rb (Er.en _ _ (by omega)) fun _ _ _ _=>Er.ret _ _ _
theorem CA: ∀(f:Nat) (u:Un) (a o:Nat),a≤ts.length→Er ts.length (uniM ts f u a o):=by
 intro f
 induction f with
 | zero=>intro u a o _ b e h;cases h
 | succ f ih =>
  intro u a o ha;rw[uniM]
  exact Er.ite (fun _=>Er.ret _ _ _) fun _=>Er.ite (fun hk=>Er.rb (Qf ha) fun _ a1 o1 h1=>ih _ _ _ (lF h1).2.2) fun _=>Er.ite (fun hk=>Er.rb (EF ha) fun _ a1 o1 h1=>ih _ _ _ (wT h1).2.2) fun _ =>
   Er.ite (fun hk=>Er.rb (Qx ha) fun _ a1 o1 h1=>ih _ _ _ (uC h1).2.2) fun _=>sO ha
theorem Er.all{α:Type}{r:Option (Rs α)}(h:Er ts.length r)(hl: ∀x a o,r=some (.ok x a o)→a≤ts.length):Er ts.length (allM ts r):=Er.rb h fun x a o h1=>Er.ite (fun _=>sO (hl x a o h1)) fun _=>Er.ret _ _ _
end
end Go.Proofs.YtmbmmckagcdapaaGreatDoor
namespace Go.Proofs.YtmbmmckagcdapaaGreatDoor
def fu(ts:List Tk):Nat:=3*ts.length+10
def rdX{α:Type}(ts:List Tk)(z:α)(r:Option (Rs α)):α×Int×Nat:=match allM ts r with
 | some (.ok x _ _)=>(x,0,0)
 | some (.bad b e)=>(z,e,b)
 | none=>(z,0,0)
def ex0:Ex:= .mk 0 0 ByteArray.empty 0 []
def fn0:Fun:=⟨ByteArray.empty,[],[]⟩
def uz0:Un:=⟨[],[],[]⟩
def exR(ts:List Tk):Ex×Int×Nat:=rdX ts ex0 (exM ts (fu ts) (.ex 1) 0 0)
def fnR(ts:List Tk):Fun×Int×Nat:=rdX ts fn0 (funM ts (fu ts) 0 0)
def unR(ts:List Tk):Un×Int×Nat:=rdX ts uz0 (uniM ts (fu ts) uz0 0 0)
def expP(s:Bs):Ex×Int:=if(scnR s).2≠0 then(ex0,(scnR s).2)else if(exR (scnR s).1).2.1≠0 then(ex0,(exR (scnR s).1).2.1)else if esh (exR (scnR s).1).1 64=true then((exR (scnR s).1).1,0)else(ex0,20)
def funP(s:Bs):Fun×Int:=if(scnR s).2≠0 then(fn0,(scnR s).2)else if(fnR (scnR s).1).2.1≠0 then(fn0,(fnR (scnR s).1).2.1)else((fnR (scnR s).1).1,0)
def Vx(s:Bs):Un×Int:=if(scnR s).2≠0 then(uz0,(scnR s).2)else if(unR (scnR s).1).2.1≠0 then(uz0,(unR (scnR s).1).2.1)else if unE (unR (scnR s).1).1≠0 then(uz0,unE (unR (scnR s).1).1)else((unR (scnR s).1).1,0)
def Zf(s:Bs):(Int×Int)×Int:=if(scnR s).2=3 then(Hi (scnR s).1 ((scnR s).1.length-1),3)else if(scnR s).2≠0 then((0,0),(scnR s).2)
 else if(unR (scnR s).1).2.1≠0 then(Hi (scnR s).1 (unR (scnR s).1).2.2,(unR (scnR s).1).2.1)else((0,0),unE (unR (scnR s).1).1)
theorem pM(s:Bs):(∀t∈(scnR s).1,TkOk t)∧(scnR s).1.length≤65536∧((scnR s).2=0∨(scnR s).2=3∨(scnR s).2=6):=by
 unfold scnR
 by_cases h:65536<s.length
 ·rw[if_pos h];exact⟨by simp,by simp,.inr (.inr rfl)⟩
 ·rw[if_neg h,xV]
  refine⟨CS (by omega),by have:=Xj s;show(scan s).1.length≤_;omega,?_⟩
  show(if(scan s).2 then(0:Int)else 3)=0∨(if(scan s).2 then(0:Int)else 3)=3∨_
  cases (scan s).2
  ·exact .inr (.inl rfl)
  ·exact .inl rfl
theorem xY{α:Type}{ts:List Tk}{z:α}{r:Option (Rs α)}(hs:Sm r)(he:Er ts.length r)(hl: ∀x a o,r=some (.ok x a o)→a≤ts.length) :
  (∃b e,allM ts r=some (.bad b e)∧rdX ts z r=(z,e,b)∧(e=3∨e=20)∧b≤ts.length)∨ ∃x b p,allM ts r=some (.ok x b p)∧rdX ts z r=(x,0,0)∧r=some (.ok x b p):=by
 obtain⟨q,hq⟩:=Sm.all (ts:=ts) hs
 cases q with
 | bad b e =>
  obtain⟨h1,h2⟩:=Er.all he hl b e hq;exact .inl ⟨b,e,hq,by unfold rdX;rw[hq],h1,h2⟩
 | ok x b p =>
  refine .inr ⟨x,b,p,hq,by unfold rdX;rw[hq],?_⟩
  obtain⟨y,a,o,h1,h2⟩:=bE hq;rcases aZ h2 with ⟨_,h2⟩|⟨_,h2⟩
  ·cases h2
  ·cases h2;exact h1
theorem yL(ts:List Tk):(∃b e,allM ts (exM ts (fu ts) (.ex 1) 0 0)=some (.bad b e)∧exR ts=(ex0,e,b)∧(e=3∨e=20)∧b≤ts.length)∨ ∃x b p,allM ts (exM ts (fu ts) (.ex 1) 0 0)=some (.ok x b p)∧exR ts=(x,0,0)∧exM ts (fu ts) (.ex 1) 0 0=some (.ok x b p) :=
 xY ((Cn ts _).2.1 _ _ _ (by unfold fu;omega)) ((Yv _).2.1 _ _ _ (Nat.zero_le _)) fun x a o h=>(Hu _).2.1 _ _ _ _ _ _ h
theorem yI(ts:List Tk):(∃b e,allM ts (funM ts (fu ts) 0 0)=some (.bad b e)∧fnR ts=(fn0,e,b)∧(e=3∨e=20)∧b≤ts.length)∨ ∃x b p,allM ts (funM ts (fu ts) 0 0)=some (.ok x b p)∧fnR ts=(x,0,0)∧funM ts (fu ts) 0 0=some (.ok x b p) :=
 xY (yH ts (by unfold fu;omega)) (Qx (Nat.zero_le _)) fun x a o h=>(uC h).2.2
theorem BZ{ts:List Tk}: ∀(f:Nat) {u:Un} {a o:Nat} {v:Un} {b p:Nat},a≤ts.length→uniM ts f u a o=some (.ok v b p)→b≤ts.length:=by
 intro f
 induction f with
 | zero=>intro u a o v b p _ h;cases h
 | succ f ih =>
  intro u a o v b p ha h;rw[uniM]at h;rcases aZ h with ⟨hk,h⟩|⟨hk,h⟩
  ·cases h;exact ha
  rcases aZ h with ⟨hk,h⟩|⟨hk,h⟩
  ·obtain⟨x,a1,o1,h1,h⟩:=bE h
   exact ih (lF h1).2.2 h
  rcases aZ h with ⟨hk,h⟩|⟨hk,h⟩
  ·obtain⟨x,a1,o1,h1,h⟩:=bE h
   exact ih (wT h1).2.2 h
  rcases aZ h with ⟨hk,h⟩|⟨hk,h⟩
  ·obtain⟨x,a1,o1,h1,h⟩:=bE h
   exact ih (uC h1).2.2 h
  ·cases h
theorem Ek(ts:List Tk):(∃b e,allM ts (uniM ts (fu ts) uz0 0 0)=some (.bad b e)∧unR ts=(uz0,e,b)∧(e=3∨e=20)∧b≤ts.length)∨ ∃x b p,allM ts (uniM ts (fu ts) uz0 0 0)=some (.ok x b p)∧unR ts=(x,0,0)∧uniM ts (fu ts) uz0 0 0=some (.ok x b p) :=
 xY (Sg ts _ _ _ _ (by unfold fu;omega)) (CA _ _ _ _ (Nat.zero_le _)) fun x a o h=>BZ _ (Nat.zero_le _) h
end Go.Proofs.YtmbmmckagcdapaaGreatDoor
namespace Go.Proofs.YtmbmmckagcdapaaGreatDoor
open Go.RowKit
def iV(n:Int):V:=(.im (.int .i64 (n)))
theorem bN(p:Nat→Bool)(l:List Int):V.idsL p (l.map iV)=true:=gY (fun _=>rfl) l
theorem bZ(g:Nat→Nat)(l:List Int):V.renL g (l.map iV)=l.map iV:=V.renL_id g _ (bN _ l)
theorem Qu(v:Int):(iV v).live=true:=rfl
theorem Qt(v:Int):(iV v).size=1:=rfl
theorem Qv(v:Int):(iV v).isAg=false:=rfl
theorem Qw(v:Int):(iV v).firm=true:=rfl
theorem Lh(g:Bool)(v:Int):strip g (iV v)=iV v:=rfl
theorem Li(v:Int):(iV v).cells=[(.im (.int .i64 (v)))]:=rfl
theorem SI:type_of%(A15 @wD @tE @wB @wA @wC @tF @Qw @Lh @Qu @Qt @Qv @Li @List.getElem?_map.{0,0} @List.length_map.{0,0} @Int.natCast_nonneg) :=
 A15 @wD @tE @wB @wA @wC @tF @Qw @Lh @Qu @Qt @Qv @Li @List.getElem?_map.{0,0} @List.length_map.{0,0} @Int.natCast_nonneg
def opL:List Bs:=[[43],[45],[42],[38],[124],[94],[60,60],[62,62],[62,62,115],[61,61],[33,61],[60,115],[60]]
def opK:List Int:=[7,7,8,3,1,2,6,6,6,4,4,5,5]
theorem IC:[V.im (.string ⟨#[43]⟩),V.im (.string ⟨#[45]⟩),V.im (.string ⟨#[42]⟩),V.im (.string ⟨#[38]⟩),V.im (.string ⟨#[124]⟩),V.im (.string ⟨#[94]⟩),V.im (.string ⟨#[60,60]⟩),V.im (.string ⟨#[62,62]⟩),V.im (.string ⟨#[62,62,115]⟩),V.im (.string ⟨#[61,61]⟩),V.im (.string ⟨#[33,61]⟩),V.im (.string ⟨#[60,115]⟩),V.im (.string ⟨#[60]⟩)]=opL.map sV:=rfl
theorem ID:[(.im (.int .i64 (7))),(.im (.int .i64 (7))),(.im (.int .i64 (8))),(.im (.int .i64 (3))),(.im (.int .i64 (1))),(.im (.int .i64 (2))),(.im (.int .i64 (6))),(.im (.int .i64 (6))),(.im (.int .i64 (6))),(.im (.int .i64 (4))),(.im (.int .i64 (4))),(.im (.int .i64 (5))),(.im (.int .i64 (5)))]=opK.map iV:=rfl
theorem LB: ∀m:Nat,m<13→ ∀x,opL[m]? =some x→ ∀k,opK[m]? =some k→(opR x).1=3+m∧((opR x).2:Int)=k:=by
 have: ∀m:Nat,m<13→(opL[m]?).elim true (fun x=>(opK[m]?).elim true fun k=>decide ((opR x).1=3+(m:Int)∧((opR x).2:Int)=k))=true:=by decide
 intro m hm x hx k hk
 have h:=this m hm
 rw[hx,hk]at h
 exact of_decide_eq_true h
theorem Oo(x:Bs)(h:x∉opL):opR x=(0,0):=by
 unfold opL at h
 simp only[List.mem_cons,List.not_mem_nil,or_false,not_or]at h
 obtain⟨h1,h2,h3,h4,h5,h6,h7,h8,h9,h10,h11,h12,h13⟩:=h
 unfold opR
 rw[if_neg h5,if_neg h6,if_neg h4,if_neg h10,if_neg h11,if_neg h13,if_neg h12,if_neg h7,if_neg h8,if_neg h9,if_neg h1,if_neg h2,if_neg h3]
def Mw:=A6 @Py @sL @xJ @kS @cN @dR
theorem JP:PC Tryz.prog 187 [] (.tu [.sl (opL.map sV) .full,.sl (opK.map iV) .full]):=by
 refine PC.enter 4 Tryz.func187 rfl (by decide) rfl rfl (s:=[]) (by rfl) ?_
 refine wG Mw (AI IC ID) ?_
 refine aJ (rs:=[.tmp 0,.tmp 1]) rfl (by first|exact .inl rfl|exact .inr rfl) (finG Mw) ?_
 all_goals exact wkG (A4 aB aC aT bN)
def stRR(ts:List Tk)(a:Nat)(e:Int):Int×Nat:=if e=0 then stR (pk ts a)else(0,0)
theorem Oi{ts:List Tk}{a:Nat}{s:Bs}(h:(pk ts a).kind=2∨(pk ts a).kind=5):sees ts a s=((pk ts a).text==s):=by
 unfold sees
 rcases h with h|h
 ·rw[h];rfl
 ·rw[h];rfl
def eY:=A6 @cQ @eF @xJ @kS @cN @dR
theorem Ia(ts:List Tk)(a:Nat)(o e:Int):DC Tryz.prog 124 [.pt 0 0] [.box [.sl (ts.map tkV) .ro,(.im (.int .i64 ((a:Nat)))),(.im (.int .i64 (o))),(.im (.int .i64 (e)))]] (.tu [(.im (.int .i64 ((stRR ts a e).1))),(.im (.int .i64 (((stRR ts a e).2:Nat))))]) [.box [.sl (ts.map tkV) .ro,(.im (.int .i64 ((a:Nat)))),(.im (.int .i64 (o))),(.im (.int .i64 (e)))]]:=by
 have q:=JP
 have hk:=jM ts a o e 5 (by decide)
 have hL:opL.length=13:=rfl
 have hK:opK.length=13:=rfl
 have hat:=LB
 have hno:=Oo
 generalize opL=L at q hL hat hno
 generalize opK=K at q hK hat
 cases b:(decide (e=0)&&decide ((pk ts a).kind=5))with
 | false =>
  rw[b]at hk
  have hz:stRR ts a e=(0,0):=by
   unfold stRR stR
   by_cases he:e=0
   ·rw[if_pos he,if_neg (fun h=>by rw[decide_eq_true he,decide_eq_true h]at b;cases b)]
   ·rw[if_neg he]
  rw[hz];refine DC.enter 33 Tryz.func124 rfl (by decide) rfl rfl (s:=[(0,.pt 0 0)]) (by rfl) ?_
  refine wG eY TI ?_;refine AR.callP q TI (A4 aB aC aT bN) ?_;refine goG eY TI ?_;refine wG eY TI ?_;refine bH ?_;refine ALp.cutP 1 [(0,.pt 0 0),(4,.sl (L.map sV) .full),(5,.sl (K.map iV) .full),(6,(.im (.int .i64 ((((0):Nat):Int)))))] [.box [.sl (ts.map tkV) .ro,(.im (.int .i64 ((a:Nat)))),(.im (.int .i64 (o))),(.im (.int .i64 (e)))]] (A4 aB aC aT bN) ?_;refine ALp.upto L.length (fun _=>True) (fun m=>⟨dn 33 [(0,.pt 0 0),(4,.sl (L.map sV) .full),(5,.sl (K.map iV) .full),(6,(.im (.int .i64 ((((m):Nat):Int)))))],ofl [.box [.sl (ts.map tkV) .ro,(.im (.int .i64 ((a:Nat)))),(.im (.int .i64 (o))),(.im (.int .i64 (e)))]]⟩) ?_ 0 (Nat.zero_le _) trivial
  intro m hm _ hnext
  by_cases hlt:m<L.length
  ·have hlt':(m:Int)<(L.length:Int):=by omega
   have hm1:=bD hlt (by omega)
   refine wG eY (AI hlt' SI) ?_;refine aA [0] hk TI (A4 aB aC aT bN) (A4 aH aI bY bZ) ?_;refine goG eY TI ?_;refine wG eY hm1 ?_;refine ALp.cutP 1 [(0,.pt 0 0),(4,.sl (L.map sV) .full),(5,.sl (K.map iV) .full),(6,(.im (.int .i64 ((((m+1):Nat):Int)))))] [.box [.sl (ts.map tkV) .ro,(.im (.int .i64 ((a:Nat)))),(.im (.int .i64 (o))),(.im (.int .i64 (e)))]] (A4 aB aC aT bN) ?_;exact hnext (m+1) (by omega) (by omega) trivial
  obtain rfl:m=L.length:=by omega
  clear hnext;refine wG eY (AI @Int.lt_irrefl @List.length_map.{0,0}) ?_;refine aO (rs:=[.tmp 2,.tmp 3]) rfl (by first|exact .inl rfl|exact .inr rfl) (finG eY) ?_ rfl (idG (A4 aB aC aT bN))
  all_goals exact wkG (A4 aB aC aT bN)
 | true =>
  rw[b]at hk;rw[Bool.and_eq_true,decide_eq_true_eq,decide_eq_true_eq]at b;obtain⟨rfl,h5⟩:=b;have hst:stRR ts a 0=opR (pk ts a).text:=by unfold stRR stR;rw[if_pos rfl,if_pos h5]
  have hs: ∀x,isR ts a 0 x=((pk ts a).text==x):=fun x=>by rw[gI,Oi (.inr h5)]
  rw[hst];refine DC.enter 33 Tryz.func124 rfl (by decide) rfl rfl (s:=[(0,.pt 0 0)]) (by rfl) ?_
  refine wG eY TI ?_;refine AR.callP q TI (A4 aB aC aT bN) ?_;refine goG eY TI ?_;refine wG eY TI ?_;refine bH ?_;refine ALp.cutP 1 [(0,.pt 0 0),(4,.sl (L.map sV) .full),(5,.sl (K.map iV) .full),(6,(.im (.int .i64 ((((0):Nat):Int)))))] [.box [.sl (ts.map tkV) .ro,(.im (.int .i64 ((a:Nat)))),(.im (.int .i64 (o))),(.im (.int .i64 (0)))]] (A4 aB aC aT bN) ?_;refine ALp.upto L.length (fun m=>(pk ts a).text∉L.take m) (fun m=>⟨dn 33 [(0,.pt 0 0),(4,.sl (L.map sV) .full),(5,.sl (K.map iV) .full),(6,(.im (.int .i64 ((((m):Nat):Int)))))],ofl [.box [.sl (ts.map tkV) .ro,(.im (.int .i64 ((a:Nat)))),(.im (.int .i64 (o))),(.im (.int .i64 (0)))]]⟩) ?_ 0 (Nat.zero_le _) (by simp)
  intro m hm hI hnext
  by_cases hlt:m<L.length
  ·have hlt':(m:Int)<(L.length:Int):=by omega
   have hm1:=bD hlt (by omega)
   have hg:=cC hlt;have hlk:m<K.length:=by omega
   have hgk:=cC hlk;have hi:=oR ts a o 0 L[m];have ha:=hat m (by omega) _ (List.getElem?_eq_getElem hlt) _ (List.getElem?_eq_getElem hlk)
   have hnx:=hnext (m+1) (by omega) (by omega)
   rw[List.take_succ_eq_append_getElem hlt]at hnx;clear hnext;rw[hs]at hi;have hw:IntKind.i64.wrap (3+(m:Int))=3+(m:Int):=cM (by omega)
   have hlk':(m:Int)<(K.length:Int):=by omega
   generalize L[m]=x at hg hi ha hnx;generalize K[m]=k at hgk ha;cases hx:((pk ts a).text==x)with
   | true =>
    rw[hx]at hi;rw[←eq_of_beq hx]at ha;rw[ha.1,ha.2];refine wG eY (A3 hlt' hg SI) ?_;refine aA [0] hk TI (A4 aB aC aT bN) (A4 aH aI bY bZ) ?_;refine goG eY (A3 hlt' hg SI) ?_;refine aA [0] hi TI (A4 aB aC aT bN) (A4 aH aI bY bZ) ?_;refine goG eY SI ?_;refine wdG eY (A4 hgk SI hw hlk') ?_;refine aO (rs:=[.tmp 2,.tmp 3]) rfl (by first|exact .inl rfl|exact .inr rfl) (finG eY) ?_ rfl (idG (A4 aB aC aT bN))
    all_goals exact wkG (A4 aB aC aT bN)
   | false =>
    rw[hx]at hi;refine wG eY (A3 hlt' hg SI) ?_;refine aA [0] hk TI (A4 aB aC aT bN) (A4 aH aI bY bZ) ?_;refine goG eY (A3 hlt' hg SI) ?_;refine aA [0] hi TI (A4 aB aC aT bN) (A4 aH aI bY bZ) ?_;refine goG eY SI ?_;refine wG eY hm1 ?_;refine ALp.cutP 1 [(0,.pt 0 0),(4,.sl (L.map sV) .full),(5,.sl (K.map iV) .full),(6,(.im (.int .i64 ((((m+1):Nat):Int)))))] [.box [.sl (ts.map tkV) .ro,(.im (.int .i64 ((a:Nat)))),(.im (.int .i64 (o))),(.im (.int .i64 (0)))]] (A4 aB aC aT bN) ?_
    exact hnx (fun hm=>by
     rcases List.mem_append.1 hm with h|h
     ·exact hI h
     ·rw[List.mem_singleton.1 h]at hx
      simp at hx)
  obtain rfl:m=L.length:=by omega
  rw[List.take_length]at hI;rw[hno _ hI];clear hnext hI hno;refine wG eY (AI @Int.lt_irrefl @List.length_map.{0,0}) ?_;refine aO (rs:=[.tmp 2,.tmp 3]) rfl (by first|exact .inl rfl|exact .inr rfl) (finG eY) ?_ rfl (idG (A4 aB aC aT bN))
  all_goals exact wkG (A4 aB aC aT bN)
def widF(ts:List Tk)(a:Nat)(e:Int)(t:Bs):Nat→Nat→Int
 | 0,_=>0
 | k+1,m=>if isR ts a e (t++[UInt8.ofNat (48+m)])=true then(m:Int)else widF ts a e t k (m+1)
def nK(ts:List Tk)(a:Nat)(e:Int)(t:Bs):Int:=widF ts a e t 4 1
theorem KQ{m:Nat}(h1:1≤m)(h4:m≤4):IntKind.i64.wrap (48+(m:Int))=48+(m:Int)∧IntKind.u8.wrap (48+(m:Int))=(((UInt8.ofNat (48+m)).toNat:Nat):Int):=by
 refine⟨cM (by omega),?_⟩
 have:m=1∨m=2∨m=3∨m=4:=by omega
 rcases this with rfl|rfl|rfl|rfl<;>rfl
def kZ:=A11 @Px @sK @nQ @vP @uO @yY @yX @nP @oZ @uM @gB
theorem kX(ts:List Tk)(a:Nat)(o e:Int)(t:Bs)(ht:t.length≤100):DC Tryz.prog 186 [.pt 0 0,.im (.string ⟨(t).toArray⟩)] [.box [.sl (ts.map tkV) .ro,(.im (.int .i64 ((a:Nat)))),(.im (.int .i64 (o))),(.im (.int .i64 (e)))]] (.im (.int .i64 (nK ts a e t))) [.box [.sl (ts.map tkV) .ro,(.im (.int .i64 ((a:Nat)))),(.im (.int .i64 (o))),(.im (.int .i64 (e)))]]:=by
 unfold nK
 refine DC.enter 20 Tryz.func186 rfl (by decide) rfl rfl (s:=[(0,.pt 0 0),(1,.im (.string ⟨(t).toArray⟩))]) (by rfl) ?_
 refine wG kZ TI ?_
 refine bH ?_
 obtain⟨W,hW⟩: ∃W,W=widF ts a e t 4 1:=⟨_,rfl⟩
 rw[←hW]
 suffices H: ∀(k m:Nat),m+k=5→1≤m→W=widF ts a e t k m→ALp _ _ _ _ _ ⟨dn 20 [(0,.pt 0 0),(1,.im (.string ⟨(t).toArray⟩)),(5,(.im (.int .i64 ((((m):Nat):Int)))))],ofl [.box [.sl (ts.map tkV) .ro,(.im (.int .i64 ((a:Nat)))),(.im (.int .i64 (o))),(.im (.int .i64 (e)))]]⟩ by
  refine ALp.cutP 1 [(0,.pt 0 0),(1,.im (.string ⟨(t).toArray⟩)),(5,(.im (.int .i64 ((((1):Nat):Int)))))] [.box [.sl (ts.map tkV) .ro,(.im (.int .i64 ((a:Nat)))),(.im (.int .i64 (o))),(.im (.int .i64 (e)))]] (A4 aB aC aT bN) ?_;exact H 4 1 rfl (Nat.le_refl _) hW
 clear hW
 intro k
 induction k with
 | zero =>
  intro m hm h1 hW;obtain rfl:m=5:=by omega
  rw[hW];refine cD ?_;refine wG kZ TI ?_;refine aO (rs:=[.tmp 4]) rfl (by first|exact .inl rfl|exact .inr rfl) (finG kZ) ?_ rfl (idG (A4 aB aC aT bN))
  all_goals exact wkG (A4 aB aC aT bN)
 | succ k ih =>
  intro m hm h1 hW;obtain⟨w1,w2⟩:=KQ h1 (show m≤4 by omega)
  have hle:(m:Int)≤4:=by omega
  have hw:=bD (m:=m) (N:=4194304) (by omega) (by decide)
  have hp:=oR ts a o e (t++[UInt8.ofNat (48+m)]);have hi:=ih (m+1) (by omega) (by omega)
  rw[widF]at hW;generalize UInt8.ofNat (48+m)=c at hp hW w2;have hap:ByteArray.mk t.toArray++ByteArray.mk [c].toArray=ByteArray.mk (t++[c]).toArray:=Gk t [c];have hlz:t.length+1≤9223372036854775807:=by omega
  refine cD ?_;have hbs:lX [V.im (.int .u8 (c.toNat:Int))]=some [c]:=nA [c];cases b:isR ts a e (t++[c])with
  | true =>
   rw[b]at hp;rw[b,if_pos rfl]at hW;rw[hW];refine wG kZ (A7 BY hle w1 w2 hap hlz hbs) ?_;refine aA [0] hp TI (A4 aB aC aT bN) (A4 aH aI bY bZ) ?_;refine goG kZ TI ?_;refine wG kZ TI ?_;refine aO (rs:=[.tmp 4]) rfl (by first|exact .inl rfl|exact .inr rfl) (finG kZ) ?_ rfl (idG (A4 aB aC aT bN))
   all_goals exact wkG (A4 aB aC aT bN)
  | false =>
   rw[b]at hp;rw[b,if_neg (by decide)]at hW
   refine wG kZ (A7 BY hle w1 w2 hap hlz hbs) ?_;refine aA [0] hp TI (A4 aB aC aT bN) (A4 aH aI bY bZ) ?_;refine goG kZ TI ?_;refine wG kZ hw ?_;refine ALp.cutP 1 [(0,.pt 0 0),(1,.im (.string ⟨(t).toArray⟩)),(5,(.im (.int .i64 ((((m+1):Nat):Int)))))] [.box [.sl (ts.map tkV) .ro,(.im (.int .i64 ((a:Nat)))),(.im (.int .i64 (o))),(.im (.int .i64 (e)))]] (A4 aB aC aT bN) ?_;exact hi hW
def BN02:=A8 aB aC @bT @bV @bU @bW aT bN
def BN05:=A8 aH aI @hH @iC @hU @iD bY bZ
theorem HY{ts:List Tk}(h: ∀t∈ts,TkOk t)(a:Nat):(pk ts a).text.length≤4194304:=by
 by_cases hl:a<ts.length
 ·exact(h _ (List.mem_of_getElem? (zJ hl))).2
 ·rw[uZ (by omega)];decide
theorem xQ(l:List Va):kV 6 (l.map vaV)=true:=by
 unfold kV
 rw[List.all_map]
 exact List.all_eq_true.2 fun x _=>rfl
def lI:=A7 @jG @As @qB @yZ @Rx @jF @kQ
def cZ:=A13 aB aC @bT @bV @bU @bW @aX @aU aQ aG aW gM cR
def dY:=A13 aH aI @hH @iC @hU @iD @bS @bP bC aR bK jU eZ
theorem rS{ts:List Tk}{f:Nat}(hts:ts.length≤4194304)(hok: ∀t∈ts,TkOk t)(a o:Nat)(ho:o≤256)(r:Rs Va)(h:varM ts f a o=some r):XC Tryz.prog 79 [.pt 0 0] ts a o vaV r:=by
 unfold varM at h
 refine XC.enter 17 Tryz.func79 rfl (by decide) rfl rfl (s:=[(0,.pt 0 0)]) (by rfl) ?_
 refine wG lI TI ?_
 rcases bM h with ⟨b1,e1,h1,rfl⟩|⟨_,a1,o1,h1,h⟩
 ·exact PA.callP [0] ((cI ts a o [118,97,114] hts _ h1).fails) TI cZ dY (fun _=>PFin.i rfl rfl)
 refine aA [0] (((cI ts a o [118,97,114] hts _ h1).good)) TI cZ dY ?_
 refine goG lI TI ?_
 obtain⟨_,rfl,hoe⟩:=cV h1
 subst o1
 clear h1
 refine wG lI TI ?_
 rcases bM h with ⟨b1,e1,h1,rfl⟩|⟨nm,a2,o2,h1,h⟩
 ·exact PA.callP [0] ((lG ts (a+1) o hts _ h1).fails) TI cZ dY (fun _=>PFin.i rfl rfl)
 refine aA [0] (((lG ts (a+1) o hts _ h1).good)) TI cZ dY ?_
 refine goG lI TI ?_
 obtain⟨_,rfl,hoe,hlt⟩:=gV h1
 subst o2
 clear h1
 refine wG lI TI ?_
 rcases bM h with ⟨b1,e1,h1,rfl⟩|⟨_,a3,o3,h1,h⟩
 ·exact PA.callP [0] ((cI ts (a+1+1) o [58] hts _ h1).fails) TI cZ dY (fun _=>PFin.i rfl rfl)
 refine aA [0] (((cI ts (a+1+1) o [58] hts _ h1).good)) TI cZ dY ?_
 refine goG lI TI ?_
 obtain⟨_,rfl,hoe⟩:=cV h1
 subst o3
 clear h1
 refine wG lI TI ?_
 rcases bM h with ⟨b1,e1,h1,rfl⟩|⟨x,a4,o4,h1,h⟩
 ·exact PA.callP [0] ((GM hts hok f f (Nat.le_refl _) (a+1+1+1) o ho _ h1).fails) TI cZ dY (fun _=>PFin.i rfl rfl)
 refine aA [0] (((GM hts hok f f (Nat.le_refl _) (a+1+1+1) o ho _ h1).good)) TI cZ dY ?_
 refine goG lI BN07 ?_
 obtain⟨hoe,_,_⟩:=(jP ts f).1 _ _ _ _ _ h1
 subst o4
 clear h1
 refine wG lI BN07 ?_
 rcases bM h with ⟨b1,e1,h1,rfl⟩|⟨_,a5,o5,h1,h⟩
 ·exact PA.callP [0] ((cI ts a4 o [59] hts _ h1).fails) TI cZ dY (fun _=>PFin.i rfl rfl)
 refine aA [0] (((cI ts a4 o [59] hts _ h1).good)) TI cZ dY ?_
 refine goG lI TI ?_
 cases h
 refine wG lI BN07 ?_
 refine aO (rs:=[.cell 2 96]) rfl (by first|exact .inl rfl|exact .inr rfl) (finG lI) ?_ rfl (idG cZ)
 rw[xR]
 all_goals exact wkG cZ
def iQ:=A16 @BR @oE @Rz @Jg @eF @Je @sK @mS @pF @Gn @Vl @Vk @uO @yY @FZ (A8 @BE @nZ @Rw @xH @dR @oZ @uM @gB)
theorem Rm{ts:List Tk}(hts:ts.length≤4194304)(hok: ∀t∈ts,TkOk t)(a o:Nat)(ho:o≤256)(r:Rs Sec)(h:Pf ts a o=some r):XC Tryz.prog 80 [.pt 0 0] ts a o scV r:=by
 unfold Pf at h
 refine XC.enter 28 Tryz.func80 rfl (by decide) rfl rfl (s:=[(0,.pt 0 0)]) (by rfl) ?_
 refine wG iQ TI ?_
 rcases bM h with ⟨b1,e1,h1,rfl⟩|⟨_,a1,o1,h1,h⟩
 ·exact PA.callP [0] ((cI ts a o [100,97,116,97] hts _ h1).fails) TI cZ dY (fun _=>PFin.i rfl rfl)
 refine aA [0] (((cI ts a o [100,97,116,97] hts _ h1).good)) TI cZ dY ?_
 refine goG iQ TI ?_
 obtain⟨_,rfl,hoe⟩:=cV h1
 subst o1
 clear h1
 refine wG iQ TI ?_
 rcases bM h with ⟨b1,e1,h1,rfl⟩|⟨nm,a2,o2,h1,h⟩
 ·exact PA.callP [0] ((lG ts (a+1) o hts _ h1).fails) TI cZ dY (fun _=>PFin.i rfl rfl)
 refine aA [0] (((lG ts (a+1) o hts _ h1).good)) TI cZ dY ?_
 refine goG iQ TI ?_
 obtain⟨_,rfl,hoe,hlt⟩:=gV h1
 subst o2
 clear h1
 rcases bM h with ⟨b1,e1,h1,rfl⟩|⟨d,a3,o3,h1,h⟩
 ·exact PA.callP [0] ((nM ts (a+1+1) o 3 (by decide) hts _ h1).fails) TI cZ dY (fun _=>PFin.i rfl rfl)
 refine aA [0] (((nM ts (a+1+1) o 3 (by decide) hts _ h1).good)) TI cZ dY ?_
 refine goG iQ TKT ?_
 obtain⟨_,_,rfl,hoe⟩:=hX h1
 subst o3
 clear h1
 refine wG iQ TKT ?_
 have hq:=eV ts (a+1+1+1) o [119,114,105,116,101] hts
 obtain⟨w,a4,o4,h1,h⟩: ∃w a4 o4,accM ts [119,114,105,116,101] (a+1+1+1) o=some (.ok w a4 o4)∧_:=by
  rcases bM h with ⟨b1,e1,h1,rfl⟩|⟨w,a4,o4,h1,h⟩
  ·rcases aZ h1 with ⟨_,h1⟩|⟨_,h1⟩<;>cases h1
  ·exact⟨w,a4,o4,h1,h⟩
 obtain⟨hoe,hle,hw,ha4⟩:=Ak h1
 rw[←ha4,←hw]at hq
 subst o4
 clear h1 hw ha4
 refine aA [0] hq TI cZ dY ?_
 refine goG iQ TI ?_
 refine wG iQ TI ?_
 clear hq
 have hq:=eV ts a4 o [101,120,101,99] hts
 obtain⟨xe,a5,o5,h1,h⟩: ∃w a5 o5,accM ts [101,120,101,99] a4 o=some (.ok w a5 o5)∧_:=by
  rcases bM h with ⟨b1,e1,h1,rfl⟩|⟨w,a5,o5,h1,h⟩
  ·rcases aZ h1 with ⟨_,h1⟩|⟨_,h1⟩<;>cases h1
  ·exact⟨w,a5,o5,h1,h⟩
 obtain⟨hoe,hle2,hw,ha5⟩:=Ak h1
 rw[←ha5,←hw]at hq
 subst o5
 clear h1 hw ha5
 refine aA [0] hq TI cZ dY ?_
 refine goG iQ TI ?_
 refine wG iQ TI ?_
 clear hq
 rcases bM h with ⟨b1,e1,h1,rfl⟩|⟨_,a6,o6,h1,h⟩
 ·exact PA.callP [0] ((cI ts a5 o [61] hts _ h1).fails) TI cZ dY (fun _=>PFin.i rfl rfl)
 refine aA [0] (((cI ts a5 o [61] hts _ h1).good)) TI cZ dY ?_
 refine goG iQ TI ?_
 obtain⟨_,rfl,hoe⟩:=cV h1
 subst o6
 clear h1
 refine wG iQ TI ?_
 have hpk:=HY hok (a5+1)
 rcases bM h with ⟨b1,e1,h1,rfl⟩|⟨t,a7,o7,h1,h⟩
 ·exact PA.callP [0] ((nM ts (a5+1) o 4 (by decide) hts _ h1).fails) TI cZ dY (fun _=>PFin.i rfl rfl)
 obtain⟨_,ht,ha7,hoe⟩:=hX h1
 rw[←ht]at hpk
 have hsz:(ByteArray.mk t.text.toArray).size≤140737488355328:=by show t.text.toArray.size≤_;rw[List.size_toArray];omega
 have hbv:byV (ByteArray.mk t.text.toArray)=t.text.map fun b=>V.im (.int .u8 b.toNat):=rfl
 refine aA [0] ((nM ts (a5+1) o 4 (by decide) hts _ h1).good) TI cZ dY ?_
 refine goG iQ (A3 TKT hsz hbv) ?_
 subst ha7
 subst o7
 clear h1
 refine wG iQ TKT ?_
 rcases bM h with ⟨b1,e1,h1,rfl⟩|⟨_,a8,o8,h1,h⟩
 ·exact PA.callP [0] ((cI ts (a5+1+1) o [59] hts _ h1).fails) TI cZ dY (fun _=>PFin.i rfl rfl)
 refine aA [0] (((cI ts (a5+1+1) o [59] hts _ h1).good)) TI cZ dY ?_
 refine goG iQ TI ?_
 cases h
 refine wG iQ TI ?_
 refine aO (rs:=[.cell 2 76]) rfl (by first|exact .inl rfl|exact .inr rfl) (finG iQ) ?_ rfl (idG cZ)
 rw[Hd]
 all_goals exact wkG cZ
def gT:=A14 @oF @mE @sN @qC @qB @uU @mC @rG @uR @Ap @mB @kB @oA @kQ
set_option maxHeartbeats 4000000 in
theorem Aj{ts:List Tk}{f:Nat}(hts:ts.length≤4194304)(hok: ∀t∈ts,TkOk t)(a0 o:Nat)(ho:o≤256)(r:Rs Fun)(h:funM ts f a0 o=some r):XC Tryz.prog 52 [.pt 0 0] ts a0 o fnV r:=by
 unfold funM at h
 refine XC.enter 26 Tryz.func52 rfl (by decide) rfl rfl (s:=[(0,.pt 0 0)]) (by rfl) ?_
 refine wG gT TI ?_
 rcases bM h with ⟨b1,e1,h1,rfl⟩|⟨_,a1,o1,h1,h⟩
 ·exact PA.callP [0] ((cI ts a0 o [102,117,110,99] hts _ h1).fails) TI cZ dY (fun _=>PFin.i rfl rfl)
 refine aA [0] (((cI ts a0 o [102,117,110,99] hts _ h1).good)) TI cZ dY ?_
 refine goG gT TI ?_
 obtain⟨_,rfl,hoe⟩:=cV h1
 subst o1
 clear h1
 refine wG gT TI ?_
 rcases bM h with ⟨b1,e1,h1,rfl⟩|⟨nm,a2,o2,h1,h⟩
 ·exact PA.callP [0] ((lG ts (a0+1) o hts _ h1).fails) TI cZ dY (fun _=>PFin.i rfl rfl)
 refine aA [0] (((lG ts (a0+1) o hts _ h1).good)) TI cZ dY ?_
 refine goG gT TI ?_
 obtain⟨_,rfl,hoe,hlt⟩:=gV h1
 subst o2
 clear h1
 refine wG gT TI ?_
 rcases bM h with ⟨b1,e1,h1,rfl⟩|⟨_,a3,o3,h1,h⟩
 ·exact PA.callP [0] ((gD ts (a0+1+1) o [123] hts _ h1).fails) TI cZ dY (fun _=>PFin.i rfl rfl)
 refine aA [0] (((gD ts (a0+1+1) o [123] hts _ h1).good)) TI cZ dY ?_
 refine goG gT TI ?_
 obtain⟨_,ho1,rfl,rfl⟩:=cK h1
 clear h1
 refine wG gT TI ?_
 refine bH ?_
 refine cD ?_
 refine AWp.ghostB 2 1 [.im (.string nm),.sl [] .nl,.sl [] .nl] 96 6 ?_
 suffices H: ∀(F:Nat),F≤f→ ∀(l:List Va) (a:Nat),l.length≤a→(rb (vasM ts F l a (o+1)) fun v a o=>rb (stM ts f (.li []) a o) fun l a o=>rb (endM ts [125] a o) fun _ a o=>ret (Fun.mk nm v (l.headD [])) a o)=some r→AWpK _ _ _ _ _ ⟨dn 26 [(0,.pt 0 0),(2,.pt 1 0),(3,.pt 2 0)],ofl [.box [.sl (ts.map tkV) .ro,(.im (.int .i64 ((a:Nat)))),(.im (.int .i64 ((o+1:Nat))))],.box [.im (.string ByteArray.empty),.sl [] .nl,.sl [] .nl],.box [.im (.string nm),.sl ((l).map vaV) (.mine 3),.sl [] .nl],.tip 96 6 (l).length]⟩ by
  refine AWp.cutP 4 [(0,.pt 0 0),(2,.pt 1 0),(3,.pt 2 0)] [.box [.sl (ts.map tkV) .ro,(.im (.int .i64 ((a0+1+1+1:Nat)))),(.im (.int .i64 ((o+1:Nat))))],.box [.im (.string ByteArray.empty),.sl [] .nl,.sl [] .nl],.box [.im (.string nm),.sl ((([]:List Va)).map vaV) (.mine 3),.sl [] .nl],.tip 96 6 (([]:List Va)).length] cZ ?_;exact H f (Nat.le_refl _) [] (a0+1+1+1) (by simp) h
 clear h
 intro F
 induction F with
 | zero=>intro _ l a _ h;cases h
 | succ F ih =>
 intro hf l a hla h
 rw[vasM]at h
 have hs:=oQ ts a (o+1) [118,97,114]
 by_cases hk:sees ts a [118,97,114]=true
 case neg =>
  rw[if_neg hk]at h;rw[Bool.not_eq_true]at hk;rw[hk]at hs;change (rb (stM ts f (.li []) a (o+1)) fun b a o=>rb (endM ts [125] a o) fun _ a o=>ret (Fun.mk nm l (b.headD [])) a o)=some r at h
  refine wG gT TI ?_;refine aA [0] hs TI cZ dY ?_;refine goG gT TI ?_;refine wG gT TI ?_;rcases bM h with ⟨b1,e1,h1,rfl⟩|⟨b,a4,o4,h1,h⟩
  ·exact PA.callP [0] ((GO hts hok f a (o+1) (by omega) _ h1).fails) TI cZ dY (fun _=>PFin.i rfl rfl)
  refine aA [0] (((GO hts hok f a (o+1) (by omega) _ h1).good)) TI cZ dY ?_
  refine goG gT LIT ?_;obtain⟨rfl,_,_⟩:=(fI ts f).2.1 _ _ _ _ _ _ h1;clear h1;refine wG gT LIT ?_;rcases bM h with ⟨b1,e1,h1,rfl⟩|⟨_,a5,o5,h1,h⟩
  ·exact PA.callP [0] ((pU ts a4 (o+1) [125] hts (by omega) (by omega) _ h1).fails) TI cZ dY (fun _=>PFin.i rfl rfl)
  refine aA [0] (((pU ts a4 (o+1) [125] hts (by omega) (by omega) _ h1).good)) TI cZ dY ?_
  refine goG gT TI ?_;cases h
  refine wG gT LIT ?_;refine aO (rs:=[.cell 2 37]) rfl (by first|exact .inl rfl|exact .inr rfl) (finG gT) ?_ rfl (idG cZ)
  rw[qG];simp only[Bv]
  all_goals exact wkG cZ
 rw[if_pos hk]at h
 rw[hk]at hs
 refine wG gT TI ?_
 refine aA [0] hs TI cZ dY ?_
 refine goG gT TI ?_
 refine wdG gT TI ?_
 rw[Ko]at h
 rcases bM h with ⟨b1,e1,h1,rfl⟩|⟨x,a4,o4,h1,hk2⟩
 ·exact oY [0] ((rS hts hok a (o+1) (by omega) _ h1).fails) TI cZ dY (fun _=>PFin.i rfl rfl) ⟨[⟨6,[],⟨_,[]⟩⟩],_,(.cons (uA (i:=6) rfl rfl rG mB (by decide)) .nil),by kernel_rfl⟩
 obtain⟨hoe,hle,hle2⟩:=lF h1
 subst hoe
 obtain⟨B,hB⟩: ∃B,B=l++[x]:=⟨_,rfl⟩
 have hAs:l.map vaV++[vaV x]=B.map vaV:=by rw[hB,List.map_append,List.map_singleton]
 have hAl:l.length+1=B.length:=by rw[hB];simp
 have hbl:B.length*88≤140737488355328:=by omega
 have h4:(rb (vasM ts F B a4 (o+1)) fun v a o=>rb (stM ts f (.li []) a o) fun l a o=>rb (endM ts [125] a o) fun _ a o=>ret (Fun.mk nm v (l.headD [])) a o)=some r:=by rw[hB];exact hk2
 refine aA [0] ((rS hts hok a (o+1) (by omega) _ h1).good) TI cZ dY ?_
 refine goG gT (A6 VA hAs hAl hbl xQ @List.length_map.{0,0}) ?_
 refine wdG gT (A6 VA hAs hAl hbl xQ @List.length_map.{0,0}) ?_
 refine cD ?_
 refine AWp.cutP 4 [(0,.pt 0 0),(2,.pt 1 0),(3,.pt 2 0)] [.box [.sl (ts.map tkV) .ro,(.im (.int .i64 ((a4:Nat)))),(.im (.int .i64 ((o+1:Nat))))],.box [.im (.string ByteArray.empty),.sl [] .nl,.sl [] .nl],.box [.im (.string nm),.sl ((B).map vaV) (.mine 3),.sl [] .nl],.tip 96 6 (B).length] cZ ?_
 exact ih (by omega) B a4 (by omega) h4
def fS:=A16 @oF @Sa @Jj @xM @cQ @Jh @xK @qC @Je @qB @GC @GB @uU @mC @Aq (A16 @Jc @qA @Do @fU @rH @zF @uS @iI @mB @Jb @An @uN @cN @oA @Iz (AI @xH @kQ))
def jO:=A8 aB aC @aX @aU cR dP jL iB
def mP:=A8 aH aI @bS @bP eZ lU uD uE
set_option maxHeartbeats 8000000 in
theorem Zo{ts:List Tk}{f:Nat}(hts:ts.length≤4194304)(hok: ∀t∈ts,TkOk t)(r:Rs Un)(h:uniM ts f ⟨[],[],[]⟩ 0 0=some r):XC Tryz.prog 34 [.pt 0 0] ts 0 0 unV r:=by
 refine XC.enter 47 Tryz.func34 rfl (by decide) rfl rfl (s:=[(0,.pt 0 0)]) (by rfl) ?_
 refine wG fS TI ?_
 refine bH ?_
 refine cD ?_
 refine AWp.ghostB 2 0 [.sl [] .nl,.sl [] .nl,.sl [] .nl] 96 6 ?_
 refine AWp.ghostB 2 1 [.sl [] (.mine 3),.sl [] .nl,.sl [] .nl] 76 5 ?_
 refine AWp.ghostB 2 2 [.sl [] (.mine 3),.sl [] (.mine 4),.sl [] .nl] 37 3 ?_
 suffices H: ∀(F:Nat),F≤f→ ∀(u:Un) (a:Nat),u.globals.length≤a→u.data.length≤a→u.funcs.length≤a→uniM ts F u a 0=some r→AWpK _ _ _ _ _ ⟨dn 47 [(0,.pt 0 0),(2,.pt 1 0),(3,.pt 2 0)],ofl [.box [.sl (ts.map tkV) .ro,(.im (.int .i64 ((a:Nat)))),(.im (.int .i64 ((0:Nat))))],.box [.sl [] .nl,.sl [] .nl,.sl [] .nl],.box [.sl ((u).globals.map vaV) (.mine 3),.sl ((u).data.map scV) (.mine 4),.sl ((u).funcs.map fnV) (.mine 5)],.tip 96 6 (u).globals.length,.tip 76 5 (u).data.length,.tip 37 3 (u).funcs.length]⟩ by
  refine AWp.cutP 6 [(0,.pt 0 0),(2,.pt 1 0),(3,.pt 2 0)] [.box [.sl (ts.map tkV) .ro,(.im (.int .i64 ((0:Nat)))),(.im (.int .i64 ((0:Nat))))],.box [.sl [] .nl,.sl [] .nl,.sl [] .nl],.box [.sl (((⟨[],[],[]⟩:Un)).globals.map vaV) (.mine 3),.sl (((⟨[],[],[]⟩:Un)).data.map scV) (.mine 4),.sl (((⟨[],[],[]⟩:Un)).funcs.map fnV) (.mine 5)],.tip 96 6 ((⟨[],[],[]⟩:Un)).globals.length,.tip 76 5 ((⟨[],[],[]⟩:Un)).data.length,.tip 37 3 ((⟨[],[],[]⟩:Un)).funcs.length] jO ?_;exact H f (Nat.le_refl _) ⟨[],[],[]⟩ 0 (by simp) (by simp) (by simp) h
 clear h
 intro F
 induction F with
 | zero=>intro _ u a _ _ _ h;cases h
 | succ F ih =>
 intro hf u a hg hd hfn h
 rw[uniM]at h
 by_cases hlt:ts.length≤a
 ·have hn: ¬(a:Int)<(ts.length:Int):=by omega
  rw[if_pos hlt]at h;cases h
  refine wdG fS (AI hn @List.length_map.{0,0}) ?_;refine aO (rs:=[.cell 2 27]) rfl (by first|exact .inl rfl|exact .inr rfl) (finG fS) ?_ rfl (idG jO)
  rw[sY]
  all_goals exact wkG jO
 have hn:(a:Int)<(ts.length:Int):=by omega
 rw[if_neg hlt]at h
 have hs1:=oQ ts a 0 [118,97,114]
 have hs2:=oQ ts a 0 [100,97,116,97]
 have hs3:=oQ ts a 0 [102,117,110,99]
 have hfl:=nN ts a 0 3
 refine wdG fS (AI hn @List.length_map.{0,0}) ?_
 refine wG fS TI ?_
 rcases aZ h with ⟨hk,h⟩|⟨hk,h⟩
 ·rw[hk]at hs1
  refine aA [0] hs1 TI jO mP ?_;refine goG fS TI ?_;refine wdG fS TI ?_;rcases bM h with ⟨b1,e1,h1,rfl⟩|⟨x,a4,o4,h1,hk2⟩
  ·exact oY [0] ((rS hts hok a 0 (by omega) _ h1).fails) TI jO mP (fun _=>PFin.i rfl rfl) ⟨[⟨6,[],⟨_,[]⟩⟩],_,(.cons (uA (i:=6) rfl rfl rH mB (by decide)) .nil),by kernel_rfl⟩
  obtain⟨hoe,hle,hle2⟩:=lF h1;subst hoe;obtain⟨B,hB⟩: ∃B,B=u.globals++[x]:=⟨_,rfl⟩
  have hAs:u.globals.map vaV++[vaV x]=B.map vaV:=by rw[hB,List.map_append,List.map_singleton]
  have hAl:u.globals.length+1=B.length:=by rw[hB];simp
  have hbl:B.length*88≤140737488355328:=by omega
  have h4:uniM ts F ⟨B,u.data,u.funcs⟩ a4 0=some r:=by rw[hB];exact hk2
  refine aA [0] ((rS hts hok a 0 (by omega) _ h1).good) TI jO mP ?_
  refine goG fS (A6 VA hAs hAl hbl xQ @List.length_map.{0,0}) ?_;refine wdG fS (A6 VA hAs hAl hbl xQ @List.length_map.{0,0}) ?_;refine cD ?_;refine AWp.cutP 6 [(0,.pt 0 0),(2,.pt 1 0),(3,.pt 2 0)] [.box [.sl (ts.map tkV) .ro,(.im (.int .i64 ((a4:Nat)))),(.im (.int .i64 ((0:Nat))))],.box [.sl [] .nl,.sl [] .nl,.sl [] .nl],.box [.sl (((⟨B,u.data,u.funcs⟩:Un)).globals.map vaV) (.mine 3),.sl (((⟨B,u.data,u.funcs⟩:Un)).data.map scV) (.mine 4),.sl (((⟨B,u.data,u.funcs⟩:Un)).funcs.map fnV) (.mine 5)],.tip 96 6 ((⟨B,u.data,u.funcs⟩:Un)).globals.length,.tip 76 5 ((⟨B,u.data,u.funcs⟩:Un)).data.length,.tip 37 3 ((⟨B,u.data,u.funcs⟩:Un)).funcs.length] jO ?_;exact ih (by omega) ⟨B,u.data,u.funcs⟩ a4 (by show B.length≤a4;omega) (by show u.data.length≤a4;omega) (by show u.funcs.length≤a4;omega) h4
 rw[Bool.not_eq_true]at hk
 rw[hk]at hs1
 refine aA [0] hs1 TI jO mP ?_
 refine goG fS TI ?_
 refine wG fS TI ?_
 clear hk
 rcases aZ h with ⟨hk,h⟩|⟨hk,h⟩
 ·rw[hk]at hs2
  refine aA [0] hs2 TI jO mP ?_;refine goG fS TI ?_;refine wdG fS TI ?_;rcases bM h with ⟨b1,e1,h1,rfl⟩|⟨x,a4,o4,h1,hk2⟩
  ·exact oY [0] ((Rm hts hok a 0 (by omega) _ h1).fails) TI jO mP (fun _=>PFin.i rfl rfl) ⟨[⟨6,[],⟨_,[]⟩⟩],_,(.cons (uA (i:=6) rfl rfl zF Jb (by decide)) .nil),by kernel_rfl⟩
  obtain⟨hoe,hle,hle2⟩:=wT h1;subst hoe;obtain⟨B,hB⟩: ∃B,B=u.data++[x]:=⟨_,rfl⟩
  have hAs:u.data.map scV++[scV x]=B.map scV:=by rw[hB,List.map_append,List.map_singleton]
  have hAl:u.data.length+1=B.length:=by rw[hB];simp
  have hbl:B.length*56≤140737488355328:=by omega
  have h4:uniM ts F ⟨u.globals,B,u.funcs⟩ a4 0=some r:=by rw[hB];exact hk2
  refine aA [0] ((Rm hts hok a 0 (by omega) _ h1).good) TI jO mP ?_
  refine goG fS (A6 SCT hAs hAl hbl He @List.length_map.{0,0}) ?_;refine wdG fS (A6 SCT hAs hAl hbl He @List.length_map.{0,0}) ?_;refine cD ?_;refine AWp.cutP 6 [(0,.pt 0 0),(2,.pt 1 0),(3,.pt 2 0)] [.box [.sl (ts.map tkV) .ro,(.im (.int .i64 ((a4:Nat)))),(.im (.int .i64 ((0:Nat))))],.box [.sl [] .nl,.sl [] .nl,.sl [] .nl],.box [.sl (((⟨u.globals,B,u.funcs⟩:Un)).globals.map vaV) (.mine 3),.sl (((⟨u.globals,B,u.funcs⟩:Un)).data.map scV) (.mine 4),.sl (((⟨u.globals,B,u.funcs⟩:Un)).funcs.map fnV) (.mine 5)],.tip 96 6 ((⟨u.globals,B,u.funcs⟩:Un)).globals.length,.tip 76 5 ((⟨u.globals,B,u.funcs⟩:Un)).data.length,.tip 37 3 ((⟨u.globals,B,u.funcs⟩:Un)).funcs.length] jO ?_;exact ih (by omega) ⟨u.globals,B,u.funcs⟩ a4 (by show u.globals.length≤a4;omega) (by show B.length≤a4;omega) (by show u.funcs.length≤a4;omega) h4
 rw[Bool.not_eq_true]at hk
 rw[hk]at hs2
 refine aA [0] hs2 TI jO mP ?_
 refine goG fS TI ?_
 refine wG fS TI ?_
 clear hk
 rcases aZ h with ⟨hk,h⟩|⟨hk,h⟩
 ·rw[hk]at hs3
  refine aA [0] hs3 TI jO mP ?_;refine goG fS TI ?_;refine wdG fS TI ?_;rcases bM h with ⟨b1,e1,h1,rfl⟩|⟨x,a4,o4,h1,hk2⟩
  ·exact oY [0] ((Aj hts hok a 0 (by omega) _ h1).fails) TI jO mP (fun _=>PFin.i rfl rfl) ⟨[⟨6,[],⟨_,[]⟩⟩],_,(.cons (uA (i:=6) rfl rfl uS An (by decide)) .nil),by kernel_rfl⟩
  obtain⟨hoe,hle,hle2⟩:=uC h1;subst hoe;obtain⟨B,hB⟩: ∃B,B=u.funcs++[x]:=⟨_,rfl⟩
  have hAs:u.funcs.map fnV++[fnV x]=B.map fnV:=by rw[hB,List.map_append,List.map_singleton]
  have hAl:u.funcs.length+1=B.length:=by rw[hB];simp
  have hbl:B.length*64≤140737488355328:=by omega
  have h4:uniM ts F ⟨u.globals,u.data,B⟩ a4 0=some r:=by rw[hB];exact hk2
  refine aA [0] ((Aj hts hok a 0 (by omega) _ h1).good) TI jO mP ?_
  refine goG fS (A6 FU hAs hAl hbl Qy @List.length_map.{0,0}) ?_;refine wdG fS (A6 FU hAs hAl hbl Qy @List.length_map.{0,0}) ?_;refine cD ?_;refine AWp.cutP 6 [(0,.pt 0 0),(2,.pt 1 0),(3,.pt 2 0)] [.box [.sl (ts.map tkV) .ro,(.im (.int .i64 ((a4:Nat)))),(.im (.int .i64 ((0:Nat))))],.box [.sl [] .nl,.sl [] .nl,.sl [] .nl],.box [.sl (((⟨u.globals,u.data,B⟩:Un)).globals.map vaV) (.mine 3),.sl (((⟨u.globals,u.data,B⟩:Un)).data.map scV) (.mine 4),.sl (((⟨u.globals,u.data,B⟩:Un)).funcs.map fnV) (.mine 5)],.tip 96 6 ((⟨u.globals,u.data,B⟩:Un)).globals.length,.tip 76 5 ((⟨u.globals,u.data,B⟩:Un)).data.length,.tip 37 3 ((⟨u.globals,u.data,B⟩:Un)).funcs.length] jO ?_;exact ih (by omega) ⟨u.globals,u.data,B⟩ a4 (by show u.globals.length≤a4;omega) (by show u.data.length≤a4;omega) (by show B.length≤a4;omega) h4
 rw[Bool.not_eq_true]at hk
 rw[hk]at hs3
 refine aA [0] hs3 TI jO mP ?_
 refine goG fS TI ?_
 refine wG fS TI ?_
 cases h
 exact PA.callP [0] hfl TI jO mP (fun _=>PFin.i rfl rfl)
def sA:=A16 @cQ @oE @kD @eO @eF @fM @uQ @Gr @zE @Gq @mQ @cN @nZ @kA @dG @dR
theorem Cz: ∀(a:Ex),fitE a→ ∀b,fitE b→PC Tryz.prog 24 [exV a,exV b] (.im (.bool (samE a b))):=by
 refine Ex.induct fun o k s w l hL=> ?_
 intro hfit b hfb
 obtain⟨o',k',s',w',l'⟩:=b
 obtain⟨hl1,hfL⟩:=rR hfit
 obtain⟨hl2,hfL'⟩:=rR hfb
 rw[Qk]
 simp only[Ex.op,Ex.n,Ex.name,Ex.width,Ex.l]
 refine PC.enter 60 Tryz.func24 rfl (by decide) rfl rfl (s:=[(0,exV (.mk o k s w l)),(1,exV (.mk o' k' s' w' l'))]) (by rfl) ?_
 simp only[jH]
 refine wG sA TI ?_
 refine iK rfl rfl (fun hE=> ?_) (fun hE=> ?_)
 ·have hr:(o==o'&&k==k'&&eqS s s'&&w==w'&&all2 samE l l')=false:=by
   simp only[Bool.or_eq_true,bne_iff_ne,ne_eq,Bool.not_eq_true',decide_eq_false_iff_not,beq_eq_false_iff_ne]at hE;rcases hE with (((hE|hE)|hE)|hE)|hE
   ·simp[hE]
   ·simp[hE]
   ·have:eqS s s'=false:=by unfold eqS;simpa using hE
    simp[this]
   ·simp[hE]
   ·rw[FM (by omega)];simp
  rw[hr];refine wG sA TI ?_;exact aM
 ·simp only[Bool.or_eq_false_iff,bne_eq_false_iff_eq,beq_iff_eq,Bool.not_eq_false',decide_eq_true_eq]at hE
  obtain⟨⟨⟨⟨rfl,rfl⟩,hs⟩,rfl⟩,h4⟩:=hE;obtain rfl:s=s':=(Hw s s').1 (by unfold eqS;simpa using hs)
  have h4:l.length=l'.length:=by omega
  have hr:(o==o&&k==k&&eqS s s&&w==w&&all2 samE l l')=all2 samE l l':=by simp[Lv]
  rw[hr];clear hr hs;refine wG sA TI ?_;refine bH ?_;refine ALp.cutP 2 [(2,.pt 0 0),(3,.pt 1 0),(5,(.im (.int .i64 ((((0:Nat)):Int)))))] [.box [.im (.int .i64 o),.im (.int .u32 k),.im (.string s),.im (.int .i64 w),.sl (l.map exV) .ro],.box [.im (.int .i64 o),.im (.int .u32 k),.im (.string s),.im (.int .i64 w),.sl (l'.map exV) .ro]] (A4 @aD @aU @aE @aX) ?_;refine ALp.upto l.length (to2 samE l l') (fun m=>⟨dn 60 [(2,.pt 0 0),(3,.pt 1 0),(5,(.im (.int .i64 ((((m:Nat)):Int)))))],ofl [.box [.im (.int .i64 o),.im (.int .u32 k),.im (.string s),.im (.int .i64 w),.sl (l.map exV) .ro],.box [.im (.int .i64 o),.im (.int .u32 k),.im (.string s),.im (.int .i64 w),.sl (l'.map exV) .ro]]⟩) ?_ 0 (Nat.zero_le _) (to2.zero _ _ _)
  intro m hm hI hnext
  by_cases hlt:m<l.length
  ·have hlt2:m<l'.length:=by omega
   have hlt':(m:Int)<(l.length:Int):=by omega
   have hlt2':(m:Int)<(l'.length:Int):=by omega
   have hg:=cC hlt;have hg2:=cC hlt2;have hm1:=bD hlt (by omega)
   have hc:=hL l[m] (List.getElem_mem hlt) (hfL _ (List.getElem_mem hlt)) l'[m] (hfL' _ (List.getElem_mem hlt2));refine wdG sA (A5 hlt' hlt2' hg hg2 EX) ?_;refine AR.callP hc @cA (A4 @aD @aU @aE @aX) ?_;cases hs:samE l[m] l'[m]with
   | false =>
    rw[FN hlt hlt2 hs];refine goG sA hs ?_;refine wdG sA TI ?_;exact aM
   | true =>
    refine goG sA hs ?_;refine wdG sA hm1 ?_;refine ALp.cutP 2 [(2,.pt 0 0),(3,.pt 1 0),(5,(.im (.int .i64 ((((m+1:Nat)):Int)))))] [.box [.im (.int .i64 o),.im (.int .u32 k),.im (.string s),.im (.int .i64 w),.sl (l.map exV) .ro],.box [.im (.int .i64 o),.im (.int .u32 k),.im (.string s),.im (.int .i64 w),.sl (l'.map exV) .ro]] (A4 @aD @aU @aE @aX) ?_;exact hnext (m+1) (by omega) (by omega) (hI.succ hlt hlt2 hs)
  obtain rfl:m=l.length:=by omega
  rw[hI.all h4];clear hnext hI;refine wG sA @Int.lt_irrefl ?_;exact aM
def mW:=A16 @cQ @xL @sM @jG @sJ @sI @vQ @pB @zD @zC @zB @rF @kR @pA @cN (A3 @xG @nY @jF)
def sE:=A8 @bT @bV @bU @bW @aD @aU @aE @aX
theorem Zu: ∀(a:Ty),fit a→PC Tryz.prog 98 [tyV a,tyV a] (.im (.bool (true))):=by
 refine Ty.induct fun o k s c es fs hT hF=> ?_
 intro hfit
 obtain⟨hl1,hl2,hfE,hfF⟩:=qH hfit
 refine PC.enter 99 Tryz.func98 rfl (by decide) rfl rfl (s:=[(0,tyV (.mk o k s c es fs)),(1,tyV (.mk o k s c es fs))]) (by rfl) ?_
 simp only[fY]
 refine wG mW TI ?_
 refine bH ?_
 refine ALp.cutP 2 [(2,.pt 0 0),(3,.pt 1 0),(5,(.im (.int .i64 ((((0:Nat)):Int)))))] [.box [.im (.int .i64 k),.im (.int .i64 s),.im (.int .i64 c),.sl (es.map tyV) .ro,.sl (fs.map fdV) .ro],.box [.im (.int .i64 k),.im (.int .i64 s),.im (.int .i64 c),.sl (es.map tyV) .ro,.sl (fs.map fdV) .ro]] sE ?_
 refine ALp.upto es.length (fun _=>True) (fun m=>⟨dn 99 [(2,.pt 0 0),(3,.pt 1 0),(5,(.im (.int .i64 ((((m:Nat)):Int)))))],ofl [.box [.im (.int .i64 k),.im (.int .i64 s),.im (.int .i64 c),.sl (es.map tyV) .ro,.sl (fs.map fdV) .ro],.box [.im (.int .i64 k),.im (.int .i64 s),.im (.int .i64 c),.sl (es.map tyV) .ro,.sl (fs.map fdV) .ro]]⟩) ?_ 0 (Nat.zero_le _) trivial
 intro m hm hI hnext
 by_cases hlt:m<es.length
 ·have hlt':(m:Int)<(es.length:Int):=by omega
  have hg:=cC hlt;have hm1:=bD hlt (by omega)
  have hc:=hT es[m] (List.getElem_mem hlt) (hfE _ (List.getElem_mem hlt));refine wdG mW (A3 hlt' hg TY) ?_;refine AR.callP hc @dS sE ?_;refine goG mW TI ?_;refine wdG mW hm1 ?_;refine ALp.cutP 2 [(2,.pt 0 0),(3,.pt 1 0),(5,(.im (.int .i64 ((((m+1:Nat)):Int)))))] [.box [.im (.int .i64 k),.im (.int .i64 s),.im (.int .i64 c),.sl (es.map tyV) .ro,.sl (fs.map fdV) .ro],.box [.im (.int .i64 k),.im (.int .i64 s),.im (.int .i64 c),.sl (es.map tyV) .ro,.sl (fs.map fdV) .ro]] sE ?_;exact hnext (m+1) (by omega) (by omega) trivial
 obtain rfl:m=es.length:=by omega
 clear hnext hI
 refine whG mW @Int.lt_irrefl ?_
 refine Blk'.here (Thn.n ?_)
 refine wG mW TI ?_
 refine bH ?_
 refine ALp.cutP 2 [(2,.pt 0 0),(3,.pt 1 0),(6,(.im (.int .i64 ((((0:Nat)):Int)))))] [.box [.im (.int .i64 k),.im (.int .i64 s),.im (.int .i64 c),.sl (es.map tyV) .ro,.sl (fs.map fdV) .ro],.box [.im (.int .i64 k),.im (.int .i64 s),.im (.int .i64 c),.sl (es.map tyV) .ro,.sl (fs.map fdV) .ro]] sE ?_
 refine ALp.upto fs.length (fun _=>True) (fun m=>⟨dn 99 [(2,.pt 0 0),(3,.pt 1 0),(6,(.im (.int .i64 ((((m:Nat)):Int)))))],ofl [.box [.im (.int .i64 k),.im (.int .i64 s),.im (.int .i64 c),.sl (es.map tyV) .ro,.sl (fs.map fdV) .ro],.box [.im (.int .i64 k),.im (.int .i64 s),.im (.int .i64 c),.sl (es.map tyV) .ro,.sl (fs.map fdV) .ro]]⟩) ?_ 0 (Nat.zero_le _) trivial
 intro m hm hI hnext
 by_cases hlt:m<fs.length
 ·have hlt':(m:Int)<(fs.length:Int):=by omega
  have hg:=cC hlt;have hm1:=bD hlt (by omega)
  have hc:=hF fs[m] (List.getElem_mem hlt) (hfF _ (List.getElem_mem hlt));refine wdG mW (A3 hlt' hg TY) ?_;refine AR.callP hc @dS sE ?_;refine goG mW TI ?_;refine wdG mW hm1 ?_;refine ALp.cutP 2 [(2,.pt 0 0),(3,.pt 1 0),(6,(.im (.int .i64 ((((m+1:Nat)):Int)))))] [.box [.im (.int .i64 k),.im (.int .i64 s),.im (.int .i64 c),.sl (es.map tyV) .ro,.sl (fs.map fdV) .ro],.box [.im (.int .i64 k),.im (.int .i64 s),.im (.int .i64 c),.sl (es.map tyV) .ro,.sl (fs.map fdV) .ro]] sE ?_;exact hnext (m+1) (by omega) (by omega) trivial
 obtain rfl:m=fs.length:=by omega
 clear hnext hI
 refine wG mW @Int.lt_irrefl ?_
 exact aM
def xA:=A8 @eF @jG @mC @zA @yZ @dR @jF @kQ
theorem Zt(l:List Va)(hl:Cm l)(hn:l.length≤4194304):PC Tryz.prog 46 [.sl (l.map vaV) .ro,.sl (l.map vaV) .ro] (.im (.bool (true))):=by
 refine PC.enter 42 Tryz.func46 rfl (by decide) rfl rfl (s:=[(0,.sl (l.map vaV) .ro),(1,.sl (l.map vaV) .ro)]) (by rfl) ?_
 refine wG xA @List.length_map.{0,0} ?_
 refine bH ?_
 refine ALp.cutP 0 [(0,.sl (l.map vaV) .ro),(1,.sl (l.map vaV) .ro),(5,(.im (.int .i64 ((((0:Nat)):Int)))))] [] sE ?_
 refine ALp.upto l.length (fun _=>True) (fun m=>⟨dn 42 [(0,.sl (l.map vaV) .ro),(1,.sl (l.map vaV) .ro),(5,(.im (.int .i64 ((((m:Nat)):Int)))))],ofl []⟩) ?_ 0 (Nat.zero_le _) trivial
 intro m hm hI hnext
 by_cases hlt:m<l.length
 ·have hlt':(m:Int)<(l.length:Int):=by omega
  have hg:=cC hlt;have hm1:=bD hlt (by omega)
  obtain⟨hty,hnm⟩:=hl _ (List.getElem_mem hlt);have hc:=Zu l[m].ty hty;refine wdG xA (A3 hlt' hg VA) ?_;refine AR.callP hc @dS sE ?_;refine goG xA TI ?_;refine wdG xA hm1 ?_;refine ALp.cutP 0 [(0,.sl (l.map vaV) .ro),(1,.sl (l.map vaV) .ro),(5,(.im (.int .i64 ((((m+1:Nat)):Int)))))] [] sE ?_;exact hnext (m+1) (by omega) (by omega) trivial
 obtain rfl:m=l.length:=by omega
 clear hnext hI
 refine wG xA @Int.lt_irrefl ?_
 exact aM
def iR:=A16 @rJ @iJ @cQ @mE @kD @eO @eF @hG @nI @uT @fM @kH @Dm @mR @lN (A10 @pE @pD @pC @rE @gH @cN @kB @kA @dG @dR)
def qO:=A8 @aD @aU @aE @aX aQ aG aN aV
def SamL(l:List Nd):Prop:=PC Tryz.prog 53 [.sl (l.map ndV) .ro,.sl (l.map ndV) .ro] (.im (.bool (true)))
theorem Zv(l:List Nd)(hl:mF l)(h: ∀t∈l,SamL t.l∧SamL t.el∧ ∀c∈t.cs,SamL c):SamL l:=by
 show PC _ _ _ _
 obtain⟨hn,hf⟩:=hl
 refine PC.enter 120 Tryz.func53 rfl (by decide) rfl rfl (s:=[(0,.sl (l.map ndV) .ro),(1,.sl (l.map ndV) .ro)]) (by rfl) ?_
 refine wG iR @List.length_map.{0,0} ?_
 refine bH ?_
 refine ALp.cutP 0 [(0,.sl (l.map ndV) .ro),(1,.sl (l.map ndV) .ro),(5,(.im (.int .i64 ((((0:Nat)):Int)))))] [] qO ?_
 refine ALp.upto l.length (fun _=>True) (fun m=>⟨dn 120 [(0,.sl (l.map ndV) .ro),(1,.sl (l.map ndV) .ro),(5,(.im (.int .i64 ((((m:Nat)):Int)))))],ofl []⟩) ?_ 0 (Nat.zero_le _) trivial
 intro m hm hI hnext
 by_cases hlt:m<l.length
 ·have hlt':(m:Int)<(l.length:Int):=by omega
  have hg:=cC hlt;have hm1:=bD hlt (by omega)
  obtain⟨h1,h2,h3⟩:=h l[m] (List.getElem_mem hlt);unfold SamL at h1 h2;have hf:=mZ (hf _ (List.getElem_mem hlt));generalize l[m]=t at hg h1 h2 h3 hf;obtain⟨_,hnm,⟨hel,hex⟩,_,_,hcl,hcx⟩:=hf;refine wG iR (A3 hlt' hg BN14) ?_;refine wdG iR BN14 ?_;refine AR.callP h1 TI qO ?_;refine goG iR BN14 ?_;refine AR.callP h2 TI qO ?_;refine goG iR BN14 ?_;refine wdG iR BN14 ?_;refine bH ?_;refine ALp.cutP 2 [(0,.sl (l.map ndV) .ro),(1,.sl (l.map ndV) .ro),(5,(.im (.int .i64 ((m:Int))))),(6,.pt 0 0),(7,.pt 1 0),(8,(.im (.int .i64 ((((0:Nat)):Int)))))] [.box [.im (.int .i64 (t).kind),.im (.int .i64 (t).width),.im (.string (t).name),.sl ((t).e.map exV) .ro,.sl ((t).l.map ndV) .ro,.sl ((t).el.map ndV) .ro,.sl ((t).cs.map nlV) .ro],.box [.im (.int .i64 (t).kind),.im (.int .i64 (t).width),.im (.string (t).name),.sl ((t).e.map exV) .ro,.sl ((t).l.map ndV) .ro,.sl ((t).el.map ndV) .ro,.sl ((t).cs.map nlV) .ro]] qO ?_;refine ALp.upto t.e.length (fun _=>True) (fun j=>⟨dn 120 [(0,.sl (l.map ndV) .ro),(1,.sl (l.map ndV) .ro),(5,(.im (.int .i64 ((m:Int))))),(6,.pt 0 0),(7,.pt 1 0),(8,(.im (.int .i64 ((((j:Nat)):Int)))))],ofl [.box [.im (.int .i64 (t).kind),.im (.int .i64 (t).width),.im (.string (t).name),.sl ((t).e.map exV) .ro,.sl ((t).l.map ndV) .ro,.sl ((t).el.map ndV) .ro,.sl ((t).cs.map nlV) .ro],.box [.im (.int .i64 (t).kind),.im (.int .i64 (t).width),.im (.string (t).name),.sl ((t).e.map exV) .ro,.sl ((t).l.map ndV) .ro,.sl ((t).el.map ndV) .ro,.sl ((t).cs.map nlV) .ro]]⟩) ?_ 0 (Nat.zero_le _) trivial
  intro j hj hJ hnext2
  by_cases hlj:j<t.e.length
  ·have hlj':(j:Int)<(t.e.length:Int):=by omega
   have hgj:=cC hlj;have hj1:=bD hlj (by omega)
   have hc:=Cz t.e[j] (hex _ (List.getElem_mem hlj)) t.e[j] (hex _ (List.getElem_mem hlj));rw[Fc]at hc;refine wdG iR (A3 hlj' hgj EX) ?_;refine AR.callP hc @cA qO ?_;refine goG iR TI ?_;refine wdG iR hj1 ?_;refine ALp.cutP 2 [(0,.sl (l.map ndV) .ro),(1,.sl (l.map ndV) .ro),(5,(.im (.int .i64 ((m:Int))))),(6,.pt 0 0),(7,.pt 1 0),(8,(.im (.int .i64 ((((j+1:Nat)):Int)))))] [.box [.im (.int .i64 (t).kind),.im (.int .i64 (t).width),.im (.string (t).name),.sl ((t).e.map exV) .ro,.sl ((t).l.map ndV) .ro,.sl ((t).el.map ndV) .ro,.sl ((t).cs.map nlV) .ro],.box [.im (.int .i64 (t).kind),.im (.int .i64 (t).width),.im (.string (t).name),.sl ((t).e.map exV) .ro,.sl ((t).l.map ndV) .ro,.sl ((t).el.map ndV) .ro,.sl ((t).cs.map nlV) .ro]] qO ?_;exact hnext2 (j+1) (by omega) (by omega) trivial
  obtain rfl:j=t.e.length:=by omega
  clear hnext2 hJ;refine whG iR @Int.lt_irrefl ?_;refine Blk'.here (Thn.n ?_);refine wG iR TI ?_;refine bH ?_;refine ALp.cutP 2 [(0,.sl (l.map ndV) .ro),(1,.sl (l.map ndV) .ro),(5,(.im (.int .i64 ((m:Int))))),(6,.pt 0 0),(7,.pt 1 0),(9,(.im (.int .i64 ((((0:Nat)):Int)))))] [.box [.im (.int .i64 (t).kind),.im (.int .i64 (t).width),.im (.string (t).name),.sl ((t).e.map exV) .ro,.sl ((t).l.map ndV) .ro,.sl ((t).el.map ndV) .ro,.sl ((t).cs.map nlV) .ro],.box [.im (.int .i64 (t).kind),.im (.int .i64 (t).width),.im (.string (t).name),.sl ((t).e.map exV) .ro,.sl ((t).l.map ndV) .ro,.sl ((t).el.map ndV) .ro,.sl ((t).cs.map nlV) .ro]] qO ?_;refine ALp.upto t.cs.length (fun _=>True) (fun j=>⟨dn 120 [(0,.sl (l.map ndV) .ro),(1,.sl (l.map ndV) .ro),(5,(.im (.int .i64 ((m:Int))))),(6,.pt 0 0),(7,.pt 1 0),(9,(.im (.int .i64 ((((j:Nat)):Int)))))],ofl [.box [.im (.int .i64 (t).kind),.im (.int .i64 (t).width),.im (.string (t).name),.sl ((t).e.map exV) .ro,.sl ((t).l.map ndV) .ro,.sl ((t).el.map ndV) .ro,.sl ((t).cs.map nlV) .ro],.box [.im (.int .i64 (t).kind),.im (.int .i64 (t).width),.im (.string (t).name),.sl ((t).e.map exV) .ro,.sl ((t).l.map ndV) .ro,.sl ((t).el.map ndV) .ro,.sl ((t).cs.map nlV) .ro]]⟩) ?_ 0 (Nat.zero_le _) trivial
  intro j hj hJ hnext2
  by_cases hlj:j<t.cs.length
  ·have hlj':(j:Int)<(t.cs.length:Int):=by omega
   have hgj:=cC hlj;have hj1:=bD hlj (by omega)
   have hc:=h3 t.cs[j] (List.getElem_mem hlj);unfold SamL at hc;refine wdG iR (A3 hlj' hgj BN14) ?_;refine AR.callP hc TI qO ?_;refine goG iR TI ?_;refine wdG iR hj1 ?_;refine ALp.cutP 2 [(0,.sl (l.map ndV) .ro),(1,.sl (l.map ndV) .ro),(5,(.im (.int .i64 ((m:Int))))),(6,.pt 0 0),(7,.pt 1 0),(9,(.im (.int .i64 ((((j+1:Nat)):Int)))))] [.box [.im (.int .i64 (t).kind),.im (.int .i64 (t).width),.im (.string (t).name),.sl ((t).e.map exV) .ro,.sl ((t).l.map ndV) .ro,.sl ((t).el.map ndV) .ro,.sl ((t).cs.map nlV) .ro],.box [.im (.int .i64 (t).kind),.im (.int .i64 (t).width),.im (.string (t).name),.sl ((t).e.map exV) .ro,.sl ((t).l.map ndV) .ro,.sl ((t).el.map ndV) .ro,.sl ((t).cs.map nlV) .ro]] qO ?_;exact hnext2 (j+1) (by omega) (by omega) trivial
  obtain rfl:j=t.cs.length:=by omega
  clear hnext2 hJ;refine whG iR @Int.lt_irrefl ?_;refine Blk'.here (Blk'.n (Thn.n ?_));refine wG iR hm1 ?_;refine ALp.cutP 0 [(0,.sl (l.map ndV) .ro),(1,.sl (l.map ndV) .ro),(5,(.im (.int .i64 ((((m+1:Nat)):Int)))))] [] qO ?_;exact hnext (m+1) (by omega) (by omega) trivial
 obtain rfl:m=l.length:=by omega
 clear hnext hI
 refine wG iR @Int.lt_irrefl ?_
 exact aM
theorem EO: ∀l,mF l→SamL l:=by
 refine Nd.listInduct fun l ih=> ?_
 intro hl
 refine Zv l hl fun t ht=> ?_
 have hf:=mZ (hl.2 t ht)
 obtain⟨i1,i2,i3⟩:=ih t ht
 exact⟨i1 hf.2.2.2.1,i2 hf.2.2.2.2.1,fun c hc=>i3 c hc (hf.2.2.2.2.2.2 c hc)⟩
def Al:=A9 @oF @mE @eF @Gs @rG @uR @mB @kB @dR
def BB:=A5 jL iB dP @aU aG
theorem EP(f:Fun)(hf:fitFn f):PC Tryz.prog 20 [fnV f,fnV f] (.im (.bool (true))):=by
 have h1:=Zt f.vars hf.vn (Nat.le_trans hf.vl (by decide))
 have h2:=EO f.body hf.bd
 unfold SamL at h2
 rw[qG]
 refine PC.enter 24 Tryz.func20 rfl (by decide) rfl rfl (s:=[(0,.ag [.im (.string f.name),.sl (f.vars.map vaV) .ro,.sl (f.body.map ndV) .ro]),(1,.ag [.im (.string f.name),.sl (f.vars.map vaV) .ro,.sl (f.body.map ndV) .ro])]) (by rfl) ?_
 refine wdG Al TI ?_
 refine AR.callP h1 TI BB ?_
 refine goG Al TI ?_
 refine AR.callP h2 TI BB ?_
 refine goG Al TI ?_
 refine wG Al TI ?_
 exact aM
end Go.Proofs.YtmbmmckagcdapaaGreatDoor
