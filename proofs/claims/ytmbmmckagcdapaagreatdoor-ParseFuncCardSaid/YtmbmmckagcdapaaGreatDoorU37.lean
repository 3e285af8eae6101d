import Derived.Test.YtmbmmckagcdapaaGreatDoorU10
import Derived.Test.YtmbmmckagcdapaaGreatDoorU35
import Derived.Test.YtmbmmckagcdapaaGreatDoorU36
import Derived.Test.YtmbmmckagcdapaaGreatDoorU30
import Derived.Test.YtmbmmckagcdapaaGreatDoorU28
import Derived.Test.YtmbmmckagcdapaaGreatDoorU09
set_option linter.all false
namespace Go.Proofs.YtmbmmckagcdapaaGreatDoor
open Go.RowKit
theorem Lr: ∀(l:List Nat) (a n:Nat),l.foldl max a≤n↔a≤n∧ ∀x∈l,x≤n
 | [],a,n=>by simp
 | x::r,a,n=>by rw[List.foldl_cons,Lr r];simp[Nat.max_le,and_assoc]
def lv:Ex→Nat:=Ex.para fun _ r=>r.foldl max 0+1
theorem Qo(o k:Int)(s:ByteArray)(w:Int)(l:List Ex):lv (.mk o k s w l)=(l.map lv).foldl max 0+1:=by
 unfold lv
 rw[Ex.para_mk]
theorem IK{o k:Int}{s:ByteArray}{w:Int}{l:List Ex}{t:Ex}(h:t∈l):lv t+1≤lv (.mk o k s w l):=by
 rw[Qo]
 have:=((Lr (l.map lv) 0 _).1 (Nat.le_refl _)).2 _ (List.mem_map_of_mem h)
 omega
theorem Qp{o k:Int}{s:ByteArray}{w:Int}{l:List Ex}{n:Nat}(h: ∀t∈l,lv t≤n):lv (.mk o k s w l)≤n+1:=by
 rw[Qo]
 have:=(Lr (l.map lv) 0 n).2 ⟨Nat.zero_le _,fun x hx=>by obtain⟨t,ht,rfl⟩:=List.mem_map.1 hx;exact h t ht⟩
 omega
theorem Yb(o w:Int)(x:Ex):lv (mkU o w x)≤lv x+1:=Qp fun t ht=>by simp at ht;rw[ht];exact Nat.le_refl _
theorem JD(e:Ex): ∀n:Int,esh e n=decide ((lv e:Int)≤n):=by
 induction e using Ex.induct with
 | h o k s w l ih =>
 intro n
 rw[Cp,Qo,Bool.eq_iff_iff]
 simp only[Bool.and_eq_true,decide_eq_true_eq,List.all_eq_true]
 constructor
 ·rintro⟨h1,h2⟩
  have:(l.map lv).foldl max 0≤(n-1).toNat:=(Lr _ _ _).2 ⟨Nat.zero_le _,fun x hx=>by
   obtain⟨t,ht,rfl⟩:=List.mem_map.1 hx;have:=h2 t ht;rw[ih t ht]at this;have:=of_decide_eq_true this
   omega⟩
  omega
 ·intro h
  have h0:(l.map lv).foldl max 0≤(n-1).toNat:=by omega
  refine⟨by omega,fun t ht=> ?_⟩
  rw[ih t ht];have:=((Lr _ _ _).1 h0).2 _ (List.mem_map_of_mem ht);exact decide_eq_true (by omega)
theorem IW{ts:List Tk}: ∀f,(∀a o x b p,exM ts f .op a o=some (.ok x b p)→lv x≤b-a)∧(∀l a o x b p,exM ts f (.ex l) a o=some (.ok x b p)→lv x≤b-a)∧(∀l y a0 a o x b p,a0≤a→lv y≤a-a0→exM ts f (.lo l y) a o=some (.ok x b p)→lv x≤b-a0):=by
 intro f
 induction f with
 | zero=>exact⟨(fun _ _ _ _ _ h=>by cases h),(fun _ _ _ _ _ _ h=>by cases h),(fun _ _ _ _ _ _ _ _ _ _ h=>by cases h)⟩
 | succ f ih =>
  obtain⟨i1,i2,i3⟩:=ih
  have hin: ∀q a o x b p,(∀y,lv (q y)≤lv y+1)→inn ts (exM ts f (.ex 1)) q a o=some (.ok x b p)→lv x≤b-a:=fun q a o x b p hq h=>by
   obtain⟨_,a1,o1,h1,h⟩:=bE h;obtain⟨y,a2,o2,h2,h⟩:=bE h;obtain⟨_,a3,o3,h3,h⟩:=bE h;cases h
   have e1:=cK h1;have e2:=dH _ _ _ _ _ _ _ _ h2;have e3:=mV h3;have e4:=i2 _ _ _ _ _ _ h2;have e5:=hq y;omega
  refine⟨fun a o x b p h=> ?_,fun l a o x b p h=> ?_,fun l y a0 a o x b p ha hy h=> ?_⟩
  ·rw[exM]at h
   rcases aZ h with ⟨hk,h⟩|⟨_,h⟩
   ·cases h;exact Nat.le_trans (Qp (n:=0) (by simp)) (by omega)
   rcases aZ h with ⟨hk,h⟩|⟨_,h⟩
   ·cases h;exact Nat.le_trans (Qp (n:=0) (by simp)) (by omega)
   rcases aZ h with ⟨hk,h⟩|⟨_,h⟩
   ·cases hw:accW (pk ts a).text with
    | none=>rw[hw]at h;cases h
    | some p=>rw[hw]at h;have:=hin _ _ _ _ _ _ (fun y=>Yb _ _ y) h;omega
   rcases aZ h with ⟨hk,h⟩|⟨_,h⟩
   ·rcases aZ h with ⟨_,h⟩|⟨_,h⟩
    ·exact hin _ _ _ _ _ _ (fun y=>Nat.le_succ _) h
    rcases aZ h with ⟨_,h⟩|⟨_,h⟩
    ·obtain⟨_,a1,o1,h1,h⟩:=bE h
     obtain⟨y,a2,o2,h2,h⟩:=bE h;cases h
     have e1:=cK h1;have e2:=dH _ _ _ _ _ _ _ _ h2;have e4:=i1 _ _ _ _ _ h2;have e5:=Yb (if(pk ts a).text=[45]then 17 else 16) 0 y
     omega
    ·cases h
   ·cases h
  ·rw[exM]at h
   obtain⟨y,a1,o1,h1,h⟩:=bE h;have e2:=dH _ _ _ _ _ _ _ _ h1;exact i3 _ _ _ _ _ _ _ _ e2.2 (i1 _ _ _ _ _ h1) h
  ·rw[exM]at h
   rcases aZ h with ⟨_,h⟩|⟨_,h⟩
   ·cases h;exact hy
   ·obtain⟨z,a1,o1,h1,h⟩:=bE h
    have e2:=dH _ _ _ _ _ _ _ _ h1;have e4:=i2 _ _ _ _ _ _ h1;refine i3 _ _ a0 _ _ _ _ _ (by omega) (Nat.le_trans (Qp (n:=a1-a0-1) fun t ht=> ?_) (by omega)) h
    simp at ht;rcases ht with rfl|rfl<;>omega
theorem Kq{α:Type}{ts:List Tk}{m:Nat→Nat→Option (Rs α)}{x:α}{s1:Sr}(q:Post m ⟨0,0,0⟩ x s1) :
  (∃b e,allM ts (m 0 0)=some (.bad b e)∧(lastS ts s1).a=b∧(lastS ts s1).e=e∧e≠0)∨ ∃a p,allM ts (m 0 0)=some (.ok x a p)∧lastS ts s1=⟨a,p,0⟩:=by
 have h:=q.bind (k:=fun x a o=>if a<ts.length then some (.bad a 3)else ret x a o) (lastPost (ts:=ts) fun h=>by obtain⟨_,_,_,p,_,_,w⟩:=q.ok h;rw[w];exact⟨p,rfl⟩)
 obtain⟨o,ho,h⟩:=h.2 rfl
 have ho:(0:Int)=o:=ho
 obtain rfl:o=0:=by omega
 rcases h with ⟨a,p,z,w⟩|⟨b,e,z,z1,z2,z3⟩
 ·exact .inr ⟨a,p,z,w⟩
 ·exact .inl ⟨b,e,z,z1,z2,z3⟩
def yU:=A6 @kD @eO @fM @mQ @kA @dG
theorem Um: ∀(e:Ex),fitE e→lv e≤4194304→PC Tryz.prog 63 [exV e] (.im (.int .i64 (((lv e:Nat):Int)))):=by
 intro e
 induction e using Ex.induct with
 | h o n s w l ih =>
 intro hf hlv
 obtain⟨hl,hfl⟩:=rR hf
 have hch: ∀t∈l,lv t≤4194304:=fun t ht=>by have:=IK (o:=o) (k:=n) (s:=s) (w:=w) ht;omega
 rw[Qo]at hlv ⊢
 refine PC.enter 22 Tryz.func63 rfl (by decide) rfl rfl (s:=[(0,exV (.mk o n s w l))]) (by rfl) ?_
 refine wG yU @jH ?_
 refine bH ?_
 refine ALp.cutP 1 [(1,.pt 0 0),(3,(.im (.int .i64 (((((l.take (0)).map lv).foldl max 0:Nat):Int))))),(4,(.im (.int .i64 ((((0:Nat)):Int)))))] [.box [(.im (.int .i64 (o))),.im (.int .u32 n),.im (.string s),(.im (.int .i64 (w))),.sl (l.map exV) .ro]] (A4 aB aC @aE @aD) ?_
 refine ALp.upto l.length (fun _=>True) (fun m=>⟨dn 22 [(1,.pt 0 0),(3,(.im (.int .i64 (((((l.take (m)).map lv).foldl max 0:Nat):Int))))),(4,(.im (.int .i64 ((((m:Nat)):Int)))))],ofl [.box [(.im (.int .i64 (o))),.im (.int .u32 n),.im (.string s),(.im (.int .i64 (w))),.sl (l.map exV) .ro]]⟩) ?_ 0 (Nat.zero_le _) trivial
 intro m hm _ hnext
 by_cases hlt:m<l.length
 ·have hlt':(m:Int)<(l.length:Int):=by omega
  have hm1:=bD hlt (by omega)
  have hg:=cC hlt;have hc:=ih l[m] (List.getElem_mem hlt) (hfl _ (List.getElem_mem hlt)) (hch _ (List.getElem_mem hlt));have hn:=hnext (m+1) (by omega) (by omega) trivial
  have hs:((l.take (m+1)).map lv).foldl max 0=max (((l.take m).map lv).foldl max 0) (lv l[m]):=by
   rw[List.take_succ_eq_append_getElem hlt,List.map_append,List.foldl_append];rfl
  have hmx:(if((((l.take m).map lv).foldl max 0:Nat):Int)<(lv l[m]:Int)then(lv l[m]:Int)else((((l.take m).map lv).foldl max 0:Nat):Int))=((((l.take (m+1)).map lv).foldl max 0:Nat):Int):=by
   rw[hs];split<;>omega
  clear hnext hs;generalize ((l.take m).map lv).foldl max 0=x0 at hmx ⊢;generalize ((l.take (m+1)).map lv).foldl max 0=x1 at hmx hn;refine wG yU (A3 hlt' hg BN01) ?_;refine AR.callP hc @cA (A4 aB aC @aE @aD) ?_;refine goG yU TI ?_;refine wG yU (AI hm1 hmx) ?_;refine ALp.cutP 1 [(1,.pt 0 0),(3,(.im (.int .i64 ((x1:Int))))),(4,(.im (.int .i64 ((((m+1:Nat)):Int)))))] [.box [(.im (.int .i64 (o))),.im (.int .u32 n),.im (.string s),(.im (.int .i64 (w))),.sl (l.map exV) .ro]] (A4 aB aC @aE @aD) ?_;exact hn
 obtain rfl:m=l.length:=by omega
 clear hnext
 rw[List.take_length]
 generalize (l.map lv).foldl max 0=x0 at hlv ⊢
 have hw:IntKind.i64.wrap ((x0:Int)+1)=((x0+1:Nat):Int):=by rw[cM (by omega)];omega
 have hn: ¬(l.length:Int)<(l.length:Int):=by omega
 refine wG yU (AI hn hw) ?_
 refine aJ (rs:=[.tmp 2]) rfl (by first|exact .inl rfl|exact .inr rfl) (finG yU) ?_
 all_goals exact wkG (A4 aB aC @aE @aD)
def fF:=A9 @kE @eO @Nm @fG @jB @Nf @oB @kC @dG
set_option maxHeartbeats 4000000 in
theorem FH(s:Bs)(hs:s.length≤65536):PC Tryz.prog 23 [.im (.string ⟨(s).toArray⟩)] (.tu [exV (expP s).1,(.im (.int .i64 ((expP s).2)))]):=by
 have h1:=Rq s hs
 obtain⟨hok,hts,hes⟩:=pM s
 have hW:=Xg s
 unfold expP
 generalize scnR s=q at h1 hok hts hes hW
 obtain⟨ts,e⟩:=q
 simp only at h1 hok hts hes hW ⊢
 by_cases he:e=0
 case neg =>
  rw[if_pos he];refine PC.enter 39 Tryz.func23 rfl (by decide) rfl rfl (s:=[(0,.im (.string ⟨(s).toArray⟩))]) (by rfl) ?_
  refine wG fF TI ?_;refine AR.callP h1 TI (A4 aB aC @aE @aD) ?_;refine goG fF TI ?_;refine wG fF he ?_;refine aJ (rs:=[.cell 2 46,.tmp 3]) rfl (by first|exact .inl rfl|exact .inr rfl) (finG fF) ?_
  all_goals exact wkG (A4 aB aC @aE @aD)
 subst he
 rw[if_neg (by decide)]
 obtain⟨r,hr⟩:=(Cn ts (fu ts)).2.1 1 0 0 (by unfold fu;omega)
 obtain⟨x,⟨a1,o1,e1⟩,q,d⟩:=GP (by omega) hok hW (fu ts) 1 (by decide) ⟨0,0,0⟩ (fun _=>⟨0,rfl,r,hr⟩)
 have d2:=Rj ts ⟨a1,o1,e1⟩
 have hq:=Kq (ts:=ts) q
 clear q hr
 generalize lastS ts ⟨a1,o1,e1⟩=s2 at d2 hq
 obtain⟨a2,o2,e2⟩:=s2
 simp only[rbx]at d d2
 change DC _ _ _ [.box [.sl (ts.map tkV) .ro,(.im (.int .i64 (0))),(.im (.int .i64 (0))),(.im (.int .i64 (0)))]] _ _ at d
 change DC _ _ [.pt 0 0,(.im (.int .i64 (1)))] _ _ _ at d
 rcases yL ts with ⟨b,e,hz,hx,he,hb⟩|⟨y,b,p,hz,hx,hr⟩
 ·have he: ¬e=0:=Uj he
  rw[hz]at hq;rcases hq with ⟨b',e',w,w1,w2,_⟩|⟨a,p,w,_⟩
  case inr=>cases w
  cases w
  obtain rfl:e2=e:=w2;rw[hx,if_pos he];refine PC.enter 39 Tryz.func23 rfl (by decide) rfl rfl (s:=[(0,.im (.string ⟨(s).toArray⟩))]) (by rfl) ?_
  refine wG fF TI ?_;refine AR.callP h1 TI (A4 aB aC @aE @aD) ?_;refine goG fF TI ?_;refine wG fF TI ?_;refine aA [1] d TI (A4 aB aC @aE @aD) (A4 aH aI @aK @aL) ?_;refine goG fF BN01 ?_;refine wG fF BN01 ?_;refine aA [1] d2 TI (A4 aB aC @aE @aD) (A4 aH aI @aK @aL) ?_;refine goG fF TI ?_;refine wdG fF he ?_;refine aJ (rs:=[.cell 2 46,.tmp 3]) rfl (by first|exact .inl rfl|exact .inr rfl) (finG fF) ?_
  all_goals exact wkG (A4 aB aC @aE @aD)
 rw[hz]at hq
 rcases hq with ⟨b',e',w,_⟩|⟨a,p',w,w1⟩
 ·cases w
 cases w
 obtain rfl:e2=0:=congrArg Sr.e w1
 have hf:=(Ah hok _).2.1 _ _ _ _ _ _ hr
 have hle:=(Hu _).2.1 _ _ _ _ _ _ hr
 have hlv:=(IW _).2.1 _ _ _ _ _ _ hr
 have h3:=Um x hf (by omega)
 rw[hx,if_neg (fun h=>h rfl)]
 simp only
 rw[JD]
 generalize lv x=v at h3
 by_cases hv:(v:Int)≤64
 ·have hn: ¬(v:Int)>64:=by omega
  rw[decide_eq_true hv,if_pos rfl];refine PC.enter 39 Tryz.func23 rfl (by decide) rfl rfl (s:=[(0,.im (.string ⟨(s).toArray⟩))]) (by rfl) ?_
  refine wG fF TI ?_;refine AR.callP h1 TI (A4 aB aC @aE @aD) ?_;refine goG fF TI ?_;refine wG fF TI ?_;refine aA [1] d TI (A4 aB aC @aE @aD) (A4 aH aI @aK @aL) ?_;refine goG fF BN01 ?_;refine wG fF BN01 ?_;refine aA [1] d2 TI (A4 aB aC @aE @aD) (A4 aH aI @aK @aL) ?_;refine goG fF TI ?_;refine wdG fF BN01 ?_;refine AR.callP h3 @cA (A4 aB aC @aE @aD) ?_;refine goG fF (AI hn BN01) ?_;refine wG fF BN01 ?_;refine aJ (rs:=[.cell 2 46,.tmp 3]) rfl (by first|exact .inl rfl|exact .inr rfl) (finG fF) ?_
  rw[cA x]
  all_goals exact wkG (A4 aB aC @aE @aD)
 ·have hn:(v:Int)>64:=by omega
  rw[decide_eq_false hv,if_neg (by decide)]
  refine PC.enter 39 Tryz.func23 rfl (by decide) rfl rfl (s:=[(0,.im (.string ⟨(s).toArray⟩))]) (by rfl) ?_
  refine wG fF TI ?_;refine AR.callP h1 TI (A4 aB aC @aE @aD) ?_;refine goG fF TI ?_;refine wG fF TI ?_;refine aA [1] d TI (A4 aB aC @aE @aD) (A4 aH aI @aK @aL) ?_;refine goG fF BN01 ?_;refine wG fF BN01 ?_;refine aA [1] d2 TI (A4 aB aC @aE @aD) (A4 aH aI @aK @aL) ?_;refine goG fF TI ?_;refine wdG fF BN01 ?_;refine AR.callP h3 @cA (A4 aB aC @aE @aD) ?_;refine goG fF (AI hn BN01) ?_;refine wG fF BN01 ?_;refine aJ (rs:=[.cell 2 46,.tmp 3]) rfl (by first|exact .inl rfl|exact .inr rfl) (finG fF) ?_
  all_goals exact wkG (A4 aB aC @aE @aD)
def jI:=A9 @kE @sN @Nm @qC @jB @Nf @Ap @kC @oA
set_option maxHeartbeats 4000000 in
theorem FG(s:Bs)(hs:s.length≤65536):PC Tryz.prog 27 [.im (.string ⟨(s).toArray⟩)] (.tu [fnV (funP s).1,(.im (.int .i64 ((funP s).2)))]):=by
 have h1:=Rq s hs
 obtain⟨hok,hts,hes⟩:=pM s
 have hW:=Xg s
 unfold funP
 generalize scnR s=q at h1 hok hts hes hW
 obtain⟨ts,e⟩:=q
 simp only at h1 hok hts hes hW ⊢
 by_cases he:e=0
 case neg =>
  rw[if_pos he];refine PC.enter 35 Tryz.func27 rfl (by decide) rfl rfl (s:=[(0,.im (.string ⟨(s).toArray⟩))]) (by rfl) ?_
  refine wG jI TI ?_;refine AR.callP h1 TI (A10 aB aC @aX @aU cR dP jL iB aG kT) ?_;refine goG jI TI ?_;refine wG jI he ?_;refine aJ (rs:=[.cell 2 37,.tmp 3]) rfl (by first|exact .inl rfl|exact .inr rfl) (finG jI) ?_
  all_goals exact wkG (A10 aB aC @aX @aU cR dP jL iB aG kT)
 subst he
 rw[if_neg (by decide)]
 obtain⟨r,hr⟩:=yH ts (f:=fu ts) (a:=0) (o:=0) (by unfold fu;omega)
 obtain⟨x,⟨a1,o1,e1⟩,q,d⟩:=JT (f:=fu ts) (by omega) hok hW ⟨0,0,0⟩ (fun _=>⟨0,rfl,r,hr⟩)
 have d2:=Rj ts ⟨a1,o1,e1⟩
 have hq:=Kq (ts:=ts) q
 clear q hr
 generalize lastS ts ⟨a1,o1,e1⟩=s2 at d2 hq
 obtain⟨a2,o2,e2⟩:=s2
 simp only[rbx]at d d2
 change DC _ _ _ [.box [.sl (ts.map tkV) .ro,(.im (.int .i64 (0))),(.im (.int .i64 (0))),(.im (.int .i64 (0)))]] _ _ at d
 rcases yI ts with ⟨b,e,hz,hx,he,hb⟩|⟨y,b,p,hz,hx,hr⟩
 ·have he: ¬e=0:=Uj he
  rw[hz]at hq;rcases hq with ⟨b',e',w,w1,w2,_⟩|⟨a,p,w,_⟩
  case inr=>cases w
  cases w
  obtain rfl:e2=e:=w2;rw[hx,if_pos he];refine PC.enter 35 Tryz.func27 rfl (by decide) rfl rfl (s:=[(0,.im (.string ⟨(s).toArray⟩))]) (by rfl) ?_
  refine wG jI TI ?_;refine AR.callP h1 TI (A10 aB aC @aX @aU cR dP jL iB aG kT) ?_;refine goG jI TI ?_;refine wG jI TI ?_;refine aA [1] d TI (A10 aB aC @aX @aU cR dP jL iB aG kT) (A10 aH aI @bS @bP eZ lU uD uE aR vT) ?_;refine goG jI FU ?_;refine wG jI FU ?_;refine aA [1] d2 TI (A10 aB aC @aX @aU cR dP jL iB aG kT) (A10 aH aI @bS @bP eZ lU uD uE aR vT) ?_;refine goG jI TI ?_;refine wdG jI he ?_;refine aJ (rs:=[.cell 2 37,.tmp 3]) rfl (by first|exact .inl rfl|exact .inr rfl) (finG jI) ?_
  all_goals exact wkG (A10 aB aC @aX @aU cR dP jL iB aG kT)
 rw[hz]at hq
 rcases hq with ⟨b',e',w,_⟩|⟨a,p',w,w1⟩
 ·cases w
 cases w
 obtain rfl:e2=0:=congrArg Sr.e w1
 rw[hx,if_neg (fun h=>h rfl)]
 simp only
 refine PC.enter 35 Tryz.func27 rfl (by decide) rfl rfl (s:=[(0,.im (.string ⟨(s).toArray⟩))]) (by rfl) ?_
 refine wG jI TI ?_
 refine AR.callP h1 TI (A10 aB aC @aX @aU cR dP jL iB aG kT) ?_
 refine goG jI TI ?_
 refine wG jI TI ?_
 refine aA [1] d TI (A10 aB aC @aX @aU cR dP jL iB aG kT) (A10 aH aI @bS @bP eZ lU uD uE aR vT) ?_
 refine goG jI FU ?_
 refine wG jI FU ?_
 refine aA [1] d2 TI (A10 aB aC @aX @aU cR dP jL iB aG kT) (A10 aH aI @bS @bP eZ lU uD uE aR vT) ?_
 refine goG jI TI ?_
 refine wdG jI FU ?_
 refine aJ (rs:=[.cell 2 37,.tmp 3]) rfl (by first|exact .inl rfl|exact .inr rfl) (finG jI) ?_
 rw[qG x]
 all_goals exact wkG (A10 aB aC @aX @aU cR dP jL iB aG kT)
theorem Yu(s:Bs):fitE (expP s).1:=by
 have hz:fitE ex0:=wP (by decide) (by decide) (by decide) (by simp) (by decide) (by simp)
 obtain⟨hok,hts,_⟩:=pM s
 unfold expP
 split
 ·exact hz
 split
 ·exact hz
 split
 ·rcases yL (scnR s).1 with ⟨b,e,_,hx,he,_⟩|⟨x,b,p,_,hx,hr⟩
  ·rw[hx];exact hz
  ·rw[hx];exact(Ah hok _).2.1 _ _ _ _ _ _ hr
 ·exact hz
theorem Yl(s:Bs):fitFn (funP s).1:=by
 have hz:fitFn fn0:=⟨by simp[fn0],(by intro y hy;cases hy),fit0,by decide,by decide⟩
 obtain⟨hok,hts,_⟩:=pM s
 unfold funP
 split
 ·exact hz
 split
 ·exact hz
 ·rcases yI (scnR s).1 with ⟨b,e,_,hx,he,_⟩|⟨x,b,p,_,hx,hr⟩
  ·rw[hx];exact hz
  ·rw[hx];exact Lm hok hts hr
def tQ:=A4 @eO @fG @dG @gB
theorem JS(s:Bs)(hs:s.length≤140737488355328):PC Tryz.prog 6 [.im (.string ⟨(s).toArray⟩)] (.im (.bool (true))):=by
 have qx:=GQ
 by_cases hf:600<s.length
 ·have hf':(s.length:Int)>600:=by omega
  refine PC.enter 32 Tryz.func6 rfl (by decide) rfl rfl (s:=[(0,.im (.string ⟨(s).toArray⟩))]) (by rfl) ?_
  refine wG tQ (AI BY hf') ?_;refine AR.callP qx TI Ef ?_;refine goG tQ TI ?_;refine wG tQ TI ?_;exact aM
 have hf': ¬(s.length:Int)>600:=by omega
 have q1:=Ik s (by omega)
 have q2:=FH s (by omega)
 have hu:=Yu s
 have qs:=Cz _ hu _ hu
 rw[Fc]at qs
 generalize (expP s).1=x at q1 q2 qs
 generalize (expP s).2=e at q1 q2
 refine PC.enter 32 Tryz.func6 rfl (by decide) rfl rfl (s:=[(0,.im (.string ⟨(s).toArray⟩))]) (by rfl) ?_
 refine wG tQ (AI BY hf') ?_
 refine AR.callP q1 TI Ef ?_
 refine goG tQ BN01 ?_
 refine wG tQ BN01 ?_
 refine AR.callP q2 TI Ef ?_
 refine goG tQ BN01 ?_
 refine wG tQ BN01 ?_
 refine AR.callP qs @cA Ef ?_
 refine goG tQ BN01 ?_
 refine AR.callP qx TI Ef ?_
 refine goG tQ TI ?_
 refine wG tQ TI ?_
 exact aM
def tP:=A4 @sN @qC @oA @gB
theorem JR(s:Bs)(hs:s.length≤140737488355328):PC Tryz.prog 8 [.im (.string ⟨(s).toArray⟩)] (.im (.bool (true))):=by
 have qx:=GQ
 by_cases hf:1500<s.length
 ·have hf':(s.length:Int)>1500:=by omega
  refine PC.enter 32 Tryz.func8 rfl (by decide) rfl rfl (s:=[(0,.im (.string ⟨(s).toArray⟩))]) (by rfl) ?_
  refine wG tP (AI BY hf') ?_;refine AR.callP qx TI Ef ?_;refine goG tP TI ?_;refine wG tP TI ?_;exact aM
 have hf': ¬(s.length:Int)>1500:=by omega
 have q1:=KE s (by omega)
 have q2:=FG s (by omega)
 have qs:=EP _ (Yl s)
 generalize (funP s).1=u at q1 q2 qs
 generalize (funP s).2=e at q1 q2
 rw[qG]at q1 q2 qs
 refine PC.enter 32 Tryz.func8 rfl (by decide) rfl rfl (s:=[(0,.im (.string ⟨(s).toArray⟩))]) (by rfl) ?_
 refine wG tP (AI BY hf') ?_
 refine AR.callP q1 TI Ef ?_
 refine goG tP TI ?_
 refine wG tP TI ?_
 refine AR.callP q2 TI Ef ?_
 refine goG tP TI ?_
 refine wG tP TI ?_
 refine AR.callP qs TI Ef ?_
 refine goG tP TI ?_
 refine AR.callP qx TI Ef ?_
 refine goG tP TI ?_
 refine wG tP TI ?_
 exact aM
end Go.Proofs.YtmbmmckagcdapaaGreatDoor
