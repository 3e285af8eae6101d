import Derived.Test.YtmbmmckagcdapaaGreatDoorU10
import Derived.Test.YtmbmmckagcdapaaGreatDoorU18
import Derived.RecoverIn
set_option linter.all false
namespace Go.Proofs.YtmbmmckagcdapaaGreatDoor
open Go.RowKit
def xE:=A11 @rK @cQ @Jh @lD @qA @Do @fU @xI @iI @cN @Iz
def cS:=AI aB aC
def gW:=AI aH aI
theorem vJ(ts:List Tk)(a o:Nat):DC Tryz.prog 122 [.pt 0 0] [.box [.sl (ts.map tkV) .ro,(.im (.int .i64 ((a:Nat)))),(.im (.int .i64 ((o:Nat))))]] (tkV (pk ts a)) [.box [.sl (ts.map tkV) .ro,(.im (.int .i64 ((a:Nat)))),(.im (.int .i64 ((o:Nat))))]]:=by
 by_cases hlt:a<ts.length
 ·have hg:=zJ hlt
  have hn: ¬(a:Int)≥(ts.length:Int):=by omega
  have h0:(0:Int)≤(a:Int):=by omega
  generalize pk ts a=t at hg;refine DC.enter 24 Tryz.func122 rfl (by decide) rfl rfl (s:=[(0,.pt 0 0)]) (by rfl) ?_
  refine wdG xE (A4 TKT hn hg h0) ?_;refine aO (rs:=[.cell 2 122]) rfl (by first|exact .inl rfl|exact .inr rfl) (finG xE) ?_ rfl (idG cS)
  all_goals exact wkG cS
 ·have hn:(a:Int)≥(ts.length:Int):=by omega
  rw[uZ (by omega)]
  refine DC.enter 24 Tryz.func122 rfl (by decide) rfl rfl (s:=[(0,.pt 0 0)]) (by rfl) ?_
  refine wdG xE (AI TKT hn) ?_;refine aO (rs:=[.cell 2 122]) rfl (by first|exact .inl rfl|exact .inr rfl) (finG xE) ?_ rfl (idG cS)
  all_goals exact wkG cS
def fK:=A8 @cQ @eF @lD @lO @mS @iI @cN @dR
theorem oQ(ts:List Tk)(a o:Nat)(s:Bs):DC Tryz.prog 78 [.pt 0 0,.im (.string ⟨(s).toArray⟩)] [.box [.sl (ts.map tkV) .ro,(.im (.int .i64 ((a:Nat)))),(.im (.int .i64 ((o:Nat))))]] (.im (.bool (sees ts a s))) [.box [.sl (ts.map tkV) .ro,(.im (.int .i64 ((a:Nat)))),(.im (.int .i64 ((o:Nat))))]]:=by
 have hp:=vJ ts a o
 unfold sees
 generalize pk ts a=t at hp
 cases ht:(t.text==s)with
 | true =>
  by_cases h2:t.kind=2
  ·rw[show(t.kind==2)=true from beq_iff_eq.2 h2]
   refine DC.enter 22 Tryz.func78 rfl (by decide) rfl rfl (s:=[(0,.pt 0 0),(1,.im (.string ⟨(s).toArray⟩))]) (by rfl) ?_
   refine wG fK TI ?_;refine aA [0] hp TI cS gW ?_;refine goG fK TKT ?_;refine wG fK (A4 BY TKT ht h2) ?_;refine aO (rs:=[.tmp 4]) rfl (by first|exact .inl rfl|exact .inr rfl) (finG fK) ?_ rfl (idG cS)
   all_goals exact wkG cS
  ·rw[show(t.kind==2)=false from beq_eq_false_iff_ne.2 h2]
   by_cases h5:t.kind=5
   ·rw[show(t.kind==5)=true from beq_iff_eq.2 h5]
    refine DC.enter 22 Tryz.func78 rfl (by decide) rfl rfl (s:=[(0,.pt 0 0),(1,.im (.string ⟨(s).toArray⟩))]) (by rfl) ?_
    refine wG fK TI ?_;refine aA [0] hp TI cS gW ?_;refine goG fK TKT ?_;refine wG fK (A5 BY TKT ht h2 h5) ?_;refine aO (rs:=[.tmp 4]) rfl (by first|exact .inl rfl|exact .inr rfl) (finG fK) ?_ rfl (idG cS)
    all_goals exact wkG cS
   ·rw[show(t.kind==5)=false from beq_eq_false_iff_ne.2 h5]
    refine DC.enter 22 Tryz.func78 rfl (by decide) rfl rfl (s:=[(0,.pt 0 0),(1,.im (.string ⟨(s).toArray⟩))]) (by rfl) ?_
    refine wG fK TI ?_;refine aA [0] hp TI cS gW ?_;refine goG fK TKT ?_;refine wG fK (A5 BY TKT ht h2 h5) ?_;refine aO (rs:=[.tmp 4]) rfl (by first|exact .inl rfl|exact .inr rfl) (finG fK) ?_ rfl (idG cS)
    all_goals exact wkG cS
 | false =>
  by_cases h2:t.kind=2
  ·rw[show(t.kind==2)=true from beq_iff_eq.2 h2]
   refine DC.enter 22 Tryz.func78 rfl (by decide) rfl rfl (s:=[(0,.pt 0 0),(1,.im (.string ⟨(s).toArray⟩))]) (by rfl) ?_
   refine wG fK TI ?_;refine aA [0] hp TI cS gW ?_;refine goG fK TKT ?_;refine wG fK (A4 BY TKT ht h2) ?_;refine aO (rs:=[.tmp 4]) rfl (by first|exact .inl rfl|exact .inr rfl) (finG fK) ?_ rfl (idG cS)
   all_goals exact wkG cS
  ·rw[show(t.kind==2)=false from beq_eq_false_iff_ne.2 h2]
   by_cases h5:t.kind=5
   ·rw[show(t.kind==5)=true from beq_iff_eq.2 h5]
    refine DC.enter 22 Tryz.func78 rfl (by decide) rfl rfl (s:=[(0,.pt 0 0),(1,.im (.string ⟨(s).toArray⟩))]) (by rfl) ?_
    refine wG fK TI ?_;refine aA [0] hp TI cS gW ?_;refine goG fK TKT ?_;refine wG fK (A5 BY TKT ht h2 h5) ?_;refine aO (rs:=[.tmp 4]) rfl (by first|exact .inl rfl|exact .inr rfl) (finG fK) ?_ rfl (idG cS)
    all_goals exact wkG cS
   ·rw[show(t.kind==5)=false from beq_eq_false_iff_ne.2 h5]
    refine DC.enter 22 Tryz.func78 rfl (by decide) rfl rfl (s:=[(0,.pt 0 0),(1,.im (.string ⟨(s).toArray⟩))]) (by rfl) ?_
    refine wG fK TI ?_;refine aA [0] hp TI cS gW ?_;refine goG fK TKT ?_;refine wG fK (A5 BY TKT ht h2 h5) ?_;refine aO (rs:=[.tmp 4]) rfl (by first|exact .inl rfl|exact .inr rfl) (finG fK) ?_ rfl (idG cS)
    all_goals exact wkG cS
def nG:=A3 @cQ @fU @cN
theorem eV(ts:List Tk)(a o:Nat)(s:Bs)(hts:ts.length≤4194304):DC Tryz.prog 146 [.pt 0 0,.im (.string ⟨(s).toArray⟩)] [.box [.sl (ts.map tkV) .ro,(.im (.int .i64 ((a:Nat)))),(.im (.int .i64 ((o:Nat))))]] (.im (.bool (sees ts a s))) [.box [.sl (ts.map tkV) .ro,(.im (.int .i64 (((if sees ts a s=true then a+1 else a:Nat):Int)))),(.im (.int .i64 ((o:Nat))))]]:=by
 have hp:=oQ ts a o s
 cases hs:sees ts a s with
 | true =>
  have hlt:=bX hs;have hw:=bD (m:=a) (N:=4194304) (by omega) (by decide)
  rw[hs]at hp;rw[if_pos rfl];refine DC.enter 16 Tryz.func146 rfl (by decide) rfl rfl (s:=[(0,.pt 0 0),(1,.im (.string ⟨(s).toArray⟩))]) (by rfl) ?_
  refine wG nG TI ?_;refine aA [0] hp TI cS gW ?_;refine goG nG TKT ?_;refine wG nG hw ?_;refine aO (rs:=[.tmp 4]) rfl (by first|exact .inl rfl|exact .inr rfl) (finG nG) ?_ rfl (idG cS)
  all_goals exact wkG cS
 | false =>
  rw[hs]at hp;rw[if_neg (by decide)]
  refine DC.enter 16 Tryz.func146 rfl (by decide) rfl rfl (s:=[(0,.pt 0 0),(1,.im (.string ⟨(s).toArray⟩))]) (by rfl) ?_
  refine wG nG TI ?_;refine aA [0] hp TI cS gW ?_;refine goG nG TKT ?_;refine wG nG TI ?_;refine aO (rs:=[.tmp 4]) rfl (by first|exact .inl rfl|exact .inr rfl) (finG nG) ?_ rfl (idG cS)
  all_goals exact wkG cS
def FO:=A5 @cQ @oD @fU @Ao @cN
theorem nN(ts:List Tk)(a o:Nat)(e:Int):PDC Tryz.prog 77 [.pt 0 0,(.im (.int .i64 (e)))] [.box [.sl (ts.map tkV) .ro,(.im (.int .i64 ((a:Nat)))),(.im (.int .i64 ((o:Nat))))]] (fV a e) [.box (List.replicate 3 .dead)]:=by
 refine PDC.enter 11 Tryz.func77 rfl (by decide) rfl rfl (s:=[(0,.pt 0 0),(1,(.im (.int .i64 (e))))]) (by rfl) ?_
 refine wG FO TI ?_
 refine GF ?_
 exact PA.panic (fun _=>PFin.i rfl rfl)
theorem cI(ts:List Tk)(a o:Nat)(s:Bs)(hts:ts.length≤4194304)(r:Rs Unit)(h:expM ts s a o=some r):XC Tryz.prog 104 [.pt 0 0,.im (.string ⟨(s).toArray⟩)] ts a o (fun _=> .tu []) r:=by
 have hp:=eV ts a o s hts
 have hf:=nN ts a o 3
 unfold expM at h
 cases hs:sees ts a s with
 | true =>
  rw[hs,if_pos rfl]at hp;rw[hs,if_neg (by decide)]at h
  cases h
  refine XC.enter 10 Tryz.func104 rfl (by decide) rfl rfl (s:=[(0,.pt 0 0),(1,.im (.string ⟨(s).toArray⟩))]) (by rfl) ?_
  refine wG TI TI ?_;refine aA [0] hp TI cS gW ?_;refine goG TI TI ?_;refine wG TI TI ?_;refine aO (rs:=[]) rfl (by first|exact .inl rfl|exact .inr rfl) (finG TI) ?_ rfl (idG cS)
  all_goals exact wkG cS
 | false =>
  rw[hs,if_neg (by decide)]at hp
  rw[hs,if_pos rfl]at h;cases h
  refine XC.enter 10 Tryz.func104 rfl (by decide) rfl rfl (s:=[(0,.pt 0 0),(1,.im (.string ⟨(s).toArray⟩))]) (by rfl) ?_
  refine wG TI TI ?_;refine aA [0] hp TI cS gW ?_;refine goG TI TI ?_;refine wG TI TI ?_;exact PA.callP [0] hf TI cS gW (fun _=>PFin.i rfl rfl)
def oX:=A7 @rK @cQ @lD @lO @fU @iI @cN
theorem nM(ts:List Tk)(a o:Nat)(k:Int)(hk:k≠0)(hts:ts.length≤4194304)(r:Rs Tk)(h:takM ts k a o=some r):XC Tryz.prog 145 [.pt 0 0,(.im (.int .i64 (k)))] ts a o tkV r:=by
 have hp:=vJ ts a o
 have hf:=nN ts a o 3
 unfold takM at h
 by_cases hs:(pk ts a).kind=k
 ·have hlt:a<ts.length:=Nat.lt_of_not_le fun hle=>by rw[uZ hle]at hs;exact hk hs.symm
  have hw:=bD (m:=a) (N:=4194304) (by omega) (by decide)
  rw[if_neg (by simpa using hs)]at h
  cases h
  generalize pk ts a=t at hp hs;subst hs;refine XC.enter 22 Tryz.func145 rfl (by decide) rfl rfl (s:=[(0,.pt 0 0),(1,(.im (.int .i64 (t.kind))))]) (by rfl) ?_
  refine wG oX TI ?_;refine aA [0] hp TI cS gW ?_;refine goG oX TKT ?_;refine wG oX (AI TKT hw) ?_;refine aO (rs:=[.cell 4 122]) rfl (by first|exact .inl rfl|exact .inr rfl) (finG oX) ?_ rfl (idG cS)
  all_goals exact wkG cS
 ·rw[if_pos hs]at h
  cases h
  generalize pk ts a=t at hp hs;refine XC.enter 22 Tryz.func145 rfl (by decide) rfl rfl (s:=[(0,.pt 0 0),(1,(.im (.int .i64 (k))))]) (by rfl) ?_
  refine wG oX TI ?_;refine aA [0] hp TI cS gW ?_;refine goG oX TKT ?_;refine wG oX (AI TKT hs) ?_;exact PA.callP [0] hf TI cS gW (fun _=>PFin.i rfl rfl)
def tS:=A3 @eF @mS @dR
theorem lG(ts:List Tk)(a o:Nat)(hts:ts.length≤4194304)(r:Rs ByteArray)(h:nmM ts a o=some r):XC Tryz.prog 105 [.pt 0 0] ts a o (fun n=> .im (.string n)) r:=by
 unfold nmM at h
 rcases bM h with ⟨b1,e1,h1,rfl⟩|⟨t,a1,o1,h1,h⟩
 ·have hf:=(nM ts a o 1 (by decide) hts _ h1).fails
  refine XC.enter 6 Tryz.func105 rfl (by decide) rfl rfl (s:=[(0,.pt 0 0)]) (by rfl) ?_
  refine wG tS TI ?_;exact PA.callP [0] hf TI cS gW (fun _=>PFin.i rfl rfl)
 ·have hp:=(nM ts a o 1 (by decide) hts _ h1).good
  cases h
  refine XC.enter 6 Tryz.func105 rfl (by decide) rfl rfl (s:=[(0,.pt 0 0)]) (by rfl) ?_
  refine wG tS TI ?_;refine aA [0] hp TI cS gW ?_;refine goG tS TKT ?_;refine wG tS TKT ?_;refine aO (rs:=[.tmp 2]) rfl (by first|exact .inl rfl|exact .inr rfl) (finG tS) ?_ rfl (idG cS)
  all_goals exact wkG cS
def Dd:=A3 @cQ @sG @cN
theorem AM(ts:List Tk)(a o:Nat):XC Tryz.prog 167 [.pt 0 0] ts a o (fun _:Unit=> .tu []) (if 256≤o then .bad a 20 else .ok () a (o+1)):=by
 have hf:=nN ts a o 20
 by_cases h:256≤o
 ·have hg:(o:Int)≥256:=by omega
  rw[if_pos h];refine XC.enter 16 Tryz.func167 rfl (by decide) rfl rfl (s:=[(0,.pt 0 0)]) (by rfl) ?_
  refine wG Dd hg ?_;exact PA.callP [0] hf TI cS gW (fun _=>PFin.i rfl rfl)
 ·have hg: ¬(o:Int)≥256:=by omega
  have hw:=bD (m:=o) (N:=256) (by omega) (by decide)
  rw[if_neg h];refine XC.enter 16 Tryz.func167 rfl (by decide) rfl rfl (s:=[(0,.pt 0 0)]) (by rfl) ?_
  refine wG Dd (AI hg hw) ?_;refine aO (rs:=[]) rfl (by first|exact .inl rfl|exact .inr rfl) (finG Dd) ?_ rfl (idG cS)
  all_goals exact wkG cS
def jR:=A3 @cQ @fU @cN
theorem gD(ts:List Tk)(a o:Nat)(s:Bs)(hts:ts.length≤4194304)(r:Rs Unit)(h:begM ts s a o=some r):XC Tryz.prog 106 [.pt 0 0,.im (.string ⟨(s).toArray⟩)] ts a o (fun _=> .tu []) r:=by
 have hp:=oQ ts a o s
 have hf:=nN ts a o 3
 have hd:=AM ts a o
 unfold begM at h
 cases hs:sees ts a s with
 | true =>
  have hlt:=bX hs;have hw:=bD (m:=a) (N:=4194304) (by omega) (by decide)
  rw[hs]at hp;rw[hs,if_neg (by decide)]at h
  by_cases ho:256≤o
  ·rw[if_pos ho]at h hd
   cases h
   have hd':=hd.fails;refine XC.enter 19 Tryz.func106 rfl (by decide) rfl rfl (s:=[(0,.pt 0 0),(1,.im (.string ⟨(s).toArray⟩))]) (by rfl) ?_
   refine wG jR TI ?_;refine aA [0] hp TI cS gW ?_;refine goG jR TI ?_;refine wG jR TI ?_;exact PA.callP [0] hd' TI cS gW (fun _=>PFin.i rfl rfl)
  ·rw[if_neg ho]at h hd
   cases h
   have hd':=hd.good;refine XC.enter 19 Tryz.func106 rfl (by decide) rfl rfl (s:=[(0,.pt 0 0),(1,.im (.string ⟨(s).toArray⟩))]) (by rfl) ?_
   refine wG jR TI ?_;refine aA [0] hp TI cS gW ?_;refine goG jR TI ?_;refine wG jR TI ?_;refine aA [0] hd' TI cS gW ?_;refine goG jR TI ?_;refine wG jR hw ?_;refine aO (rs:=[]) rfl (by first|exact .inl rfl|exact .inr rfl) (finG jR) ?_ rfl (idG cS)
   all_goals exact wkG cS
 | false =>
  rw[hs]at hp;rw[hs,if_pos rfl]at h;cases h
  refine XC.enter 19 Tryz.func106 rfl (by decide) rfl rfl (s:=[(0,.pt 0 0),(1,.im (.string ⟨(s).toArray⟩))]) (by rfl) ?_
  refine wG jR TI ?_;refine aA [0] hp TI cS gW ?_;refine goG jR TI ?_;refine wG jR TI ?_;exact PA.callP [0] hf TI cS gW (fun _=>PFin.i rfl rfl)
def tR:=A3 @cQ @sG @cN
theorem oK{o:Nat}(h0:0<o)(h:o≤4194304):IntKind.i64.wrap ((o:Int)-1)=((o-1:Nat):Int):=by rw[cM (by omega)];omega
theorem pU(ts:List Tk)(a o:Nat)(s:Bs)(hts:ts.length≤4194304)(h0:0<o)(ho:o≤256)(r:Rs Unit)(h:endM ts s a o=some r):XC Tryz.prog 108 [.pt 0 0,.im (.string ⟨(s).toArray⟩)] ts a o (fun _=> .tu []) r:=by
 have hp:=cI ts a o s hts
 unfold endM at h
 unfold expM at hp
 cases hs:sees ts a s with
 | true =>
  have hw:=oK h0 (by omega)
  rw[hs,if_neg (by decide)]at h hp
  have hp:=(hp _ rfl).good;cases h
  refine XC.enter 14 Tryz.func108 rfl (by decide) rfl rfl (s:=[(0,.pt 0 0),(1,.im (.string ⟨(s).toArray⟩))]) (by rfl) ?_
  refine wG tR TI ?_;refine aA [0] hp TI cS gW ?_;refine goG tR TI ?_;refine wG tR hw ?_;refine aO (rs:=[]) rfl (by first|exact .inl rfl|exact .inr rfl) (finG tR) ?_ rfl (idG cS)
  all_goals exact wkG cS
 | false =>
  rw[hs,if_pos rfl]at h hp;have hp:=(hp _ rfl).fails;cases h
  refine XC.enter 14 Tryz.func108 rfl (by decide) rfl rfl (s:=[(0,.pt 0 0),(1,.im (.string ⟨(s).toArray⟩))]) (by rfl) ?_
  refine wG tR TI ?_;exact PA.callP [0] hp TI cS gW (fun _=>PFin.i rfl rfl)
theorem Gz{P:Program}{o:Oper}{ev:Operand→V}{t s:TypeId}{x:Operand}{a b:Value}(ho:o.op= .typeAssert x s t true)(ht:ifT P t=some false)(hx:ev x= .im (.iface t (.agg #[a,b])))(ha:a.oneCell'=true)(hb:b.oneCell'=true) :
  Step P o ev [] ⟨.tu [.ag [.im a,.im b],.im (.bool true)],[]⟩ :=
 Step.look fun C ρ _ hR _=>by
  have h1:=hR x (by simp[ho,Op.operands])
  rw[hx]at h1;have e1:ρ x= .iface t (.agg #[a,b]):=h1.im_eq;refine⟨.tuple #[.agg #[a,b],.bool true],?_,?_⟩
  ·unfold ifT at ht
   cases hu:P.underlying t with
   | none=>rw[hu]at ht;cases ht
   | some d =>
    rw[hu]at ht;simp only[execOp,ho,e1,Instr.typeAssert,run_underlying hu,Sem.run_bind,Result.andThen_ok];cases d<;>first|(simp at ht;done)|(simp;done)|(simp;rfl)
  ·refine .tu rfl fun i hi=> ?_
   match i,hi with
   | 0,_ =>
    refine .ag rfl (fun i hi=> ?_) fun i hi=> ?_
    ·match i,hi with
     | 0,_=>exact ha
     | 1,_=>exact hb
    ·match i,hi with
     | 0,_=>exact .im ha
     | 1,_=>exact .im hb
   | 1,_=>exact .im rfl
theorem Pz{P:Program}{N:Nat}{ops:Array Oper}{dr:Bool}{Q:Exit→St→Prop}{d:Option Tmp}{t st:TypeId}{x:Operand}{ty:TypeId}{pos:String}{af:Array Edge}{g:Option (Nat×Bool)}{os:List Oper}{k:Nat}{s:List (Nat×V)}{l:List Ent}{acc:List (Nat×List Nat×List Nat)}{a b:Value}
  (hn:AR P ops dr Q os (k+1) ⟨dn N (gU s d (.tu [.ag [.im a,.im b],.im (.bool true)])),ofl l⟩ ((k,[],[])::acc)) (ht:ifT P t=some false:=by kernel_rfl) (hx:St.ev ⟨dn N s,ofl l⟩ x= .im (.iface t (.agg #[a,b])):=by rfl) (ha:a.oneCell'=true:=by rfl) (hb:b.oneCell'=true:=by rfl) (hg:gd ops ⟨d,.typeAssert x st t true,ty,pos,af,g⟩ ⟨dn N s,ofl l⟩=some true:=by rfl) :
  AR P ops dr Q (⟨d,.typeAssert x st t true,ty,pos,af,g⟩::os) k ⟨dn N s,ofl l⟩ acc:=by
 refine .inr (.inl ⟨hg,[],⟨_,[]⟩,Gz rfl ht hx ha hb,(fun p hp=>by cases hp),?_⟩)
 rw[←mI N s (ofl l)]at hn
 exact hn
structure Catch (P:Program) (F:FuncId) (t:TypeId):Prop where
 go:yG P F=true
 pan: ∀(C:Cf) (vs:Array Value) (u v:Value) (a b:Int) (n:Nat),C.st=ofl [.box [.im u,.im v]]→Ok C→vs.size=1→R C (.pt 0 0) (vs.getD 0 undef) →
  CallsDIn Fence.wide n P F vs (.panicking [{v:= .iface t (.agg #[.int .i64 a,.int .i64 b]),recovered:=false}]) C.w fun e m w'=>(∃r,e= .returned r)∧m= .panicking [{v:= .iface t (.agg #[.int .i64 a,.int .i64 b]),recovered:=true}]∧Beh C (ofl [.box [.im (.int .i64 a),.im (.int .i64 b)]]) w'
 ret: ∀(C:Cf) (vs:Array Value) (u v:Value) (n:Nat),C.st=ofl [.box [.im u,.im v]]→Ok C→vs.size=1→R C (.pt 0 0) (vs.getD 0 undef) →
  CallsDIn Fence.wide n P F vs .returning C.w fun e m w'=>(∃r,e= .returned r)∧m= .returning∧Beh C (ofl [.box [.im u,.im v]]) w'
def FinD(P:Program)(fn:Func)(r:V)(k:Nat)(t:TypeId)(e:Exit)(A:St):Prop :=
 ∃u v:Value,A.st k= .box [.im u,.im v] ∧
  ((e= .ret∧Fin P fn stF (fun x st=>x=r∧st=stF) .ret A) ∨
   ∃a b:Int,e= .panic (chn (.iface t (.agg #[.int .i64 a,.int .i64 b])))∧Fin P fn stF (fun x st=>x=r∧st=stF) .ret ⟨A.s,upd A.st k (.box [.im (.int .i64 a),.im (.int .i64 b)])⟩)
theorem Hm{P:Program}{fn:Func}{tmps:Array Value}{R0:Ending→World→Prop}{S:List V}{st:Nat→Ent}{C:Cf}{u:FrameMode}{ds:List Deferred}(hu:u≠ .run)
  (K: ∀D:Cf,D.st=st→Ok D→(∀t,t<S.length→R D (S.getD t .dead) (tmps.getD t undef))→Ev C D→LeavesInM Fence.wide 0 P fn tmps R0 ds u D.w) :
  ∀(bs:List Nat) (D:Cf),D.st=st→Ok D→(∀t,t<S.length→R D (S.getD t .dead) (tmps.getD t undef))→Ev C D→bs.Nodup →
   (∀b∈bs,C.w.heap.size≤b∧D.w.heap[b]? =some (.deferred (some []))∧ ∀i,D.σ i=some b→D.st i= .free) →
   LeavesInM Fence.wide 0 P fn tmps R0 (bs.map (fun b=>{target:= .collected b,args:= #[]})++ds) u D.w:=by
 intro bs
 induction bs with
 | nil=>intro D q1 q2 q3 q4 _ _;exact K D q1 q2 q3 q4
 | cons b bs ih =>
  intro D q1 q2 q3 q4 q5 q6;obtain⟨hlo,hbk,hs⟩:=q6 b (by simp)
  refine⟨hu,.inl ⟨b,_,rfl,run_takeDeferred hbk,?_⟩⟩;have hnc: ∀cs t fr,Obj.deferred (some [])≠ .cells cs t fr:=fun _ _ _ e=>by cases e
  obtain⟨r1,r2⟩:=q2.turned (o':= .deferred none) hbk hnc (fun _ _ e=>by cases e) hs
  have r3:=(q2.turn (o':= .deferred none) hbk hnc hs).2;refine ih (D.withW (D.w.putObj b (.deferred none))) q1 r1 (fun t ht=>r2 _ _ (q3 t ht)) (Gx q4 q2 hlo hbk hnc hs) (List.nodup_cons.1 q5).2 fun b' hb'=> ?_
  obtain⟨s1,s2,s3⟩:=q6 b' (by simp[hb'])
  exact⟨s1,(r3 b' (fun e=>(List.nodup_cons.1 q5).1 (e▸hb'))).trans s2,s3⟩
theorem Ct{D:Cf}{k:Nat}{u v u' v':Value}{st:Nat→Ent}(hst:D.st=st)(hD:Ok D)(hk:st k= .box [.im u,.im v]){w':World}
  (hb:Beh (D.sub [k] [.box [.im u,.im v]]) (ofl [.box [.im u',.im v']]) w'): ∃E:Cf,E.w=w'∧E.st=upd st k (.box [.im u',.im v'])∧Ok E∧Ev D E:=by
 have hF:Fits D [k] [.box [.im u,.im v]]:=⟨by simp,rfl,fun i hi=>by
  obtain rfl:i=0:=by simpa using hi
  rw[Yk,hst,hk]
  rfl⟩
 obtain⟨E,e1,e2,e3,e4⟩:=hb
 refine⟨D.sup [k] E,e1,?_,hD.sup hF e4 e3 e2 rfl,Ev.sup hD hF e4⟩
 funext i
 show(if i∈[k]then(E.st ([k].idxOf i)).ren (gOf [k])else D.st i)=_
 by_cases hi:i=k
 ·subst hi
  rw[if_pos (by simp),e2]
  simp[upd,ofl,Ent.ren,V.renL,V.ren]
 ·rw[if_neg (by simpa using hi),hst]
  simp[upd,hi]
theorem Gb{D:Cf}{k:Nat}{u v:Value}(hD:Ok D)(hk:D.st k= .box [.im u,.im v]){x:Value}(hx:R D (.pt k 0) x):Ok (D.sub [k] [.box [.im u,.im v]])∧R (D.sub [k] [.box [.im u,.im v]]) (.pt 0 0) x:=by
 have hF:Fits D [k] [.box [.im u,.im v]]:=⟨by simp,rfl,fun i hi=>by
  obtain rfl:i=0:=by simpa using hi
  rw[Yk,hk]
  rfl⟩
 exact⟨hD.sub hF rfl,hx.sub hF (.pt 0 0) rfl rfl⟩
theorem Nr{F:Fence}{n:Nat}{P:Program}{o:Oper}{Q:Exit→Act→World→Prop}{K:Act→World→Prop}{a:Act}{w:World}(hg:o.guard=none)(h:o.wpIn F n P a w K Q):wpOpIn F n P #[o] Q 0 K a w:=by
 have hw:Region.wanted o (yielded #[o] a.tmps)=true:=by unfold Region.wanted;rw[hg]
 unfold wpOpIn
 simp only[List.getElem?_toArray,List.getElem?_cons_zero,hw,if_true]
 exact h
theorem vL{P:Program}{f F:FuncId}{fn:Func}{t:TypeId}{id0 id1:Nat}{l0:List Oper}{x:Operand}{tys:Array TypeId}{ty:TypeId}{pos:String}{af:Array Edge}{c:Code}{xs:List V}{s s1:List (Nat×V)}{l1:List Ent}{r:V}(k:Nat)(N:Nat)(hC:Catch P F t)
  (hf:P.funcs[f]? =some fn) (hb:fn.body=some (.seq (.region id0 l0.toArray false) (.seq (.region id1 #[⟨none,.defer {callee:= .value (.func F),args:= #[x],argTypes:=tys},ty,pos,af,none⟩] false) c)))
  (hn:fn.name≠ "runtime.NumGoroutine") (hN:fn.ntmps=N) (hxs:Nat.ble xs.length N=true) (hs:enum 0 xs=s)
  (h0:AR P l0.toArray false (fun e A=>e= .normal∧A=⟨dn N s1,ofl l1⟩) l0 0 ⟨dn N s,stF⟩ []) (hx:St.ev ⟨dn N s1,ofl l1⟩ x= .pt k 0)
  (h:AWp P (ofl l1) c (FinD P fn r k t) ⟨dn N s1,ofl l1⟩):PC P f xs r:=by
 subst hs hN
 rw[←wS (by simpa using hxs)]at h0
 refine⟨by simp[yG,hf,hb,hn],fun C vs hst hC0 hsz hR=> ?_⟩
 refine callsIn_wide.1 (callsIn_of_wp_marks (F:=Fence.wide) (n:=0) hf hb trivial (wpIn_seq ?_))
 have hS0:Sim ⟨none,[]⟩ C ⟨xs++List.replicate (fn.ntmps-xs.length) .dead,stF⟩ {tmps:=vs++Array.replicate (fn.ntmps-vs.size) undef,defers:=[]}:=by
  refine⟨hst,hC0,.nil,by simp[hsz],fun t ht=> ?_⟩
  by_cases h1:t<xs.length
  ·have h2:=hR t h1
   have h3:t<vs.size:=by omega
   simpa[List.getD,List.getElem?_append,h1,Array.getElem?_append,h3]using h2
  ·have:(xs++List.replicate (fn.ntmps-xs.length) V.dead).getD t .dead= .dead:=by
    simp only[List.getD,List.getElem?_append,if_neg h1,List.getElem?_replicate];split<;>rfl
   rw[this];exact .dead
 refine Np (ro:={r:=none}) h0 hS0 ?_
 rintro e A1 D a1 ⟨rfl,rfl⟩ hS1 hE1
 show(Code.seq _ _).wpIn Fence.wide 0 P _ a1 D.w
 obtain⟨bs0,hd0,_,hb0⟩:=hS1.defers
 have hbs:bs0=[]:=by
  cases bs0 with
  | nil=>rfl
  | cons b bs=>obtain⟨⟨lo,e1,_⟩,_⟩:=hb0 b (by simp);cases e1
 subst hbs
 have hd1:a1.defers=[]:=hd0
 have hxv:=hS1.ev x
 rw[hx]at hxv
 generalize hpv:a1.eval x=pv at hxv
 refine wpIn_seq (wpIn_region ?_)
 show wpOpsIn _ _ _ _ _ [0] a1 D.w
 rw[wpOpsIn_cons]
 refine Nr rfl ?_
 refine⟨fun g hg=>trivial,?_⟩
 have hrun:(Oper.semAt none a1.eval ⟨none,.defer {callee:= .value (.func F),args:= #[x],argTypes:=tys},ty,pos,af,none⟩).run P D.w= .ok (.defer {target:= .fn (.func F) #[],args:= #[pv]}) D.w:=by
  rw[Oper.semAt_none];simp only[execOp,resolve,Act.eval,Deferred.ofValue,Sem.run_bind,Sem.run_pure,Result.andThen_ok];rw[←hpv];simp
 rw[show(Fence.wide).round=none from rfl,hrun]
 rw[Oper.uponIn_defer]
 show Code.wpIn Fence.wide 0 P c _ _ D.w
 have hS2:Sim (bnd {r:=none,tl:=[{target:= .fn (.func F) #[],args:= #[pv]}]} D.w) D ⟨dn fn.ntmps s1,ofl l1⟩ {a1 with defers:={target:= .fn (.func F) #[],args:= #[pv]}::a1.defers} :=
  ⟨hS1.st,hS1.ok,⟨[],by rw[hd1];rfl,List.nodup_nil,fun _ h=>by cases h⟩,hS1.size,hS1.slot⟩
 refine wpIn_mono (h D D _ {r:=none,tl:=[{target:= .fn (.func F) #[],args:= #[pv]}]} 0 rfl hS1.st (Ev.refl D) hS2) ?_
 rintro e a' w' ⟨A',E,hFin,hS,rfl,hE⟩
 obtain⟨u,v,hbox,hcase⟩:=hFin
 obtain⟨bs,d1,d2,d3⟩:=hS.defers
 have fin: ∀(A2:St) (D':Cf),A2.s=A'.s→Fin P fn stF (fun x st=>x=r∧st=stF) .ret A2→D'.st=A2.st→Ok D'→(∀t,t<A'.s.length→R D' (A'.s.getD t .dead) (a'.tmps.getD t undef))→Ev C D' →
   ∃v',(results fn a'.tmps).run P D'.w= .ok v' D'.w∧ ∃v x st',Ending.returned v'= .returned v∧(x=r∧st'=stF)∧Good C st' x D'.w v:=by
  intro A2 D' hs2 hF2 k1 k2 k3 k4;obtain⟨_,x2,y,kp,h2,h3,h5,h6,h7⟩:=hF2;have hS':Sim ⟨none,[]⟩ D' A2 {a' with defers:=[]}:=⟨k1,k2,.nil,by rw[hs2];exact hS.size,fun t ht=>by rw[hs2]at ht ⊢;exact k3 t ht⟩
  obtain⟨v2,j1,j2⟩:=Bm hS' h2;refine⟨v2,j1,v2,y,_,rfl,h7,D'.only kp,rfl,?_,k2.only (by rw[k1];exact h6),k4.only (by rw[hst];exact h5),h3 D' v2 k1 k2 j2⟩
  show(fun i=>if kp i then D'.st i else .free)=_
  rw[k1]
 have call: ∀(m:FrameMode),m≠ .run→ ∀D':Cf,D'.st=A'.st→Ok D'→Ev D D'→ ∀w':World→Prop,
   (CallsDIn Fence.wide (0-1) P F #[pv] m D'.w (fun e m' w''=>(∃r,e= .returned r)∧(settle m'= .returning)∧w' w'')→(∀w'',w' w''→LeavesInM Fence.wide 0 P fn a'.tmps (fun e w'=> ∃v x st',e= .returned v∧(x=r∧st'=stF)∧Good C st' x w' v) [] .returning w'') →
    LeavesInM Fence.wide 0 P fn a'.tmps (fun e w'=> ∃v x st',e= .returned v∧(x=r∧st'=stF)∧Good C st' x w' v) [{target:= .fn (.func F) #[],args:= #[pv]}] m D'.w):=by
  intro m hm D' k1 k2 k4 w' hcall hnext;refine⟨hm,.inr ⟨(fun e=>by cases e),.func F,#[],F,#[pv],rfl,by simp only[invoke,Array.append_empty];exact nR hC.go _ _,fun _ _=>trivial,CallsDIn.mono hcall ?_⟩⟩
  rintro e m' w'' ⟨⟨q,rfl⟩,q2,q3⟩;show LeavesInM _ _ _ _ _ _ [] (settle m') w''
  rw[q2];exact hnext w'' q3
 have marks: ∀(m:FrameMode),m≠ .run→(∀D':Cf,D'.st=A'.st→Ok D'→(∀t,t<A'.s.length→R D' (A'.s.getD t .dead) (a'.tmps.getD t undef))→Ev D D'→LeavesInM Fence.wide 0 P fn a'.tmps (fun e w'=> ∃v x st',e= .returned v∧(x=r∧st'=stF)∧Good C st' x w' v) [{target:= .fn (.func F) #[],args:= #[pv]}] m D'.w) →
   LeavesInM Fence.wide 0 P fn a'.tmps (fun e w'=> ∃v x st',e= .returned v∧(x=r∧st'=stF)∧Good C st' x w' v) a'.defers m E.w:=by
  intro m hm hK;rw[d1];refine Hm hm hK bs E hS.st hS.ok hS.slot hE d2 fun b hb=> ?_
  obtain⟨⟨lo,e1,e2⟩,q2,q3⟩:=d3 b hb;cases e1
  exact⟨e2,q2,q3⟩
 rcases hcase with ⟨rfl,hFn⟩|⟨a,b,rfl,hFn⟩
 ·refine marks .returning (by simp) fun D' k1 k2 k3 k4=> ?_
  obtain⟨j1,j2⟩:=Gb k2 (by rw[k1];exact hbox) (hxv.mono k4)
  refine call .returning (by simp) D' k1 k2 k4 (fun w''=>Beh (D'.sub [k] [.box [.im u,.im v]]) (ofl [.box [.im u,.im v]]) w'') ((hC.ret (D'.sub [k] [.box [.im u,.im v]]) #[pv] u v _ rfl j1 rfl j2).mono ?_) ?_
  ·rintro e m' w'' ⟨q1,rfl,q3⟩
   exact⟨q1,rfl,q3⟩
  ·intro w'' hb
   obtain⟨E2,rfl,e2,e3,e4⟩:=Ct k1 k2 hbox hb
   have e5:E2.st=A'.st:=by
    rw[e2]
    funext i
    by_cases hi:i=k
    ·subst hi;simp[upd,hbox]
    ·simp[upd,hi]
   exact fin A' E2 rfl hFn e5 e3 (fun t ht=>(k3 t ht).mono e4) ((hE1.trans k4).trans e4)
 ·refine marks (.panicking (chn (.iface t (.agg #[.int .i64 a,.int .i64 b])))) (by simp) fun D' k1 k2 k3 k4=> ?_
  obtain⟨j1,j2⟩:=Gb k2 (by rw[k1];exact hbox) (hxv.mono k4)
  refine call _ (by simp) D' k1 k2 k4 (fun w''=>Beh (D'.sub [k] [.box [.im u,.im v]]) (ofl [.box [.im (.int .i64 a),.im (.int .i64 b)]]) w'') ((hC.pan (D'.sub [k] [.box [.im u,.im v]]) #[pv] u v a b _ rfl j1 rfl j2).mono ?_) ?_
  ·rintro e m' w'' ⟨q1,rfl,q3⟩
   exact⟨q1,rfl,q3⟩
  ·intro w'' hb
   obtain⟨E2,rfl,e2,e3,e4⟩:=Ct k1 k2 hbox hb;exact fin ⟨A'.s,upd A'.st k (.box [.im (.int .i64 a),.im (.int .i64 b)])⟩ E2 rfl hFn e2 e3 (fun t ht=>(k3 t ht).mono e4) ((hE1.trans k4).trans e4)
theorem BX{l:List Ent}{k:Nat}{e:Ent}(h:k<l.length):upd (ofl l) k e=ofl (l.set k e):=by
 funext i
 unfold upd ofl
 by_cases hi:i=k
 ·subst hi;simp[h]
 ·rw[if_neg hi]
  simp only[List.getD];rw[List.getElem?_set_ne (fun e=>hi e.symm)]
theorem FinD.ret{P:Program}{fn:Func}{r:V}{t:TypeId}{s:List V}{l:List Ent}{u v:Value}(k:Nat)(hk:ofl l k= .box [.im u,.im v])(h:Fin P fn stF (fun x st=>x=r∧st=stF) .ret ⟨s,ofl l⟩):FinD P fn r k t .ret ⟨s,ofl l⟩ :=
 ⟨u,v,hk,.inl ⟨rfl,h⟩⟩
theorem FinD.pan{P:Program}{fn:Func}{r:V}{t:TypeId}{s:List V}{l:List Ent}{u v:Value}{a b:Int}(k:Nat)(hl:k<l.length)(hk:ofl l k= .box [.im u,.im v])(h:Fin P fn stF (fun x st=>x=r∧st=stF) .ret ⟨s,ofl (l.set k (.box [.im (.int .i64 a),.im (.int .i64 b)]))⟩):FinD P fn r k t (.panic (chn (.iface t (.agg #[.int .i64 a,.int .i64 b])))) ⟨s,ofl l⟩ :=
 ⟨u,v,hk,.inr ⟨a,b,rfl,by rw[BX hl];exact h⟩⟩
theorem Gu{id0:Nat}{F:Fence}{n:Nat}{P:Program}{Q:Exit→Act→List Frame→World→Prop}{d1 d2:Tmp}{t1 t2:TypeId}{p1 p2:String}{f1 f2:Array Edge}{a:Act}{cs cs':List Frame}{w:World}{v:Value}(hF: ∀f,F.fn f)
  (hr:recoverD cs=some (v,cs')∨recoverD cs=none∧v= .nilIface∧cs'=cs) (h:Q .normal ((a.put (some d1) v).put (some d2) ((a.put (some d1) v).eval (.tmp d1))) cs' w) :
  (Code.region id0 #[⟨some d1,.call {callee:= .builtin .recover,args:= #[],argTypes:= #[]},t1,p1,f1,none⟩,⟨some d2,.assign (.tmp d1),t2,p2,f2,none⟩] false).wpSIn F n P Q a cs w:=by
 refine wpSIn_region ?_
 show wpOpsSIn F n P _ Q [0,1] a cs w
 have e1:(execOp a.eval ⟨some d1,.call {callee:= .builtin .recover,args:= #[],argTypes:= #[]},t1,p1,f1,none⟩).run P w= .ok .recover w:=by
  simp[execOp,resolve,invoke,builtin,Sem.run_bind,Sem.run_pure]
 have e2:(execOp (a.put (some d1) v).eval ⟨some d2,.assign (.tmp d1),t2,p2,f2,none⟩).run P w= .ok (.value ((a.put (some d1) v).eval (.tmp d1))) w:=by
  simp[execOp,Sem.run_pure]
 simp only[wpOpsSIn,List.getElem?_toArray,List.getElem?_cons_zero,List.getElem?_cons_succ]
 refine⟨fun f _=>hF f,?_⟩
 rw[if_pos (by rfl),e1]
 rcases hr with hr|⟨hr,rfl,rfl⟩
 ·simp only[hr]
  refine⟨fun f _=>hF f,?_⟩
  rw[if_pos (by rfl),e2]
  exact h
 ·simp only[hr]
  refine⟨fun f _=>hF f,?_⟩
  rw[if_pos (by rfl),e2]
  exact h
theorem AV{C D:Cf}{c0:List V}{u v:Value}(hst:C.st=ofl [.box c0])(h0:D.st 0= .box [.im u,.im v])(hD:Ok D)(hE:Ev C D):Beh C (ofl [.box [.im u,.im v]]) D.w:=by
 refine⟨D.only (fun i=>i==0),rfl,?_,hD.only fun i cs' hb hi=> ?_,hE.only fun i hi=> ?_⟩
 ·funext i
  show(if(i==0)=true then D.st i else .free)=_
  cases i with
  | zero=>simp[h0,ofl]
  | succ i=>simp[ofl]
 ·obtain rfl:i=0:=by simpa using hi
  rw[h0]at hb;cases hb
  rfl
 ·have:=oM (by rw[←hst];exact hi)
  simp at this;simp[this]
def KM(u v:Value)(e:Exit)(A:St):Prop:=e= .normal∧A.st 0= .box [.im u,.im v]
theorem Catch.of{P:Program}{F:FuncId}{fn:Func}{t:TypeId}{N id0 d1 d2:Nat}{t1 t2:TypeId}{p1 p2:String}{f1 f2:Array Edge}{c:Code}(hf:P.funcs[F]? =some fn)
  (hb:fn.body=some (.seq (.region id0 #[⟨some d1,.call {callee:= .builtin .recover,args:= #[],argTypes:= #[]},t1,p1,f1,none⟩,⟨some d2,.assign (.tmp d1),t2,p2,f2,none⟩] false) c))
  (hn:fn.name≠ "runtime.NumGoroutine") (hN:fn.ntmps=N) (hx:Nat.blt 0 N=true) (hd:Nat.blt d1 N=true) (hrs:fn.results= #[])
  (h1: ∀(u v:Value) (a b:Int),AWp P (ofl [.box [.im u,.im v]]) c (KM (.int .i64 a) (.int .i64 b)) ⟨dn N [(d2,.im (.iface t (.agg #[.int .i64 a,.int .i64 b]))),(d1,.im (.iface t (.agg #[.int .i64 a,.int .i64 b]))),(0,.pt 0 0)],ofl [.box [.im u,.im v]]⟩)
  (h2: ∀(u v:Value),AWp P (ofl [.box [.im u,.im v]]) c (KM u v) ⟨dn N [(d2,.im .nilIface),(d1,.im .nilIface),(0,.pt 0 0)],ofl [.box [.im u,.im v]]⟩):Catch P F t:=by
 subst hN
 have hx0:0<fn.ntmps:=by rw[←Nat.blt_eq];exact hx
 have hd0:d1<fn.ntmps:=by rw[←Nat.blt_eq];exact hd
 have main: ∀(C:Cf) (vs:Array Value) (u v u' v' x:Value) (n:Nat) (m m':FrameMode),C.st=ofl [.box [.im u,.im v]]→Ok C→vs.size=1→R C (.pt 0 0) (vs.getD 0 undef)→x.oneCell'=true →
   (∀c₀:Frame,c₀.mode=m→ ∀cs,recoverD (c₀::cs)=some (x,{c₀ with mode:=m'}::cs)∨recoverD (c₀::cs)=none∧x= .nilIface∧{c₀ with mode:=m'}::cs=c₀::cs) →
   AWp P (ofl [.box [.im u,.im v]]) c (KM u' v') ⟨dn fn.ntmps [(d2,.im x),(d1,.im x),(0,.pt 0 0)],ofl [.box [.im u,.im v]]⟩ →
   CallsDIn Fence.wide n P F vs m C.w fun e m2 w'=>(∃r,e= .returned r)∧m2=m'∧Beh C (ofl [.box [.im u',.im v']]) w':=by
  intro C vs u v u' v' x n m m' hst hC hsz hR hone hrec hA;refine callsDIn_of_wpSIn hf hb trivial fun c₀ cs hu=> ?_
  apply wpSIn_seq;refine Gu (v:=x) (cs':={c₀ with mode:=m'}::cs) (fun _=>trivial) (hrec c₀ hu cs) ?_
  show Code.wpSIn _ _ _ c _ _ _ C.w
  refine wpSIn_of_wpIn rfl ?_
  have hS0:Sim ⟨none,[]⟩ C ⟨dn fn.ntmps [(0,.pt 0 0)],ofl [.box [.im u,.im v]]⟩ {tmps:=vs++Array.replicate (fn.ntmps-vs.size) undef,defers:=[]}:=by
   have he:=wS (xs:=[V.pt 0 0]) (N:=fn.ntmps) hx0;rw[show enum 0 [V.pt 0 0]=[(0,.pt 0 0)]from rfl]at he
   rw[←he];refine⟨hst,hC,.nil,by simp[hsz];omega,fun t ht=> ?_⟩
   by_cases h1:t<1
   ·obtain rfl:t=0:=by omega
    simpa[List.getD,List.getElem?_append,Array.getElem?_append,hsz]using hR
   ·have:([V.pt 0 0]++List.replicate (fn.ntmps-[V.pt 0 0].length) V.dead).getD t .dead= .dead:=by
     simp only[List.getD,List.getElem?_append,List.length_cons,List.length_nil,Nat.zero_add,if_neg h1,List.getElem?_replicate];split<;>rfl
    rw[this];exact .dead
  have hx1:R C (.im x) x:= .im hone;have hS1:=hS0.put (d:=some d1) (Ev.refl C) hC hst hx1;rw[mI]at hS1
  have ex:(({tmps:=vs++Array.replicate (fn.ntmps-vs.size) undef,defers:=[]}:Act).put (some d1) x).eval (.tmp d1)=x:=by
   have h3:=hS1.ev (.tmp d1)
   have h4:St.ev ⟨dn fn.ntmps (gU [(0,.pt 0 0)] (some d1) (.im x)),ofl [.box [.im u,.im v]]⟩ (.tmp d1)= .im x:=by
    simp only[St.ev,gU,gC,dM];simp[hd0]
   rw[h4]at h3;exact h3.im_eq
  rw[ex];have hS2:=hS1.put (d:=some d2) (Ev.refl C) hC hst hx1;rw[mI]at hS2;refine wpIn_mono (hA C C _ {r:=none,z:=true} n rfl hst (Ev.refl C) hS2) ?_;rintro e a' w' ⟨A',D,⟨rfl,hA0⟩,hS,rfl,hE⟩;obtain⟨bs0,hdd,_,hb0⟩:=hS.defers
  have hbs:bs0=[]:=by
   cases bs0 with
   | nil=>rfl
   | cons b bs=>obtain⟨⟨lo,e1,_⟩,_⟩:=hb0 b (by simp);cases e1
  subst hbs;refine⟨hdd,m',rfl,.tuple #[],?_,⟨_,rfl⟩,rfl,AV hst (by rw[hS.st];exact hA0) hS.ok hE⟩
  simp[results,hrs,Sem.run_bind,Sem.run_pure]
 refine⟨by simp[yG,hf,hb,hn],fun C vs u v a b n hst hC hsz hR=> ?_,fun C vs u v n hst hC hsz hR=> ?_⟩
 ·refine main C vs u v _ _ (.iface t (.agg #[.int .i64 a,.int .i64 b])) n _ _ hst hC hsz hR rfl (fun c₀ hm cs=> .inl ?_) (h1 u v a b)
  simp[recoverD,hm]
 ·refine main C vs u v _ _ .nilIface n _ _ hst hC hsz hR rfl (fun c₀ hm cs=> .inr ⟨?_,rfl,?_⟩) (h2 u v)
  ·simp[recoverD,hm]
  ·cases c₀;simp at hm;subst hm;rfl
end Go.Proofs.YtmbmmckagcdapaaGreatDoor
