import Derived.Test.YtmbmmckagcdapaaGreatDoorQ26
import Derived.RecoverIn
set_option maxHeartbeats 4000000
set_option linter.all false
namespace Go.Proofs.YtmbmmckagcdapaaGreatDoor
open Go.RowKit
def zX:=A11 @pS @cO @Ei @kM @oU @Hv @fP @vM @gU @cN @Ec
def cD:=AI aX bC
def gR:=AI fE fF
theorem xW(ts:List Tk)(a o:Nat):DC Tryz.prog 122 [.pt 0 0] [.box [.sl (ts.map tkV) .ro,(.im (.int .i64 ((a:Nat)))),(.im (.int .i64 ((o:Nat))))]] (tkV (pk ts a)) [.box [.sl (ts.map tkV) .ro,(.im (.int .i64 ((a:Nat)))),(.im (.int .i64 ((o:Nat))))]]:=by
 by_cases hlt:a<ts.length
 ·have hg:=Xh hlt
  have hn: ¬(a:Int)≥(ts.length:Int):=by omega
  have h0:(0:Int)≤(a:Int):=by omega
  generalize pk ts a=t at hg;refine dcEnt 24 Tryz.func122 rfl [(0,.pt 0 0)] ?_
  refine wdG zX (A4 TKT hn hg h0) ?_;refine fiGen [.cell 2 122] (finG zX) ?_ rfl (idG cD)
  all_goals exact wkG cD
 ·have hn:(a:Int)≥(ts.length:Int):=by omega
  rw[Jn (by omega)]
  refine dcEnt 24 Tryz.func122 rfl [(0,.pt 0 0)] ?_
  refine wdG zX (AI TKT hn) ?_;refine fiGen [.cell 2 122] (finG zX) ?_ rfl (idG cD)
  all_goals exact wkG cD
def fG:=A8 @cO @dR @kM @lP @nA @gU @cN @dA
theorem pK(ts:List Tk)(a o:Nat)(s:Bs):DC Tryz.prog 78 [.pt 0 0,.im (.string ⟨(s).toArray⟩)] [.box [.sl (ts.map tkV) .ro,(.im (.int .i64 ((a:Nat)))),(.im (.int .i64 ((o:Nat))))]] (.im (.bool (sees ts a s))) [.box [.sl (ts.map tkV) .ro,(.im (.int .i64 ((a:Nat)))),(.im (.int .i64 ((o:Nat))))]]:=by
 have hp:=xW ts a o
 unfold sees
 generalize pk ts a=t at hp
 cases ht:(t.text==s)with
 | true =>
  by_cases h2:t.kind=2
  ·rw[show(t.kind==2)=true from beq_iff_eq.2 h2]
   refine dcEnt 22 Tryz.func78 rfl [(0,.pt 0 0),(1,.im (.string ⟨(s).toArray⟩))] ?_
   refine wG fG TI ?_;refine aA [0] hp TI cD gR ?_;refine goG fG TKT ?_;refine wG fG (A4 BY TKT ht h2) ?_;refine fiGen [.tmp 4] (finG fG) ?_ rfl (idG cD)
   all_goals exact wkG cD
  ·rw[show(t.kind==2)=false from beq_eq_false_iff_ne.2 h2]
   by_cases h5:t.kind=5
   ·rw[show(t.kind==5)=true from beq_iff_eq.2 h5]
    refine dcEnt 22 Tryz.func78 rfl [(0,.pt 0 0),(1,.im (.string ⟨(s).toArray⟩))] ?_
    refine wG fG TI ?_;refine aA [0] hp TI cD gR ?_;refine goG fG TKT ?_;refine wG fG (A5 BY TKT ht h2 h5) ?_;refine fiGen [.tmp 4] (finG fG) ?_ rfl (idG cD)
    all_goals exact wkG cD
   ·rw[show(t.kind==5)=false from beq_eq_false_iff_ne.2 h5]
    refine dcEnt 22 Tryz.func78 rfl [(0,.pt 0 0),(1,.im (.string ⟨(s).toArray⟩))] ?_
    refine wG fG TI ?_;refine aA [0] hp TI cD gR ?_;refine goG fG TKT ?_;refine wG fG (A5 BY TKT ht h2 h5) ?_;refine fiGen [.tmp 4] (finG fG) ?_ rfl (idG cD)
    all_goals exact wkG cD
 | false =>
  by_cases h2:t.kind=2
  ·rw[show(t.kind==2)=true from beq_iff_eq.2 h2]
   refine dcEnt 22 Tryz.func78 rfl [(0,.pt 0 0),(1,.im (.string ⟨(s).toArray⟩))] ?_
   refine wG fG TI ?_;refine aA [0] hp TI cD gR ?_;refine goG fG TKT ?_;refine wG fG (A4 BY TKT ht h2) ?_;refine fiGen [.tmp 4] (finG fG) ?_ rfl (idG cD)
   all_goals exact wkG cD
  ·rw[show(t.kind==2)=false from beq_eq_false_iff_ne.2 h2]
   by_cases h5:t.kind=5
   ·rw[show(t.kind==5)=true from beq_iff_eq.2 h5]
    refine dcEnt 22 Tryz.func78 rfl [(0,.pt 0 0),(1,.im (.string ⟨(s).toArray⟩))] ?_
    refine wG fG TI ?_;refine aA [0] hp TI cD gR ?_;refine goG fG TKT ?_;refine wG fG (A5 BY TKT ht h2 h5) ?_;refine fiGen [.tmp 4] (finG fG) ?_ rfl (idG cD)
    all_goals exact wkG cD
   ·rw[show(t.kind==5)=false from beq_eq_false_iff_ne.2 h5]
    refine dcEnt 22 Tryz.func78 rfl [(0,.pt 0 0),(1,.im (.string ⟨(s).toArray⟩))] ?_
    refine wG fG TI ?_;refine aA [0] hp TI cD gR ?_;refine goG fG TKT ?_;refine wG fG (A5 BY TKT ht h2 h5) ?_;refine fiGen [.tmp 4] (finG fG) ?_ rfl (idG cD)
    all_goals exact wkG cD
def nY:=A3 @cO @fP @cN
theorem eC(ts:List Tk)(a o:Nat)(s:Bs)(hts:ts.length≤4194304):DC Tryz.prog 146 [.pt 0 0,.im (.string ⟨(s).toArray⟩)] [.box [.sl (ts.map tkV) .ro,(.im (.int .i64 ((a:Nat)))),(.im (.int .i64 ((o:Nat))))]] (.im (.bool (sees ts a s))) [.box [.sl (ts.map tkV) .ro,(.im (.int .i64 (((if sees ts a s=true then a+1 else a:Nat):Int)))),(.im (.int .i64 ((o:Nat))))]]:=by
 have hp:=pK ts a o s
 cases hs:sees ts a s with
 | true =>
  have hlt:=bJ hs;have hw:=aK (m:=a) (N:=4194304) (by omega) (by decide)
  rw[hs]at hp;rw[if_pos rfl];refine dcEnt 16 Tryz.func146 rfl [(0,.pt 0 0),(1,.im (.string ⟨(s).toArray⟩))] ?_
  refine wG nY TI ?_;refine aA [0] hp TI cD gR ?_;refine goG nY TKT ?_;refine wG nY hw ?_;refine fiGen [.tmp 4] (finG nY) ?_ rfl (idG cD)
  all_goals exact wkG cD
 | false =>
  rw[hs]at hp;rw[if_neg (by decide)]
  refine dcEnt 16 Tryz.func146 rfl [(0,.pt 0 0),(1,.im (.string ⟨(s).toArray⟩))] ?_
  refine wG nY TI ?_;refine aA [0] hp TI cD gR ?_;refine goG nY TKT ?_;refine wG nY TI ?_;refine fiGen [.tmp 4] (finG nY) ?_ rfl (idG cD)
  all_goals exact wkG cD
def RH:=A5 @cO @nO @fP @Ee @cN
theorem oG(ts:List Tk)(a o:Nat)(e:Int):PDC Tryz.prog 77 [.pt 0 0,(.im (.int .i64 (e)))] [.box [.sl (ts.map tkV) .ro,(.im (.int .i64 ((a:Nat)))),(.im (.int .i64 ((o:Nat))))]] (fV a e) [.box (List.replicate 3 .dead)]:=by
 refine PDC.enter 11 Tryz.func77 rfl (by decide) rfl rfl (s:=[(0,.pt 0 0),(1,(.im (.int .i64 (e))))]) (by rfl) ?_
 refine wG RH TI ?_
 refine RT ?_
 exact PA.panic (fun _=>PFin.i rfl rfl)
theorem bV(ts:List Tk)(a o:Nat)(s:Bs)(hts:ts.length≤4194304)(r:Rs Unit)(h:expM ts s a o=some r):XC Tryz.prog 104 [.pt 0 0,.im (.string ⟨(s).toArray⟩)] ts a o (fun _=> .tu []) r:=by
 have hp:=eC ts a o s hts
 have hf:=oG ts a o 3
 unfold expM at h
 cases hs:sees ts a s with
 | true =>
  rw[hs,if_pos rfl]at hp;rw[hs,if_neg (by decide)]at h
  cases h
  refine xcEnt 10 Tryz.func104 rfl [(0,.pt 0 0),(1,.im (.string ⟨(s).toArray⟩))] ?_
  refine wG TI TI ?_;refine aA [0] hp TI cD gR ?_;refine goG TI TI ?_;refine wG TI TI ?_;refine fiGen [] (finG TI) ?_ rfl (idG cD)
  all_goals exact wkG cD
 | false =>
  rw[hs,if_neg (by decide)]at hp
  rw[hs,if_pos rfl]at h;cases h
  refine xcEnt 10 Tryz.func104 rfl [(0,.pt 0 0),(1,.im (.string ⟨(s).toArray⟩))] ?_
  refine wG TI TI ?_;refine aA [0] hp TI cD gR ?_;refine goG TI TI ?_;refine wG TI TI ?_;exact PA.callP [0] hf TI cD gR (fun _=>PFin.i rfl rfl)
def pO:=A7 @pS @cO @kM @lP @fP @gU @cN
theorem oF(ts:List Tk)(a o:Nat)(k:Int)(hk:k≠0)(hts:ts.length≤4194304)(r:Rs Tk)(h:takM ts k a o=some r):XC Tryz.prog 145 [.pt 0 0,(.im (.int .i64 (k)))] ts a o tkV r:=by
 have hp:=xW ts a o
 have hf:=oG ts a o 3
 unfold takM at h
 by_cases hs:(pk ts a).kind=k
 ·have hlt:a<ts.length:=Nat.lt_of_not_le fun hle=>by rw[Jn hle]at hs;exact hk hs.symm
  have hw:=aK (m:=a) (N:=4194304) (by omega) (by decide)
  rw[if_neg (by simpa using hs)]at h
  cases h
  generalize pk ts a=t at hp hs;subst hs;refine xcEnt 22 Tryz.func145 rfl [(0,.pt 0 0),(1,(.im (.int .i64 (t.kind))))] ?_
  refine wG pO TI ?_;refine aA [0] hp TI cD gR ?_;refine goG pO TKT ?_;refine wG pO (AI TKT hw) ?_;refine fiGen [.cell 4 122] (finG pO) ?_ rfl (idG cD)
  all_goals exact wkG cD
 ·rw[if_pos hs]at h
  cases h
  generalize pk ts a=t at hp hs;refine xcEnt 22 Tryz.func145 rfl [(0,.pt 0 0),(1,(.im (.int .i64 (k))))] ?_
  refine wG pO TI ?_;refine aA [0] hp TI cD gR ?_;refine goG pO TKT ?_;refine wG pO (AI TKT hs) ?_;exact PA.callP [0] hf TI cD gR (fun _=>PFin.i rfl rfl)
def vH:=A3 @dR @nA @dA
theorem lB(ts:List Tk)(a o:Nat)(hts:ts.length≤4194304)(r:Rs ByteArray)(h:nmM ts a o=some r):XC Tryz.prog 105 [.pt 0 0] ts a o (fun n=> .im (.string n)) r:=by
 unfold nmM at h
 rcases aU h with ⟨b1,e1,h1,rfl⟩|⟨t,a1,o1,h1,h⟩
 ·have hf:=(oF ts a o 1 (by decide) hts _ h1).fails
  refine xcEnt 6 Tryz.func105 rfl [(0,.pt 0 0)] ?_
  refine wG vH TI ?_;exact PA.callP [0] hf TI cD gR (fun _=>PFin.i rfl rfl)
 ·have hp:=(oF ts a o 1 (by decide) hts _ h1).good
  cases h
  refine xcEnt 6 Tryz.func105 rfl [(0,.pt 0 0)] ?_
  refine wG vH TI ?_;refine aA [0] hp TI cD gR ?_;refine goG vH TKT ?_;refine wG vH TKT ?_;refine fiGen [.tmp 2] (finG vH) ?_ rfl (idG cD)
  all_goals exact wkG cD
def Hl:=A3 @cO @tR @cN
theorem KZ(ts:List Tk)(a o:Nat):XC Tryz.prog 167 [.pt 0 0] ts a o (fun _:Unit=> .tu []) (if 256≤o then .bad a 20 else .ok () a (o+1)):=by
 have hf:=oG ts a o 20
 by_cases h:256≤o
 ·have hg:(o:Int)≥256:=by omega
  rw[if_pos h];refine xcEnt 16 Tryz.func167 rfl [(0,.pt 0 0)] ?_
  refine wG Hl hg ?_;exact PA.callP [0] hf TI cD gR (fun _=>PFin.i rfl rfl)
 ·have hg: ¬(o:Int)≥256:=by omega
  have hw:=aK (m:=o) (N:=256) (by omega) (by decide)
  rw[if_neg h];refine xcEnt 16 Tryz.func167 rfl [(0,.pt 0 0)] ?_
  refine wG Hl (AI hg hw) ?_;refine fiGen [] (finG Hl) ?_ rfl (idG cD)
  all_goals exact wkG cD
def jR:=A3 @cO @fP @cN
theorem fU(ts:List Tk)(a o:Nat)(s:Bs)(hts:ts.length≤4194304)(r:Rs Unit)(h:begM ts s a o=some r):XC Tryz.prog 106 [.pt 0 0,.im (.string ⟨(s).toArray⟩)] ts a o (fun _=> .tu []) r:=by
 have hp:=pK ts a o s
 have hf:=oG ts a o 3
 have hd:=KZ ts a o
 unfold begM at h
 cases hs:sees ts a s with
 | true =>
  have hlt:=bJ hs;have hw:=aK (m:=a) (N:=4194304) (by omega) (by decide)
  rw[hs]at hp;rw[hs,if_neg (by decide)]at h
  by_cases ho:256≤o
  ·rw[if_pos ho]at h hd
   cases h
   have hd':=hd.fails;refine xcEnt 19 Tryz.func106 rfl [(0,.pt 0 0),(1,.im (.string ⟨(s).toArray⟩))] ?_
   refine wG jR TI ?_;refine aA [0] hp TI cD gR ?_;refine goG jR TI ?_;refine wG jR TI ?_;exact PA.callP [0] hd' TI cD gR (fun _=>PFin.i rfl rfl)
  ·rw[if_neg ho]at h hd
   cases h
   have hd':=hd.good;refine xcEnt 19 Tryz.func106 rfl [(0,.pt 0 0),(1,.im (.string ⟨(s).toArray⟩))] ?_
   refine wG jR TI ?_;refine aA [0] hp TI cD gR ?_;refine goG jR TI ?_;refine wG jR TI ?_;refine aA [0] hd' TI cD gR ?_;refine goG jR TI ?_;refine wG jR hw ?_;refine fiGen [] (finG jR) ?_ rfl (idG cD)
   all_goals exact wkG cD
 | false =>
  rw[hs]at hp;rw[hs,if_pos rfl]at h;cases h
  refine xcEnt 19 Tryz.func106 rfl [(0,.pt 0 0),(1,.im (.string ⟨(s).toArray⟩))] ?_
  refine wG jR TI ?_;refine aA [0] hp TI cD gR ?_;refine goG jR TI ?_;refine wG jR TI ?_;exact PA.callP [0] hf TI cD gR (fun _=>PFin.i rfl rfl)
def vG:=A3 @cO @tR @cN
theorem uD{o:Nat}(h0:0<o)(h:o≤4194304):IntKind.i64.wrap ((o:Int)-1)=((o-1:Nat):Int):=by rw[cU (by omega)];omega
theorem qD(ts:List Tk)(a o:Nat)(s:Bs)(hts:ts.length≤4194304)(h0:0<o)(ho:o≤256)(r:Rs Unit)(h:endM ts s a o=some r):XC Tryz.prog 108 [.pt 0 0,.im (.string ⟨(s).toArray⟩)] ts a o (fun _=> .tu []) r:=by
 have hp:=bV ts a o s hts
 unfold endM at h
 unfold expM at hp
 cases hs:sees ts a s with
 | true =>
  have hw:=uD h0 (by omega)
  rw[hs,if_neg (by decide)]at h hp
  have hp:=(hp _ rfl).good;cases h
  refine xcEnt 14 Tryz.func108 rfl [(0,.pt 0 0),(1,.im (.string ⟨(s).toArray⟩))] ?_
  refine wG vG TI ?_;refine aA [0] hp TI cD gR ?_;refine goG vG TI ?_;refine wG vG hw ?_;refine fiGen [] (finG vG) ?_ rfl (idG cD)
  all_goals exact wkG cD
 | false =>
  rw[hs,if_pos rfl]at h hp;have hp:=(hp _ rfl).fails;cases h
  refine xcEnt 14 Tryz.func108 rfl [(0,.pt 0 0),(1,.im (.string ⟨(s).toArray⟩))] ?_
  refine wG vG TI ?_;exact PA.callP [0] hp TI cD gR (fun _=>PFin.i rfl rfl)
theorem bneq{x y:Bs}(h: ¬x=y):(x==y)=false:=beq_eq_false_iff_ne.2 h
theorem beqq{x y:Bs}(h:x=y):(x==y)=true:=beq_iff_eq.2 h
def cT:=A6 @cO @dR @lP @nA @cN @dA
def lK:=AI aX bC
theorem Rt(t:Tk):PC Tryz.prog 121 [tkV t] (.tu [(.im (.int .i64 ((stR t).1))),(.im (.int .i64 (((stR t).2:Nat))))]):=by
 by_cases hk:t.kind=5
 case neg =>
  rw[show stR t=(0,0)from if_neg hk]
  refine pcEnt 35 Tryz.func121 rfl [(0,tkV t)] ?_
  refine wG cT (AI TKT hk) ?_;refine fiGenO [.tmp 2,.tmp 3] (finG cT) ?_
  all_goals exact wkG lK
 have e:stR t=opR t.text:=if_pos hk
 rw[e]
 clear e
 unfold opR
 by_cases h0:t.text=[124]
 ·rw[if_pos h0]
  have e:=beqq h0;refine pcEnt 35 Tryz.func121 rfl [(0,tkV t)] ?_
  refine wG cT (A4 BY TKT hk e) ?_;refine fiGenO [.tmp 2,.tmp 3] (finG cT) ?_
  all_goals exact wkG lK
 rw[if_neg h0]
 have f0:=bneq h0
 by_cases h1:t.text=[94]
 ·rw[if_pos h1]
  have e:=beqq h1;refine pcEnt 35 Tryz.func121 rfl [(0,tkV t)] ?_
  refine wG cT (A5 BY TKT hk e f0) ?_;refine fiGenO [.tmp 2,.tmp 3] (finG cT) ?_
  all_goals exact wkG lK
 rw[if_neg h1]
 have f1:=bneq h1
 by_cases h2:t.text=[38]
 ·rw[if_pos h2]
  have e:=beqq h2;refine pcEnt 35 Tryz.func121 rfl [(0,tkV t)] ?_
  refine wG cT (A6 BY TKT hk e f0 f1) ?_;refine fiGenO [.tmp 2,.tmp 3] (finG cT) ?_
  all_goals exact wkG lK
 rw[if_neg h2]
 have f2:=bneq h2
 by_cases h3:t.text=[61,61]
 ·rw[if_pos h3]
  have e:=beqq h3;refine pcEnt 35 Tryz.func121 rfl [(0,tkV t)] ?_
  refine wG cT (A7 BY TKT hk e f0 f1 f2) ?_;refine fiGenO [.tmp 2,.tmp 3] (finG cT) ?_
  all_goals exact wkG lK
 rw[if_neg h3]
 have f3:=bneq h3
 by_cases h4:t.text=[33,61]
 ·rw[if_pos h4]
  have e:=beqq h4;refine pcEnt 35 Tryz.func121 rfl [(0,tkV t)] ?_
  refine wG cT (A8 BY TKT hk e f0 f1 f2 f3) ?_;refine fiGenO [.tmp 2,.tmp 3] (finG cT) ?_
  all_goals exact wkG lK
 rw[if_neg h4]
 have f4:=bneq h4
 by_cases h5:t.text=[60]
 ·rw[if_pos h5]
  have e:=beqq h5;refine pcEnt 35 Tryz.func121 rfl [(0,tkV t)] ?_
  refine wG cT (A9 BY TKT hk e f0 f1 f2 f3 f4) ?_;refine fiGenO [.tmp 2,.tmp 3] (finG cT) ?_
  all_goals exact wkG lK
 rw[if_neg h5]
 have f5:=bneq h5
 by_cases h6:t.text=[60,115]
 ·rw[if_pos h6]
  have e:=beqq h6;refine pcEnt 35 Tryz.func121 rfl [(0,tkV t)] ?_
  refine wG cT (A10 BY TKT hk e f0 f1 f2 f3 f4 f5) ?_;refine fiGenO [.tmp 2,.tmp 3] (finG cT) ?_
  all_goals exact wkG lK
 rw[if_neg h6]
 have f6:=bneq h6
 by_cases h7:t.text=[60,60]
 ·rw[if_pos h7]
  have e:=beqq h7;refine pcEnt 35 Tryz.func121 rfl [(0,tkV t)] ?_
  refine wG cT (A11 BY TKT hk e f0 f1 f2 f3 f4 f5 f6) ?_;refine fiGenO [.tmp 2,.tmp 3] (finG cT) ?_
  all_goals exact wkG lK
 rw[if_neg h7]
 have f7:=bneq h7
 by_cases h8:t.text=[62,62]
 ·rw[if_pos h8]
  have e:=beqq h8;refine pcEnt 35 Tryz.func121 rfl [(0,tkV t)] ?_
  refine wG cT (A12 BY TKT hk e f0 f1 f2 f3 f4 f5 f6 f7) ?_;refine fiGenO [.tmp 2,.tmp 3] (finG cT) ?_
  all_goals exact wkG lK
 rw[if_neg h8]
 have f8:=bneq h8
 by_cases h9:t.text=[62,62,115]
 ·rw[if_pos h9]
  have e:=beqq h9;refine pcEnt 35 Tryz.func121 rfl [(0,tkV t)] ?_
  refine wG cT (A13 BY TKT hk e f0 f1 f2 f3 f4 f5 f6 f7 f8) ?_;refine fiGenO [.tmp 2,.tmp 3] (finG cT) ?_
  all_goals exact wkG lK
 rw[if_neg h9]
 have f9:=bneq h9
 by_cases h10:t.text=[43]
 ·rw[if_pos h10]
  have e:=beqq h10;refine pcEnt 35 Tryz.func121 rfl [(0,tkV t)] ?_
  refine wG cT (A14 BY TKT hk e f0 f1 f2 f3 f4 f5 f6 f7 f8 f9) ?_;refine fiGenO [.tmp 2,.tmp 3] (finG cT) ?_
  all_goals exact wkG lK
 rw[if_neg h10]
 have f10:=bneq h10
 by_cases h11:t.text=[45]
 ·rw[if_pos h11]
  have e:=beqq h11;refine pcEnt 35 Tryz.func121 rfl [(0,tkV t)] ?_
  refine wG cT (A15 BY TKT hk e f0 f1 f2 f3 f4 f5 f6 f7 f8 f9 f10) ?_;refine fiGenO [.tmp 2,.tmp 3] (finG cT) ?_
  all_goals exact wkG lK
 rw[if_neg h11]
 have f11:=bneq h11
 by_cases h12:t.text=[42]
 ·rw[if_pos h12]
  have e:=beqq h12;refine pcEnt 35 Tryz.func121 rfl [(0,tkV t)] ?_
  refine wG cT (A16 BY TKT hk e f0 f1 f2 f3 f4 f5 f6 f7 f8 f9 f10 f11) ?_;refine fiGenO [.tmp 2,.tmp 3] (finG cT) ?_
  all_goals exact wkG lK
 rw[if_neg h12]
 have f12:=bneq h12
 refine pcEnt 35 Tryz.func121 rfl [(0,tkV t)] ?_
 refine wG cT (A16 BY TKT hk f0 f1 f2 f3 f4 f5 f6 f7 f8 f9 f10 f11 f12) ?_
 refine fiGenO [.tmp 2,.tmp 3] (finG cT) ?_
 all_goals exact wkG lK
def intV:Option (Int×Int)→V
 | some (k,s)=> .tu [tyV (.mk 0 k s 0 [] []),(.im (.bool (true)))]
 | none=> .tu [tyV (.mk 0 0 0 0 [] []),(.im (.bool (false)))]
def gS:=A4 @gF @Ac @Ed @gD
def vJ:=A6 aX bC @bQ @bS @bR @bT
theorem CY(s:Bs):PC Tryz.prog 200 [.im (.string ⟨(s).toArray⟩)] (intV (intR s)):=by
 unfold intR
 by_cases h0:s=[97,110,121]
 ·rw[if_pos h0]
  have e:=beqq h0;unfold intV;refine pcEnt 27 Tryz.func200 rfl [(0,.im (.string ⟨(s).toArray⟩))] ?_
  refine wG gS (AI BY e) ?_;refine fiGenO [.cell 2 94,.tmp 3] (finG gS) ?_
  all_goals exact wkG vJ
 rw[if_neg h0]
 have f0:=bneq h0
 by_cases h1:s=[105,110,116,56]
 ·rw[if_pos h1]
  have e:=beqq h1;unfold intV;refine pcEnt 27 Tryz.func200 rfl [(0,.im (.string ⟨(s).toArray⟩))] ?_
  refine wG gS (A3 BY e f0) ?_;refine fiGenO [.cell 2 94,.tmp 3] (finG gS) ?_
  all_goals exact wkG vJ
 rw[if_neg h1]
 have f1:=bneq h1
 by_cases h2:s=[105,110,116,49,54]
 ·rw[if_pos h2]
  have e:=beqq h2;unfold intV;refine pcEnt 27 Tryz.func200 rfl [(0,.im (.string ⟨(s).toArray⟩))] ?_
  refine wG gS (A4 BY e f0 f1) ?_;refine fiGenO [.cell 2 94,.tmp 3] (finG gS) ?_
  all_goals exact wkG vJ
 rw[if_neg h2]
 have f2:=bneq h2
 by_cases h3:s=[105,110,116,51,50]
 ·rw[if_pos h3]
  have e:=beqq h3;unfold intV;refine pcEnt 27 Tryz.func200 rfl [(0,.im (.string ⟨(s).toArray⟩))] ?_
  refine wG gS (A5 BY e f0 f1 f2) ?_;refine fiGenO [.cell 2 94,.tmp 3] (finG gS) ?_
  all_goals exact wkG vJ
 rw[if_neg h3]
 have f3:=bneq h3
 by_cases h4:s=[117,105,110,116,56]
 ·rw[if_pos h4]
  have e:=beqq h4;unfold intV;refine pcEnt 27 Tryz.func200 rfl [(0,.im (.string ⟨(s).toArray⟩))] ?_
  refine wG gS (A6 BY e f0 f1 f2 f3) ?_;refine fiGenO [.cell 2 94,.tmp 3] (finG gS) ?_
  all_goals exact wkG vJ
 rw[if_neg h4]
 have f4:=bneq h4
 by_cases h5:s=[117,105,110,116,49,54]
 ·rw[if_pos h5]
  have e:=beqq h5;unfold intV;refine pcEnt 27 Tryz.func200 rfl [(0,.im (.string ⟨(s).toArray⟩))] ?_
  refine wG gS (A7 BY e f0 f1 f2 f3 f4) ?_;refine fiGenO [.cell 2 94,.tmp 3] (finG gS) ?_
  all_goals exact wkG vJ
 rw[if_neg h5]
 have f5:=bneq h5
 by_cases h6:s=[117,105,110,116,51,50]
 ·rw[if_pos h6]
  have e:=beqq h6;unfold intV;refine pcEnt 27 Tryz.func200 rfl [(0,.im (.string ⟨(s).toArray⟩))] ?_
  refine wG gS (A8 BY e f0 f1 f2 f3 f4 f5) ?_;refine fiGenO [.cell 2 94,.tmp 3] (finG gS) ?_
  all_goals exact wkG vJ
 rw[if_neg h6]
 have f6:=bneq h6
 unfold intV
 refine pcEnt 27 Tryz.func200 rfl [(0,.im (.string ⟨(s).toArray⟩))] ?_
 refine wG gS (A8 BY f0 f1 f2 f3 f4 f5 f6) ?_
 refine fiGenO [.cell 2 94,.tmp 3] (finG gS) ?_
 all_goals exact wkG vJ
theorem i1:((1:Nat):Int)=1:=rfl
def OpC(ts:List Tk)(f:Nat):Prop:= ∀a o:Nat,o≤256→ ∀r,exM ts f .op a o=some r→XC Tryz.prog 120 [.pt 0 0] ts a o exV r
def ExC(ts:List Tk)(f:Nat):Prop:= ∀l a o:Nat,l≤10→o≤256→ ∀r,exM ts f (.ex l) a o=some r→XC Tryz.prog 59 [.pt 0 0,(.im (.int .i64 ((l:Nat))))] ts a o exV r
def nX:=A8 @cO @fB @kR @gM @fP @zZ @cN @dK
def vK:=A4 aX bC @aE @aD
def Cc:=A4 fE fF @aQ @aR
theorem LD{ts:List Tk}{f:Nat}(hE:ExC ts f)(hts:ts.length≤4194304)(k w:Int)(a o:Nat)(ha:a<ts.length)(ho:o≤256)(r:Rs Ex)(h:inn ts (exM ts f (.ex 1)) (mkU k w) (a+1) o=some r):XC Tryz.prog 183 [.pt 0 0,(.im (.int .i64 (k))),(.im (.int .i64 (w)))] ts a o exV r:=by
 have hw:=aK (m:=a) (N:=4194304) (by omega) (by decide)
 unfold inn at h
 refine xcEnt 26 Tryz.func183 rfl [(0,.pt 0 0),(1,(.im (.int .i64 (k)))),(2,(.im (.int .i64 (w))))] ?_
 refine wG nX hw ?_
 rcases aU h with ⟨b1,e1,h1,rfl⟩|⟨_,a1,o1,h1,h⟩
 ·exact PA.callP [0] ((fU ts (a+1) o [40] hts _ h1).fails) TI vK Cc (fun _=>PFin.i rfl rfl)
 refine aA [0] (((fU ts (a+1) o [40] hts _ h1).good)) TI vK Cc ?_
 refine goG nX TI ?_
 obtain⟨_,ho1,rfl,rfl⟩:=cE h1
 refine wG nX TI ?_
 rcases aU h with ⟨b1,e1,h1,rfl⟩|⟨x,a2,o2,h1,h⟩
 ·exact PA.callP [0] ((hE 1 (a+1+1) (o+1) (by decide) (by omega) _ h1).fails) i1 vK Cc (fun _=>PFin.i rfl rfl)
 refine aA [0] (((hE 1 (a+1+1) (o+1) (by decide) (by omega) _ h1).good)) i1 vK Cc ?_
 refine goG nX BN01 ?_
 obtain⟨rfl,_⟩:=dW ts _ _ _ _ _ _ _ h1
 refine wG nX BN01 ?_
 rcases aU h with ⟨b1,e1,h1,rfl⟩|⟨_,a3,o3,h1,h⟩
 ·exact PA.callP [0] ((qD ts a2 (o+1) [41] hts (by omega) (by omega) _ h1).fails) TI vK Cc (fun _=>PFin.i rfl rfl)
 refine aA [0] (((qD ts a2 (o+1) [41] hts (by omega) (by omega) _ h1).good)) TI vK Cc ?_
 refine goG nX TI ?_
 cases h
 refine wG nX BN01 ?_
 refine fiGen [.cell 6 46] (finG nX) ?_ rfl (idG vK)
 rw[mkU,gV,List.map_cons,List.map_nil,bH x]
 all_goals exact wkG vK
def aJ:=A16 @cO @nP @fB @dR @kM @kR @gM @lP @nA @pR @fP @tR @zZ @gU @cN (A3 @nN @dK @dA)
def bU:=A4 aX bC @aE @aD
def cV:=A4 fE fF @aQ @aR
theorem Vj{ts:List Tk}{f:Nat}(hts:ts.length≤4194304)(hO:OpC ts f)(hE:ExC ts f):OpC ts (f+1):=by
 intro a o ho r h
 have hp:=xW ts a o
 have hf:=oG ts a o 3
 rw[exM]at h
 have hla:=fun k hk hn=>eJ (ts:=ts) (a:=a) (k:=k) hk hn
 have hss: ∀s,(pk ts a).kind=5→(pk ts a).text=s→sees ts a s=true:=fun s h1 h2=>by unfold sees;rw[h1,h2];simp
 have hac:=fun k w ha h=>LD hE hts k w a o ha ho r h
 generalize pk ts a=t at hp h hla hss
 by_cases k3:t.kind=3
 ·rw[if_pos k3]at h
  cases h
  have hlt:=hla 3 k3 (by decide)
  have hw:=aK (m:=a) (N:=4194304) (by omega) (by decide)
  refine xcEnt 98 Tryz.func120 rfl [(0,.pt 0 0)] ?_
  refine wG aJ TI ?_;refine aA [0] hp TI bU cV ?_;refine goG aJ TKT ?_;refine wG aJ (A3 TKT k3 hw) ?_;refine fiGen [.cell 2 46] (finG aJ) ?_ rfl (idG bU)
  rw[gV,List.map_nil]
  all_goals exact wkG bU
 rw[if_neg k3]at h
 by_cases k1:t.kind=1
 ·rw[if_pos k1]at h
  cases h
  have hlt:=hla 1 k1 (by decide)
  have hw:=aK (m:=a) (N:=4194304) (by omega) (by decide)
  refine xcEnt 98 Tryz.func120 rfl [(0,.pt 0 0)] ?_
  refine wG aJ TI ?_;refine aA [0] hp TI bU cV ?_;refine goG aJ TKT ?_;refine wG aJ (A3 TKT k1 hw) ?_;refine fiGen [.cell 2 46] (finG aJ) ?_ rfl (idG bU)
  rw[gV,List.map_nil]
  all_goals exact wkG bU
 rw[if_neg k1]at h
 by_cases k2:t.kind=2
 ·rw[if_pos k2]at h
  have hlt:=hla 2 k2 (by decide)
  unfold accW at h
  by_cases h0:t.text=[108,111,97,100,49]
  ·rw[if_pos h0]at h
   have hc:=hac 18 1 hlt h;have e:=beqq h0;cases r with
   | bad b e1 =>
    refine xcEnt 98 Tryz.func120 rfl [(0,.pt 0 0)] ?_
    refine wG aJ TI ?_;refine aA [0] hp TI bU cV ?_;refine goG aJ TKT ?_;refine wG aJ (A4 BY TKT k2 e) ?_;exact PA.callP [0] hc.fails TI bU cV (fun _=>PFin.i rfl rfl)
   | ok x b p =>
    refine xcEnt 98 Tryz.func120 rfl [(0,.pt 0 0)] ?_
    refine wG aJ TI ?_;refine aA [0] hp TI bU cV ?_;refine goG aJ TKT ?_;refine wG aJ (A4 BY TKT k2 e) ?_;refine aA [0] hc.good TI bU cV ?_;refine goG aJ BN01 ?_;refine wG aJ BN01 ?_;refine fiGen [.cell 2 46] (finG aJ) ?_ rfl (idG bU)
    rw[bH x]
    all_goals exact wkG bU
  rw[if_neg h0]at h;have f0:=bneq h0
  by_cases h1:t.text=[108,111,97,100,50]
  ·rw[if_pos h1]at h
   have hc:=hac 18 2 hlt h;have e:=beqq h1;cases r with
   | bad b e1 =>
    refine xcEnt 98 Tryz.func120 rfl [(0,.pt 0 0)] ?_
    refine wG aJ TI ?_;refine aA [0] hp TI bU cV ?_;refine goG aJ TKT ?_;refine wG aJ (A5 BY TKT k2 e f0) ?_;exact PA.callP [0] hc.fails TI bU cV (fun _=>PFin.i rfl rfl)
   | ok x b p =>
    refine xcEnt 98 Tryz.func120 rfl [(0,.pt 0 0)] ?_
    refine wG aJ TI ?_;refine aA [0] hp TI bU cV ?_;refine goG aJ TKT ?_;refine wG aJ (A5 BY TKT k2 e f0) ?_;refine aA [0] hc.good TI bU cV ?_;refine goG aJ BN01 ?_;refine wG aJ BN01 ?_;refine fiGen [.cell 2 46] (finG aJ) ?_ rfl (idG bU)
    rw[bH x]
    all_goals exact wkG bU
  rw[if_neg h1]at h;have f1:=bneq h1
  by_cases h2:t.text=[108,111,97,100,52]
  ·rw[if_pos h2]at h
   have hc:=hac 18 4 hlt h;have e:=beqq h2;cases r with
   | bad b e1 =>
    refine xcEnt 98 Tryz.func120 rfl [(0,.pt 0 0)] ?_
    refine wG aJ TI ?_;refine aA [0] hp TI bU cV ?_;refine goG aJ TKT ?_;refine wG aJ (A6 BY TKT k2 e f0 f1) ?_;exact PA.callP [0] hc.fails TI bU cV (fun _=>PFin.i rfl rfl)
   | ok x b p =>
    refine xcEnt 98 Tryz.func120 rfl [(0,.pt 0 0)] ?_
    refine wG aJ TI ?_;refine aA [0] hp TI bU cV ?_;refine goG aJ TKT ?_;refine wG aJ (A6 BY TKT k2 e f0 f1) ?_;refine aA [0] hc.good TI bU cV ?_;refine goG aJ BN01 ?_;refine wG aJ BN01 ?_;refine fiGen [.cell 2 46] (finG aJ) ?_ rfl (idG bU)
    rw[bH x]
    all_goals exact wkG bU
  rw[if_neg h2]at h;have f2:=bneq h2
  by_cases h3:t.text=[115,101,120,116,49]
  ·rw[if_pos h3]at h
   have hc:=hac 19 1 hlt h;have e:=beqq h3;cases r with
   | bad b e1 =>
    refine xcEnt 98 Tryz.func120 rfl [(0,.pt 0 0)] ?_
    refine wG aJ TI ?_;refine aA [0] hp TI bU cV ?_;refine goG aJ TKT ?_;refine wG aJ (A7 BY TKT k2 e f0 f1 f2) ?_;exact PA.callP [0] hc.fails TI bU cV (fun _=>PFin.i rfl rfl)
   | ok x b p =>
    refine xcEnt 98 Tryz.func120 rfl [(0,.pt 0 0)] ?_
    refine wG aJ TI ?_;refine aA [0] hp TI bU cV ?_;refine goG aJ TKT ?_;refine wG aJ (A7 BY TKT k2 e f0 f1 f2) ?_;refine aA [0] hc.good TI bU cV ?_;refine goG aJ BN01 ?_;refine wG aJ BN01 ?_;refine fiGen [.cell 2 46] (finG aJ) ?_ rfl (idG bU)
    rw[bH x]
    all_goals exact wkG bU
  rw[if_neg h3]at h;have f3:=bneq h3
  by_cases h4:t.text=[115,101,120,116,50]
  ·rw[if_pos h4]at h
   have hc:=hac 19 2 hlt h;have e:=beqq h4;cases r with
   | bad b e1 =>
    refine xcEnt 98 Tryz.func120 rfl [(0,.pt 0 0)] ?_
    refine wG aJ TI ?_;refine aA [0] hp TI bU cV ?_;refine goG aJ TKT ?_;refine wG aJ (A8 BY TKT k2 e f0 f1 f2 f3) ?_;exact PA.callP [0] hc.fails TI bU cV (fun _=>PFin.i rfl rfl)
   | ok x b p =>
    refine xcEnt 98 Tryz.func120 rfl [(0,.pt 0 0)] ?_
    refine wG aJ TI ?_;refine aA [0] hp TI bU cV ?_;refine goG aJ TKT ?_;refine wG aJ (A8 BY TKT k2 e f0 f1 f2 f3) ?_;refine aA [0] hc.good TI bU cV ?_;refine goG aJ BN01 ?_;refine wG aJ BN01 ?_;refine fiGen [.cell 2 46] (finG aJ) ?_ rfl (idG bU)
    rw[bH x]
    all_goals exact wkG bU
  rw[if_neg h4]at h;have f4:=bneq h4;cases h
  refine xcEnt 98 Tryz.func120 rfl [(0,.pt 0 0)] ?_
  refine wG aJ TI ?_;refine aA [0] hp TI bU cV ?_;refine goG aJ TKT ?_;refine wG aJ (A8 BY TKT k2 f0 f1 f2 f3 f4) ?_;exact PA.callP [0] hf TI bU cV (fun _=>PFin.i rfl rfl)
 rw[if_neg k2]at h
 by_cases k5:t.kind=5
 case neg =>
  rw[if_neg k5]at h;cases h
  refine xcEnt 98 Tryz.func120 rfl [(0,.pt 0 0)] ?_
  refine wG aJ TI ?_;refine aA [0] hp TI bU cV ?_;refine goG aJ TKT ?_;refine wG aJ (A5 TKT k1 k2 k3 k5) ?_;exact PA.callP [0] hf TI bU cV (fun _=>PFin.i rfl rfl)
 rw[if_pos k5]at h
 have hlt:=hla 5 k5 (by decide)
 by_cases h0:t.text=[40]
 ·rw[if_pos h0]at h
  have e:=beqq h0;unfold inn at h;refine xcEnt 98 Tryz.func120 rfl [(0,.pt 0 0)] ?_
  refine wG aJ TI ?_;refine aA [0] hp TI bU cV ?_;refine goG aJ TKT ?_;refine wG aJ (A4 BY TKT k5 e) ?_;rcases aU h with ⟨b1,e1,h1,rfl⟩|⟨_,a1,o1,h1,h⟩
  ·exact PA.callP [0] ((fU ts a o [40] hts _ h1).fails) TI bU cV (fun _=>PFin.i rfl rfl)
  refine aA [0] (((fU ts a o [40] hts _ h1).good)) TI bU cV ?_;refine goG aJ TI ?_;obtain⟨_,ho1,rfl,rfl⟩:=cE h1;refine wG aJ TI ?_;rcases aU h with ⟨b1,e1,h1,rfl⟩|⟨x,a2,o2,h1,h⟩
  ·exact PA.callP [0] ((hE 1 (a+1) (o+1) (by decide) (by omega) _ h1).fails) i1 bU cV (fun _=>PFin.i rfl rfl)
  refine aA [0] (((hE 1 (a+1) (o+1) (by decide) (by omega) _ h1).good)) i1 bU cV ?_
  refine goG aJ BN01 ?_;obtain⟨rfl,_⟩:=dW ts _ _ _ _ _ _ _ h1;refine wG aJ BN01 ?_;rcases aU h with ⟨b1,e1,h1,rfl⟩|⟨_,a3,o3,h1,h⟩
  ·exact PA.callP [0] ((qD ts a2 (o+1) [41] hts (by omega) (by omega) _ h1).fails) TI bU cV (fun _=>PFin.i rfl rfl)
  refine aA [0] (((qD ts a2 (o+1) [41] hts (by omega) (by omega) _ h1).good)) TI bU cV ?_
  refine goG aJ TI ?_;cases h
  refine wG aJ BN01 ?_;refine fiGen [.cell 2 46] (finG aJ) ?_ rfl (idG bU)
  rw[id,bH x]
  all_goals exact wkG bU
 rw[if_neg h0]at h
 have f0:=bneq h0
 by_cases h1:t.text=[33]
 ·rw[if_pos (.inl h1)]at h
  have e:=beqq h1;have e2:(t.text==[45])=false:=bneq (by rw[h1];decide)
  have e3: ¬t.text=[45]:=by rw[h1];decide
  refine xcEnt 98 Tryz.func120 rfl [(0,.pt 0 0)] ?_
  refine wG aJ TI ?_;refine aA [0] hp TI bU cV ?_;refine goG aJ TKT ?_;refine wG aJ (A6 BY TKT k5 e f0 e2) ?_;rcases aU h with ⟨b1,e1,h1,rfl⟩|⟨_,a1,o1,h1,h⟩
  ·exact PA.callP [0] ((fU ts a o t.text hts _ h1).fails) TI bU cV (fun _=>PFin.i rfl rfl)
  refine aA [0] (((fU ts a o t.text hts _ h1).good)) TI bU cV ?_;refine goG aJ TI ?_;obtain⟨_,ho1,rfl,rfl⟩:=cE h1;refine wG aJ TI ?_;rcases aU h with ⟨b1,e1,h1,rfl⟩|⟨x,a2,o2,h1,h⟩
  ·exact PA.callP [0] ((hO (a+1) (o+1) (by omega) _ h1).fails) TI bU cV (fun _=>PFin.i rfl rfl)
  refine aA [0] (((hO (a+1) (o+1) (by omega) _ h1).good)) TI bU cV ?_
  refine goG aJ BN01 ?_;obtain⟨rfl,_⟩:=dW ts _ _ _ _ _ _ _ h1;have hwp:=uD (o:=o+1) (by omega) (by omega)
  rw[if_neg e3]at h;cases h
  refine wG aJ (A9 @gA @eO @fY @fX @fZ @eP @List.getElem?_map.{0,0} @Int.natCast_nonneg hwp) ?_;refine fiGen [.cell 2 46] (finG aJ) ?_ rfl (idG bU)
  rw[mkU,gV,List.map_cons,List.map_nil,bH x]
  all_goals exact wkG bU
 have f1:=bneq h1
 by_cases h2:t.text=[45]
 ·rw[if_pos (.inr h2)]at h
  have e:=beqq h2;have e2:(t.text==[33])=false:=f1;refine xcEnt 98 Tryz.func120 rfl [(0,.pt 0 0)] ?_
  refine wG aJ TI ?_;refine aA [0] hp TI bU cV ?_;refine goG aJ TKT ?_;refine wG aJ (A6 BY TKT k5 e f0 e2) ?_;rcases aU h with ⟨b1,e1,h1,rfl⟩|⟨_,a1,o1,h1,h⟩
  ·exact PA.callP [0] ((fU ts a o t.text hts _ h1).fails) TI bU cV (fun _=>PFin.i rfl rfl)
  refine aA [0] (((fU ts a o t.text hts _ h1).good)) TI bU cV ?_;refine goG aJ TI ?_;obtain⟨_,ho1,rfl,rfl⟩:=cE h1;refine wG aJ TI ?_;rcases aU h with ⟨b1,e1,h1,rfl⟩|⟨x,a2,o2,h1,h⟩
  ·exact PA.callP [0] ((hO (a+1) (o+1) (by omega) _ h1).fails) TI bU cV (fun _=>PFin.i rfl rfl)
  refine aA [0] (((hO (a+1) (o+1) (by omega) _ h1).good)) TI bU cV ?_
  refine goG aJ BN01 ?_;obtain⟨rfl,_⟩:=dW ts _ _ _ _ _ _ _ h1;have hwp:=uD (o:=o+1) (by omega) (by omega)
  rw[if_pos h2]at h;cases h
  refine wG aJ (A9 @gA @eO @fY @fX @fZ @eP @List.getElem?_map.{0,0} @Int.natCast_nonneg hwp) ?_;refine fiGen [.cell 2 46] (finG aJ) ?_ rfl (idG bU)
  rw[mkU,gV,List.map_cons,List.map_nil,bH x]
  all_goals exact wkG bU
 have f2:=bneq h2
 rw[if_neg (by rintro(h|h);exact h1 h;exact h2 h)]at h
 cases h
 refine xcEnt 98 Tryz.func120 rfl [(0,.pt 0 0)] ?_
 refine wG aJ TI ?_
 refine aA [0] hp TI bU cV ?_
 refine goG aJ TKT ?_
 refine wG aJ (A6 BY TKT k5 f0 f1 f2) ?_
 exact PA.callP [0] hf TI bU cV (fun _=>PFin.i rfl rfl)
theorem UV(s:Bs):(opR s).2≤8:=by
 have key: ∀(c:Prop) [Decidable c] (x y:Int×Nat),x.2≤8→y.2≤8→(if c then x else y).2≤8:=fun c _ x y hx hy=>by by_cases h:c<;>simp[h,hx,hy]
 unfold opR
 repeat (refine key _ _ _ (by decide) ?_)
 decide
theorem TP(t:Tk):(stR t).2≤8:=by
 unfold stR
 split
 ·exact UV _
 ·decide
theorem NL{t:Tk}(h:(stR t).2≠0):t.kind=5:=by
 unfold stR at h
 split at h
 ·assumption
 ·exact absurd rfl h
def gX:=A8 @cO @fB @kR @gM @fP @zZ @cN @dK
def lJ:=A4 aX bC @aE @aD
def yC:=A4 fE fF @aQ @aR
theorem XH{ts:List Tk}(hts:ts.length≤4194304)(F:Nat)(hO: ∀f,f<F→OpC ts f)(hE: ∀f,f<F→ExC ts f):ExC ts F:=by
 intro l a0 o0 hl ho0 r h
 cases F with
 | zero=>cases h
 | succ F =>
 rw[exM]at h
 refine xcEnt 39 Tryz.func59 rfl [(0,.pt 0 0),(1,(.im (.int .i64 ((l:Nat)))))] ?_
 refine wG gX TI ?_
 rcases aU h with ⟨b1,e1,h1,rfl⟩|⟨x,a,o,h1,h⟩
 ·exact PA.callP [0] ((hO F (by omega) a0 o0 ho0 _ h1).fails) TI lJ yC (fun _=>PFin.i rfl rfl)
 refine aA [0] (((hO F (by omega) a0 o0 ho0 _ h1).good)) TI lJ yC ?_
 refine goG gX BN01 ?_
 have hoo:=(dW ts _ _ _ _ _ _ _ h1).1
 clear h1
 refine wG gX BN01 ?_
 refine aP ?_
 refine dF ?_
 suffices H: ∀(f:Nat),f≤F→ ∀(x:Ex) (a:Nat),exM ts f (.lo l x) a o=some r→AWpK _ _ _ _ _ ⟨dn 39 [(0,.pt 0 0),(1,(.im (.int .i64 ((l:Nat))))),(4,.pt 1 0),(5,.pt 2 0)],ofl [.box [.sl (ts.map tkV) .ro,(.im (.int .i64 ((a:Nat)))),(.im (.int .i64 ((o:Nat))))],.box [(.im (.int .i64 (0))),.im (.int .u32 0),.im (.string ByteArray.empty),(.im (.int .i64 (0))),.sl [] .nl],.box [(.im (.int .i64 ((x).op))),.im (.int .u32 (x).n),.im (.string (x).name),(.im (.int .i64 ((x).width))),.sl ((x).l.map exV) .ro]]⟩ by
  refine AWp.cutP 3 [(0,.pt 0 0),(1,(.im (.int .i64 ((l:Nat))))),(4,.pt 1 0),(5,.pt 2 0)] [.box [.sl (ts.map tkV) .ro,(.im (.int .i64 ((a:Nat)))),(.im (.int .i64 ((o:Nat))))],.box [(.im (.int .i64 (0))),.im (.int .u32 0),.im (.string ByteArray.empty),(.im (.int .i64 (0))),.sl [] .nl],.box [(.im (.int .i64 ((x).op))),.im (.int .u32 (x).n),.im (.string (x).name),(.im (.int .i64 ((x).width))),.sl ((x).l.map exV) .ro]] lJ ?_;exact H F (Nat.le_refl _) x a h
 clear h
 subst hoo
 intro f
 induction f with
 | zero=>intro _ x a h;cases h
 | succ f ih =>
 intro hf x a h
 rw[exM]at h
 have hp:=xW ts a o
 have hq:=Rt (pk ts a)
 have hle:=TP (pk ts a)
 have hlt:(stR (pk ts a)).2≠0→a<ts.length:=fun hh=>eJ (NL hh) (by decide)
 generalize hst:stR (pk ts a)=st at hq hle hlt h
 generalize pk ts a=t at hp hq
 by_cases hz:st.2=0
 ·rw[if_pos (.inl hz)]at h
  cases h
  have hz':((st.2:Nat):Int)=0:=by omega
  refine wG gX TI ?_;refine aA [0] hp TI lJ yC ?_;refine goG gX TKT ?_;refine AR.callP hq TI lJ ?_;refine goG gX TI ?_;refine wG gX (AI hz' BN01) ?_;refine fiGen [.cell 4 46] (finG gX) ?_ rfl (idG lJ)
  rw[bH x]
  all_goals exact wkG lJ
 by_cases hn:st.2<l
 ·rw[if_pos (.inr hn)]at h
  cases h
  have hz': ¬((st.2:Nat):Int)=0:=by omega
  have hn':((st.2:Nat):Int)<(l:Int):=by omega
  refine wG gX TI ?_;refine aA [0] hp TI lJ yC ?_;refine goG gX TKT ?_;refine AR.callP hq TI lJ ?_;refine goG gX TI ?_;refine wG gX (A3 hz' hn' BN01) ?_;refine fiGen [.cell 4 46] (finG gX) ?_ rfl (idG lJ)
  rw[bH x]
  all_goals exact wkG lJ
 rw[if_neg (by omega)]at h
 have hz': ¬((st.2:Nat):Int)=0:=by omega
 have hn': ¬((st.2:Nat):Int)<(l:Int):=by omega
 have hlt:=hlt hz
 have hw:=aK (m:=a) (N:=4194304) (by omega) (by decide)
 have hw2:=aK (m:=st.2) (N:=4194304) (by omega) (by decide)
 refine wG gX TI ?_
 refine aA [0] hp TI lJ yC ?_
 refine goG gX TKT ?_
 refine AR.callP hq TI lJ ?_
 refine goG gX TI ?_
 refine wdG gX (A5 hz' hn' hw hw2 BN01) ?_
 rcases aU h with ⟨b1,e1,h1,rfl⟩|⟨y,a1,o1,h1,hk⟩
 ·exact pQ [0] ((hE f (by omega) (st.2+1) (a+1) o (by omega) ho0 _ h1).fails) TI lJ yC (fun _=>PFin.i rfl rfl) ⟨[],_,.nil,by kernel_rfl⟩
 refine aA [0] ((hE f (by omega) (st.2+1) (a+1) o (by omega) ho0 _ h1).good) TI lJ yC ?_
 have hoo:=(dW ts _ _ _ _ _ _ _ h1).1
 subst hoo
 obtain⟨B,hB⟩: ∃B,B=[x,y]:=⟨_,rfl⟩
 have hAs:[V.ag [(.im (.int .i64 (x.op))),.im (.int .u32 x.n),.im (.string x.name),(.im (.int .i64 (x.width))),.sl (x.l.map exV) .ro],exV y]=B.map exV:=by rw[hB,List.map_cons,List.map_cons,List.map_nil,bH x]
 have h:exM ts f (.lo l (.mk st.1 0 ByteArray.empty 0 B)) a1 o1=some r:=by rw[hB];exact hk
 refine goG gX (A9 @gA @eO @fY @fX @fZ @eP @List.getElem?_map.{0,0} @Int.natCast_nonneg hAs) ?_
 refine wdG gX (A9 @gA @eO @fY @fX @fZ @eP @List.getElem?_map.{0,0} @Int.natCast_nonneg hAs) ?_
 refine dF ?_
 refine Zh 3 [(0,.pt 0 0),(1,(.im (.int .i64 ((l:Nat))))),(4,.pt 1 0),(5,.pt 2 0)] [.box [.sl (ts.map tkV) .ro,(.im (.int .i64 ((a1:Nat)))),(.im (.int .i64 ((o1:Nat))))],.box [(.im (.int .i64 (0))),.im (.int .u32 0),.im (.string ByteArray.empty),(.im (.int .i64 (0))),.sl [] .nl],.box [(.im (.int .i64 (st.1))),.im (.int .u32 0),.im (.string ByteArray.empty),(.im (.int .i64 (0))),.sl (B.map exV) .ro]] ?_ (by simp) (by repeat (first|exact WkFA.nil|refine WkFA.cons (by first|exact .of (Wk.refl _) (by first|rfl|simp only[List.length_cons,List.length_nil,Nat.reduceAdd,V.ids,V.idsL,idsA,entOk,List.all_cons,List.all_nil,Bool.and_self,Bool.and_true,Bool.true_and,ltB,noId,Nat.reduceLT,decide_true,Bool.true_eq_false,bQ,bS,bR,bT,aX,bC,aE,aD])|exact .of (Wk.ro _ _) (by simp[V.ids,V.idsL,aD])) ?_)) (by repeat (first|exact WkFE.nil|refine WkFE.box (by repeat (first|exact WkFL.nil|refine WkFL.cons (by first|exact .of (Wk.refl _) (by first|rfl|simp only[List.length_cons,List.length_nil,Nat.reduceAdd,V.ids,V.idsL,idsA,entOk,List.all_cons,List.all_nil,Bool.and_self,Bool.and_true,Bool.true_and,ltB,noId,Nat.reduceLT,decide_true,Bool.true_eq_false,bQ,bS,bR,bT,aX,bC,aE,aD])|exact .of (Wk.ro _ _) (by simp[V.ids,V.idsL,aD])) ?_)) ?_|refine WkFE.same (fun _ e=>by cases e) ?_)) (fun i hi=>by first|exact absurd rfl hi|exact Nat.lt_of_lt_of_le (qW hi) (by simp))
 exact ih (by omega) (.mk st.1 0 ByteArray.empty 0 B) a1 h
theorem ZX{ts:List Tk}(hts:ts.length≤4194304): ∀F f,f≤F→OpC ts f∧ExC ts f:=by
 intro F
 induction F with
 | zero =>
  intro f hf;obtain rfl:f=0:=by omega
  exact⟨(fun a o _ r h=>by cases h),(fun l a o _ _ r h=>by cases h)⟩
 | succ F ih =>
  intro f hf
  by_cases hle:f≤F
  ·exact ih f hle
  obtain rfl:f=F+1:=by omega
  exact⟨Vj hts (ih F (Nat.le_refl _)).1 (ih F (Nat.le_refl _)).2,XH hts (F+1) (fun f hf=>(ih f (by omega)).1) (fun f hf=>(ih f (by omega)).2)⟩
theorem xF{ts:List Tk}(hts:ts.length≤4194304)(f:Nat):ExC ts f:=(ZX hts f f (Nat.le_refl _)).2
def stV(x:List (List Nd)):V:=ndV (theS x)
def liV(x:List (List Nd)):V:=nlV (x.headD [])
def caV(x:List (List Nd)):V:= .sl (x.map nlV) .ro
theorem kN(s:Nd):stV (oneS s)=ndV s:=rfl
theorem Xn(g:Nat→Nat)(c:List Nd):V.ren g (nlV c)=nlV c:=V.ren_id g _ (aV _ c)
theorem Md(g:Nat→Nat)(x:List (List Nd)):V.ren g (liV x)=liV x:=V.ren_id g _ (aV _ _)
theorem Ul(p:Nat→Bool)(x:List (List Nd)):(liV x).ids p=true:=aV _ _
theorem Xa(g:Nat→Nat)(x:List (List Nd)):V.ren g (stV x)=stV x:=V.ren_id g _ (aS _ _)
theorem FX(p:Nat→Bool)(x:List (List Nd)):(stV x).ids p=true:=aS _ _
theorem Vb(p:Nat→Bool)(x:List (List Nd)):(caV x).ids p=true:=by simp only[caV,V.ids,Bool.and_true];exact aH p x
theorem Yj(g:Nat→Nat)(x:List (List Nd)):V.ren g (caV x)=caV x:=V.ren_id g _ (Vb _ _)
theorem Qg(c:List (List Nd)):(liV c).live=true:=rfl
theorem Qf(c:List (List Nd)):(liV c).size=1:=rfl
theorem Qh(c:List (List Nd)):(liV c).isAg=false:=rfl
theorem Ju(c:List (List Nd)):(liV c).cells=[liV c]:=rfl
theorem Rp(c:List (List Nd)):(caV c).live=true:=rfl
theorem Rn(c:List (List Nd)):(caV c).size=1:=rfl
theorem Rq(c:List (List Nd)):(caV c).isAg=false:=rfl
theorem Km(c:List (List Nd)):(caV c).cells=[caV c]:=rfl
theorem Po(c:List (List Nd)):(stV c).live=true:=uW _
theorem Pn(c:List (List Nd)):(stV c).size=7:=uV _
theorem Pp(c:List (List Nd)):(stV c).isAg=true:=zA _
theorem Ji(c:List (List Nd)):(stV c).cells=[.im (.int .i64 (theS c).kind),.im (.int .i64 (theS c).width),.im (.string (theS c).name),.sl ((theS c).e.map exV) .ro,.sl ((theS c).l.map ndV) .ro,.sl ((theS c).el.map ndV) .ro,.sl ((theS c).cs.map nlV) .ro]:=wA _
theorem LIT:type_of%(A12 @Qg @Qf @Qh @Ju @Rp @Rn @Rq @Km @Po @Pn @Pp @Ji) :=
 A12 @Qg @Qf @Qh @Ju @Rp @Rn @Rq @Km @Po @Pn @Pp @Ji
def eD:=A13 @iR @cO @hU @kL @kR @gM @iV @iD @Aa @gT @cN @hM @dK
def dH:=A8 aX bC @aE @aD aS aG aV aH
def fS:=A7 fE fF @aQ @aR cC bI bK
theorem KK{ts:List Tk}{f:Nat}(hts:ts.length≤4194304)(a o:Nat)(ho:o≤256)(r:Rs (List (List Nd)))(h:Bc ts f a o=some r):XC Tryz.prog 215 [.pt 0 0] ts a o stV r:=by
 unfold Bc at h
 refine xcEnt 24 Tryz.func215 rfl [(0,.pt 0 0)] ?_
 refine wG eD TI ?_
 rcases aU h with ⟨b1,e1,h1,rfl⟩|⟨nm,a1,o1,h1,h⟩
 ·exact PA.callP [0] ((lB ts a o hts _ h1).fails) TI dH fS (fun _=>PFin.i rfl rfl)
 refine aA [0] (((lB ts a o hts _ h1).good)) TI dH fS ?_
 refine goG eD TI ?_
 obtain⟨_,rfl,hoe,hlt⟩:=gQ h1
 subst o1
 clear h1
 refine wG eD TI ?_
 have hq:=eC ts (a+1) o [58] hts
 rcases aI h with ⟨hk,h⟩|⟨hk,h⟩
 ·rw[if_pos hk,hk]at hq
  cases h
  refine aA [0] hq TI dH fS ?_;refine goG eD TI ?_;refine wG eD TI ?_;refine fiGen [.cell 2 165] (finG eD) ?_ rfl (idG dH)
  simp only[kN,eW,List.map_nil]
  all_goals exact wkG dH
 rw[if_neg hk]at hq
 rw[Bool.not_eq_true]at hk
 rw[hk]at hq
 refine aA [0] hq TI dH fS ?_
 refine goG eD TI ?_
 refine wG eD TI ?_
 rcases aU h with ⟨b1,e1,h1,rfl⟩|⟨_,a2,o2,h1,h⟩
 ·exact PA.callP [0] ((bV ts (a+1) o [61] hts _ h1).fails) TI dH fS (fun _=>PFin.i rfl rfl)
 refine aA [0] (((bV ts (a+1) o [61] hts _ h1).good)) TI dH fS ?_
 refine goG eD TI ?_
 obtain⟨_,rfl,hoe⟩:=cK h1
 subst o2
 clear h1
 refine wG eD TI ?_
 have hq:=eC ts (a+1+1) o [105,110] hts
 rcases aI h with ⟨hk2,h⟩|⟨hk2,h⟩
 ·rw[if_pos hk2,hk2]at hq
  refine aA [0] hq TI dH fS ?_;refine goG eD TI ?_;refine wG eD TI ?_;rcases aU h with ⟨b1,e1,h1,rfl⟩|⟨_,a3,o3,h1,h⟩
  ·exact PA.callP [0] ((bV ts (a+1+1+1) o [59] hts _ h1).fails) TI dH fS (fun _=>PFin.i rfl rfl)
  refine aA [0] (((bV ts (a+1+1+1) o [59] hts _ h1).good)) TI dH fS ?_;refine goG eD TI ?_;cases h
  refine wG eD TI ?_;refine fiGen [.cell 2 165] (finG eD) ?_ rfl (idG dH)
  simp only[kN,eW,List.map_nil]
  all_goals exact wkG dH
 rw[if_neg hk2]at hq
 rw[Bool.not_eq_true]at hk2
 rw[hk2]at hq
 refine aA [0] hq TI dH fS ?_
 refine goG eD TI ?_
 refine wG eD TI ?_
 rcases aU h with ⟨b1,e1,h1,rfl⟩|⟨x,a3,o3,h1,h⟩
 ·exact PA.callP [0] ((xF hts f 1 (a+1+1) o (by decide) ho _ h1).fails) i1 dH fS (fun _=>PFin.i rfl rfl)
 refine aA [0] (((xF hts f 1 (a+1+1) o (by decide) ho _ h1).good)) i1 dH fS ?_
 refine goG eD BN01 ?_
 have hoe:=(dW ts _ _ _ _ _ _ _ h1).1
 subst o3
 refine wG eD BN01 ?_
 rcases aU h with ⟨b1,e1,h1,rfl⟩|⟨_,a4,o4,h1,h⟩
 ·exact PA.callP [0] ((bV ts a3 o [59] hts _ h1).fails) TI dH fS (fun _=>PFin.i rfl rfl)
 refine aA [0] (((bV ts a3 o [59] hts _ h1).good)) TI dH fS ?_
 refine goG eD TI ?_
 cases h
 refine wG eD BN01 ?_
 refine fiGen [.cell 2 165] (finG eD) ?_ rfl (idG dH)
 simp only[kN,eW,List.map_nil,List.map_cons];rw[bH x]
 all_goals exact wkG dH
def iO:=A11 @iR @hU @fB @kL @kR @gM @iD @Aa @gT @hM @dK
theorem Mv{ts:List Tk}{f:Nat}(hts:ts.length≤4194304)(w:Int)(a o:Nat)(ho:o≤256)(r:Rs (List (List Nd)))(h:mA ts f w a o=some r):XC Tryz.prog 216 [.pt 0 0,(.im (.int .i64 (w)))] ts a o stV r:=by
 unfold mA at h
 refine xcEnt 27 Tryz.func216 rfl [(0,.pt 0 0),(1,(.im (.int .i64 (w))))] ?_
 refine wG iO TI ?_
 rcases aU h with ⟨b1,e1,h1,rfl⟩|⟨_,a1,o1,h1,h⟩
 ·exact PA.callP [0] ((fU ts a o [40] hts _ h1).fails) TI dH fS (fun _=>PFin.i rfl rfl)
 refine aA [0] (((fU ts a o [40] hts _ h1).good)) TI dH fS ?_
 refine goG iO TI ?_
 obtain⟨_,ho1,rfl,rfl⟩:=cE h1
 clear h1
 refine wG iO TI ?_
 rcases aU h with ⟨b1,e1,h1,rfl⟩|⟨x,a2,o2,h1,h⟩
 ·exact PA.callP [0] ((xF hts f 1 (a+1) (o+1) (by decide) (by omega) _ h1).fails) i1 dH fS (fun _=>PFin.i rfl rfl)
 refine aA [0] (((xF hts f 1 (a+1) (o+1) (by decide) (by omega) _ h1).good)) i1 dH fS ?_
 refine goG iO BN01 ?_
 obtain⟨rfl,_⟩:=dW ts _ _ _ _ _ _ _ h1
 clear h1
 refine wG iO BN01 ?_
 rcases aU h with ⟨b1,e1,h1,rfl⟩|⟨_,a3,o3,h1,h⟩
 ·exact PA.callP [0] ((bV ts a2 (o+1) [44] hts _ h1).fails) TI dH fS (fun _=>PFin.i rfl rfl)
 refine aA [0] (((bV ts a2 (o+1) [44] hts _ h1).good)) TI dH fS ?_
 refine goG iO TI ?_
 obtain⟨_,rfl,rfl⟩:=cK h1
 clear h1
 refine wG iO TI ?_
 rcases aU h with ⟨b1,e1,h1,rfl⟩|⟨y,a4,o4,h1,h⟩
 ·exact PA.callP [0] ((xF hts f 1 (a2+1) (o+1) (by decide) (by omega) _ h1).fails) i1 dH fS (fun _=>PFin.i rfl rfl)
 refine aA [0] (((xF hts f 1 (a2+1) (o+1) (by decide) (by omega) _ h1).good)) i1 dH fS ?_
 refine goG iO BN01 ?_
 obtain⟨rfl,_⟩:=dW ts _ _ _ _ _ _ _ h1
 clear h1
 refine wG iO BN01 ?_
 rcases aU h with ⟨b1,e1,h1,rfl⟩|⟨_,a5,o5,h1,h⟩
 ·exact PA.callP [0] ((qD ts a4 (o+1) [41] hts (by omega) (by omega) _ h1).fails) TI dH fS (fun _=>PFin.i rfl rfl)
 refine aA [0] (((qD ts a4 (o+1) [41] hts (by omega) (by omega) _ h1).good)) TI dH fS ?_
 refine goG iO TI ?_
 obtain⟨_,rfl,hoe⟩:=oM h1
 rw[Nat.add_sub_cancel]at hoe
 subst o5
 clear h1
 refine wG iO TI ?_
 rcases aU h with ⟨b1,e1,h1,rfl⟩|⟨_,a6,o6,h1,h⟩
 ·exact PA.callP [0] ((bV ts (a4+1) o [59] hts _ h1).fails) TI dH fS (fun _=>PFin.i rfl rfl)
 refine aA [0] (((bV ts (a4+1) o [59] hts _ h1).good)) TI dH fS ?_
 refine goG iO TI ?_
 cases h
 refine wG iO BN01 ?_
 refine fiGen [.cell 4 165] (finG iO) ?_ rfl (idG dH)
 simp only[kN,eW,List.map_nil,List.map_cons];rw[bH x,bH y]
 all_goals exact wkG dH
def zV:=A4 @iR @kL @Aa @gT
theorem wS{ts:List Tk}(hts:ts.length≤4194304)(k:Int)(a o:Nat)(ho:o≤256)(r:Rs (List (List Nd)))(h:mB ts k a o=some r):XC Tryz.prog 219 [.pt 0 0,(.im (.int .i64 (k)))] ts a o stV r:=by
 unfold mB at h
 refine xcEnt 9 Tryz.func219 rfl [(0,.pt 0 0),(1,(.im (.int .i64 (k))))] ?_
 refine wG zV TI ?_
 rcases aU h with ⟨b1,e1,h1,rfl⟩|⟨_,a1,o1,h1,h⟩
 ·exact PA.callP [0] ((bV ts a o [59] hts _ h1).fails) TI dH fS (fun _=>PFin.i rfl rfl)
 refine aA [0] (((bV ts a o [59] hts _ h1).good)) TI dH fS ?_
 refine goG zV TI ?_
 cases h
 refine wG zV TI ?_
 refine fiGen [.cell 4 165] (finG zV) ?_ rfl (idG dH)
 simp only[kN,eW,List.map_nil]
 all_goals exact wkG dH
def BN09:=A9 LIT @gA @eO @fY @fX @fZ @eP @List.getElem?_map.{0,0} @Int.natCast_nonneg
def StC(ts:List Tk)(f:Nat):Prop:= ∀a o:Nat,o≤256→ ∀r,stM ts f .st a o=some r→XC Tryz.prog 168 [.pt 0 0] ts a o stV r
def LiC(ts:List Tk)(f:Nat):Prop:= ∀a o:Nat,o≤256→ ∀r,stM ts f (.li []) a o=some r→XC Tryz.prog 107 [.pt 0 0] ts a o liV r
def BrC(ts:List Tk)(f:Nat):Prop:= ∀a o:Nat,o≤256→ ∀r,stM ts f .br a o=some r→XC Tryz.prog 217 [.pt 0 0] ts a o liV r
def CaC(ts:List Tk)(f:Nat):Prop:= ∀a o:Nat,o≤256→ ∀r,rb (begM ts [123] a o) (fun _ a o=>stM ts f (.ca []) a o)=some r→XC Tryz.prog 218 [.pt 0 0] ts a o caV r
theorem Ov{n:Int}(h:0≤n∧n≤9223372036854775807):IntKind.u64.wrap n=n:=by
 show n%18446744073709551616=n
 omega
theorem HS(l:List Nd):kV 7 (l.map ndV)=true:=by
 unfold kV
 rw[List.all_map]
 exact List.all_eq_true.2 fun x _=>by simp[uV,uW]
theorem Xm(l:List (List Nd)):kV 1 (l.map nlV)=true:=by
 unfold kV
 rw[List.all_map]
 exact List.all_eq_true.2 fun x _=>rfl
def kZ:=A4 @kL @MC @oV @gT
def fD:=A11 aX bC @aE @aD aS aG aV aH Ul FX Vb
def iT:=A11 fE fF @aQ @aR cC bI bK Xn Md Xa Yj
theorem KL{ts:List Tk}(hts:ts.length≤4194304)(F:Nat)(hS: ∀f,f<F→StC ts f):LiC ts F:=by
 intro a o ho r h
 refine xcEnt 13 Tryz.func107 rfl [(0,.pt 0 0)] ?_
 refine wG kZ TI ?_
 refine aP ?_
 refine ALp.ghost 3 [] .nl 165 7 ?_
 suffices H: ∀(f:Nat),f≤F→ ∀(l:List Nd) (a:Nat),l.length≤a→stM ts f (.li l) a o=some r→ALp _ _ _ _ _ ⟨dn 13 [(0,.pt 0 0),(3,.sl ((l).map ndV) (.own 1))],ofl [.box [.sl (ts.map tkV) .ro,(.im (.int .i64 ((a:Nat)))),(.im (.int .i64 ((o:Nat))))],.tip 165 7 (l).length]⟩ by
  refine ALp.cutP 2 [(0,.pt 0 0),(3,.sl ((([]:List Nd)).map ndV) (.own 1))] [.box [.sl (ts.map tkV) .ro,(.im (.int .i64 ((a:Nat)))),(.im (.int .i64 ((o:Nat))))],.tip 165 7 (([]:List Nd)).length] fD ?_;exact H F (Nat.le_refl _) [] a (Nat.zero_le _) h
 clear h
 intro f
 induction f with
 | zero=>intro _ l a _ h;cases h
 | succ f ih =>
 intro hf l a hla h
 rw[stM]at h
 have hs:=pK ts a o [125]
 refine dF ?_
 rcases aI h with ⟨hk,h⟩|⟨hk,h⟩
 ·rw[hk]at hs
  cases h
  refine wG kZ TI ?_;refine aA [0] hs TI fD iT ?_;refine goG kZ TI ?_;refine wG kZ TI ?_;refine fiGen [.tmp 2] (finG kZ) ?_ rfl (idG fD)
  show WkF _ _ _ (.sl (l.map ndV) .ro)
  all_goals exact wkG fD
 rw[Bool.not_eq_true]at hk
 rw[hk]at hs
 refine wG kZ TI ?_
 refine aA [0] hs TI fD iT ?_
 refine goG kZ TI ?_
 refine wG kZ TI ?_
 rcases aU h with ⟨b1,e1,h1,rfl⟩|⟨x,a1,o1,h1,hk2⟩
 ·exact PA.callP [0] ((hS f (by omega) a o ho _ h1).fails) TI fD iT (fun _=>PFin.i rfl rfl)
 obtain⟨hoe,hlt,hle⟩:=(fW ts f).1 _ _ _ _ _ h1
 have hc:=(hS f (by omega) a o ho _ h1).good
 change DC _ _ _ _ (ndV (theS x)) _ at hc
 subst o1
 generalize theS x=s at hc hk2
 obtain⟨B,hB⟩: ∃B,B=l++[s]:=⟨_,rfl⟩
 have hAs:l.map ndV++[ndV s]=B.map ndV:=by rw[hB,List.map_append];rfl
 have hAl:l.length+1=B.length:=by rw[hB];simp
 have hbl:B.length*128≤140737488355328:=by omega
 have h4:stM ts f (.li B) a1 o=some r:=by rw[hB];exact hk2
 refine aA [0] hc TI fD iT ?_
 refine goG kZ (A6 ND hAs hAl hbl HS @List.length_map.{0,0}) ?_
 refine wG kZ (A6 ND hAs hAl hbl HS @List.length_map.{0,0}) ?_
 refine ALp.cutP 2 [(0,.pt 0 0),(3,.sl ((B).map ndV) (.own 1))] [.box [.sl (ts.map tkV) .ro,(.im (.int .i64 ((a1:Nat)))),(.im (.int .i64 ((o:Nat))))],.tip 165 7 (B).length] fD ?_
 exact ih (by omega) B a1 (by omega) h4
theorem LC{ts:List Tk}(hts:ts.length≤4194304)(f:Nat)(hL:LiC ts f):BrC ts (f+1):=by
 intro a o ho r h
 rw[stM]at h
 refine xcEnt 11 Tryz.func217 rfl [(0,.pt 0 0)] ?_
 refine wG TI TI ?_
 rcases aU h with ⟨b1,e1,h1,rfl⟩|⟨_,a1,o1,h1,h⟩
 ·exact PA.callP [0] ((fU ts a o [123] hts _ h1).fails) TI fD iT (fun _=>PFin.i rfl rfl)
 refine aA [0] (((fU ts a o [123] hts _ h1).good)) TI fD iT ?_
 refine goG TI TI ?_
 obtain⟨_,ho1,rfl,rfl⟩:=cE h1
 clear h1
 refine wG TI TI ?_
 rcases aU h with ⟨b1,e1,h1,rfl⟩|⟨l,a2,o2,h1,h⟩
 ·exact PA.callP [0] ((hL (a+1) (o+1) (by omega) _ h1).fails) TI fD iT (fun _=>PFin.i rfl rfl)
 refine aA [0] (((hL (a+1) (o+1) (by omega) _ h1).good)) TI fD iT ?_
 refine goG TI TI ?_
 obtain⟨rfl,_,_⟩:=(fW ts f).2.1 _ _ _ _ _ _ h1
 clear h1
 refine wG TI TI ?_
 rcases aU h with ⟨b1,e1,h1,rfl⟩|⟨_,a3,o3,h1,h⟩
 ·exact PA.callP [0] ((qD ts a2 (o+1) [125] hts (by omega) (by omega) _ h1).fails) TI fD iT (fun _=>PFin.i rfl rfl)
 refine aA [0] (((qD ts a2 (o+1) [125] hts (by omega) (by omega) _ h1).good)) TI fD iT ?_
 refine goG TI TI ?_
 cases h
 refine wG TI TI ?_
 refine fiGen [.tmp 2] (finG TI) ?_ rfl (idG fD)
 all_goals exact wkG fD
def gB:=A16 @cO @nP @kM @Om @Zg @lA @lP @pR @fP @rX @vN @tP @gU @cN @iQ (A4 @nN @rW @vL @tJ)
theorem QT{ts:List Tk}(hts:ts.length≤4194304)(hok: ∀t∈ts,TkOk t)(F:Nat)(hB: ∀f,f<F→BrC ts f):CaC ts F:=by
 intro a0 o ho r h
 refine xcEnt 40 Tryz.func218 rfl [(0,.pt 0 0)] ?_
 refine wG gB TI ?_
 rcases aU h with ⟨b1,e1,h1,rfl⟩|⟨_,a1,o1,h1,h⟩
 ·exact PA.callP [0] ((fU ts a0 o [123] hts _ h1).fails) TI fD iT (fun _=>PFin.i rfl rfl)
 refine aA [0] (((fU ts a0 o [123] hts _ h1).good)) TI fD iT ?_
 refine goG gB TI ?_
 obtain⟨_,ho1,rfl,rfl⟩:=cE h1
 clear h1
 refine wG gB TI ?_
 refine aP ?_
 refine ALp.ghost 3 [] .nl 35 1 ?_
 suffices H: ∀(f:Nat),f≤F→ ∀(l:List (List Nd)) (a:Nat),l.length≤a→stM ts f (.ca l) a (o+1)=some r→ALp _ _ _ _ _ ⟨dn 40 [(0,.pt 0 0),(3,.sl ((l).map nlV) (.own 1))],ofl [.box [.sl (ts.map tkV) .ro,(.im (.int .i64 ((a:Nat)))),(.im (.int .i64 ((o+1:Nat))))],.tip 35 1 (l).length]⟩ by
  refine ALp.cutP 2 [(0,.pt 0 0),(3,.sl ((([]:List (List Nd))).map nlV) (.own 1))] [.box [.sl (ts.map tkV) .ro,(.im (.int .i64 ((a0+1:Nat)))),(.im (.int .i64 ((o+1:Nat))))],.tip 35 1 (([]:List (List Nd))).length] fD ?_;exact H F (Nat.le_refl _) [] (a0+1) (Nat.zero_le _) h
 clear h
 intro f
 induction f with
 | zero=>intro _ l a _ h;cases h
 | succ f ih =>
 intro hf l a hla h
 rw[stM]at h
 have hq:=eC ts a (o+1) [99,97,115,101] hts
 refine dF ?_
 rcases aI h with ⟨hk,h⟩|⟨hk,h⟩
 case inr =>
  rw[if_neg hk]at hq;rw[Bool.not_eq_true]at hk;rw[hk]at hq;refine wG gB TI ?_;refine aA [0] hq TI fD iT ?_;refine goG gB TI ?_;refine wG gB TI ?_;rcases aU h with ⟨b1,e1,h1,rfl⟩|⟨_,a3,o3,h1,h⟩
  ·exact PA.callP [0] ((qD ts a (o+1) [125] hts (by omega) (by omega) _ h1).fails) TI fD iT (fun _=>PFin.i rfl rfl)
  refine aA [0] (((qD ts a (o+1) [125] hts (by omega) (by omega) _ h1).good)) TI fD iT ?_
  refine goG gB TI ?_;cases h
  refine wG gB TI ?_;refine fiGen [.tmp 2] (finG gB) ?_ rfl (idG fD)
  show WkF _ _ _ (.sl (l.map nlV) .ro)
  all_goals exact wkG fD
 have hlt:=bJ hk
 rw[if_pos hk,hk]at hq
 have hp:=xW ts (a+1) (o+1)
 have hf:=oG ts (a+1) (o+1) 3
 have hn:=Fs hok (a+1)
 have hkl:=fun hh=>eJ (ts:=ts) (a:=a+1) (k:=3) hh (by decide)
 generalize pk ts (a+1)=t at hp hn h hkl
 refine wG gB TI ?_
 refine aA [0] hq TI fD iT ?_
 refine goG gB TI ?_
 refine wG gB TI ?_
 refine aA [0] hp TI fD iT ?_
 refine goG gB TKT ?_
 have hw1:IntKind.u64.wrap t.n=t.n:=Ov (by omega)
 have hw2:IntKind.u64.wrap (l.length:Int)=(l.length:Int):=Ov (by omega)
 by_cases k3:t.kind=3
 case neg =>
  rw[if_neg (fun hh=>k3 hh.1)]at h
  cases h
  refine wG gB (A5 TKT k3 hw1 hw2 @List.length_map.{0,0}) ?_;exact PA.callP [0] hf TI fD iT (fun _=>PFin.i rfl rfl)
 by_cases kn:t.n=l.length
 case neg =>
  rw[if_neg (fun hh=>kn hh.2)]at h
  cases h
  refine wG gB (A6 TKT k3 kn hw1 hw2 @List.length_map.{0,0}) ?_;exact PA.callP [0] hf TI fD iT (fun _=>PFin.i rfl rfl)
 rw[if_pos ⟨k3,kn⟩]at h
 have hlt2:=hkl k3
 have hw:=aK (m:=a+1) (N:=4194304) (by omega) (by decide)
 refine wG gB (A7 TKT k3 kn hw1 hw2 hw @List.length_map.{0,0}) ?_
 rcases aU h with ⟨b1,e1,h1,rfl⟩|⟨x,a1,o1,h1,hk2⟩
 ·exact PA.callP [0] ((hB f (by omega) (a+2) (o+1) (by omega) _ h1).fails) TI fD iT (fun _=>PFin.i rfl rfl)
 obtain⟨hoe,hlt3,hle⟩:=(fW ts f).2.2.1 _ _ _ _ _ h1
 have hc:=(hB f (by omega) (a+2) (o+1) (by omega) _ h1).good
 change DC _ _ _ _ (nlV (x.headD [])) _ at hc
 subst hoe
 generalize x.headD []=s at hc hk2
 obtain⟨B,hB⟩: ∃B,B=l++[s]:=⟨_,rfl⟩
 have hAs:l.map nlV++[nlV s]=B.map nlV:=by rw[hB,List.map_append];rfl
 have hAl:l.length+1=B.length:=by rw[hB];simp
 have hbl:B.length*24≤140737488355328:=by omega
 have h4:stM ts f (.ca B) a1 (o+1)=some r:=by rw[hB];exact hk2
 refine aA [0] hc TI fD iT ?_
 refine goG gB (A6 ND hAs hAl hbl Xm @List.length_map.{0,0}) ?_
 refine wG gB (A6 ND hAs hAl hbl Xm @List.length_map.{0,0}) ?_
 refine ALp.cutP 2 [(0,.pt 0 0),(3,.sl ((B).map nlV) (.own 1))] [.box [.sl (ts.map tkV) .ro,(.im (.int .i64 ((a1:Nat)))),(.im (.int .i64 ((o+1:Nat))))],.tip 35 1 (B).length] fD ?_
 exact ih (by omega) B a1 (by omega) h4
def TyC(ts:List Tk)(f:Nat):Prop:= ∀a o:Nat,o≤256→ ∀r,tyM ts f .ty a o=some r→XC Tryz.prog 144 [.pt 0 0] ts a o tyV r
def FlC(ts:List Tk)(f:Nat):Prop:= ∀a o:Nat,o≤256→ ∀r,rb (begM ts [123] a o) (fun _ a o=>tyM ts f (.fl []) a o)=some r→XC Tryz.prog 201 [.pt 0 0] ts a o tyV r
def cW:=A16 @nP @qO @gF @sD @Ac @MA @qL @pR @jU @vN @tP @LV @Ed @nZ @nN (A4 @nM @gD @vL @tJ)
def gJ:=A6 aX bC @bQ @bS @bR @bT
def iU:=A6 fE fF @sE @sS @sF @sT
theorem Rr{ts:List Tk}(hts:ts.length≤4194304)(hok: ∀t∈ts,TkOk t)(F:Nat)(hT: ∀f,f<F→TyC ts f):FlC ts F:=by
 intro a0 o0 ho0 r h
 refine xcEnt 35 Tryz.func201 rfl [(0,.pt 0 0)] ?_
 refine wG cW TI ?_
 rcases aU h with ⟨b1,e1,h1,rfl⟩|⟨_,a,o,h1,h⟩
 ·exact PA.callP [0] ((fU ts a0 o0 [123] hts _ h1).fails) TI gJ iU (fun _=>PFin.i rfl rfl)
 refine aA [0] (((fU ts a0 o0 [123] hts _ h1).good)) TI gJ iU ?_
 refine goG cW TI ?_
 obtain⟨hsee,ho1,rfl,rfl⟩:=cE h1
 have hsee:=bJ hsee
 clear h1
 refine wG cW TI ?_
 refine aP ?_
 refine dF ?_
 refine AWp.ghostB 2 4 [(.im (.int .i64 (5))),(.im (.int .i64 (0))),(.im (.int .i64 (0))),.sl [] .nl,.sl [] .nl] 218 6 ?_
 suffices H: ∀(f:Nat),f<F+1→ ∀(l:List Ty) (a:Nat),l.length≤a→a≤ts.length→tyM ts f (.fl l) a (o0+1)=some r→AWpK _ _ _ _ _ ⟨dn 35 [(0,.pt 0 0),(2,.pt 1 0),(3,.pt 2 0)],ofl [.box [.sl (ts.map tkV) .ro,(.im (.int .i64 ((a:Nat)))),(.im (.int .i64 ((o0+1:Nat))))],.box [(.im (.int .i64 (0))),(.im (.int .i64 (0))),(.im (.int .i64 (0))),.sl [] .nl,.sl [] .nl],.box [(.im (.int .i64 (5))),(.im (.int .i64 (0))),(.im (.int .i64 (0))),.sl [] .nl,.sl ((l).map fdV) (.mine 3)],.tip 218 6 (l).length]⟩ by
  refine AWp.cutP 4 [(0,.pt 0 0),(2,.pt 1 0),(3,.pt 2 0)] [.box [.sl (ts.map tkV) .ro,(.im (.int .i64 ((a0+1:Nat)))),(.im (.int .i64 ((o0+1:Nat))))],.box [(.im (.int .i64 (0))),(.im (.int .i64 (0))),(.im (.int .i64 (0))),.sl [] .nl,.sl [] .nl],.box [(.im (.int .i64 (5))),(.im (.int .i64 (0))),(.im (.int .i64 (0))),.sl [] .nl,.sl ((([]:List Ty)).map fdV) (.mine 3)],.tip 218 6 (([]:List Ty)).length] gJ ?_;exact H F (by omega) [] (a0+1) (by simp) (by omega) h
 clear h
 intro f
 induction f with
 | zero=>intro _ l a _ _ h;cases h
 | succ f ih =>
 intro hf l a hla hal h
 rw[tyM]at h
 have hs:=pK ts a (o0+1) [125]
 cases hq:sees ts a [125]with
 | true =>
  rw[hq]at hs;rw[if_pos hq]at h;refine wG cW TI ?_;refine aA [0] hs TI gJ iU ?_;refine goG cW TI ?_;refine wG cW TI ?_;rcases aU h with ⟨b1,e1,h1,rfl⟩|⟨_,a1,o1,h1,h⟩
  ·exact PA.callP [0] ((qD ts a (o0+1) [125] hts (by omega) (by omega) _ h1).fails) TI gJ iU (fun _=>PFin.i rfl rfl)
  refine aA [0] (((qD ts a (o0+1) [125] hts (by omega) (by omega) _ h1).good)) TI gJ iU ?_
  refine goG cW TI ?_;cases h
  refine wG cW TI ?_;refine fiGen [.cell 2 94] (finG cW) ?_ rfl (idG gJ)
  rw[eE,List.map_nil]
  all_goals exact wkG gJ
 | false =>
  rw[hq]at hs;rw[if_neg (by rw[hq];decide)]at h
  by_cases hp:0<l.length
  ·have hp':(l.length:Int)>0:=by omega
   rw[if_pos hp]at h;refine wG cW TI ?_;refine aA [0] hs TI gJ iU ?_;refine goG cW TI ?_;refine wG cW (AI @List.length_map.{0,0} hp') ?_;rcases aU h with ⟨b1,e1,h1,rfl⟩|⟨_,a1,o1,h1,h⟩
   ·exact PA.callP [0] ((bV ts a (o0+1) [44] hts _ h1).fails) TI gJ iU (fun _=>PFin.i rfl rfl)
   refine aA [0] (((bV ts a (o0+1) [44] hts _ h1).good)) TI gJ iU ?_;refine goG cW TI ?_;obtain⟨hsee,rfl,rfl⟩:=cK h1;have:=bJ hsee;clear h1;refine wG cW TI ?_;rcases aU h with ⟨b1,e1,h1,rfl⟩|⟨nn,a2,o2,h1,h⟩
   ·exact PA.callP [0] ((oF ts (a+1) (o0+1) 3 (by decide) hts _ h1).fails) TI gJ iU (fun _=>PFin.i rfl rfl)
   refine aA [0] (((oF ts (a+1) (o0+1) 3 (by decide) hts _ h1).good)) TI gJ iU ?_
   refine goG cW TKT ?_;obtain⟨hk,rfl,rfl,rfl⟩:=iE h1;have hlt:=eJ hk (by decide)
   have hn:=Fs hok (a+1);clear h1;generalize pk ts (a+1)=tn at hk hn h;have hwn:=cU (n:=tn.n) (by omega)
   refine wG cW TKT ?_;rcases aU h with ⟨b1,e1,h1,rfl⟩|⟨_,a3,o3,h1,h⟩
   ·exact PA.callP [0] ((bV ts ((a+1)+1) (o0+1) [58] hts _ h1).fails) TI gJ iU (fun _=>PFin.i rfl rfl)
   refine aA [0] (((bV ts ((a+1)+1) (o0+1) [58] hts _ h1).good)) TI gJ iU ?_;refine goG cW TI ?_;obtain⟨_,rfl,rfl⟩:=cK h1;refine wdG cW (AI hwn BN03) ?_;rcases aU h with ⟨b1,e1,h1,rfl⟩|⟨x,a4,o4,h1,hk2⟩
   ·exact pQ [0] ((hT f (by omega) _ (o0+1) (by omega) _ h1).fails) TI gJ iU (fun _=>PFin.i rfl rfl) ⟨[⟨9,[],⟨_,[]⟩⟩],_,(.cons (wD (i:=9) rfl rfl jU nM (by decide)) .nil),by kernel_rfl⟩
   obtain⟨rfl,hle,hle2⟩:=(kX ts f).1 _ _ _ _ _ h1;obtain⟨B,hB⟩: ∃B,B=l++[x.at_ tn.n]:=⟨_,rfl⟩
   have hAs:l.map fdV++[V.ag [(.im (.int .i64 (tn.n))),(.im (.int .i64 (x.kind))),(.im (.int .i64 (x.size))),(.im (.int .i64 (x.count))),.sl (x.elem.map tyV) .ro,.sl (x.fields.map fdV) .ro]]=B.map fdV:=by rw[hB,List.map_append,List.map_singleton,mF];rfl
   have hAl:l.length+1=B.length:=by rw[hB];simp
   have hbl:B.length*80≤140737488355328:=by omega
   have h4:tyM ts f (.fl B) a4 (o0+1)=some r:=by rw[hB];exact hk2
   refine aA [0] ((hT f (by omega) _ (o0+1) (by omega) _ h1).good) TI gJ iU ?_
   refine goG cW (A16 @eT @eY @dL @dN @eR @eQ @eS @dM @eB @eA @eX @dO @List.getElem?_map.{0,0} @Int.natCast_nonneg hAs (A4 hAl hbl Dv @List.length_map.{0,0})) ?_;refine wdG cW (A16 @eT @eY @dL @dN @eR @eQ @eS @dM @eB @eA @eX @dO @List.getElem?_map.{0,0} @Int.natCast_nonneg hAs (A4 hAl hbl Dv @List.length_map.{0,0})) ?_;refine dF ?_;refine AWp.cutP 4 [(0,.pt 0 0),(2,.pt 1 0),(3,.pt 2 0)] [.box [.sl (ts.map tkV) .ro,(.im (.int .i64 ((a4:Nat)))),(.im (.int .i64 ((o0+1:Nat))))],.box [(.im (.int .i64 (0))),(.im (.int .i64 (0))),(.im (.int .i64 (0))),.sl [] .nl,.sl [] .nl],.box [(.im (.int .i64 (5))),(.im (.int .i64 (0))),(.im (.int .i64 (0))),.sl [] .nl,.sl ((B).map fdV) (.mine 3)],.tip 218 6 (B).length] gJ ?_;exact ih (by omega) B a4 (by omega) (by omega) h4
  ·have hp': ¬(l.length:Int)>0:=by omega
   rw[if_neg hp]at h;change rb (takM ts 3 a (o0+1)) _=some r at h;refine wG cW TI ?_;refine aA [0] hs TI gJ iU ?_;refine goG cW TI ?_;refine wG cW (AI @List.length_map.{0,0} hp') ?_;rcases aU h with ⟨b1,e1,h1,rfl⟩|⟨nn,a2,o2,h1,h⟩
   ·exact PA.callP [0] ((oF ts a (o0+1) 3 (by decide) hts _ h1).fails) TI gJ iU (fun _=>PFin.i rfl rfl)
   refine aA [0] (((oF ts a (o0+1) 3 (by decide) hts _ h1).good)) TI gJ iU ?_
   refine goG cW TKT ?_;obtain⟨hk,rfl,rfl,rfl⟩:=iE h1;have hlt:=eJ hk (by decide)
   have hn:=Fs hok a;clear h1;generalize pk ts a=tn at hk hn h;have hwn:=cU (n:=tn.n) (by omega)
   refine wG cW TKT ?_;rcases aU h with ⟨b1,e1,h1,rfl⟩|⟨_,a3,o3,h1,h⟩
   ·exact PA.callP [0] ((bV ts (a+1) (o0+1) [58] hts _ h1).fails) TI gJ iU (fun _=>PFin.i rfl rfl)
   refine aA [0] (((bV ts (a+1) (o0+1) [58] hts _ h1).good)) TI gJ iU ?_;refine goG cW TI ?_;obtain⟨_,rfl,rfl⟩:=cK h1;refine wdG cW (AI hwn BN03) ?_;rcases aU h with ⟨b1,e1,h1,rfl⟩|⟨x,a4,o4,h1,hk2⟩
   ·exact pQ [0] ((hT f (by omega) _ (o0+1) (by omega) _ h1).fails) TI gJ iU (fun _=>PFin.i rfl rfl) ⟨[⟨9,[],⟨_,[]⟩⟩],_,(.cons (wD (i:=9) rfl rfl jU nM (by decide)) .nil),by kernel_rfl⟩
   obtain⟨rfl,hle,hle2⟩:=(kX ts f).1 _ _ _ _ _ h1;obtain⟨B,hB⟩: ∃B,B=l++[x.at_ tn.n]:=⟨_,rfl⟩
   have hAs:l.map fdV++[V.ag [(.im (.int .i64 (tn.n))),(.im (.int .i64 (x.kind))),(.im (.int .i64 (x.size))),(.im (.int .i64 (x.count))),.sl (x.elem.map tyV) .ro,.sl (x.fields.map fdV) .ro]]=B.map fdV:=by rw[hB,List.map_append,List.map_singleton,mF];rfl
   have hAl:l.length+1=B.length:=by rw[hB];simp
   have hbl:B.length*80≤140737488355328:=by omega
   have h4:tyM ts f (.fl B) a4 (o0+1)=some r:=by rw[hB];exact hk2
   refine aA [0] ((hT f (by omega) _ (o0+1) (by omega) _ h1).good) TI gJ iU ?_
   refine goG cW (A16 @eT @eY @dL @dN @eR @eQ @eS @dM @eB @eA @eX @dO @List.getElem?_map.{0,0} @Int.natCast_nonneg hAs (A4 hAl hbl Dv @List.length_map.{0,0})) ?_;refine wdG cW (A16 @eT @eY @dL @dN @eR @eQ @eS @dM @eB @eA @eX @dO @List.getElem?_map.{0,0} @Int.natCast_nonneg hAs (A4 hAl hbl Dv @List.length_map.{0,0})) ?_;refine dF ?_;refine AWp.cutP 4 [(0,.pt 0 0),(2,.pt 1 0),(3,.pt 2 0)] [.box [.sl (ts.map tkV) .ro,(.im (.int .i64 ((a4:Nat)))),(.im (.int .i64 ((o0+1:Nat))))],.box [(.im (.int .i64 (0))),(.im (.int .i64 (0))),(.im (.int .i64 (0))),.sl [] .nl,.sl [] .nl],.box [(.im (.int .i64 (5))),(.im (.int .i64 (0))),(.im (.int .i64 (0))),.sl [] .nl,.sl ((B).map fdV) (.mine 3)],.tip 218 6 (B).length] gJ ?_;exact ih (by omega) B a4 (by omega) (by omega) h4
def aM:=A16 @cO @nP @dR @gF @kM @Ac @qM @lP @nA @pR @fP @tR @vN @tP @Ed (A7 @gU @cN @nN @dA @gD @vL @tJ)
def cG:=A6 aX bC @bQ @bS @bR @bT
def cZ:=A6 fE fF @sE @sS @sF @sT
theorem ZT{ts:List Tk}{f:Nat}(hts:ts.length≤4194304)(hok: ∀t∈ts,TkOk t)(hT:TyC ts f)(hS:FlC ts f):TyC ts (f+1):=by
 intro a o ho r h
 have hp:=xW ts a o
 have hf:=oG ts a o 3
 have hq:=eC ts a o [63] hts
 have hs1:=pK ts a o [42]
 have hs2:=pK ts a o [91]
 have hs3:=pK ts a o [123]
 rw[tyM]at h
 by_cases k1:(pk ts a).kind=1
 ·rw[if_pos k1]at h
  have hlt:=eJ k1 (by decide)
  have hw:=aK (m:=a) (N:=4194304) (by omega) (by decide)
  have hi:=CY (pk ts a).text;generalize pk ts a=t at hp hi h k1;cases hr:intR t.text with
  | none =>
   rw[hr]at hi h;unfold intV at hi;rw[eE]at hi;cases h
   refine xcEnt 85 Tryz.func144 rfl [(0,.pt 0 0)] ?_
   refine wG aM TI ?_;refine aA [0] hp TI cG cZ ?_;refine goG aM TKT ?_;refine wG aM (AI TKT k1) ?_;refine AR.callP hi TI cG ?_;refine goG aM BN03 ?_;refine wG aM BN03 ?_;exact PA.callP [0] hf TI cG cZ (fun _=>PFin.i rfl rfl)
  | some p =>
   obtain⟨k,s⟩:=p;rw[hr]at hi h;unfold intV at hi;rw[eE]at hi;cases h
   refine xcEnt 85 Tryz.func144 rfl [(0,.pt 0 0)] ?_
   refine wG aM TI ?_;refine aA [0] hp TI cG cZ ?_;refine goG aM TKT ?_;refine wG aM (AI TKT k1) ?_;refine AR.callP hi TI cG ?_;refine goG aM BN03 ?_;refine wG aM (A15 @eT @eY @dL @dN @eR @eQ @eS @dM @eB @eA @eX @dO @List.getElem?_map.{0,0} @Int.natCast_nonneg hw) ?_;refine fiGen [.cell 2 94] (finG aM) ?_ rfl (idG cG)
   rw[eE]
   all_goals exact wkG cG
 rw[if_neg k1]at h
 generalize pk ts a=t at hp k1
 by_cases q1:sees ts a [63]=true
 ·rw[if_pos q1]at h
  rw[if_pos q1,q1]at hq;cases h
  refine xcEnt 85 Tryz.func144 rfl [(0,.pt 0 0)] ?_
  refine wG aM TI ?_;refine aA [0] hp TI cG cZ ?_;refine goG aM TKT ?_;refine wG aM (AI TKT k1) ?_;refine aA [0] hq TI cG cZ ?_;refine goG aM TI ?_;refine wG aM TI ?_;refine fiGen [.cell 2 94] (finG aM) ?_ rfl (idG cG)
  rw[eE,List.map_nil,List.map_nil]
  all_goals exact wkG cG
 rw[if_neg q1]at h
 rw[if_neg q1]at hq
 rw[Bool.not_eq_true]at q1
 rw[q1]at hq
 by_cases q2:sees ts a [42]=true
 ·rw[if_pos q2]at h
  rw[q2]at hs1;refine xcEnt 85 Tryz.func144 rfl [(0,.pt 0 0)] ?_
  refine wG aM TI ?_;refine aA [0] hp TI cG cZ ?_;refine goG aM TKT ?_;refine wG aM (AI TKT k1) ?_;refine aA [0] hq TI cG cZ ?_;refine goG aM TI ?_;refine wG aM TI ?_;refine aA [0] hs1 TI cG cZ ?_;refine goG aM TI ?_;refine wG aM TI ?_;rcases aU h with ⟨b1,e1,h1,rfl⟩|⟨_,a1,o1,h1,h⟩
  ·exact PA.callP [0] ((fU ts a o [42] hts _ h1).fails) TI cG cZ (fun _=>PFin.i rfl rfl)
  refine aA [0] (((fU ts a o [42] hts _ h1).good)) TI cG cZ ?_;refine goG aM TI ?_;obtain⟨hsee,ho1,rfl,rfl⟩:=cE h1;refine wG aM TI ?_;rcases aU h with ⟨b1,e1,h1,rfl⟩|⟨x,a2,o2,h1,h⟩
  ·exact PA.callP [0] ((hT (a+1) (o+1) (by omega) _ h1).fails) TI cG cZ (fun _=>PFin.i rfl rfl)
  refine aA [0] (((hT (a+1) (o+1) (by omega) _ h1).good)) TI cG cZ ?_
  refine goG aM BN03 ?_;obtain⟨rfl,_,_⟩:=(kX ts f).1 _ _ _ _ _ h1;have hwp:=uD (o:=o+1) (by omega) (by omega)
  cases h
  refine wG aM (A15 @eT @eY @dL @dN @eR @eQ @eS @dM @eB @eA @eX @dO @List.getElem?_map.{0,0} @Int.natCast_nonneg hwp) ?_;refine fiGen [.cell 2 94] (finG aM) ?_ rfl (idG cG)
  rw[eE,List.map_nil,List.map_cons,List.map_nil,bM x]
  all_goals exact wkG cG
 rw[if_neg q2]at h
 rw[Bool.not_eq_true]at q2
 rw[q2]at hs1
 by_cases q3:sees ts a [91]=true
 ·rw[if_pos q3]at h
  rw[q3]at hs2;refine xcEnt 85 Tryz.func144 rfl [(0,.pt 0 0)] ?_
  refine wG aM TI ?_;refine aA [0] hp TI cG cZ ?_;refine goG aM TKT ?_;refine wG aM (AI TKT k1) ?_;refine aA [0] hq TI cG cZ ?_;refine goG aM TI ?_;refine wG aM TI ?_;refine aA [0] hs1 TI cG cZ ?_;refine goG aM TI ?_;refine wG aM TI ?_;refine aA [0] hs2 TI cG cZ ?_;refine goG aM TI ?_;refine wG aM TI ?_;rcases aU h with ⟨b1,e1,h1,rfl⟩|⟨_,a1,o1,h1,h⟩
  ·exact PA.callP [0] ((fU ts a o [91] hts _ h1).fails) TI cG cZ (fun _=>PFin.i rfl rfl)
  refine aA [0] (((fU ts a o [91] hts _ h1).good)) TI cG cZ ?_;refine goG aM TI ?_;obtain⟨hsee,ho1,rfl,rfl⟩:=cE h1;refine wG aM TI ?_;rcases aU h with ⟨b1,e1,h1,rfl⟩|⟨nn,a2,o2,h1,h⟩
  ·exact PA.callP [0] ((oF ts (a+1) (o+1) 3 (by decide) hts _ h1).fails) TI cG cZ (fun _=>PFin.i rfl rfl)
  refine aA [0] (((oF ts (a+1) (o+1) 3 (by decide) hts _ h1).good)) TI cG cZ ?_
  refine goG aM TKT ?_;obtain⟨hk,rfl,rfl,rfl⟩:=iE h1;have hn:=Fs hok (a+1);clear h1;generalize pk ts (a+1)=tn at hk hn h;have hwn:=cU (n:=tn.n) (by omega)
  refine wG aM TKT ?_;rcases aU h with ⟨b1,e1,h1,rfl⟩|⟨_,a3,o3,h1,h⟩
  ·exact PA.callP [0] ((bV ts (a+1+1) (o+1) [93] hts _ h1).fails) TI cG cZ (fun _=>PFin.i rfl rfl)
  refine aA [0] (((bV ts (a+1+1) (o+1) [93] hts _ h1).good)) TI cG cZ ?_;refine goG aM TI ?_;obtain⟨_,rfl,rfl⟩:=cK h1;refine wG aM TI ?_;rcases aU h with ⟨b1,e1,h1,rfl⟩|⟨x,a4,o4,h1,h⟩
  ·exact PA.callP [0] ((hT (a+1+1+1) (o+1) (by omega) _ h1).fails) TI cG cZ (fun _=>PFin.i rfl rfl)
  refine aA [0] (((hT (a+1+1+1) (o+1) (by omega) _ h1).good)) TI cG cZ ?_
  refine goG aM BN03 ?_;obtain⟨rfl,_,_⟩:=(kX ts f).1 _ _ _ _ _ h1;have hwp:=uD (o:=o+1) (by omega) (by omega)
  cases h
  refine wG aM (A16 @eT @eY @dL @dN @eR @eQ @eS @dM @eB @eA @eX @dO @List.getElem?_map.{0,0} @Int.natCast_nonneg hwp hwn) ?_;refine fiGen [.cell 2 94] (finG aM) ?_ rfl (idG cG)
  rw[eE,List.map_nil,List.map_cons,List.map_nil,bM x]
  all_goals exact wkG cG
 rw[if_neg q3]at h
 rw[Bool.not_eq_true]at q3
 rw[q3]at hs2
 by_cases q4:sees ts a [123]=true
 ·rw[if_pos q4]at h
  rw[q4]at hs3;have hc:=hS a o ho r h;cases r with
  | bad b e1 =>
   refine xcEnt 85 Tryz.func144 rfl [(0,.pt 0 0)] ?_
   refine wG aM TI ?_;refine aA [0] hp TI cG cZ ?_;refine goG aM TKT ?_;refine wG aM (AI TKT k1) ?_;refine aA [0] hq TI cG cZ ?_;refine goG aM TI ?_;refine wG aM TI ?_;refine aA [0] hs1 TI cG cZ ?_;refine goG aM TI ?_;refine wG aM TI ?_;refine aA [0] hs2 TI cG cZ ?_;refine goG aM TI ?_;refine wG aM TI ?_;refine aA [0] hs3 TI cG cZ ?_;refine goG aM TI ?_;refine wG aM TI ?_;exact PA.callP [0] hc.fails TI cG cZ (fun _=>PFin.i rfl rfl)
  | ok x b p =>
   refine xcEnt 85 Tryz.func144 rfl [(0,.pt 0 0)] ?_
   refine wG aM TI ?_;refine aA [0] hp TI cG cZ ?_;refine goG aM TKT ?_;refine wG aM (AI TKT k1) ?_;refine aA [0] hq TI cG cZ ?_;refine goG aM TI ?_;refine wG aM TI ?_;refine aA [0] hs1 TI cG cZ ?_;refine goG aM TI ?_;refine wG aM TI ?_;refine aA [0] hs2 TI cG cZ ?_;refine goG aM TI ?_;refine wG aM TI ?_;refine aA [0] hs3 TI cG cZ ?_;refine goG aM TI ?_;refine wG aM TI ?_;refine aA [0] hc.good TI cG cZ ?_;refine goG aM BN03 ?_;refine wG aM BN03 ?_;refine fiGen [.cell 2 94] (finG aM) ?_ rfl (idG cG)
   rw[bM x]
   all_goals exact wkG cG
 rw[if_neg q4]at h
 rw[Bool.not_eq_true]at q4
 rw[q4]at hs3
 cases h
 refine xcEnt 85 Tryz.func144 rfl [(0,.pt 0 0)] ?_
 refine wG aM TI ?_
 refine aA [0] hp TI cG cZ ?_
 refine goG aM TKT ?_
 refine wG aM (AI TKT k1) ?_
 refine aA [0] hq TI cG cZ ?_
 refine goG aM TI ?_
 refine wG aM TI ?_
 refine aA [0] hs1 TI cG cZ ?_
 refine goG aM TI ?_
 refine wG aM TI ?_
 refine aA [0] hs2 TI cG cZ ?_
 refine goG aM TI ?_
 refine wG aM TI ?_
 refine aA [0] hs3 TI cG cZ ?_
 refine goG aM TI ?_
 refine wG aM TI ?_
 exact PA.callP [0] hf TI cG cZ (fun _=>PFin.i rfl rfl)
theorem SP{ts:List Tk}(hts:ts.length≤4194304)(hok: ∀t∈ts,TkOk t): ∀F f,f≤F→TyC ts f:=by
 intro F
 induction F with
 | zero =>
  intro f hf;obtain rfl:f=0:=by omega
  exact fun a o _ r h=>by cases h
 | succ F ih =>
  intro f hf
  by_cases hle:f≤F
  ·exact ih f hle
  obtain rfl:f=F+1:=by omega
  exact ZT hts hok (ih F (Nat.le_refl _)) (Rr hts hok F fun f hf=>ih f (by omega))
theorem Ln{P:Program}{o:Oper}{ev:Operand→V}{t s:TypeId}{x:Operand}{a b:Value}(ho:o.op= .typeAssert x s t true)(ht:ifT P t=some false)(hx:ev x= .im (.iface t (.agg #[a,b])))(ha:a.oneCell'=true)(hb:b.oneCell'=true) :
  Step P o ev [] ⟨.tu [.ag [.im a,.im b],.im (.bool true)],[]⟩ :=
 Step.look fun C ρ _ hR _=>by
  have h1:=hR x (by simp[ho,Op.operands])
  rw[hx]at h1;have e1:ρ x= .iface t (.agg #[a,b]):=h1.im_eq;refine⟨.tuple #[.agg #[a,b],.bool true],?_,?_⟩
  ·unfold ifT at ht
   cases hu:P.underlying t with
   | none=>rw[hu]at ht;cases ht
   | some d =>
    rw[hu]at ht;simp only[execOp,ho,e1,Instr.typeAssert,run_underlying hu,Sem.run_bind,Result.andThen_ok];cases d<;>first|(simp at ht;done)|(simp;done)|(simp;rfl)
  ·refine .tu rfl fun i hi=> ?_
   match i,hi with
   | 0,_ =>
    refine .ag rfl (fun i hi=> ?_) fun i hi=> ?_
    ·match i,hi with
     | 0,_=>exact ha
     | 1,_=>exact hb
    ·match i,hi with
     | 0,_=>exact .im ha
     | 1,_=>exact .im hb
   | 1,_=>exact .im rfl
theorem Wp{P:Program}{N:Nat}{ops:Array Oper}{dr:Bool}{Q:Exit→St→Prop}{d:Option Tmp}{t st:TypeId}{x:Operand}{ty:TypeId}{pos:String}{af:Array Edge}{g:Option (Nat×Bool)}{os:List Oper}{k:Nat}{s:List (Nat×V)}{l:List Ent}{acc:List (Nat×List Nat×List Nat)}{a b:Value}
  (hn:AR P ops dr Q os (k+1) ⟨dn N (eV s d (.tu [.ag [.im a,.im b],.im (.bool true)])),ofl l⟩ ((k,[],[])::acc)) (ht:ifT P t=some false:=by kernel_rfl) (hx:St.ev ⟨dn N s,ofl l⟩ x= .im (.iface t (.agg #[a,b])):=by rfl) (ha:a.oneCell'=true:=by rfl) (hb:b.oneCell'=true:=by rfl) (hg:gd ops ⟨d,.typeAssert x st t true,ty,pos,af,g⟩ ⟨dn N s,ofl l⟩=some true:=by rfl) :
  AR P ops dr Q (⟨d,.typeAssert x st t true,ty,pos,af,g⟩::os) k ⟨dn N s,ofl l⟩ acc:=by
 refine .inr (.inl ⟨hg,[],⟨_,[]⟩,Ln rfl ht hx ha hb,(fun p hp=>by cases hp),?_⟩)
 rw[←kT N s (ofl l)]at hn
 exact hn
structure Catch (P:Program) (F:FuncId) (t:TypeId):Prop where
 go:Bj P F=true
 pan: ∀(C:Cf) (vs:Array Value) (u v:Value) (a b:Int) (n:Nat),C.st=ofl [.box [.im u,.im v]]→Ok C→vs.size=1→R C (.pt 0 0) (vs.getD 0 undef) →
  CallsDIn Fence.wide n P F vs (.panicking [{v:= .iface t (.agg #[.int .i64 a,.int .i64 b]),recovered:=false}]) C.w fun e m w'=>(∃r,e= .returned r)∧m= .panicking [{v:= .iface t (.agg #[.int .i64 a,.int .i64 b]),recovered:=true}]∧Beh C (ofl [.box [.im (.int .i64 a),.im (.int .i64 b)]]) w'
 ret: ∀(C:Cf) (vs:Array Value) (u v:Value) (n:Nat),C.st=ofl [.box [.im u,.im v]]→Ok C→vs.size=1→R C (.pt 0 0) (vs.getD 0 undef) →
  CallsDIn Fence.wide n P F vs .returning C.w fun e m w'=>(∃r,e= .returned r)∧m= .returning∧Beh C (ofl [.box [.im u,.im v]]) w'
def FinD(P:Program)(fn:Func)(r:V)(k:Nat)(t:TypeId)(e:Exit)(A:St):Prop :=
 ∃u v:Value,A.st k= .box [.im u,.im v] ∧
  ((e= .ret∧Fin P fn stF (fun x st=>x=r∧st=stF) .ret A) ∨
   ∃a b:Int,e= .panic (chn (.iface t (.agg #[.int .i64 a,.int .i64 b])))∧Fin P fn stF (fun x st=>x=r∧st=stF) .ret ⟨A.s,upd A.st k (.box [.im (.int .i64 a),.im (.int .i64 b)])⟩)
theorem Me{P:Program}{fn:Func}{tmps:Array Value}{R0:Ending→World→Prop}{S:List V}{st:Nat→Ent}{C:Cf}{u:FrameMode}{ds:List Deferred}(hu:u≠ .run)
  (K: ∀D:Cf,D.st=st→Ok D→(∀t,t<S.length→R D (S.getD t .dead) (tmps.getD t undef))→Ev C D→LeavesInM Fence.wide 0 P fn tmps R0 ds u D.w) :
  ∀(bs:List Nat) (D:Cf),D.st=st→Ok D→(∀t,t<S.length→R D (S.getD t .dead) (tmps.getD t undef))→Ev C D→bs.Nodup →
   (∀b∈bs,C.w.heap.size≤b∧D.w.heap[b]? =some (.deferred (some []))∧ ∀i,D.σ i=some b→D.st i= .free) →
   LeavesInM Fence.wide 0 P fn tmps R0 (bs.map (fun b=>{target:= .collected b,args:= #[]})++ds) u D.w:=by
 intro bs
 induction bs with
 | nil=>intro D q1 q2 q3 q4 _ _;exact K D q1 q2 q3 q4
 | cons b bs ih =>
  intro D q1 q2 q3 q4 q5 q6;obtain⟨hlo,hbk,hs⟩:=q6 b (by simp)
  refine⟨hu,.inl ⟨b,_,rfl,run_takeDeferred hbk,?_⟩⟩;have hnc: ∀cs t fr,Obj.deferred (some [])≠ .cells cs t fr:=fun _ _ _ e=>by cases e
  obtain⟨r1,r2⟩:=q2.turned (o':= .deferred none) hbk hnc (fun _ _ e=>by cases e) hs
  have r3:=(q2.turn (o':= .deferred none) hbk hnc hs).2;refine ih (D.withW (D.w.putObj b (.deferred none))) q1 r1 (fun t ht=>r2 _ _ (q3 t ht)) (Lj q4 q2 hlo hbk hnc hs) (List.nodup_cons.1 q5).2 fun b' hb'=> ?_
  obtain⟨s1,s2,s3⟩:=q6 b' (by simp[hb'])
  exact⟨s1,(r3 b' (fun e=>(List.nodup_cons.1 q5).1 (e▸hb'))).trans s2,s3⟩
theorem Gy{D:Cf}{k:Nat}{u v u' v':Value}{st:Nat→Ent}(hst:D.st=st)(hD:Ok D)(hk:st k= .box [.im u,.im v]){w':World}
  (hb:Beh (D.sub [k] [.box [.im u,.im v]]) (ofl [.box [.im u',.im v']]) w'): ∃E:Cf,E.w=w'∧E.st=upd st k (.box [.im u',.im v'])∧Ok E∧Ev D E:=by
 have hF:Fits D [k] [.box [.im u,.im v]]:=⟨by simp,rfl,fun i hi=>by
  obtain rfl:i=0:=by simpa using hi
  rw[II,hst,hk]
  rfl⟩
 obtain⟨E,e1,e2,e3,e4⟩:=hb
 refine⟨D.sup [k] E,e1,?_,hD.sup hF e4 e3 e2 rfl,Ev.sup hD hF e4⟩
 funext i
 show(if i∈[k]then(E.st ([k].idxOf i)).ren (gOf [k])else D.st i)=_
 by_cases hi:i=k
 ·subst hi
  rw[if_pos (by simp),e2]
  simp[upd,ofl,Ent.ren,V.renL,V.ren]
 ·rw[if_neg (by simpa using hi),hst]
  simp[upd,hi]
theorem Kl{D:Cf}{k:Nat}{u v:Value}(hD:Ok D)(hk:D.st k= .box [.im u,.im v]){x:Value}(hx:R D (.pt k 0) x):Ok (D.sub [k] [.box [.im u,.im v]])∧R (D.sub [k] [.box [.im u,.im v]]) (.pt 0 0) x:=by
 have hF:Fits D [k] [.box [.im u,.im v]]:=⟨by simp,rfl,fun i hi=>by
  obtain rfl:i=0:=by simpa using hi
  rw[II,hk]
  rfl⟩
 exact⟨hD.sub hF rfl,hx.sub hF (.pt 0 0) rfl rfl⟩
theorem Te{F:Fence}{n:Nat}{P:Program}{o:Oper}{Q:Exit→Act→World→Prop}{K:Act→World→Prop}{a:Act}{w:World}(hg:o.guard=none)(h:o.wpIn F n P a w K Q):wpOpIn F n P #[o] Q 0 K a w:=by
 have hw:Region.wanted o (yielded #[o] a.tmps)=true:=by unfold Region.wanted;rw[hg]
 unfold wpOpIn
 simp only[List.getElem?_toArray,List.getElem?_cons_zero,hw,if_true]
 exact h
theorem yA{P:Program}{f F:FuncId}{fn:Func}{t:TypeId}{id0 id1:Nat}{l0:List Oper}{x:Operand}{tys:Array TypeId}{ty:TypeId}{pos:String}{af:Array Edge}{c:Code}{xs:List V}{s s1:List (Nat×V)}{l1:List Ent}{r:V}(k:Nat)(N:Nat)(hC:Catch P F t)
  (hf:P.funcs[f]? =some fn) (hb:fn.body=some (.seq (.region id0 l0.toArray false) (.seq (.region id1 #[⟨none,.defer {callee:= .value (.func F),args:= #[x],argTypes:=tys},ty,pos,af,none⟩] false) c)))
  (hn:fn.name≠ "runtime.NumGoroutine") (hN:fn.ntmps=N) (hxs:Nat.ble xs.length N=true) (hs:enum 0 xs=s)
  (h0:AR P l0.toArray false (fun e A=>e= .normal∧A=⟨dn N s1,ofl l1⟩) l0 0 ⟨dn N s,stF⟩ []) (hx:St.ev ⟨dn N s1,ofl l1⟩ x= .pt k 0)
  (h:AWp P (ofl l1) c (FinD P fn r k t) ⟨dn N s1,ofl l1⟩):PC P f xs r:=by
 subst hs hN
 rw[←zL (by simpa using hxs)]at h0
 refine⟨by simp[Bj,hf,hb,hn],fun C vs hst hC0 hsz hR=> ?_⟩
 refine callsIn_wide.1 (callsIn_of_wp_marks (F:=Fence.wide) (n:=0) hf hb trivial (wpIn_seq ?_))
 have hS0:Sim ⟨none,[]⟩ C ⟨xs++List.replicate (fn.ntmps-xs.length) .dead,stF⟩ {tmps:=vs++Array.replicate (fn.ntmps-vs.size) undef,defers:=[]}:=by
  refine⟨hst,hC0,.nil,by simp[hsz],fun t ht=> ?_⟩
  by_cases h1:t<xs.length
  ·have h2:=hR t h1
   have h3:t<vs.size:=by omega
   simpa[List.getD,List.getElem?_append,h1,Array.getElem?_append,h3]using h2
  ·have:(xs++List.replicate (fn.ntmps-xs.length) V.dead).getD t .dead= .dead:=by
    simp only[List.getD,List.getElem?_append,if_neg h1,List.getElem?_replicate];split<;>rfl
   rw[this];exact .dead
 refine Tc (ro:={r:=none}) h0 hS0 ?_
 rintro e A1 D a1 ⟨rfl,rfl⟩ hS1 hE1
 show(Code.seq _ _).wpIn Fence.wide 0 P _ a1 D.w
 obtain⟨bs0,hd0,_,hb0⟩:=hS1.defers
 have hbs:bs0=[]:=by
  cases bs0 with
  | nil=>rfl
  | cons b bs=>obtain⟨⟨lo,e1,_⟩,_⟩:=hb0 b (by simp);cases e1
 subst hbs
 have hd1:a1.defers=[]:=hd0
 have hxv:=hS1.ev x
 rw[hx]at hxv
 generalize hpv:a1.eval x=pv at hxv
 refine wpIn_seq (wpIn_region ?_)
 show wpOpsIn _ _ _ _ _ [0] a1 D.w
 rw[wpOpsIn_cons]
 refine Te rfl ?_
 refine⟨fun g hg=>trivial,?_⟩
 have hrun:(Oper.semAt none a1.eval ⟨none,.defer {callee:= .value (.func F),args:= #[x],argTypes:=tys},ty,pos,af,none⟩).run P D.w= .ok (.defer {target:= .fn (.func F) #[],args:= #[pv]}) D.w:=by
  rw[Oper.semAt_none];simp only[execOp,resolve,Act.eval,Deferred.ofValue,Sem.run_bind,Sem.run_pure,Result.andThen_ok];rw[←hpv];simp
 rw[show(Fence.wide).round=none from rfl,hrun]
 rw[Oper.uponIn_defer]
 show Code.wpIn Fence.wide 0 P c _ _ D.w
 have hS2:Sim (bnd {r:=none,tl:=[{target:= .fn (.func F) #[],args:= #[pv]}]} D.w) D ⟨dn fn.ntmps s1,ofl l1⟩ {a1 with defers:={target:= .fn (.func F) #[],args:= #[pv]}::a1.defers} :=
  ⟨hS1.st,hS1.ok,⟨[],by rw[hd1];rfl,List.nodup_nil,fun _ h=>by cases h⟩,hS1.size,hS1.slot⟩
 refine wpIn_mono (h D D _ {r:=none,tl:=[{target:= .fn (.func F) #[],args:= #[pv]}]} 0 rfl hS1.st (Ev.refl D) hS2) ?_
 rintro e a' w' ⟨A',E,hFin,hS,rfl,hE⟩
 obtain⟨u,v,hbox,hcase⟩:=hFin
 obtain⟨bs,d1,d2,d3⟩:=hS.defers
 have fin: ∀(A2:St) (D':Cf),A2.s=A'.s→Fin P fn stF (fun x st=>x=r∧st=stF) .ret A2→D'.st=A2.st→Ok D'→(∀t,t<A'.s.length→R D' (A'.s.getD t .dead) (a'.tmps.getD t undef))→Ev C D' →
   ∃v',(results fn a'.tmps).run P D'.w= .ok v' D'.w∧ ∃v x st',Ending.returned v'= .returned v∧(x=r∧st'=stF)∧Good C st' x D'.w v:=by
  intro A2 D' hs2 hF2 k1 k2 k3 k4;obtain⟨_,x2,y,kp,h2,h3,h5,h6,h7⟩:=hF2;have hS':Sim ⟨none,[]⟩ D' A2 {a' with defers:=[]}:=⟨k1,k2,.nil,by rw[hs2];exact hS.size,fun t ht=>by rw[hs2]at ht ⊢;exact k3 t ht⟩
  obtain⟨v2,j1,j2⟩:=Fj hS' h2;refine⟨v2,j1,v2,y,_,rfl,h7,D'.only kp,rfl,?_,k2.only (by rw[k1];exact h6),k4.only (by rw[hst];exact h5),h3 D' v2 k1 k2 j2⟩
  show(fun i=>if kp i then D'.st i else .free)=_
  rw[k1]
 have call: ∀(m:FrameMode),m≠ .run→ ∀D':Cf,D'.st=A'.st→Ok D'→Ev D D'→ ∀w':World→Prop,
   (CallsDIn Fence.wide (0-1) P F #[pv] m D'.w (fun e m' w''=>(∃r,e= .returned r)∧(settle m'= .returning)∧w' w'')→(∀w'',w' w''→LeavesInM Fence.wide 0 P fn a'.tmps (fun e w'=> ∃v x st',e= .returned v∧(x=r∧st'=stF)∧Good C st' x w' v) [] .returning w'') →
    LeavesInM Fence.wide 0 P fn a'.tmps (fun e w'=> ∃v x st',e= .returned v∧(x=r∧st'=stF)∧Good C st' x w' v) [{target:= .fn (.func F) #[],args:= #[pv]}] m D'.w):=by
  intro m hm D' k1 k2 k4 w' hcall hnext;refine⟨hm,.inr ⟨(fun e=>by cases e),.func F,#[],F,#[pv],rfl,by simp only[invoke,Array.append_empty];exact oL hC.go _ _,fun _ _=>trivial,CallsDIn.mono hcall ?_⟩⟩
  rintro e m' w'' ⟨⟨q,rfl⟩,q2,q3⟩;show LeavesInM _ _ _ _ _ _ [] (settle m') w''
  rw[q2];exact hnext w'' q3
 have marks: ∀(m:FrameMode),m≠ .run→(∀D':Cf,D'.st=A'.st→Ok D'→(∀t,t<A'.s.length→R D' (A'.s.getD t .dead) (a'.tmps.getD t undef))→Ev D D'→LeavesInM Fence.wide 0 P fn a'.tmps (fun e w'=> ∃v x st',e= .returned v∧(x=r∧st'=stF)∧Good C st' x w' v) [{target:= .fn (.func F) #[],args:= #[pv]}] m D'.w) →
   LeavesInM Fence.wide 0 P fn a'.tmps (fun e w'=> ∃v x st',e= .returned v∧(x=r∧st'=stF)∧Good C st' x w' v) a'.defers m E.w:=by
  intro m hm hK;rw[d1];refine Me hm hK bs E hS.st hS.ok hS.slot hE d2 fun b hb=> ?_
  obtain⟨⟨lo,e1,e2⟩,q2,q3⟩:=d3 b hb;cases e1
  exact⟨e2,q2,q3⟩
 rcases hcase with ⟨rfl,hFn⟩|⟨a,b,rfl,hFn⟩
 ·refine marks .returning (by simp) fun D' k1 k2 k3 k4=> ?_
  obtain⟨j1,j2⟩:=Kl k2 (by rw[k1];exact hbox) (hxv.mono k4)
  refine call .returning (by simp) D' k1 k2 k4 (fun w''=>Beh (D'.sub [k] [.box [.im u,.im v]]) (ofl [.box [.im u,.im v]]) w'') ((hC.ret (D'.sub [k] [.box [.im u,.im v]]) #[pv] u v _ rfl j1 rfl j2).mono ?_) ?_
  ·rintro e m' w'' ⟨q1,rfl,q3⟩
   exact⟨q1,rfl,q3⟩
  ·intro w'' hb
   obtain⟨E2,rfl,e2,e3,e4⟩:=Gy k1 k2 hbox hb
   have e5:E2.st=A'.st:=by
    rw[e2]
    funext i
    by_cases hi:i=k
    ·subst hi;simp[upd,hbox]
    ·simp[upd,hi]
   exact fin A' E2 rfl hFn e5 e3 (fun t ht=>(k3 t ht).mono e4) ((hE1.trans k4).trans e4)
 ·refine marks (.panicking (chn (.iface t (.agg #[.int .i64 a,.int .i64 b])))) (by simp) fun D' k1 k2 k3 k4=> ?_
  obtain⟨j1,j2⟩:=Kl k2 (by rw[k1];exact hbox) (hxv.mono k4)
  refine call _ (by simp) D' k1 k2 k4 (fun w''=>Beh (D'.sub [k] [.box [.im u,.im v]]) (ofl [.box [.im (.int .i64 a),.im (.int .i64 b)]]) w'') ((hC.pan (D'.sub [k] [.box [.im u,.im v]]) #[pv] u v a b _ rfl j1 rfl j2).mono ?_) ?_
  ·rintro e m' w'' ⟨q1,rfl,q3⟩
   exact⟨q1,rfl,q3⟩
  ·intro w'' hb
   obtain⟨E2,rfl,e2,e3,e4⟩:=Gy k1 k2 hbox hb;exact fin ⟨A'.s,upd A'.st k (.box [.im (.int .i64 a),.im (.int .i64 b)])⟩ E2 rfl hFn e2 e3 (fun t ht=>(k3 t ht).mono e4) ((hE1.trans k4).trans e4)
theorem MR{l:List Ent}{k:Nat}{e:Ent}(h:k<l.length):upd (ofl l) k e=ofl (l.set k e):=by
 funext i
 unfold upd ofl
 by_cases hi:i=k
 ·subst hi;simp[h]
 ·rw[if_neg hi]
  simp only[List.getD];rw[List.getElem?_set_ne (fun e=>hi e.symm)]
theorem FinD.ret{P:Program}{fn:Func}{r:V}{t:TypeId}{s:List V}{l:List Ent}{u v:Value}(k:Nat)(hk:ofl l k= .box [.im u,.im v])(h:Fin P fn stF (fun x st=>x=r∧st=stF) .ret ⟨s,ofl l⟩):FinD P fn r k t .ret ⟨s,ofl l⟩ :=
 ⟨u,v,hk,.inl ⟨rfl,h⟩⟩
theorem FinD.pan{P:Program}{fn:Func}{r:V}{t:TypeId}{s:List V}{l:List Ent}{u v:Value}{a b:Int}(k:Nat)(hl:k<l.length)(hk:ofl l k= .box [.im u,.im v])(h:Fin P fn stF (fun x st=>x=r∧st=stF) .ret ⟨s,ofl (l.set k (.box [.im (.int .i64 a),.im (.int .i64 b)]))⟩):FinD P fn r k t (.panic (chn (.iface t (.agg #[.int .i64 a,.int .i64 b])))) ⟨s,ofl l⟩ :=
 ⟨u,v,hk,.inr ⟨a,b,rfl,by rw[MR hl];exact h⟩⟩
theorem Lf{id0:Nat}{F:Fence}{n:Nat}{P:Program}{Q:Exit→Act→List Frame→World→Prop}{d1 d2:Tmp}{t1 t2:TypeId}{p1 p2:String}{f1 f2:Array Edge}{a:Act}{cs cs':List Frame}{w:World}{v:Value}(hF: ∀f,F.fn f)
  (hr:recoverD cs=some (v,cs')∨recoverD cs=none∧v= .nilIface∧cs'=cs) (h:Q .normal ((a.put (some d1) v).put (some d2) ((a.put (some d1) v).eval (.tmp d1))) cs' w) :
  (Code.region id0 #[⟨some d1,.call {callee:= .builtin .recover,args:= #[],argTypes:= #[]},t1,p1,f1,none⟩,⟨some d2,.assign (.tmp d1),t2,p2,f2,none⟩] false).wpSIn F n P Q a cs w:=by
 refine wpSIn_region ?_
 show wpOpsSIn F n P _ Q [0,1] a cs w
 have e1:(execOp a.eval ⟨some d1,.call {callee:= .builtin .recover,args:= #[],argTypes:= #[]},t1,p1,f1,none⟩).run P w= .ok .recover w:=by
  simp[execOp,resolve,invoke,builtin,Sem.run_bind,Sem.run_pure]
 have e2:(execOp (a.put (some d1) v).eval ⟨some d2,.assign (.tmp d1),t2,p2,f2,none⟩).run P w= .ok (.value ((a.put (some d1) v).eval (.tmp d1))) w:=by
  simp[execOp,Sem.run_pure]
 simp only[wpOpsSIn,List.getElem?_toArray,List.getElem?_cons_zero,List.getElem?_cons_succ]
 refine⟨fun f _=>hF f,?_⟩
 rw[if_pos (by rfl),e1]
 rcases hr with hr|⟨hr,rfl,rfl⟩
 ·simp only[hr]
  refine⟨fun f _=>hF f,?_⟩
  rw[if_pos (by rfl),e2]
  exact h
 ·simp only[hr]
  refine⟨fun f _=>hF f,?_⟩
  rw[if_pos (by rfl),e2]
  exact h
theorem LI{C D:Cf}{c0:List V}{u v:Value}(hst:C.st=ofl [.box c0])(h0:D.st 0= .box [.im u,.im v])(hD:Ok D)(hE:Ev C D):Beh C (ofl [.box [.im u,.im v]]) D.w:=by
 refine⟨D.only (fun i=>i==0),rfl,?_,hD.only fun i cs' hb hi=> ?_,hE.only fun i hi=> ?_⟩
 ·funext i
  show(if(i==0)=true then D.st i else .free)=_
  cases i with
  | zero=>simp[h0,ofl]
  | succ i=>simp[ofl]
 ·obtain rfl:i=0:=by simpa using hi
  rw[h0]at hb;cases hb
  rfl
 ·have:=qW (by rw[←hst];exact hi)
  simp at this;simp[this]
def XZ(u v:Value)(e:Exit)(A:St):Prop:=e= .normal∧A.st 0= .box [.im u,.im v]
theorem Catch.of{P:Program}{F:FuncId}{fn:Func}{t:TypeId}{N id0 d1 d2:Nat}{t1 t2:TypeId}{p1 p2:String}{f1 f2:Array Edge}{c:Code}(hf:P.funcs[F]? =some fn)
  (hb:fn.body=some (.seq (.region id0 #[⟨some d1,.call {callee:= .builtin .recover,args:= #[],argTypes:= #[]},t1,p1,f1,none⟩,⟨some d2,.assign (.tmp d1),t2,p2,f2,none⟩] false) c))
  (hn:fn.name≠ "runtime.NumGoroutine") (hN:fn.ntmps=N) (hx:Nat.blt 0 N=true) (hd:Nat.blt d1 N=true) (hrs:fn.results= #[])
  (h1: ∀(u v:Value) (a b:Int),AWp P (ofl [.box [.im u,.im v]]) c (XZ (.int .i64 a) (.int .i64 b)) ⟨dn N [(d2,.im (.iface t (.agg #[.int .i64 a,.int .i64 b]))),(d1,.im (.iface t (.agg #[.int .i64 a,.int .i64 b]))),(0,.pt 0 0)],ofl [.box [.im u,.im v]]⟩)
  (h2: ∀(u v:Value),AWp P (ofl [.box [.im u,.im v]]) c (XZ u v) ⟨dn N [(d2,.im .nilIface),(d1,.im .nilIface),(0,.pt 0 0)],ofl [.box [.im u,.im v]]⟩):Catch P F t:=by
 subst hN
 have hx0:0<fn.ntmps:=by rw[←Nat.blt_eq];exact hx
 have hd0:d1<fn.ntmps:=by rw[←Nat.blt_eq];exact hd
 have main: ∀(C:Cf) (vs:Array Value) (u v u' v' x:Value) (n:Nat) (m m':FrameMode),C.st=ofl [.box [.im u,.im v]]→Ok C→vs.size=1→R C (.pt 0 0) (vs.getD 0 undef)→x.oneCell'=true →
   (∀c₀:Frame,c₀.mode=m→ ∀cs,recoverD (c₀::cs)=some (x,{c₀ with mode:=m'}::cs)∨recoverD (c₀::cs)=none∧x= .nilIface∧{c₀ with mode:=m'}::cs=c₀::cs) →
   AWp P (ofl [.box [.im u,.im v]]) c (XZ u' v') ⟨dn fn.ntmps [(d2,.im x),(d1,.im x),(0,.pt 0 0)],ofl [.box [.im u,.im v]]⟩ →
   CallsDIn Fence.wide n P F vs m C.w fun e m2 w'=>(∃r,e= .returned r)∧m2=m'∧Beh C (ofl [.box [.im u',.im v']]) w':=by
  intro C vs u v u' v' x n m m' hst hC hsz hR hone hrec hA;refine callsDIn_of_wpSIn hf hb trivial fun c₀ cs hu=> ?_
  apply wpSIn_seq;refine Lf (v:=x) (cs':={c₀ with mode:=m'}::cs) (fun _=>trivial) (hrec c₀ hu cs) ?_
  show Code.wpSIn _ _ _ c _ _ _ C.w
  refine wpSIn_of_wpIn rfl ?_
  have hS0:Sim ⟨none,[]⟩ C ⟨dn fn.ntmps [(0,.pt 0 0)],ofl [.box [.im u,.im v]]⟩ {tmps:=vs++Array.replicate (fn.ntmps-vs.size) undef,defers:=[]}:=by
   have he:=zL (xs:=[V.pt 0 0]) (N:=fn.ntmps) hx0;rw[show enum 0 [V.pt 0 0]=[(0,.pt 0 0)]from rfl]at he
   rw[←he];refine⟨hst,hC,.nil,by simp[hsz];omega,fun t ht=> ?_⟩
   by_cases h1:t<1
   ·obtain rfl:t=0:=by omega
    simpa[List.getD,List.getElem?_append,Array.getElem?_append,hsz]using hR
   ·have:([V.pt 0 0]++List.replicate (fn.ntmps-[V.pt 0 0].length) V.dead).getD t .dead= .dead:=by
     simp only[List.getD,List.getElem?_append,List.length_cons,List.length_nil,Nat.zero_add,if_neg h1,List.getElem?_replicate];split<;>rfl
    rw[this];exact .dead
  have hx1:R C (.im x) x:= .im hone;have hS1:=hS0.put (d:=some d1) (Ev.refl C) hC hst hx1;rw[kT]at hS1
  have ex:(({tmps:=vs++Array.replicate (fn.ntmps-vs.size) undef,defers:=[]}:Act).put (some d1) x).eval (.tmp d1)=x:=by
   have h3:=hS1.ev (.tmp d1)
   have h4:St.ev ⟨dn fn.ntmps (eV [(0,.pt 0 0)] (some d1) (.im x)),ofl [.box [.im u,.im v]]⟩ (.tmp d1)= .im x:=by
    simp only[St.ev,eV,fT,dE];simp[hd0]
   rw[h4]at h3;exact h3.im_eq
  rw[ex];have hS2:=hS1.put (d:=some d2) (Ev.refl C) hC hst hx1;rw[kT]at hS2;refine wpIn_mono (hA C C _ {r:=none,z:=true} n rfl hst (Ev.refl C) hS2) ?_;rintro e a' w' ⟨A',D,⟨rfl,hA0⟩,hS,rfl,hE⟩;obtain⟨bs0,hdd,_,hb0⟩:=hS.defers
  have hbs:bs0=[]:=by
   cases bs0 with
   | nil=>rfl
   | cons b bs=>obtain⟨⟨lo,e1,_⟩,_⟩:=hb0 b (by simp);cases e1
  subst hbs;refine⟨hdd,m',rfl,.tuple #[],?_,⟨_,rfl⟩,rfl,LI hst (by rw[hS.st];exact hA0) hS.ok hE⟩
  simp[results,hrs,Sem.run_bind,Sem.run_pure]
 refine⟨by simp[Bj,hf,hb,hn],fun C vs u v a b n hst hC hsz hR=> ?_,fun C vs u v n hst hC hsz hR=> ?_⟩
 ·refine main C vs u v _ _ (.iface t (.agg #[.int .i64 a,.int .i64 b])) n _ _ hst hC hsz hR rfl (fun c₀ hm cs=> .inl ?_) (h1 u v a b)
  simp[recoverD,hm]
 ·refine main C vs u v _ _ .nilIface n _ _ hst hC hsz hR rfl (fun c₀ hm cs=> .inr ⟨?_,rfl,?_⟩) (h2 u v)
  ·simp[recoverD,hm]
  ·cases c₀;simp at hm;subst hm;rfl
end Go.Proofs.YtmbmmckagcdapaaGreatDoor
