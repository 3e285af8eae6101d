import Derived.Test.YtmbmmckagcdapaaGreatDoorV22
import Derived.Test.YtmbmmckagcdapaaGreatDoorV13
set_option maxHeartbeats 8000000
set_option linter.all false
namespace Go.Proofs.YtmbmmckagcdapaaGreatDoor
open Go.RowKit
def stV(x:List (List Nd)):V:=ndV (theS x)
def liV(x:List (List Nd)):V:=nlV (x.headD [])
def caV(x:List (List Nd)):V:= .sl (x.map nlV) .ro
theorem iD(s:Nd):stV (oneS s)=ndV s:=rfl
theorem cA(g:Nat→Nat)(c:List Nd):V.ren g (nlV c)=nlV c:=V.ren_id g _ (aU _ c)
theorem bC(g:Nat→Nat)(x:List (List Nd)):V.ren g (liV x)=liV x:=V.ren_id g _ (aU _ _)
theorem aV(p:Nat→Bool)(x:List (List Nd)):(liV x).ids p=true:=aU _ _
theorem bY(g:Nat→Nat)(x:List (List Nd)):V.ren g (stV x)=stV x:=V.ren_id g _ (aP _ _)
theorem bL(p:Nat→Bool)(x:List (List Nd)):(stV x).ids p=true:=aP _ _
theorem Rx(p:Nat→Bool)(x:List (List Nd)):(caV x).ids p=true:=by simp only[caV,V.ids,Bool.and_true];exact aM p x
theorem Ue(g:Nat→Nat)(x:List (List Nd)):V.ren g (caV x)=caV x:=V.ren_id g _ (Rx _ _)
theorem Nm(c:List (List Nd)):(liV c).live=true:=rfl
theorem Nl(c:List (List Nd)):(liV c).size=1:=rfl
theorem Nn(c:List (List Nd)):(liV c).isAg=false:=rfl
theorem Ip(c:List (List Nd)):(liV c).cells=[liV c]:=rfl
theorem Or(c:List (List Nd)):(caV c).live=true:=rfl
theorem Oq(c:List (List Nd)):(caV c).size=1:=rfl
theorem Ot(c:List (List Nd)):(caV c).isAg=false:=rfl
theorem Jf(c:List (List Nd)):(caV c).cells=[caV c]:=rfl
theorem Mu(c:List (List Nd)):(stV c).live=true:=vL _
theorem Mt(c:List (List Nd)):(stV c).size=7:=vK _
theorem Mv(c:List (List Nd)):(stV c).isAg=true:=yQ _
theorem Id(c:List (List Nd)):(stV c).cells=[.im (.int .i64 (theS c).kind),.im (.int .i64 (theS c).width),.im (.string (theS c).name),.sl ((theS c).e.map exV) .ro,.sl ((theS c).l.map ndV) .ro,.sl ((theS c).el.map ndV) .ro,.sl ((theS c).cs.map nlV) .ro]:=wF _
theorem LIT:type_of%(A12 @Nm @Nl @Nn @Ip @Or @Oq @Ot @Jf @Mu @Mt @Mv @Id) :=
 A12 @Nm @Nl @Nn @Ip @Or @Oq @Ot @Jf @Mu @Mt @Mv @Id
def fO:=A13 @iA @cJ @jV @iR @gQ @fG @jA @lC @nB @fH @cH @jT @eF
def eY:=A8 aB aC @aF @aE aP aG aU aM
def gX:=A7 aI aJ @aN @aO aX aR aZ
theorem DO{ts:List Tk}{f:Nat}(hts:ts.length≤4194304)(a o:Nat)(ho:o≤256)(r:Rs (List (List Nd)))(h:Nk ts f a o=some r):XC Tryz.prog 215 [.pt 0 0] ts a o stV r:=by
 unfold Nk at h
 refine xcEnt 24 Tryz.func215 rfl [(0,.pt 0 0)] ?_
 refine wG fO TI ?_
 rcases bS h with ⟨b1,e1,h1,rfl⟩|⟨nm,a1,o1,h1,h⟩
 ·exact PA.callP [0] ((nD ts a o hts _ h1).fails) TI eY gX (fun _=>PFin.i rfl rfl)
 refine aA [0] (((nD ts a o hts _ h1).good)) TI eY gX ?_
 refine goG fO TI ?_
 obtain⟨_,rfl,hoe,hlt⟩:=iY h1
 subst o1
 clear h1
 refine wG fO TI ?_
 have hq:=fM ts (a+1) o [58] hts
 rcases bA h with ⟨hk,h⟩|⟨hk,h⟩
 ·rw[if_pos hk,hk]at hq
  cases h
  refine aA [0] hq TI eY gX ?_;refine goG fO TI ?_;refine wG fO TI ?_;refine fiGen [.cell 2 165] (finG fO) ?_ rfl (idG eY)
  simp only[iD,gH,List.map_nil]
  all_goals exact wkG eY
 rw[if_neg hk]at hq
 rw[Bool.not_eq_true]at hk
 rw[hk]at hq
 refine aA [0] hq TI eY gX ?_
 refine goG fO TI ?_
 refine wG fO TI ?_
 rcases bS h with ⟨b1,e1,h1,rfl⟩|⟨_,a2,o2,h1,h⟩
 ·exact PA.callP [0] ((cT ts (a+1) o [61] hts _ h1).fails) TI eY gX (fun _=>PFin.i rfl rfl)
 refine aA [0] (((cT ts (a+1) o [61] hts _ h1).good)) TI eY gX ?_
 refine goG fO TI ?_
 obtain⟨_,rfl,hoe⟩:=dQ h1
 subst o2
 clear h1
 refine wG fO TI ?_
 have hq:=fM ts (a+1+1) o [105,110] hts
 rcases bA h with ⟨hk2,h⟩|⟨hk2,h⟩
 ·rw[if_pos hk2,hk2]at hq
  refine aA [0] hq TI eY gX ?_;refine goG fO TI ?_;refine wG fO TI ?_;rcases bS h with ⟨b1,e1,h1,rfl⟩|⟨_,a3,o3,h1,h⟩
  ·exact PA.callP [0] ((cT ts (a+1+1+1) o [59] hts _ h1).fails) TI eY gX (fun _=>PFin.i rfl rfl)
  refine aA [0] (((cT ts (a+1+1+1) o [59] hts _ h1).good)) TI eY gX ?_;refine goG fO TI ?_;cases h
  refine wG fO TI ?_;refine fiGen [.cell 2 165] (finG fO) ?_ rfl (idG eY)
  simp only[iD,gH,List.map_nil]
  all_goals exact wkG eY
 rw[if_neg hk2]at hq
 rw[Bool.not_eq_true]at hk2
 rw[hk2]at hq
 refine aA [0] hq TI eY gX ?_
 refine goG fO TI ?_
 refine wG fO TI ?_
 rcases bS h with ⟨b1,e1,h1,rfl⟩|⟨x,a3,o3,h1,h⟩
 ·exact PA.callP [0] ((wX hts f 1 (a+1+1) o (by decide) ho _ h1).fails) i1 eY gX (fun _=>PFin.i rfl rfl)
 refine aA [0] (((wX hts f 1 (a+1+1) o (by decide) ho _ h1).good)) i1 eY gX ?_
 refine goG fO BN01 ?_
 have hoe:=(fC ts _ _ _ _ _ _ _ h1).1
 subst o3
 refine wG fO BN01 ?_
 rcases bS h with ⟨b1,e1,h1,rfl⟩|⟨_,a4,o4,h1,h⟩
 ·exact PA.callP [0] ((cT ts a3 o [59] hts _ h1).fails) TI eY gX (fun _=>PFin.i rfl rfl)
 refine aA [0] (((cT ts a3 o [59] hts _ h1).good)) TI eY gX ?_
 refine goG fO TI ?_
 cases h
 refine wG fO BN01 ?_
 refine fiGen [.cell 2 165] (finG fO) ?_ rfl (idG eY)
 simp only[iD,gH,List.map_nil,List.map_cons];rw[bW x]
 all_goals exact wkG eY
def kD:=A11 @iA @jV @fD @iR @gQ @fG @lC @nB @fH @jT @eF
theorem Kt{ts:List Tk}{f:Nat}(hts:ts.length≤4194304)(w:Int)(a o:Nat)(ho:o≤256)(r:Rs (List (List Nd)))(h:storM ts f w a o=some r):XC Tryz.prog 216 [.pt 0 0,(.im (.int .i64 (w)))] ts a o stV r:=by
 unfold storM at h
 refine xcEnt 27 Tryz.func216 rfl [(0,.pt 0 0),(1,(.im (.int .i64 (w))))] ?_
 refine wG kD TI ?_
 rcases bS h with ⟨b1,e1,h1,rfl⟩|⟨_,a1,o1,h1,h⟩
 ·exact PA.callP [0] ((hG ts a o [40] hts _ h1).fails) TI eY gX (fun _=>PFin.i rfl rfl)
 refine aA [0] (((hG ts a o [40] hts _ h1).good)) TI eY gX ?_
 refine goG kD TI ?_
 obtain⟨_,ho1,rfl,rfl⟩:=dE h1
 clear h1
 refine wG kD TI ?_
 rcases bS h with ⟨b1,e1,h1,rfl⟩|⟨x,a2,o2,h1,h⟩
 ·exact PA.callP [0] ((wX hts f 1 (a+1) (o+1) (by decide) (by omega) _ h1).fails) i1 eY gX (fun _=>PFin.i rfl rfl)
 refine aA [0] (((wX hts f 1 (a+1) (o+1) (by decide) (by omega) _ h1).good)) i1 eY gX ?_
 refine goG kD BN01 ?_
 obtain⟨rfl,_⟩:=fC ts _ _ _ _ _ _ _ h1
 clear h1
 refine wG kD BN01 ?_
 rcases bS h with ⟨b1,e1,h1,rfl⟩|⟨_,a3,o3,h1,h⟩
 ·exact PA.callP [0] ((cT ts a2 (o+1) [44] hts _ h1).fails) TI eY gX (fun _=>PFin.i rfl rfl)
 refine aA [0] (((cT ts a2 (o+1) [44] hts _ h1).good)) TI eY gX ?_
 refine goG kD TI ?_
 obtain⟨_,rfl,rfl⟩:=dQ h1
 clear h1
 refine wG kD TI ?_
 rcases bS h with ⟨b1,e1,h1,rfl⟩|⟨y,a4,o4,h1,h⟩
 ·exact PA.callP [0] ((wX hts f 1 (a2+1) (o+1) (by decide) (by omega) _ h1).fails) i1 eY gX (fun _=>PFin.i rfl rfl)
 refine aA [0] (((wX hts f 1 (a2+1) (o+1) (by decide) (by omega) _ h1).good)) i1 eY gX ?_
 refine goG kD BN01 ?_
 obtain⟨rfl,_⟩:=fC ts _ _ _ _ _ _ _ h1
 clear h1
 refine wG kD BN01 ?_
 rcases bS h with ⟨b1,e1,h1,rfl⟩|⟨_,a5,o5,h1,h⟩
 ·exact PA.callP [0] ((rR ts a4 (o+1) [41] hts (by omega) (by omega) _ h1).fails) TI eY gX (fun _=>PFin.i rfl rfl)
 refine aA [0] (((rR ts a4 (o+1) [41] hts (by omega) (by omega) _ h1).good)) TI eY gX ?_
 refine goG kD TI ?_
 obtain⟨_,rfl,hoe⟩:=pX h1
 rw[Nat.add_sub_cancel]at hoe
 subst o5
 clear h1
 refine wG kD TI ?_
 rcases bS h with ⟨b1,e1,h1,rfl⟩|⟨_,a6,o6,h1,h⟩
 ·exact PA.callP [0] ((cT ts (a4+1) o [59] hts _ h1).fails) TI eY gX (fun _=>PFin.i rfl rfl)
 refine aA [0] (((cT ts (a4+1) o [59] hts _ h1).good)) TI eY gX ?_
 refine goG kD TI ?_
 cases h
 refine wG kD BN01 ?_
 refine fiGen [.cell 4 165] (finG kD) ?_ rfl (idG eY)
 simp only[iD,gH,List.map_nil,List.map_cons];rw[bW x,bW y]
 all_goals exact wkG eY
def zN:=A4 @iA @iR @nB @fH
theorem wP{ts:List Tk}(hts:ts.length≤4194304)(k:Int)(a o:Nat)(ho:o≤256)(r:Rs (List (List Nd)))(h:rG ts k a o=some r):XC Tryz.prog 219 [.pt 0 0,(.im (.int .i64 (k)))] ts a o stV r:=by
 unfold rG at h
 refine xcEnt 9 Tryz.func219 rfl [(0,.pt 0 0),(1,(.im (.int .i64 (k))))] ?_
 refine wG zN TI ?_
 rcases bS h with ⟨b1,e1,h1,rfl⟩|⟨_,a1,o1,h1,h⟩
 ·exact PA.callP [0] ((cT ts a o [59] hts _ h1).fails) TI eY gX (fun _=>PFin.i rfl rfl)
 refine aA [0] (((cT ts a o [59] hts _ h1).good)) TI eY gX ?_
 refine goG zN TI ?_
 cases h
 refine wG zN TI ?_
 refine fiGen [.cell 4 165] (finG zN) ?_ rfl (idG eY)
 simp only[iD,gH,List.map_nil]
 all_goals exact wkG eY
def gS:=A10 aB aC @aF @aE aP aG aU aM aV bL
def mD:=A10 aI aJ @aN @aO aX aR aZ cA bC bY
def BN14:=A9 LIT @dJ @cQ @dH @dG @dI @cR @List.getElem?_map.{0,0} @Int.natCast_nonneg
def StC(ts:List Tk)(f:Nat):Prop:= ∀a o:Nat,o≤256→ ∀r,stM ts f .st a o=some r→XC Tryz.prog 168 [.pt 0 0] ts a o stV r
def LiC(ts:List Tk)(f:Nat):Prop:= ∀a o:Nat,o≤256→ ∀r,stM ts f (.li []) a o=some r→XC Tryz.prog 107 [.pt 0 0] ts a o liV r
def BrC(ts:List Tk)(f:Nat):Prop:= ∀a o:Nat,o≤256→ ∀r,stM ts f .br a o=some r→XC Tryz.prog 217 [.pt 0 0] ts a o liV r
def CaC(ts:List Tk)(f:Nat):Prop:= ∀a o:Nat,o≤256→ ∀r,rb (begM ts [123] a o) (fun _ a o=>stM ts f (.ca []) a o)=some r→XC Tryz.prog 218 [.pt 0 0] ts a o caV r
theorem Me{n:Int}(h:0≤n∧n≤9223372036854775807):IntKind.u64.wrap n=n:=by
 show n%18446744073709551616=n
 omega
theorem Ke(l:List Nd):mU 7 (l.map ndV)=true:=by
 unfold mU
 rw[List.all_map]
 exact List.all_eq_true.2 fun x _=>by simp[vK,vL]
theorem rJ(l:List (List Nd)):mU 1 (l.map nlV)=true:=by
 unfold mU
 rw[List.all_map]
 exact List.all_eq_true.2 fun x _=>rfl
def nA:=A4 @iR @Qa @qC @fH
def gB:=A11 aB aC @aF @aE aP aG aU aM aV bL Rx
def kL:=A11 aI aJ @aN @aO aX aR aZ cA bC bY Ue
theorem DP{ts:List Tk}(hts:ts.length≤4194304)(F:Nat)(hS: ∀f,f<F→StC ts f):LiC ts F:=by
 intro a o ho r h
 refine xcEnt 13 Tryz.func107 rfl [(0,.pt 0 0)] ?_
 refine wG nA TI ?_
 refine aT ?_
 refine ALp.ghost 3 [] .nl 165 7 ?_
 suffices H: ∀(f:Nat),f≤F→ ∀(l:List Nd) (a:Nat),l.length≤a→stM ts f (.li l) a o=some r→ALp _ _ _ _ _ ⟨dn 13 [(0,.pt 0 0),(3,.sl ((l).map ndV) (.own 1))],ofl [.box [.sl (ts.map tkV) .ro,(.im (.int .i64 ((a:Nat)))),(.im (.int .i64 ((o:Nat))))],.tip 165 7 (l).length]⟩ by
  refine ALp.cutP 2 [(0,.pt 0 0),(3,.sl ((([]:List Nd)).map ndV) (.own 1))] [.box [.sl (ts.map tkV) .ro,(.im (.int .i64 ((a:Nat)))),(.im (.int .i64 ((o:Nat))))],.tip 165 7 (([]:List Nd)).length] gB ?_;exact H F (Nat.le_refl _) [] a (Nat.zero_le _) h
 clear h
 intro f
 induction f with
 | zero=>intro _ l a _ h;cases h
 | succ f ih =>
 intro hf l a hla h
 rw[stM]at h
 have hs:=qR ts a o [125]
 refine cG ?_
 rcases bA h with ⟨hk,h⟩|⟨hk,h⟩
 ·rw[hk]at hs
  cases h
  refine wG nA TI ?_;refine aA [0] hs TI gB kL ?_;refine goG nA TI ?_;refine wG nA TI ?_;refine fiGen [.tmp 2] (finG nA) ?_ rfl (idG gB)
  show WkF _ _ _ (.sl (l.map ndV) .ro)
  all_goals exact wkG gB
 rw[Bool.not_eq_true]at hk
 rw[hk]at hs
 refine wG nA TI ?_
 refine aA [0] hs TI gB kL ?_
 refine goG nA TI ?_
 refine wG nA TI ?_
 rcases bS h with ⟨b1,e1,h1,rfl⟩|⟨x,a1,o1,h1,hk2⟩
 ·exact PA.callP [0] ((hS f (by omega) a o ho _ h1).fails) TI gB kL (fun _=>PFin.i rfl rfl)
 obtain⟨hoe,hlt,hle⟩:=(gC ts f).1 _ _ _ _ _ h1
 have hc:=(hS f (by omega) a o ho _ h1).good
 change DC _ _ _ _ (ndV (theS x)) _ at hc
 subst o1
 generalize theS x=s at hc hk2
 obtain⟨B,hB⟩: ∃B,B=l++[s]:=⟨_,rfl⟩
 have hAs:l.map ndV++[ndV s]=B.map ndV:=by rw[hB,List.map_append];rfl
 have hAl:l.length+1=B.length:=by rw[hB];simp
 have hbl:B.length*128≤140737488355328:=by omega
 have h4:stM ts f (.li B) a1 o=some r:=by rw[hB];exact hk2
 refine aA [0] hc TI gB kL ?_
 refine goG nA (A6 ND hAs hAl hbl Ke @List.length_map.{0,0}) ?_
 refine wG nA (A6 ND hAs hAl hbl Ke @List.length_map.{0,0}) ?_
 refine ALp.cutP 2 [(0,.pt 0 0),(3,.sl ((B).map ndV) (.own 1))] [.box [.sl (ts.map tkV) .ro,(.im (.int .i64 ((a1:Nat)))),(.im (.int .i64 ((o:Nat))))],.tip 165 7 (B).length] gB ?_
 exact ih (by omega) B a1 (by omega) h4
theorem EH{ts:List Tk}(hts:ts.length≤4194304)(f:Nat)(hL:LiC ts f):BrC ts (f+1):=by
 intro a o ho r h
 rw[stM]at h
 refine xcEnt 11 Tryz.func217 rfl [(0,.pt 0 0)] ?_
 refine wG TI TI ?_
 rcases bS h with ⟨b1,e1,h1,rfl⟩|⟨_,a1,o1,h1,h⟩
 ·exact PA.callP [0] ((hG ts a o [123] hts _ h1).fails) TI gB kL (fun _=>PFin.i rfl rfl)
 refine aA [0] (((hG ts a o [123] hts _ h1).good)) TI gB kL ?_
 refine goG TI TI ?_
 obtain⟨_,ho1,rfl,rfl⟩:=dE h1
 clear h1
 refine wG TI TI ?_
 rcases bS h with ⟨b1,e1,h1,rfl⟩|⟨l,a2,o2,h1,h⟩
 ·exact PA.callP [0] ((hL (a+1) (o+1) (by omega) _ h1).fails) TI gB kL (fun _=>PFin.i rfl rfl)
 refine aA [0] (((hL (a+1) (o+1) (by omega) _ h1).good)) TI gB kL ?_
 refine goG TI TI ?_
 obtain⟨rfl,_,_⟩:=(gC ts f).2.1 _ _ _ _ _ _ h1
 clear h1
 refine wG TI TI ?_
 rcases bS h with ⟨b1,e1,h1,rfl⟩|⟨_,a3,o3,h1,h⟩
 ·exact PA.callP [0] ((rR ts a2 (o+1) [125] hts (by omega) (by omega) _ h1).fails) TI gB kL (fun _=>PFin.i rfl rfl)
 refine aA [0] (((rR ts a2 (o+1) [125] hts (by omega) (by omega) _ h1).good)) TI gB kL ?_
 refine goG TI TI ?_
 cases h
 refine wG TI TI ?_
 refine fiGen [.tmp 2] (finG TI) ?_ rfl (idG gB)
 all_goals exact wkG gB
def hU:=A16 @cJ @oL @nC @Dn @Lx @mC @nN @rB @iC @Gp @pU @rZ @kH @cH @jU (A4 @oG @Gm @pT @rW)
theorem JO{ts:List Tk}(hts:ts.length≤4194304)(hok: ∀t∈ts,TkOk t)(F:Nat)(hB: ∀f,f<F→BrC ts f):CaC ts F:=by
 intro a0 o ho r h
 refine xcEnt 40 Tryz.func218 rfl [(0,.pt 0 0)] ?_
 refine wG hU TI ?_
 rcases bS h with ⟨b1,e1,h1,rfl⟩|⟨_,a1,o1,h1,h⟩
 ·exact PA.callP [0] ((hG ts a0 o [123] hts _ h1).fails) TI gB kL (fun _=>PFin.i rfl rfl)
 refine aA [0] (((hG ts a0 o [123] hts _ h1).good)) TI gB kL ?_
 refine goG hU TI ?_
 obtain⟨_,ho1,rfl,rfl⟩:=dE h1
 clear h1
 refine wG hU TI ?_
 refine aT ?_
 refine ALp.ghost 3 [] .nl 35 1 ?_
 suffices H: ∀(f:Nat),f≤F→ ∀(l:List (List Nd)) (a:Nat),l.length≤a→stM ts f (.ca l) a (o+1)=some r→ALp _ _ _ _ _ ⟨dn 40 [(0,.pt 0 0),(3,.sl ((l).map nlV) (.own 1))],ofl [.box [.sl (ts.map tkV) .ro,(.im (.int .i64 ((a:Nat)))),(.im (.int .i64 ((o+1:Nat))))],.tip 35 1 (l).length]⟩ by
  refine ALp.cutP 2 [(0,.pt 0 0),(3,.sl ((([]:List (List Nd))).map nlV) (.own 1))] [.box [.sl (ts.map tkV) .ro,(.im (.int .i64 ((a0+1:Nat)))),(.im (.int .i64 ((o+1:Nat))))],.tip 35 1 (([]:List (List Nd))).length] gB ?_;exact H F (Nat.le_refl _) [] (a0+1) (Nat.zero_le _) h
 clear h
 intro f
 induction f with
 | zero=>intro _ l a _ h;cases h
 | succ f ih =>
 intro hf l a hla h
 rw[stM]at h
 have hq:=fM ts a (o+1) [99,97,115,101] hts
 refine cG ?_
 rcases bA h with ⟨hk,h⟩|⟨hk,h⟩
 case inr =>
  rw[if_neg hk]at hq;rw[Bool.not_eq_true]at hk;rw[hk]at hq;refine wG hU TI ?_;refine aA [0] hq TI gB kL ?_;refine goG hU TI ?_;refine wG hU TI ?_;rcases bS h with ⟨b1,e1,h1,rfl⟩|⟨_,a3,o3,h1,h⟩
  ·exact PA.callP [0] ((rR ts a (o+1) [125] hts (by omega) (by omega) _ h1).fails) TI gB kL (fun _=>PFin.i rfl rfl)
  refine aA [0] (((rR ts a (o+1) [125] hts (by omega) (by omega) _ h1).good)) TI gB kL ?_
  refine goG hU TI ?_;cases h
  refine wG hU TI ?_;refine fiGen [.tmp 2] (finG hU) ?_ rfl (idG gB)
  show WkF _ _ _ (.sl (l.map nlV) .ro)
  all_goals exact wkG gB
 have hlt:=cB hk
 rw[if_pos hk,hk]at hq
 have hp:=xL ts (a+1) (o+1)
 have hf:=qS ts (a+1) (o+1) 3
 have hn:=yP hok (a+1)
 have hkl:=fun hh=>eT (ts:=ts) (a:=a+1) (k:=3) hh (by decide)
 generalize pk ts (a+1)=t at hp hn h hkl
 refine wG hU TI ?_
 refine aA [0] hq TI gB kL ?_
 refine goG hU TI ?_
 refine wG hU TI ?_
 refine aA [0] hp TI gB kL ?_
 refine goG hU TKT ?_
 have hw1:IntKind.u64.wrap t.n=t.n:=Me (by omega)
 have hw2:IntKind.u64.wrap (l.length:Int)=(l.length:Int):=Me (by omega)
 by_cases k3:t.kind=3
 case neg =>
  rw[if_neg (fun hh=>k3 hh.1)]at h
  cases h
  refine wG hU (A5 TKT k3 hw1 hw2 @List.length_map.{0,0}) ?_;exact PA.callP [0] hf TI gB kL (fun _=>PFin.i rfl rfl)
 by_cases kn:t.n=l.length
 case neg =>
  rw[if_neg (fun hh=>kn hh.2)]at h
  cases h
  refine wG hU (A6 TKT k3 kn hw1 hw2 @List.length_map.{0,0}) ?_;exact PA.callP [0] hf TI gB kL (fun _=>PFin.i rfl rfl)
 rw[if_pos ⟨k3,kn⟩]at h
 have hlt2:=hkl k3
 have hw:=aQ (m:=a+1) (N:=4194304) (by omega) (by decide)
 refine wG hU (A7 TKT k3 kn hw1 hw2 hw @List.length_map.{0,0}) ?_
 rcases bS h with ⟨b1,e1,h1,rfl⟩|⟨x,a1,o1,h1,hk2⟩
 ·exact PA.callP [0] ((hB f (by omega) (a+2) (o+1) (by omega) _ h1).fails) TI gB kL (fun _=>PFin.i rfl rfl)
 obtain⟨hoe,hlt3,hle⟩:=(gC ts f).2.2.1 _ _ _ _ _ h1
 have hc:=(hB f (by omega) (a+2) (o+1) (by omega) _ h1).good
 change DC _ _ _ _ (nlV (x.headD [])) _ at hc
 subst hoe
 generalize x.headD []=s at hc hk2
 obtain⟨B,hB⟩: ∃B,B=l++[s]:=⟨_,rfl⟩
 have hAs:l.map nlV++[nlV s]=B.map nlV:=by rw[hB,List.map_append];rfl
 have hAl:l.length+1=B.length:=by rw[hB];simp
 have hbl:B.length*24≤140737488355328:=by omega
 have h4:stM ts f (.ca B) a1 (o+1)=some r:=by rw[hB];exact hk2
 refine aA [0] hc TI gB kL ?_
 refine goG hU (A6 ND hAs hAl hbl rJ @List.length_map.{0,0}) ?_
 refine wG hU (A6 ND hAs hAl hbl rJ @List.length_map.{0,0}) ?_
 refine ALp.cutP 2 [(0,.pt 0 0),(3,.sl ((B).map nlV) (.own 1))] [.box [.sl (ts.map tkV) .ro,(.im (.int .i64 ((a1:Nat)))),(.im (.int .i64 ((o+1:Nat))))],.tip 35 1 (B).length] gB ?_
 exact ih (by omega) B a1 (by omega) h4
theorem Mz{α β γ:Type}(r:Option (Rs α))(k:α→Nat→Nat→Option (Rs β))(k2:β→Nat→Nat→Option (Rs γ)):rb (rb r k) k2=rb r fun x a o=>rb (k x a o) k2:=by
 match r with
 | none=>rfl
 | some (.bad a e)=>rfl
 | some (.ok x a o)=>rfl
theorem nU(x:List (List Nd)):stV x= .ag [.im (.int .i64 (theS x).kind),.im (.int .i64 (theS x).width),.im (.string (theS x).name),.sl ((theS x).e.map exV) .ro,.sl ((theS x).l.map ndV) .ro,.sl ((theS x).el.map ndV) .ro,.sl ((theS x).cs.map nlV) .ro]:=fZ _
theorem Es(l:List (List Nd)):liV l= .sl ((l.headD []).map ndV) .ro:=rfl
def aS:=A16 @oN @iA @cJ @lG @iR @gQ @fG @nN @mB @mA @lZ @nB @oH @fH @cH (AI @jU @eF)
def bR:=A11 aB aC @aF @aE aP aG aU aM aV bL Rx
def cF:=A11 aI aJ @aN @aO aX aR aZ cA bC bY Ue
theorem IR{ts:List Tk}{f:Nat}(hts:ts.length≤4194304)(hB:BrC ts f)(hC:CaC ts f):StC ts (f+1):=by
 intro a o ho r h
 have hp:=xL ts a o
 have hf:=qS ts a o 3
 rw[stM]at h
 refine xcEnt 126 Tryz.func168 rfl [(0,.pt 0 0)] ?_
 refine wG aS TI ?_
 rcases bA h with ⟨hk,h⟩|⟨hk,h⟩
 ·have hc:=DO hts a o ho r h
  generalize pk ts a=t at hp hk;refine aA [0] hp TI bR cF ?_;refine goG aS (AI TKT hk) ?_;refine wG aS (AI TKT hk) ?_;cases r with
  | bad b e1 =>
   exact PA.callP [0] hc.fails TI bR cF (fun _=>PFin.i rfl rfl)
  | ok x b p =>
   refine aA [0] hc.good TI bR cF ?_;refine goG aS LIT ?_;refine wG aS LIT ?_;refine fiGen [.cell 2 165] (finG aS) ?_ rfl (idG bR)
   rw[nU x]
   all_goals exact wkG bR
 generalize pk ts a=t at hp hk
 refine aA [0] hp TI bR cF ?_
 refine goG aS (AI TKT hk) ?_
 refine wG aS (AI TKT hk) ?_
 clear hk hp
 have hq:=fM ts a o [103,111,116,111] hts
 rcases bA h with ⟨hk,h⟩|⟨hk,h⟩
 ·rw[if_pos hk,hk]at hq
  refine aA [0] hq TI bR cF ?_;refine goG aS TI ?_;refine wG aS TI ?_;rcases bS h with ⟨b1,e1,h1,rfl⟩|⟨nm,a1,o1,h1,h⟩
  ·exact PA.callP [0] ((nD ts (a+1) o hts _ h1).fails) TI bR cF (fun _=>PFin.i rfl rfl)
  refine aA [0] (((nD ts (a+1) o hts _ h1).good)) TI bR cF ?_;refine goG aS TI ?_;obtain⟨_,rfl,hoe,hlt⟩:=iY h1;subst o1;clear h1;refine wG aS TI ?_;rcases bS h with ⟨b1,e1,h1,rfl⟩|⟨_,a2,o2,h1,h⟩
  ·exact PA.callP [0] ((cT ts (a+1+1) o [59] hts _ h1).fails) TI bR cF (fun _=>PFin.i rfl rfl)
  refine aA [0] (((cT ts (a+1+1) o [59] hts _ h1).good)) TI bR cF ?_;refine goG aS TI ?_;cases h
  refine wG aS TI ?_;refine fiGen [.cell 2 165] (finG aS) ?_ rfl (idG bR)
  simp only[iD,gH,List.map_nil]
  all_goals exact wkG bR
 rw[if_neg hk]at hq
 rw[Bool.not_eq_true]at hk
 rw[hk]at hq
 refine aA [0] hq TI bR cF ?_
 refine goG aS TI ?_
 refine wG aS TI ?_
 clear hk hq
 have hq:=fM ts a o [99,97,108,108] hts
 rcases bA h with ⟨hk,h⟩|⟨hk,h⟩
 ·rw[if_pos hk,hk]at hq
  refine aA [0] hq TI bR cF ?_;refine goG aS TI ?_;refine wG aS TI ?_;rcases bS h with ⟨b1,e1,h1,rfl⟩|⟨nm,a1,o1,h1,h⟩
  ·exact PA.callP [0] ((nD ts (a+1) o hts _ h1).fails) TI bR cF (fun _=>PFin.i rfl rfl)
  refine aA [0] (((nD ts (a+1) o hts _ h1).good)) TI bR cF ?_;refine goG aS TI ?_;obtain⟨_,rfl,hoe,hlt⟩:=iY h1;subst o1;clear h1;refine wG aS TI ?_;rcases bS h with ⟨b1,e1,h1,rfl⟩|⟨_,a2,o2,h1,h⟩
  ·exact PA.callP [0] ((cT ts (a+1+1) o [59] hts _ h1).fails) TI bR cF (fun _=>PFin.i rfl rfl)
  refine aA [0] (((cT ts (a+1+1) o [59] hts _ h1).good)) TI bR cF ?_;refine goG aS TI ?_;cases h
  refine wG aS TI ?_;refine fiGen [.cell 2 165] (finG aS) ?_ rfl (idG bR)
  simp only[iD,gH,List.map_nil]
  all_goals exact wkG bR
 rw[if_neg hk]at hq
 rw[Bool.not_eq_true]at hk
 rw[hk]at hq
 refine aA [0] hq TI bR cF ?_
 refine goG aS TI ?_
 refine wG aS TI ?_
 clear hk hq
 have hq:=fM ts a o [115,116,111,114,101,49] hts
 rcases bA h with ⟨hk,h⟩|⟨hk,h⟩
 ·rw[if_pos hk,hk]at hq
  refine aA [0] hq TI bR cF ?_;refine goG aS TI ?_;refine wG aS TI ?_;have hc:=Kt hts 1 (a+1) o ho r h;cases r with
  | bad b e1 =>
   exact PA.callP [0] hc.fails TI bR cF (fun _=>PFin.i rfl rfl)
  | ok x b p =>
   refine aA [0] hc.good TI bR cF ?_;refine goG aS LIT ?_;refine wG aS LIT ?_;refine fiGen [.cell 2 165] (finG aS) ?_ rfl (idG bR)
   rw[nU x]
   all_goals exact wkG bR
 rw[if_neg hk]at hq
 rw[Bool.not_eq_true]at hk
 rw[hk]at hq
 refine aA [0] hq TI bR cF ?_
 refine goG aS TI ?_
 refine wG aS TI ?_
 clear hk hq
 have hq:=fM ts a o [115,116,111,114,101,50] hts
 rcases bA h with ⟨hk,h⟩|⟨hk,h⟩
 ·rw[if_pos hk,hk]at hq
  refine aA [0] hq TI bR cF ?_;refine goG aS TI ?_;refine wG aS TI ?_;have hc:=Kt hts 2 (a+1) o ho r h;cases r with
  | bad b e1 =>
   exact PA.callP [0] hc.fails TI bR cF (fun _=>PFin.i rfl rfl)
  | ok x b p =>
   refine aA [0] hc.good TI bR cF ?_;refine goG aS LIT ?_;refine wG aS LIT ?_;refine fiGen [.cell 2 165] (finG aS) ?_ rfl (idG bR)
   rw[nU x]
   all_goals exact wkG bR
 rw[if_neg hk]at hq
 rw[Bool.not_eq_true]at hk
 rw[hk]at hq
 refine aA [0] hq TI bR cF ?_
 refine goG aS TI ?_
 refine wG aS TI ?_
 clear hk hq
 have hq:=fM ts a o [115,116,111,114,101,52] hts
 rcases bA h with ⟨hk,h⟩|⟨hk,h⟩
 ·rw[if_pos hk,hk]at hq
  refine aA [0] hq TI bR cF ?_;refine goG aS TI ?_;refine wG aS TI ?_;have hc:=Kt hts 4 (a+1) o ho r h;cases r with
  | bad b e1 =>
   exact PA.callP [0] hc.fails TI bR cF (fun _=>PFin.i rfl rfl)
  | ok x b p =>
   refine aA [0] hc.good TI bR cF ?_;refine goG aS LIT ?_;refine wG aS LIT ?_;refine fiGen [.cell 2 165] (finG aS) ?_ rfl (idG bR)
   rw[nU x]
   all_goals exact wkG bR
 rw[if_neg hk]at hq
 rw[Bool.not_eq_true]at hk
 rw[hk]at hq
 refine aA [0] hq TI bR cF ?_
 refine goG aS TI ?_
 refine wG aS TI ?_
 clear hk hq
 have hq:=fM ts a o [111,117,116] hts
 rcases bA h with ⟨hk,h⟩|⟨hk,h⟩
 ·rw[if_pos hk,hk]at hq
  refine aA [0] hq TI bR cF ?_;refine goG aS TI ?_;refine wG aS TI ?_;rcases bS h with ⟨b1,e1,h1,rfl⟩|⟨x,a1,o1,h1,h⟩
  ·exact PA.callP [0] ((wX hts f 1 (a+1) o (by decide) ho _ h1).fails) i1 bR cF (fun _=>PFin.i rfl rfl)
  refine aA [0] (((wX hts f 1 (a+1) o (by decide) ho _ h1).good)) i1 bR cF ?_
  refine goG aS BN01 ?_;obtain⟨hoe,_⟩:=fC ts _ _ _ _ _ _ _ h1;subst o1;clear h1;refine wG aS BN01 ?_;rcases bS h with ⟨b1,e1,h1,rfl⟩|⟨_,a2,o2,h1,h⟩
  ·exact PA.callP [0] ((cT ts a1 o [59] hts _ h1).fails) TI bR cF (fun _=>PFin.i rfl rfl)
  refine aA [0] (((cT ts a1 o [59] hts _ h1).good)) TI bR cF ?_;refine goG aS TI ?_;cases h
  refine wG aS BN01 ?_;refine fiGen [.cell 2 165] (finG aS) ?_ rfl (idG bR)
  simp only[iD,gH,List.map_nil,List.map_cons];rw[bW x]
  all_goals exact wkG bR
 rw[if_neg hk]at hq
 rw[Bool.not_eq_true]at hk
 rw[hk]at hq
 refine aA [0] hq TI bR cF ?_
 refine goG aS TI ?_
 refine wG aS TI ?_
 clear hk hq
 have hq:=fM ts a o [105,102] hts
 rcases bA h with ⟨hk,h⟩|⟨hk,h⟩
 ·rw[if_pos hk,hk]at hq
  refine aA [0] hq TI bR cF ?_;refine goG aS TI ?_;refine wG aS TI ?_;rcases bS h with ⟨b1,e1,h1,rfl⟩|⟨x,a1,o1,h1,h⟩
  ·exact PA.callP [0] ((wX hts f 1 (a+1) o (by decide) ho _ h1).fails) i1 bR cF (fun _=>PFin.i rfl rfl)
  refine aA [0] (((wX hts f 1 (a+1) o (by decide) ho _ h1).good)) i1 bR cF ?_
  refine goG aS BN01 ?_;obtain⟨hoe,_⟩:=fC ts _ _ _ _ _ _ _ h1;subst o1;clear h1;refine wG aS BN01 ?_;rcases bS h with ⟨b1,e1,h1,rfl⟩|⟨l,a2,o2,h1,h⟩
  ·exact PA.callP [0] ((hB a1 o ho _ h1).fails) TI bR cF (fun _=>PFin.i rfl rfl)
  refine aA [0] (((hB a1 o ho _ h1).good)) TI bR cF ?_;refine goG aS LIT ?_;obtain⟨hoe,_,_⟩:=(gC ts f).2.2.1 _ _ _ _ _ h1;subst o2;clear h1;refine wG aS BN14 ?_;have hq:=fM ts a2 o [101,108,115,101] hts;rcases bA h with ⟨hk,h⟩|⟨hk,h⟩
  ·rw[if_pos hk,hk]at hq
   refine aA [0] hq TI bR cF ?_;refine goG aS TI ?_;refine wG aS TI ?_;rcases bS h with ⟨b1,e1,h1,rfl⟩|⟨el,a3,o2,h1,h⟩
   ·exact PA.callP [0] ((hB (a2+1) o ho _ h1).fails) TI bR cF (fun _=>PFin.i rfl rfl)
   refine aA [0] (((hB (a2+1) o ho _ h1).good)) TI bR cF ?_;refine goG aS LIT ?_;obtain⟨hoe,_,_⟩:=(gC ts f).2.2.1 _ _ _ _ _ h1;subst o2;clear h1;refine wG aS BN14 ?_;cases h
   refine wG aS BN14 ?_;refine fiGen [.cell 2 165] (finG aS) ?_ rfl (idG bR)
   simp only[iD,gH,List.map_nil,List.map_cons,Es];rw[bW x]
   all_goals exact wkG bR
  rw[if_neg hk]at hq;rw[Bool.not_eq_true]at hk;rw[hk]at hq;refine aA [0] hq TI bR cF ?_;refine goG aS TI ?_;cases h
  refine wG aS BN14 ?_;refine fiGen [.cell 2 165] (finG aS) ?_ rfl (idG bR)
  simp only[iD,gH,List.map_nil,List.map_cons,Es];rw[bW x]
  all_goals exact wkG bR
 rw[if_neg hk]at hq
 rw[Bool.not_eq_true]at hk
 rw[hk]at hq
 refine aA [0] hq TI bR cF ?_
 refine goG aS TI ?_
 refine wG aS TI ?_
 clear hk hq
 have hq:=fM ts a o [119,104,105,108,101] hts
 rcases bA h with ⟨hk,h⟩|⟨hk,h⟩
 ·rw[if_pos hk,hk]at hq
  refine aA [0] hq TI bR cF ?_;refine goG aS TI ?_;refine wG aS TI ?_;rcases bS h with ⟨b1,e1,h1,rfl⟩|⟨x,a1,o1,h1,h⟩
  ·exact PA.callP [0] ((wX hts f 1 (a+1) o (by decide) ho _ h1).fails) i1 bR cF (fun _=>PFin.i rfl rfl)
  refine aA [0] (((wX hts f 1 (a+1) o (by decide) ho _ h1).good)) i1 bR cF ?_
  refine goG aS BN01 ?_;obtain⟨hoe,_⟩:=fC ts _ _ _ _ _ _ _ h1;subst o1;clear h1;refine wG aS BN01 ?_;rcases bS h with ⟨b1,e1,h1,rfl⟩|⟨l,a2,o2,h1,h⟩
  ·exact PA.callP [0] ((hB a1 o ho _ h1).fails) TI bR cF (fun _=>PFin.i rfl rfl)
  refine aA [0] (((hB a1 o ho _ h1).good)) TI bR cF ?_;refine goG aS LIT ?_;obtain⟨hoe,_,_⟩:=(gC ts f).2.2.1 _ _ _ _ _ h1;subst o2;clear h1;refine wG aS BN14 ?_;cases h
  refine fiGen [.cell 2 165] (finG aS) ?_ rfl (idG bR)
  simp only[iD,gH,List.map_nil,List.map_cons,Es];rw[bW x]
  all_goals exact wkG bR
 rw[if_neg hk]at hq
 rw[Bool.not_eq_true]at hk
 rw[hk]at hq
 refine aA [0] hq TI bR cF ?_
 refine goG aS TI ?_
 refine wG aS TI ?_
 clear hk hq
 have hq:=fM ts a o [108,111,111,112] hts
 rcases bA h with ⟨hk,h⟩|⟨hk,h⟩
 ·rw[if_pos hk,hk]at hq
  refine aA [0] hq TI bR cF ?_;refine goG aS TI ?_;refine wG aS TI ?_;rcases bS h with ⟨b1,e1,h1,rfl⟩|⟨l,a2,o2,h1,h⟩
  ·exact PA.callP [0] ((hB (a+1) o ho _ h1).fails) TI bR cF (fun _=>PFin.i rfl rfl)
  refine aA [0] (((hB (a+1) o ho _ h1).good)) TI bR cF ?_;refine goG aS LIT ?_;obtain⟨hoe,_,_⟩:=(gC ts f).2.2.1 _ _ _ _ _ h1;subst o2;clear h1;refine wG aS BN14 ?_;cases h
  refine fiGen [.cell 2 165] (finG aS) ?_ rfl (idG bR)
  simp only[iD,gH,List.map_nil,List.map_cons,Es]
  all_goals exact wkG bR
 rw[if_neg hk]at hq
 rw[Bool.not_eq_true]at hk
 rw[hk]at hq
 refine aA [0] hq TI bR cF ?_
 refine goG aS TI ?_
 refine wG aS TI ?_
 clear hk hq
 have hq:=fM ts a o [115,119,105,116,99,104] hts
 rcases bA h with ⟨hk,h⟩|⟨hk,h⟩
 ·rw[if_pos hk,hk]at hq
  refine aA [0] hq TI bR cF ?_;refine goG aS TI ?_;refine wG aS TI ?_;rcases bS h with ⟨b1,e1,h1,rfl⟩|⟨x,a1,o1,h1,h⟩
  ·exact PA.callP [0] ((wX hts f 1 (a+1) o (by decide) ho _ h1).fails) i1 bR cF (fun _=>PFin.i rfl rfl)
  refine aA [0] (((wX hts f 1 (a+1) o (by decide) ho _ h1).good)) i1 bR cF ?_
  refine goG aS BN01 ?_;obtain⟨hoe,_⟩:=fC ts _ _ _ _ _ _ _ h1;subst o1;clear h1;refine wG aS BN01 ?_;rw[←Mz]at h;rcases bS h with ⟨b1,e1,h1,rfl⟩|⟨l,a2,o2,h1,h⟩
  ·exact PA.callP [0] ((hC a1 o ho _ h1).fails) TI bR cF (fun _=>PFin.i rfl rfl)
  refine aA [0] (((hC a1 o ho _ h1).good)) TI bR cF ?_;refine goG aS LIT ?_;clear h1;refine wG aS BN14 ?_;cases h
  refine fiGen [.cell 2 165] (finG aS) ?_ rfl (idG bR)
  simp only[iD,gH,List.map_nil,List.map_cons,caV];rw[bW x]
  all_goals exact wkG bR
 rw[if_neg hk]at hq
 rw[Bool.not_eq_true]at hk
 rw[hk]at hq
 refine aA [0] hq TI bR cF ?_
 refine goG aS TI ?_
 refine wG aS TI ?_
 clear hk hq
 have hq:=fM ts a o [98,114,101,97,107] hts
 rcases bA h with ⟨hk,h⟩|⟨hk,h⟩
 ·rw[if_pos hk,hk]at hq
  refine aA [0] hq TI bR cF ?_;refine goG aS TI ?_;refine wG aS TI ?_;have hc:=wP hts 10 (a+1) o ho r h;cases r with
  | bad b e1 =>
   exact PA.callP [0] hc.fails TI bR cF (fun _=>PFin.i rfl rfl)
  | ok x b p =>
   refine aA [0] hc.good TI bR cF ?_;refine goG aS LIT ?_;refine wG aS LIT ?_;refine fiGen [.cell 2 165] (finG aS) ?_ rfl (idG bR)
   rw[nU x]
   all_goals exact wkG bR
 rw[if_neg hk]at hq
 rw[Bool.not_eq_true]at hk
 rw[hk]at hq
 refine aA [0] hq TI bR cF ?_
 refine goG aS TI ?_
 refine wG aS TI ?_
 clear hk hq
 have hq:=fM ts a o [99,111,110,116,105,110,117,101] hts
 rcases bA h with ⟨hk,h⟩|⟨hk,h⟩
 ·rw[if_pos hk,hk]at hq
  refine aA [0] hq TI bR cF ?_;refine goG aS TI ?_;refine wG aS TI ?_;have hc:=wP hts 11 (a+1) o ho r h;cases r with
  | bad b e1 =>
   exact PA.callP [0] hc.fails TI bR cF (fun _=>PFin.i rfl rfl)
  | ok x b p =>
   refine aA [0] hc.good TI bR cF ?_;refine goG aS LIT ?_;refine wG aS LIT ?_;refine fiGen [.cell 2 165] (finG aS) ?_ rfl (idG bR)
   rw[nU x]
   all_goals exact wkG bR
 rw[if_neg hk]at hq
 rw[Bool.not_eq_true]at hk
 rw[hk]at hq
 refine aA [0] hq TI bR cF ?_
 refine goG aS TI ?_
 refine wG aS TI ?_
 clear hk hq
 have hq:=fM ts a o [114,101,116,117,114,110] hts
 rcases bA h with ⟨hk,h⟩|⟨hk,h⟩
 ·rw[if_pos hk,hk]at hq
  refine aA [0] hq TI bR cF ?_;refine goG aS TI ?_;refine wG aS TI ?_;have hc:=wP hts 14 (a+1) o ho r h;cases r with
  | bad b e1 =>
   exact PA.callP [0] hc.fails TI bR cF (fun _=>PFin.i rfl rfl)
  | ok x b p =>
   refine aA [0] hc.good TI bR cF ?_;refine goG aS LIT ?_;refine wG aS LIT ?_;refine fiGen [.cell 2 165] (finG aS) ?_ rfl (idG bR)
   rw[nU x]
   all_goals exact wkG bR
 rw[if_neg hk]at hq
 rw[Bool.not_eq_true]at hk
 rw[hk]at hq
 refine aA [0] hq TI bR cF ?_
 refine goG aS TI ?_
 refine wG aS TI ?_
 clear hk hq
 have hq:=fM ts a o [104,97,108,116] hts
 rcases bA h with ⟨hk,h⟩|⟨hk,h⟩
 ·rw[if_pos hk,hk]at hq
  refine aA [0] hq TI bR cF ?_;refine goG aS TI ?_;refine wG aS TI ?_;have hc:=wP hts 15 (a+1) o ho r h;cases r with
  | bad b e1 =>
   exact PA.callP [0] hc.fails TI bR cF (fun _=>PFin.i rfl rfl)
  | ok x b p =>
   refine aA [0] hc.good TI bR cF ?_;refine goG aS LIT ?_;refine wG aS LIT ?_;refine fiGen [.cell 2 165] (finG aS) ?_ rfl (idG bR)
   rw[nU x]
   all_goals exact wkG bR
 rw[if_neg hk]at hq
 rw[Bool.not_eq_true]at hk
 rw[hk]at hq
 refine aA [0] hq TI bR cF ?_
 refine goG aS TI ?_
 refine wG aS TI ?_
 clear hk hq
 cases h
 exact PA.callP [0] hf TI bR cF (fun _=>PFin.i rfl rfl)
theorem QE{ts:List Tk}(hts:ts.length≤4194304)(hok: ∀t∈ts,TkOk t): ∀F f,f≤F→StC ts f∧BrC ts f:=by
 intro F
 induction F with
 | zero =>
  intro f hf;obtain rfl:f=0:=by omega
  exact⟨(fun a o _ r h=>by cases h),(fun a o _ r h=>by cases h)⟩
 | succ F ih =>
  intro f hf
  by_cases hle:f≤F
  ·exact ih f hle
  obtain rfl:f=F+1:=by omega
  exact⟨IR hts (ih F (Nat.le_refl _)).2 (JO hts hok F fun f hf=>(ih f (by omega)).2),EH hts F (DP hts F fun f hf=>(ih f (by omega)).1)⟩
theorem KY{ts:List Tk}(hts:ts.length≤4194304)(hok: ∀t∈ts,TkOk t)(F:Nat):LiC ts F:=DP hts F fun f _=>(QE hts hok F f (by omega)).1
end Go.Proofs.YtmbmmckagcdapaaGreatDoor
