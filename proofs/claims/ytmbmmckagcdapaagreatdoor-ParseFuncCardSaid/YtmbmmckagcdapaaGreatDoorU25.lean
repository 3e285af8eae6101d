import Derived.Test.YtmbmmckagcdapaaGreatDoorU10
import Derived.Test.YtmbmmckagcdapaaGreatDoorU22
import Derived.Test.YtmbmmckagcdapaaGreatDoorU13
set_option linter.all false
namespace Go.Proofs.YtmbmmckagcdapaaGreatDoor
open Go.RowKit
def stV(x:List (List Nd)):V:=ndV (theS x)
def liV(x:List (List Nd)):V:=nlV (x.headD [])
def caV(x:List (List Nd)):V:= .sl (x.map nlV) .ro
theorem gJ(s:Nd):stV (oneS s)=ndV s:=rfl
theorem bR(g:Nat→Nat)(c:List Nd):V.ren g (nlV c)=nlV c:=V.ren_id g _ (aV _ c)
theorem bK(g:Nat→Nat)(x:List (List Nd)):V.ren g (liV x)=liV x:=V.ren_id g _ (aV _ _)
theorem aW(p:Nat→Bool)(x:List (List Nd)):(liV x).ids p=true:=aV _ _
theorem bQ(g:Nat→Nat)(x:List (List Nd)):V.ren g (stV x)=stV x:=V.ren_id g _ (aQ _ _)
theorem bJ(p:Nat→Bool)(x:List (List Nd)):(stV x).ids p=true:=aQ _ _
theorem Pg(p:Nat→Bool)(x:List (List Nd)):(caV x).ids p=true:=by simp only[caV,V.ids,Bool.and_true];exact aN p x
theorem Re(g:Nat→Nat)(x:List (List Nd)):V.ren g (caV x)=caV x:=V.ren_id g _ (Pg _ _)
theorem La(c:List (List Nd)):(liV c).live=true:=rfl
theorem Kz(c:List (List Nd)):(liV c).size=1:=rfl
theorem Lb(c:List (List Nd)):(liV c).isAg=false:=rfl
theorem Fl(c:List (List Nd)):(liV c).cells=[liV c]:=rfl
theorem Mc(c:List (List Nd)):(caV c).live=true:=rfl
theorem Mb(c:List (List Nd)):(caV c).size=1:=rfl
theorem Md(c:List (List Nd)):(caV c).isAg=false:=rfl
theorem Gc(c:List (List Nd)):(caV c).cells=[caV c]:=rfl
theorem Ke(c:List (List Nd)):(stV c).live=true:=tI _
theorem Kd(c:List (List Nd)):(stV c).size=7:=tH _
theorem Kf(c:List (List Nd)):(stV c).isAg=true:=wK _
theorem Ey(c:List (List Nd)):(stV c).cells=[.im (.int .i64 (theS c).kind),.im (.int .i64 (theS c).width),.im (.string (theS c).name),.sl ((theS c).e.map exV) .ro,.sl ((theS c).l.map ndV) .ro,.sl ((theS c).el.map ndV) .ro,.sl ((theS c).cs.map nlV) .ro]:=tZ _
theorem LIT:type_of%(A12 @La @Kz @Lb @Fl @Mc @Mb @Md @Gc @Ke @Kd @Kf @Ey) :=
 A12 @La @Kz @Lb @Fl @Mc @Mb @Md @Gc @Ke @Kd @Kf @Ey
def eX:=A13 @iJ @cQ @kD @hG @fG @fM @kH @lN @lC @gH @cN @kA @dG
def dZ:=A8 aB aC @aE @aD aQ aG aV aN
def gA:=A7 aH aI @aK @aL bC aR aY
set_option maxHeartbeats 4000000 in
theorem AA{ts:List Tk}{f:Nat}(hts:ts.length≤4194304)(a o:Nat)(ho:o≤256)(r:Rs (List (List Nd)))(h:Ky ts f a o=some r):XC Tryz.prog 215 [.pt 0 0] ts a o stV r:=by
 unfold Ky at h
 refine XC.enter 24 Tryz.func215 rfl (by decide) rfl rfl (s:=[(0,.pt 0 0)]) (by rfl) ?_
 refine wG eX TI ?_
 rcases bM h with ⟨b1,e1,h1,rfl⟩|⟨nm,a1,o1,h1,h⟩
 ·exact PA.callP [0] ((lG ts a o hts _ h1).fails) TI dZ gA (fun _=>PFin.i rfl rfl)
 refine aA [0] (((lG ts a o hts _ h1).good)) TI dZ gA ?_
 refine goG eX TI ?_
 obtain⟨_,rfl,hoe,hlt⟩:=gV h1
 subst o1
 clear h1
 refine wG eX TI ?_
 have hq:=eV ts (a+1) o [58] hts
 rcases aZ h with ⟨hk,h⟩|⟨hk,h⟩
 ·rw[if_pos hk,hk]at hq
  cases h
  refine aA [0] hq TI dZ gA ?_;refine goG eX TI ?_;refine wG eX TI ?_;refine aO (rs:=[.cell 2 165]) rfl (by first|exact .inl rfl|exact .inr rfl) (finG eX) ?_ rfl (idG dZ)
  simp only[gJ,fO,List.map_nil]
  all_goals exact wkG dZ
 rw[if_neg hk]at hq
 rw[Bool.not_eq_true]at hk
 rw[hk]at hq
 refine aA [0] hq TI dZ gA ?_
 refine goG eX TI ?_
 refine wG eX TI ?_
 rcases bM h with ⟨b1,e1,h1,rfl⟩|⟨_,a2,o2,h1,h⟩
 ·exact PA.callP [0] ((cI ts (a+1) o [61] hts _ h1).fails) TI dZ gA (fun _=>PFin.i rfl rfl)
 refine aA [0] (((cI ts (a+1) o [61] hts _ h1).good)) TI dZ gA ?_
 refine goG eX TI ?_
 obtain⟨_,rfl,hoe⟩:=cV h1
 subst o2
 clear h1
 refine wG eX TI ?_
 have hq:=eV ts (a+1+1) o [105,110] hts
 rcases aZ h with ⟨hk2,h⟩|⟨hk2,h⟩
 ·rw[if_pos hk2,hk2]at hq
  refine aA [0] hq TI dZ gA ?_;refine goG eX TI ?_;refine wG eX TI ?_;rcases bM h with ⟨b1,e1,h1,rfl⟩|⟨_,a3,o3,h1,h⟩
  ·exact PA.callP [0] ((cI ts (a+1+1+1) o [59] hts _ h1).fails) TI dZ gA (fun _=>PFin.i rfl rfl)
  refine aA [0] (((cI ts (a+1+1+1) o [59] hts _ h1).good)) TI dZ gA ?_;refine goG eX TI ?_;cases h
  refine wG eX TI ?_;refine aO (rs:=[.cell 2 165]) rfl (by first|exact .inl rfl|exact .inr rfl) (finG eX) ?_ rfl (idG dZ)
  simp only[gJ,fO,List.map_nil]
  all_goals exact wkG dZ
 rw[if_neg hk2]at hq
 rw[Bool.not_eq_true]at hk2
 rw[hk2]at hq
 refine aA [0] hq TI dZ gA ?_
 refine goG eX TI ?_
 refine wG eX TI ?_
 rcases bM h with ⟨b1,e1,h1,rfl⟩|⟨x,a3,o3,h1,h⟩
 ·exact PA.callP [0] ((uX hts f 1 (a+1+1) o (by decide) ho _ h1).fails) i1 dZ gA (fun _=>PFin.i rfl rfl)
 refine aA [0] (((uX hts f 1 (a+1+1) o (by decide) ho _ h1).good)) i1 dZ gA ?_
 refine goG eX BN01 ?_
 have hoe:=(dH ts _ _ _ _ _ _ _ h1).1
 subst o3
 refine wG eX BN01 ?_
 rcases bM h with ⟨b1,e1,h1,rfl⟩|⟨_,a4,o4,h1,h⟩
 ·exact PA.callP [0] ((cI ts a3 o [59] hts _ h1).fails) TI dZ gA (fun _=>PFin.i rfl rfl)
 refine aA [0] (((cI ts a3 o [59] hts _ h1).good)) TI dZ gA ?_
 refine goG eX TI ?_
 cases h
 refine wG eX BN01 ?_
 refine aO (rs:=[.cell 2 165]) rfl (by first|exact .inl rfl|exact .inr rfl) (finG eX) ?_ rfl (idG dZ)
 simp only[gJ,fO,List.map_nil,List.map_cons];rw[cA x]
 all_goals exact wkG dZ
def iT:=A11 @iJ @kD @eO @hG @fG @fM @lN @lC @gH @kA @dG
set_option maxHeartbeats 4000000 in
theorem Hz{ts:List Tk}{f:Nat}(hts:ts.length≤4194304)(w:Int)(a o:Nat)(ho:o≤256)(r:Rs (List (List Nd)))(h:storM ts f w a o=some r):XC Tryz.prog 216 [.pt 0 0,(.im (.int .i64 (w)))] ts a o stV r:=by
 unfold storM at h
 refine XC.enter 27 Tryz.func216 rfl (by decide) rfl rfl (s:=[(0,.pt 0 0),(1,(.im (.int .i64 (w))))]) (by rfl) ?_
 refine wG iT TI ?_
 rcases bM h with ⟨b1,e1,h1,rfl⟩|⟨_,a1,o1,h1,h⟩
 ·exact PA.callP [0] ((gD ts a o [40] hts _ h1).fails) TI dZ gA (fun _=>PFin.i rfl rfl)
 refine aA [0] (((gD ts a o [40] hts _ h1).good)) TI dZ gA ?_
 refine goG iT TI ?_
 obtain⟨_,ho1,rfl,rfl⟩:=cK h1
 clear h1
 refine wG iT TI ?_
 rcases bM h with ⟨b1,e1,h1,rfl⟩|⟨x,a2,o2,h1,h⟩
 ·exact PA.callP [0] ((uX hts f 1 (a+1) (o+1) (by decide) (by omega) _ h1).fails) i1 dZ gA (fun _=>PFin.i rfl rfl)
 refine aA [0] (((uX hts f 1 (a+1) (o+1) (by decide) (by omega) _ h1).good)) i1 dZ gA ?_
 refine goG iT BN01 ?_
 obtain⟨rfl,_⟩:=dH ts _ _ _ _ _ _ _ h1
 clear h1
 refine wG iT BN01 ?_
 rcases bM h with ⟨b1,e1,h1,rfl⟩|⟨_,a3,o3,h1,h⟩
 ·exact PA.callP [0] ((cI ts a2 (o+1) [44] hts _ h1).fails) TI dZ gA (fun _=>PFin.i rfl rfl)
 refine aA [0] (((cI ts a2 (o+1) [44] hts _ h1).good)) TI dZ gA ?_
 refine goG iT TI ?_
 obtain⟨_,rfl,rfl⟩:=cV h1
 clear h1
 refine wG iT TI ?_
 rcases bM h with ⟨b1,e1,h1,rfl⟩|⟨y,a4,o4,h1,h⟩
 ·exact PA.callP [0] ((uX hts f 1 (a2+1) (o+1) (by decide) (by omega) _ h1).fails) i1 dZ gA (fun _=>PFin.i rfl rfl)
 refine aA [0] (((uX hts f 1 (a2+1) (o+1) (by decide) (by omega) _ h1).good)) i1 dZ gA ?_
 refine goG iT BN01 ?_
 obtain⟨rfl,_⟩:=dH ts _ _ _ _ _ _ _ h1
 clear h1
 refine wG iT BN01 ?_
 rcases bM h with ⟨b1,e1,h1,rfl⟩|⟨_,a5,o5,h1,h⟩
 ·exact PA.callP [0] ((pU ts a4 (o+1) [41] hts (by omega) (by omega) _ h1).fails) TI dZ gA (fun _=>PFin.i rfl rfl)
 refine aA [0] (((pU ts a4 (o+1) [41] hts (by omega) (by omega) _ h1).good)) TI dZ gA ?_
 refine goG iT TI ?_
 obtain⟨_,rfl,hoe⟩:=mV h1
 rw[Nat.add_sub_cancel]at hoe
 subst o5
 clear h1
 refine wG iT TI ?_
 rcases bM h with ⟨b1,e1,h1,rfl⟩|⟨_,a6,o6,h1,h⟩
 ·exact PA.callP [0] ((cI ts (a4+1) o [59] hts _ h1).fails) TI dZ gA (fun _=>PFin.i rfl rfl)
 refine aA [0] (((cI ts (a4+1) o [59] hts _ h1).good)) TI dZ gA ?_
 refine goG iT TI ?_
 cases h
 refine wG iT BN01 ?_
 refine aO (rs:=[.cell 4 165]) rfl (by first|exact .inl rfl|exact .inr rfl) (finG iT) ?_ rfl (idG dZ)
 simp only[gJ,fO,List.map_nil,List.map_cons];rw[cA x,cA y]
 all_goals exact wkG dZ
def xB:=A4 @iJ @hG @lC @gH
theorem uI{ts:List Tk}(hts:ts.length≤4194304)(k:Int)(a o:Nat)(ho:o≤256)(r:Rs (List (List Nd)))(h:pK ts k a o=some r):XC Tryz.prog 219 [.pt 0 0,(.im (.int .i64 (k)))] ts a o stV r:=by
 unfold pK at h
 refine XC.enter 9 Tryz.func219 rfl (by decide) rfl rfl (s:=[(0,.pt 0 0),(1,(.im (.int .i64 (k))))]) (by rfl) ?_
 refine wG xB TI ?_
 rcases bM h with ⟨b1,e1,h1,rfl⟩|⟨_,a1,o1,h1,h⟩
 ·exact PA.callP [0] ((cI ts a o [59] hts _ h1).fails) TI dZ gA (fun _=>PFin.i rfl rfl)
 refine aA [0] (((cI ts a o [59] hts _ h1).good)) TI dZ gA ?_
 refine goG xB TI ?_
 cases h
 refine wG xB TI ?_
 refine aO (rs:=[.cell 4 165]) rfl (by first|exact .inl rfl|exact .inr rfl) (finG xB) ?_ rfl (idG dZ)
 simp only[gJ,fO,List.map_nil]
 all_goals exact wkG dZ
def fW:=A10 aB aC @aE @aD aQ aG aV aN aW bJ
def kJ:=A10 aH aI @aK @aL bC aR aY bR bK bQ
def BN13:=A9 LIT @dX @dC @dU @dT @dW @dD @List.getElem?_map.{0,0} @Int.natCast_nonneg
def StC(ts:List Tk)(f:Nat):Prop:= ∀a o:Nat,o≤256→ ∀r,stM ts f .st a o=some r→XC Tryz.prog 168 [.pt 0 0] ts a o stV r
def LiC(ts:List Tk)(f:Nat):Prop:= ∀a o:Nat,o≤256→ ∀r,stM ts f (.li []) a o=some r→XC Tryz.prog 107 [.pt 0 0] ts a o liV r
def BrC(ts:List Tk)(f:Nat):Prop:= ∀a o:Nat,o≤256→ ∀r,stM ts f .br a o=some r→XC Tryz.prog 217 [.pt 0 0] ts a o liV r
def CaC(ts:List Tk)(f:Nat):Prop:= ∀a o:Nat,o≤256→ ∀r,rb (begM ts [123] a o) (fun _ a o=>stM ts f (.ca []) a o)=some r→XC Tryz.prog 218 [.pt 0 0] ts a o caV r
theorem Jo{n:Int}(h:0≤n∧n≤9223372036854775807):IntKind.u64.wrap n=n:=by
 show n%18446744073709551616=n
 omega
theorem Hl(l:List Nd):kV 7 (l.map ndV)=true:=by
 unfold kV
 rw[List.all_map]
 exact List.all_eq_true.2 fun x _=>by simp[tH,tI]
theorem pN(l:List (List Nd)):kV 1 (l.map nlV)=true:=by
 unfold kV
 rw[List.all_map]
 exact List.all_eq_true.2 fun x _=>rfl
def lB:=A4 @hG @Nk @uT @gH
def fH:=A11 aB aC @aE @aD aQ aG aV aN aW bJ Pg
def iZ:=A11 aH aI @aK @aL bC aR aY bR bK bQ Re
set_option maxHeartbeats 4000000 in
theorem AB{ts:List Tk}(hts:ts.length≤4194304)(F:Nat)(hS: ∀f,f<F→StC ts f):LiC ts F:=by
 intro a o ho r h
 refine XC.enter 13 Tryz.func107 rfl (by decide) rfl rfl (s:=[(0,.pt 0 0)]) (by rfl) ?_
 refine wG lB TI ?_
 refine bH ?_
 refine ALp.ghost 3 [] .nl 165 7 ?_
 suffices H: ∀(f:Nat),f≤F→ ∀(l:List Nd) (a:Nat),l.length≤a→stM ts f (.li l) a o=some r→ALp _ _ _ _ _ ⟨dn 13 [(0,.pt 0 0),(3,.sl ((l).map ndV) (.own 1))],ofl [.box [.sl (ts.map tkV) .ro,(.im (.int .i64 ((a:Nat)))),(.im (.int .i64 ((o:Nat))))],.tip 165 7 (l).length]⟩ by
  refine ALp.cutP 2 [(0,.pt 0 0),(3,.sl ((([]:List Nd)).map ndV) (.own 1))] [.box [.sl (ts.map tkV) .ro,(.im (.int .i64 ((a:Nat)))),(.im (.int .i64 ((o:Nat))))],.tip 165 7 (([]:List Nd)).length] fH ?_;exact H F (Nat.le_refl _) [] a (Nat.zero_le _) h
 clear h
 intro f
 induction f with
 | zero=>intro _ l a _ h;cases h
 | succ f ih =>
 intro hf l a hla h
 rw[stM]at h
 have hs:=oQ ts a o [125]
 refine cD ?_
 rcases aZ h with ⟨hk,h⟩|⟨hk,h⟩
 ·rw[hk]at hs
  cases h
  refine wG lB TI ?_;refine aA [0] hs TI fH iZ ?_;refine goG lB TI ?_;refine wG lB TI ?_;refine aO (rs:=[.tmp 2]) rfl (by first|exact .inl rfl|exact .inr rfl) (finG lB) ?_ rfl (idG fH)
  show WkF _ _ _ (.sl (l.map ndV) .ro)
  all_goals exact wkG fH
 rw[Bool.not_eq_true]at hk
 rw[hk]at hs
 refine wG lB TI ?_
 refine aA [0] hs TI fH iZ ?_
 refine goG lB TI ?_
 refine wG lB TI ?_
 rcases bM h with ⟨b1,e1,h1,rfl⟩|⟨x,a1,o1,h1,hk2⟩
 ·exact PA.callP [0] ((hS f (by omega) a o ho _ h1).fails) TI fH iZ (fun _=>PFin.i rfl rfl)
 obtain⟨hoe,hlt,hle⟩:=(fI ts f).1 _ _ _ _ _ h1
 have hc:=(hS f (by omega) a o ho _ h1).good
 change DC _ _ _ _ (ndV (theS x)) _ at hc
 subst o1
 generalize theS x=s at hc hk2
 obtain⟨B,hB⟩: ∃B,B=l++[s]:=⟨_,rfl⟩
 have hAs:l.map ndV++[ndV s]=B.map ndV:=by rw[hB,List.map_append];rfl
 have hAl:l.length+1=B.length:=by rw[hB];simp
 have hbl:B.length*128≤140737488355328:=by omega
 have h4:stM ts f (.li B) a1 o=some r:=by rw[hB];exact hk2
 refine aA [0] hc TI fH iZ ?_
 refine goG lB (A6 ND hAs hAl hbl Hl @List.length_map.{0,0}) ?_
 refine wG lB (A6 ND hAs hAl hbl Hl @List.length_map.{0,0}) ?_
 refine ALp.cutP 2 [(0,.pt 0 0),(3,.sl ((B).map ndV) (.own 1))] [.box [.sl (ts.map tkV) .ro,(.im (.int .i64 ((a1:Nat)))),(.im (.int .i64 ((o:Nat))))],.tip 165 7 (B).length] fH ?_
 exact ih (by omega) B a1 (by omega) h4
theorem AP{ts:List Tk}(hts:ts.length≤4194304)(f:Nat)(hL:LiC ts f):BrC ts (f+1):=by
 intro a o ho r h
 rw[stM]at h
 refine XC.enter 11 Tryz.func217 rfl (by decide) rfl rfl (s:=[(0,.pt 0 0)]) (by rfl) ?_
 refine wG TI TI ?_
 rcases bM h with ⟨b1,e1,h1,rfl⟩|⟨_,a1,o1,h1,h⟩
 ·exact PA.callP [0] ((gD ts a o [123] hts _ h1).fails) TI fH iZ (fun _=>PFin.i rfl rfl)
 refine aA [0] (((gD ts a o [123] hts _ h1).good)) TI fH iZ ?_
 refine goG TI TI ?_
 obtain⟨_,ho1,rfl,rfl⟩:=cK h1
 clear h1
 refine wG TI TI ?_
 rcases bM h with ⟨b1,e1,h1,rfl⟩|⟨l,a2,o2,h1,h⟩
 ·exact PA.callP [0] ((hL (a+1) (o+1) (by omega) _ h1).fails) TI fH iZ (fun _=>PFin.i rfl rfl)
 refine aA [0] (((hL (a+1) (o+1) (by omega) _ h1).good)) TI fH iZ ?_
 refine goG TI TI ?_
 obtain⟨rfl,_,_⟩:=(fI ts f).2.1 _ _ _ _ _ _ h1
 clear h1
 refine wG TI TI ?_
 rcases bM h with ⟨b1,e1,h1,rfl⟩|⟨_,a3,o3,h1,h⟩
 ·exact PA.callP [0] ((pU ts a2 (o+1) [125] hts (by omega) (by omega) _ h1).fails) TI fH iZ (fun _=>PFin.i rfl rfl)
 refine aA [0] (((pU ts a2 (o+1) [125] hts (by omega) (by omega) _ h1).good)) TI fH iZ ?_
 refine goG TI TI ?_
 cases h
 refine wG TI TI ?_
 refine aO (rs:=[.tmp 2]) rfl (by first|exact .inl rfl|exact .inr rfl) (finG TI) ?_ rfl (idG fH)
 all_goals exact wkG fH
def gF:=A16 @cQ @oE @lD @Ar @Jd @nI @lO @pF @fU @Dj @nQ @pZ @iI @cN @kB (A4 @nZ @Dh @nP @pX)
set_option maxHeartbeats 4000000 in
theorem FE{ts:List Tk}(hts:ts.length≤4194304)(hok: ∀t∈ts,TkOk t)(F:Nat)(hB: ∀f,f<F→BrC ts f):CaC ts F:=by
 intro a0 o ho r h
 refine XC.enter 40 Tryz.func218 rfl (by decide) rfl rfl (s:=[(0,.pt 0 0)]) (by rfl) ?_
 refine wG gF TI ?_
 rcases bM h with ⟨b1,e1,h1,rfl⟩|⟨_,a1,o1,h1,h⟩
 ·exact PA.callP [0] ((gD ts a0 o [123] hts _ h1).fails) TI fH iZ (fun _=>PFin.i rfl rfl)
 refine aA [0] (((gD ts a0 o [123] hts _ h1).good)) TI fH iZ ?_
 refine goG gF TI ?_
 obtain⟨_,ho1,rfl,rfl⟩:=cK h1
 clear h1
 refine wG gF TI ?_
 refine bH ?_
 refine ALp.ghost 3 [] .nl 35 1 ?_
 suffices H: ∀(f:Nat),f≤F→ ∀(l:List (List Nd)) (a:Nat),l.length≤a→stM ts f (.ca l) a (o+1)=some r→ALp _ _ _ _ _ ⟨dn 40 [(0,.pt 0 0),(3,.sl ((l).map nlV) (.own 1))],ofl [.box [.sl (ts.map tkV) .ro,(.im (.int .i64 ((a:Nat)))),(.im (.int .i64 ((o+1:Nat))))],.tip 35 1 (l).length]⟩ by
  refine ALp.cutP 2 [(0,.pt 0 0),(3,.sl ((([]:List (List Nd))).map nlV) (.own 1))] [.box [.sl (ts.map tkV) .ro,(.im (.int .i64 ((a0+1:Nat)))),(.im (.int .i64 ((o+1:Nat))))],.tip 35 1 (([]:List (List Nd))).length] fH ?_;exact H F (Nat.le_refl _) [] (a0+1) (Nat.zero_le _) h
 clear h
 intro f
 induction f with
 | zero=>intro _ l a _ h;cases h
 | succ f ih =>
 intro hf l a hla h
 rw[stM]at h
 have hq:=eV ts a (o+1) [99,97,115,101] hts
 refine cD ?_
 rcases aZ h with ⟨hk,h⟩|⟨hk,h⟩
 case inr =>
  rw[if_neg hk]at hq;rw[Bool.not_eq_true]at hk;rw[hk]at hq;refine wG gF TI ?_;refine aA [0] hq TI fH iZ ?_;refine goG gF TI ?_;refine wG gF TI ?_;rcases bM h with ⟨b1,e1,h1,rfl⟩|⟨_,a3,o3,h1,h⟩
  ·exact PA.callP [0] ((pU ts a (o+1) [125] hts (by omega) (by omega) _ h1).fails) TI fH iZ (fun _=>PFin.i rfl rfl)
  refine aA [0] (((pU ts a (o+1) [125] hts (by omega) (by omega) _ h1).good)) TI fH iZ ?_
  refine goG gF TI ?_;cases h
  refine wG gF TI ?_;refine aO (rs:=[.tmp 2]) rfl (by first|exact .inl rfl|exact .inr rfl) (finG gF) ?_ rfl (idG fH)
  show WkF _ _ _ (.sl (l.map nlV) .ro)
  all_goals exact wkG fH
 have hlt:=bX hk
 rw[if_pos hk,hk]at hq
 have hp:=vJ ts (a+1) (o+1)
 have hf:=nN ts (a+1) (o+1) 3
 have hn:=wJ hok (a+1)
 have hkl:=fun hh=>dQ (ts:=ts) (a:=a+1) (k:=3) hh (by decide)
 generalize pk ts (a+1)=t at hp hn h hkl
 refine wG gF TI ?_
 refine aA [0] hq TI fH iZ ?_
 refine goG gF TI ?_
 refine wG gF TI ?_
 refine aA [0] hp TI fH iZ ?_
 refine goG gF TKT ?_
 have hw1:IntKind.u64.wrap t.n=t.n:=Jo (by omega)
 have hw2:IntKind.u64.wrap (l.length:Int)=(l.length:Int):=Jo (by omega)
 by_cases k3:t.kind=3
 case neg =>
  rw[if_neg (fun hh=>k3 hh.1)]at h
  cases h
  refine wG gF (A5 TKT k3 hw1 hw2 @List.length_map.{0,0}) ?_;exact PA.callP [0] hf TI fH iZ (fun _=>PFin.i rfl rfl)
 by_cases kn:t.n=l.length
 case neg =>
  rw[if_neg (fun hh=>kn hh.2)]at h
  cases h
  refine wG gF (A6 TKT k3 kn hw1 hw2 @List.length_map.{0,0}) ?_;exact PA.callP [0] hf TI fH iZ (fun _=>PFin.i rfl rfl)
 rw[if_pos ⟨k3,kn⟩]at h
 have hlt2:=hkl k3
 have hw:=bD (m:=a+1) (N:=4194304) (by omega) (by decide)
 refine wG gF (A7 TKT k3 kn hw1 hw2 hw @List.length_map.{0,0}) ?_
 rcases bM h with ⟨b1,e1,h1,rfl⟩|⟨x,a1,o1,h1,hk2⟩
 ·exact PA.callP [0] ((hB f (by omega) (a+2) (o+1) (by omega) _ h1).fails) TI fH iZ (fun _=>PFin.i rfl rfl)
 obtain⟨hoe,hlt3,hle⟩:=(fI ts f).2.2.1 _ _ _ _ _ h1
 have hc:=(hB f (by omega) (a+2) (o+1) (by omega) _ h1).good
 change DC _ _ _ _ (nlV (x.headD [])) _ at hc
 subst hoe
 generalize x.headD []=s at hc hk2
 obtain⟨B,hB⟩: ∃B,B=l++[s]:=⟨_,rfl⟩
 have hAs:l.map nlV++[nlV s]=B.map nlV:=by rw[hB,List.map_append];rfl
 have hAl:l.length+1=B.length:=by rw[hB];simp
 have hbl:B.length*24≤140737488355328:=by omega
 have h4:stM ts f (.ca B) a1 (o+1)=some r:=by rw[hB];exact hk2
 refine aA [0] hc TI fH iZ ?_
 refine goG gF (A6 ND hAs hAl hbl pN @List.length_map.{0,0}) ?_
 refine wG gF (A6 ND hAs hAl hbl pN @List.length_map.{0,0}) ?_
 refine ALp.cutP 2 [(0,.pt 0 0),(3,.sl ((B).map nlV) (.own 1))] [.box [.sl (ts.map tkV) .ro,(.im (.int .i64 ((a1:Nat)))),(.im (.int .i64 ((o+1:Nat))))],.tip 35 1 (B).length] fH ?_
 exact ih (by omega) B a1 (by omega) h4
theorem Ko{α β γ:Type}(r:Option (Rs α))(k:α→Nat→Nat→Option (Rs β))(k2:β→Nat→Nat→Option (Rs γ)):rb (rb r k) k2=rb r fun x a o=>rb (k x a o) k2:=by
 match r with
 | none=>rfl
 | some (.bad a e)=>rfl
 | some (.ok x a o)=>rfl
theorem lS(x:List (List Nd)):stV x= .ag [.im (.int .i64 (theS x).kind),.im (.int .i64 (theS x).width),.im (.string (theS x).name),.sl ((theS x).e.map exV) .ro,.sl ((theS x).l.map ndV) .ro,.sl ((theS x).el.map ndV) .ro,.sl ((theS x).cs.map nlV) .ro]:=fN _
theorem Bv(l:List (List Nd)):liV l= .sl ((l.headD []).map ndV) .ro:=rfl
def aP:=A16 @rJ @iJ @cQ @mE @hG @fG @fM @lO @pE @pD @pC @lC @rE @gH @cN (AI @kB @dG)
def bL:=A11 aB aC @aE @aD aQ aG aV aN aW bJ Pg
def cB:=A11 aH aI @aK @aL bC aR aY bR bK bQ Re
set_option maxHeartbeats 8000000 in
theorem EL{ts:List Tk}{f:Nat}(hts:ts.length≤4194304)(hB:BrC ts f)(hC:CaC ts f):StC ts (f+1):=by
 intro a o ho r h
 have hp:=vJ ts a o
 have hf:=nN ts a o 3
 rw[stM]at h
 refine XC.enter 126 Tryz.func168 rfl (by decide) rfl rfl (s:=[(0,.pt 0 0)]) (by rfl) ?_
 refine wG aP TI ?_
 rcases aZ h with ⟨hk,h⟩|⟨hk,h⟩
 ·have hc:=AA hts a o ho r h
  generalize pk ts a=t at hp hk;refine aA [0] hp TI bL cB ?_;refine goG aP (AI TKT hk) ?_;refine wG aP (AI TKT hk) ?_;cases r with
  | bad b e1 =>
   exact PA.callP [0] hc.fails TI bL cB (fun _=>PFin.i rfl rfl)
  | ok x b p =>
   refine aA [0] hc.good TI bL cB ?_;refine goG aP LIT ?_;refine wG aP LIT ?_;refine aO (rs:=[.cell 2 165]) rfl (by first|exact .inl rfl|exact .inr rfl) (finG aP) ?_ rfl (idG bL)
   rw[lS x]
   all_goals exact wkG bL
 generalize pk ts a=t at hp hk
 refine aA [0] hp TI bL cB ?_
 refine goG aP (AI TKT hk) ?_
 refine wG aP (AI TKT hk) ?_
 clear hk hp
 have hq:=eV ts a o [103,111,116,111] hts
 rcases aZ h with ⟨hk,h⟩|⟨hk,h⟩
 ·rw[if_pos hk,hk]at hq
  refine aA [0] hq TI bL cB ?_;refine goG aP TI ?_;refine wG aP TI ?_;rcases bM h with ⟨b1,e1,h1,rfl⟩|⟨nm,a1,o1,h1,h⟩
  ·exact PA.callP [0] ((lG ts (a+1) o hts _ h1).fails) TI bL cB (fun _=>PFin.i rfl rfl)
  refine aA [0] (((lG ts (a+1) o hts _ h1).good)) TI bL cB ?_;refine goG aP TI ?_;obtain⟨_,rfl,hoe,hlt⟩:=gV h1;subst o1;clear h1;refine wG aP TI ?_;rcases bM h with ⟨b1,e1,h1,rfl⟩|⟨_,a2,o2,h1,h⟩
  ·exact PA.callP [0] ((cI ts (a+1+1) o [59] hts _ h1).fails) TI bL cB (fun _=>PFin.i rfl rfl)
  refine aA [0] (((cI ts (a+1+1) o [59] hts _ h1).good)) TI bL cB ?_;refine goG aP TI ?_;cases h
  refine wG aP TI ?_;refine aO (rs:=[.cell 2 165]) rfl (by first|exact .inl rfl|exact .inr rfl) (finG aP) ?_ rfl (idG bL)
  simp only[gJ,fO,List.map_nil]
  all_goals exact wkG bL
 rw[if_neg hk]at hq
 rw[Bool.not_eq_true]at hk
 rw[hk]at hq
 refine aA [0] hq TI bL cB ?_
 refine goG aP TI ?_
 refine wG aP TI ?_
 clear hk hq
 have hq:=eV ts a o [99,97,108,108] hts
 rcases aZ h with ⟨hk,h⟩|⟨hk,h⟩
 ·rw[if_pos hk,hk]at hq
  refine aA [0] hq TI bL cB ?_;refine goG aP TI ?_;refine wG aP TI ?_;rcases bM h with ⟨b1,e1,h1,rfl⟩|⟨nm,a1,o1,h1,h⟩
  ·exact PA.callP [0] ((lG ts (a+1) o hts _ h1).fails) TI bL cB (fun _=>PFin.i rfl rfl)
  refine aA [0] (((lG ts (a+1) o hts _ h1).good)) TI bL cB ?_;refine goG aP TI ?_;obtain⟨_,rfl,hoe,hlt⟩:=gV h1;subst o1;clear h1;refine wG aP TI ?_;rcases bM h with ⟨b1,e1,h1,rfl⟩|⟨_,a2,o2,h1,h⟩
  ·exact PA.callP [0] ((cI ts (a+1+1) o [59] hts _ h1).fails) TI bL cB (fun _=>PFin.i rfl rfl)
  refine aA [0] (((cI ts (a+1+1) o [59] hts _ h1).good)) TI bL cB ?_;refine goG aP TI ?_;cases h
  refine wG aP TI ?_;refine aO (rs:=[.cell 2 165]) rfl (by first|exact .inl rfl|exact .inr rfl) (finG aP) ?_ rfl (idG bL)
  simp only[gJ,fO,List.map_nil]
  all_goals exact wkG bL
 rw[if_neg hk]at hq
 rw[Bool.not_eq_true]at hk
 rw[hk]at hq
 refine aA [0] hq TI bL cB ?_
 refine goG aP TI ?_
 refine wG aP TI ?_
 clear hk hq
 have hq:=eV ts a o [115,116,111,114,101,49] hts
 rcases aZ h with ⟨hk,h⟩|⟨hk,h⟩
 ·rw[if_pos hk,hk]at hq
  refine aA [0] hq TI bL cB ?_;refine goG aP TI ?_;refine wG aP TI ?_;have hc:=Hz hts 1 (a+1) o ho r h;cases r with
  | bad b e1 =>
   exact PA.callP [0] hc.fails TI bL cB (fun _=>PFin.i rfl rfl)
  | ok x b p =>
   refine aA [0] hc.good TI bL cB ?_;refine goG aP LIT ?_;refine wG aP LIT ?_;refine aO (rs:=[.cell 2 165]) rfl (by first|exact .inl rfl|exact .inr rfl) (finG aP) ?_ rfl (idG bL)
   rw[lS x]
   all_goals exact wkG bL
 rw[if_neg hk]at hq
 rw[Bool.not_eq_true]at hk
 rw[hk]at hq
 refine aA [0] hq TI bL cB ?_
 refine goG aP TI ?_
 refine wG aP TI ?_
 clear hk hq
 have hq:=eV ts a o [115,116,111,114,101,50] hts
 rcases aZ h with ⟨hk,h⟩|⟨hk,h⟩
 ·rw[if_pos hk,hk]at hq
  refine aA [0] hq TI bL cB ?_;refine goG aP TI ?_;refine wG aP TI ?_;have hc:=Hz hts 2 (a+1) o ho r h;cases r with
  | bad b e1 =>
   exact PA.callP [0] hc.fails TI bL cB (fun _=>PFin.i rfl rfl)
  | ok x b p =>
   refine aA [0] hc.good TI bL cB ?_;refine goG aP LIT ?_;refine wG aP LIT ?_;refine aO (rs:=[.cell 2 165]) rfl (by first|exact .inl rfl|exact .inr rfl) (finG aP) ?_ rfl (idG bL)
   rw[lS x]
   all_goals exact wkG bL
 rw[if_neg hk]at hq
 rw[Bool.not_eq_true]at hk
 rw[hk]at hq
 refine aA [0] hq TI bL cB ?_
 refine goG aP TI ?_
 refine wG aP TI ?_
 clear hk hq
 have hq:=eV ts a o [115,116,111,114,101,52] hts
 rcases aZ h with ⟨hk,h⟩|⟨hk,h⟩
 ·rw[if_pos hk,hk]at hq
  refine aA [0] hq TI bL cB ?_;refine goG aP TI ?_;refine wG aP TI ?_;have hc:=Hz hts 4 (a+1) o ho r h;cases r with
  | bad b e1 =>
   exact PA.callP [0] hc.fails TI bL cB (fun _=>PFin.i rfl rfl)
  | ok x b p =>
   refine aA [0] hc.good TI bL cB ?_;refine goG aP LIT ?_;refine wG aP LIT ?_;refine aO (rs:=[.cell 2 165]) rfl (by first|exact .inl rfl|exact .inr rfl) (finG aP) ?_ rfl (idG bL)
   rw[lS x]
   all_goals exact wkG bL
 rw[if_neg hk]at hq
 rw[Bool.not_eq_true]at hk
 rw[hk]at hq
 refine aA [0] hq TI bL cB ?_
 refine goG aP TI ?_
 refine wG aP TI ?_
 clear hk hq
 have hq:=eV ts a o [111,117,116] hts
 rcases aZ h with ⟨hk,h⟩|⟨hk,h⟩
 ·rw[if_pos hk,hk]at hq
  refine aA [0] hq TI bL cB ?_;refine goG aP TI ?_;refine wG aP TI ?_;rcases bM h with ⟨b1,e1,h1,rfl⟩|⟨x,a1,o1,h1,h⟩
  ·exact PA.callP [0] ((uX hts f 1 (a+1) o (by decide) ho _ h1).fails) i1 bL cB (fun _=>PFin.i rfl rfl)
  refine aA [0] (((uX hts f 1 (a+1) o (by decide) ho _ h1).good)) i1 bL cB ?_
  refine goG aP BN01 ?_;obtain⟨hoe,_⟩:=dH ts _ _ _ _ _ _ _ h1;subst o1;clear h1;refine wG aP BN01 ?_;rcases bM h with ⟨b1,e1,h1,rfl⟩|⟨_,a2,o2,h1,h⟩
  ·exact PA.callP [0] ((cI ts a1 o [59] hts _ h1).fails) TI bL cB (fun _=>PFin.i rfl rfl)
  refine aA [0] (((cI ts a1 o [59] hts _ h1).good)) TI bL cB ?_;refine goG aP TI ?_;cases h
  refine wG aP BN01 ?_;refine aO (rs:=[.cell 2 165]) rfl (by first|exact .inl rfl|exact .inr rfl) (finG aP) ?_ rfl (idG bL)
  simp only[gJ,fO,List.map_nil,List.map_cons];rw[cA x]
  all_goals exact wkG bL
 rw[if_neg hk]at hq
 rw[Bool.not_eq_true]at hk
 rw[hk]at hq
 refine aA [0] hq TI bL cB ?_
 refine goG aP TI ?_
 refine wG aP TI ?_
 clear hk hq
 have hq:=eV ts a o [105,102] hts
 rcases aZ h with ⟨hk,h⟩|⟨hk,h⟩
 ·rw[if_pos hk,hk]at hq
  refine aA [0] hq TI bL cB ?_;refine goG aP TI ?_;refine wG aP TI ?_;rcases bM h with ⟨b1,e1,h1,rfl⟩|⟨x,a1,o1,h1,h⟩
  ·exact PA.callP [0] ((uX hts f 1 (a+1) o (by decide) ho _ h1).fails) i1 bL cB (fun _=>PFin.i rfl rfl)
  refine aA [0] (((uX hts f 1 (a+1) o (by decide) ho _ h1).good)) i1 bL cB ?_
  refine goG aP BN01 ?_;obtain⟨hoe,_⟩:=dH ts _ _ _ _ _ _ _ h1;subst o1;clear h1;refine wG aP BN01 ?_;rcases bM h with ⟨b1,e1,h1,rfl⟩|⟨l,a2,o2,h1,h⟩
  ·exact PA.callP [0] ((hB a1 o ho _ h1).fails) TI bL cB (fun _=>PFin.i rfl rfl)
  refine aA [0] (((hB a1 o ho _ h1).good)) TI bL cB ?_;refine goG aP LIT ?_;obtain⟨hoe,_,_⟩:=(fI ts f).2.2.1 _ _ _ _ _ h1;subst o2;clear h1;refine wG aP BN13 ?_;have hq:=eV ts a2 o [101,108,115,101] hts;rcases aZ h with ⟨hk,h⟩|⟨hk,h⟩
  ·rw[if_pos hk,hk]at hq
   refine aA [0] hq TI bL cB ?_;refine goG aP TI ?_;refine wG aP TI ?_;rcases bM h with ⟨b1,e1,h1,rfl⟩|⟨el,a3,o2,h1,h⟩
   ·exact PA.callP [0] ((hB (a2+1) o ho _ h1).fails) TI bL cB (fun _=>PFin.i rfl rfl)
   refine aA [0] (((hB (a2+1) o ho _ h1).good)) TI bL cB ?_;refine goG aP LIT ?_;obtain⟨hoe,_,_⟩:=(fI ts f).2.2.1 _ _ _ _ _ h1;subst o2;clear h1;refine wG aP BN13 ?_;cases h
   refine wG aP BN13 ?_;refine aO (rs:=[.cell 2 165]) rfl (by first|exact .inl rfl|exact .inr rfl) (finG aP) ?_ rfl (idG bL)
   simp only[gJ,fO,List.map_nil,List.map_cons,Bv];rw[cA x]
   all_goals exact wkG bL
  rw[if_neg hk]at hq;rw[Bool.not_eq_true]at hk;rw[hk]at hq;refine aA [0] hq TI bL cB ?_;refine goG aP TI ?_;cases h
  refine wG aP BN13 ?_;refine aO (rs:=[.cell 2 165]) rfl (by first|exact .inl rfl|exact .inr rfl) (finG aP) ?_ rfl (idG bL)
  simp only[gJ,fO,List.map_nil,List.map_cons,Bv];rw[cA x]
  all_goals exact wkG bL
 rw[if_neg hk]at hq
 rw[Bool.not_eq_true]at hk
 rw[hk]at hq
 refine aA [0] hq TI bL cB ?_
 refine goG aP TI ?_
 refine wG aP TI ?_
 clear hk hq
 have hq:=eV ts a o [119,104,105,108,101] hts
 rcases aZ h with ⟨hk,h⟩|⟨hk,h⟩
 ·rw[if_pos hk,hk]at hq
  refine aA [0] hq TI bL cB ?_;refine goG aP TI ?_;refine wG aP TI ?_;rcases bM h with ⟨b1,e1,h1,rfl⟩|⟨x,a1,o1,h1,h⟩
  ·exact PA.callP [0] ((uX hts f 1 (a+1) o (by decide) ho _ h1).fails) i1 bL cB (fun _=>PFin.i rfl rfl)
  refine aA [0] (((uX hts f 1 (a+1) o (by decide) ho _ h1).good)) i1 bL cB ?_
  refine goG aP BN01 ?_;obtain⟨hoe,_⟩:=dH ts _ _ _ _ _ _ _ h1;subst o1;clear h1;refine wG aP BN01 ?_;rcases bM h with ⟨b1,e1,h1,rfl⟩|⟨l,a2,o2,h1,h⟩
  ·exact PA.callP [0] ((hB a1 o ho _ h1).fails) TI bL cB (fun _=>PFin.i rfl rfl)
  refine aA [0] (((hB a1 o ho _ h1).good)) TI bL cB ?_;refine goG aP LIT ?_;obtain⟨hoe,_,_⟩:=(fI ts f).2.2.1 _ _ _ _ _ h1;subst o2;clear h1;refine wG aP BN13 ?_;cases h
  refine aO (rs:=[.cell 2 165]) rfl (by first|exact .inl rfl|exact .inr rfl) (finG aP) ?_ rfl (idG bL)
  simp only[gJ,fO,List.map_nil,List.map_cons,Bv];rw[cA x]
  all_goals exact wkG bL
 rw[if_neg hk]at hq
 rw[Bool.not_eq_true]at hk
 rw[hk]at hq
 refine aA [0] hq TI bL cB ?_
 refine goG aP TI ?_
 refine wG aP TI ?_
 clear hk hq
 have hq:=eV ts a o [108,111,111,112] hts
 rcases aZ h with ⟨hk,h⟩|⟨hk,h⟩
 ·rw[if_pos hk,hk]at hq
  refine aA [0] hq TI bL cB ?_;refine goG aP TI ?_;refine wG aP TI ?_;rcases bM h with ⟨b1,e1,h1,rfl⟩|⟨l,a2,o2,h1,h⟩
  ·exact PA.callP [0] ((hB (a+1) o ho _ h1).fails) TI bL cB (fun _=>PFin.i rfl rfl)
  refine aA [0] (((hB (a+1) o ho _ h1).good)) TI bL cB ?_;refine goG aP LIT ?_;obtain⟨hoe,_,_⟩:=(fI ts f).2.2.1 _ _ _ _ _ h1;subst o2;clear h1;refine wG aP BN13 ?_;cases h
  refine aO (rs:=[.cell 2 165]) rfl (by first|exact .inl rfl|exact .inr rfl) (finG aP) ?_ rfl (idG bL)
  simp only[gJ,fO,List.map_nil,List.map_cons,Bv]
  all_goals exact wkG bL
 rw[if_neg hk]at hq
 rw[Bool.not_eq_true]at hk
 rw[hk]at hq
 refine aA [0] hq TI bL cB ?_
 refine goG aP TI ?_
 refine wG aP TI ?_
 clear hk hq
 have hq:=eV ts a o [115,119,105,116,99,104] hts
 rcases aZ h with ⟨hk,h⟩|⟨hk,h⟩
 ·rw[if_pos hk,hk]at hq
  refine aA [0] hq TI bL cB ?_;refine goG aP TI ?_;refine wG aP TI ?_;rcases bM h with ⟨b1,e1,h1,rfl⟩|⟨x,a1,o1,h1,h⟩
  ·exact PA.callP [0] ((uX hts f 1 (a+1) o (by decide) ho _ h1).fails) i1 bL cB (fun _=>PFin.i rfl rfl)
  refine aA [0] (((uX hts f 1 (a+1) o (by decide) ho _ h1).good)) i1 bL cB ?_
  refine goG aP BN01 ?_;obtain⟨hoe,_⟩:=dH ts _ _ _ _ _ _ _ h1;subst o1;clear h1;refine wG aP BN01 ?_;rw[←Ko]at h;rcases bM h with ⟨b1,e1,h1,rfl⟩|⟨l,a2,o2,h1,h⟩
  ·exact PA.callP [0] ((hC a1 o ho _ h1).fails) TI bL cB (fun _=>PFin.i rfl rfl)
  refine aA [0] (((hC a1 o ho _ h1).good)) TI bL cB ?_;refine goG aP LIT ?_;clear h1;refine wG aP BN13 ?_;cases h
  refine aO (rs:=[.cell 2 165]) rfl (by first|exact .inl rfl|exact .inr rfl) (finG aP) ?_ rfl (idG bL)
  simp only[gJ,fO,List.map_nil,List.map_cons,caV];rw[cA x]
  all_goals exact wkG bL
 rw[if_neg hk]at hq
 rw[Bool.not_eq_true]at hk
 rw[hk]at hq
 refine aA [0] hq TI bL cB ?_
 refine goG aP TI ?_
 refine wG aP TI ?_
 clear hk hq
 have hq:=eV ts a o [98,114,101,97,107] hts
 rcases aZ h with ⟨hk,h⟩|⟨hk,h⟩
 ·rw[if_pos hk,hk]at hq
  refine aA [0] hq TI bL cB ?_;refine goG aP TI ?_;refine wG aP TI ?_;have hc:=uI hts 10 (a+1) o ho r h;cases r with
  | bad b e1 =>
   exact PA.callP [0] hc.fails TI bL cB (fun _=>PFin.i rfl rfl)
  | ok x b p =>
   refine aA [0] hc.good TI bL cB ?_;refine goG aP LIT ?_;refine wG aP LIT ?_;refine aO (rs:=[.cell 2 165]) rfl (by first|exact .inl rfl|exact .inr rfl) (finG aP) ?_ rfl (idG bL)
   rw[lS x]
   all_goals exact wkG bL
 rw[if_neg hk]at hq
 rw[Bool.not_eq_true]at hk
 rw[hk]at hq
 refine aA [0] hq TI bL cB ?_
 refine goG aP TI ?_
 refine wG aP TI ?_
 clear hk hq
 have hq:=eV ts a o [99,111,110,116,105,110,117,101] hts
 rcases aZ h with ⟨hk,h⟩|⟨hk,h⟩
 ·rw[if_pos hk,hk]at hq
  refine aA [0] hq TI bL cB ?_;refine goG aP TI ?_;refine wG aP TI ?_;have hc:=uI hts 11 (a+1) o ho r h;cases r with
  | bad b e1 =>
   exact PA.callP [0] hc.fails TI bL cB (fun _=>PFin.i rfl rfl)
  | ok x b p =>
   refine aA [0] hc.good TI bL cB ?_;refine goG aP LIT ?_;refine wG aP LIT ?_;refine aO (rs:=[.cell 2 165]) rfl (by first|exact .inl rfl|exact .inr rfl) (finG aP) ?_ rfl (idG bL)
   rw[lS x]
   all_goals exact wkG bL
 rw[if_neg hk]at hq
 rw[Bool.not_eq_true]at hk
 rw[hk]at hq
 refine aA [0] hq TI bL cB ?_
 refine goG aP TI ?_
 refine wG aP TI ?_
 clear hk hq
 have hq:=eV ts a o [114,101,116,117,114,110] hts
 rcases aZ h with ⟨hk,h⟩|⟨hk,h⟩
 ·rw[if_pos hk,hk]at hq
  refine aA [0] hq TI bL cB ?_;refine goG aP TI ?_;refine wG aP TI ?_;have hc:=uI hts 14 (a+1) o ho r h;cases r with
  | bad b e1 =>
   exact PA.callP [0] hc.fails TI bL cB (fun _=>PFin.i rfl rfl)
  | ok x b p =>
   refine aA [0] hc.good TI bL cB ?_;refine goG aP LIT ?_;refine wG aP LIT ?_;refine aO (rs:=[.cell 2 165]) rfl (by first|exact .inl rfl|exact .inr rfl) (finG aP) ?_ rfl (idG bL)
   rw[lS x]
   all_goals exact wkG bL
 rw[if_neg hk]at hq
 rw[Bool.not_eq_true]at hk
 rw[hk]at hq
 refine aA [0] hq TI bL cB ?_
 refine goG aP TI ?_
 refine wG aP TI ?_
 clear hk hq
 have hq:=eV ts a o [104,97,108,116] hts
 rcases aZ h with ⟨hk,h⟩|⟨hk,h⟩
 ·rw[if_pos hk,hk]at hq
  refine aA [0] hq TI bL cB ?_;refine goG aP TI ?_;refine wG aP TI ?_;have hc:=uI hts 15 (a+1) o ho r h;cases r with
  | bad b e1 =>
   exact PA.callP [0] hc.fails TI bL cB (fun _=>PFin.i rfl rfl)
  | ok x b p =>
   refine aA [0] hc.good TI bL cB ?_;refine goG aP LIT ?_;refine wG aP LIT ?_;refine aO (rs:=[.cell 2 165]) rfl (by first|exact .inl rfl|exact .inr rfl) (finG aP) ?_ rfl (idG bL)
   rw[lS x]
   all_goals exact wkG bL
 rw[if_neg hk]at hq
 rw[Bool.not_eq_true]at hk
 rw[hk]at hq
 refine aA [0] hq TI bL cB ?_
 refine goG aP TI ?_
 refine wG aP TI ?_
 clear hk hq
 cases h
 exact PA.callP [0] hf TI bL cB (fun _=>PFin.i rfl rfl)
theorem LZ{ts:List Tk}(hts:ts.length≤4194304)(hok: ∀t∈ts,TkOk t): ∀F f,f≤F→StC ts f∧BrC ts f:=by
 intro F
 induction F with
 | zero =>
  intro f hf;obtain rfl:f=0:=by omega
  exact⟨(fun a o _ r h=>by cases h),(fun a o _ r h=>by cases h)⟩
 | succ F ih =>
  intro f hf
  by_cases hle:f≤F
  ·exact ih f hle
  obtain rfl:f=F+1:=by omega
  exact⟨EL hts (ih F (Nat.le_refl _)).2 (FE hts hok F fun f hf=>(ih f (by omega)).2),AP hts F (AB hts F fun f hf=>(ih f (by omega)).1)⟩
theorem GO{ts:List Tk}(hts:ts.length≤4194304)(hok: ∀t∈ts,TkOk t)(F:Nat):LiC ts F:=AB hts F fun f _=>(LZ hts hok F f (by omega)).1
end Go.Proofs.YtmbmmckagcdapaaGreatDoor
