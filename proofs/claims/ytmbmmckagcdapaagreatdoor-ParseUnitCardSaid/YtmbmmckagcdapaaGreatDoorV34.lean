import Derived.Test.YtmbmmckagcdapaaGreatDoorV09
import Derived.Test.YtmbmmckagcdapaaGreatDoorV33
import Derived.Test.YtmbmmckagcdapaaGreatDoorV24
set_option linter.all false
namespace Go.Proofs.YtmbmmckagcdapaaGreatDoor
open Go.RowKit
theorem yH(v:Bs):(sV v).live=true:=rfl
theorem yG(v:Bs):(sV v).size=1:=rfl
theorem yI(v:Bs):(sV v).isAg=false:=rfl
theorem yJ(v:Bs):(sV v).firm=true:=rfl
theorem vH(g:Bool)(v:Bs):strip g (sV v)=sV v:=rfl
theorem vI(t:Bs):(sV t).cells=[.im (.string ⟨(t).toArray⟩)]:=rfl
theorem aW(p:Nat→Bool)(l:List Bs):V.idsL p (l.map sV)=true:=iJ (fun _=>rfl) l
theorem cD(g:Nat→Nat)(l:List Bs):V.renL g (l.map sV)=l.map sV:=V.renL_id g _ (aW _ l)
def tT(l:List Tk)(k:Int):Int×Int:=if k<0 then(1,1)else match l[min k.toNat (l.length-1)]? with
 | some t=>(t.line,t.col)
 | none=>(1,1)
def uD:=A8 @tO @cJ @nC @uP @Gy @Gx @kH @cH
theorem Gc(l:List Tk)(k:Int)(hl:l.length≤4194304):PC Tryz.prog 64 [.sl (l.map tkV) .ro,(.im (.int .i64 (k)))] (.tu [(.im (.int .i64 ((tT l k).1))),(.im (.int .i64 ((tT l k).2)))]):=by
 by_cases h0:k<0
 ·rw[show tT l k=(1,1)from if_pos h0]
  refine pcEnt 26 Tryz.func64 rfl [(0,.sl (l.map tkV) .ro),(1,(.im (.int .i64 (k))))] ?_
  refine wG uD (AI TKT h0) ?_;refine fiGenO [.tmp 4,.tmp 5] (finG uD) ?_
  all_goals exact wkG (A4 aC aB aH aW)
 cases hE:l with
 | nil =>
  rw[show tT [] k=(1,1) by unfold tT;split<;>rfl]
  refine pcEnt 26 Tryz.func64 rfl [(0,.sl (([]:List Tk).map tkV) .ro),(1,(.im (.int .i64 (k))))] ?_
  refine wG uD (AI TKT h0) ?_;refine fiGenO [.tmp 4,.tmp 5] (finG uD) ?_
  all_goals exact wkG (A4 aC aB aH aW)
 | cons x r =>
 rw[←hE]
 have hpos:1≤l.length:=by rw[hE];simp
 clear hE
 have hne: ¬(l.length:Int)=0:=by omega
 have hw:IntKind.i64.wrap ((l.length:Int)-1)=((l.length-1:Nat):Int):=by rw[cI (by omega)];omega
 obtain⟨j,hj⟩: ∃j,j=min k.toNat (l.length-1):=⟨_,rfl⟩
 have hjl:j<l.length:=by omega
 have hg:l[j]? =some l[j]:=List.getElem?_eq_getElem hjl
 have hR:tT l k=(l[j].line,l[j].col):=by
  unfold tT;rw[if_neg h0,←hj,hg]
 rw[hR]
 clear hR
 generalize l[j]=t at hg
 have hmin:(if((l.length-1:Nat):Int)<k then((l.length-1:Nat):Int)else k)=(j:Int):=by split<;>omega
 refine pcEnt 26 Tryz.func64 rfl [(0,.sl (l.map tkV) .ro),(1,(.im (.int .i64 (k))))] ?_
 refine wG uD (A3 TKT h0 hne) ?_
 refine wdG uD (A7 TKT h0 hne hw hg hmin @Int.toNat_natCast) ?_
 refine fiGenO [.tmp 4,.tmp 5] (finG uD) ?_
 all_goals exact wkG (A4 aC aB aH aW)
end Go.Proofs.YtmbmmckagcdapaaGreatDoor
