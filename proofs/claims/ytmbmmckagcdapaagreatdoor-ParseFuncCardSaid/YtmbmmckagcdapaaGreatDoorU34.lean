import Derived.Test.YtmbmmckagcdapaaGreatDoorU10
import Derived.Test.YtmbmmckagcdapaaGreatDoorU09
import Derived.Test.YtmbmmckagcdapaaGreatDoorU14
import Derived.Test.YtmbmmckagcdapaaGreatDoorU33
import Derived.Test.YtmbmmckagcdapaaGreatDoorU24
import Derived.Test.YtmbmmckagcdapaaGreatDoorU17
import Derived.Lib.SmallJoins
import Derived.Test.YtmbmmckagcdapaaGreatDoorU07
set_option linter.all false
namespace Go.Proofs.YtmbmmckagcdapaaGreatDoor
open Go.RowKit
theorem wB(v:Bs):(sV v).live=true:=rfl
theorem wA(v:Bs):(sV v).size=1:=rfl
theorem wC(v:Bs):(sV v).isAg=false:=rfl
theorem wD(v:Bs):(sV v).firm=true:=rfl
theorem tE(g:Bool)(v:Bs):strip g (sV v)=sV v:=rfl
theorem tF(t:Bs):(sV t).cells=[.im (.string ⟨(t).toArray⟩)]:=rfl
theorem aT(p:Nat→Bool)(l:List Bs):V.idsL p (l.map sV)=true:=gY (fun _=>rfl) l
theorem bY(g:Nat→Nat)(l:List Bs):V.renL g (l.map sV)=l.map sV:=V.renL_id g _ (aT _ l)
def Hi(l:List Tk)(k:Int):Int×Int:=if k<0 then(1,1)else match l[min k.toNat (l.length-1)]? with
 | some t=>(t.line,t.col)
 | none=>(1,1)
def rZ:=A8 @rK @cQ @lD @qA @Dq @Dp @iI @cN
theorem Da(l:List Tk)(k:Int)(hl:l.length≤4194304):PC Tryz.prog 64 [.sl (l.map tkV) .ro,(.im (.int .i64 (k)))] (.tu [(.im (.int .i64 ((Hi l k).1))),(.im (.int .i64 ((Hi l k).2)))]):=by
 by_cases h0:k<0
 ·rw[show Hi l k=(1,1)from if_pos h0]
  refine PC.enter 26 Tryz.func64 rfl (by decide) rfl rfl (s:=[(0,.sl (l.map tkV) .ro),(1,(.im (.int .i64 (k))))]) (by rfl) ?_
  refine wG rZ (AI TKT h0) ?_;refine aJ (rs:=[.tmp 4,.tmp 5]) rfl (by first|exact .inl rfl|exact .inr rfl) (finG rZ) ?_
  all_goals exact wkG (A4 aC aB aF aT)
 cases hE:l with
 | nil =>
  rw[show Hi [] k=(1,1) by unfold Hi;split<;>rfl]
  refine PC.enter 26 Tryz.func64 rfl (by decide) rfl rfl (s:=[(0,.sl (([]:List Tk).map tkV) .ro),(1,(.im (.int .i64 (k))))]) (by rfl) ?_
  refine wG rZ (AI TKT h0) ?_;refine aJ (rs:=[.tmp 4,.tmp 5]) rfl (by first|exact .inl rfl|exact .inr rfl) (finG rZ) ?_
  all_goals exact wkG (A4 aC aB aF aT)
 | cons x r =>
 rw[←hE]
 have hpos:1≤l.length:=by rw[hE];simp
 clear hE
 have hne: ¬(l.length:Int)=0:=by omega
 have hw:IntKind.i64.wrap ((l.length:Int)-1)=((l.length-1:Nat):Int):=by rw[cM (by omega)];omega
 obtain⟨j,hj⟩: ∃j,j=min k.toNat (l.length-1):=⟨_,rfl⟩
 have hjl:j<l.length:=by omega
 have hg:l[j]? =some l[j]:=List.getElem?_eq_getElem hjl
 have hR:Hi l k=(l[j].line,l[j].col):=by
  unfold Hi;rw[if_neg h0,←hj,hg]
 rw[hR]
 clear hR
 generalize l[j]=t at hg
 have hmin:(if((l.length-1:Nat):Int)<k then((l.length-1:Nat):Int)else k)=(j:Int):=by split<;>omega
 refine PC.enter 26 Tryz.func64 rfl (by decide) rfl rfl (s:=[(0,.sl (l.map tkV) .ro),(1,(.im (.int .i64 (k))))]) (by rfl) ?_
 refine wG rZ (A3 TKT h0 hne) ?_
 refine wdG rZ (A7 TKT h0 hne hw hg hmin @Int.toNat_natCast) ?_
 refine aJ (rs:=[.tmp 4,.tmp 5]) rfl (by first|exact .inl rfl|exact .inr rfl) (finG rZ) ?_
 all_goals exact wkG (A4 aC aB aF aT)
end Go.Proofs.YtmbmmckagcdapaaGreatDoor
