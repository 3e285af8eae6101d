import Derived.Test.YtmbmmckagcdapaaGreatDoorQ13
import Derived.Test.YtmbmmckagcdapaaGreatDoorQ06
set_option linter.all false
namespace Go.Proofs.YtmbmmckagcdapaaGreatDoor
open Go.RowKit
theorem dB(l:Bs):(ByteArray.mk l.toArray).size=l.length:=by simp[ByteArray.size]
theorem Kv(l:Bs):(ByteArray.mk l.toArray).toList=l:=by rw[ByteArray.toList_eq]
theorem Wb(l:Bs)(i:Nat):(ByteArray.mk l.toArray)[i]? =l[i]? :=by
 simp only[getElem?_def,ByteArray.size,List.size_toArray]
 split
 ·simp[ByteArray.getElem_eq_getElem_data]
 ·rfl
theorem Bv(a b:Bs):ByteArray.mk a.toArray++ByteArray.mk b.toArray=ByteArray.mk (a++b).toArray:=by
 apply ByteArray.ext
 simp[ByteArray.data_append]
theorem Hg(l:Bs)(i j:Nat):(ByteArray.mk l.toArray).extract i j=ByteArray.mk ((l.drop i).take (j-i)).toArray:=by
 apply ByteArray.ext
 apply Array.toList_inj.1
 simp[ByteArray.data_extract]
def byB(b:UInt8):V:= .im (.int .u8 b.toNat)
theorem Nj(l:Bs):byV (ByteArray.mk l.toArray)=l.map byB:=by simp[byV,byB]
theorem nU(l:Bs):bytesOf (l.map byB)=some l:=by
 induction l with
 | nil=>rfl
 | cons c l ih =>
  have hc:=c.toNat_lt;simp only[List.map_cons,byB,bytesOf];rw[if_pos ⟨by omega,by omega⟩,show bytesOf (List.map byB l)=some l from ih]
  simp
theorem Si(b:UInt8):(byB b).live=true:=rfl
theorem Sh(b:UInt8):(byB b).size=1:=rfl
theorem Sj(b:UInt8):(byB b).isAg=false:=rfl
theorem Kt(b:UInt8):(byB b).cells=[.im (.int .u8 b.toNat)]:=rfl
theorem Sk(b:UInt8):(byB b).firm=true:=rfl
theorem Ks(g:Bool)(b:UInt8):strip g (byB b)=byB b:=rfl
theorem aC(p:Nat→Bool)(l:Bs):V.idsL p (l.map byB)=true:=gH (fun _=>rfl) l
theorem cH(g:Nat→Nat)(l:Bs):V.renL g (l.map byB)=l.map byB:=V.renL_id g _ (aC _ l)
def tkV(t:Tk):V:= .ag [.im (.int .i64 t.kind),.im (.string ⟨t.text.toArray⟩),.im (.int .u32 t.n),.im (.int .i64 t.line),.im (.int .i64 t.col)]
theorem Pd(v:Tk):(tkV v).live=true:=rfl
theorem Pc(v:Tk):(tkV v).size=5:=rfl
theorem Pe(v:Tk):(tkV v).isAg=true:=rfl
theorem Pf(v:Tk):(tkV v).firm=true:=rfl
theorem Jd(g:Bool)(v:Tk):strip g (tkV v)=tkV v:=rfl
theorem Je(t:Tk):(tkV t).cells=[.im (.int .i64 t.kind),.im (.string ⟨t.text.toArray⟩),.im (.int .u32 t.n),.im (.int .i64 t.line),.im (.int .i64 t.col)]:=rfl
theorem aX(p:Nat→Bool)(v:Tk):(tkV v).ids p=true:=rfl
theorem bC(p:Nat→Bool)(l:List Tk):V.idsL p (l.map tkV)=true:=gH (aX p) l
theorem fE(g:Nat→Nat)(t:Tk):V.ren g (tkV t)=tkV t:=V.ren_id g _ (aX _ t)
theorem fF(g:Nat→Nat)(l:List Tk):V.renL g (l.map tkV)=l.map tkV:=V.renL_id g _ (bC _ l)
theorem BY:type_of%(A15 @dB @Kv @Wb @Hg @Nj @nU @Si @Sh @Sj @Kt @Sk @Ks @List.getElem?_map.{0,0} @List.length_map.{0,0} @Int.natCast_nonneg) :=
 A15 @dB @Kv @Wb @Hg @Nj @nU @Si @Sh @Sj @Kt @Sk @Ks @List.getElem?_map.{0,0} @List.length_map.{0,0} @Int.natCast_nonneg
theorem TKT:type_of%(A9 @Pf @Jd @Pd @Pc @Pe @Je @List.getElem?_map.{0,0} @List.length_map.{0,0} @Int.natCast_nonneg) :=
 A9 @Pf @Jd @Pd @Pc @Pe @Je @List.getElem?_map.{0,0} @List.length_map.{0,0} @Int.natCast_nonneg
def GDS:=A8 @Option.getD_none.{0} @Option.getD_some.{0} Int.toNat_natCast Int.toNat_zero Nat.sub_zero @List.drop_zero.{0} Int.natCast_nonneg Int.le_refl
end Go.Proofs.YtmbmmckagcdapaaGreatDoor
