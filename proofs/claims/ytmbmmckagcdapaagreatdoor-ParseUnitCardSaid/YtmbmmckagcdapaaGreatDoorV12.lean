import Derived.Test.YtmbmmckagcdapaaGreatDoorV10
import Derived.Test.YtmbmmckagcdapaaGreatDoorV05
set_option maxHeartbeats 2000000
set_option linter.all false
namespace Go.Proofs.YtmbmmckagcdapaaGreatDoor
open Go.RowKit
theorem jH(l:Bs):(ByteArray.mk l.toArray).size=l.length:=by simp[ByteArray.size]
theorem Jm(l:Bs):(ByteArray.mk l.toArray).toList=l:=by rw[ByteArray.toList_eq]
theorem Sk(l:Bs)(i:Nat):(ByteArray.mk l.toArray)[i]? =l[i]? :=by
 simp only[getElem?_def,ByteArray.size,List.size_toArray]
 split
 ·simp[ByteArray.getElem_eq_getElem_data]
 ·rfl
theorem Jn(a b:Bs):ByteArray.mk a.toArray++ByteArray.mk b.toArray=ByteArray.mk (a++b).toArray:=by
 apply ByteArray.ext
 simp[ByteArray.data_append]
theorem Gd(l:Bs)(i j:Nat):(ByteArray.mk l.toArray).extract i j=ByteArray.mk ((l.drop i).take (j-i)).toArray:=by
 apply ByteArray.ext
 apply Array.toList_inj.1
 simp[ByteArray.data_extract]
def byB(b:UInt8):V:= .im (.int .u8 b.toNat)
theorem EK(l:Bs):byV (ByteArray.mk l.toArray)=l.map byB:=by simp[byV,byB]
theorem pJ(l:Bs):oB (l.map byB)=some l:=by
 induction l with
 | nil=>rfl
 | cons c l ih =>
  have hc:=c.toNat_lt;simp only[List.map_cons,byB,oB];rw[if_pos ⟨by omega,by omega⟩,show oB (List.map byB l)=some l from ih]
  simp
theorem Pi(b:UInt8):(byB b).live=true:=rfl
theorem Ph(b:UInt8):(byB b).size=1:=rfl
theorem Pj(b:UInt8):(byB b).isAg=false:=rfl
theorem Jl(b:UInt8):(byB b).cells=[.im (.int .u8 b.toNat)]:=rfl
theorem Pk(b:UInt8):(byB b).firm=true:=rfl
theorem Jk(g:Bool)(b:UInt8):strip g (byB b)=byB b:=rfl
theorem aH(p:Nat→Bool)(l:Bs):V.idsL p (l.map byB)=true:=iJ (fun _=>rfl) l
theorem oC(g:Nat→Nat)(l:Bs):V.renL g (l.map byB)=l.map byB:=V.renL_id g _ (aH _ l)
def tkV(t:Tk):V:= .ag [.im (.int .i64 t.kind),.im (.string ⟨t.text.toArray⟩),.im (.int .u32 t.n),.im (.int .i64 t.line),.im (.int .i64 t.col)]
theorem Ml(v:Tk):(tkV v).live=true:=rfl
theorem Mk(v:Tk):(tkV v).size=5:=rfl
theorem Mm(v:Tk):(tkV v).isAg=true:=rfl
theorem Mn(v:Tk):(tkV v).firm=true:=rfl
theorem Hw(g:Bool)(v:Tk):strip g (tkV v)=tkV v:=rfl
theorem Hx(t:Tk):(tkV t).cells=[.im (.int .i64 t.kind),.im (.string ⟨t.text.toArray⟩),.im (.int .u32 t.n),.im (.int .i64 t.line),.im (.int .i64 t.col)]:=rfl
theorem aB(p:Nat→Bool)(v:Tk):(tkV v).ids p=true:=rfl
theorem aC(p:Nat→Bool)(l:List Tk):V.idsL p (l.map tkV)=true:=iJ (aB p) l
theorem aI(g:Nat→Nat)(t:Tk):V.ren g (tkV t)=tkV t:=V.ren_id g _ (aB _ t)
theorem aJ(g:Nat→Nat)(l:List Tk):V.renL g (l.map tkV)=l.map tkV:=V.renL_id g _ (aC _ l)
theorem BY:type_of%(A15 @jH @Jm @Sk @Gd @EK @pJ @Pi @Ph @Pj @Jl @Pk @Jk @List.getElem?_map.{0,0} @List.length_map.{0,0} @Int.natCast_nonneg) :=
 A15 @jH @Jm @Sk @Gd @EK @pJ @Pi @Ph @Pj @Jl @Pk @Jk @List.getElem?_map.{0,0} @List.length_map.{0,0} @Int.natCast_nonneg
theorem TKT:type_of%(A9 @Mn @Hw @Ml @Mk @Mm @Hx @List.getElem?_map.{0,0} @List.length_map.{0,0} @Int.natCast_nonneg) :=
 A9 @Mn @Hw @Ml @Mk @Mm @Hx @List.getElem?_map.{0,0} @List.length_map.{0,0} @Int.natCast_nonneg
def GDS:=A8 @Option.getD_none.{0} @Option.getD_some.{0} Int.toNat_natCast Int.toNat_zero Nat.sub_zero @List.drop_zero.{0} Int.natCast_nonneg Int.le_refl
def lU:=A15 @Ad @qE @oK @gR @tN @qD @oJ @nJ @lB @mQ @jO @lM @qB @mO @gO
theorem Xp: ∀(t:Ty),fit t→ ∀(n:Int),I64 n→PC Tryz.prog 157 [tyV t,(.im (.int .i64 (n)))] (.im (.bool (shal t n))):=by
 refine Ty.induct fun o k s c es fs hE hF=> ?_
 intro hfit n hn
 unfold I64 at hn
 obtain⟨hl1,hl2,hfE,hfF⟩:=oA hfit
 refine pcEnt 38 Tryz.func157 rfl [(0,tyV (.mk o k s c es fs)),(1,(.im (.int .i64 (n))))] ?_
 simp only[fQ]
 by_cases h1:n<1
 ·have hr:shal (.mk o k s c es fs) n=false:=by
   rw[rH];have:decide (1≤n)=false:=by simp;omega
   simp[this]
  rw[hr];refine wG lU h1 ?_;exact aD
 ·have hn1:IntKind.i64.wrap (n-1)=n-1:=cI (by omega)
  refine wG lU h1 ?_;refine aT ?_;refine ALp.cutP 1 [(0,.ag [.im (.int .i64 k),.im (.int .i64 s),.im (.int .i64 c),.sl (es.map tyV) .ro,.sl (fs.map fdV) .ro]),(1,(.im (.int .i64 (n)))),(2,.pt 0 0),(4,.im (.bool false)),(12,.sl (es.map tyV) .ro),(13,(.im (.int .i64 (es.length)))),(14,(.im (.int .i64 (0))))] [.box [.im (.int .i64 k),.im (.int .i64 s),.im (.int .i64 c),.sl (es.map tyV) .ro,.sl (fs.map fdV) .ro]] TI ?_;refine ALp.upto es.length (AllTo (fun t=>shal t (n-1)) es) (fun m=>⟨dn 38 [(0,.ag [.im (.int .i64 k),.im (.int .i64 s),.im (.int .i64 c),.sl (es.map tyV) .ro,.sl (fs.map fdV) .ro]),(1,(.im (.int .i64 (n)))),(2,.pt 0 0),(4,.im (.bool false)),(12,.sl (es.map tyV) .ro),(13,(.im (.int .i64 (es.length)))),(14,(.im (.int .i64 (m))))],ofl [.box [.im (.int .i64 k),.im (.int .i64 s),.im (.int .i64 c),.sl (es.map tyV) .ro,.sl (fs.map fdV) .ro]]⟩) ?_ 0 (Nat.zero_le _) (AllTo.zero _ _)
  intro m hm hI hnext
  by_cases hlt:m<es.length
  ·have hlt':(m:Int)<(es.length:Int):=by omega
   have hg:=bJ hlt;have hm1:=aQ hlt (by omega)
   have hc:=hE es[m] (List.getElem_mem hlt) (hfE _ (List.getElem_mem hlt)) (n-1) (by unfold I64;omega)
   refine wG lU (A16 @dU @dX @cX @cZ @dS @dR @dT @cY @dP @dO @dW @dA @List.getElem?_map.{0,0} @Int.natCast_nonneg hlt' (A3 hg hn1 hm1)) ?_;refine AR.callP hc @cW TI ?_
   by_cases hsh:shal es[m] (n-1)=true
   ·refine goG lU hsh ?_
    refine wG lU hm1 ?_;refine ALp.cutP 1 [(0,.ag [.im (.int .i64 k),.im (.int .i64 s),.im (.int .i64 c),.sl (es.map tyV) .ro,.sl (fs.map fdV) .ro]),(1,(.im (.int .i64 (n)))),(2,.pt 0 0),(4,.im (.bool false)),(12,.sl (es.map tyV) .ro),(13,(.im (.int .i64 (es.length)))),(14,(.im (.int .i64 (((m+1:Nat):Int)))))] [.box [.im (.int .i64 k),.im (.int .i64 s),.im (.int .i64 c),.sl (es.map tyV) .ro,.sl (fs.map fdV) .ro]] TI ?_;exact hnext (m+1) (by omega) (by omega) (hI.succ hlt hsh)
   ·have hsh:shal es[m] (n-1)=false:=by simpa using hsh
    refine goG lU hsh ?_;refine wG lU hm1 ?_;rw[rH,eR hlt hsh];simp only[Bool.and_false,Bool.false_and];exact aD
  ·have hall1:=hI.done (by omega)
   have hlt': ¬(m:Int)<(es.length:Int):=by omega
   clear hnext hI hm hlt;refine wG lU hlt' ?_;clear hlt';refine aT ?_;refine ALp.cutP 1 [(0,.ag [.im (.int .i64 k),.im (.int .i64 s),.im (.int .i64 c),.sl (es.map tyV) .ro,.sl (fs.map fdV) .ro]),(1,(.im (.int .i64 (n)))),(2,.pt 0 0),(4,.im (.bool false)),(25,.sl (fs.map fdV) .ro),(26,(.im (.int .i64 (fs.length)))),(27,(.im (.int .i64 (0))))] [.box [.im (.int .i64 k),.im (.int .i64 s),.im (.int .i64 c),.sl (es.map tyV) .ro,.sl (fs.map fdV) .ro]] TI ?_;refine ALp.upto fs.length (AllTo (fun t=>shal t (n-1)) fs) (fun m=>⟨dn 38 [(0,.ag [.im (.int .i64 k),.im (.int .i64 s),.im (.int .i64 c),.sl (es.map tyV) .ro,.sl (fs.map fdV) .ro]),(1,(.im (.int .i64 (n)))),(2,.pt 0 0),(4,.im (.bool false)),(25,.sl (fs.map fdV) .ro),(26,(.im (.int .i64 (fs.length)))),(27,(.im (.int .i64 (m))))],ofl [.box [.im (.int .i64 k),.im (.int .i64 s),.im (.int .i64 c),.sl (es.map tyV) .ro,.sl (fs.map fdV) .ro]]⟩) ?_ 0 (Nat.zero_le _) (AllTo.zero _ _)
   intro m hm hI hnext
   by_cases hlt:m<fs.length
   ·have hlt':(m:Int)<(fs.length:Int):=by omega
    have hg:=bJ hlt;have hm1:=aQ hlt (by omega)
    have hc:=hF fs[m] (List.getElem_mem hlt) (hfF _ (List.getElem_mem hlt)) (n-1) (by unfold I64;omega)
    refine wG lU (A16 @dU @dX @cX @cZ @dS @dR @dT @cY @dP @dO @dW @dA @List.getElem?_map.{0,0} @Int.natCast_nonneg hlt' (A3 hg hn1 hm1)) ?_;refine AR.callP hc @cW TI ?_
    by_cases hsh:shal fs[m] (n-1)=true
    ·refine goG lU hsh ?_
     refine wG lU hm1 ?_;refine ALp.cutP 1 [(0,.ag [.im (.int .i64 k),.im (.int .i64 s),.im (.int .i64 c),.sl (es.map tyV) .ro,.sl (fs.map fdV) .ro]),(1,(.im (.int .i64 (n)))),(2,.pt 0 0),(4,.im (.bool false)),(25,.sl (fs.map fdV) .ro),(26,(.im (.int .i64 (fs.length)))),(27,(.im (.int .i64 (((m+1:Nat):Int)))))] [.box [.im (.int .i64 k),.im (.int .i64 s),.im (.int .i64 c),.sl (es.map tyV) .ro,.sl (fs.map fdV) .ro]] TI ?_;exact hnext (m+1) (by omega) (by omega) (hI.succ hlt hsh)
    ·have hsh:shal fs[m] (n-1)=false:=by simpa using hsh
     refine goG lU hsh ?_;refine wG lU hm1 ?_;rw[rH,eR hlt hsh];simp only[Bool.and_false];exact aD
   ·have hall2:=hI.done (by omega)
    have hlt': ¬(m:Int)<(fs.length:Int):=by omega
    clear hnext hI hm hlt;refine wG lU hlt' ?_;rw[rH,hall1,hall2];have:decide (1≤n)=true:=by simp;omega
    rw[this];simp only[Bool.and_self];exact aD
def lS:=A12 @qE @oK @gR @oJ @nJ @lB @mQ @jO @lM @qB @mO @gO
theorem DT: ∀(t:Ty),fit t→ ∀(n:Int),I64 n→PC Tryz.prog 228 [tyV t,(.im (.int .i64 (n)))] (.im (.bool (!shal t n))):=by
 refine Ty.induct fun o k s c es fs hE hF=> ?_
 intro hfit n hn
 unfold I64 at hn
 obtain⟨hl1,hl2,hfE,hfF⟩:=oA hfit
 refine pcEnt 40 Tryz.func228 rfl [(0,tyV (.mk o k s c es fs)),(1,(.im (.int .i64 (n))))] ?_
 simp only[fQ]
 by_cases h1:n<1
 ·have hr:shal (.mk o k s c es fs) n=false:=by
   rw[rH];have:decide (1≤n)=false:=by simp;omega
   simp[this]
  rw[hr];refine wG lS h1 ?_;exact aD
 ·have hn1:IntKind.i64.wrap (n-1)=n-1:=cI (by omega)
  refine wG lS h1 ?_;refine aT ?_;refine ALp.cutP 1 [(0,.ag [.im (.int .i64 k),.im (.int .i64 s),.im (.int .i64 c),.sl (es.map tyV) .ro,.sl (fs.map fdV) .ro]),(1,(.im (.int .i64 (n)))),(2,.pt 0 0),(4,.im (.bool false)),(5,(.im (.int .i64 (0))))] [.box [.im (.int .i64 k),.im (.int .i64 s),.im (.int .i64 c),.sl (es.map tyV) .ro,.sl (fs.map fdV) .ro]] TI ?_;refine ALp.upto es.length (AllTo (fun t=>shal t (n-1)) es) (fun m=>⟨dn 40 [(0,.ag [.im (.int .i64 k),.im (.int .i64 s),.im (.int .i64 c),.sl (es.map tyV) .ro,.sl (fs.map fdV) .ro]),(1,(.im (.int .i64 (n)))),(2,.pt 0 0),(4,.im (.bool false)),(5,(.im (.int .i64 (m))))],ofl [.box [.im (.int .i64 k),.im (.int .i64 s),.im (.int .i64 c),.sl (es.map tyV) .ro,.sl (fs.map fdV) .ro]]⟩) ?_ 0 (Nat.zero_le _) (AllTo.zero _ _)
  intro m hm hI hnext
  by_cases hlt:m<es.length
  ·have hlt':(m:Int)<(es.length:Int):=by omega
   have hg:=bJ hlt;have hm1:=aQ hlt (by omega)
   have hc:=hE es[m] (List.getElem_mem hlt) (hfE _ (List.getElem_mem hlt)) (n-1) (by unfold I64;omega)
   refine wG lS (A16 @dU @dX @cX @cZ @dS @dR @dT @cY @dP @dO @dW @dA @List.getElem?_map.{0,0} @Int.natCast_nonneg hlt' (A3 hg hn1 hm1)) ?_;refine AR.callP hc TI TI ?_
   by_cases hsh:shal es[m] (n-1)=true
   ·refine goG lS hsh ?_
    refine wG lS hm1 ?_;refine ALp.cutP 1 [(0,.ag [.im (.int .i64 k),.im (.int .i64 s),.im (.int .i64 c),.sl (es.map tyV) .ro,.sl (fs.map fdV) .ro]),(1,(.im (.int .i64 (n)))),(2,.pt 0 0),(4,.im (.bool false)),(5,(.im (.int .i64 (((m+1:Nat):Int)))))] [.box [.im (.int .i64 k),.im (.int .i64 s),.im (.int .i64 c),.sl (es.map tyV) .ro,.sl (fs.map fdV) .ro]] TI ?_;exact hnext (m+1) (by omega) (by omega) (hI.succ hlt hsh)
   ·have hsh:shal es[m] (n-1)=false:=by simpa using hsh
    refine goG lS hsh ?_;refine wG lS hm1 ?_;rw[rH,eR hlt hsh];simp only[Bool.and_false,Bool.false_and];exact aD
  ·have hall1:=hI.done (by omega)
   have hlt': ¬(m:Int)<(es.length:Int):=by omega
   clear hnext hI hm hlt;refine wG lS hlt' ?_;clear hlt';refine aT ?_;refine ALp.cutP 1 [(0,.ag [.im (.int .i64 k),.im (.int .i64 s),.im (.int .i64 c),.sl (es.map tyV) .ro,.sl (fs.map fdV) .ro]),(1,(.im (.int .i64 (n)))),(2,.pt 0 0),(4,.im (.bool false)),(6,(.im (.int .i64 (0))))] [.box [.im (.int .i64 k),.im (.int .i64 s),.im (.int .i64 c),.sl (es.map tyV) .ro,.sl (fs.map fdV) .ro]] TI ?_;refine ALp.upto fs.length (AllTo (fun t=>shal t (n-1)) fs) (fun m=>⟨dn 40 [(0,.ag [.im (.int .i64 k),.im (.int .i64 s),.im (.int .i64 c),.sl (es.map tyV) .ro,.sl (fs.map fdV) .ro]),(1,(.im (.int .i64 (n)))),(2,.pt 0 0),(4,.im (.bool false)),(6,(.im (.int .i64 (m))))],ofl [.box [.im (.int .i64 k),.im (.int .i64 s),.im (.int .i64 c),.sl (es.map tyV) .ro,.sl (fs.map fdV) .ro]]⟩) ?_ 0 (Nat.zero_le _) (AllTo.zero _ _)
   intro m hm hI hnext
   by_cases hlt:m<fs.length
   ·have hlt':(m:Int)<(fs.length:Int):=by omega
    have hg:=bJ hlt;have hm1:=aQ hlt (by omega)
    have hc:=hF fs[m] (List.getElem_mem hlt) (hfF _ (List.getElem_mem hlt)) (n-1) (by unfold I64;omega)
    refine wG lS (A16 @dU @dX @cX @cZ @dS @dR @dT @cY @dP @dO @dW @dA @List.getElem?_map.{0,0} @Int.natCast_nonneg hlt' (A3 hg hn1 hm1)) ?_;refine AR.callP hc @cW TI ?_
    by_cases hsh:shal fs[m] (n-1)=true
    ·refine goG lS hsh ?_
     refine wG lS hm1 ?_;refine ALp.cutP 1 [(0,.ag [.im (.int .i64 k),.im (.int .i64 s),.im (.int .i64 c),.sl (es.map tyV) .ro,.sl (fs.map fdV) .ro]),(1,(.im (.int .i64 (n)))),(2,.pt 0 0),(4,.im (.bool false)),(6,(.im (.int .i64 (((m+1:Nat):Int)))))] [.box [.im (.int .i64 k),.im (.int .i64 s),.im (.int .i64 c),.sl (es.map tyV) .ro,.sl (fs.map fdV) .ro]] TI ?_;exact hnext (m+1) (by omega) (by omega) (hI.succ hlt hsh)
    ·have hsh:shal fs[m] (n-1)=false:=by simpa using hsh
     refine goG lS hsh ?_;refine wG lS hm1 ?_;rw[rH,eR hlt hsh];simp only[Bool.and_false];exact aD
   ·have hall2:=hI.done (by omega)
    have hlt': ¬(m:Int)<(fs.length:Int):=by omega
    clear hnext hI hm hlt;refine wG lS hlt' ?_;rw[rH,hall1,hall2];have:decide (1≤n)=true:=by simp;omega
    rw[this];simp only[Bool.and_self];exact aD
theorem Kk(a b:Int):(if b<a then b else a)=min a b:=by omega
theorem BU(a b:Int):(if b>a then b else a)=max a b:=by omega
def ends(fs:List Ty)(m:Nat):Int:=((fs.take m).map fun f=>f.off+siz f).foldl max 0
theorem Ja{fs:List Ty}{m:Nat}(h:m<fs.length):ends fs (m+1)=max (ends fs m) (fs[m].off+siz fs[m]):=by
 unfold ends
 rw[List.take_succ_eq_append_getElem h,List.map_append,List.foldl_append]
 rfl
theorem Ol(fs:List Ty):ends fs fs.length=(fs.map fun f=>f.off+siz f).foldl max 0:=by
 unfold ends
 rw[List.take_length]
def nI:=A16 @Ad @cJ @qE @oK @gR @tN @oJ @nJ @rA @lB @tJ @tI @tH @mQ @jO (A5 @lM @cH @qB @mO @gO)
theorem NL: ∀(t:Ty),fit t→frm t=true→PC Tryz.prog 212 [tyV t] (.im (.int .i64 (siz t))):=by
 refine Ty.induct fun o k s c es fs hE hF=> ?_
 intro hfit hfrm
 obtain⟨hl1,hl2,hfE,hfF⟩:=oA hfit
 obtain⟨hb,hof,hfs,hes⟩:=yU hfrm
 refine pcEnt 45 Tryz.func212 rfl [(0,tyV (.mk o k s c es fs))] ?_
 simp only[fQ]
 rw[Jx]
 rcases uC hb with h1|h1|h1|h1|h1
 ·obtain⟨h1,rfl,rfl,_,_⟩:=h1
  rcases h1 with rfl|rfl
  all_goals
   refine wG nI TI ?_;exact aD
 ·obtain⟨h1,h2,rfl,_,_⟩:=h1
  have e:min s 65537=s:=by omega
  have hs: ¬(65537:Int)<s:=by omega
  rcases h1 with rfl|rfl
  ·refine wG nI hs ?_
   simp only[Int.reduceBEq,Bool.true_or,Bool.or_true,if_true,e];exact aD
  ·refine wG nI hs ?_
   simp only[Int.reduceBEq,Bool.true_or,Bool.or_true,if_true,e];exact aD
 ·obtain⟨rfl,rfl,rfl,_,_⟩:=h1
  refine wG nI TI ?_;exact aD
 ·obtain⟨rfl,rfl,h2,h3,h4,_⟩:=h1
  obtain⟨x,rfl⟩:=List.length_eq_one_iff.1 h4;have hc:=hE x (by simp) (hfE x (by simp)) (hes x (by simp))
  have hx0:=tR x (hes x (by simp))
  have hx1:=Jy x
  have hw:IntKind.i64.wrap (c*siz x)=c*siz x:=cI (by
   have h5:0≤c*siz x:=Int.mul_nonneg (by omega) hx0
   have h6:c*siz x≤65536*65537:=Int.mul_le_mul h3 hx1 hx0 (by omega)
   omega)
  refine wdG nI BN07 ?_;refine AR.callP hc @cW TI ?_;refine goG nI hw ?_;refine wdG nI (AI hw Kk) ?_;simp only[Int.reduceBEq,Bool.or_self,Bool.false_eq_true,if_false,if_true,List.map_cons,List.headD_cons];exact aD
 ·obtain⟨rfl,rfl,rfl,_⟩:=h1
  have hoff: ∀i,(hi:i<fs.length)→0≤fs[i].off∧fs[i].off<65536:=fun i hi=>Tz hi (hof i hi)
  refine wdG nI BN07 ?_;refine aT ?_;refine ALp.cutP 1 [(0,.ag [.im (.int .i64 5),.im (.int .i64 0),.im (.int .i64 0),.sl (es.map tyV) .ro,.sl (fs.map fdV) .ro]),(1,.pt 0 0),(2,(.im (.int .i64 (0)))),(3,(.im (.int .i64 (ends fs (0))))),(28,.sl (fs.map fdV) .ro),(29,(.im (.int .i64 (fs.length)))),(30,(.im (.int .i64 (((0:Nat):Int)))))] [.box [.im (.int .i64 5),.im (.int .i64 0),.im (.int .i64 0),.sl (es.map tyV) .ro,.sl (fs.map fdV) .ro]] TI ?_;refine ALp.upto fs.length (fun _=>True) (fun m=>⟨dn 45 [(0,.ag [.im (.int .i64 5),.im (.int .i64 0),.im (.int .i64 0),.sl (es.map tyV) .ro,.sl (fs.map fdV) .ro]),(1,.pt 0 0),(2,(.im (.int .i64 (0)))),(3,(.im (.int .i64 (ends fs (m))))),(28,.sl (fs.map fdV) .ro),(29,(.im (.int .i64 (fs.length)))),(30,(.im (.int .i64 (((m:Nat):Int)))))],ofl [.box [.im (.int .i64 5),.im (.int .i64 0),.im (.int .i64 0),.sl (es.map tyV) .ro,.sl (fs.map fdV) .ro]]⟩) ?_ 0 (Nat.zero_le _) trivial
  intro m hm _ hnext
  by_cases hlt:m<fs.length
  ·have hlt':(m:Int)<(fs.length:Int):=by omega
   have hg:=bJ hlt;have hm1:=aQ hlt (by omega)
   have hc:=hF fs[m] (List.getElem_mem hlt) (hfF _ (List.getElem_mem hlt)) (hfs _ (List.getElem_mem hlt));have ho:=hoff m hlt;have hx0:=tR fs[m] (hfs _ (List.getElem_mem hlt));have hx1:=Jy fs[m];have hw:IntKind.i64.wrap (fs[m].off+siz fs[m])=fs[m].off+siz fs[m]:=cI (by omega)
   have he:=(Ja hlt).symm;refine wdG nI (A16 @dU @dX @cX @cZ @dS @dR @dT @cY @dP @dO @dW @dA @List.getElem?_map.{0,0} @Int.natCast_nonneg hlt' (AI hg hm1)) ?_;refine AR.callP hc @cW TI ?_;refine goG nI (A3 hw BU he) ?_;refine wdG nI hm1 ?_;refine ALp.cutP 1 [(0,.ag [.im (.int .i64 5),.im (.int .i64 0),.im (.int .i64 0),.sl (es.map tyV) .ro,.sl (fs.map fdV) .ro]),(1,.pt 0 0),(2,(.im (.int .i64 (0)))),(3,(.im (.int .i64 (ends fs (m+1))))),(28,.sl (fs.map fdV) .ro),(29,(.im (.int .i64 (fs.length)))),(30,(.im (.int .i64 (((m+1:Nat):Int)))))] [.box [.im (.int .i64 5),.im (.int .i64 0),.im (.int .i64 0),.sl (es.map tyV) .ro,.sl (fs.map fdV) .ro]] TI ?_;exact hnext (m+1) (by omega) (by omega) trivial
  ·obtain rfl:m=fs.length:=by omega
   have hlt': ¬(fs.length:Int)<(fs.length:Int):=by omega
   clear hnext;refine wdG nI (AI hlt' Kk) ?_;simp only[Int.reduceBEq,Bool.or_self,Bool.false_eq_true,if_false,if_true,←Ol];exact aD
def nH:=A16 @cJ @qE @oK @gR @oJ @nJ @rA @lB @tJ @tI @tH @mQ @jO @lM @cH (A3 @qB @mO @gO)
theorem IT: ∀(t:Ty),fit t→frm t=true→PC Tryz.prog 261 [tyV t] (.im (.int .i64 (siz t))):=by
 refine Ty.induct fun o k s c es fs hE hF=> ?_
 intro hfit hfrm
 obtain⟨hl1,hl2,hfE,hfF⟩:=oA hfit
 obtain⟨hb,hof,hfs,hes⟩:=yU hfrm
 refine pcEnt 51 Tryz.func261 rfl [(0,tyV (.mk o k s c es fs))] ?_
 simp only[fQ]
 rw[Jx]
 rcases uC hb with h1|h1|h1|h1|h1
 ·obtain⟨h1,rfl,rfl,_,_⟩:=h1
  rcases h1 with rfl|rfl
  all_goals
   refine wG nH TI ?_;exact aD
 ·obtain⟨h1,h2,rfl,_,_⟩:=h1
  have e:min s 65537=s:=by omega
  have hs: ¬(65537:Int)<s:=by omega
  rcases h1 with rfl|rfl
  ·refine wG nH hs ?_
   simp only[Int.reduceBEq,Bool.true_or,Bool.or_true,if_true,e];exact aD
  ·refine wG nH hs ?_
   simp only[Int.reduceBEq,Bool.true_or,Bool.or_true,if_true,e];exact aD
 ·obtain⟨rfl,rfl,rfl,_,_⟩:=h1
  refine wG nH TI ?_;exact aD
 ·obtain⟨rfl,rfl,h2,h3,h4,_⟩:=h1
  obtain⟨x,rfl⟩:=List.length_eq_one_iff.1 h4;have hc:=hE x (by simp) (hfE x (by simp)) (hes x (by simp))
  have hx0:=tR x (hes x (by simp))
  have hx1:=Jy x
  have hw:IntKind.i64.wrap (c*siz x)=c*siz x:=cI (by
   have h5:0≤c*siz x:=Int.mul_nonneg (by omega) hx0
   have h6:c*siz x≤65536*65537:=Int.mul_le_mul h3 hx1 hx0 (by omega)
   omega)
  refine wdG nH BN07 ?_;refine AR.callP hc @cW TI ?_;refine goG nH hw ?_;refine wdG nH (AI hw Kk) ?_;simp only[Int.reduceBEq,Bool.or_self,Bool.false_eq_true,if_false,if_true,List.map_cons,List.headD_cons];exact aD
 ·obtain⟨rfl,rfl,rfl,_⟩:=h1
  have hoff: ∀i,(hi:i<fs.length)→0≤fs[i].off∧fs[i].off<65536:=fun i hi=>Tz hi (hof i hi)
  refine wdG nH BN07 ?_;refine aT ?_;refine ALp.cutP 1 [(0,.ag [.im (.int .i64 5),.im (.int .i64 0),.im (.int .i64 0),.sl (es.map tyV) .ro,.sl (fs.map fdV) .ro]),(1,.pt 0 0),(2,(.im (.int .i64 (0)))),(3,(.im (.int .i64 (ends fs (0))))),(4,(.im (.int .i64 (((0:Nat):Int)))))] [.box [.im (.int .i64 5),.im (.int .i64 0),.im (.int .i64 0),.sl (es.map tyV) .ro,.sl (fs.map fdV) .ro]] TI ?_;refine ALp.upto fs.length (fun _=>True) (fun m=>⟨dn 51 [(0,.ag [.im (.int .i64 5),.im (.int .i64 0),.im (.int .i64 0),.sl (es.map tyV) .ro,.sl (fs.map fdV) .ro]),(1,.pt 0 0),(2,(.im (.int .i64 (0)))),(3,(.im (.int .i64 (ends fs (m))))),(4,(.im (.int .i64 (((m:Nat):Int)))))],ofl [.box [.im (.int .i64 5),.im (.int .i64 0),.im (.int .i64 0),.sl (es.map tyV) .ro,.sl (fs.map fdV) .ro]]⟩) ?_ 0 (Nat.zero_le _) trivial
  intro m hm _ hnext
  by_cases hlt:m<fs.length
  ·have hlt':(m:Int)<(fs.length:Int):=by omega
   have hg:=bJ hlt;have hm1:=aQ hlt (by omega)
   have hc:=hF fs[m] (List.getElem_mem hlt) (hfF _ (List.getElem_mem hlt)) (hfs _ (List.getElem_mem hlt));have ho:=hoff m hlt;have hx0:=tR fs[m] (hfs _ (List.getElem_mem hlt));have hx1:=Jy fs[m];have hw:IntKind.i64.wrap (fs[m].off+siz fs[m])=fs[m].off+siz fs[m]:=cI (by omega)
   have he:=(Ja hlt).symm;refine wdG nH (A16 @dU @dX @cX @cZ @dS @dR @dT @cY @dP @dO @dW @dA @List.getElem?_map.{0,0} @Int.natCast_nonneg hlt' (AI hg hm1)) ?_;refine AR.callP hc @cW TI ?_;refine goG nH (A3 hw BU he) ?_;refine wdG nH hm1 ?_;refine ALp.cutP 1 [(0,.ag [.im (.int .i64 5),.im (.int .i64 0),.im (.int .i64 0),.sl (es.map tyV) .ro,.sl (fs.map fdV) .ro]),(1,.pt 0 0),(2,(.im (.int .i64 (0)))),(3,(.im (.int .i64 (ends fs (m+1))))),(4,(.im (.int .i64 (((m+1:Nat):Int)))))] [.box [.im (.int .i64 5),.im (.int .i64 0),.im (.int .i64 0),.sl (es.map tyV) .ro,.sl (fs.map fdV) .ro]] TI ?_;exact hnext (m+1) (by omega) (by omega) trivial
  ·obtain rfl:m=fs.length:=by omega
   have hlt': ¬(fs.length:Int)<(fs.length:Int):=by omega
   clear hnext;refine wdG nH (AI hlt' Kk) ?_;simp only[Int.reduceBEq,Bool.or_self,Bool.false_eq_true,if_false,if_true,←Ol];exact aD
def seen(fs:List Ty)(m:Nat):Prop:= ∀j (hj:j<fs.length),j<m→fok fs j=true∧frm fs[j]=true
theorem seen.succ{fs:List Ty}{m:Nat}(h:seen fs m)(hm:m<fs.length)(h1:fok fs m=true)(h2:frm fs[m]=true):seen fs (m+1):=by
 intro j hj hlt
 rcases Nat.lt_succ_iff_lt_or_eq.1 hlt with h3|rfl
 ·exact h j hj h3
 ·exact⟨h1,h2⟩
theorem seen.done{fs:List Ty}(h:seen fs fs.length):(asc fs&&fs.all frm)=true:=by
 simp only[Bool.and_eq_true,asc,List.all_eq_true,List.mem_range]
 refine⟨fun i hi=>(h i hi hi).1,fun t ht=> ?_⟩
 obtain⟨i,hi,rfl⟩:=List.getElem_of_mem ht
 exact(h i hi hi).2
theorem unseen{fs:List Ty}{m:Nat}(hm:m<fs.length)(h: ¬(fok fs m=true∧frm fs[m]=true)):(asc fs&&fs.all frm)=false:=by
 rw[Bool.eq_false_iff]
 intro hn
 simp only[Bool.and_eq_true,asc,List.all_eq_true,List.mem_range]at hn
 exact h ⟨hn.1 m hm,hn.2 _ (List.getElem_mem hm)⟩
theorem BX{fs:List Ty}(hi:0<fs.length):fok fs 0=(decide (0≤fs[0].off)&&decide (fs[0].off<65536)):=by
 unfold fok
 have e:(fs.map Ty.off).getD 0 0=fs[0].off:=by simp[List.getD,hi]
 rw[e]
 simp
theorem BZ{fs:List Ty}{j:Nat}(hi:j+1<fs.length):fok fs (j+1)=(decide (0≤fs[j+1].off)&&decide (fs[j+1].off<65536)&&decide (fs[j].off<fs[j+1].off)):=by
 unfold fok
 have hj:j<fs.length:=by omega
 have e:(fs.map Ty.off).getD (j+1) 0=fs[j+1].off:=by simp[List.getD,hi]
 have e2:(fs.map Ty.off).getD (j+1-1) 0=fs[j].off:=by simp[List.getD,hj]
 rw[e,e2]
 simp
theorem Ua{fs:List Ty}{m:Nat}(hm:m<fs.length):fok fs m=true↔0≤fs[m].off∧fs[m].off<65536∧(m=0∨(fs[m-1]'(by omega)).off<fs[m].off):=by
 cases m with
 | zero=>rw[BX hm];simp
 | succ j=>rw[BZ hm];simp[and_assoc]
theorem qO{o:Int}{fs:List Ty}{m:Nat}(hm:m<fs.length)(h: ¬(fok fs m=true∧frm fs[m]=true)):frm (.mk o 5 0 0 [] fs)=false:=by
 rw[Bc]
 have:=unseen hm h
 simp only[Bool.and_eq_false_iff]at this ⊢
 exact .inl (this.elim (fun h=> .inl (.inr h)) .inr)
theorem mI{o k s c:Int}{es fs:List Ty}(h:base k s c es.length fs.length=false):frm (.mk o k s c es fs)=false:=by rw[Bc,h];rfl
theorem xK{o k s c:Int}{es fs:List Ty}(hb:base k s c es.length fs.length=true)(hf:fs=[]):frm (.mk o k s c es fs)=es.all frm:=by
 subst hf
 rw[Bc,hb]
 simp[asc]
def dN:=A16 @Ad @cJ @qE @oK @gR @tN @qD @oJ @nJ @rA @lB @tJ @tI @tH @mQ (A7 @jO @uK @lM @cH @qB @mO @gO)
set_option maxRecDepth 100000 in
theorem formed5{o s c:Int}{es fs:List Ty}(hF: ∀t∈fs,fit t→PC Tryz.prog 158 [tyV t] (.im (.bool (frm t))))(hfit:fit (.mk o 5 s c es fs)):PC Tryz.prog 158 [tyV (.mk o 5 s c es fs)] (.im (.bool (frm (.mk o 5 s c es fs)))):=by
 obtain⟨hl1,hl2,hfE,hfF⟩:=oA hfit
 refine pcEnt 131 Tryz.func158 rfl [(0,tyV (.mk o 5 s c es fs))] ?_
 simp only[fQ]
 refine wdG dN TI ?_
 refine oX rfl rfl (fun h=> ?_) (fun h=> ?_)
 ·rw[mI (by simp[base, -List.length_eq_zero_iff]at h ⊢;omega)]
  refine wG dN TI ?_;exact aD
 ·obtain⟨rfl,rfl,he⟩:s=0∧c=0∧es.length=0:=by simp[-List.length_eq_zero_iff]at h;omega
  obtain rfl:=List.length_eq_zero_iff.1 he;refine wdG dN TI ?_;refine aT ?_;refine ALp.cutP 1 [(0,.ag [.im (.int .i64 5),.im (.int .i64 0),.im (.int .i64 0),.sl [] .ro,.sl (fs.map fdV) .ro]),(1,.pt 0 0),(4,(.im (.int .i64 (0)))),(5,(.im (.bool (true)))),(84,.sl (fs.map fdV) .ro),(85,(.im (.int .i64 (fs.length)))),(86,(.im (.int .i64 (((0:Nat):Int)))))] [.box [.im (.int .i64 5),.im (.int .i64 0),.im (.int .i64 0),.sl [] .ro,.sl (fs.map fdV) .ro]] TI ?_;refine ALp.upto fs.length (fun m=>seen fs m) (fun m=>⟨dn 131 [(0,.ag [.im (.int .i64 5),.im (.int .i64 0),.im (.int .i64 0),.sl [] .ro,.sl (fs.map fdV) .ro]),(1,.pt 0 0),(4,(.im (.int .i64 (0)))),(5,(.im (.bool (true)))),(84,.sl (fs.map fdV) .ro),(85,(.im (.int .i64 (fs.length)))),(86,(.im (.int .i64 (((m:Nat):Int)))))],ofl [.box [.im (.int .i64 5),.im (.int .i64 0),.im (.int .i64 0),.sl [] .ro,.sl (fs.map fdV) .ro]]⟩) ?_ 0 (Nat.zero_le _) (fun j _ hj=>absurd hj (Nat.not_lt_zero _))
  intro m hm hI hnext
  by_cases hlt:m<fs.length
  ·have hlt':(m:Int)<(fs.length:Int):=by omega
   have hg:=bJ hlt;have hm1:=aQ hlt (by omega)
   have hk:=Ua hlt
   by_cases a1:fs[m].off<0
   ·rw[qO hlt (fun h=>by have:=hk.1 h.1;omega)]
    refine wdG dN (A16 @dU @dX @cX @cZ @dS @dR @dT @cY @dP @dO @dW @dA @List.getElem?_map.{0,0} @Int.natCast_nonneg hlt' (A3 hg hm1 a1)) ?_;exact aD
   by_cases a2:fs[m].off≥65536
   ·rw[qO hlt (fun h=>by have:=hk.1 h.1;omega)]
    refine wdG dN (A16 @dU @dX @cX @cZ @dS @dR @dT @cY @dP @dO @dW @dA @List.getElem?_map.{0,0} @Int.natCast_nonneg hlt' (A4 hg hm1 a1 a2)) ?_;exact aD
   have hc:=hF fs[m] (List.getElem_mem hlt) (hfF _ (List.getElem_mem hlt))
   by_cases a3:(m:Int)>0
   ·have hg2:=bJ (l:=fs) (m:=m-1) (by omega)
    have hp:IntKind.i64.wrap ((m:Int)-1)=((m-1:Nat):Int):=by rw[cI (by omega)];omega
    by_cases a4:fs[m].off≤(fs[m-1]'(by omega)).off
    ·rw[qO hlt (fun h=>by have:=hk.1 h.1;omega)]
     refine wdG dN (A16 @dU @dX @cX @cZ @dS @dR @dT @cY @dP @dO @dW @dA @List.getElem?_map.{0,0} @Int.natCast_nonneg hlt' (A8 hg hm1 a1 a2 a3 hg2 hp a4)) ?_;exact aD
    ·have hk2:fok fs m=true:=hk.2 (by omega)
     refine wdG dN (A16 @dU @dX @cX @cZ @dS @dR @dT @cY @dP @dO @dW @dA @List.getElem?_map.{0,0} @Int.natCast_nonneg hlt' (A8 hg hm1 a1 a2 a3 hg2 hp a4)) ?_
     by_cases b:frm fs[m]=true
     ·rw[b]at hc
      refine AR.callP hc @cW TI ?_;refine goG dN TI ?_;refine wdG dN hm1 ?_;refine ALp.cutP 1 [(0,.ag [.im (.int .i64 5),.im (.int .i64 0),.im (.int .i64 0),.sl [] .ro,.sl (fs.map fdV) .ro]),(1,.pt 0 0),(4,(.im (.int .i64 (0)))),(5,(.im (.bool (true)))),(84,.sl (fs.map fdV) .ro),(85,(.im (.int .i64 (fs.length)))),(86,(.im (.int .i64 (((m+1:Nat):Int)))))] [.box [.im (.int .i64 5),.im (.int .i64 0),.im (.int .i64 0),.sl [] .ro,.sl (fs.map fdV) .ro]] TI ?_;exact hnext (m+1) (by omega) (by omega) (hI.succ hlt hk2 b)
     ·rw[qO hlt (fun h=>b h.2)]
      rw[Bool.eq_false_iff.2 b]at hc;refine AR.callP hc @cW TI ?_;refine goG dN TI ?_;refine wdG dN hm1 ?_;exact aD
   ·have hk2:fok fs m=true:=hk.2 (by omega)
    refine wdG dN (A16 @dU @dX @cX @cZ @dS @dR @dT @cY @dP @dO @dW @dA @List.getElem?_map.{0,0} @Int.natCast_nonneg hlt' (A5 hg hm1 a1 a2 a3)) ?_
    by_cases b:frm fs[m]=true
    ·rw[b]at hc
     refine AR.callP hc @cW TI ?_;refine goG dN TI ?_;refine wdG dN hm1 ?_;refine ALp.cutP 1 [(0,.ag [.im (.int .i64 5),.im (.int .i64 0),.im (.int .i64 0),.sl [] .ro,.sl (fs.map fdV) .ro]),(1,.pt 0 0),(4,(.im (.int .i64 (0)))),(5,(.im (.bool (true)))),(84,.sl (fs.map fdV) .ro),(85,(.im (.int .i64 (fs.length)))),(86,(.im (.int .i64 (((m+1:Nat):Int)))))] [.box [.im (.int .i64 5),.im (.int .i64 0),.im (.int .i64 0),.sl [] .ro,.sl (fs.map fdV) .ro]] TI ?_;exact hnext (m+1) (by omega) (by omega) (hI.succ hlt hk2 b)
    ·rw[qO hlt (fun h=>b h.2)]
     rw[Bool.eq_false_iff.2 b]at hc;refine AR.callP hc @cW TI ?_;refine goG dN TI ?_;refine wdG dN hm1 ?_;exact aD
  ·obtain rfl:m=fs.length:=by omega
   have hlt': ¬(fs.length:Int)<(fs.length:Int):=by omega
   clear hnext
   have e:frm (.mk o 5 0 0 [] fs)=true:=by
    rw[Bc,show base 5 0 0 ([]:List Ty).length fs.length=true from by simp[base]]
    simpa using hI.done
   rw[e];refine wdG dN hlt' ?_;exact aD
set_option maxRecDepth 100000 in
theorem EA: ∀(t:Ty),fit t→PC Tryz.prog 158 [tyV t] (.im (.bool (frm t))):=by
 refine Ty.induct fun o k s c es fs hE hF=> ?_
 intro hfit
 obtain⟨hl1,hl2,hfE,hfF⟩:=oA hfit
 by_cases k5:k=5
 ·subst k5
  exact formed5 hF hfit
 refine pcEnt 131 Tryz.func158 rfl [(0,tyV (.mk o k s c es fs))] ?_
 simp only[fQ]
 by_cases k0:k=0∨k=6
 ·rcases k0 with rfl|rfl
  all_goals
   refine wdG dN TI ?_;refine oX rfl rfl (fun h=> ?_) (fun h=> ?_)
   ·rw[mI (by simp[base, -List.length_eq_zero_iff]at h ⊢;omega)]
    refine wG dN TI ?_;exact aD
   ·obtain⟨rfl,rfl,he,hf⟩:s=0∧c=0∧es.length=0∧fs.length=0:=by simp[-List.length_eq_zero_iff]at h;omega
    obtain rfl:=List.length_eq_zero_iff.1 he;obtain rfl:=List.length_eq_zero_iff.1 hf;rw[xK (by decide) rfl]
    refine wdG dN TI ?_;refine aT (cG ?_);refine wG dN TI ?_;exact aD
 by_cases k1:k=1∨k=2
 ·rcases k1 with rfl|rfl
  all_goals
   refine wdG dN TI ?_;refine oX rfl rfl (fun h=> ?_) (fun h=> ?_)
   ·rw[mI (by simp[base, -List.length_eq_zero_iff]at h ⊢;omega)]
    refine wG dN TI ?_;exact aD
   ·have hs:s=1∨s=2∨s=4:=by simp[-List.length_eq_zero_iff]at h;omega
    refine wdG dN TI ?_;refine oX rfl rfl (fun h=> ?_) (fun h=> ?_)
    ·rw[mI (by simp[base, -List.length_eq_zero_iff]at h ⊢;omega)]
     refine wG dN TI ?_;exact aD
    ·obtain⟨rfl,he,hf⟩:c=0∧es.length=0∧fs.length=0:=by simp[-List.length_eq_zero_iff]at h;omega
     obtain rfl:=List.length_eq_zero_iff.1 he;obtain rfl:=List.length_eq_zero_iff.1 hf;rw[xK (by simp[base, -List.length_eq_zero_iff];omega) rfl]
     refine wdG dN TI ?_;refine aT (cG ?_);refine wG dN TI ?_;exact aD
 by_cases k3:k=3
 ·subst k3
  refine wdG dN TI ?_;refine oX rfl rfl (fun h=> ?_) (fun h=> ?_)
  ·rw[mI (by simp[base, -List.length_eq_zero_iff]at h ⊢;omega)]
   refine wG dN TI ?_;exact aD
  ·obtain⟨rfl,rfl,he,hf⟩:s=0∧c=0∧es.length=1∧fs.length=0:=by simp[-List.length_eq_zero_iff]at h;omega
   obtain⟨x,rfl⟩:=List.length_eq_one_iff.1 he;obtain rfl:=List.length_eq_zero_iff.1 hf;have hc:=hE x (by simp) (hfE x (by simp))
   rw[xK (by simp[base]) rfl]
   refine wdG dN TI ?_;refine aT (cG ?_);refine wdG dN BN07 ?_;refine AR.callP hc @cW TI ?_;refine goG dN TI ?_;simp only[List.all_cons,List.all_nil,Bool.and_true];refine wdG dN TI ?_;exact aD
 by_cases k4:k=4
 ·subst k4
  refine wdG dN TI ?_;refine oX rfl rfl (fun h=> ?_) (fun h=> ?_)
  ·rw[mI (by simp[base, -List.length_eq_zero_iff]at h ⊢;omega)]
   refine wG dN TI ?_;exact aD
  ·have hs:1≤c∧c≤65536:=by simp[-List.length_eq_zero_iff]at h;omega
   refine wdG dN TI ?_;refine oX rfl rfl (fun h=> ?_) (fun h=> ?_)
   ·rw[mI (by simp[base, -List.length_eq_zero_iff]at h ⊢;omega)]
    refine wG dN TI ?_;exact aD
   ·obtain⟨rfl,he,hf⟩:s=0∧es.length=1∧fs.length=0:=by simp[-List.length_eq_zero_iff]at h;omega
    obtain⟨x,rfl⟩:=List.length_eq_one_iff.1 he;obtain rfl:=List.length_eq_zero_iff.1 hf;have hc:=hE x (by simp) (hfE x (by simp))
    rw[xK (by simp[base, -List.length_eq_zero_iff];omega) rfl]
    refine wdG dN TI ?_;refine aT (cG ?_);refine wdG dN BN07 ?_;refine AR.callP hc @cW TI ?_;refine goG dN TI ?_;simp only[List.all_cons,List.all_nil,Bool.and_true];refine wdG dN TI ?_;exact aD
 have k6: ¬k=6:=by omega
 have k2: ¬k=2:=by omega
 replace k0: ¬k=0:=by omega
 replace k1: ¬k=1:=by omega
 rw[mI (by simp[base,k0,k1,k2,k3,k4,k5,k6])]
 refine wdG dN (A7 k0 k1 k2 k3 k4 k5 k6) ?_
 exact aD
theorem Nz{o k s c:Int}{es fs:List Ty}{b:Bool}(hb:base k s c es.length fs.length=b)(h:b=true→es=[]∧fs=[]):frm (.mk o k s c es fs)=b:=by
 cases b with
 | false=>exact mI hb
 | true =>
  obtain⟨rfl,rfl⟩:=h rfl;rw[xK hb rfl];rfl
theorem yD{fs:List Ty}{m:Nat}(hm:m<fs.length)(h: ¬(fok fs m=true∧frm fs[m]=true)):(asc fs&&fs.all frm)=false:=unseen hm h
def kW:=A8 @cJ @gR @nJ @rA @lB @lM @cH @gO
set_option maxRecDepth 100000 in
theorem Pe{fs:List Ty}{f:FuncId}(hf:f=229)(hl2:fs.length≤4194304)(hF: ∀t∈fs,PC Tryz.prog f [tyV t] (.im (.bool (frm t)))):PC Tryz.prog 260 [.sl (fs.map fdV) .ro] (.im (.bool (asc fs&&fs.all frm))):=by
 subst hf
 refine pcEnt 51 Tryz.func260 rfl [(0,.sl (fs.map fdV) .ro)] ?_
 refine wdG kW TI ?_
 refine aT ?_
 refine ALp.cutP 0 [(0,.sl (fs.map fdV) .ro),(2,(.im (.bool (false)))),(3,(.im (.int .i64 (((0:Nat):Int)))))] [] TI ?_
 refine ALp.upto fs.length (fun m=>seen fs m) (fun m=>⟨dn 51 [(0,.sl (fs.map fdV) .ro),(2,(.im (.bool (false)))),(3,(.im (.int .i64 (((m:Nat):Int)))))],ofl []⟩) ?_ 0 (Nat.zero_le _) (fun j _ hj=>absurd hj (Nat.not_lt_zero _))
 intro m hm hI hnext
 by_cases hlt:m<fs.length
 ·have hlt':(m:Int)<(fs.length:Int):=by omega
  have hg:=bJ hlt;have hm1:=aQ hlt (by omega)
  have hk:=Ua hlt
  by_cases a1:fs[m].off<0
  ·rw[yD hlt (fun h=>by have:=hk.1 h.1;omega)]
   refine wdG kW (A16 @dU @dX @cX @cZ @dS @dR @dT @cY @dP @dO @dW @dA @List.getElem?_map.{0,0} @Int.natCast_nonneg hlt' (A3 hg hm1 a1)) ?_;exact aD
  by_cases a2:fs[m].off≥65536
  ·rw[yD hlt (fun h=>by have:=hk.1 h.1;omega)]
   refine wdG kW (A16 @dU @dX @cX @cZ @dS @dR @dT @cY @dP @dO @dW @dA @List.getElem?_map.{0,0} @Int.natCast_nonneg hlt' (A4 hg hm1 a1 a2)) ?_;exact aD
  have hc:=hF fs[m] (List.getElem_mem hlt)
  by_cases a3:(m:Int)>0
  ·have hg2:=bJ (l:=fs) (m:=m-1) (by omega)
   have hp:IntKind.i64.wrap ((m:Int)-1)=((m-1:Nat):Int):=by rw[cI (by omega)];omega
   by_cases a4:fs[m].off≤(fs[m-1]'(by omega)).off
   ·rw[yD hlt (fun h=>by have:=hk.1 h.1;omega)]
    refine wdG kW (A16 @dU @dX @cX @cZ @dS @dR @dT @cY @dP @dO @dW @dA @List.getElem?_map.{0,0} @Int.natCast_nonneg hlt' (A8 hg hm1 a1 a2 a3 hg2 hp a4)) ?_;exact aD
   ·have hk2:fok fs m=true:=hk.2 (by omega)
    refine wdG kW (A16 @dU @dX @cX @cZ @dS @dR @dT @cY @dP @dO @dW @dA @List.getElem?_map.{0,0} @Int.natCast_nonneg hlt' (A8 hg hm1 a1 a2 a3 hg2 hp a4)) ?_
    by_cases b:frm fs[m]=true
    ·rw[b]at hc
     refine AR.callP hc @cW TI ?_;refine goG kW TI ?_;refine wdG kW hm1 ?_;refine ALp.cutP 0 [(0,.sl (fs.map fdV) .ro),(2,(.im (.bool (false)))),(3,(.im (.int .i64 (((m+1:Nat):Int)))))] [] TI ?_;exact hnext (m+1) (by omega) (by omega) (hI.succ hlt hk2 b)
    ·rw[yD hlt (fun h=>b h.2)]
     rw[Bool.eq_false_iff.2 b]at hc;refine AR.callP hc @cW TI ?_;refine goG kW TI ?_;refine wdG kW hm1 ?_;exact aD
  ·have hk2:fok fs m=true:=hk.2 (by omega)
   refine wdG kW (A16 @dU @dX @cX @cZ @dS @dR @dT @cY @dP @dO @dW @dA @List.getElem?_map.{0,0} @Int.natCast_nonneg hlt' (A5 hg hm1 a1 a2 a3)) ?_
   by_cases b:frm fs[m]=true
   ·rw[b]at hc
    refine AR.callP hc @cW TI ?_;refine goG kW TI ?_;refine wdG kW hm1 ?_;refine ALp.cutP 0 [(0,.sl (fs.map fdV) .ro),(2,(.im (.bool (false)))),(3,(.im (.int .i64 (((m+1:Nat):Int)))))] [] TI ?_;exact hnext (m+1) (by omega) (by omega) (hI.succ hlt hk2 b)
   ·rw[yD hlt (fun h=>b h.2)]
    rw[Bool.eq_false_iff.2 b]at hc;refine AR.callP hc @cW TI ?_;refine goG kW TI ?_;refine wdG kW hm1 ?_;exact aD
 ·obtain rfl:m=fs.length:=by omega
  have hlt': ¬(fs.length:Int)<(fs.length:Int):=by omega
  clear hnext;rw[hI.done];refine wdG kW hlt' ?_;exact aD
def kX:=A16 @cJ @qE @oK @gR @oJ @nJ @tJ @tI @tH @mQ @jO @lM @cH @qB @mO @gO
set_option maxRecDepth 100000 in
theorem Sa: ∀(t:Ty),fit t→PC Tryz.prog 229 [tyV t] (.im (.bool (frm t))):=by
 refine Ty.induct fun o k s c es fs hE hF=> ?_
 intro hfit
 obtain⟨hl1,hl2,hfE,hfF⟩:=oA hfit
 have hA:=Pe rfl hl2 (fun t ht=>hF t ht (hfF t ht))
 have nil: ∀ {l:List Ty},(l.length:Int)=0→l=[]:=fun h=>List.length_eq_zero_iff.1 (by omega)
 refine pcEnt 133 Tryz.func229 rfl [(0,tyV (.mk o k s c es fs))] ?_
 simp only[fQ]
 by_cases k0:k=0∨k=6
 ·rw[Nz (b:=decide (c=0)&&decide ((es.length:Int)=0)&&decide ((fs.length:Int)=0)&&decide (s=0)) (by rcases k0 with rfl|rfl<;>(rw[Bool.eq_iff_iff];simp[base, -List.length_eq_zero_iff];omega)) (fun h=>by simp only[Bool.and_eq_true,decide_eq_true_eq]at h;exact⟨nil h.1.1.2,nil h.1.2⟩)]
  rcases k0 with rfl|rfl
  all_goals
   refine wdG kX TI ?_;exact aD
 by_cases k1:k=1∨k=2
 ·rw[Nz (b:=decide (c=0)&&decide ((es.length:Int)=0)&&decide ((fs.length:Int)=0)&&(decide (s=1)||decide (s=2)||decide (s=4))) (by rcases k1 with rfl|rfl<;>(rw[Bool.eq_iff_iff];simp[base, -List.length_eq_zero_iff];omega)) (fun h=>by simp only[Bool.and_eq_true,decide_eq_true_eq]at h;exact⟨nil h.1.1.2,nil h.1.2⟩)]
  rcases k1 with rfl|rfl
  all_goals
   refine wdG kX TI ?_;exact aD
 have k6: ¬k=6:=by omega
 have k2: ¬k=2:=by omega
 replace k0: ¬k=0:=by omega
 replace k1: ¬k=1:=by omega
 by_cases k3:k=3
 ·subst k3
  cases h:(decide (s=0)&&decide (c=0)&&decide ((fs.length:Int)=0)&&decide ((es.length:Int)=1))with
  | false =>
   rw[mI (by rw[Bool.eq_false_iff]at h ⊢;simp[base, -List.length_eq_zero_iff]at h ⊢;omega)]
   refine wdG kX h ?_;exact aD
  | true =>
   simp only[Bool.and_eq_true,decide_eq_true_eq]at h;obtain⟨⟨⟨rfl,rfl⟩,hf⟩,he⟩:=h;obtain rfl:=nil hf;obtain⟨x,rfl⟩:=List.length_eq_one_iff.1 (show es.length=1 by omega)
   have hc:=hE x (by simp) (hfE x (by simp))
   rw[xK (by simp[base]) rfl]
   refine wdG kX BN07 ?_;refine AR.callP hc @cW TI ?_;refine goG kX TI ?_;simp only[List.all_cons,List.all_nil,Bool.and_true];refine wdG kX TI ?_;exact aD
 by_cases k4:k=4
 ·subst k4
  cases h:(decide (s=0)&&decide (c≥1)&&decide (c≤65536)&&decide ((fs.length:Int)=0)&&decide ((es.length:Int)=1))with
  | false =>
   rw[mI (by rw[Bool.eq_false_iff]at h ⊢;simp[base, -List.length_eq_zero_iff]at h ⊢;omega)]
   refine wdG kX h ?_;exact aD
  | true =>
   simp only[Bool.and_eq_true,decide_eq_true_eq]at h;obtain⟨⟨⟨⟨rfl,h1⟩,h2⟩,hf⟩,he⟩:=h;obtain rfl:=nil hf;obtain⟨x,rfl⟩:=List.length_eq_one_iff.1 (show es.length=1 by omega)
   have hc:=hE x (by simp) (hfE x (by simp))
   rw[xK (by simp[base];omega) rfl]
   refine wdG kX (A16 @dU @dX @cX @cZ @dS @dR @dT @cY @dP @dO @dW @dA @List.getElem?_map.{0,0} @Int.natCast_nonneg h1 h2) ?_;refine AR.callP hc @cW TI ?_;refine goG kX TI ?_;simp only[List.all_cons,List.all_nil,Bool.and_true];refine wdG kX TI ?_;exact aD
 by_cases k5:k=5
 ·subst k5
  cases h:(decide (s=0)&&decide (c=0)&&decide ((es.length:Int)=0))with
  | false =>
   rw[mI (by rw[Bool.eq_false_iff]at h ⊢;simp[base, -List.length_eq_zero_iff]at h ⊢;omega)]
   refine wdG kX h ?_;exact aD
  | true =>
   simp only[Bool.and_eq_true,decide_eq_true_eq]at h;obtain⟨⟨rfl,rfl⟩,he⟩:=h;obtain rfl:=nil he
   have e:frm (.mk o 5 0 0 [] fs)=(asc fs&&fs.all frm):=by
    rw[Bc,show base 5 0 0 ([]:List Ty).length fs.length=true from by simp[base]]
    simp
   rw[e];refine wdG kX BN07 ?_;refine AR.callP hA @cW TI ?_;refine goG kX TI ?_;refine wdG kX TI ?_;exact aD
 rw[mI (by simp[base,k0,k1,k2,k3,k4,k5,k6])]
 refine wdG kX (A7 k0 k1 k2 k3 k4 k5 k6) ?_
 exact aD
theorem EM{k s c:Int}{ne nf:Nat}(h:base k s c ne nf=true):ne=0∨ne=1:=by
 rcases uC h with h|h|h|h|h<;>omega
def kY:=A14 @Ad @qE @oK @gR @tN @oJ @nJ @lB @mQ @jO @lM @qB @mO @gO
theorem CY: ∀(t:Ty),fit t→frm t=true→PC Tryz.prog 159 [tyV t] (.im (.bool (wit t))):=by
 refine Ty.induct fun o k s c es fs hE hF=> ?_
 intro hfit hfrm
 obtain⟨hl1,hl2,hfE,hfF⟩:=oA hfit
 obtain⟨hb,hof,hfs,hes⟩:=yU hfrm
 have hs:=NL _ hfit hfrm
 refine pcEnt 37 Tryz.func159 rfl [(0,tyV (.mk o k s c es fs))] ?_
 simp only[fQ]
 by_cases h1:(fs.length:Int)>64
 ·have e:wit (.mk o k s c es fs)=false:=by rw[Ah];simp;omega
  rw[e];refine wG kY h1 ?_;exact aD
 refine wG kY h1 ?_
 refine AR.callP hs @fQ TI ?_
 by_cases h2:siz (.mk o k s c es fs)>65536
 ·have e:wit (.mk o k s c es fs)=false:=by rw[Ah];simp;omega
  rw[e];refine goG kY (AI h1 h2) ?_;refine wG kY TI ?_;exact aD
 refine goG kY (AI h1 h2) ?_
 have e0:wit (.mk o k s c es fs)=(fs.all wit&&es.all wit):=by
  rw[Ah];have a1:decide (fs.length≤64)=true:=by simp;omega
  have a2:decide (siz (.mk o k s c es fs)≤65536)=true:=by simp;omega
  rw[a1,a2];simp
 rw[e0]
 clear hs h2 e0
 refine wG kY TI ?_
 refine aT ?_
 refine ALp.cutP 1 [(0,.ag [.im (.int .i64 k),.im (.int .i64 s),.im (.int .i64 c),.sl (es.map tyV) .ro,.sl (fs.map fdV) .ro]),(1,.pt 0 0),(15,.sl (fs.map fdV) .ro),(16,(.im (.int .i64 (fs.length)))),(17,(.im (.int .i64 ((((0:Nat)):Int)))))] [.box [.im (.int .i64 k),.im (.int .i64 s),.im (.int .i64 c),.sl (es.map tyV) .ro,.sl (fs.map fdV) .ro]] TI ?_
 refine ALp.upto fs.length (AllTo wit fs) (fun m=>⟨dn 37 [(0,.ag [.im (.int .i64 k),.im (.int .i64 s),.im (.int .i64 c),.sl (es.map tyV) .ro,.sl (fs.map fdV) .ro]),(1,.pt 0 0),(15,.sl (fs.map fdV) .ro),(16,(.im (.int .i64 (fs.length)))),(17,(.im (.int .i64 ((((m:Nat)):Int)))))],ofl [.box [.im (.int .i64 k),.im (.int .i64 s),.im (.int .i64 c),.sl (es.map tyV) .ro,.sl (fs.map fdV) .ro]]⟩) ?_ 0 (Nat.zero_le _) (AllTo.zero _ _)
 intro m hm hI hnext
 by_cases hlt:m<fs.length
 ·have hlt':(m:Int)<(fs.length:Int):=by omega
  have hg:=bJ hlt;have hm1:=aQ hlt (by omega)
  have hc:=hF fs[m] (List.getElem_mem hlt) (hfF _ (List.getElem_mem hlt)) (hfs _ (List.getElem_mem hlt));refine wG kY (A16 @dU @dX @cX @cZ @dS @dR @dT @cY @dP @dO @dW @dA @List.getElem?_map.{0,0} @Int.natCast_nonneg hlt' (AI hg hm1)) ?_
  by_cases b:wit fs[m]=true
  ·rw[b]at hc
   refine AR.callP hc @cW TI ?_;refine goG kY TI ?_;refine wG kY hm1 ?_;refine ALp.cutP 1 [(0,.ag [.im (.int .i64 k),.im (.int .i64 s),.im (.int .i64 c),.sl (es.map tyV) .ro,.sl (fs.map fdV) .ro]),(1,.pt 0 0),(15,.sl (fs.map fdV) .ro),(16,(.im (.int .i64 (fs.length)))),(17,(.im (.int .i64 ((((m+1:Nat)):Int)))))] [.box [.im (.int .i64 k),.im (.int .i64 s),.im (.int .i64 c),.sl (es.map tyV) .ro,.sl (fs.map fdV) .ro]] TI ?_;exact hnext (m+1) (by omega) (by omega) (hI.succ hlt b)
  ·have b:wit fs[m]=false:=by simpa using b
   rw[b]at hc;refine AR.callP hc @cW TI ?_;refine goG kY TI ?_;refine wG kY hm1 ?_;rw[eR hlt b,Bool.false_and];exact aD
 ·have hall:=hI.done (by omega)
  have hlt': ¬(m:Int)<(fs.length:Int):=by omega
  clear hnext hI hm hlt;rw[hall,Bool.true_and];rcases EM hb with he|he
  ·obtain rfl:=List.length_eq_zero_iff.1 he
   refine wG kY hlt' ?_;exact aD
  ·obtain⟨x,rfl⟩:=List.length_eq_one_iff.1 he
   have hc:=hE x (by simp) (hfE x (by simp)) (hes x (by simp))
   refine wG kY (A15 @dU @dX @cX @cZ @dS @dR @dT @cY @dP @dO @dW @dA @List.getElem?_map.{0,0} @Int.natCast_nonneg hlt') ?_;refine AR.callP hc @cW TI ?_;refine goG kY TI ?_;simp only[List.all_cons,List.all_nil,Bool.and_true];refine wG kY TI ?_;exact aD
def jK:=A12 @qE @oK @gR @oJ @nJ @lB @mQ @jO @lM @qB @mO @gO
theorem Xq: ∀(t:Ty),fit t→frm t=true→PC Tryz.prog 230 [tyV t] (.im (.bool (!wit t))):=by
 refine Ty.induct fun o k s c es fs hE hF=> ?_
 intro hfit hfrm
 obtain⟨hl1,hl2,hfE,hfF⟩:=oA hfit
 obtain⟨hb,hof,hfs,hes⟩:=yU hfrm
 have hs:=IT _ hfit hfrm
 refine pcEnt 41 Tryz.func230 rfl [(0,tyV (.mk o k s c es fs))] ?_
 simp only[fQ]
 refine wG jK TI ?_
 refine AR.callP hs @fQ TI ?_
 by_cases h2:siz (.mk o k s c es fs)>65536
 ·have e:wit (.mk o k s c es fs)=false:=by rw[Ah];simp;omega
  rw[e];refine goG jK h2 ?_;refine wG jK TI ?_;exact aD
 by_cases h1:(fs.length:Int)>64
 ·have e:wit (.mk o k s c es fs)=false:=by rw[Ah];simp;omega
  rw[e];refine goG jK (AI h1 h2) ?_;refine wG jK TI ?_;exact aD
 refine goG jK (AI h1 h2) ?_
 have e0:wit (.mk o k s c es fs)=(fs.all wit&&es.all wit):=by
  rw[Ah];have a1:decide (fs.length≤64)=true:=by simp;omega
  have a2:decide (siz (.mk o k s c es fs)≤65536)=true:=by simp;omega
  rw[a1,a2];simp
 rw[e0]
 clear hs h2 e0
 refine wG jK TI ?_
 refine aT ?_
 refine ALp.cutP 1 [(0,.ag [.im (.int .i64 k),.im (.int .i64 s),.im (.int .i64 c),.sl (es.map tyV) .ro,.sl (fs.map fdV) .ro]),(1,.pt 0 0),(3,(.im (.int .i64 ((((0:Nat)):Int)))))] [.box [.im (.int .i64 k),.im (.int .i64 s),.im (.int .i64 c),.sl (es.map tyV) .ro,.sl (fs.map fdV) .ro]] TI ?_
 refine ALp.upto es.length (AllTo wit es) (fun m=>⟨dn 41 [(0,.ag [.im (.int .i64 k),.im (.int .i64 s),.im (.int .i64 c),.sl (es.map tyV) .ro,.sl (fs.map fdV) .ro]),(1,.pt 0 0),(3,(.im (.int .i64 ((((m:Nat)):Int)))))],ofl [.box [.im (.int .i64 k),.im (.int .i64 s),.im (.int .i64 c),.sl (es.map tyV) .ro,.sl (fs.map fdV) .ro]]⟩) ?_ 0 (Nat.zero_le _) (AllTo.zero _ _)
 intro m hm hI hnext
 by_cases hlt:m<es.length
 ·have hlt':(m:Int)<(es.length:Int):=by omega
  have hg:=bJ hlt;have hm1:=aQ hlt (by omega)
  have hc:=hE es[m] (List.getElem_mem hlt) (hfE _ (List.getElem_mem hlt)) (hes _ (List.getElem_mem hlt));refine wG jK (A16 @dU @dX @cX @cZ @dS @dR @dT @cY @dP @dO @dW @dA @List.getElem?_map.{0,0} @Int.natCast_nonneg hlt' (AI hg hm1)) ?_
  by_cases b:wit es[m]=true
  ·rw[b]at hc
   refine AR.callP hc @cW TI ?_;refine goG jK TI ?_;refine wG jK hm1 ?_;refine ALp.cutP 1 [(0,.ag [.im (.int .i64 k),.im (.int .i64 s),.im (.int .i64 c),.sl (es.map tyV) .ro,.sl (fs.map fdV) .ro]),(1,.pt 0 0),(3,(.im (.int .i64 ((((m+1:Nat)):Int)))))] [.box [.im (.int .i64 k),.im (.int .i64 s),.im (.int .i64 c),.sl (es.map tyV) .ro,.sl (fs.map fdV) .ro]] TI ?_;exact hnext (m+1) (by omega) (by omega) (hI.succ hlt b)
  ·have b:wit es[m]=false:=by simpa using b
   rw[b]at hc;refine AR.callP hc @cW TI ?_;refine goG jK TI ?_;refine wG jK hm1 ?_;rw[eR hlt b,Bool.and_false];exact aD
 ·have hall1:=hI.done (by omega)
  have hlt': ¬(m:Int)<(es.length:Int):=by omega
  clear hnext hI hm hlt;rw[hall1,Bool.and_true];refine wG jK hlt' ?_;clear hlt';refine aT ?_;refine ALp.cutP 1 [(0,.ag [.im (.int .i64 k),.im (.int .i64 s),.im (.int .i64 c),.sl (es.map tyV) .ro,.sl (fs.map fdV) .ro]),(1,.pt 0 0),(4,(.im (.int .i64 ((((0:Nat)):Int)))))] [.box [.im (.int .i64 k),.im (.int .i64 s),.im (.int .i64 c),.sl (es.map tyV) .ro,.sl (fs.map fdV) .ro]] TI ?_;refine ALp.upto fs.length (AllTo wit fs) (fun m=>⟨dn 41 [(0,.ag [.im (.int .i64 k),.im (.int .i64 s),.im (.int .i64 c),.sl (es.map tyV) .ro,.sl (fs.map fdV) .ro]),(1,.pt 0 0),(4,(.im (.int .i64 ((((m:Nat)):Int)))))],ofl [.box [.im (.int .i64 k),.im (.int .i64 s),.im (.int .i64 c),.sl (es.map tyV) .ro,.sl (fs.map fdV) .ro]]⟩) ?_ 0 (Nat.zero_le _) (AllTo.zero _ _)
  intro m hm hI hnext
  by_cases hlt:m<fs.length
  ·have hlt':(m:Int)<(fs.length:Int):=by omega
   have hg:=bJ hlt;have hm1:=aQ hlt (by omega)
   have hc:=hF fs[m] (List.getElem_mem hlt) (hfF _ (List.getElem_mem hlt)) (hfs _ (List.getElem_mem hlt));refine wG jK (A16 @dU @dX @cX @cZ @dS @dR @dT @cY @dP @dO @dW @dA @List.getElem?_map.{0,0} @Int.natCast_nonneg hlt' (AI hg hm1)) ?_
   by_cases b:wit fs[m]=true
   ·rw[b]at hc
    refine AR.callP hc @cW TI ?_;refine goG jK TI ?_;refine wG jK hm1 ?_;refine ALp.cutP 1 [(0,.ag [.im (.int .i64 k),.im (.int .i64 s),.im (.int .i64 c),.sl (es.map tyV) .ro,.sl (fs.map fdV) .ro]),(1,.pt 0 0),(4,(.im (.int .i64 ((((m+1:Nat)):Int)))))] [.box [.im (.int .i64 k),.im (.int .i64 s),.im (.int .i64 c),.sl (es.map tyV) .ro,.sl (fs.map fdV) .ro]] TI ?_;exact hnext (m+1) (by omega) (by omega) (hI.succ hlt b)
   ·have b:wit fs[m]=false:=by simpa using b
    rw[b]at hc;refine AR.callP hc @cW TI ?_;refine goG jK TI ?_;refine wG jK hm1 ?_;rw[eR hlt b];exact aD
  ·have hall:=hI.done (by omega)
   have hlt': ¬(m:Int)<(fs.length:Int):=by omega
   clear hnext hI hm hlt;rw[hall];refine wG jK hlt' ?_;exact aD
def oT:=AI @gR @gO
theorem BS:I64 64:=by unfold I64;omega
theorem JN(t:Ty)(hfit:fit t):PC Tryz.prog 89 [tyV t] (.im (.int .i64 (chk t))):=by
 have h1:=Xp t hfit 64 BS
 have h2:=EA t hfit
 have h3:frm t=true→_:=CY t hfit
 refine pcEnt 15 Tryz.func89 rfl [(0,tyV t)] ?_
 simp only[cW]
 unfold chk
 refine wG oT TI ?_
 by_cases b1:shal t 64=true
 case neg =>
  have b1:shal t 64=false:=by simpa using b1
  rw[b1]at h1 ⊢;refine AR.callP h1 @cW TI ?_;refine goG oT TI ?_;refine wG oT TI ?_;exact aD
 rw[b1]at h1 ⊢
 refine AR.callP h1 @cW TI ?_
 refine goG oT TI ?_
 refine wG oT TI ?_
 by_cases b2:frm t=true
 case neg =>
  have b2:frm t=false:=by simpa using b2
  rw[b2]at h2 ⊢;refine AR.callP h2 @cW TI ?_;refine goG oT TI ?_;refine wG oT TI ?_;exact aD
 have h3:=h3 b2
 rw[b2]at h2 ⊢
 refine AR.callP h2 @cW TI ?_
 refine goG oT TI ?_
 refine wG oT TI ?_
 by_cases b3:wit t=true
 case neg =>
  have b3:wit t=false:=by simpa using b3
  rw[b3]at h3 ⊢;refine AR.callP h3 @cW TI ?_;refine goG oT TI ?_;refine wG oT TI ?_;exact aD
 rw[b3]at h3 ⊢
 refine AR.callP h3 @cW TI ?_
 refine goG oT TI ?_
 refine wG oT TI ?_
 exact aD
def mK:=AI @gR @gO
theorem EF(t:Ty)(hfit:fit t):PC Tryz.prog 178 [tyV t] (.im (.int .i64 (chk t))):=by
 have h1:=DT t hfit 64 BS
 have h2:=Sa t hfit
 have h3:frm t=true→_:=Xq t hfit
 refine pcEnt 10 Tryz.func178 rfl [(0,tyV t)] ?_
 simp only[cW]
 unfold chk
 refine wG mK TI ?_
 by_cases b1:shal t 64=true
 case neg =>
  have b1:shal t 64=false:=by simpa using b1
  rw[b1]at h1 ⊢;refine AR.callP h1 @cW TI ?_;refine goG mK TI ?_;refine wG mK TI ?_;exact aD
 rw[b1]at h1 ⊢
 refine AR.callP h1 @cW TI ?_
 refine goG mK TI ?_
 refine wG mK TI ?_
 by_cases b2:frm t=true
 case neg =>
  have b2:frm t=false:=by simpa using b2
  rw[b2]at h2 ⊢;refine AR.callP h2 @cW TI ?_;refine goG mK TI ?_;refine wG mK TI ?_;exact aD
 have h3:=h3 b2
 rw[b2]at h2 ⊢
 refine AR.callP h2 @cW TI ?_
 refine goG mK TI ?_
 refine wG mK TI ?_
 by_cases b3:wit t=true
 case neg =>
  have b3:wit t=false:=by simpa using b3
  rw[b3]at h3 ⊢;refine AR.callP h3 @cW TI ?_;refine goG mK TI ?_;refine wG mK TI ?_;exact aD
 rw[b3]at h3 ⊢
 refine AR.callP h3 @cW TI ?_
 refine goG mK TI ?_
 refine wG mK TI ?_
 exact aD
end Go.Proofs.YtmbmmckagcdapaaGreatDoor
