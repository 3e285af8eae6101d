import Derived.Laws.Strings
import Derived.Test.YtmbmmckagcdapaaGreatDoorU10
import Derived.Test.YtmbmmckagcdapaaGreatDoorU05
set_option linter.all false
namespace Go.Proofs.YtmbmmckagcdapaaGreatDoor
open Go.RowKit
theorem iE(l:Bs):(ByteArray.mk l.toArray).size=l.length:=by simp[ByteArray.size]
theorem Gj(l:Bs):(ByteArray.mk l.toArray).toList=l:=by rw[ByteArray.toList_eq]
theorem Pm(l:Bs)(i:Nat):(ByteArray.mk l.toArray)[i]? =l[i]? :=by
 simp only[getElem?_def,ByteArray.size,List.size_toArray]
 split
 ·simp[ByteArray.getElem_eq_getElem_data]
 ·rfl
theorem Gk(a b:Bs):ByteArray.mk a.toArray++ByteArray.mk b.toArray=ByteArray.mk (a++b).toArray:=by
 apply ByteArray.ext
 simp[ByteArray.data_append]
theorem Db(l:Bs)(i j:Nat):(ByteArray.mk l.toArray).extract i j=ByteArray.mk ((l.drop i).take (j-i)).toArray:=by
 apply ByteArray.ext
 apply Array.toList_inj.1
 simp[ByteArray.data_extract]
def byB(b:UInt8):V:= .im (.int .u8 b.toNat)
theorem AU(l:Bs):byV (ByteArray.mk l.toArray)=l.map byB:=by simp[byV,byB]
theorem nA(l:Bs):lX (l.map byB)=some l:=by
 induction l with
 | nil=>rfl
 | cons c l ih =>
  have hc:=c.toNat_lt;simp only[List.map_cons,byB,lX];rw[if_pos ⟨by omega,by omega⟩,show lX (List.map byB l)=some l from ih]
  simp
theorem Mp(b:UInt8):(byB b).live=true:=rfl
theorem Mo(b:UInt8):(byB b).size=1:=rfl
theorem Mq(b:UInt8):(byB b).isAg=false:=rfl
theorem Gi(b:UInt8):(byB b).cells=[.im (.int .u8 b.toNat)]:=rfl
theorem Mr(b:UInt8):(byB b).firm=true:=rfl
theorem Gh(g:Bool)(b:UInt8):strip g (byB b)=byB b:=rfl
theorem aF(p:Nat→Bool)(l:Bs):V.idsL p (l.map byB)=true:=gY (fun _=>rfl) l
theorem lY(g:Nat→Nat)(l:Bs):V.renL g (l.map byB)=l.map byB:=V.renL_id g _ (aF _ l)
def tkV(t:Tk):V:= .ag [.im (.int .i64 t.kind),.im (.string ⟨t.text.toArray⟩),.im (.int .u32 t.n),.im (.int .i64 t.line),.im (.int .i64 t.col)]
theorem Jv(v:Tk):(tkV v).live=true:=rfl
theorem Ju(v:Tk):(tkV v).size=5:=rfl
theorem Jw(v:Tk):(tkV v).isAg=true:=rfl
theorem Jx(v:Tk):(tkV v).firm=true:=rfl
theorem En(g:Bool)(v:Tk):strip g (tkV v)=tkV v:=rfl
theorem Eo(t:Tk):(tkV t).cells=[.im (.int .i64 t.kind),.im (.string ⟨t.text.toArray⟩),.im (.int .u32 t.n),.im (.int .i64 t.line),.im (.int .i64 t.col)]:=rfl
theorem aB(p:Nat→Bool)(v:Tk):(tkV v).ids p=true:=rfl
theorem aC(p:Nat→Bool)(l:List Tk):V.idsL p (l.map tkV)=true:=gY (aB p) l
theorem aH(g:Nat→Nat)(t:Tk):V.ren g (tkV t)=tkV t:=V.ren_id g _ (aB _ t)
theorem aI(g:Nat→Nat)(l:List Tk):V.renL g (l.map tkV)=l.map tkV:=V.renL_id g _ (aC _ l)
theorem BY:type_of%(A15 @iE @Gj @Pm @Db @AU @nA @Mp @Mo @Mq @Gi @Mr @Gh @List.getElem?_map.{0,0} @List.length_map.{0,0} @Int.natCast_nonneg) :=
 A15 @iE @Gj @Pm @Db @AU @nA @Mp @Mo @Mq @Gi @Mr @Gh @List.getElem?_map.{0,0} @List.length_map.{0,0} @Int.natCast_nonneg
theorem TKT:type_of%(A9 @Jx @En @Jv @Ju @Jw @Eo @List.getElem?_map.{0,0} @List.length_map.{0,0} @Int.natCast_nonneg) :=
 A9 @Jx @En @Jv @Ju @Jw @Eo @List.getElem?_map.{0,0} @List.length_map.{0,0} @Int.natCast_nonneg
def GDS:=A8 @Option.getD_none.{0} @Option.getD_some.{0} Int.toNat_natCast Int.toNat_zero Nat.sub_zero @List.drop_zero.{0} Int.natCast_nonneg Int.le_refl
def jY:=A15 @xN @xL @sM @jG @rI @oC @sJ @sI @pB @rF @kR @pA @xG @nY @jF
set_option maxHeartbeats 400000 in
theorem Ul: ∀(t:Ty),fit t→ ∀(n:Int),I64 n→PC Tryz.prog 157 [tyV t,(.im (.int .i64 (n)))] (.im (.bool (shal t n))):=by
 refine Ty.induct fun o k s c es fs hE hF=> ?_
 intro hfit n hn
 unfold I64 at hn
 obtain⟨hl1,hl2,hfE,hfF⟩:=qH hfit
 refine PC.enter 38 Tryz.func157 rfl (by decide) rfl rfl (s:=[(0,tyV (.mk o k s c es fs)),(1,(.im (.int .i64 (n))))]) (by rfl) ?_
 simp only[fY]
 by_cases h1:n<1
 ·have hr:shal (.mk o k s c es fs) n=false:=by
   rw[Aa];have:decide (1≤n)=false:=by simp;omega
   simp[this]
  rw[hr];refine wG jY h1 ?_;exact aM
 ·have hn1:IntKind.i64.wrap (n-1)=n-1:=cM (by omega)
  refine wG jY h1 ?_;refine bH ?_;refine ALp.cutP 1 [(0,.ag [.im (.int .i64 k),.im (.int .i64 s),.im (.int .i64 c),.sl (es.map tyV) .ro,.sl (fs.map fdV) .ro]),(1,(.im (.int .i64 (n)))),(2,.pt 0 0),(4,.im (.bool false)),(12,.sl (es.map tyV) .ro),(13,(.im (.int .i64 (es.length)))),(14,(.im (.int .i64 (0))))] [.box [.im (.int .i64 k),.im (.int .i64 s),.im (.int .i64 c),.sl (es.map tyV) .ro,.sl (fs.map fdV) .ro]] TI ?_;refine ALp.upto es.length (AllTo (fun t=>shal t (n-1)) es) (fun m=>⟨dn 38 [(0,.ag [.im (.int .i64 k),.im (.int .i64 s),.im (.int .i64 c),.sl (es.map tyV) .ro,.sl (fs.map fdV) .ro]),(1,(.im (.int .i64 (n)))),(2,.pt 0 0),(4,.im (.bool false)),(12,.sl (es.map tyV) .ro),(13,(.im (.int .i64 (es.length)))),(14,(.im (.int .i64 (m))))],ofl [.box [.im (.int .i64 k),.im (.int .i64 s),.im (.int .i64 c),.sl (es.map tyV) .ro,.sl (fs.map fdV) .ro]]⟩) ?_ 0 (Nat.zero_le _) (AllTo.zero _ _)
  intro m hm hI hnext
  by_cases hlt:m<es.length
  ·have hlt':(m:Int)<(es.length:Int):=by omega
   have hg:=cC hlt;have hm1:=bD hlt (by omega)
   have hc:=hE es[m] (List.getElem_mem hlt) (hfE _ (List.getElem_mem hlt)) (n-1) (by unfold I64;omega)
   refine wG jY (A16 @eS @eU @dK @dN @eQ @eP @eR @dL @eH @eG @eT @dO @List.getElem?_map.{0,0} @Int.natCast_nonneg hlt' (A3 hg hn1 hm1)) ?_;refine AR.callP hc @dS TI ?_
   by_cases hsh:shal es[m] (n-1)=true
   ·refine goG jY hsh ?_
    refine wG jY hm1 ?_;refine ALp.cutP 1 [(0,.ag [.im (.int .i64 k),.im (.int .i64 s),.im (.int .i64 c),.sl (es.map tyV) .ro,.sl (fs.map fdV) .ro]),(1,(.im (.int .i64 (n)))),(2,.pt 0 0),(4,.im (.bool false)),(12,.sl (es.map tyV) .ro),(13,(.im (.int .i64 (es.length)))),(14,(.im (.int .i64 (((m+1:Nat):Int)))))] [.box [.im (.int .i64 k),.im (.int .i64 s),.im (.int .i64 c),.sl (es.map tyV) .ro,.sl (fs.map fdV) .ro]] TI ?_;exact hnext (m+1) (by omega) (by omega) (hI.succ hlt hsh)
   ·have hsh:shal es[m] (n-1)=false:=by simpa using hsh
    refine goG jY hsh ?_;refine wG jY hm1 ?_;rw[Aa,oN hlt hsh];simp only[Bool.and_false,Bool.false_and];exact aM
  ·have hall1:=hI.done (by omega)
   have hlt': ¬(m:Int)<(es.length:Int):=by omega
   clear hnext hI hm hlt;refine wG jY hlt' ?_;clear hlt';refine bH ?_;refine ALp.cutP 1 [(0,.ag [.im (.int .i64 k),.im (.int .i64 s),.im (.int .i64 c),.sl (es.map tyV) .ro,.sl (fs.map fdV) .ro]),(1,(.im (.int .i64 (n)))),(2,.pt 0 0),(4,.im (.bool false)),(25,.sl (fs.map fdV) .ro),(26,(.im (.int .i64 (fs.length)))),(27,(.im (.int .i64 (0))))] [.box [.im (.int .i64 k),.im (.int .i64 s),.im (.int .i64 c),.sl (es.map tyV) .ro,.sl (fs.map fdV) .ro]] TI ?_;refine ALp.upto fs.length (AllTo (fun t=>shal t (n-1)) fs) (fun m=>⟨dn 38 [(0,.ag [.im (.int .i64 k),.im (.int .i64 s),.im (.int .i64 c),.sl (es.map tyV) .ro,.sl (fs.map fdV) .ro]),(1,(.im (.int .i64 (n)))),(2,.pt 0 0),(4,.im (.bool false)),(25,.sl (fs.map fdV) .ro),(26,(.im (.int .i64 (fs.length)))),(27,(.im (.int .i64 (m))))],ofl [.box [.im (.int .i64 k),.im (.int .i64 s),.im (.int .i64 c),.sl (es.map tyV) .ro,.sl (fs.map fdV) .ro]]⟩) ?_ 0 (Nat.zero_le _) (AllTo.zero _ _)
   intro m hm hI hnext
   by_cases hlt:m<fs.length
   ·have hlt':(m:Int)<(fs.length:Int):=by omega
    have hg:=cC hlt;have hm1:=bD hlt (by omega)
    have hc:=hF fs[m] (List.getElem_mem hlt) (hfF _ (List.getElem_mem hlt)) (n-1) (by unfold I64;omega)
    refine wG jY (A16 @eS @eU @dK @dN @eQ @eP @eR @dL @eH @eG @eT @dO @List.getElem?_map.{0,0} @Int.natCast_nonneg hlt' (A3 hg hn1 hm1)) ?_;refine AR.callP hc @dS TI ?_
    by_cases hsh:shal fs[m] (n-1)=true
    ·refine goG jY hsh ?_
     refine wG jY hm1 ?_;refine ALp.cutP 1 [(0,.ag [.im (.int .i64 k),.im (.int .i64 s),.im (.int .i64 c),.sl (es.map tyV) .ro,.sl (fs.map fdV) .ro]),(1,(.im (.int .i64 (n)))),(2,.pt 0 0),(4,.im (.bool false)),(25,.sl (fs.map fdV) .ro),(26,(.im (.int .i64 (fs.length)))),(27,(.im (.int .i64 (((m+1:Nat):Int)))))] [.box [.im (.int .i64 k),.im (.int .i64 s),.im (.int .i64 c),.sl (es.map tyV) .ro,.sl (fs.map fdV) .ro]] TI ?_;exact hnext (m+1) (by omega) (by omega) (hI.succ hlt hsh)
    ·have hsh:shal fs[m] (n-1)=false:=by simpa using hsh
     refine goG jY hsh ?_;refine wG jY hm1 ?_;rw[Aa,oN hlt hsh];simp only[Bool.and_false];exact aM
   ·have hall2:=hI.done (by omega)
    have hlt': ¬(m:Int)<(fs.length:Int):=by omega
    clear hnext hI hm hlt;refine wG jY hlt' ?_;rw[Aa,hall1,hall2];have:decide (1≤n)=true:=by simp;omega
    rw[this];simp only[Bool.and_self];exact aM
theorem Yj(a b:Int):(if b<a then b else a)=min a b:=by omega
theorem IP(a b:Int):(if b>a then b else a)=max a b:=by omega
def ends(fs:List Ty)(m:Nat):Int:=((fs.take m).map fun f=>f.off+siz f).foldl max 0
theorem Ui{fs:List Ty}{m:Nat}(h:m<fs.length):ends fs (m+1)=max (ends fs m) (fs[m].off+siz fs[m]):=by
 unfold ends
 rw[List.take_succ_eq_append_getElem h,List.map_append,List.foldl_append]
 rfl
theorem Zg(fs:List Ty):ends fs fs.length=(fs.map fun f=>f.off+siz f).foldl max 0:=by
 unfold ends
 rw[List.take_length]
def lK:=A16 @xN @cQ @xL @sM @jG @rI @sJ @sI @vQ @pB @zD @zC @zB @rF @kR (A5 @pA @cN @xG @nY @jF)
set_option maxHeartbeats 400000 in
theorem JJ: ∀(t:Ty),fit t→frm t=true→PC Tryz.prog 212 [tyV t] (.im (.int .i64 (siz t))):=by
 refine Ty.induct fun o k s c es fs hE hF=> ?_
 intro hfit hfrm
 obtain⟨hl1,hl2,hfE,hfF⟩:=qH hfit
 obtain⟨hb,hof,hfs,hes⟩:=Hr hfrm
 refine PC.enter 45 Tryz.func212 rfl (by decide) rfl rfl (s:=[(0,tyV (.mk o k s c es fs))]) (by rfl) ?_
 simp only[fY]
 rw[Oh]
 rcases vK hb with h1|h1|h1|h1|h1
 ·obtain⟨h1,rfl,rfl,_,_⟩:=h1
  rcases h1 with rfl|rfl
  all_goals
   refine wG lK TI ?_;exact aM
 ·obtain⟨h1,h2,rfl,_,_⟩:=h1
  have e:min s 65537=s:=by omega
  have hs: ¬(65537:Int)<s:=by omega
  rcases h1 with rfl|rfl
  ·refine wG lK hs ?_
   simp only[Int.reduceBEq,Bool.true_or,Bool.or_true,if_true,e];exact aM
  ·refine wG lK hs ?_
   simp only[Int.reduceBEq,Bool.true_or,Bool.or_true,if_true,e];exact aM
 ·obtain⟨rfl,rfl,rfl,_,_⟩:=h1
  refine wG lK TI ?_;exact aM
 ·obtain⟨rfl,rfl,h2,h3,h4,_⟩:=h1
  obtain⟨x,rfl⟩:=List.length_eq_one_iff.1 h4;have hc:=hE x (by simp) (hfE x (by simp)) (hes x (by simp))
  have hx0:=Bi x (hes x (by simp))
  have hx1:=Xf x
  have hw:IntKind.i64.wrap (c*siz x)=c*siz x:=cM (by
   have h5:0≤c*siz x:=Int.mul_nonneg (by omega) hx0
   have h6:c*siz x≤65536*65537:=Int.mul_le_mul h3 hx1 hx0 (by omega)
   omega)
  refine wdG lK BN07 ?_;refine AR.callP hc @dS TI ?_;refine goG lK hw ?_;refine wdG lK (AI hw Yj) ?_;simp only[Int.reduceBEq,Bool.or_self,Bool.false_eq_true,if_false,if_true,List.map_cons,List.headD_cons];exact aM
 ·obtain⟨rfl,rfl,rfl,_⟩:=h1
  have hoff: ∀i,(hi:i<fs.length)→0≤fs[i].off∧fs[i].off<65536:=fun i hi=>DM hi (hof i hi)
  refine wdG lK BN07 ?_;refine bH ?_;refine ALp.cutP 1 [(0,.ag [.im (.int .i64 5),.im (.int .i64 0),.im (.int .i64 0),.sl (es.map tyV) .ro,.sl (fs.map fdV) .ro]),(1,.pt 0 0),(2,(.im (.int .i64 (0)))),(3,(.im (.int .i64 (ends fs (0))))),(28,.sl (fs.map fdV) .ro),(29,(.im (.int .i64 (fs.length)))),(30,(.im (.int .i64 (((0:Nat):Int)))))] [.box [.im (.int .i64 5),.im (.int .i64 0),.im (.int .i64 0),.sl (es.map tyV) .ro,.sl (fs.map fdV) .ro]] TI ?_;refine ALp.upto fs.length (fun _=>True) (fun m=>⟨dn 45 [(0,.ag [.im (.int .i64 5),.im (.int .i64 0),.im (.int .i64 0),.sl (es.map tyV) .ro,.sl (fs.map fdV) .ro]),(1,.pt 0 0),(2,(.im (.int .i64 (0)))),(3,(.im (.int .i64 (ends fs (m))))),(28,.sl (fs.map fdV) .ro),(29,(.im (.int .i64 (fs.length)))),(30,(.im (.int .i64 (((m:Nat):Int)))))],ofl [.box [.im (.int .i64 5),.im (.int .i64 0),.im (.int .i64 0),.sl (es.map tyV) .ro,.sl (fs.map fdV) .ro]]⟩) ?_ 0 (Nat.zero_le _) trivial
  intro m hm _ hnext
  by_cases hlt:m<fs.length
  ·have hlt':(m:Int)<(fs.length:Int):=by omega
   have hg:=cC hlt;have hm1:=bD hlt (by omega)
   have hc:=hF fs[m] (List.getElem_mem hlt) (hfF _ (List.getElem_mem hlt)) (hfs _ (List.getElem_mem hlt));have ho:=hoff m hlt;have hx0:=Bi fs[m] (hfs _ (List.getElem_mem hlt));have hx1:=Xf fs[m];have hw:IntKind.i64.wrap (fs[m].off+siz fs[m])=fs[m].off+siz fs[m]:=cM (by omega)
   have he:=(Ui hlt).symm;refine wdG lK (A16 @eS @eU @dK @dN @eQ @eP @eR @dL @eH @eG @eT @dO @List.getElem?_map.{0,0} @Int.natCast_nonneg hlt' (AI hg hm1)) ?_;refine AR.callP hc @dS TI ?_;refine goG lK (A3 hw IP he) ?_;refine wdG lK hm1 ?_;refine ALp.cutP 1 [(0,.ag [.im (.int .i64 5),.im (.int .i64 0),.im (.int .i64 0),.sl (es.map tyV) .ro,.sl (fs.map fdV) .ro]),(1,.pt 0 0),(2,(.im (.int .i64 (0)))),(3,(.im (.int .i64 (ends fs (m+1))))),(28,.sl (fs.map fdV) .ro),(29,(.im (.int .i64 (fs.length)))),(30,(.im (.int .i64 (((m+1:Nat):Int)))))] [.box [.im (.int .i64 5),.im (.int .i64 0),.im (.int .i64 0),.sl (es.map tyV) .ro,.sl (fs.map fdV) .ro]] TI ?_;exact hnext (m+1) (by omega) (by omega) trivial
  ·obtain rfl:m=fs.length:=by omega
   have hlt': ¬(fs.length:Int)<(fs.length:Int):=by omega
   clear hnext;refine wdG lK (AI hlt' Yj) ?_;simp only[Int.reduceBEq,Bool.or_self,Bool.false_eq_true,if_false,if_true,←Zg];exact aM
def seen(fs:List Ty)(m:Nat):Prop:= ∀j (hj:j<fs.length),j<m→fok fs j=true∧frm fs[j]=true
theorem seen.succ{fs:List Ty}{m:Nat}(h:seen fs m)(hm:m<fs.length)(h1:fok fs m=true)(h2:frm fs[m]=true):seen fs (m+1):=by
 intro j hj hlt
 rcases Nat.lt_succ_iff_lt_or_eq.1 hlt with h3|rfl
 ·exact h j hj h3
 ·exact⟨h1,h2⟩
theorem seen.done{fs:List Ty}(h:seen fs fs.length):(asc fs&&fs.all frm)=true:=by
 simp only[Bool.and_eq_true,asc,List.all_eq_true,List.mem_range]
 refine⟨fun i hi=>(h i hi hi).1,fun t ht=> ?_⟩
 obtain⟨i,hi,rfl⟩:=List.getElem_of_mem ht
 exact(h i hi hi).2
theorem unseen{fs:List Ty}{m:Nat}(hm:m<fs.length)(h: ¬(fok fs m=true∧frm fs[m]=true)):(asc fs&&fs.all frm)=false:=by
 rw[Bool.eq_false_iff]
 intro hn
 simp only[Bool.and_eq_true,asc,List.all_eq_true,List.mem_range]at hn
 exact h ⟨hn.1 m hm,hn.2 _ (List.getElem_mem hm)⟩
theorem Ym{fs:List Ty}(hi:0<fs.length):fok fs 0=(decide (0≤fs[0].off)&&decide (fs[0].off<65536)):=by
 unfold fok
 have e:(fs.map Ty.off).getD 0 0=fs[0].off:=by simp[List.getD,hi]
 rw[e]
 simp
theorem Yn{fs:List Ty}{j:Nat}(hi:j+1<fs.length):fok fs (j+1)=(decide (0≤fs[j+1].off)&&decide (fs[j+1].off<65536)&&decide (fs[j].off<fs[j+1].off)):=by
 unfold fok
 have hj:j<fs.length:=by omega
 have e:(fs.map Ty.off).getD (j+1) 0=fs[j+1].off:=by simp[List.getD,hi]
 have e2:(fs.map Ty.off).getD (j+1-1) 0=fs[j].off:=by simp[List.getD,hj]
 rw[e,e2]
 simp
theorem DN{fs:List Ty}{m:Nat}(hm:m<fs.length):fok fs m=true↔0≤fs[m].off∧fs[m].off<65536∧(m=0∨(fs[m-1]'(by omega)).off<fs[m].off):=by
 cases m with
 | zero=>rw[Ym hm];simp
 | succ j=>rw[Yn hm];simp[and_assoc]
theorem oO{o:Int}{fs:List Ty}{m:Nat}(hm:m<fs.length)(h: ¬(fok fs m=true∧frm fs[m]=true)):frm (.mk o 5 0 0 [] fs)=false:=by
 rw[Ci]
 have:=unseen hm h
 simp only[Bool.and_eq_false_iff]at this ⊢
 exact .inl (this.elim (fun h=> .inl (.inr h)) .inr)
theorem pP{o k s c:Int}{es fs:List Ty}(h:base k s c es.length fs.length=false):frm (.mk o k s c es fs)=false:=by rw[Ci,h];rfl
theorem Hq{o k s c:Int}{es fs:List Ty}(hb:base k s c es.length fs.length=true)(hf:fs=[]):frm (.mk o k s c es fs)=es.all frm:=by
 subst hf
 rw[Ci,hb]
 simp[asc]
def cU:=A16 @xN @cQ @xL @sM @jG @rI @oC @sJ @sI @vQ @pB @zD @zC @zB @rF (A7 @kR @sF @pA @cN @xG @nY @jF)
set_option maxRecDepth 100000 in
set_option maxHeartbeats 2000000 in
theorem formed5{o s c:Int}{es fs:List Ty}(hF: ∀t∈fs,fit t→PC Tryz.prog 158 [tyV t] (.im (.bool (frm t))))(hfit:fit (.mk o 5 s c es fs)):PC Tryz.prog 158 [tyV (.mk o 5 s c es fs)] (.im (.bool (frm (.mk o 5 s c es fs)))):=by
 obtain⟨hl1,hl2,hfE,hfF⟩:=qH hfit
 refine PC.enter 131 Tryz.func158 rfl (by decide) rfl rfl (s:=[(0,tyV (.mk o 5 s c es fs))]) (by rfl) ?_
 simp only[fY]
 refine wdG cU TI ?_
 refine mT rfl rfl (fun h=> ?_) (fun h=> ?_)
 ·rw[pP (by simp[base, -List.length_eq_zero_iff]at h ⊢;omega)]
  refine wG cU TI ?_;exact aM
 ·obtain⟨rfl,rfl,he⟩:s=0∧c=0∧es.length=0:=by simp[-List.length_eq_zero_iff]at h;omega
  obtain rfl:=List.length_eq_zero_iff.1 he;refine wdG cU TI ?_;refine bH ?_;refine ALp.cutP 1 [(0,.ag [.im (.int .i64 5),.im (.int .i64 0),.im (.int .i64 0),.sl [] .ro,.sl (fs.map fdV) .ro]),(1,.pt 0 0),(4,(.im (.int .i64 (0)))),(5,(.im (.bool (true)))),(84,.sl (fs.map fdV) .ro),(85,(.im (.int .i64 (fs.length)))),(86,(.im (.int .i64 (((0:Nat):Int)))))] [.box [.im (.int .i64 5),.im (.int .i64 0),.im (.int .i64 0),.sl [] .ro,.sl (fs.map fdV) .ro]] TI ?_;refine ALp.upto fs.length (fun m=>seen fs m) (fun m=>⟨dn 131 [(0,.ag [.im (.int .i64 5),.im (.int .i64 0),.im (.int .i64 0),.sl [] .ro,.sl (fs.map fdV) .ro]),(1,.pt 0 0),(4,(.im (.int .i64 (0)))),(5,(.im (.bool (true)))),(84,.sl (fs.map fdV) .ro),(85,(.im (.int .i64 (fs.length)))),(86,(.im (.int .i64 (((m:Nat):Int)))))],ofl [.box [.im (.int .i64 5),.im (.int .i64 0),.im (.int .i64 0),.sl [] .ro,.sl (fs.map fdV) .ro]]⟩) ?_ 0 (Nat.zero_le _) (fun j _ hj=>absurd hj (Nat.not_lt_zero _))
  intro m hm hI hnext
  by_cases hlt:m<fs.length
  ·have hlt':(m:Int)<(fs.length:Int):=by omega
   have hg:=cC hlt;have hm1:=bD hlt (by omega)
   have hk:=DN hlt
   by_cases a1:fs[m].off<0
   ·rw[oO hlt (fun h=>by have:=hk.1 h.1;omega)]
    refine wdG cU (A16 @eS @eU @dK @dN @eQ @eP @eR @dL @eH @eG @eT @dO @List.getElem?_map.{0,0} @Int.natCast_nonneg hlt' (A3 hg hm1 a1)) ?_;exact aM
   by_cases a2:fs[m].off≥65536
   ·rw[oO hlt (fun h=>by have:=hk.1 h.1;omega)]
    refine wdG cU (A16 @eS @eU @dK @dN @eQ @eP @eR @dL @eH @eG @eT @dO @List.getElem?_map.{0,0} @Int.natCast_nonneg hlt' (A4 hg hm1 a1 a2)) ?_;exact aM
   have hc:=hF fs[m] (List.getElem_mem hlt) (hfF _ (List.getElem_mem hlt))
   by_cases a3:(m:Int)>0
   ·have hg2:=cC (l:=fs) (m:=m-1) (by omega)
    have hp:IntKind.i64.wrap ((m:Int)-1)=((m-1:Nat):Int):=by rw[cM (by omega)];omega
    by_cases a4:fs[m].off≤(fs[m-1]'(by omega)).off
    ·rw[oO hlt (fun h=>by have:=hk.1 h.1;omega)]
     refine wdG cU (A16 @eS @eU @dK @dN @eQ @eP @eR @dL @eH @eG @eT @dO @List.getElem?_map.{0,0} @Int.natCast_nonneg hlt' (A8 hg hm1 a1 a2 a3 hg2 hp a4)) ?_;exact aM
    ·have hk2:fok fs m=true:=hk.2 (by omega)
     refine wdG cU (A16 @eS @eU @dK @dN @eQ @eP @eR @dL @eH @eG @eT @dO @List.getElem?_map.{0,0} @Int.natCast_nonneg hlt' (A8 hg hm1 a1 a2 a3 hg2 hp a4)) ?_
     by_cases b:frm fs[m]=true
     ·rw[b]at hc
      refine AR.callP hc @dS TI ?_;refine goG cU TI ?_;refine wdG cU hm1 ?_;refine ALp.cutP 1 [(0,.ag [.im (.int .i64 5),.im (.int .i64 0),.im (.int .i64 0),.sl [] .ro,.sl (fs.map fdV) .ro]),(1,.pt 0 0),(4,(.im (.int .i64 (0)))),(5,(.im (.bool (true)))),(84,.sl (fs.map fdV) .ro),(85,(.im (.int .i64 (fs.length)))),(86,(.im (.int .i64 (((m+1:Nat):Int)))))] [.box [.im (.int .i64 5),.im (.int .i64 0),.im (.int .i64 0),.sl [] .ro,.sl (fs.map fdV) .ro]] TI ?_;exact hnext (m+1) (by omega) (by omega) (hI.succ hlt hk2 b)
     ·rw[oO hlt (fun h=>b h.2)]
      rw[Bool.eq_false_iff.2 b]at hc;refine AR.callP hc @dS TI ?_;refine goG cU TI ?_;refine wdG cU hm1 ?_;exact aM
   ·have hk2:fok fs m=true:=hk.2 (by omega)
    refine wdG cU (A16 @eS @eU @dK @dN @eQ @eP @eR @dL @eH @eG @eT @dO @List.getElem?_map.{0,0} @Int.natCast_nonneg hlt' (A5 hg hm1 a1 a2 a3)) ?_
    by_cases b:frm fs[m]=true
    ·rw[b]at hc
     refine AR.callP hc @dS TI ?_;refine goG cU TI ?_;refine wdG cU hm1 ?_;refine ALp.cutP 1 [(0,.ag [.im (.int .i64 5),.im (.int .i64 0),.im (.int .i64 0),.sl [] .ro,.sl (fs.map fdV) .ro]),(1,.pt 0 0),(4,(.im (.int .i64 (0)))),(5,(.im (.bool (true)))),(84,.sl (fs.map fdV) .ro),(85,(.im (.int .i64 (fs.length)))),(86,(.im (.int .i64 (((m+1:Nat):Int)))))] [.box [.im (.int .i64 5),.im (.int .i64 0),.im (.int .i64 0),.sl [] .ro,.sl (fs.map fdV) .ro]] TI ?_;exact hnext (m+1) (by omega) (by omega) (hI.succ hlt hk2 b)
    ·rw[oO hlt (fun h=>b h.2)]
     rw[Bool.eq_false_iff.2 b]at hc;refine AR.callP hc @dS TI ?_;refine goG cU TI ?_;refine wdG cU hm1 ?_;exact aM
  ·obtain rfl:m=fs.length:=by omega
   have hlt': ¬(fs.length:Int)<(fs.length:Int):=by omega
   clear hnext
   have e:frm (.mk o 5 0 0 [] fs)=true:=by
    rw[Ci,show base 5 0 0 ([]:List Ty).length fs.length=true from by simp[base]]
    simpa using hI.done
   rw[e];refine wdG cU hlt' ?_;exact aM
set_option maxRecDepth 100000 in
set_option maxHeartbeats 2000000 in
theorem AK: ∀(t:Ty),fit t→PC Tryz.prog 158 [tyV t] (.im (.bool (frm t))):=by
 refine Ty.induct fun o k s c es fs hE hF=> ?_
 intro hfit
 obtain⟨hl1,hl2,hfE,hfF⟩:=qH hfit
 by_cases k5:k=5
 ·subst k5
  exact formed5 hF hfit
 refine PC.enter 131 Tryz.func158 rfl (by decide) rfl rfl (s:=[(0,tyV (.mk o k s c es fs))]) (by rfl) ?_
 simp only[fY]
 by_cases k0:k=0∨k=6
 ·rcases k0 with rfl|rfl
  all_goals
   refine wdG cU TI ?_;refine mT rfl rfl (fun h=> ?_) (fun h=> ?_)
   ·rw[pP (by simp[base, -List.length_eq_zero_iff]at h ⊢;omega)]
    refine wG cU TI ?_;exact aM
   ·obtain⟨rfl,rfl,he,hf⟩:s=0∧c=0∧es.length=0∧fs.length=0:=by simp[-List.length_eq_zero_iff]at h;omega
    obtain rfl:=List.length_eq_zero_iff.1 he;obtain rfl:=List.length_eq_zero_iff.1 hf;rw[Hq (by decide) rfl]
    refine wdG cU TI ?_;refine bH (cD ?_);refine wG cU TI ?_;exact aM
 by_cases k1:k=1∨k=2
 ·rcases k1 with rfl|rfl
  all_goals
   refine wdG cU TI ?_;refine mT rfl rfl (fun h=> ?_) (fun h=> ?_)
   ·rw[pP (by simp[base, -List.length_eq_zero_iff]at h ⊢;omega)]
    refine wG cU TI ?_;exact aM
   ·have hs:s=1∨s=2∨s=4:=by simp[-List.length_eq_zero_iff]at h;omega
    refine wdG cU TI ?_;refine mT rfl rfl (fun h=> ?_) (fun h=> ?_)
    ·rw[pP (by simp[base, -List.length_eq_zero_iff]at h ⊢;omega)]
     refine wG cU TI ?_;exact aM
    ·obtain⟨rfl,he,hf⟩:c=0∧es.length=0∧fs.length=0:=by simp[-List.length_eq_zero_iff]at h;omega
     obtain rfl:=List.length_eq_zero_iff.1 he;obtain rfl:=List.length_eq_zero_iff.1 hf;rw[Hq (by simp[base, -List.length_eq_zero_iff];omega) rfl]
     refine wdG cU TI ?_;refine bH (cD ?_);refine wG cU TI ?_;exact aM
 by_cases k3:k=3
 ·subst k3
  refine wdG cU TI ?_;refine mT rfl rfl (fun h=> ?_) (fun h=> ?_)
  ·rw[pP (by simp[base, -List.length_eq_zero_iff]at h ⊢;omega)]
   refine wG cU TI ?_;exact aM
  ·obtain⟨rfl,rfl,he,hf⟩:s=0∧c=0∧es.length=1∧fs.length=0:=by simp[-List.length_eq_zero_iff]at h;omega
   obtain⟨x,rfl⟩:=List.length_eq_one_iff.1 he;obtain rfl:=List.length_eq_zero_iff.1 hf;have hc:=hE x (by simp) (hfE x (by simp))
   rw[Hq (by simp[base]) rfl]
   refine wdG cU TI ?_;refine bH (cD ?_);refine wdG cU BN07 ?_;refine AR.callP hc @dS TI ?_;refine goG cU TI ?_;simp only[List.all_cons,List.all_nil,Bool.and_true];refine wdG cU TI ?_;exact aM
 by_cases k4:k=4
 ·subst k4
  refine wdG cU TI ?_;refine mT rfl rfl (fun h=> ?_) (fun h=> ?_)
  ·rw[pP (by simp[base, -List.length_eq_zero_iff]at h ⊢;omega)]
   refine wG cU TI ?_;exact aM
  ·have hs:1≤c∧c≤65536:=by simp[-List.length_eq_zero_iff]at h;omega
   refine wdG cU TI ?_;refine mT rfl rfl (fun h=> ?_) (fun h=> ?_)
   ·rw[pP (by simp[base, -List.length_eq_zero_iff]at h ⊢;omega)]
    refine wG cU TI ?_;exact aM
   ·obtain⟨rfl,he,hf⟩:s=0∧es.length=1∧fs.length=0:=by simp[-List.length_eq_zero_iff]at h;omega
    obtain⟨x,rfl⟩:=List.length_eq_one_iff.1 he;obtain rfl:=List.length_eq_zero_iff.1 hf;have hc:=hE x (by simp) (hfE x (by simp))
    rw[Hq (by simp[base, -List.length_eq_zero_iff];omega) rfl]
    refine wdG cU TI ?_;refine bH (cD ?_);refine wdG cU BN07 ?_;refine AR.callP hc @dS TI ?_;refine goG cU TI ?_;simp only[List.all_cons,List.all_nil,Bool.and_true];refine wdG cU TI ?_;exact aM
 have k6: ¬k=6:=by omega
 have k2: ¬k=2:=by omega
 replace k0: ¬k=0:=by omega
 replace k1: ¬k=1:=by omega
 rw[pP (by simp[base,k0,k1,k2,k3,k4,k5,k6])]
 refine wdG cU (A7 k0 k1 k2 k3 k4 k5 k6) ?_
 exact aM
theorem AW{k s c:Int}{ne nf:Nat}(h:base k s c ne nf=true):ne=0∨ne=1:=by
 rcases vK h with h|h|h|h|h<;>omega
def jN:=A14 @xN @xL @sM @jG @rI @sJ @sI @pB @rF @kR @pA @xG @nY @jF
set_option maxHeartbeats 1000000 in
theorem Zn: ∀(t:Ty),fit t→frm t=true→PC Tryz.prog 159 [tyV t] (.im (.bool (wit t))):=by
 refine Ty.induct fun o k s c es fs hE hF=> ?_
 intro hfit hfrm
 obtain⟨hl1,hl2,hfE,hfF⟩:=qH hfit
 obtain⟨hb,hof,hfs,hes⟩:=Hr hfrm
 have hs:=JJ _ hfit hfrm
 refine PC.enter 37 Tryz.func159 rfl (by decide) rfl rfl (s:=[(0,tyV (.mk o k s c es fs))]) (by rfl) ?_
 simp only[fY]
 by_cases h1:(fs.length:Int)>64
 ·have e:wit (.mk o k s c es fs)=false:=by rw[Ns];simp;omega
  rw[e];refine wG jN h1 ?_;exact aM
 refine wG jN h1 ?_
 refine AR.callP hs @fY TI ?_
 by_cases h2:siz (.mk o k s c es fs)>65536
 ·have e:wit (.mk o k s c es fs)=false:=by rw[Ns];simp;omega
  rw[e];refine goG jN (AI h1 h2) ?_;refine wG jN TI ?_;exact aM
 refine goG jN (AI h1 h2) ?_
 have e0:wit (.mk o k s c es fs)=(fs.all wit&&es.all wit):=by
  rw[Ns];have a1:decide (fs.length≤64)=true:=by simp;omega
  have a2:decide (siz (.mk o k s c es fs)≤65536)=true:=by simp;omega
  rw[a1,a2];simp
 rw[e0]
 clear hs h2 e0
 refine wG jN TI ?_
 refine bH ?_
 refine ALp.cutP 1 [(0,.ag [.im (.int .i64 k),.im (.int .i64 s),.im (.int .i64 c),.sl (es.map tyV) .ro,.sl (fs.map fdV) .ro]),(1,.pt 0 0),(15,.sl (fs.map fdV) .ro),(16,(.im (.int .i64 (fs.length)))),(17,(.im (.int .i64 ((((0:Nat)):Int)))))] [.box [.im (.int .i64 k),.im (.int .i64 s),.im (.int .i64 c),.sl (es.map tyV) .ro,.sl (fs.map fdV) .ro]] TI ?_
 refine ALp.upto fs.length (AllTo wit fs) (fun m=>⟨dn 37 [(0,.ag [.im (.int .i64 k),.im (.int .i64 s),.im (.int .i64 c),.sl (es.map tyV) .ro,.sl (fs.map fdV) .ro]),(1,.pt 0 0),(15,.sl (fs.map fdV) .ro),(16,(.im (.int .i64 (fs.length)))),(17,(.im (.int .i64 ((((m:Nat)):Int)))))],ofl [.box [.im (.int .i64 k),.im (.int .i64 s),.im (.int .i64 c),.sl (es.map tyV) .ro,.sl (fs.map fdV) .ro]]⟩) ?_ 0 (Nat.zero_le _) (AllTo.zero _ _)
 intro m hm hI hnext
 by_cases hlt:m<fs.length
 ·have hlt':(m:Int)<(fs.length:Int):=by omega
  have hg:=cC hlt;have hm1:=bD hlt (by omega)
  have hc:=hF fs[m] (List.getElem_mem hlt) (hfF _ (List.getElem_mem hlt)) (hfs _ (List.getElem_mem hlt));refine wG jN (A16 @eS @eU @dK @dN @eQ @eP @eR @dL @eH @eG @eT @dO @List.getElem?_map.{0,0} @Int.natCast_nonneg hlt' (AI hg hm1)) ?_
  by_cases b:wit fs[m]=true
  ·rw[b]at hc
   refine AR.callP hc @dS TI ?_;refine goG jN TI ?_;refine wG jN hm1 ?_;refine ALp.cutP 1 [(0,.ag [.im (.int .i64 k),.im (.int .i64 s),.im (.int .i64 c),.sl (es.map tyV) .ro,.sl (fs.map fdV) .ro]),(1,.pt 0 0),(15,.sl (fs.map fdV) .ro),(16,(.im (.int .i64 (fs.length)))),(17,(.im (.int .i64 ((((m+1:Nat)):Int)))))] [.box [.im (.int .i64 k),.im (.int .i64 s),.im (.int .i64 c),.sl (es.map tyV) .ro,.sl (fs.map fdV) .ro]] TI ?_;exact hnext (m+1) (by omega) (by omega) (hI.succ hlt b)
  ·have b:wit fs[m]=false:=by simpa using b
   rw[b]at hc;refine AR.callP hc @dS TI ?_;refine goG jN TI ?_;refine wG jN hm1 ?_;rw[oN hlt b,Bool.false_and];exact aM
 ·have hall:=hI.done (by omega)
  have hlt': ¬(m:Int)<(fs.length:Int):=by omega
  clear hnext hI hm hlt;rw[hall,Bool.true_and];rcases AW hb with he|he
  ·obtain rfl:=List.length_eq_zero_iff.1 he
   refine wG jN hlt' ?_;exact aM
  ·obtain⟨x,rfl⟩:=List.length_eq_one_iff.1 he
   have hc:=hE x (by simp) (hfE x (by simp)) (hes x (by simp))
   refine wG jN (A15 @eS @eU @dK @dN @eQ @eP @eR @dL @eH @eG @eT @dO @List.getElem?_map.{0,0} @Int.natCast_nonneg hlt') ?_;refine AR.callP hc @dS TI ?_;refine goG jN TI ?_;simp only[List.all_cons,List.all_nil,Bool.and_true];refine wG jN TI ?_;exact aM
def mN:=AI @jG @jF
theorem IN:I64 64:=by unfold I64;omega
theorem FD(t:Ty)(hfit:fit t):PC Tryz.prog 89 [tyV t] (.im (.int .i64 (chk t))):=by
 have h1:=Ul t hfit 64 IN
 have h2:=AK t hfit
 have h3:frm t=true→_:=Zn t hfit
 refine PC.enter 15 Tryz.func89 rfl (by decide) rfl rfl (s:=[(0,tyV t)]) (by rfl) ?_
 simp only[dS]
 unfold chk
 refine wG mN TI ?_
 by_cases b1:shal t 64=true
 case neg =>
  have b1:shal t 64=false:=by simpa using b1
  rw[b1]at h1 ⊢;refine AR.callP h1 @dS TI ?_;refine goG mN TI ?_;refine wG mN TI ?_;exact aM
 rw[b1]at h1 ⊢
 refine AR.callP h1 @dS TI ?_
 refine goG mN TI ?_
 refine wG mN TI ?_
 by_cases b2:frm t=true
 case neg =>
  have b2:frm t=false:=by simpa using b2
  rw[b2]at h2 ⊢;refine AR.callP h2 @dS TI ?_;refine goG mN TI ?_;refine wG mN TI ?_;exact aM
 have h3:=h3 b2
 rw[b2]at h2 ⊢
 refine AR.callP h2 @dS TI ?_
 refine goG mN TI ?_
 refine wG mN TI ?_
 by_cases b3:wit t=true
 case neg =>
  have b3:wit t=false:=by simpa using b3
  rw[b3]at h3 ⊢;refine AR.callP h3 @dS TI ?_;refine goG mN TI ?_;refine wG mN TI ?_;exact aM
 rw[b3]at h3 ⊢
 refine AR.callP h3 @dS TI ?_
 refine goG mN TI ?_
 refine wG mN TI ?_
 exact aM
end Go.Proofs.YtmbmmckagcdapaaGreatDoor
