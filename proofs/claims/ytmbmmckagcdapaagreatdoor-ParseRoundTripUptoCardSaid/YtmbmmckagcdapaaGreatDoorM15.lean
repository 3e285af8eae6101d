import Derived.Test.YtmbmmckagcdapaaGreatDoorM11
import Derived.Test.YtmbmmckagcdapaaGreatDoorM02
import Derived.Lib.AppendZeros
import Derived.Lib.SliceRun
import Derived.Lib.Walk
import Derived.Shelf.RegionOpenPlain
import Derived.Lib.SmallJoins
import Derived.Scope
set_option linter.all false
namespace Go.Proofs.YtmbmmckagcdapaaGreatDoor
open Go.RowKit
theorem Kin.not_box{st st':Nat→Ent}(h:Kin st st'){i:Nat}(hn: ∀cs,st i≠ .box cs):st' i=st i:=by
 rcases h i with h1|⟨cs,_,h1,_⟩
 ·exact h1
 ·exact absurd h1 (hn cs)
theorem Kin.free{st st':Nat→Ent}(h:Kin st st'){i:Nat}(hi:st' i≠ .free):st i≠ .free:=by
 rcases h i with h1|⟨cs,_,h1,_⟩
 ·rwa [←h1]
 ·rw[h1];simp
theorem Ev.wst{C:Cf}{st:Nat→Ent}(h:Kin C.st st):Ev C (C.wst st)where
 os:=rfl
 tape:=rfl
 output:=rfl
 size:=Nat.le_refl _
 av:=rfl
 rd:=fun a v hr=>⟨hr.1,Cf.wst_fix h hr.2⟩
 box:=fun i cs hb=>⟨rfl,by
  rcases h i with h1|⟨_,cs',_,h1⟩
  ·exact⟨cs,h1.trans hb⟩
  ·exact⟨cs',h1⟩⟩
 tip:=fun i e z n ht=>⟨n,(h.not_box fun cs hc=>by rw[ht]at hc;cases hc).trans ht,Nat.le_refl _,fun _=>⟨rfl,fun _ cur _ hc=>⟨cur,hc,rfl⟩⟩⟩
 itr:=fun i s p hb=>⟨rfl,s,p,(h.not_box fun cs hc=>by rw[hb]at hc;cases hc).trans hb⟩
 keep:=fun _ _ _=>rfl
 fresh:=fun i b hi hs=> .inl ⟨h.free hi,hs⟩
 shp:=fun _ _ _ bs _ _ _ k=>⟨bs,k,rfl⟩
theorem Ok.wst{C:Cf}{st:Nat→Ent}(hC:Ok C)(h:Kin C.st st)(hb: ∀i cs,st i= .box cs→ ∃g bs t,C.σ i=some g∧C.w.heap[g]? =some (.cells bs t (0,0))∧cs.length≤bs.size ∧
  (∀j,j<cs.length→(bs.getD j undef).oneCell'=true)∧ ∀j (hj:j<cs.length),R (C.wst st) cs[j] (bs.getD j undef)):Ok (C.wst st)where
 box:=hb
 tip:=fun i e z n g ht hs=>hC.tip i e z n g (by
  rcases h i with h1|⟨_,cs',_,h1⟩
  ·exact h1.symm.trans ht
  ·have ht:st i=_:=ht
   rw[h1]at ht;cases ht) hs
 iter:=fun i s p ht=>hC.iter i s p (by
  rcases h i with h1|⟨_,cs',_,h1⟩
  ·exact h1.symm.trans ht
  ·have ht:st i=_:=ht
   rw[h1]at ht;cases ht)
 inj:=fun i j g hi hj=>hC.inj i j g (h.free hi) (h.free hj)
 avl:=hC.avl
 bav:=fun i cs g o hc hs=>by
  rcases h i with h1|⟨cs0,_,h0,_⟩
  ·exact hC.bav i cs g o (h1.symm.trans hc) hs
  ·exact hC.bav i cs0 g o h0 hs
 gl:=hC.gl.mono (Ev.wst h)
theorem Sim.ghostB{B:Bd}{C:Cf}{a:Act}{N:Nat}{s:List (Nat×V)}{l:List Ent}{id j:Nat}{cs:List V}{e:TypeId}{z:Nat}(hS:Sim B C ⟨dn N s,ofl l⟩ a)
  (hi:l[id]? =some (.box cs)) (hj:cs[j]? =some (.sl [] .nl)): ∃D,Sim B D ⟨dn N s,ofl (l.set id (.box (cs.set j (.sl [] (.mine l.length))))++[.tip e z 0])⟩ a∧D.w=C.w∧Ev C D:=by
 obtain⟨hil,hi'⟩:=List.getElem?_eq_some_iff.1 hi
 obtain⟨hjl,hj'⟩:=List.getElem?_eq_some_iff.1 hj
 have hf:C.st l.length= .free:=by rw[hS.st];exact vB l
 have hE1:Ev C (C.ghost l.length e z 0):=Ev.ghost hf
 have hO1:Ok (C.ghost l.length e z 0):=hS.ok.ghost hf
 have hst1:(C.ghost l.length e z 0).st=ofl (l++[.tip e z 0]):=by
  show upd C.st l.length (.tip e z 0)=_
  rw[hS.st];exact tX l _
 have hbox:C.st id= .box cs:=by rw[hS.st];simp[ofl,List.getD,hi]
 have hset: ∀i,ofl (l.set id (.box (cs.set j (.sl [] (.mine l.length))))++[.tip e z 0]) i=if i=id then .box (cs.set j (.sl [] (.mine l.length)))else ofl (l++[.tip e z 0]) i:=fun i=>by
  unfold ofl
  by_cases h:i=id
  ·subst h;simp[List.getD,List.getElem?_append,hil]
  ·have h':id≠i:=fun q=>h q.symm
   simp[List.getD,List.getElem?_append,List.getElem?_set,h,h']
 have hk:Kin (C.ghost l.length e z 0).st (ofl (l.set id (.box (cs.set j (.sl [] (.mine l.length))))++[.tip e z 0])):=fun i=>by
  rw[hset,hst1]
  by_cases h:i=id
  ·subst h
   exact .inr ⟨cs,_,by simp[ofl,List.getD,List.getElem?_append,hil,hi'],if_pos rfl⟩
  ·exact .inl (if_neg h)
 refine⟨(C.ghost l.length e z 0).wst _,⟨rfl,hO1.wst hk fun i ds hd=> ?_,(hS.defers.mono hE1).mono (Ev.wst hk),hS.size,fun t ht=>((hS.slot t ht).mono hE1).wst hk⟩,rfl,hE1.trans (Ev.wst hk)⟩
 rw[hset]at hd
 by_cases h:i=id
 ·subst h
  rw[if_pos rfl]at hd;cases hd
  obtain⟨g,bs,t,h1,h2,h3,h4,h5⟩:=hS.ok.box i cs hbox;have hne:i≠l.length:=by omega
  refine⟨g,bs,t,?_,h2,by simpa using h3,fun q hq=>h4 q (by simpa using hq),fun q hq=> ?_⟩
  ·show(if i=l.length then none else C.σ i)=some g
   rw[if_neg hne];exact h1
  ·have hq':q<cs.length:=by simpa using hq
   rw[List.getElem_set];have h6:=h5 q hq'
   by_cases hjq:j=q
   ·subst hjq
    rw[if_pos rfl];rw[hj']at h6;exact(R.toMine (id:=l.length) (e:=e) (z:=z) h6 hf).wst hk
   ·rw[if_neg hjq]
    exact(h6.mono hE1).wst hk
 ·rw[if_neg h,←hst1]at hd
  obtain⟨g,bs,t,h1,h2,h3,h4,h5⟩:=hO1.box i ds hd;exact⟨g,bs,t,h1,h2,h3,h4,fun q hq=>(h5 q hq).wst hk⟩
theorem AWp.ghostB{K:Ro→Prop}{P:Program}{st0:Nat→Ent}{Q:Exit→St→Prop}{c:Code}{N:Nat}{s:List (Nat×V)}{l:List Ent}(id j:Nat)(cs:List V)(e:TypeId)(z:Nat)
  (h:AWpK K P st0 c Q ⟨dn N s,ofl (l.set id (.box (cs.set j (.sl [] (.mine l.length))))++[.tip e z 0])⟩) (hi:l[id]? =some (.box cs):=by rfl) (hj:cs[j]? =some (.sl [] .nl):=by rfl):AWpK K P st0 c Q ⟨dn N s,ofl l⟩:=by
 intro C0 C a ro n hK h0 hE hS
 obtain⟨D,h1,h2,h3⟩:=hS.ghostB (e:=e) (z:=z) hi hj
 have:=h C0 D a ro n hK h0 (hE.trans h3) h1
 rw[h2]at this
 exact this
mutual
def ndV:Nd→V
 | .mk k w n e l el cs=> .ag [.im (.int .i64 k),.im (.int .i64 w),.im (.string n),.sl (exL e) .ro,.sl (ndL l) .ro,.sl (ndL el) .ro,.sl (ndC cs) .ro]
def ndL:List Nd→List V
 | []=>[]
 | t::r=>ndV t::ndL r
def ndC:List (List Nd)→List V
 | []=>[]
 | c::r=> .sl (ndL c) .ro::ndC r
end
def nlV(c:List Nd):V:= .sl (c.map ndV) .ro
theorem Sq: ∀l,ndL l=l.map ndV
 | []=>by simp[ndL]
 | t::r=>by simp[ndL,Sq r]
theorem GA: ∀l,ndC l=l.map nlV
 | []=>by simp[ndC]
 | t::r=>by simp[ndC,GA r,Sq,nlV]
theorem eW(t:Nd):ndV t= .ag [.im (.int .i64 t.kind),.im (.int .i64 t.width),.im (.string t.name),.sl (t.e.map exV) .ro,.sl (t.l.map ndV) .ro,.sl (t.el.map ndV) .ro,.sl (t.cs.map nlV) .ro]:=by
 cases t;simp[ndV,Sq,GA,Tc,Nd.kind,Nd.width,Nd.name,Nd.e,Nd.l,Nd.el,Nd.cs]
theorem eP(k w:Int)(n:ByteArray)(e:List Ex)(l el:List Nd)(cs:List (List Nd)):ndV (.mk k w n e l el cs)= .ag [.im (.int .i64 k),.im (.int .i64 w),.im (.string n),.sl (e.map exV) .ro,.sl (l.map ndV) .ro,.sl (el.map ndV) .ro,.sl (cs.map nlV) .ro]:=eW _
theorem xY(t:Nd):(ndV t).isAg=true:=by rw[eW];rfl
theorem uA(t:Nd):(ndV t).live=true:=by rw[eW];rfl
theorem Et(t:Nd):(ndV t).firm=true:=by rw[eW];rfl
theorem zY(g:Bool)(t:Nd):strip g (ndV t)=ndV t:=by rw[eW];rfl
theorem tZ(t:Nd):(ndV t).size=7:=by rw[eW];rfl
theorem vD(t:Nd):(ndV t).cells=[.im (.int .i64 t.kind),.im (.int .i64 t.width),.im (.string t.name),.sl (t.e.map exV) .ro,.sl (t.l.map ndV) .ro,.sl (t.el.map ndV) .ro,.sl (t.cs.map nlV) .ro]:=by rw[eW];rfl
theorem aW(p:Nat→Bool): ∀t:Nd,(ndV t).ids p=true:=by
 refine Nd.induct fun k w n e l el cs h1 h2 h3=> ?_
 rw[eP]
 have hc:V.idsL p (cs.map nlV)=true:=jH cs fun c hc=>by
  simp only[nlV,V.ids,Bool.and_true];exact jH c (h3 c hc)
 simp[V.ids,V.idsL,jH l h1,jH el h2,aD,hc]
theorem aH(p:Nat→Bool)(l:List Nd):V.idsL p (l.map ndV)=true:=gB (aW p) l
theorem aZ(p:Nat→Bool)(c:List Nd):(nlV c).ids p=true:=by simp only[nlV,V.ids,Bool.and_true];exact aH p c
theorem aJ(p:Nat→Bool)(l:List (List Nd)):V.idsL p (l.map nlV)=true:=gB (aZ p) l
theorem cF(g:Nat→Nat)(t:Nd):V.ren g (ndV t)=ndV t:=V.ren_id g _ (aW _ t)
theorem bK(g:Nat→Nat)(l:List Nd):V.renL g (l.map ndV)=l.map ndV:=V.renL_id g _ (aH _ l)
theorem bO(g:Nat→Nat)(l:List (List Nd)):V.renL g (l.map nlV)=l.map nlV:=V.renL_id g _ (aJ _ l)
theorem Em(c:List Nd):(nlV c).live=true:=rfl
theorem El(c:List Nd):(nlV c).size=1:=rfl
theorem En(c:List Nd):(nlV c).isAg=false:=rfl
theorem zX(c:List Nd):(nlV c).cells=[nlV c]:=rfl
theorem Eo(c:List Nd):(nlV c).firm=true:=rfl
theorem zW(g:Bool)(c:List Nd):strip g (nlV c)=nlV c:=rfl
theorem ND:type_of%(A14 @Et @zY @uA @tZ @xY @vD @Eo @zW @Em @El @En @zX @List.getElem?_map.{0,0} @Int.natCast_nonneg) :=
 A14 @Et @zY @uA @tZ @xY @vD @Eo @zW @Em @El @En @zX @List.getElem?_map.{0,0} @Int.natCast_nonneg
def scV(s:Sec):V:= .ag [.im (.string s.name),.im (.int .u32 s.addr),.sl (s.data.map fun b=> .im (.int .u8 b.toNat)) .ro,.im (.bool s.wr),.im (.bool s.exe)]
def fnV(f:Fun):V:= .ag [.im (.string f.name),.sl (f.vars.map vaV) .ro,.sl (f.body.map ndV) .ro]
def unV(u:Un):V:= .ag [.sl (u.globals.map vaV) .ro,.sl (u.data.map scV) .ro,.sl (u.funcs.map fnV) .ro]
def Pb:Nd→Bool:=Nd.para fun t r1 r2 r3=>decide (I64 t.kind∧I64 t.width)&&decide (t.name.size≤9223372036854775807)&&decide (t.e.length≤4194304∧t.l.length≤4194304∧t.el.length≤4194304∧t.cs.length≤4194304)&&t.e.all fitEB&&t.cs.all (fun c=>decide (c.length≤4194304))&&r1.all id&&r2.all id&&r3.all (·.all id)
def fitN(t:Nd):Prop:=Pb t=true
def fitNL(l:List Nd):Prop:=l.length≤4194304∧ ∀t∈l,fitN t
theorem dR{t:Nd}(h:fitN t):(I64 t.kind∧I64 t.width)∧t.name.size≤9223372036854775807∧(t.e.length≤4194304∧ ∀x∈t.e,fitE x)∧fitNL t.l∧fitNL t.el∧t.cs.length≤4194304∧ ∀c∈t.cs,fitNL c:=by
 obtain⟨k,w,n,e,l,el,cs⟩:=t
 have q:Pb (.mk k w n e l el cs)=_:=Nd.para_mk _ k w n e l el cs
 unfold fitN at h
 rw[q]at h
 simp only[Bool.and_eq_true,Nd.kind,Nd.width,Nd.name,Nd.e,Nd.l,Nd.el,Nd.cs,List.all_map,List.all_eq_true]at h
 obtain⟨⟨⟨⟨⟨⟨⟨h1,h2⟩,h3⟩,h4⟩,h5⟩,h6⟩,h7⟩,h8⟩:=h
 have h3:=of_decide_eq_true h3
 exact⟨of_decide_eq_true h1,of_decide_eq_true h2,⟨h3.1,h4⟩,⟨h3.2.1,h6⟩,⟨h3.2.2.1,h7⟩,h3.2.2.2,fun c hc=>⟨of_decide_eq_true (h5 c hc),fun x hx=>by
  have:=h8 c hc;simp only[Function.comp,List.all_map,List.all_eq_true]at this
  exact this x hx⟩⟩
theorem Dz(s:Sec):scV s= .ag [.im (.string s.name),.im (.int .u32 s.addr),.sl (s.data.map fun b=> .im (.int .u8 b.toNat)) .ro,.im (.bool s.wr),.im (.bool s.exe)]:=rfl
theorem Dw(v:Sec):(scV v).live=true:=rfl
theorem Dv(v:Sec):(scV v).size=5:=rfl
theorem Dx(v:Sec):(scV v).isAg=true:=rfl
theorem Dy(v:Sec):(scV v).firm=true:=rfl
theorem zN(g:Bool)(v:Sec):strip g (scV v)=scV v:=rfl
theorem zO(s:Sec):(scV s).cells=[.im (.string s.name),.im (.int .u32 s.addr),.sl (s.data.map fun b=> .im (.int .u8 b.toNat)) .ro,.im (.bool s.wr),.im (.bool s.exe)]:=rfl
theorem uI(p:Nat→Bool)(l:List UInt8):V.idsL p (l.map fun b=>V.im (.int .u8 b.toNat))=true:=gB (fun _=>rfl) l
theorem Lp(g:Nat→Nat)(l:List UInt8):V.renL g (l.map fun b=>V.im (.int .u8 b.toNat))=l.map fun b=>V.im (.int .u8 b.toNat):=V.renL_id g _ (uI _ l)
theorem gA(p:Nat→Bool)(v:Sec):(scV v).ids p=true:=by simp[scV,V.ids,V.idsL,uI]
theorem eO(p:Nat→Bool)(l:List Sec):V.idsL p (l.map scV)=true:=gB (gA p) l
theorem nQ(g:Nat→Nat)(t:Sec):V.ren g (scV t)=scV t:=V.ren_id g _ (gA _ t)
theorem pF(g:Nat→Nat)(l:List Sec):V.renL g (l.map scV)=l.map scV:=V.renL_id g _ (eO _ l)
theorem Kj(l:List Sec):kO 5 (l.map scV)=true:=by
 unfold kO
 rw[List.all_map]
 exact List.all_eq_true.2 fun x _=>rfl
theorem ET(l:List Sec):Ap 5 (l.map scV)=true:=by
 unfold Ap
 rw[List.all_map]
 exact List.all_eq_true.2 fun x _=>rfl
theorem SCT:type_of%(A8 @Dy @zN @Dw @Dv @Dx @zO @List.getElem?_map.{0,0} @Int.natCast_nonneg) :=
 A8 @Dy @zN @Dw @Dv @Dx @zO @List.getElem?_map.{0,0} @Int.natCast_nonneg
theorem oO(f:Fun):fnV f= .ag [.im (.string f.name),.sl (f.vars.map vaV) .ro,.sl (f.body.map ndV) .ro]:=rfl
theorem oN(p:Nat→Bool)(f:Fun):(fnV f).ids p=true:=by simp[fnV,V.ids,V.idsL,aO,aH]
theorem kL(p:Nat→Bool)(l:List Fun):V.idsL p (l.map fnV)=true:=gB (oN p) l
theorem kJ(u:Un):unV u= .ag [.sl (u.globals.map vaV) .ro,.sl (u.data.map scV) .ro,.sl (u.funcs.map fnV) .ro]:=rfl
theorem Fb(v:Fun):(fnV v).live=true:=rfl
theorem Fa(v:Fun):(fnV v).size=3:=rfl
theorem Fc(v:Fun):(fnV v).isAg=true:=rfl
theorem Fd(v:Fun):(fnV v).firm=true:=rfl
theorem Ae(g:Bool)(v:Fun):strip g (fnV v)=fnV v:=rfl
theorem Af(f:Fun):(fnV f).cells=[.im (.string f.name),.sl (f.vars.map vaV) .ro,.sl (f.body.map ndV) .ro]:=rfl
theorem FU:type_of%(A8 @Fd @Ae @Fb @Fa @Fc @Af @List.getElem?_map.{0,0} @Int.natCast_nonneg) :=
 A8 @Fd @Ae @Fb @Fa @Fc @Af @List.getElem?_map.{0,0} @Int.natCast_nonneg
theorem tQ(p:Nat→Bool)(u:Un):(unV u).ids p=true:=by simp[unV,V.ids,V.idsL,aO,eO,kL]
theorem La(g:Nat→Nat)(t:Fun):V.ren g (fnV t)=fnV t:=V.ren_id g _ (oN _ t)
theorem Lb(g:Nat→Nat)(l:List Fun):V.renL g (l.map fnV)=l.map fnV:=V.renL_id g _ (kL _ l)
theorem Wg(l:List Fun):kO 3 (l.map fnV)=true:=by
 unfold kO
 rw[List.all_map]
 exact List.all_eq_true.2 fun x _=>rfl
theorem LE(g:Nat→Nat)(u:Un):V.ren g (unV u)=unV u:=V.ren_id g _ (tQ _ u)
theorem CT(u:Un):(unV u).live=true:=rfl
theorem CS(u:Un):(unV u).size=3:=rfl
theorem CU(u:Un):(unV u).isAg=true:=rfl
theorem Yc(u:Un):(unV u).cells=[.sl (u.globals.map vaV) .ro,.sl (u.data.map scV) .ro,.sl (u.funcs.map fnV) .ro]:=rfl
theorem CV(u:Un):(unV u).firm=true:=rfl
theorem Yb(g:Bool)(u:Un):strip g (unV u)=unV u:=rfl
theorem Hv{α β:Type}(f:α→β){l:List α}{m:Nat}(h:m<l.length):(l.take m).map f++[f l[m]]=(l.take (m+1)).map f:=by
 rw[List.take_succ_eq_append_getElem h,List.map_append];rfl
end Go.Proofs.YtmbmmckagcdapaaGreatDoor
namespace Go.Proofs.YtmbmmckagcdapaaGreatDoor
open Go.RowKit Go.Lib
def Cf.newTip(C:Cf)(e:TypeId)(z:Nat)(cs:Array Value):Cf:=⟨fun i=>if i=0 then some C.w.heap.size else C.σ i,ofl [.tip e z 0],C.av,C.w.drew.alloc (.cells cs e)⟩
theorem lL{e:TypeId}{z i:Nat}(h:ofl [.tip e z 0] i≠ .free):i=0:=by
 cases i with
 | zero=>rfl
 | succ i=>exact absurd (by simp[ofl,List.getD]) h
theorem Ep{C:Cf}{e:TypeId}{z:Nat}{cs:Array Value}{b:Nat}(hb:b<C.w.heap.size):(C.newTip e z cs).w.heap[b]? =C.w.heap[b]? :=by
 show(C.w.drew.heap.push _)[b]? =_
 rw[Array.getElem?_push]
 have:b≠C.w.drew.heap.size:=Nat.ne_of_lt hb
 rw[if_neg this]
 rfl
theorem Ev.newTip{C:Cf}{e:TypeId}{z:Nat}{cs:Array Value}(hst:C.st=stF):Ev C (C.newTip e z cs)where
 os:=rfl
 tape:=rfl
 output:=rfl
 size:=by show C.w.heap.size≤(C.w.drew.heap.push _).size;rw[Array.size_push];exact Nat.le_succ _
 av:=rfl
 rd:=fun a v h=>by
  have hb:a.block<C.w.heap.size:=by
   have h1:=h.1;refine Nat.lt_of_not_le fun hle=> ?_
   have:C.w.heap[a.block]? =none:=Array.getElem?_eq_none hle;simp[World.cell?,this]at h1
  refine⟨?_,h.2.1,fun i hi=> ?_⟩
  ·rw[←h.1]
   exact World.cell?_of_block (w:=C.w) (Ep hb)
  ·by_cases h0:i=0
   ·subst h0
    have:C.w.heap.size=a.block:=Option.some.inj hi;omega
   ·exact .inl (Classical.byContradiction fun hn=>h0 (lL hn))
 box:=fun i cs hb=>by rw[hst]at hb;cases hb
 tip:=fun i e z n hb=>by rw[hst]at hb;cases hb
 itr:=fun i s p hb=>by rw[hst]at hb;cases hb
 keep:=fun b hb _=>Ep hb
 shp:=fun i cs g bs t hb=>by rw[hst]at hb;cases hb
 fresh:=fun i b hi hs=>by
  obtain rfl:=lL hi;have:C.w.heap.size=b:=Option.some.inj hs;exact .inr (Nat.le_of_eq this)
theorem Ok.newTip{C:Cf}{e:TypeId}{z:Nat}{cs:Array Value}(hC:Ok C)(hst:C.st=stF):Ok (C.newTip e z cs)where
 box:=fun i cs' hb=>by
  have h0:i=0:=lL (e:=e) (z:=z) (by show(C.newTip e z cs).st i≠_;rw[hb];simp)
  subst h0;cases hb
 tip:=fun i e' z' n g hb hs=>by
  have h0:i=0:=lL (e:=e) (z:=z) (by show(C.newTip e z cs).st i≠_;rw[hb];simp)
  subst h0;cases hb
  have:C.w.heap.size=g:=Option.some.inj hs;subst this;refine⟨cs,?_,by omega,fun o ho=> ?_⟩
  ·show(C.w.drew.heap.push _)[C.w.heap.size]? =_
   rw[Array.getElem?_push];exact if_pos rfl
  ·exact absurd (hC.avl _ o ho) (Nat.lt_irrefl _)
 iter:=fun i s p hb=>by
  have h0:i=0:=lL (e:=e) (z:=z) (by show(C.newTip e z cs).st i≠_;rw[hb];simp)
  subst h0;cases hb
 inj:=fun i j g hi hj _ _=>(lL hi).trans (lL hj).symm
 avl:=fun b o h=>by
  have:=hC.avl b o h;show b<(C.w.drew.heap.push _).size
  rw[Array.size_push];exact Nat.lt_succ_of_lt this
 bav:=fun i cs' g o hb=>by
  have h0:i=0:=lL (e:=e) (z:=z) (by show(C.newTip e z cs).st i≠_;rw[hb];simp)
  subst h0;cases hb
 gl:=hC.gl.mono (Ev.newTip hst)
theorem yD{P:Program}{f:FuncId}{e:TypeId}{z:Nat}{xs:List V}(hf:Ad P f=true)(hz:0<z)
  (h: ∀(C:Cf) (vs:Array Value),C.st=stF→Ok C→vs.size=xs.length→(∀i (h:i<xs.length),R C xs[i] (vs.getD i undef)) →
   ∃(cap:Nat) (cs:Array Value),cap≤maxLen∧cs.size=cap*z∧Calls P f vs C.w fun e' w'=>e'= .returned (.slice (some ⟨C.w.heap.size,0,none⟩) 0 cap)∧w'=C.w.drew.alloc (.cells cs e)) :
  DC P f xs [.free] (.sl [] (.own 0)) [.tip e z 0]:=by
 refine⟨hf,fun C vs hst hC hl hR=> ?_⟩
 have hst':C.st=stF:=by
  rw[hst];funext i;unfold ofl stF;cases i with
  | zero=>rfl
  | succ i=>simp[List.getD]
 obtain⟨cap,cs,hcap,hcs,hc⟩:=h C vs hst' hC hl hR
 refine hc.mono ?_
 rintro e' w' ⟨rfl,rfl⟩
 refine⟨_,_,_,rfl,⟨rfl,rfl⟩,C.newTip e z cs,rfl,rfl,Ok.newTip hC hst',Ev.newTip hst',?_⟩
 ·refine .sl (z:=z) (u:=fun _=>undef) (Nat.zero_le _) hcap (fun i hi=>absurd hi (Nat.not_lt_zero _)) (fun i hi=>absurd hi (Nat.not_lt_zero _)) (fun i hi=>absurd hi (Nat.not_lt_zero _))
   ⟨e,0,rfl,Nat.le_refl _,fun _=> .inr ⟨_,cs,rfl,rfl,?_,hcs⟩⟩
  show(C.w.drew.heap.push _)[C.w.heap.size]? =_
  rw[Array.getElem?_push];exact if_pos rfl
theorem Zx(n:Nat)(h0:0<n)(hb:n≤4194304*4)(w:World): ∃(cap:Nat) (cs:Array Value),cap≤maxLen∧cs.size=cap*1∧Calls Tryz.prog 256 #[.slice none 0 0,.int .i64 n] w fun e w'=>e= .returned (.slice (some ⟨w.heap.size,0,none⟩) 0 cap)∧w'=w.drew.alloc (.cells cs 35):=by
 obtain⟨i0,hi,hz0,hz1,hz2⟩:=info_parts (show(Tryz.prog.info? 35).map (fun i=>(i.zero,i.size,i.bytes))=some (some (.slice none 0 0),1,24) by kernel_rfl)
 have h1: ¬((n:Int)<0):=by omega
 have h4:(n:Int)>0:=by omega
 have hrz: ∀ty,(Builtin.append_ #[163,3] ty #[.slice none 0 0,.int .i64 n]).run Tryz.prog w=_:=fun ty=>run_append_nil_zeros w 163 3 ty 35 i0 _ .i64 .i64 Tryz.underlying163 Tryz.underlying3 hi hz0 n h0 (by rw[hz1];decide) (by omega) (by rw[hz2];omega)
 have hGn:n≤grownCap w n 0 35:=grownCap_ge w _ _ _
 have hG63:=grownCap_le_maxLen w n 0 35 (by unfold maxLen;omega)
 generalize grownCap w n 0 35=G at hrz hGn hG63
 refine⟨G,Builtin.zeroCells (Value.cells (.slice none 0 0)) n++Builtin.zeroCells (Value.cells (.slice none 0 0)) (G-n),hG63,?_,?_⟩
 rotate_left
 ·go_enter Tryz.func256,Tryz.ntmps256
  go_wp2_with (at_builtin;refine Lib.wpList_append_run _ rfl _ _ _ _ rfl _ _ rfl rfl _ _ (hrz _) ?_)
  all_goals (go_ret;exact⟨rfl,rfl⟩)
 ·simp[Builtin.zeroCells,Value.cells];omega
theorem OR(n:Nat)(h0:0<n)(hb:n≤4194304*4):DC Tryz.prog 256 [.sl [] .nl,.im (.int .i64 n)] [.free] (.sl [] (.own 0)) [.tip 35 1 0]:=by
 refine yD (by kernel_rfl) (by decide) fun C vs _ _ hl hR=> ?_
 obtain⟨v0,v1,rfl⟩: ∃v0 v1,vs= #[v0,v1]:=Go.Joins.array2 hl
 have h1:=hR 0 (by simp)
 have h2:=hR 1 (by simp)
 obtain rfl:v0= .slice none 0 0:=by
  have h1:R C (.sl [] .nl) v0:=h1;cases h1 with
  | sl _ _ _ _ _ hk=>obtain⟨rfl,rfl⟩:=hk;rfl
 obtain rfl:v1= .int .i64 n:=by
  have h2:R C (.im (.int .i64 n)) v1:=h2;cases h2 with
  | im=>rfl
 exact Zx n h0 hb C.w
theorem JF:PC Tryz.prog 256 [.sl [] .nl,.im (.int .i64 0)] (.sl [] .nl):=by
 refine⟨by kernel_rfl,fun C vs hst hC hl hR=> ?_⟩
 obtain⟨v0,v1,rfl⟩: ∃v0 v1,vs= #[v0,v1]:=Go.Joins.array2 hl
 have h1:=hR 0 (by simp)
 have h2:=hR 1 (by simp)
 obtain rfl:v0= .slice none 0 0:=by
  have h1:R C (.sl [] .nl) v0:=h1;cases h1 with
  | sl _ _ _ _ _ hk=>obtain⟨rfl,rfl⟩:=hk;rfl
 obtain rfl:v1= .int .i64 0:=by
  have h2:R C (.im (.int .i64 0)) v1:=h2;cases h2 with
  | im=>rfl
 have hc:Calls Tryz.prog 256 #[.slice none 0 0,.int .i64 0] C.w fun e w'=>e= .returned (.slice none 0 0)∧w'=C.w:=by
  go_enter Tryz.func256,Tryz.ntmps256
  go_wp2
  go_ret
  exact⟨rfl,rfl⟩
 refine hc.mono ?_
 rintro e' w' ⟨rfl,rfl⟩
 exact⟨_,_,_,rfl,⟨rfl,rfl⟩,C,rfl,hst,hC,Ev.refl C,h1⟩
theorem Zw(n:Nat)(h0:0<n)(hb:n≤4194304*4)(w:World): ∃(cap:Nat) (cs:Array Value),cap≤maxLen∧cs.size=cap*6∧Calls Tryz.prog 162 #[.slice none 0 0,.int .i64 n] w fun e w'=>e= .returned (.slice (some ⟨w.heap.size,0,none⟩) 0 cap)∧w'=w.drew.alloc (.cells cs 96):=by
 obtain⟨i0,hi,hz0,hz1,hz2⟩:=info_parts (show(Tryz.prog.info? 96).map (fun i=>(i.zero,i.size,i.bytes))=some (some (.agg #[.string .empty,.int .i64 0,.int .i64 0,.int .i64 0,.slice none 0 0,.slice none 0 0]),6,88) by kernel_rfl)
 have h1: ¬((n:Int)<0):=by omega
 have h4:(n:Int)>0:=by omega
 have hrz: ∀ty,(Builtin.append_ #[23,3] ty #[.slice none 0 0,.int .i64 n]).run Tryz.prog w=_:=fun ty=>run_append_nil_zeros w 23 3 ty 96 i0 _ .i64 .i64 Tryz.underlying23 Tryz.underlying3 hi hz0 n h0 (by rw[hz1];decide) (by omega) (by rw[hz2];omega)
 have hGn:n≤grownCap w n 0 96:=grownCap_ge w _ _ _
 have hG63:=grownCap_le_maxLen w n 0 96 (by unfold maxLen;omega)
 generalize grownCap w n 0 96=G at hrz hGn hG63
 refine⟨G,Builtin.zeroCells (Value.cells (.agg #[.string .empty,.int .i64 0,.int .i64 0,.int .i64 0,.slice none 0 0,.slice none 0 0])) n++Builtin.zeroCells (Value.cells (.agg #[.string .empty,.int .i64 0,.int .i64 0,.int .i64 0,.slice none 0 0,.slice none 0 0])) (G-n),hG63,?_,?_⟩
 rotate_left
 ·go_enter Tryz.func162,Tryz.ntmps162
  go_wp2_with (at_builtin;refine Lib.wpList_append_run _ rfl _ _ _ _ rfl _ _ rfl rfl _ _ (hrz _) ?_)
  all_goals (go_ret;exact⟨rfl,rfl⟩)
 ·simp[Builtin.zeroCells,Value.cells];omega
theorem OQ(n:Nat)(h0:0<n)(hb:n≤4194304*4):DC Tryz.prog 162 [.sl [] .nl,.im (.int .i64 n)] [.free] (.sl [] (.own 0)) [.tip 96 6 0]:=by
 refine yD (by kernel_rfl) (by decide) fun C vs _ _ hl hR=> ?_
 obtain⟨v0,v1,rfl⟩: ∃v0 v1,vs= #[v0,v1]:=Go.Joins.array2 hl
 have h1:=hR 0 (by simp)
 have h2:=hR 1 (by simp)
 obtain rfl:v0= .slice none 0 0:=by
  have h1:R C (.sl [] .nl) v0:=h1;cases h1 with
  | sl _ _ _ _ _ hk=>obtain⟨rfl,rfl⟩:=hk;rfl
 obtain rfl:v1= .int .i64 n:=by
  have h2:R C (.im (.int .i64 n)) v1:=h2;cases h2 with
  | im=>rfl
 exact Zw n h0 hb C.w
theorem JE:PC Tryz.prog 162 [.sl [] .nl,.im (.int .i64 0)] (.sl [] .nl):=by
 refine⟨by kernel_rfl,fun C vs hst hC hl hR=> ?_⟩
 obtain⟨v0,v1,rfl⟩: ∃v0 v1,vs= #[v0,v1]:=Go.Joins.array2 hl
 have h1:=hR 0 (by simp)
 have h2:=hR 1 (by simp)
 obtain rfl:v0= .slice none 0 0:=by
  have h1:R C (.sl [] .nl) v0:=h1;cases h1 with
  | sl _ _ _ _ _ hk=>obtain⟨rfl,rfl⟩:=hk;rfl
 obtain rfl:v1= .int .i64 0:=by
  have h2:R C (.im (.int .i64 0)) v1:=h2;cases h2 with
  | im=>rfl
 have hc:Calls Tryz.prog 162 #[.slice none 0 0,.int .i64 0] C.w fun e w'=>e= .returned (.slice none 0 0)∧w'=C.w:=by
  go_enter Tryz.func162,Tryz.ntmps162
  go_wp2
  go_ret
  exact⟨rfl,rfl⟩
 refine hc.mono ?_
 rintro e' w' ⟨rfl,rfl⟩
 exact⟨_,_,_,rfl,⟨rfl,rfl⟩,C,rfl,hst,hC,Ev.refl C,h1⟩
end Go.Proofs.YtmbmmckagcdapaaGreatDoor
namespace Go.Proofs.YtmbmmckagcdapaaGreatDoor
open Go.RowKit
theorem vK{α:Type}{l:List (List α)}{m:Nat}(h:m<l.length):(l.take m).flatten.length+l[m].length=(l.take (m+1)).flatten.length:=by
 rw[List.take_succ_eq_append_getElem h,List.flatten_append,List.length_append]
 simp
theorem Iu{α:Type}{l:List (List α)}{m:Nat}(h:m<l.length):(l.take m).flatten++l[m]=(l.take (m+1)).flatten:=by
 rw[List.take_succ_eq_append_getElem h,List.flatten_append]
 simp
theorem Ci{α:Type}{l:List (List α)}(m:Nat):(l.take m).flatten.length≤l.flatten.length:=by
 have:=List.take_append_drop m l
 have h2:l.flatten.length=(l.take m).flatten.length+(l.drop m).flatten.length:=by
  rw[←List.length_append,←List.flatten_append,this]
 omega
theorem Iv{p:Nat→Bool}{l:List (List V)}(h: ∀xs∈l,V.idsL p xs=true)(m:Nat):V.idsL p (l.take m).flatten=true:=by
 refine Ku fun x hx=> ?_
 obtain⟨xs,h1,h2⟩:=List.mem_flatten.1 hx
 obtain⟨i,hi,rfl⟩:=List.getElem_of_mem h2
 exact V.idsL_get (h xs (List.mem_of_mem_take h1)) i hi
def lZ:=A7 @nM @Mm @Xq @kT @Qz @nL @iS
theorem BP{xss:List (List V)}(hl:xss.length≤4194304)(hz: ∀xs∈xss,kO 1 xs=true)(hs: ∀p,∀xs∈xss,V.idsL p xs=true)(hn:xss.flatten.length≤16777216):PC Tryz.prog 213 [.sl (xss.map fun l=>V.sl l .ro) .ro] (.sl xss.flatten .ro):=by
 have hI: ∀p m,V.idsL p (xss.take m).flatten=true:=fun p m=>Iv (hs p) m
 have hK: ∀p,V.idsL p xss.flatten=true:=fun p=>by have:=hI p xss.length;rwa [List.take_length]at this
 have hJ: ∀p,V.idsL p (xss.map fun l=>V.sl l .ro)=true:=fun p=>jH xss fun x hx=>by simp only[V.ids,Bool.and_true];exact hs p x hx
 refine PC.enter 36 Tryz.func213 rfl (by decide) rfl rfl (s:=[(0,.sl (xss.map fun l=>V.sl l .ro) .ro)]) (by rfl) ?_
 refine wG lZ @List.length_map.{0,0} ?_
 refine aP ?_
 refine ALp.cutP 0 [(0,.sl (xss.map fun l=>V.sl l .ro) .ro),(3,(.im (.int .i64 ((((xss.take (0)).flatten.length:Nat):Int))))),(9,.sl (xss.map fun l=>V.sl l .ro) .ro),(10,(.im (.int .i64 (xss.length)))),(11,(.im (.int .i64 ((((0:Nat)):Int)))))] [] (A3 hI hJ hK) ?_
 refine ALp.upto xss.length (fun _=>True) (fun m=>⟨dn 36 [(0,.sl (xss.map fun l=>V.sl l .ro) .ro),(3,(.im (.int .i64 ((((xss.take (m)).flatten.length:Nat):Int))))),(9,.sl (xss.map fun l=>V.sl l .ro) .ro),(10,(.im (.int .i64 (xss.length)))),(11,(.im (.int .i64 ((((m:Nat)):Int)))))],ofl []⟩) ?_ 0 (Nat.zero_le _) trivial
 intro m hm _ hnext
 by_cases hlt:m<xss.length
 ·have hlt':(m:Int)<(xss.length:Int):=by omega
  have hm1:=aL hlt (by omega)
  have hg:=bB hlt;have hln:=vK hlt;have hle:=Ci (l:=xss) (m+1)
  have hw:IntKind.i64.wrap (((xss.take m).flatten.length:Int)+(xss[m].length:Int))=((xss.take (m+1)).flatten.length:Int):=by
   rw[cU (by omega)]
   omega
  have hneg: ¬((xss.take (m+1)).flatten.length:Int)<0:=by omega
  refine wG lZ (A7 hlt' hg @List.getElem?_map.{0,0} @Int.natCast_nonneg hw hneg hm1) ?_;refine ALp.cutP 0 [(0,.sl (xss.map fun l=>V.sl l .ro) .ro),(3,(.im (.int .i64 ((((xss.take (m+1)).flatten.length:Nat):Int))))),(9,.sl (xss.map fun l=>V.sl l .ro) .ro),(10,(.im (.int .i64 (xss.length)))),(11,(.im (.int .i64 ((((m+1:Nat)):Int)))))] [] (A3 hI hJ hK) ?_
  exact hnext (m+1) (by omega) (by omega) trivial
 obtain rfl:m=xss.length:=by omega
 clear hnext
 rw[List.take_length]
 refine whG lZ @Int.lt_irrefl ?_
 refine Blk'.here (Thn.n ?_)
 refine wG lZ TI ?_
 by_cases h0:xss.flatten.length=0
 case' pos =>
  rw[h0];refine AR.callP JF @Int.natCast_zero (A3 hI hJ hK) ?_;refine goG lZ @List.length_map.{0,0} ?_;refine wG lZ @List.length_map.{0,0} ?_;refine aP ?_;refine ALp.ghost 6 [] .nl 35 1 ?_;refine ALp.cutP 1 [(6,.sl (xss.take (0)).flatten (.own 0)),(25,.sl (xss.map fun l=>V.sl l .ro) .ro),(26,(.im (.int .i64 (xss.length)))),(27,(.im (.int .i64 ((((0:Nat)):Int)))))] [.tip 35 1 (xss.take (0)).flatten.length] (A3 hI hJ hK) ?_
 case' neg =>
  have hg:=OR xss.flatten.length (by omega) (by omega)
  refine aA [0] hg TI (A3 hI hJ hK) TI ?_;refine goG lZ @List.length_map.{0,0} ?_;refine wG lZ @List.length_map.{0,0} ?_;refine aP ?_;refine ALp.cutP 1 [(6,.sl (xss.take (0)).flatten (.own 0)),(25,.sl (xss.map fun l=>V.sl l .ro) .ro),(26,(.im (.int .i64 (xss.length)))),(27,(.im (.int .i64 ((((0:Nat)):Int)))))] [.tip 35 1 (xss.take (0)).flatten.length] (A3 hI hJ hK) ?_
 all_goals
  refine ALp.upto xss.length (fun _=>True) (fun m=>⟨dn 36 [(6,.sl (xss.take (m)).flatten (.own 0)),(25,.sl (xss.map fun l=>V.sl l .ro) .ro),(26,(.im (.int .i64 (xss.length)))),(27,(.im (.int .i64 ((((m:Nat)):Int)))))],ofl [.tip 35 1 (xss.take (m)).flatten.length]⟩) ?_ 0 (Nat.zero_le _) trivial
  intro m hm _ hnext
  by_cases hlt:m<xss.length
  ·have hlt':(m:Int)<(xss.length:Int):=by omega
   have hm1:=aL hlt (by omega)
   have hg:=bB hlt;have hln:=vK hlt;have hle:=Ci (l:=xss) (m+1);have hsn:=Iu hlt;have hA:(xss.take (m+1)).flatten.length*24≤140737488355328:=by omega
   have hz':=hz xss[m] (List.getElem_mem hlt);refine wG lZ (A9 hlt' hg @List.getElem?_map.{0,0} @Int.natCast_nonneg hA hz' hsn hln hm1) ?_;refine ALp.cutP 1 [(6,.sl (xss.take (m+1)).flatten (.own 0)),(25,.sl (xss.map fun l=>V.sl l .ro) .ro),(26,(.im (.int .i64 (xss.length)))),(27,(.im (.int .i64 ((((m+1:Nat)):Int)))))] [.tip 35 1 (xss.take (m+1)).flatten.length] (A3 hI hJ hK) ?_
   exact hnext (m+1) (by omega) (by omega) trivial
  obtain rfl:m=xss.length:=by omega
  clear hnext;rw[List.take_length];refine wG lZ @Int.lt_irrefl ?_;refine aG (rs:=[.tmp 2]) rfl (by first|exact .inl rfl|exact .inr rfl) (finG lZ) ?_
  all_goals exact wkG (A3 hI hJ hK)
def oU:=A7 @kI @tC @zA @Ra @kG @jD @jO
theorem BO{xss:List (List V)}(hl:xss.length≤4194304)(hz: ∀xs∈xss,kO 6 xs=true)(hs: ∀p,∀xs∈xss,V.idsL p xs=true)(hn:xss.flatten.length≤16777216):PC Tryz.prog 96 [.sl (xss.map fun l=>V.sl l .ro) .ro] (.sl xss.flatten .ro):=by
 have hI: ∀p m,V.idsL p (xss.take m).flatten=true:=fun p m=>Iv (hs p) m
 have hK: ∀p,V.idsL p xss.flatten=true:=fun p=>by have:=hI p xss.length;rwa [List.take_length]at this
 have hJ: ∀p,V.idsL p (xss.map fun l=>V.sl l .ro)=true:=fun p=>jH xss fun x hx=>by simp only[V.ids,Bool.and_true];exact hs p x hx
 refine PC.enter 36 Tryz.func96 rfl (by decide) rfl rfl (s:=[(0,.sl (xss.map fun l=>V.sl l .ro) .ro)]) (by rfl) ?_
 refine wG oU @List.length_map.{0,0} ?_
 refine aP ?_
 refine ALp.cutP 0 [(0,.sl (xss.map fun l=>V.sl l .ro) .ro),(3,(.im (.int .i64 ((((xss.take (0)).flatten.length:Nat):Int))))),(9,.sl (xss.map fun l=>V.sl l .ro) .ro),(10,(.im (.int .i64 (xss.length)))),(11,(.im (.int .i64 ((((0:Nat)):Int)))))] [] (A3 hI hJ hK) ?_
 refine ALp.upto xss.length (fun _=>True) (fun m=>⟨dn 36 [(0,.sl (xss.map fun l=>V.sl l .ro) .ro),(3,(.im (.int .i64 ((((xss.take (m)).flatten.length:Nat):Int))))),(9,.sl (xss.map fun l=>V.sl l .ro) .ro),(10,(.im (.int .i64 (xss.length)))),(11,(.im (.int .i64 ((((m:Nat)):Int)))))],ofl []⟩) ?_ 0 (Nat.zero_le _) trivial
 intro m hm _ hnext
 by_cases hlt:m<xss.length
 ·have hlt':(m:Int)<(xss.length:Int):=by omega
  have hm1:=aL hlt (by omega)
  have hg:=bB hlt;have hln:=vK hlt;have hle:=Ci (l:=xss) (m+1)
  have hw:IntKind.i64.wrap (((xss.take m).flatten.length:Int)+(xss[m].length:Int))=((xss.take (m+1)).flatten.length:Int):=by
   rw[cU (by omega)]
   omega
  have hneg: ¬((xss.take (m+1)).flatten.length:Int)<0:=by omega
  refine wG oU (A7 hlt' hg @List.getElem?_map.{0,0} @Int.natCast_nonneg hw hneg hm1) ?_;refine ALp.cutP 0 [(0,.sl (xss.map fun l=>V.sl l .ro) .ro),(3,(.im (.int .i64 ((((xss.take (m+1)).flatten.length:Nat):Int))))),(9,.sl (xss.map fun l=>V.sl l .ro) .ro),(10,(.im (.int .i64 (xss.length)))),(11,(.im (.int .i64 ((((m+1:Nat)):Int)))))] [] (A3 hI hJ hK) ?_
  exact hnext (m+1) (by omega) (by omega) trivial
 obtain rfl:m=xss.length:=by omega
 clear hnext
 rw[List.take_length]
 refine whG oU @Int.lt_irrefl ?_
 refine Blk'.here (Thn.n ?_)
 refine wG oU TI ?_
 by_cases h0:xss.flatten.length=0
 case' pos =>
  rw[h0];refine AR.callP JE @Int.natCast_zero (A3 hI hJ hK) ?_;refine goG oU @List.length_map.{0,0} ?_;refine wG oU @List.length_map.{0,0} ?_;refine aP ?_;refine ALp.ghost 6 [] .nl 96 6 ?_;refine ALp.cutP 1 [(6,.sl (xss.take (0)).flatten (.own 0)),(25,.sl (xss.map fun l=>V.sl l .ro) .ro),(26,(.im (.int .i64 (xss.length)))),(27,(.im (.int .i64 ((((0:Nat)):Int)))))] [.tip 96 6 (xss.take (0)).flatten.length] (A3 hI hJ hK) ?_
 case' neg =>
  have hg:=OQ xss.flatten.length (by omega) (by omega)
  refine aA [0] hg TI (A3 hI hJ hK) TI ?_;refine goG oU @List.length_map.{0,0} ?_;refine wG oU @List.length_map.{0,0} ?_;refine aP ?_;refine ALp.cutP 1 [(6,.sl (xss.take (0)).flatten (.own 0)),(25,.sl (xss.map fun l=>V.sl l .ro) .ro),(26,(.im (.int .i64 (xss.length)))),(27,(.im (.int .i64 ((((0:Nat)):Int)))))] [.tip 96 6 (xss.take (0)).flatten.length] (A3 hI hJ hK) ?_
 all_goals
  refine ALp.upto xss.length (fun _=>True) (fun m=>⟨dn 36 [(6,.sl (xss.take (m)).flatten (.own 0)),(25,.sl (xss.map fun l=>V.sl l .ro) .ro),(26,(.im (.int .i64 (xss.length)))),(27,(.im (.int .i64 ((((m:Nat)):Int)))))],ofl [.tip 96 6 (xss.take (m)).flatten.length]⟩) ?_ 0 (Nat.zero_le _) trivial
  intro m hm _ hnext
  by_cases hlt:m<xss.length
  ·have hlt':(m:Int)<(xss.length:Int):=by omega
   have hm1:=aL hlt (by omega)
   have hg:=bB hlt;have hln:=vK hlt;have hle:=Ci (l:=xss) (m+1);have hsn:=Iu hlt;have hA:(xss.take (m+1)).flatten.length*88≤140737488355328:=by omega
   have hz':=hz xss[m] (List.getElem_mem hlt);refine wG oU (A9 hlt' hg @List.getElem?_map.{0,0} @Int.natCast_nonneg hA hz' hsn hln hm1) ?_;refine ALp.cutP 1 [(6,.sl (xss.take (m+1)).flatten (.own 0)),(25,.sl (xss.map fun l=>V.sl l .ro) .ro),(26,(.im (.int .i64 (xss.length)))),(27,(.im (.int .i64 ((((m+1:Nat)):Int)))))] [.tip 96 6 (xss.take (m+1)).flatten.length] (A3 hI hJ hK) ?_
   exact hnext (m+1) (by omega) (by omega) trivial
  obtain rfl:m=xss.length:=by omega
  clear hnext;rw[List.take_length];refine wG oU @Int.lt_irrefl ?_;refine aG (rs:=[.tmp 2]) rfl (by first|exact .inl rfl|exact .inr rfl) (finG oU) ?_
  all_goals exact wkG (A3 hI hJ hK)
theorem Ko(c:List Nd):nlV c= .sl (c.map ndV) .ro:=rfl
theorem TA(l:List (List Nd)):kO 1 (l.map nlV)=true:=by
 unfold kO
 rw[List.all_map]
 exact List.all_eq_true.2 fun x _=>rfl
theorem Fg{t:Nd}(h:fitN t):(subs t).length≤4194306∧ ∀c∈subs t,fitNL c:=by
 obtain⟨_,_,_,h4,h5,h6,h7⟩:=dR h
 refine⟨by simp[subs];omega,fun c hc=> ?_⟩
 unfold subs at hc
 rcases List.mem_cons.1 hc with rfl|hc
 ·exact h4
 ·rcases List.mem_cons.1 hc with rfl|hc
  ·exact h5
  ·exact h7 c hc
def Cs:=A11 @nM @jP @KR @Mm @kT @Qz @lI @lH @lG @nL @iS
theorem Ww(t:Nd)(ht:t.cs.length≤4194304):PC Tryz.prog 161 [ndV t] (.sl ((subs t).map nlV) .ro):=by
 obtain⟨k,w,n,e,l,el,cs⟩:=t
 have ht:cs.length≤4194304:=ht
 have h:=BP (xss:=[[nlV l,nlV el],cs.map nlV]) (by simp) (by
  intro xs hx;simp only[List.mem_cons,List.not_mem_nil,or_false]at hx;rcases hx with rfl|rfl
  ·rfl
  ·exact TA cs) (by
  intro p xs hx;simp only[List.mem_cons,List.not_mem_nil,or_false]at hx;rcases hx with rfl|rfl
  ·simp only[V.idsL,aZ,Bool.and_self]
  ·exact aJ p cs) (by simp;omega)
 have e1:[[nlV l,nlV el],cs.map nlV].flatten=(subs (.mk k w n e l el cs)).map nlV:=by simp[subs,Nd.l,Nd.el,Nd.cs]
 rw[e1]at h
 simp only[List.map_cons,List.map_nil]at h
 refine PC.enter 12 Tryz.func161 rfl (by decide) rfl rfl (s:=[(0,ndV (.mk k w n e l el cs))]) (by rfl) ?_
 rw[eP]
 refine wG Cs TI ?_
 refine dH h TI (A4 aW aH aJ aZ) ?_
 refine goG Cs TI ?_
 refine wG Cs TI ?_
 refine aG (rs:=[.tmp 2]) rfl (by first|exact .inl rfl|exact .inr rfl) (finG Cs) ?_
 all_goals exact wkG (A4 aW aH aJ aZ)
theorem TH{α:Type}(f:α→Int){l:List α}{m:Nat}(h:m<l.length):(if f l[m]>mx ((l.take m).map f)then f l[m]else mx ((l.take m).map f))=mx ((l.take (m+1)).map f):=by
 rw[←Vy f h]
 split<;>omega
theorem MM{α:Type}(f:α→Int){l:List α}{m:Nat}(h:m<l.length):(if 1+f l[m]>1+mx ((l.take m).map f)then 1+f l[m]else 1+mx ((l.take m).map f))=1+mx ((l.take (m+1)).map f):=by
 rw[←Vy f h]
 split<;>omega
def qJ:=A7 @iV @jP @jZ @kT @nZ @gY @iS
theorem OT: ∀l:List Nd,fitNL l→cnt l≤4194304→PC Tryz.prog 94 [.sl (l.map ndV) .ro] (.im (.int .i64 (dep l))):=by
 refine nC fun l hl hf hc=> ?_
 have hl1:=hf.1
 show PC _ _ _ (.im (.int .i64 (mx (l.map depT))))
 refine PC.enter 33 Tryz.func94 rfl (by decide) rfl rfl (s:=[(0,.sl (l.map ndV) .ro)]) (by rfl) ?_
 refine wG qJ TI ?_
 refine aP ?_
 refine ALp.cutP 0 [(3,(.im (.int .i64 (mx ((l.take (0)).map depT))))),(9,.sl (l.map ndV) .ro),(10,(.im (.int .i64 (l.length)))),(11,(.im (.int .i64 ((((0:Nat)):Int)))))] [] (A4 aW aH aJ aZ) ?_
 refine ALp.upto l.length (fun _=>True) (fun m=>⟨dn 33 [(3,(.im (.int .i64 (mx ((l.take (m)).map depT))))),(9,.sl (l.map ndV) .ro),(10,(.im (.int .i64 (l.length)))),(11,(.im (.int .i64 ((((m:Nat)):Int)))))],ofl []⟩) ?_ 0 (Nat.zero_le _) trivial
 intro m hm _ hnext
 by_cases hlt:m<l.length
 ·have hlt':(m:Int)<(l.length:Int):=by omega
  have hm1:=aL hlt (by omega)
  have hg:=bB hlt;have ht:=hf.2 _ (List.getElem_mem hlt);have hx:=Ww l[m] (dR ht).2.2.2.2.2.1;obtain⟨hs1,hs2⟩:=Fg ht;have hcs: ∀c∈subs l[m],1+cnt c≤cnt l:=fun c hc=>Wq (List.getElem_mem hlt) hc
  have hR:=fun c hc'=>hl l[m] (List.getElem_mem hlt) c hc' (hs2 c hc') (by have:=hcs c hc';omega)
  have hmx:=TH depT hlt;rw[Ck]at hmx;generalize subs l[m]=sb at hx hs1 hs2 hcs hR hmx;refine wG qJ (A3 hlt' hg ND) ?_;refine AR.callP hx eW (A4 aW aH aJ aZ) ?_;refine goG qJ @List.length_map.{0,0} ?_;refine wG qJ @List.length_map.{0,0} ?_;refine aP ?_;refine ALp.cutP 0 [(3,(.im (.int .i64 (mx ((l.take m).map depT))))),(6,(.im (.int .i64 (1+mx ((sb.take (0)).map dep))))),(9,.sl (l.map ndV) .ro),(10,(.im (.int .i64 (l.length)))),(11,(.im (.int .i64 ((m:Int))))),(16,.sl (sb.map nlV) .ro),(17,(.im (.int .i64 (sb.length)))),(18,(.im (.int .i64 ((((0:Nat)):Int)))))] [] (A4 aW aH aJ aZ) ?_;refine ALp.upto sb.length (fun _=>True) (fun j=>⟨dn 33 [(3,(.im (.int .i64 (mx ((l.take m).map depT))))),(6,(.im (.int .i64 (1+mx ((sb.take (j)).map dep))))),(9,.sl (l.map ndV) .ro),(10,(.im (.int .i64 (l.length)))),(11,(.im (.int .i64 ((m:Int))))),(16,.sl (sb.map nlV) .ro),(17,(.im (.int .i64 (sb.length)))),(18,(.im (.int .i64 ((((j:Nat)):Int)))))],ofl []⟩) ?_ 0 (Nat.zero_le _) trivial
  intro j hj _ hnext2
  by_cases hlu:j<sb.length
  ·have hlu':(j:Int)<(sb.length:Int):=by omega
   have hj1:=aL hlu (by omega)
   have hg2:=bB hlu;have hc2:=hR sb[j] (List.getElem_mem hlu);have hd0:=sB sb[j];have hd1:=Te sb[j];have hd2:=hcs sb[j] (List.getElem_mem hlu);have hw:IntKind.i64.wrap (1+dep sb[j])=1+dep sb[j]:=cU (by omega)
   have hmx2:=MM dep hlu;refine wG qJ (A3 hlu' hg2 ND) ?_;refine AR.callP hc2 Ko (A4 aW aH aJ aZ) ?_;refine goG qJ (AI hw hmx2) ?_;refine wG qJ hj1 ?_;refine ALp.cutP 0 [(3,(.im (.int .i64 (mx ((l.take m).map depT))))),(6,(.im (.int .i64 (1+mx ((sb.take (j+1)).map dep))))),(9,.sl (l.map ndV) .ro),(10,(.im (.int .i64 (l.length)))),(11,(.im (.int .i64 ((m:Int))))),(16,.sl (sb.map nlV) .ro),(17,(.im (.int .i64 (sb.length)))),(18,(.im (.int .i64 ((((j+1:Nat)):Int)))))] [] (A4 aW aH aJ aZ) ?_;exact hnext2 (j+1) (by omega) (by omega) trivial
  obtain rfl:j=sb.length:=by omega
  clear hnext2;rw[List.take_length];refine whG qJ @Int.lt_irrefl ?_;refine Blk'.here (Thn.n ?_);refine wG qJ (AI hmx hm1) ?_;refine ALp.cutP 0 [(3,(.im (.int .i64 (mx ((l.take (m+1)).map depT))))),(9,.sl (l.map ndV) .ro),(10,(.im (.int .i64 (l.length)))),(11,(.im (.int .i64 ((((m+1:Nat)):Int)))))] [] (A4 aW aH aJ aZ) ?_;exact hnext (m+1) (by omega) (by omega) trivial
 obtain rfl:m=l.length:=by omega
 clear hnext
 rw[List.take_length]
 refine wG qJ @Int.lt_irrefl ?_
 exact aC
def BN05:=A15 Et zY uA tZ xY vD Eo zW Em El En zX Ko @List.getElem?_map.{0,0} @Int.natCast_nonneg
def plV(p:Nd×Bool):V:= .ag [.im (.int .i64 p.1.kind),.im (.int .i64 p.1.width),.im (.string p.1.name),.sl (p.1.e.map exV) .ro,.sl (p.1.l.map ndV) .ro,.sl (p.1.el.map ndV) .ro,.sl (p.1.cs.map nlV) .ro,.im (.bool p.2)]
theorem nN(p:Nd×Bool):plV p= .ag [.im (.int .i64 p.1.kind),.im (.int .i64 p.1.width),.im (.string p.1.name),.sl (p.1.e.map exV) .ro,.sl (p.1.l.map ndV) .ro,.sl (p.1.el.map ndV) .ro,.sl (p.1.cs.map nlV) .ro,.im (.bool p.2)]:=rfl
theorem Oc(p:Nd×Bool):(plV p).live=true:=rfl
theorem Ob(p:Nd×Bool):(plV p).size=8:=rfl
theorem Od(p:Nd×Bool):(plV p).isAg=true:=rfl
theorem Oe(p:Nd×Bool):(plV p).firm=true:=rfl
theorem Ie(g:Bool)(p:Nd×Bool):strip g (plV p)=plV p:=rfl
theorem If(p:Nd×Bool):(plV p).cells=[.im (.int .i64 p.1.kind),.im (.int .i64 p.1.width),.im (.string p.1.name),.sl (p.1.e.map exV) .ro,.sl (p.1.l.map ndV) .ro,.sl (p.1.el.map ndV) .ro,.sl (p.1.cs.map nlV) .ro,.im (.bool p.2)]:=rfl
theorem gX(p:Nat→Bool)(x:Nd×Bool):(plV x).ids p=true:=by simp[plV,V.ids,V.idsL,aD,aH,aJ]
theorem fY(p:Nat→Bool)(l:List (Nd×Bool)):V.idsL p (l.map plV)=true:=gB (gX p) l
theorem FQ(l:List (Nd×Bool)):kO 8 (l.map plV)=true:=by
 unfold kO
 rw[List.all_map]
 exact List.all_eq_true.2 fun x _=>rfl
theorem rY{α β:Type}(f:α→List β){l:List α}{m:Nat}(h:m<l.length):(l.take m).flatMap f++f l[m]=(l.take (m+1)).flatMap f:=by
 rw[List.take_succ_eq_append_getElem h,List.flatMap_append]
 simp
theorem wV{α β:Type}(f:α→List β)(l:List α)(m:Nat):((l.take m).flatMap f).length≤(l.flatMap f).length:=by
 have h:l.flatMap f=(l.take m).flatMap f++(l.drop m).flatMap f:=by rw[←List.flatMap_append,List.take_append_drop]
 rw[h,List.length_append]
 omega
def oV:=A15 @iV @cO @jP @jZ @Rf @KI @Rb @kT @nZ @iP @KF @gY @Qw @cN @iS
theorem YL: ∀l:List Nd,fitNL l→cnt l≤4194304→ ∀lp:Bool,PC Tryz.prog 95 [.sl (l.map ndV) .ro,(.im (.bool (lp)))] (.sl ((allL l lp).map plV) .ro):=by
 refine nC fun l hl hf hc lp=> ?_
 have hl1:=hf.1
 have hlen:=Qp l lp
 unfold allL at hlen ⊢
 refine PC.enter 47 Tryz.func95 rfl (by decide) rfl rfl (s:=[(0,.sl (l.map ndV) .ro),(1,(.im (.bool (lp))))]) (by rfl) ?_
 refine wG oV TI ?_
 refine aP ?_
 refine ALp.ghost 5 [] .nl 167 8 ?_
 refine ALp.cutP 1 [(1,(.im (.bool (lp)))),(5,.sl (((l.take (0)).flatMap fun t=>allT t lp).map plV) (.own 0)),(10,.sl (l.map ndV) .ro),(11,(.im (.int .i64 (l.length)))),(12,(.im (.int .i64 ((((0:Nat)):Int)))))] [.tip 167 8 ((l.take (0)).flatMap fun t=>allT t lp).length] (A7 aW aH aJ aZ gX fY @aD) ?_
 refine ALp.upto l.length (fun _=>True) (fun m=>⟨dn 47 [(1,(.im (.bool (lp)))),(5,.sl (((l.take (m)).flatMap fun t=>allT t lp).map plV) (.own 0)),(10,.sl (l.map ndV) .ro),(11,(.im (.int .i64 (l.length)))),(12,(.im (.int .i64 ((((m:Nat)):Int)))))],ofl [.tip 167 8 ((l.take (m)).flatMap fun t=>allT t lp).length]⟩) ?_ 0 (Nat.zero_le _) trivial
 intro m hm _ hnext
 by_cases hlt:m<l.length
 ·have hlt':(m:Int)<(l.length:Int):=by omega
  have hm1:=aL hlt (by omega)
  have hg:=bB hlt;have ht:=hf.2 _ (List.getElem_mem hlt);have hx:=Ww l[m] (dR ht).2.2.2.2.2.1;obtain⟨hs1,hs2⟩:=Fg ht;have hcs: ∀c∈subs l[m],1+cnt c≤cnt l:=fun c hc=>Wq (List.getElem_mem hlt) hc
  have hR:=fun c hc'=>hl l[m] (List.getElem_mem hlt) c hc' (hs2 c hc') (by have:=hcs c hc';omega) (inL l[m] lp)
  have hsn:=rY (fun t=>allT t lp) hlt
  have hle:=wV (fun t=>allT t lp) l (m+1)
  have hle0:=wV (fun t=>allT t lp) l m
  simp only[Co l[m]]at hsn;generalize hA:(l.take m).flatMap (fun t=>allT t lp)=A at hsn hle0 ⊢
  generalize hsb:subs l[m]=sb at hx hs1 hs2 hcs hR hsn;obtain⟨Bf,hBf⟩: ∃Bf:Nat→List (Nd×Bool),∀j,Bf j=A++(l[m],lp)::(sb.take j).flatMap fun c=>allL c (inL l[m] lp):=⟨_,fun _=>rfl⟩
  have hap:A.map plV++[.ag [.im (.int .i64 l[m].kind),.im (.int .i64 l[m].width),.im (.string l[m].name),.sl (l[m].e.map exV) .ro,.sl (l[m].l.map ndV) .ro,.sl (l[m].el.map ndV) .ro,.sl (l[m].cs.map nlV) .ro,.im (.bool lp)]]=(Bf 0).map plV:=by
   rw[hBf];simp[plV]
  have hone:A.length+1=(Bf 0).length:=by rw[hBf];simp
  have hend:Bf sb.length=(l.take (m+1)).flatMap fun t=>allT t lp:=by
   rw[hBf,List.take_length,←hsn]
  have hstep: ∀j (hj:j<sb.length),Bf j++allL sb[j] (inL l[m] lp)=Bf (j+1):=fun j hj=>by
   rw[hBf,hBf,←rY _ hj,List.append_assoc,List.cons_append]
  have hlen2: ∀j,(Bf j).length≤(Bf sb.length).length:=fun j=>by
   rw[hBf,hBf,List.length_append,List.length_append,List.length_cons,List.length_cons,List.take_length];have:=wV (fun c=>allL c (inL l[m] lp)) sb j
   omega
  rw[hend]at hlen2;have hb:(A.length+1)*136≤140737488355328:=by omega
  have hb0:(Bf 0).length*136≤140737488355328:=by have:=hlen2 0;omega
  refine wG oV (A7 hlt' hg hb hb0 hap hone ND) ?_;refine AR.callP hx eW (A7 aW aH aJ aZ gX fY @aD) ?_;refine goG oV (AI @List.length_map.{0,0} ND) ?_;refine wG oV (AI @List.length_map.{0,0} ND) ?_;refine aP ?_;refine ALp.cutP 2 [(1,(.im (.bool (lp)))),(5,.sl ((Bf (0)).map plV) (.own 0)),(7,.pt 1 0),(10,.sl (l.map ndV) .ro),(11,(.im (.int .i64 (l.length)))),(12,(.im (.int .i64 ((m:Int))))),(23,.sl (sb.map nlV) .ro),(24,(.im (.int .i64 (sb.length)))),(25,(.im (.int .i64 ((((0:Nat)):Int)))))] [.tip 167 8 (Bf (0)).length,.box [.im (.int .i64 l[m].kind),.im (.int .i64 l[m].width),.im (.string l[m].name),.sl (l[m].e.map exV) .ro,.sl (l[m].l.map ndV) .ro,.sl (l[m].el.map ndV) .ro,.sl (l[m].cs.map nlV) .ro]] (A7 aW aH aJ aZ gX fY @aD) ?_;refine ALp.upto sb.length (fun _=>True) (fun j=>⟨dn 47 [(1,(.im (.bool (lp)))),(5,.sl ((Bf (j)).map plV) (.own 0)),(7,.pt 1 0),(10,.sl (l.map ndV) .ro),(11,(.im (.int .i64 (l.length)))),(12,(.im (.int .i64 ((m:Int))))),(23,.sl (sb.map nlV) .ro),(24,(.im (.int .i64 (sb.length)))),(25,(.im (.int .i64 ((((j:Nat)):Int)))))],ofl [.tip 167 8 (Bf (j)).length,.box [.im (.int .i64 l[m].kind),.im (.int .i64 l[m].width),.im (.string l[m].name),.sl (l[m].e.map exV) .ro,.sl (l[m].l.map ndV) .ro,.sl (l[m].el.map ndV) .ro,.sl (l[m].cs.map nlV) .ro]]⟩) ?_ 0 (Nat.zero_le _) trivial
  intro j hj _ hnext2
  by_cases hlu:j<sb.length
  ·have hlu':(j:Int)<(sb.length:Int):=by omega
   have hj1:=aL hlu (by omega)
   have hg2:=bB hlu;have hc2:=hR sb[j] (List.getElem_mem hlu);have hs3:=congrArg (List.map plV) (hstep j hlu);rw[List.map_append]at hs3;have hs4:=congrArg List.length (hstep j hlu);rw[List.length_append]at hs4;have hb1:(Bf (j+1)).length*136≤140737488355328:=by have:=hlen2 (j+1);omega
   refine wG oV (A3 hlu' hg2 ND) ?_;have hin:inL l[m] lp=(lp||decide (l[m].kind=7)||decide (l[m].kind=8)):=rfl;refine AR.callP hc2 (AI Ko hin) (A7 aW aH aJ aZ gX fY @aD) ?_;refine goG oV (A5 hs3 hs4 hb1 FQ @List.length_map.{0,0}) ?_;refine wG oV hj1 ?_;refine ALp.cutP 2 [(1,(.im (.bool (lp)))),(5,.sl ((Bf (j+1)).map plV) (.own 0)),(7,.pt 1 0),(10,.sl (l.map ndV) .ro),(11,(.im (.int .i64 (l.length)))),(12,(.im (.int .i64 ((m:Int))))),(23,.sl (sb.map nlV) .ro),(24,(.im (.int .i64 (sb.length)))),(25,(.im (.int .i64 ((((j+1:Nat)):Int)))))] [.tip 167 8 (Bf (j+1)).length,.box [.im (.int .i64 l[m].kind),.im (.int .i64 l[m].width),.im (.string l[m].name),.sl (l[m].e.map exV) .ro,.sl (l[m].l.map ndV) .ro,.sl (l[m].el.map ndV) .ro,.sl (l[m].cs.map nlV) .ro]] (A7 aW aH aJ aZ gX fY @aD) ?_;exact hnext2 (j+1) (by omega) (by omega) trivial
  obtain rfl:j=sb.length:=by omega
  clear hnext2;rw[hend];refine whG oV @Int.lt_irrefl ?_;refine Blk'.here (Thn.n ?_);refine wG oV hm1 ?_;refine ALp.cutP 1 [(1,(.im (.bool (lp)))),(5,.sl (((l.take (m+1)).flatMap fun t=>allT t lp).map plV) (.own 0)),(10,.sl (l.map ndV) .ro),(11,(.im (.int .i64 (l.length)))),(12,(.im (.int .i64 ((((m+1:Nat)):Int)))))] [.tip 167 8 ((l.take (m+1)).flatMap fun t=>allT t lp).length] (A7 aW aH aJ aZ gX fY @aD) ?_
  exact hnext (m+1) (by omega) (by omega) trivial
 obtain rfl:m=l.length:=by omega
 clear hnext
 rw[List.take_length]
 refine wG oV @Int.lt_irrefl ?_
 refine aG (rs:=[.tmp 4]) rfl (by first|exact .inl rfl|exact .inr rfl) (finG oV) ?_
 all_goals exact wkG (A7 aW aH aJ aZ gX fY @aD)
def ZQ:=A7 aW aH aJ aZ gX fY @aD
def jM:=A15 @uS @tE @pX @gK @rK @zB @pU @pT @lF @mL @jJ @nK @sR @mZ @gI
set_option maxHeartbeats 400000 in
theorem BE: ∀(t:Ty),fit t→ ∀(n:Int),I64 n→PC Tryz.prog 157 [tyV t,(.im (.int .i64 (n)))] (.im (.bool (shal t n))):=by
 refine Ty.induct fun o k s c es fs hE hF=> ?_
 intro hfit n hn
 unfold I64 at hn
 obtain⟨hl1,hl2,hfE,hfF⟩:=kM hfit
 refine PC.enter 38 Tryz.func157 rfl (by decide) rfl rfl (s:=[(0,tyV (.mk o k s c es fs)),(1,(.im (.int .i64 (n))))]) (by rfl) ?_
 simp only[eB]
 by_cases h1:n<1
 ·have hr:shal (.mk o k s c es fs) n=false:=by
   rw[rS];have:decide (1≤n)=false:=by simp;omega
   simp[this]
  rw[hr];refine wG jM h1 ?_;exact aC
 ·have hn1:IntKind.i64.wrap (n-1)=n-1:=cU (by omega)
  refine wG jM h1 ?_;refine aP ?_;refine ALp.cutP 1 [(0,.ag [.im (.int .i64 k),.im (.int .i64 s),.im (.int .i64 c),.sl (es.map tyV) .ro,.sl (fs.map fdV) .ro]),(1,(.im (.int .i64 (n)))),(2,.pt 0 0),(4,.im (.bool false)),(12,.sl (es.map tyV) .ro),(13,(.im (.int .i64 (es.length)))),(14,(.im (.int .i64 (0))))] [.box [.im (.int .i64 k),.im (.int .i64 s),.im (.int .i64 c),.sl (es.map tyV) .ro,.sl (fs.map fdV) .ro]] TI ?_;refine ALp.upto es.length (AllTo (fun t=>shal t (n-1)) es) (fun m=>⟨dn 38 [(0,.ag [.im (.int .i64 k),.im (.int .i64 s),.im (.int .i64 c),.sl (es.map tyV) .ro,.sl (fs.map fdV) .ro]),(1,(.im (.int .i64 (n)))),(2,.pt 0 0),(4,.im (.bool false)),(12,.sl (es.map tyV) .ro),(13,(.im (.int .i64 (es.length)))),(14,(.im (.int .i64 (m))))],ofl [.box [.im (.int .i64 k),.im (.int .i64 s),.im (.int .i64 c),.sl (es.map tyV) .ro,.sl (fs.map fdV) .ro]]⟩) ?_ 0 (Nat.zero_le _) (AllTo.zero _ _)
  intro m hm hI hnext
  by_cases hlt:m<es.length
  ·have hlt':(m:Int)<(es.length:Int):=by omega
   have hg:=bB hlt;have hm1:=aL hlt (by omega)
   have hc:=hE es[m] (List.getElem_mem hlt) (hfE _ (List.getElem_mem hlt)) (n-1) (by unfold I64;omega)
   refine wG jM (A16 @eN @eR @dK @dM @eL @eK @eM @dL @dY @dX @eQ @dN @List.getElem?_map.{0,0} @Int.natCast_nonneg hlt' (A3 hg hn1 hm1)) ?_;refine AR.callP hc @bP TI ?_
   by_cases hsh:shal es[m] (n-1)=true
   ·refine goG jM hsh ?_
    refine wG jM hm1 ?_;refine ALp.cutP 1 [(0,.ag [.im (.int .i64 k),.im (.int .i64 s),.im (.int .i64 c),.sl (es.map tyV) .ro,.sl (fs.map fdV) .ro]),(1,(.im (.int .i64 (n)))),(2,.pt 0 0),(4,.im (.bool false)),(12,.sl (es.map tyV) .ro),(13,(.im (.int .i64 (es.length)))),(14,(.im (.int .i64 (((m+1:Nat):Int)))))] [.box [.im (.int .i64 k),.im (.int .i64 s),.im (.int .i64 c),.sl (es.map tyV) .ro,.sl (fs.map fdV) .ro]] TI ?_;exact hnext (m+1) (by omega) (by omega) (hI.succ hlt hsh)
   ·have hsh:shal es[m] (n-1)=false:=by simpa using hsh
    refine goG jM hsh ?_;refine wG jM hm1 ?_;rw[rS,oL hlt hsh];simp only[Bool.and_false,Bool.false_and];exact aC
  ·have hall1:=hI.done (by omega)
   have hlt': ¬(m:Int)<(es.length:Int):=by omega
   clear hnext hI hm hlt;refine wG jM hlt' ?_;clear hlt';refine aP ?_;refine ALp.cutP 1 [(0,.ag [.im (.int .i64 k),.im (.int .i64 s),.im (.int .i64 c),.sl (es.map tyV) .ro,.sl (fs.map fdV) .ro]),(1,(.im (.int .i64 (n)))),(2,.pt 0 0),(4,.im (.bool false)),(25,.sl (fs.map fdV) .ro),(26,(.im (.int .i64 (fs.length)))),(27,(.im (.int .i64 (0))))] [.box [.im (.int .i64 k),.im (.int .i64 s),.im (.int .i64 c),.sl (es.map tyV) .ro,.sl (fs.map fdV) .ro]] TI ?_;refine ALp.upto fs.length (AllTo (fun t=>shal t (n-1)) fs) (fun m=>⟨dn 38 [(0,.ag [.im (.int .i64 k),.im (.int .i64 s),.im (.int .i64 c),.sl (es.map tyV) .ro,.sl (fs.map fdV) .ro]),(1,(.im (.int .i64 (n)))),(2,.pt 0 0),(4,.im (.bool false)),(25,.sl (fs.map fdV) .ro),(26,(.im (.int .i64 (fs.length)))),(27,(.im (.int .i64 (m))))],ofl [.box [.im (.int .i64 k),.im (.int .i64 s),.im (.int .i64 c),.sl (es.map tyV) .ro,.sl (fs.map fdV) .ro]]⟩) ?_ 0 (Nat.zero_le _) (AllTo.zero _ _)
   intro m hm hI hnext
   by_cases hlt:m<fs.length
   ·have hlt':(m:Int)<(fs.length:Int):=by omega
    have hg:=bB hlt;have hm1:=aL hlt (by omega)
    have hc:=hF fs[m] (List.getElem_mem hlt) (hfF _ (List.getElem_mem hlt)) (n-1) (by unfold I64;omega)
    refine wG jM (A16 @eN @eR @dK @dM @eL @eK @eM @dL @dY @dX @eQ @dN @List.getElem?_map.{0,0} @Int.natCast_nonneg hlt' (A3 hg hn1 hm1)) ?_;refine AR.callP hc @bP TI ?_
    by_cases hsh:shal fs[m] (n-1)=true
    ·refine goG jM hsh ?_
     refine wG jM hm1 ?_;refine ALp.cutP 1 [(0,.ag [.im (.int .i64 k),.im (.int .i64 s),.im (.int .i64 c),.sl (es.map tyV) .ro,.sl (fs.map fdV) .ro]),(1,(.im (.int .i64 (n)))),(2,.pt 0 0),(4,.im (.bool false)),(25,.sl (fs.map fdV) .ro),(26,(.im (.int .i64 (fs.length)))),(27,(.im (.int .i64 (((m+1:Nat):Int)))))] [.box [.im (.int .i64 k),.im (.int .i64 s),.im (.int .i64 c),.sl (es.map tyV) .ro,.sl (fs.map fdV) .ro]] TI ?_;exact hnext (m+1) (by omega) (by omega) (hI.succ hlt hsh)
    ·have hsh:shal fs[m] (n-1)=false:=by simpa using hsh
     refine goG jM hsh ?_;refine wG jM hm1 ?_;rw[rS,oL hlt hsh];simp only[Bool.and_false];exact aC
   ·have hall2:=hI.done (by omega)
    have hlt': ¬(m:Int)<(fs.length:Int):=by omega
    clear hnext hI hm hlt;refine wG jM hlt' ?_;rw[rS,hall1,hall2];have:decide (1≤n)=true:=by simp;omega
    rw[this];simp only[Bool.and_self];exact aC
theorem GQ(a b:Int):(if b<a then b else a)=min a b:=by omega
theorem TQ(a b:Int):(if b>a then b else a)=max a b:=by omega
def ends(fs:List Ty)(m:Nat):Int:=((fs.take m).map fun f=>f.off+siz f).foldl max 0
theorem AS{fs:List Ty}{m:Nat}(h:m<fs.length):ends fs (m+1)=max (ends fs m) (fs[m].off+siz fs[m]):=by
 unfold ends
 rw[List.take_succ_eq_append_getElem h,List.map_append,List.foldl_append]
 rfl
theorem HU(fs:List Ty):ends fs fs.length=(fs.map fun f=>f.off+siz f).foldl max 0:=by
 unfold ends
 rw[List.take_length]
def kZ:=A16 @uS @cO @tE @pX @gK @rK @pU @pT @sZ @lF @rG @vZ @vY @mL @jJ (A5 @nK @cN @sR @mZ @gI)
set_option maxHeartbeats 400000 in
theorem UZ: ∀(t:Ty),fit t→frm t=true→PC Tryz.prog 212 [tyV t] (.im (.int .i64 (siz t))):=by
 refine Ty.induct fun o k s c es fs hE hF=> ?_
 intro hfit hfrm
 obtain⟨hl1,hl2,hfE,hfF⟩:=kM hfit
 obtain⟨hb,hof,hfs,hes⟩:=pH hfrm
 refine PC.enter 45 Tryz.func212 rfl (by decide) rfl rfl (s:=[(0,tyV (.mk o k s c es fs))]) (by rfl) ?_
 simp only[eB]
 rw[Dt]
 rcases mG hb with h1|h1|h1|h1|h1
 ·obtain⟨h1,rfl,rfl,_,_⟩:=h1
  rcases h1 with rfl|rfl
  all_goals
   refine wG kZ TI ?_;exact aC
 ·obtain⟨h1,h2,rfl,_,_⟩:=h1
  have e:min s 65537=s:=by omega
  have hs: ¬(65537:Int)<s:=by omega
  rcases h1 with rfl|rfl
  ·refine wG kZ hs ?_
   simp only[Int.reduceBEq,Bool.true_or,Bool.or_true,if_true,e];exact aC
  ·refine wG kZ hs ?_
   simp only[Int.reduceBEq,Bool.true_or,Bool.or_true,if_true,e];exact aC
 ·obtain⟨rfl,rfl,rfl,_,_⟩:=h1
  refine wG kZ TI ?_;exact aC
 ·obtain⟨rfl,rfl,h2,h3,h4,_⟩:=h1
  obtain⟨x,rfl⟩:=List.length_eq_one_iff.1 h4;have hc:=hE x (by simp) (hfE x (by simp)) (hes x (by simp))
  have hx0:=Ds x (hes x (by simp))
  have hx1:=EL x
  have hw:IntKind.i64.wrap (c*siz x)=c*siz x:=cU (by
   have h5:0≤c*siz x:=Int.mul_nonneg (by omega) hx0
   have h6:c*siz x≤65536*65537:=Int.mul_le_mul h3 hx1 hx0 (by omega)
   omega)
  refine wdG kZ BN03 ?_;refine AR.callP hc @bP TI ?_;refine goG kZ hw ?_;refine wdG kZ (AI hw GQ) ?_;simp only[Int.reduceBEq,Bool.or_self,Bool.false_eq_true,if_false,if_true,List.map_cons,List.headD_cons];exact aC
 ·obtain⟨rfl,rfl,rfl,_⟩:=h1
  have hoff: ∀i,(hi:i<fs.length)→0≤fs[i].off∧fs[i].off<65536:=fun i hi=>NG hi (hof i hi)
  refine wdG kZ BN03 ?_;refine aP ?_;refine ALp.cutP 1 [(0,.ag [.im (.int .i64 5),.im (.int .i64 0),.im (.int .i64 0),.sl (es.map tyV) .ro,.sl (fs.map fdV) .ro]),(1,.pt 0 0),(2,(.im (.int .i64 (0)))),(3,(.im (.int .i64 (ends fs (0))))),(28,.sl (fs.map fdV) .ro),(29,(.im (.int .i64 (fs.length)))),(30,(.im (.int .i64 (((0:Nat):Int)))))] [.box [.im (.int .i64 5),.im (.int .i64 0),.im (.int .i64 0),.sl (es.map tyV) .ro,.sl (fs.map fdV) .ro]] TI ?_;refine ALp.upto fs.length (fun _=>True) (fun m=>⟨dn 45 [(0,.ag [.im (.int .i64 5),.im (.int .i64 0),.im (.int .i64 0),.sl (es.map tyV) .ro,.sl (fs.map fdV) .ro]),(1,.pt 0 0),(2,(.im (.int .i64 (0)))),(3,(.im (.int .i64 (ends fs (m))))),(28,.sl (fs.map fdV) .ro),(29,(.im (.int .i64 (fs.length)))),(30,(.im (.int .i64 (((m:Nat):Int)))))],ofl [.box [.im (.int .i64 5),.im (.int .i64 0),.im (.int .i64 0),.sl (es.map tyV) .ro,.sl (fs.map fdV) .ro]]⟩) ?_ 0 (Nat.zero_le _) trivial
  intro m hm _ hnext
  by_cases hlt:m<fs.length
  ·have hlt':(m:Int)<(fs.length:Int):=by omega
   have hg:=bB hlt;have hm1:=aL hlt (by omega)
   have hc:=hF fs[m] (List.getElem_mem hlt) (hfF _ (List.getElem_mem hlt)) (hfs _ (List.getElem_mem hlt));have ho:=hoff m hlt;have hx0:=Ds fs[m] (hfs _ (List.getElem_mem hlt));have hx1:=EL fs[m];have hw:IntKind.i64.wrap (fs[m].off+siz fs[m])=fs[m].off+siz fs[m]:=cU (by omega)
   have he:=(AS hlt).symm;refine wdG kZ (A16 @eN @eR @dK @dM @eL @eK @eM @dL @dY @dX @eQ @dN @List.getElem?_map.{0,0} @Int.natCast_nonneg hlt' (AI hg hm1)) ?_;refine AR.callP hc @bP TI ?_;refine goG kZ (A3 hw TQ he) ?_;refine wdG kZ hm1 ?_;refine ALp.cutP 1 [(0,.ag [.im (.int .i64 5),.im (.int .i64 0),.im (.int .i64 0),.sl (es.map tyV) .ro,.sl (fs.map fdV) .ro]),(1,.pt 0 0),(2,(.im (.int .i64 (0)))),(3,(.im (.int .i64 (ends fs (m+1))))),(28,.sl (fs.map fdV) .ro),(29,(.im (.int .i64 (fs.length)))),(30,(.im (.int .i64 (((m+1:Nat):Int)))))] [.box [.im (.int .i64 5),.im (.int .i64 0),.im (.int .i64 0),.sl (es.map tyV) .ro,.sl (fs.map fdV) .ro]] TI ?_;exact hnext (m+1) (by omega) (by omega) trivial
  ·obtain rfl:m=fs.length:=by omega
   have hlt': ¬(fs.length:Int)<(fs.length:Int):=by omega
   clear hnext;refine wdG kZ (AI hlt' GQ) ?_;simp only[Int.reduceBEq,Bool.or_self,Bool.false_eq_true,if_false,if_true,←HU];exact aC
def seen(fs:List Ty)(m:Nat):Prop:= ∀j (hj:j<fs.length),j<m→fok fs j=true∧frm fs[j]=true
theorem seen.succ{fs:List Ty}{m:Nat}(h:seen fs m)(hm:m<fs.length)(h1:fok fs m=true)(h2:frm fs[m]=true):seen fs (m+1):=by
 intro j hj hlt
 rcases Nat.lt_succ_iff_lt_or_eq.1 hlt with h3|rfl
 ·exact h j hj h3
 ·exact⟨h1,h2⟩
theorem seen.done{fs:List Ty}(h:seen fs fs.length):(asc fs&&fs.all frm)=true:=by
 simp only[Bool.and_eq_true,asc,List.all_eq_true,List.mem_range]
 refine⟨fun i hi=>(h i hi hi).1,fun t ht=> ?_⟩
 obtain⟨i,hi,rfl⟩:=List.getElem_of_mem ht
 exact(h i hi hi).2
theorem unseen{fs:List Ty}{m:Nat}(hm:m<fs.length)(h: ¬(fok fs m=true∧frm fs[m]=true)):(asc fs&&fs.all frm)=false:=by
 rw[Bool.eq_false_iff]
 intro hn
 simp only[Bool.and_eq_true,asc,List.all_eq_true,List.mem_range]at hn
 exact h ⟨hn.1 m hm,hn.2 _ (List.getElem_mem hm)⟩
theorem GU{fs:List Ty}(hi:0<fs.length):fok fs 0=(decide (0≤fs[0].off)&&decide (fs[0].off<65536)):=by
 unfold fok
 have e:(fs.map Ty.off).getD 0 0=fs[0].off:=by simp[List.getD,hi]
 rw[e]
 simp
theorem GV{fs:List Ty}{j:Nat}(hi:j+1<fs.length):fok fs (j+1)=(decide (0≤fs[j+1].off)&&decide (fs[j+1].off<65536)&&decide (fs[j].off<fs[j+1].off)):=by
 unfold fok
 have hj:j<fs.length:=by omega
 have e:(fs.map Ty.off).getD (j+1) 0=fs[j+1].off:=by simp[List.getD,hi]
 have e2:(fs.map Ty.off).getD (j+1-1) 0=fs[j].off:=by simp[List.getD,hj]
 rw[e,e2]
 simp
theorem NH{fs:List Ty}{m:Nat}(hm:m<fs.length):fok fs m=true↔0≤fs[m].off∧fs[m].off<65536∧(m=0∨(fs[m-1]'(by omega)).off<fs[m].off):=by
 cases m with
 | zero=>rw[GU hm];simp
 | succ j=>rw[GV hm];simp[and_assoc]
theorem oM{o:Int}{fs:List Ty}{m:Nat}(hm:m<fs.length)(h: ¬(fok fs m=true∧frm fs[m]=true)):frm (.mk o 5 0 0 [] fs)=false:=by
 rw[wU]
 have:=unseen hm h
 simp only[Bool.and_eq_false_iff]at this ⊢
 exact .inl (this.elim (fun h=> .inl (.inr h)) .inr)
theorem pI{o k s c:Int}{es fs:List Ty}(h:base k s c es.length fs.length=false):frm (.mk o k s c es fs)=false:=by rw[wU,h];rfl
theorem Kw{o k s c:Int}{es fs:List Ty}(hb:base k s c es.length fs.length=true)(hf:fs=[]):frm (.mk o k s c es fs)=es.all frm:=by
 subst hf
 rw[wU,hb]
 simp[asc]
def cH:=A16 @uS @cO @tE @pX @gK @rK @zB @pU @pT @sZ @lF @rG @vZ @vY @mL (A7 @jJ @Cw @nK @cN @sR @mZ @gI)
set_option maxRecDepth 100000 in
set_option maxHeartbeats 2000000 in
theorem formed5{o s c:Int}{es fs:List Ty}(hF: ∀t∈fs,fit t→PC Tryz.prog 158 [tyV t] (.im (.bool (frm t))))(hfit:fit (.mk o 5 s c es fs)):PC Tryz.prog 158 [tyV (.mk o 5 s c es fs)] (.im (.bool (frm (.mk o 5 s c es fs)))):=by
 obtain⟨hl1,hl2,hfE,hfF⟩:=kM hfit
 refine PC.enter 131 Tryz.func158 rfl (by decide) rfl rfl (s:=[(0,tyV (.mk o 5 s c es fs))]) (by rfl) ?_
 simp only[eB]
 refine wdG cH TI ?_
 refine mQ rfl rfl (fun h=> ?_) (fun h=> ?_)
 ·rw[pI (by simp[base, -List.length_eq_zero_iff]at h ⊢;omega)]
  refine wG cH TI ?_;exact aC
 ·obtain⟨rfl,rfl,he⟩:s=0∧c=0∧es.length=0:=by simp[-List.length_eq_zero_iff]at h;omega
  obtain rfl:=List.length_eq_zero_iff.1 he;refine wdG cH TI ?_;refine aP ?_;refine ALp.cutP 1 [(0,.ag [.im (.int .i64 5),.im (.int .i64 0),.im (.int .i64 0),.sl [] .ro,.sl (fs.map fdV) .ro]),(1,.pt 0 0),(4,(.im (.int .i64 (0)))),(5,(.im (.bool (true)))),(84,.sl (fs.map fdV) .ro),(85,(.im (.int .i64 (fs.length)))),(86,(.im (.int .i64 (((0:Nat):Int)))))] [.box [.im (.int .i64 5),.im (.int .i64 0),.im (.int .i64 0),.sl [] .ro,.sl (fs.map fdV) .ro]] TI ?_;refine ALp.upto fs.length (fun m=>seen fs m) (fun m=>⟨dn 131 [(0,.ag [.im (.int .i64 5),.im (.int .i64 0),.im (.int .i64 0),.sl [] .ro,.sl (fs.map fdV) .ro]),(1,.pt 0 0),(4,(.im (.int .i64 (0)))),(5,(.im (.bool (true)))),(84,.sl (fs.map fdV) .ro),(85,(.im (.int .i64 (fs.length)))),(86,(.im (.int .i64 (((m:Nat):Int)))))],ofl [.box [.im (.int .i64 5),.im (.int .i64 0),.im (.int .i64 0),.sl [] .ro,.sl (fs.map fdV) .ro]]⟩) ?_ 0 (Nat.zero_le _) (fun j _ hj=>absurd hj (Nat.not_lt_zero _))
  intro m hm hI hnext
  by_cases hlt:m<fs.length
  ·have hlt':(m:Int)<(fs.length:Int):=by omega
   have hg:=bB hlt;have hm1:=aL hlt (by omega)
   have hk:=NH hlt
   by_cases a1:fs[m].off<0
   ·rw[oM hlt (fun h=>by have:=hk.1 h.1;omega)]
    refine wdG cH (A16 @eN @eR @dK @dM @eL @eK @eM @dL @dY @dX @eQ @dN @List.getElem?_map.{0,0} @Int.natCast_nonneg hlt' (A3 hg hm1 a1)) ?_;exact aC
   by_cases a2:fs[m].off≥65536
   ·rw[oM hlt (fun h=>by have:=hk.1 h.1;omega)]
    refine wdG cH (A16 @eN @eR @dK @dM @eL @eK @eM @dL @dY @dX @eQ @dN @List.getElem?_map.{0,0} @Int.natCast_nonneg hlt' (A4 hg hm1 a1 a2)) ?_;exact aC
   have hc:=hF fs[m] (List.getElem_mem hlt) (hfF _ (List.getElem_mem hlt))
   by_cases a3:(m:Int)>0
   ·have hg2:=bB (l:=fs) (m:=m-1) (by omega)
    have hp:IntKind.i64.wrap ((m:Int)-1)=((m-1:Nat):Int):=by rw[cU (by omega)];omega
    by_cases a4:fs[m].off≤(fs[m-1]'(by omega)).off
    ·rw[oM hlt (fun h=>by have:=hk.1 h.1;omega)]
     refine wdG cH (A16 @eN @eR @dK @dM @eL @eK @eM @dL @dY @dX @eQ @dN @List.getElem?_map.{0,0} @Int.natCast_nonneg hlt' (A8 hg hm1 a1 a2 a3 hg2 hp a4)) ?_;exact aC
    ·have hk2:fok fs m=true:=hk.2 (by omega)
     refine wdG cH (A16 @eN @eR @dK @dM @eL @eK @eM @dL @dY @dX @eQ @dN @List.getElem?_map.{0,0} @Int.natCast_nonneg hlt' (A8 hg hm1 a1 a2 a3 hg2 hp a4)) ?_
     by_cases b:frm fs[m]=true
     ·rw[b]at hc
      refine AR.callP hc @bP TI ?_;refine goG cH TI ?_;refine wdG cH hm1 ?_;refine ALp.cutP 1 [(0,.ag [.im (.int .i64 5),.im (.int .i64 0),.im (.int .i64 0),.sl [] .ro,.sl (fs.map fdV) .ro]),(1,.pt 0 0),(4,(.im (.int .i64 (0)))),(5,(.im (.bool (true)))),(84,.sl (fs.map fdV) .ro),(85,(.im (.int .i64 (fs.length)))),(86,(.im (.int .i64 (((m+1:Nat):Int)))))] [.box [.im (.int .i64 5),.im (.int .i64 0),.im (.int .i64 0),.sl [] .ro,.sl (fs.map fdV) .ro]] TI ?_;exact hnext (m+1) (by omega) (by omega) (hI.succ hlt hk2 b)
     ·rw[oM hlt (fun h=>b h.2)]
      rw[Bool.eq_false_iff.2 b]at hc;refine AR.callP hc @bP TI ?_;refine goG cH TI ?_;refine wdG cH hm1 ?_;exact aC
   ·have hk2:fok fs m=true:=hk.2 (by omega)
    refine wdG cH (A16 @eN @eR @dK @dM @eL @eK @eM @dL @dY @dX @eQ @dN @List.getElem?_map.{0,0} @Int.natCast_nonneg hlt' (A5 hg hm1 a1 a2 a3)) ?_
    by_cases b:frm fs[m]=true
    ·rw[b]at hc
     refine AR.callP hc @bP TI ?_;refine goG cH TI ?_;refine wdG cH hm1 ?_;refine ALp.cutP 1 [(0,.ag [.im (.int .i64 5),.im (.int .i64 0),.im (.int .i64 0),.sl [] .ro,.sl (fs.map fdV) .ro]),(1,.pt 0 0),(4,(.im (.int .i64 (0)))),(5,(.im (.bool (true)))),(84,.sl (fs.map fdV) .ro),(85,(.im (.int .i64 (fs.length)))),(86,(.im (.int .i64 (((m+1:Nat):Int)))))] [.box [.im (.int .i64 5),.im (.int .i64 0),.im (.int .i64 0),.sl [] .ro,.sl (fs.map fdV) .ro]] TI ?_;exact hnext (m+1) (by omega) (by omega) (hI.succ hlt hk2 b)
    ·rw[oM hlt (fun h=>b h.2)]
     rw[Bool.eq_false_iff.2 b]at hc;refine AR.callP hc @bP TI ?_;refine goG cH TI ?_;refine wdG cH hm1 ?_;exact aC
  ·obtain rfl:m=fs.length:=by omega
   have hlt': ¬(fs.length:Int)<(fs.length:Int):=by omega
   clear hnext
   have e:frm (.mk o 5 0 0 [] fs)=true:=by
    rw[wU,show base 5 0 0 ([]:List Ty).length fs.length=true from by simp[base]]
    simpa using hI.done
   rw[e];refine wdG cH hlt' ?_;exact aC
set_option maxRecDepth 100000 in
set_option maxHeartbeats 2000000 in
theorem JG: ∀(t:Ty),fit t→PC Tryz.prog 158 [tyV t] (.im (.bool (frm t))):=by
 refine Ty.induct fun o k s c es fs hE hF=> ?_
 intro hfit
 obtain⟨hl1,hl2,hfE,hfF⟩:=kM hfit
 by_cases k5:k=5
 ·subst k5
  exact formed5 hF hfit
 refine PC.enter 131 Tryz.func158 rfl (by decide) rfl rfl (s:=[(0,tyV (.mk o k s c es fs))]) (by rfl) ?_
 simp only[eB]
 by_cases k0:k=0∨k=6
 ·rcases k0 with rfl|rfl
  all_goals
   refine wdG cH TI ?_;refine mQ rfl rfl (fun h=> ?_) (fun h=> ?_)
   ·rw[pI (by simp[base, -List.length_eq_zero_iff]at h ⊢;omega)]
    refine wG cH TI ?_;exact aC
   ·obtain⟨rfl,rfl,he,hf⟩:s=0∧c=0∧es.length=0∧fs.length=0:=by simp[-List.length_eq_zero_iff]at h;omega
    obtain rfl:=List.length_eq_zero_iff.1 he;obtain rfl:=List.length_eq_zero_iff.1 hf;rw[Kw (by decide) rfl]
    refine wdG cH TI ?_;refine aP (dE ?_);refine wG cH TI ?_;exact aC
 by_cases k1:k=1∨k=2
 ·rcases k1 with rfl|rfl
  all_goals
   refine wdG cH TI ?_;refine mQ rfl rfl (fun h=> ?_) (fun h=> ?_)
   ·rw[pI (by simp[base, -List.length_eq_zero_iff]at h ⊢;omega)]
    refine wG cH TI ?_;exact aC
   ·have hs:s=1∨s=2∨s=4:=by simp[-List.length_eq_zero_iff]at h;omega
    refine wdG cH TI ?_;refine mQ rfl rfl (fun h=> ?_) (fun h=> ?_)
    ·rw[pI (by simp[base, -List.length_eq_zero_iff]at h ⊢;omega)]
     refine wG cH TI ?_;exact aC
    ·obtain⟨rfl,he,hf⟩:c=0∧es.length=0∧fs.length=0:=by simp[-List.length_eq_zero_iff]at h;omega
     obtain rfl:=List.length_eq_zero_iff.1 he;obtain rfl:=List.length_eq_zero_iff.1 hf;rw[Kw (by simp[base, -List.length_eq_zero_iff];omega) rfl]
     refine wdG cH TI ?_;refine aP (dE ?_);refine wG cH TI ?_;exact aC
 by_cases k3:k=3
 ·subst k3
  refine wdG cH TI ?_;refine mQ rfl rfl (fun h=> ?_) (fun h=> ?_)
  ·rw[pI (by simp[base, -List.length_eq_zero_iff]at h ⊢;omega)]
   refine wG cH TI ?_;exact aC
  ·obtain⟨rfl,rfl,he,hf⟩:s=0∧c=0∧es.length=1∧fs.length=0:=by simp[-List.length_eq_zero_iff]at h;omega
   obtain⟨x,rfl⟩:=List.length_eq_one_iff.1 he;obtain rfl:=List.length_eq_zero_iff.1 hf;have hc:=hE x (by simp) (hfE x (by simp))
   rw[Kw (by simp[base]) rfl]
   refine wdG cH TI ?_;refine aP (dE ?_);refine wdG cH BN03 ?_;refine AR.callP hc @bP TI ?_;refine goG cH TI ?_;simp only[List.all_cons,List.all_nil,Bool.and_true];refine wdG cH TI ?_;exact aC
 by_cases k4:k=4
 ·subst k4
  refine wdG cH TI ?_;refine mQ rfl rfl (fun h=> ?_) (fun h=> ?_)
  ·rw[pI (by simp[base, -List.length_eq_zero_iff]at h ⊢;omega)]
   refine wG cH TI ?_;exact aC
  ·have hs:1≤c∧c≤65536:=by simp[-List.length_eq_zero_iff]at h;omega
   refine wdG cH TI ?_;refine mQ rfl rfl (fun h=> ?_) (fun h=> ?_)
   ·rw[pI (by simp[base, -List.length_eq_zero_iff]at h ⊢;omega)]
    refine wG cH TI ?_;exact aC
   ·obtain⟨rfl,he,hf⟩:s=0∧es.length=1∧fs.length=0:=by simp[-List.length_eq_zero_iff]at h;omega
    obtain⟨x,rfl⟩:=List.length_eq_one_iff.1 he;obtain rfl:=List.length_eq_zero_iff.1 hf;have hc:=hE x (by simp) (hfE x (by simp))
    rw[Kw (by simp[base, -List.length_eq_zero_iff];omega) rfl]
    refine wdG cH TI ?_;refine aP (dE ?_);refine wdG cH BN03 ?_;refine AR.callP hc @bP TI ?_;refine goG cH TI ?_;simp only[List.all_cons,List.all_nil,Bool.and_true];refine wdG cH TI ?_;exact aC
 have k6: ¬k=6:=by omega
 have k2: ¬k=2:=by omega
 replace k0: ¬k=0:=by omega
 replace k1: ¬k=1:=by omega
 rw[pI (by simp[base,k0,k1,k2,k3,k4,k5,k6])]
 refine wdG cH (A7 k0 k1 k2 k3 k4 k5 k6) ?_
 exact aC
theorem JR{k s c:Int}{ne nf:Nat}(h:base k s c ne nf=true):ne=0∨ne=1:=by
 rcases mG h with h|h|h|h|h<;>omega
def jA:=A14 @uS @tE @pX @gK @rK @pU @pT @lF @mL @jJ @nK @sR @mZ @gI
set_option maxHeartbeats 1000000 in
theorem IG: ∀(t:Ty),fit t→frm t=true→PC Tryz.prog 159 [tyV t] (.im (.bool (wit t))):=by
 refine Ty.induct fun o k s c es fs hE hF=> ?_
 intro hfit hfrm
 obtain⟨hl1,hl2,hfE,hfF⟩:=kM hfit
 obtain⟨hb,hof,hfs,hes⟩:=pH hfrm
 have hs:=UZ _ hfit hfrm
 refine PC.enter 37 Tryz.func159 rfl (by decide) rfl rfl (s:=[(0,tyV (.mk o k s c es fs))]) (by rfl) ?_
 simp only[eB]
 by_cases h1:(fs.length:Int)>64
 ·have e:wit (.mk o k s c es fs)=false:=by rw[Df];simp;omega
  rw[e];refine wG jA h1 ?_;exact aC
 refine wG jA h1 ?_
 refine AR.callP hs @eB TI ?_
 by_cases h2:siz (.mk o k s c es fs)>65536
 ·have e:wit (.mk o k s c es fs)=false:=by rw[Df];simp;omega
  rw[e];refine goG jA (AI h1 h2) ?_;refine wG jA TI ?_;exact aC
 refine goG jA (AI h1 h2) ?_
 have e0:wit (.mk o k s c es fs)=(fs.all wit&&es.all wit):=by
  rw[Df];have a1:decide (fs.length≤64)=true:=by simp;omega
  have a2:decide (siz (.mk o k s c es fs)≤65536)=true:=by simp;omega
  rw[a1,a2];simp
 rw[e0]
 clear hs h2 e0
 refine wG jA TI ?_
 refine aP ?_
 refine ALp.cutP 1 [(0,.ag [.im (.int .i64 k),.im (.int .i64 s),.im (.int .i64 c),.sl (es.map tyV) .ro,.sl (fs.map fdV) .ro]),(1,.pt 0 0),(15,.sl (fs.map fdV) .ro),(16,(.im (.int .i64 (fs.length)))),(17,(.im (.int .i64 ((((0:Nat)):Int)))))] [.box [.im (.int .i64 k),.im (.int .i64 s),.im (.int .i64 c),.sl (es.map tyV) .ro,.sl (fs.map fdV) .ro]] TI ?_
 refine ALp.upto fs.length (AllTo wit fs) (fun m=>⟨dn 37 [(0,.ag [.im (.int .i64 k),.im (.int .i64 s),.im (.int .i64 c),.sl (es.map tyV) .ro,.sl (fs.map fdV) .ro]),(1,.pt 0 0),(15,.sl (fs.map fdV) .ro),(16,(.im (.int .i64 (fs.length)))),(17,(.im (.int .i64 ((((m:Nat)):Int)))))],ofl [.box [.im (.int .i64 k),.im (.int .i64 s),.im (.int .i64 c),.sl (es.map tyV) .ro,.sl (fs.map fdV) .ro]]⟩) ?_ 0 (Nat.zero_le _) (AllTo.zero _ _)
 intro m hm hI hnext
 by_cases hlt:m<fs.length
 ·have hlt':(m:Int)<(fs.length:Int):=by omega
  have hg:=bB hlt;have hm1:=aL hlt (by omega)
  have hc:=hF fs[m] (List.getElem_mem hlt) (hfF _ (List.getElem_mem hlt)) (hfs _ (List.getElem_mem hlt));refine wG jA (A16 @eN @eR @dK @dM @eL @eK @eM @dL @dY @dX @eQ @dN @List.getElem?_map.{0,0} @Int.natCast_nonneg hlt' (AI hg hm1)) ?_
  by_cases b:wit fs[m]=true
  ·rw[b]at hc
   refine AR.callP hc @bP TI ?_;refine goG jA TI ?_;refine wG jA hm1 ?_;refine ALp.cutP 1 [(0,.ag [.im (.int .i64 k),.im (.int .i64 s),.im (.int .i64 c),.sl (es.map tyV) .ro,.sl (fs.map fdV) .ro]),(1,.pt 0 0),(15,.sl (fs.map fdV) .ro),(16,(.im (.int .i64 (fs.length)))),(17,(.im (.int .i64 ((((m+1:Nat)):Int)))))] [.box [.im (.int .i64 k),.im (.int .i64 s),.im (.int .i64 c),.sl (es.map tyV) .ro,.sl (fs.map fdV) .ro]] TI ?_;exact hnext (m+1) (by omega) (by omega) (hI.succ hlt b)
  ·have b:wit fs[m]=false:=by simpa using b
   rw[b]at hc;refine AR.callP hc @bP TI ?_;refine goG jA TI ?_;refine wG jA hm1 ?_;rw[oL hlt b,Bool.false_and];exact aC
 ·have hall:=hI.done (by omega)
  have hlt': ¬(m:Int)<(fs.length:Int):=by omega
  clear hnext hI hm hlt;rw[hall,Bool.true_and];rcases JR hb with he|he
  ·obtain rfl:=List.length_eq_zero_iff.1 he
   refine wG jA hlt' ?_;exact aC
  ·obtain⟨x,rfl⟩:=List.length_eq_one_iff.1 he
   have hc:=hE x (by simp) (hfE x (by simp)) (hes x (by simp))
   refine wG jA (A15 @eN @eR @dK @dM @eL @eK @eM @dL @dY @dX @eQ @dN @List.getElem?_map.{0,0} @Int.natCast_nonneg hlt') ?_;refine AR.callP hc @bP TI ?_;refine goG jA TI ?_;simp only[List.all_cons,List.all_nil,Bool.and_true];refine wG jA TI ?_;exact aC
def mH:=AI @gK @gI
theorem TP:I64 64:=by unfold I64;omega
theorem Xa(t:Ty)(hfit:fit t):PC Tryz.prog 89 [tyV t] (.im (.int .i64 (chk t))):=by
 have h1:=BE t hfit 64 TP
 have h2:=JG t hfit
 have h3:frm t=true→_:=IG t hfit
 refine PC.enter 15 Tryz.func89 rfl (by decide) rfl rfl (s:=[(0,tyV t)]) (by rfl) ?_
 simp only[bP]
 unfold chk
 refine wG mH TI ?_
 by_cases b1:shal t 64=true
 case neg =>
  have b1:shal t 64=false:=by simpa using b1
  rw[b1]at h1 ⊢;refine AR.callP h1 @bP TI ?_;refine goG mH TI ?_;refine wG mH TI ?_;exact aC
 rw[b1]at h1 ⊢
 refine AR.callP h1 @bP TI ?_
 refine goG mH TI ?_
 refine wG mH TI ?_
 by_cases b2:frm t=true
 case neg =>
  have b2:frm t=false:=by simpa using b2
  rw[b2]at h2 ⊢;refine AR.callP h2 @bP TI ?_;refine goG mH TI ?_;refine wG mH TI ?_;exact aC
 have h3:=h3 b2
 rw[b2]at h2 ⊢
 refine AR.callP h2 @bP TI ?_
 refine goG mH TI ?_
 refine wG mH TI ?_
 by_cases b3:wit t=true
 case neg =>
  have b3:wit t=false:=by simpa using b3
  rw[b3]at h3 ⊢;refine AR.callP h3 @bP TI ?_;refine goG mH TI ?_;refine wG mH TI ?_;exact aC
 rw[b3]at h3 ⊢
 refine AR.callP h3 @bP TI ?_
 refine goG mH TI ?_
 refine wG mH TI ?_
 exact aC
def Md:=AI @gK @gI
theorem VJ(t:Ty)(hfit:fit t):PC Tryz.prog 147 [tyV t] (.im (.bool (good t))):=by
 have h1:=Xa t hfit
 refine PC.enter 6 Tryz.func147 rfl (by decide) rfl rfl (s:=[(0,tyV t)]) (by rfl) ?_
 simp only[bP]
 have e:good t=decide (chk t=0):=rfl
 rw[e]
 refine wG Md TI ?_
 refine AR.callP h1 @bP TI ?_
 refine goG Md TI ?_
 refine wG Md TI ?_
 exact aC
theorem Yu{P:Program}{o:Oper}{ev:Operand→V}{t:TypeId}{id:Nat}{x:Operand}{y x1:V}{q:Nat}(ht:q%1000000=t∧q/1000000=1)(ho:o.op= .box t x)(hx:ev x= .ag [.im (.pointer none),y,x1]):Step P o ev [(id,.free)] ⟨.pt id 0,[(id,.box [.nb id q,y,x1])]⟩:=by
 intro C ρ hC hR hf
 have hf':C.st id= .free:=hf (id,.free) (by simp)
 have h0:=hR x (by simp[ho,Op.operands])
 rw[hx]at h0
 obtain⟨h1,h2⟩:=h0.live rfl
 have hr:(execOp ρ o).run P C.w= .ok (.value (.pointer (some ⟨C.w.heap.size,0,none⟩))) (C.w.alloc (.cells (ρ x).cells t)):=by
  simp only[execOp,ho,Instr.box,Sem.run_bind,rT,Result.andThen_ok,Sem.run_pure]
 rw[hr]
 obtain⟨bs,hbs⟩: ∃bs,bs=(ρ x).cells:=⟨_,rfl⟩
 rw[←hbs]at h1 h2 ⊢
 have hz:bs.size=3:=h1
 obtain⟨D,hD⟩: ∃D,D=C.newId id (.cells bs t) (.box [.im (.pointer none),y,x1]):=⟨_,rfl⟩
 have hE:Ev C D:=by rw[hD];exact Ev.newId hf'
 have hO:Ok D:=by
  rw[hD];exact hC.newId hf' (fun cs' e=>by cases e;exact⟨bs,t,rfl,Nat.le_of_eq h1.symm,fun j hj=>(h2 j hj).1,fun j hj=>(h2 j hj).2⟩) (fun _ _ _ e=>by cases e) (fun _ _ e=>by cases e)
 have dw:D.w=C.w.alloc (.cells bs t):=by rw[hD];rfl
 have dσ:D.σ id=some C.w.heap.size:=by rw[hD];simp[Cf.newId]
 have dst:D.st id= .box [.im (.pointer none),y,x1]:=by rw[hD];simp[Cf.newId,upd]
 have dh:D.w.heap[C.w.heap.size]? =some (.cells bs t (0,0)):=by
  rw[dw];show(Array.push C.w.heap _)[C.w.heap.size]? =_
  exact Array.getElem?_push_size
 have hk:Kin D.st (upd D.st id (.box [.nb id q,y,x1])):=fun i=>by
  by_cases hi:i=id
  ·subst hi
   exact .inr ⟨_,[.nb i q,y,x1],dst,by simp[upd]⟩
  ·exact .inl (by simp[upd,hi])
 have hst:upd D.st id (.box [.nb id q,y,x1])=wrs C.st [(id,.box [.nb id q,y,x1])]:=by
  rw[hD]
  funext i
  simp only[Cf.newId,wrs,upd];split<;>rfl
 refine⟨D.wst (upd D.st id (.box [.nb id q,y,x1])),dw,hst,hO.wst hk fun i cs hb=> ?_,hE.trans (Ev.wst hk),.pt (cs:=[.nb id q,y,x1]) dσ (by simp[Cf.wst,upd])⟩
 by_cases hi:i=id
 ·subst hi
  have hb:Ent.box [.nb i q,y,x1]= .box cs:=by simpa[upd]using hb
  cases hb
  refine⟨C.w.heap.size,bs,t,dσ,dh,by simp[hz],fun j hj=>(h2 j hj).1,fun j hj=> ?_⟩
  match j,hj with
  | 0,_ =>
   have h3:=(h2 0 (by simp[V.cells])).2
   have h3:R C (.im (.pointer none)) (bs.getD 0 undef):=h3;have e:=h3.im_eq;exact .nb (cs:=[.nb i q,y,x1]) dσ (by simp[Cf.wst,upd]) (by rw[ht.1];exact dh) (by rw[hz,ht.2]) (.inl e)
  | 1,_ =>
   have h3:R C y (bs.getD 1 undef):=(h2 1 (by simp[V.cells])).2
   exact(h3.mono hE).wst hk
  | 2,_ =>
   have h3:R C x1 (bs.getD 2 undef):=(h2 2 (by simp[V.cells])).2
   exact(h3.mono hE).wst hk
 ·have hb:D.st i= .box cs:=by simpa[upd,hi]using hb
  obtain⟨g,bs',t',e1,e2,e3,e4,e5⟩:=hO.box i cs hb;exact⟨g,bs',t',e1,e2,e3,e4,fun j hj=>(e5 j hj).wst hk⟩
theorem QC{P:Program}{N:Nat}{ops:Array Oper}{dr:Bool}{Q:Exit→St→Prop}{d:Option Tmp}{t ty:TypeId}{x:Operand}{pos:String}{af:Array Edge}{os:List Oper}{k:Nat}{s:List (Nat×V)}{l:List Ent}{acc:List (Nat×List Nat×List Nat)}{y x1:V}
  {q:Nat} (ht:q%1000000=t∧q/1000000=1) (hx:St.ev ⟨dn N s,ofl l⟩ x= .ag [.im (.pointer none),y,x1]) (hn:AR P ops dr Q os (k+1) ⟨dn N (eZ s d (.pt l.length 0)),ofl (l++[.box [.nb l.length q,y,x1]])⟩ ((k,[l.length],[l.length])::acc)) :
  AR P ops dr Q (⟨d,.box t x,ty,pos,af,none⟩::os) k ⟨dn N s,ofl l⟩ acc :=
 .inr (.inl ⟨rfl,[(l.length,.free)],⟨.pt l.length 0,[(l.length,.box [.nb l.length q,y,x1])]⟩,Yu ht rfl hx,fun p hp=>by
  obtain rfl:=List.mem_singleton.1 hp;exact vB l,by
  have e:ofl (l++[.box [.nb l.length q,y,x1]])=wrs (ofl l) [(l.length,.box [.nb l.length q,y,x1])]:=by
   rw[←tX];rfl
  rw[e,←kK N s (ofl l)]at hn
  exact hn⟩)
theorem Yv{P:Program}{o:Oper}{ev:Operand→V}{t:TypeId}{id:Nat}{x:Operand}{y:V}(ht:t<1000000)(ho:o.op= .box t x)(hx:ev x= .ag [.im (.pointer none),y]):Step P o ev [(id,.free)] ⟨.pt id 0,[(id,.box [.nb id t,y])]⟩:=by
 intro C ρ hC hR hf
 have hf':C.st id= .free:=hf (id,.free) (by simp)
 have h0:=hR x (by simp[ho,Op.operands])
 rw[hx]at h0
 obtain⟨h1,h2⟩:=h0.live rfl
 have hr:(execOp ρ o).run P C.w= .ok (.value (.pointer (some ⟨C.w.heap.size,0,none⟩))) (C.w.alloc (.cells (ρ x).cells t)):=by
  simp only[execOp,ho,Instr.box,Sem.run_bind,rT,Result.andThen_ok,Sem.run_pure]
 rw[hr]
 obtain⟨bs,hbs⟩: ∃bs,bs=(ρ x).cells:=⟨_,rfl⟩
 rw[←hbs]at h1 h2 ⊢
 have hz:bs.size=2:=h1
 obtain⟨D,hD⟩: ∃D,D=C.newId id (.cells bs t) (.box [.im (.pointer none),y]):=⟨_,rfl⟩
 have hE:Ev C D:=by rw[hD];exact Ev.newId hf'
 have hO:Ok D:=by
  rw[hD];exact hC.newId hf' (fun cs' e=>by cases e;exact⟨bs,t,rfl,Nat.le_of_eq h1.symm,fun j hj=>(h2 j hj).1,fun j hj=>(h2 j hj).2⟩) (fun _ _ _ e=>by cases e) (fun _ _ e=>by cases e)
 have dw:D.w=C.w.alloc (.cells bs t):=by rw[hD];rfl
 have dσ:D.σ id=some C.w.heap.size:=by rw[hD];simp[Cf.newId]
 have dst:D.st id= .box [.im (.pointer none),y]:=by rw[hD];simp[Cf.newId,upd]
 have dh:D.w.heap[C.w.heap.size]? =some (.cells bs t (0,0)):=by
  rw[dw];show(Array.push C.w.heap _)[C.w.heap.size]? =_
  exact Array.getElem?_push_size
 have hk:Kin D.st (upd D.st id (.box [.nb id t,y])):=fun i=>by
  by_cases hi:i=id
  ·subst hi
   exact .inr ⟨_,[.nb i t,y],dst,by simp[upd]⟩
  ·exact .inl (by simp[upd,hi])
 have hst:upd D.st id (.box [.nb id t,y])=wrs C.st [(id,.box [.nb id t,y])]:=by
  rw[hD]
  funext i
  simp only[Cf.newId,wrs,upd];split<;>rfl
 refine⟨D.wst (upd D.st id (.box [.nb id t,y])),dw,hst,hO.wst hk fun i cs hb=> ?_,hE.trans (Ev.wst hk),.pt (cs:=[.nb id t,y]) dσ (by simp[Cf.wst,upd])⟩
 by_cases hi:i=id
 ·subst hi
  have hb:Ent.box [.nb i t,y]= .box cs:=by simpa[upd]using hb
  cases hb
  refine⟨C.w.heap.size,bs,t,dσ,dh,by simp[hz],fun j hj=>(h2 j hj).1,fun j hj=> ?_⟩
  match j,hj with
  | 0,_ =>
   have h3:=(h2 0 (by simp[V.cells])).2
   have h3:R C (.im (.pointer none)) (bs.getD 0 undef):=h3;have e:=h3.im_eq;exact .nb (cs:=[.nb i t,y]) dσ (by simp[Cf.wst,upd]) (by rw[Nat.mod_eq_of_lt ht];exact dh) (by rw[hz,Nat.div_eq_of_lt ht]) (.inl e)
  | 1,_ =>
   have h3:R C y (bs.getD 1 undef):=(h2 1 (by simp[V.cells])).2
   exact(h3.mono hE).wst hk
 ·have hb:D.st i= .box cs:=by simpa[upd,hi]using hb
  obtain⟨g,bs',t',e1,e2,e3,e4,e5⟩:=hO.box i cs hb;exact⟨g,bs',t',e1,e2,e3,e4,fun j hj=>(e5 j hj).wst hk⟩
theorem QD{P:Program}{N:Nat}{ops:Array Oper}{dr:Bool}{Q:Exit→St→Prop}{d:Option Tmp}{t ty:TypeId}{x:Operand}{pos:String}{af:Array Edge}{os:List Oper}{k:Nat}{s:List (Nat×V)}{l:List Ent}{acc:List (Nat×List Nat×List Nat)}{y:V}
  (ht:t<1000000) (hx:St.ev ⟨dn N s,ofl l⟩ x= .ag [.im (.pointer none),y]) (hn:AR P ops dr Q os (k+1) ⟨dn N (eZ s d (.pt l.length 0)),ofl (l++[.box [.nb l.length t,y]])⟩ ((k,[l.length],[l.length])::acc)) :
  AR P ops dr Q (⟨d,.box t x,ty,pos,af,none⟩::os) k ⟨dn N s,ofl l⟩ acc :=
 .inr (.inl ⟨rfl,[(l.length,.free)],⟨.pt l.length 0,[(l.length,.box [.nb l.length t,y])]⟩,Yv ht rfl hx,fun p hp=>by
  obtain rfl:=List.mem_singleton.1 hp;exact vB l,by
  have e:ofl (l++[.box [.nb l.length t,y]])=wrs (ofl l) [(l.length,.box [.nb l.length t,y])]:=by
   rw[←tX];rfl
  rw[e,←kK N s (ofl l)]at hn
  exact hn⟩)
end Go.Proofs.YtmbmmckagcdapaaGreatDoor
namespace Go.Proofs.YtmbmmckagcdapaaGreatDoor
open Go.RowKit
section
variable {F:Fence} {n:Nat} {P:Program} {a:Act} {w:World} {Q:Exit→Act→World→Prop}
end
end Go.Proofs.YtmbmmckagcdapaaGreatDoor
namespace Go.Proofs.YtmbmmckagcdapaaGreatDoor
open Go.RowKit
def PDC(P:Program)(f:FuncId)(xs:List V)(l0:List Ent)(v:Value)(l1:List Ent):Prop :=
 Ad P f=true∧ ∀(C:Cf) (vs:Array Value),C.st=ofl l0→Ok C→vs.size=xs.length→(∀i (h:i<xs.length),R C xs[i] (vs.getD i undef)) →
  Calls P f vs C.w fun e w'=>e= .panicked (chn v)∧Beh C (ofl l1) w'
theorem Dp{P:Program}{o:Oper}{ev:Operand→V}{c:Operand}{args:Array Operand}{tys:Array TypeId}{f:FuncId}{us vs xs:List V}{v:Value}{l0 l1:List Ent}(js:List Nat)(ho:o.op= .call {callee:= .value c,args:=args,argTypes:=tys})(hc:ev c= .fn (.func f) us vs)(h:PDC P f xs l0 v l1)
  (hw:WkL (us++args.toList.map ev++vs) (V.renL (gOf js) xs)) (hi:V.idsL (ltB js.length) xs=true) (hnd:js.Nodup) (h0:l0.length=js.length) (h1:l1.length=js.length) (he:l0.all (entOk (ltB js.length))=true) :
  PStep P o ev (fL js 0 l0) (fL js 0 l1) v:=by
 refine⟨(fun c hc=>by rw[ho]at hc;cases hc),?_⟩
 intro C ρ hC hR hfp
 have hF:Fits C js l0:=⟨hnd,h0,fun i hi=>by
  have:=hfp _ (Ed (js:=js) (l:=l0) (i:=0) (j:=i) (by omega))
  simpa using this⟩
 have hcr:=hR c (by simp[ho,Op.operands,Call.operands])
 rw[hc]at hcr
 generalize hu:ρ c=u at hcr
 cases hcr with
 | @fn _ _ _ us' vs' k1 k2 k3 k4 =>
  have hrun:(execOp ρ o).run P C.w= .ok (.enter f (us'++args.map ρ++vs')) C.w:=by
   simp only[execOp,ho,resolve,hu,Deferred.ofValue,invoke,Sem.run_bind,Sem.run_pure,Result.andThen_ok,nR h.1]
  rw[hrun];have hlen:=hw.length;rw[V.renL_length]at hlen
  have hsz:(us'++args.map ρ++vs').size=xs.length:=by
   rw[←hlen];simp[k1,k2]
  refine(h.2 (C.sub js l0) _ rfl (hC.sub hF he) hsz (fun i hi'=> ?_)).mono ?_
  ·have hi2:i<(us++args.toList.map ev++vs).length:=by omega
   have hi3:i<(V.renL (gOf js) xs).length:=by rw[V.renL_length];exact hi'
   have hwi:Wk (us++args.toList.map ev++vs)[i] (V.renL (gOf js) xs)[i]:=hw.get i hi2 hi3
   have hraw:R C (us++args.toList.map ev++vs)[i] ((us'++args.map ρ++vs').getD i undef):=by
    rw[Array.getD_eq_getD_getElem?,Array.getElem?_append,Array.getElem?_append];simp only[Array.size_append,Array.size_map,k1];simp only[List.getElem_append,List.length_append,List.length_map,Array.length_toList]
    by_cases q1:i<us.length
    ·have q0:i<us.length+args.size:=by omega
     have q2:i<us'.size:=by omega
     have:=k3 i q1;simpa[q1,q0,q2]using this
    ·by_cases q2:i<us.length+args.size
     ·have q3:i-us.length<args.size:=by omega
      have:=hR args[i-us.length] (by simp[ho,Op.operands,Call.operands])
      simpa[q1,q2,q3]using this
     ·have hi3:i<us.length+args.size+vs.length:=by simp at hi2;omega
      have q3:i-(us.length+args.size)<vs.length:=by omega
      have q4:i-(us.length+args.size)<vs'.size:=by omega
      have:=k4 _ q3;simpa[q1,q2,q4]using this
   exact(hwi C _ hraw).sub hF _ (V.renL_get _ hi' _) (V.idsL_get hi i hi')
  ·rintro e w' ⟨rfl,D,rfl,h2,h3,h4⟩
   refine⟨rfl,C.sup js D,rfl,?_,hC.sup hF h4 h3 h2 h1,Ev.sup hC hF h4⟩
   funext k
   rw[De (st:=C.st) (fun a b h6 h7=>fun e=>by have:=Kv hnd (by omega) (by omega) e;omega)]
   show(if k∈js then(D.st (js.idxOf k)).ren (gOf js)else C.st k)=_
   by_cases hk:k∈js
   ·rw[if_pos hk]
    have hx:=List.idxOf_lt_length_of_mem hk;cases hfind:(List.range l1.length).find? (fun j=>gOf js (0+j)==k)with
    | none =>
     rw[List.find?_eq_none]at hfind;have:=hfind (js.idxOf k) (by simp;omega)
     simp[iQ hk]at this
    | some j =>
     have hj:=List.find?_some hfind;have hjm:=List.mem_of_find?_eq_some hfind;simp only[Nat.zero_add,beq_iff_eq]at hj;have hjl:j<js.length:=by simp at hjm;omega
     have:js.idxOf k=j:=by rw[←hj];exact pG hnd hjl
     rw[this,h2]
   ·rw[if_neg hk]
    cases hfind:(List.range l1.length).find? (fun j=>gOf js (0+j)==k)with
    | none=>rfl
    | some j =>
     have hj:=List.find?_some hfind;have hjm:=List.mem_of_find?_eq_some hfind;simp only[Nat.zero_add,beq_iff_eq]at hj;exact absurd (hj▸lW (by simp at hjm;omega)) hk
theorem Nj{P:Program}{o:Oper}{ev:Operand→V}{x:Operand}{t:TypeId}{u:Value}(ho:o.op= .panic x)(hx:ev x= .im (.iface t u)):PStep P o ev [] [] (.iface t u):=by
 refine⟨(fun c hc=>by rw[ho]at hc;cases hc),?_⟩
 intro C ρ hC hR _
 have h1:=hR x (by simp[ho,Op.operands])
 rw[hx]at h1
 have e1:ρ x= .iface t u:=h1.im_eq
 have hrun:(execOp ρ o).run P C.w= .halt (.panic (.iface t u)) C.w:=by
  simp only[execOp,ho,e1,Instr.panic];rfl
 rw[hrun]
 exact⟨rfl,C,rfl,rfl,hC,Ev.refl C⟩
def PFin(n:Nat)(v:Value)(e:Exit)(A:St):Prop:=e= .panic (chn v)∧ ∃cs,A.st 0= .box cs∧cs.length=n
theorem PDC.enter{P:Program}{f:FuncId}{fn:Func}{c:Code}{xs:List V}{s:List (Nat×V)}{cs0:List V}{v:Value}{n:Nat}(N:Nat)(hf:P.funcs[f]? =some fn)(hb:fn.body=some c)(hn:fn.name≠ "runtime.NumGoroutine")(hN:fn.ntmps=N)(hx:Nat.ble xs.length N=true)(hs:enum 0 xs=s)
  (h:AWp P (ofl [.box cs0]) c (PFin n v) ⟨dn N s,ofl [.box cs0]⟩):PDC P f xs [.box cs0] v [.box (List.replicate n .dead)]:=by
 subst hs hN
 rw[←yK (by simpa using hx)]at h
 refine⟨by simp[Ad,hf,hb,hn],fun C vs hst hC hsz hR=> ?_⟩
 refine callsIn_wide.1 (callsIn_of_wp_marks (F:=Fence.wide) (n:=0) hf hb trivial (wpIn_mono (h C C {tmps:=vs++Array.replicate (fn.ntmps-vs.size) undef,defers:=[]} {r:=none} 0 rfl hst (Ev.refl C) ⟨hst,hC,.nil,by simp[hsz],fun t ht=> ?_⟩) ?_))
 ·by_cases h1:t<xs.length
  ·have h2:=hR t h1
   have h3:t<vs.size:=by omega
   simpa[List.getD,List.getElem?_append,h1,Array.getElem?_append,h3]using h2
  ·have:(xs++List.replicate (fn.ntmps-xs.length) V.dead).getD t .dead= .dead:=by
    simp only[List.getD,List.getElem?_append,if_neg h1,List.getElem?_replicate];split<;>rfl
   rw[this];exact .dead
 ·rintro e a' w' ⟨A',D,⟨rfl,cs,q1,q2⟩,hS,rfl,hE⟩
  have fin: ∀D':Cf,D'.st=A'.st→Ok D'→Ev C D'→Beh C (ofl [.box (List.replicate n .dead)]) D'.w:=by
   intro D' e1 hO hE';have hb0:D'.st 0= .box cs:=by rw[e1];exact q1
   have hk:Kin D'.st (upd D'.st 0 (.box (List.replicate n .dead))):=fun i=>by
    by_cases hi:i=0
    ·subst hi;exact .inr ⟨cs,List.replicate n .dead,hb0,by simp[upd]⟩
    ·exact .inl (by simp[upd,hi])
   have hO2:Ok (D'.wst (upd D'.st 0 (.box (List.replicate n .dead)))):=hO.wst hk fun i cs' hb=>by
    by_cases hi:i=0
    ·subst hi
     have hb:Ent.box (List.replicate n V.dead)= .box cs':=by simpa[upd]using hb
     cases hb
     obtain⟨g,bs,t,k1,k2,k3,k4,_⟩:=hO.box 0 cs hb0;refine⟨g,bs,t,k1,k2,by simpa[←q2]using k3,fun j hj=>k4 j (by simpa[q2]using hj),fun j hj=> ?_⟩
     rw[List.getElem_replicate];exact .dead
    ·have hb:D'.st i= .box cs':=by simpa[upd,hi]using hb
     obtain⟨g,bs,t,k1,k2,k3,k4,k5⟩:=hO.box i cs' hb;exact⟨g,bs,t,k1,k2,k3,k4,fun j hj=>(k5 j hj).wst hk⟩
   have hE2:Ev C (D'.wst (upd D'.st 0 (.box (List.replicate n .dead)))):=hE'.trans (Ev.wst hk);refine⟨(D'.wst (upd D'.st 0 (.box (List.replicate n .dead)))).only (fun i=>i==0),rfl,?_,hO2.only fun i cs' hb hi=> ?_,hE2.only fun i hi=> ?_⟩
   ·funext i
    show(if(i==0)=true then upd D'.st 0 (.box (List.replicate n .dead)) i else .free)=_
    cases i with
    | zero=>simp[upd,ofl]
    | succ i=>simp[ofl]
   ·obtain rfl:i=0:=by simpa using hi
    have hb:Ent.box (List.replicate n V.dead)= .box cs':=by simpa[Cf.wst,upd]using hb
    cases hb
    have: ∀m,V.idsL (fun i=>i==0) (List.replicate m V.dead)=true:=fun m=>by
     induction m with
     | zero=>rfl
     | succ m ih=>simpa[List.replicate_succ,V.idsL,V.ids]using ih
    exact this n
   ·have:=qG (by rw[←hst];exact hi)
    simp at this;simp[this]
  have lv: ∀(bs:List Nat) (D:Cf),D.st=A'.st→Ok D→Ev C D→bs.Nodup→(∀b∈bs,C.w.heap.size≤b∧D.w.heap[b]? =some (.deferred (some []))∧ ∀i,D.σ i=some b→D.st i= .free) →
    LeavesInM Fence.wide 0 P fn a'.tmps (fun e w'=>e= .panicked (chn v)∧Beh C (ofl [.box (List.replicate n .dead)]) w') (bs.map fun b=>{target:= .collected b,args:= #[]}) (.panicking (chn v)) D.w:=by
   intro bs
   induction bs with
   | nil=>intro D r1 r2 r4 _ _;exact⟨rfl,fin D r1 r2 r4⟩
   | cons b bs ih =>
    intro D r1 r2 r4 r5 r6;obtain⟨hlo,hbk,hs⟩:=r6 b (by simp)
    refine⟨by simp,.inl ⟨b,_,rfl,run_takeDeferred hbk,?_⟩⟩
    have hnc: ∀cs t fr,Obj.deferred (some [])≠ .cells cs t fr:=fun _ _ _ e=>by cases e
    obtain⟨s1,s2⟩:=r2.turned (o':= .deferred none) hbk hnc (fun _ _ e=>by cases e) hs
    have s3:=(r2.turn (o':= .deferred none) hbk hnc hs).2;refine ih (D.withW (D.w.putObj b (.deferred none))) r1 s1 (Jx r4 r2 hlo hbk hnc hs) (List.nodup_cons.1 r5).2 fun b' hb'=> ?_
    obtain⟨t1,t2,t3⟩:=r6 b' (by simp[hb'])
    exact⟨t1,(s3 b' (fun e=>(List.nodup_cons.1 r5).1 (e▸hb'))).trans t2,t3⟩
  obtain⟨bs,d1,d2,d3⟩:=hS.defers
  replace d1:=d1.trans (List.append_nil _)
  show LeavesInM Fence.wide 0 P fn a'.tmps _ a'.defers (.panicking (chn v)) D.w
  rw[d1];refine lv bs D hS.st hS.ok hE d2 fun b hb=> ?_
  obtain⟨⟨lo,e1,e2⟩,k2,k3⟩:=d3 b hb;cases e1
  exact⟨e2,k2,k3⟩
theorem Qt{P:Program}{N:Nat}{ops:Array Oper}{dr:Bool}{Q:Exit→St→Prop}{d:Option Tmp}{c:Operand}{args:Array Operand}{tys:Array TypeId}{ty:TypeId}{pos:String}{af:Array Edge}{g:Option (Nat×Bool)}{os:List Oper}{k:Nat}{s:List (Nat×V)}{l:List Ent}
  {acc:List (Nat×List Nat×List Nat)} {f:FuncId} {us vs xs xs':List V} {v:Value} {l0 l1 l':List Ent} {F E M:Prop} (js:List Nat) (hd:dr=true→ ∃L F,Run P ops ⟨dn N s,ofl l⟩ L F∧MR ops k (acc.reverse++L.map Itm.key)=true) (h:PDC P f xs l0 v l1) (fa:F) (fi:E) (fr:M)
  (n: ∀s',Q (.panic (chn v)) ⟨s',ofl l'⟩) (hg:gd ops ⟨d,.call {callee:= .value c,args:=args,argTypes:=tys},ty,pos,af,g⟩ ⟨dn N s,ofl l⟩=some true:=by rfl) (hc:St.ev ⟨dn N s,ofl l⟩ c= .fn (.func f) us vs:=by rfl)
  (hx:M→V.renL (gOf js) xs=xs':=by intro f;first|(simp only[SR,f];done)|(simp only[SR,f];with_reducible exact rfl))
  (hw:F→WkL (us++args.toList.map (St.ev ⟨dn N s,ofl l⟩)++vs) xs':=by intro f;exact iC (by simp only[St.ev,V.ofVal,V.ofCell,V.size_im,fO,dD,iE,Nat.reduceLT,Nat.reduceEqDiff,reduceIte,if_true,if_false,List.map_cons,List.map_nil,List.nil_append,List.cons_append,List.append_nil,f])) (hi:E→V.idsL (ltB js.length) xs=true:=by intro f;first|rfl|simp only[List.length_cons,List.length_nil,Nat.reduceAdd,V.ids,V.idsL,idsA,entOk,List.all_cons,List.all_nil,Bool.and_self,Bool.and_true,Bool.true_and,ltB,noId,Nat.reduceLT,decide_true,Bool.true_eq_false,bS,bU,bT,bV,f])
  (hnd:decide js.Nodup=true:=by rfl) (h0:l0.length=js.length:=by rfl) (h1:l1.length=js.length:=by rfl) (he:E→l0.all (entOk (ltB js.length))=true:=by intro f;first|rfl|simp only[List.length_cons,List.length_nil,Nat.reduceAdd,V.ids,V.idsL,idsA,entOk,List.all_cons,List.all_nil,Bool.and_self,Bool.and_true,Bool.true_and,ltB,noId,Nat.reduceLT,decide_true,Bool.true_eq_false,bS,bU,bT,bV,f])
  (hl:M→ ∀p∈fL js 0 l0,ofl l p.1=p.2:=by intro f p hp;simp only[fL,SR,Ent.ren,List.mem_cons,List.not_mem_nil,or_false,f]at hp;first|(rcases hp with rfl<;>rfl)|(rcases hp with rfl|rfl<;>rfl)|(rcases hp with rfl|rfl|rfl<;>rfl))
  (hl':M→wrl l (fL js 0 l1)=l':=by intro f;first|rfl|(simp only[fL,Ent.ren,SR,f,wrl,putE,SC,SD,Nat.reduceBEq,Nat.reduceLT,Nat.reduceSub,Nat.reduceAdd,Nat.reduceMul,Nat.reduceLeDiff,Nat.reduceEqDiff,reduceCtorEq];with_reducible exact rfl)) :
  AR P ops dr Q (⟨d,.call {callee:= .value c,args:=args,argTypes:=tys},ty,pos,af,g⟩::os) k ⟨dn N s,ofl l⟩ acc:=by
 have e1:=hx fr
 have e2:=hl' fr
 subst e1 e2
 refine .inr (.inr (.inr ⟨hg,_,_,v,Dp js rfl hc h (hw fa) (hi fi) (of_decide_eq_true hnd) h0 h1 (he fi),hl fr,fun s' _=> ?_,hd⟩))
 show Q _ ⟨s',wrs (ofl l) (fL js 0 l1)⟩
 rw[←rU]
 exact n s'
theorem PA.callS{P:Program}{N:Nat}{ops:Array Oper}{Q:Exit→St→Prop}{d:Option Tmp}{c:Operand}{args:Array Operand}{tys:Array TypeId}{ty:TypeId}{pos:String}{af:Array Edge}{g:Option (Nat×Bool)}{os:List Oper}{k:Nat}{s:List (Nat×V)}{l:List Ent}
  {acc:List (Nat×List Nat×List Nat)} {f:FuncId} {us vs xs xs':List V} {v:Value} {l0 l1 l':List Ent} {F E M:Prop} (js:List Nat) (h:PDC P f xs l0 v l1) (fa:F) (fi:E) (fr:M)
  (n:Q (.panic (chn v)) ⟨dn N s,ofl l'⟩) (hg:gd ops ⟨d,.call {callee:= .value c,args:=args,argTypes:=tys},ty,pos,af,g⟩ ⟨dn N s,ofl l⟩=some true:=by rfl) (hc:St.ev ⟨dn N s,ofl l⟩ c= .fn (.func f) us vs:=by rfl)
  (hx:M→V.renL (gOf js) xs=xs':=by intro f;first|(simp only[SR,f];done)|(simp only[SR,f];with_reducible exact rfl))
  (hw:F→WkL (us++args.toList.map (St.ev ⟨dn N s,ofl l⟩)++vs) xs':=by intro f;exact iC (by simp only[St.ev,V.ofVal,V.ofCell,V.size_im,fO,dD,iE,Nat.reduceLT,Nat.reduceEqDiff,reduceIte,if_true,if_false,List.map_cons,List.map_nil,List.nil_append,List.cons_append,List.append_nil,f])) (hi:E→V.idsL (ltB js.length) xs=true:=by intro f;first|rfl|simp only[List.length_cons,List.length_nil,Nat.reduceAdd,V.ids,V.idsL,idsA,entOk,List.all_cons,List.all_nil,Bool.and_self,Bool.and_true,Bool.true_and,ltB,noId,Nat.reduceLT,decide_true,Bool.true_eq_false,bS,bU,bT,bV,f])
  (hnd:decide js.Nodup=true:=by rfl) (h0:l0.length=js.length:=by rfl) (h1:l1.length=js.length:=by rfl) (he:E→l0.all (entOk (ltB js.length))=true:=by intro f;first|rfl|simp only[List.length_cons,List.length_nil,Nat.reduceAdd,V.ids,V.idsL,idsA,entOk,List.all_cons,List.all_nil,Bool.and_self,Bool.and_true,Bool.true_and,ltB,noId,Nat.reduceLT,decide_true,Bool.true_eq_false,bS,bU,bT,bV,f])
  (hl:M→ ∀p∈fL js 0 l0,ofl l p.1=p.2:=by intro f p hp;simp only[fL,SR,Ent.ren,List.mem_cons,List.not_mem_nil,or_false,f]at hp;first|(rcases hp with rfl<;>rfl)|(rcases hp with rfl|rfl<;>rfl)|(rcases hp with rfl|rfl|rfl<;>rfl))
  (hl':M→wrl l (fL js 0 l1)=l':=by intro f;first|rfl|(simp only[fL,Ent.ren,SR,f,wrl,putE,SC,SD,Nat.reduceBEq,Nat.reduceLT,Nat.reduceSub,Nat.reduceAdd,Nat.reduceMul,Nat.reduceLeDiff,Nat.reduceEqDiff,reduceCtorEq];with_reducible exact rfl)) :
  AR P ops false Q (⟨d,.call {callee:= .value c,args:=args,argTypes:=tys},ty,pos,af,g⟩::os) k ⟨dn N s,ofl l⟩ acc:=by
 have e1:=hx fr
 have e2:=hl' fr
 subst e1 e2
 refine .inr (.inr (.inr ⟨hg,_,_,v,Dp js rfl hc h (hw fa) (hi fi) (of_decide_eq_true hnd) h0 h1 (he fi),hl fr,fun s' hs'=> ?_,fun e=>by cases e⟩))
 obtain rfl:=hs' rfl
 show Q _ ⟨dn N s,wrs (ofl l) (fL js 0 l1)⟩
 rw[←rU]
 exact n
theorem PA.callP{P:Program}{N:Nat}{ops:Array Oper}{Q:Exit→St→Prop}{d:Option Tmp}{c:Operand}{args:Array Operand}{tys:Array TypeId}{ty:TypeId}{pos:String}{af:Array Edge}{g:Option (Nat×Bool)}{os:List Oper}{k:Nat}{s:List (Nat×V)}{l:List Ent}
  {acc:List (Nat×List Nat×List Nat)} {f:FuncId} {us vs xs xs':List V} {v:Value} {l0 l1 l':List Ent} {F E M:Prop} (js:List Nat) (h:PDC P f xs l0 v l1) (fa:F) (fi:E) (fr:M)
  (n: ∀s',Q (.panic (chn v)) ⟨s',ofl l'⟩) (hg:gd ops ⟨d,.call {callee:= .value c,args:=args,argTypes:=tys},ty,pos,af,g⟩ ⟨dn N s,ofl l⟩=some true:=by rfl) (hc:St.ev ⟨dn N s,ofl l⟩ c= .fn (.func f) us vs:=by rfl)
  (hx:M→V.renL (gOf js) xs=xs':=by intro f;first|(simp only[SR,f];done)|(simp only[SR,f];with_reducible exact rfl))
  (hw:F→WkL (us++args.toList.map (St.ev ⟨dn N s,ofl l⟩)++vs) xs':=by intro f;exact iC (by simp only[St.ev,V.ofVal,V.ofCell,V.size_im,fO,dD,iE,Nat.reduceLT,Nat.reduceEqDiff,reduceIte,if_true,if_false,List.map_cons,List.map_nil,List.nil_append,List.cons_append,List.append_nil,f])) (hi:E→V.idsL (ltB js.length) xs=true:=by intro f;first|rfl|simp only[List.length_cons,List.length_nil,Nat.reduceAdd,V.ids,V.idsL,idsA,entOk,List.all_cons,List.all_nil,Bool.and_self,Bool.and_true,Bool.true_and,ltB,noId,Nat.reduceLT,decide_true,Bool.true_eq_false,bS,bU,bT,bV,f])
  (hnd:decide js.Nodup=true:=by rfl) (h0:l0.length=js.length:=by rfl) (h1:l1.length=js.length:=by rfl) (he:E→l0.all (entOk (ltB js.length))=true:=by intro f;first|rfl|simp only[List.length_cons,List.length_nil,Nat.reduceAdd,V.ids,V.idsL,idsA,entOk,List.all_cons,List.all_nil,Bool.and_self,Bool.and_true,Bool.true_and,ltB,noId,Nat.reduceLT,decide_true,Bool.true_eq_false,bS,bU,bT,bV,f])
  (hl:M→ ∀p∈fL js 0 l0,ofl l p.1=p.2:=by intro f p hp;simp only[fL,SR,Ent.ren,List.mem_cons,List.not_mem_nil,or_false,f]at hp;first|(rcases hp with rfl<;>rfl)|(rcases hp with rfl|rfl<;>rfl)|(rcases hp with rfl|rfl|rfl<;>rfl))
  (hl':M→wrl l (fL js 0 l1)=l':=by intro f;first|rfl|(simp only[fL,Ent.ren,SR,f,wrl,putE,SC,SD,Nat.reduceBEq,Nat.reduceLT,Nat.reduceSub,Nat.reduceAdd,Nat.reduceMul,Nat.reduceLeDiff,Nat.reduceEqDiff,reduceCtorEq];with_reducible exact rfl)) :
  AR P ops false Q (⟨d,.call {callee:= .value c,args:=args,argTypes:=tys},ty,pos,af,g⟩::os) k ⟨dn N s,ofl l⟩ acc :=
 Qt js (fun e=>by cases e) h fa fi fr n hg hc hx hw hi hnd h0 h1 he hl hl'
theorem oY{P:Program}{N:Nat}{ops:Array Oper}{Q:Exit→St→Prop}{d:Option Tmp}{c:Operand}{args:Array Operand}{tys:Array TypeId}{ty:TypeId}{pos:String}{af:Array Edge}{g:Option (Nat×Bool)}{os:List Oper}{k:Nat}{s:List (Nat×V)}{l:List Ent}
  {acc:List (Nat×List Nat×List Nat)} {f:FuncId} {us vs xs xs':List V} {v:Value} {l0 l1 l':List Ent} {F E M:Prop} (js:List Nat) (h:PDC P f xs l0 v l1) (fa:F) (fi:E) (fr:M)
  (n: ∀s',Q (.panic (chn v)) ⟨s',ofl l'⟩) (hd: ∃L F,Run P ops ⟨dn N s,ofl l⟩ L F∧MR ops k (acc.reverse++L.map Itm.key)=true) (hg:gd ops ⟨d,.call {callee:= .value c,args:=args,argTypes:=tys},ty,pos,af,g⟩ ⟨dn N s,ofl l⟩=some true:=by rfl) (hc:St.ev ⟨dn N s,ofl l⟩ c= .fn (.func f) us vs:=by rfl)
  (hx:M→V.renL (gOf js) xs=xs':=by intro f;first|(simp only[SR,f];done)|(simp only[SR,f];with_reducible exact rfl))
  (hw:F→WkL (us++args.toList.map (St.ev ⟨dn N s,ofl l⟩)++vs) xs':=by intro f;exact iC (by simp only[St.ev,V.ofVal,V.ofCell,V.size_im,fO,dD,iE,Nat.reduceLT,Nat.reduceEqDiff,reduceIte,if_true,if_false,List.map_cons,List.map_nil,List.nil_append,List.cons_append,List.append_nil,f])) (hi:E→V.idsL (ltB js.length) xs=true:=by intro f;first|rfl|simp only[List.length_cons,List.length_nil,Nat.reduceAdd,V.ids,V.idsL,idsA,entOk,List.all_cons,List.all_nil,Bool.and_self,Bool.and_true,Bool.true_and,ltB,noId,Nat.reduceLT,decide_true,Bool.true_eq_false,bS,bU,bT,bV,f])
  (hnd:decide js.Nodup=true:=by rfl) (h0:l0.length=js.length:=by rfl) (h1:l1.length=js.length:=by rfl) (he:E→l0.all (entOk (ltB js.length))=true:=by intro f;first|rfl|simp only[List.length_cons,List.length_nil,Nat.reduceAdd,V.ids,V.idsL,idsA,entOk,List.all_cons,List.all_nil,Bool.and_self,Bool.and_true,Bool.true_and,ltB,noId,Nat.reduceLT,decide_true,Bool.true_eq_false,bS,bU,bT,bV,f])
  (hl:M→ ∀p∈fL js 0 l0,ofl l p.1=p.2:=by intro f p hp;simp only[fL,SR,Ent.ren,List.mem_cons,List.not_mem_nil,or_false,f]at hp;first|(rcases hp with rfl<;>rfl)|(rcases hp with rfl|rfl<;>rfl)|(rcases hp with rfl|rfl|rfl<;>rfl))
  (hl':M→wrl l (fL js 0 l1)=l':=by intro f;first|rfl|(simp only[fL,Ent.ren,SR,f,wrl,putE,SC,SD,Nat.reduceBEq,Nat.reduceLT,Nat.reduceSub,Nat.reduceAdd,Nat.reduceMul,Nat.reduceLeDiff,Nat.reduceEqDiff,reduceCtorEq];with_reducible exact rfl)) :
  AR P ops true Q (⟨d,.call {callee:= .value c,args:=args,argTypes:=tys},ty,pos,af,g⟩::os) k ⟨dn N s,ofl l⟩ acc :=
 Qt js (fun _=>hd) h fa fi fr n hg hc hx hw hi hnd h0 h1 he hl hl'
theorem vF{P:Program}{ops:Array Oper}{A:St}{i:Nat}{d:Option Tmp}{t ft ty:TypeId}{f off z id k:Nat}{x:Operand}{pos:String}{af:Array Edge}(ho:ops[i]? =some ⟨d,.fieldAddr t x f,ty,pos,af,none⟩)(hx:A.ev x= .pt id k)(h:dW P t f=some (off,ft))(hz:szOf P ft=some z)(hz0:z≠0):Valid P ops A ⟨i,[],⟨.pt id (k+off),[]⟩⟩ :=
 ⟨_,ho,.inl ⟨rfl,tS rfl hx h hz hz0,fun p hp=>by cases hp⟩⟩
theorem PA.panic{P:Program}{N:Nat}{ops:Array Oper}{Q:Exit→St→Prop}{d:Option Tmp}{x:Operand}{ty t:TypeId}{pos:String}{af:Array Edge}{g:Option (Nat×Bool)}{os:List Oper}{k:Nat}{s:List (Nat×V)}{l:List Ent}{acc:List (Nat×List Nat×List Nat)}{u:Value}
  (n: ∀s',Q (.panic (chn (.iface t u))) ⟨s',ofl l⟩) (hg:gd ops ⟨d,.panic x,ty,pos,af,g⟩ ⟨dn N s,ofl l⟩=some true:=by rfl) (hx:St.ev ⟨dn N s,ofl l⟩ x= .im (.iface t u):=by rfl) :
  AR P ops false Q (⟨d,.panic x,ty,pos,af,g⟩::os) k ⟨dn N s,ofl l⟩ acc :=
 .inr (.inr (.inr ⟨hg,[],[],_,Nj rfl hx,(fun p hp=>by cases hp),fun s' _=>n s',fun e=>by cases e⟩))
theorem Yr{P:Program}{o:Oper}{ev:Operand→V}{t:TypeId}{x:Operand}{a b:Value}(ho:o.op= .makeInterface t x)(ht:ifT P t=some false)(hx:ev x= .ag [.im a,.im b]):Step P o ev [] ⟨.im (.iface t (.agg #[a,b])),[]⟩ :=
 Step.look fun C ρ _ hR _=>by
  have h1:=hR x (by simp[ho,Op.operands])
  rw[hx]at h1
  have e1:ρ x= .agg #[a,b]:=by
   generalize ρ x=v at h1;cases h1 with
   | @ag _ us hn h0 h =>
    have ha:R C (.im a) (us.getD 0 undef):=h 0 (by simp)
    have hb:R C (.im b) (us.getD 1 undef):=h 1 (by simp)
    have ea:=ha.im_eq;have eb:=hb.im_eq;have hn:us.size=2:=hn
    congr 1
    apply Array.ext
    ·simpa using hn
    ·intro i h1 h2
     match i,h1 with
     | 0,h1=>simpa[Array.getD_eq_getD_getElem?,h1]using ea
     | 1,h1=>simpa[Array.getD_eq_getD_getElem?,h1]using eb
     | i+2,h1=>omega
  refine⟨.iface t (.agg #[a,b]),?_,.im rfl⟩;unfold ifT at ht;cases hu:P.underlying t with
  | none=>rw[hu]at ht;cases ht
  | some d =>
   rw[hu]at ht;simp only[execOp,ho,e1,Instr.makeInterface,run_underlying hu,Sem.run_bind,Result.andThen_ok];cases d<;>first|rfl|(simp at ht)
theorem PZ{P:Program}{N:Nat}{ops:Array Oper}{dr:Bool}{Q:Exit→St→Prop}{d:Option Tmp}{t:TypeId}{x:Operand}{ty:TypeId}{pos:String}{af:Array Edge}{g:Option (Nat×Bool)}{os:List Oper}{k:Nat}{s:List (Nat×V)}{l:List Ent}{acc:List (Nat×List Nat×List Nat)}{a b:Value}
  (hn:AR P ops dr Q os (k+1) ⟨dn N (eZ s d (.im (.iface t (.agg #[a,b])))),ofl l⟩ ((k,[],[])::acc)) (ht:ifT P t=some false:=by kernel_rfl) (hx:St.ev ⟨dn N s,ofl l⟩ x= .ag [.im a,.im b]:=by rfl) (hg:gd ops ⟨d,.makeInterface t x,ty,pos,af,g⟩ ⟨dn N s,ofl l⟩=some true:=by rfl) :
  AR P ops dr Q (⟨d,.makeInterface t x,ty,pos,af,g⟩::os) k ⟨dn N s,ofl l⟩ acc:=by
 refine .inr (.inl ⟨hg,[],⟨_,[]⟩,Yr rfl ht hx,(fun p hp=>by cases hp),?_⟩)
 rw[←kK N s (ofl l)]at hn
 exact hn
theorem PH{α β:Type}{p:α→β→Bool}{l:List α}{m:List β}(h:l.length≠m.length):all2 p l m=false:=by
 rw[←Bool.not_eq_true,uJ]
 exact fun k=>h k.1
theorem PI{α β:Type}{p:α→β→Bool}{l:List α}{m:List β}{i:Nat}(h1:i<l.length)(h2:i<m.length)(h:p l[i] m[i]=false):all2 p l m=false:=by
 rw[←Bool.not_eq_true,uJ]
 exact fun k=>by rw[k.2 i h1 h2]at h;cases h
def to2{α β:Type}(p:α→β→Bool)(l:List α)(k:List β)(m:Nat):Prop:= ∀j (h1:j<l.length) (h2:j<k.length),j<m→p l[j] k[j]=true
theorem to2.zero{α β:Type}(p:α→β→Bool)(l:List α)(k:List β):to2 p l k 0:=fun j _ _ h=>absurd h (Nat.not_lt_zero j)
theorem to2.succ{α β:Type}{p:α→β→Bool}{l:List α}{k:List β}{m:Nat}(h:to2 p l k m)(h1:m<l.length)(h2:m<k.length)(hp:p l[m] k[m]=true):to2 p l k (m+1):=fun j j1 j2 hj=>by
 rcases Nat.lt_succ_iff_lt_or_eq.1 hj with hj|rfl
 ·exact h j j1 j2 hj
 ·exact hp
theorem to2.all{α β:Type}{p:α→β→Bool}{l:List α}{k:List β}(h:to2 p l k l.length)(he:l.length=k.length):all2 p l k=true:=uJ.2 ⟨he,fun j j1 j2=>h j j1 j2 j1⟩
end Go.Proofs.YtmbmmckagcdapaaGreatDoor
