import Derived.Test.YtmbmmckagcdapaaGreatDoorQ13
import Derived.Lib.AppendZeros
import Derived.Lib.SliceRun
import Derived.Lib.Walk
import Derived.Shelf.RegionOpenPlain
import Derived.Lib.SmallJoins
import Derived.Scope
set_option maxHeartbeats 400000
set_option linter.all false
namespace Go.Proofs.YtmbmmckagcdapaaGreatDoor
open Go.RowKit
theorem Kin.not_box{st st':Nat→Ent}(h:Kin st st'){i:Nat}(hn: ∀cs,st i≠ .box cs):st' i=st i:=by
 rcases h i with h1|⟨cs,_,h1,_⟩
 ·exact h1
 ·exact absurd h1 (hn cs)
theorem Kin.free{st st':Nat→Ent}(h:Kin st st'){i:Nat}(hi:st' i≠ .free):st i≠ .free:=by
 rcases h i with h1|⟨cs,_,h1,_⟩
 ·rwa [←h1]
 ·rw[h1];simp
theorem Ev.wst{C:Cf}{st:Nat→Ent}(h:Kin C.st st):Ev C (C.wst st)where
 os:=rfl
 tape:=rfl
 output:=rfl
 size:=Nat.le_refl _
 av:=rfl
 rd:=fun a v hr=>⟨hr.1,Cf.wst_fix h hr.2⟩
 box:=fun i cs hb=>⟨rfl,by
  rcases h i with h1|⟨_,cs',_,h1⟩
  ·exact⟨cs,h1.trans hb⟩
  ·exact⟨cs',h1⟩⟩
 tip:=fun i e z n ht=>⟨n,(h.not_box fun cs hc=>by rw[ht]at hc;cases hc).trans ht,Nat.le_refl _,fun _=>⟨rfl,fun _ cur _ hc=>⟨cur,hc,rfl⟩⟩⟩
 itr:=fun i s p hb=>⟨rfl,s,p,(h.not_box fun cs hc=>by rw[hb]at hc;cases hc).trans hb⟩
 keep:=fun _ _ _=>rfl
 fresh:=fun i b hi hs=> .inl ⟨h.free hi,hs⟩
 shp:=fun _ _ _ bs _ _ _ k=>⟨bs,k,rfl⟩
theorem Ok.wst{C:Cf}{st:Nat→Ent}(hC:Ok C)(h:Kin C.st st)(hb: ∀i cs,st i= .box cs→ ∃g bs t,C.σ i=some g∧C.w.heap[g]? =some (.cells bs t (0,0))∧cs.length≤bs.size ∧
  (∀j,j<cs.length→(bs.getD j undef).oneCell'=true)∧ ∀j (hj:j<cs.length),R (C.wst st) cs[j] (bs.getD j undef)):Ok (C.wst st)where
 box:=hb
 tip:=fun i e z n g ht hs=>hC.tip i e z n g (by
  rcases h i with h1|⟨_,cs',_,h1⟩
  ·exact h1.symm.trans ht
  ·have ht:st i=_:=ht
   rw[h1]at ht;cases ht) hs
 iter:=fun i s p ht=>hC.iter i s p (by
  rcases h i with h1|⟨_,cs',_,h1⟩
  ·exact h1.symm.trans ht
  ·have ht:st i=_:=ht
   rw[h1]at ht;cases ht)
 inj:=fun i j g hi hj=>hC.inj i j g (h.free hi) (h.free hj)
 avl:=hC.avl
 bav:=fun i cs g o hc hs=>by
  rcases h i with h1|⟨cs0,_,h0,_⟩
  ·exact hC.bav i cs g o (h1.symm.trans hc) hs
  ·exact hC.bav i cs0 g o h0 hs
 gl:=hC.gl.mono (Ev.wst h)
theorem Sim.ghostB{B:Bd}{C:Cf}{a:Act}{N:Nat}{s:List (Nat×V)}{l:List Ent}{id j:Nat}{cs:List V}{e:TypeId}{z:Nat}(hS:Sim B C ⟨dn N s,ofl l⟩ a)
  (hi:l[id]? =some (.box cs)) (hj:cs[j]? =some (.sl [] .nl)): ∃D,Sim B D ⟨dn N s,ofl (l.set id (.box (cs.set j (.sl [] (.mine l.length))))++[.tip e z 0])⟩ a∧D.w=C.w∧Ev C D:=by
 obtain⟨hil,hi'⟩:=List.getElem?_eq_some_iff.1 hi
 obtain⟨hjl,hj'⟩:=List.getElem?_eq_some_iff.1 hj
 have hf:C.st l.length= .free:=by rw[hS.st];exact vY l
 have hE1:Ev C (C.ghost l.length e z 0):=Ev.ghost hf
 have hO1:Ok (C.ghost l.length e z 0):=hS.ok.ghost hf
 have hst1:(C.ghost l.length e z 0).st=ofl (l++[.tip e z 0]):=by
  show upd C.st l.length (.tip e z 0)=_
  rw[hS.st];exact uT l _
 have hbox:C.st id= .box cs:=by rw[hS.st];simp[ofl,List.getD,hi]
 have hset: ∀i,ofl (l.set id (.box (cs.set j (.sl [] (.mine l.length))))++[.tip e z 0]) i=if i=id then .box (cs.set j (.sl [] (.mine l.length)))else ofl (l++[.tip e z 0]) i:=fun i=>by
  unfold ofl
  by_cases h:i=id
  ·subst h;simp[List.getD,List.getElem?_append,hil]
  ·have h':id≠i:=fun q=>h q.symm
   simp[List.getD,List.getElem?_append,List.getElem?_set,h,h']
 have hk:Kin (C.ghost l.length e z 0).st (ofl (l.set id (.box (cs.set j (.sl [] (.mine l.length))))++[.tip e z 0])):=fun i=>by
  rw[hset,hst1]
  by_cases h:i=id
  ·subst h
   exact .inr ⟨cs,_,by simp[ofl,List.getD,List.getElem?_append,hil,hi'],if_pos rfl⟩
  ·exact .inl (if_neg h)
 refine⟨(C.ghost l.length e z 0).wst _,⟨rfl,hO1.wst hk fun i ds hd=> ?_,(hS.defers.mono hE1).mono (Ev.wst hk),hS.size,fun t ht=>((hS.slot t ht).mono hE1).wst hk⟩,rfl,hE1.trans (Ev.wst hk)⟩
 rw[hset]at hd
 by_cases h:i=id
 ·subst h
  rw[if_pos rfl]at hd;cases hd
  obtain⟨g,bs,t,h1,h2,h3,h4,h5⟩:=hS.ok.box i cs hbox;have hne:i≠l.length:=by omega
  refine⟨g,bs,t,?_,h2,by simpa using h3,fun q hq=>h4 q (by simpa using hq),fun q hq=> ?_⟩
  ·show(if i=l.length then none else C.σ i)=some g
   rw[if_neg hne];exact h1
  ·have hq':q<cs.length:=by simpa using hq
   rw[List.getElem_set];have h6:=h5 q hq'
   by_cases hjq:j=q
   ·subst hjq
    rw[if_pos rfl];rw[hj']at h6;exact(R.toMine (id:=l.length) (e:=e) (z:=z) h6 hf).wst hk
   ·rw[if_neg hjq]
    exact(h6.mono hE1).wst hk
 ·rw[if_neg h,←hst1]at hd
  obtain⟨g,bs,t,h1,h2,h3,h4,h5⟩:=hO1.box i ds hd;exact⟨g,bs,t,h1,h2,h3,h4,fun q hq=>(h5 q hq).wst hk⟩
theorem AWp.ghostB{K:Ro→Prop}{P:Program}{st0:Nat→Ent}{Q:Exit→St→Prop}{c:Code}{N:Nat}{s:List (Nat×V)}{l:List Ent}(id j:Nat)(cs:List V)(e:TypeId)(z:Nat)
  (h:AWpK K P st0 c Q ⟨dn N s,ofl (l.set id (.box (cs.set j (.sl [] (.mine l.length))))++[.tip e z 0])⟩) (hi:l[id]? =some (.box cs):=by rfl) (hj:cs[j]? =some (.sl [] .nl):=by rfl):AWpK K P st0 c Q ⟨dn N s,ofl l⟩:=by
 intro C0 C a ro n hK h0 hE hS
 obtain⟨D,h1,h2,h3⟩:=hS.ghostB (e:=e) (z:=z) hi hj
 have:=h C0 D a ro n hK h0 (hE.trans h3) h1
 rw[h2]at this
 exact this
mutual
def ndV:Nd→V
 | .mk k w n e l el cs=> .ag [.im (.int .i64 k),.im (.int .i64 w),.im (.string n),.sl (exL e) .ro,.sl (ndL l) .ro,.sl (ndL el) .ro,.sl (ndC cs) .ro]
def ndL:List Nd→List V
 | []=>[]
 | t::r=>ndV t::ndL r
def ndC:List (List Nd)→List V
 | []=>[]
 | c::r=> .sl (ndL c) .ro::ndC r
end
def nlV(c:List Nd):V:= .sl (c.map ndV) .ro
theorem Uj: ∀l,ndL l=l.map ndV
 | []=>by simp[ndL]
 | t::r=>by simp[ndL,Uj r]
theorem HU: ∀l,ndC l=l.map nlV
 | []=>by simp[ndC]
 | t::r=>by simp[ndC,HU r,Uj,nlV]
theorem eF(t:Nd):ndV t= .ag [.im (.int .i64 t.kind),.im (.int .i64 t.width),.im (.string t.name),.sl (t.e.map exV) .ro,.sl (t.l.map ndV) .ro,.sl (t.el.map ndV) .ro,.sl (t.cs.map nlV) .ro]:=by
 cases t;simp[ndV,Uj,HU,Uy,Nd.kind,Nd.width,Nd.name,Nd.e,Nd.l,Nd.el,Nd.cs]
theorem eW(k w:Int)(n:ByteArray)(e:List Ex)(l el:List Nd)(cs:List (List Nd)):ndV (.mk k w n e l el cs)= .ag [.im (.int .i64 k),.im (.int .i64 w),.im (.string n),.sl (e.map exV) .ro,.sl (l.map ndV) .ro,.sl (el.map ndV) .ro,.sl (cs.map nlV) .ro]:=eF _
theorem zA(t:Nd):(ndV t).isAg=true:=by rw[eF];rfl
theorem uW(t:Nd):(ndV t).live=true:=by rw[eF];rfl
theorem Gc(t:Nd):(ndV t).firm=true:=by rw[eF];rfl
theorem Bb(g:Bool)(t:Nd):strip g (ndV t)=ndV t:=by rw[eF];rfl
theorem uV(t:Nd):(ndV t).size=7:=by rw[eF];rfl
theorem wA(t:Nd):(ndV t).cells=[.im (.int .i64 t.kind),.im (.int .i64 t.width),.im (.string t.name),.sl (t.e.map exV) .ro,.sl (t.l.map ndV) .ro,.sl (t.el.map ndV) .ro,.sl (t.cs.map nlV) .ro]:=by rw[eF];rfl
theorem aS(p:Nat→Bool): ∀t:Nd,(ndV t).ids p=true:=by
 refine Nd.induct fun k w n e l el cs h1 h2 h3=> ?_
 rw[eW]
 have hc:V.idsL p (cs.map nlV)=true:=jS cs fun c hc=>by
  simp only[nlV,V.ids,Bool.and_true];exact jS c (h3 c hc)
 simp[V.ids,V.idsL,jS l h1,jS el h2,aD,hc]
theorem aG(p:Nat→Bool)(l:List Nd):V.idsL p (l.map ndV)=true:=gH (aS p) l
theorem aV(p:Nat→Bool)(c:List Nd):(nlV c).ids p=true:=by simp only[nlV,V.ids,Bool.and_true];exact aG p c
theorem aH(p:Nat→Bool)(l:List (List Nd)):V.idsL p (l.map nlV)=true:=gH (aV p) l
theorem cC(g:Nat→Nat)(t:Nd):V.ren g (ndV t)=ndV t:=V.ren_id g _ (aS _ t)
theorem bI(g:Nat→Nat)(l:List Nd):V.renL g (l.map ndV)=l.map ndV:=V.renL_id g _ (aG _ l)
theorem bK(g:Nat→Nat)(l:List (List Nd)):V.renL g (l.map nlV)=l.map nlV:=V.renL_id g _ (aH _ l)
theorem Fy(c:List Nd):(nlV c).live=true:=rfl
theorem Fx(c:List Nd):(nlV c).size=1:=rfl
theorem Fz(c:List Nd):(nlV c).isAg=false:=rfl
theorem Az(c:List Nd):(nlV c).cells=[nlV c]:=rfl
theorem Ga(c:List Nd):(nlV c).firm=true:=rfl
theorem Ay(g:Bool)(c:List Nd):strip g (nlV c)=nlV c:=rfl
theorem ND:type_of%(A14 @Gc @Bb @uW @uV @zA @wA @Ga @Ay @Fy @Fx @Fz @Az @List.getElem?_map.{0,0} @Int.natCast_nonneg) :=
 A14 @Gc @Bb @uW @uV @zA @wA @Ga @Ay @Fy @Fx @Fz @Az @List.getElem?_map.{0,0} @Int.natCast_nonneg
def scV(s:Sec):V:= .ag [.im (.string s.name),.im (.int .u32 s.addr),.sl (s.data.map fun b=> .im (.int .u8 b.toNat)) .ro,.im (.bool s.wr),.im (.bool s.exe)]
def fnV(f:Fun):V:= .ag [.im (.string f.name),.sl (f.vars.map vaV) .ro,.sl (f.body.map ndV) .ro]
def unV(u:Un):V:= .ag [.sl (u.globals.map vaV) .ro,.sl (u.data.map scV) .ro,.sl (u.funcs.map fnV) .ro]
def Qv:Nd→Bool:=Nd.para fun t r1 r2 r3=>decide (I64 t.kind∧I64 t.width)&&decide (t.name.size≤9223372036854775807)&&decide (t.e.length≤4194304∧t.l.length≤4194304∧t.el.length≤4194304∧t.cs.length≤4194304)&&t.e.all fitEB&&t.cs.all (fun c=>decide (c.length≤4194304))&&r1.all id&&r2.all id&&r3.all (·.all id)
def fitN(t:Nd):Prop:=Qv t=true
def lT(l:List Nd):Prop:=l.length≤4194304∧ ∀t∈l,fitN t
theorem dU{t:Nd}(h:fitN t):(I64 t.kind∧I64 t.width)∧t.name.size≤9223372036854775807∧(t.e.length≤4194304∧ ∀x∈t.e,fitE x)∧lT t.l∧lT t.el∧t.cs.length≤4194304∧ ∀c∈t.cs,lT c:=by
 obtain⟨k,w,n,e,l,el,cs⟩:=t
 have q:Qv (.mk k w n e l el cs)=_:=Nd.para_mk _ k w n e l el cs
 unfold fitN at h
 rw[q]at h
 simp only[Bool.and_eq_true,Nd.kind,Nd.width,Nd.name,Nd.e,Nd.l,Nd.el,Nd.cs,List.all_map,List.all_eq_true]at h
 obtain⟨⟨⟨⟨⟨⟨⟨h1,h2⟩,h3⟩,h4⟩,h5⟩,h6⟩,h7⟩,h8⟩:=h
 have h3:=of_decide_eq_true h3
 exact⟨of_decide_eq_true h1,of_decide_eq_true h2,⟨h3.1,h4⟩,⟨h3.2.1,h6⟩,⟨h3.2.2.1,h7⟩,h3.2.2.2,fun c hc=>⟨of_decide_eq_true (h5 c hc),fun x hx=>by
  have:=h8 c hc;simp only[Function.comp,List.all_map,List.all_eq_true]at this
  exact this x hx⟩⟩
theorem Fi(s:Sec):scV s= .ag [.im (.string s.name),.im (.int .u32 s.addr),.sl (s.data.map fun b=> .im (.int .u8 b.toNat)) .ro,.im (.bool s.wr),.im (.bool s.exe)]:=rfl
theorem Ff(v:Sec):(scV v).live=true:=rfl
theorem Fe(v:Sec):(scV v).size=5:=rfl
theorem Fg(v:Sec):(scV v).isAg=true:=rfl
theorem Fh(v:Sec):(scV v).firm=true:=rfl
theorem Ao(g:Bool)(v:Sec):strip g (scV v)=scV v:=rfl
theorem Ap(s:Sec):(scV s).cells=[.im (.string s.name),.im (.int .u32 s.addr),.sl (s.data.map fun b=> .im (.int .u8 b.toNat)) .ro,.im (.bool s.wr),.im (.bool s.exe)]:=rfl
theorem vE(p:Nat→Bool)(l:List UInt8):V.idsL p (l.map fun b=>V.im (.int .u8 b.toNat))=true:=gH (fun _=>rfl) l
theorem Ni(g:Nat→Nat)(l:List UInt8):V.renL g (l.map fun b=>V.im (.int .u8 b.toNat))=l.map fun b=>V.im (.int .u8 b.toNat):=V.renL_id g _ (vE _ l)
theorem gG(p:Nat→Bool)(v:Sec):(scV v).ids p=true:=by simp[scV,V.ids,V.idsL,vE]
theorem eU(p:Nat→Bool)(l:List Sec):V.idsL p (l.map scV)=true:=gH (gG p) l
theorem oK(g:Nat→Nat)(t:Sec):V.ren g (scV t)=scV t:=V.ren_id g _ (gG _ t)
theorem pV(g:Nat→Nat)(l:List Sec):V.renL g (l.map scV)=l.map scV:=V.renL_id g _ (eU _ l)
theorem Lu(l:List Sec):kV 5 (l.map scV)=true:=by
 unfold kV
 rw[List.all_map]
 exact List.all_eq_true.2 fun x _=>rfl
theorem GP(l:List Sec):By 5 (l.map scV)=true:=by
 unfold By
 rw[List.all_map]
 exact List.all_eq_true.2 fun x _=>rfl
theorem SCT:type_of%(A8 @Fh @Ao @Ff @Fe @Fg @Ap @List.getElem?_map.{0,0} @Int.natCast_nonneg) :=
 A8 @Fh @Ao @Ff @Fe @Fg @Ap @List.getElem?_map.{0,0} @Int.natCast_nonneg
theorem jH(f:Fun):fnV f= .ag [.im (.string f.name),.sl (f.vars.map vaV) .ro,.sl (f.body.map ndV) .ro]:=rfl
theorem pH(p:Nat→Bool)(f:Fun):(fnV f).ids p=true:=by simp[fnV,V.ids,V.idsL,aL,aG]
theorem kU(p:Nat→Bool)(l:List Fun):V.idsL p (l.map fnV)=true:=gH (pH p) l
theorem kS(u:Un):unV u= .ag [.sl (u.globals.map vaV) .ro,.sl (u.data.map scV) .ro,.sl (u.funcs.map fnV) .ro]:=rfl
theorem Gi(v:Fun):(fnV v).live=true:=rfl
theorem Gh(v:Fun):(fnV v).size=3:=rfl
theorem Gj(v:Fun):(fnV v).isAg=true:=rfl
theorem Gk(v:Fun):(fnV v).firm=true:=rfl
theorem Bl(g:Bool)(v:Fun):strip g (fnV v)=fnV v:=rfl
theorem Bm(f:Fun):(fnV f).cells=[.im (.string f.name),.sl (f.vars.map vaV) .ro,.sl (f.body.map ndV) .ro]:=rfl
theorem FU:type_of%(A8 @Gk @Bl @Gi @Gh @Gj @Bm @List.getElem?_map.{0,0} @Int.natCast_nonneg) :=
 A8 @Gk @Bl @Gi @Gh @Gj @Bm @List.getElem?_map.{0,0} @Int.natCast_nonneg
theorem uI(p:Nat→Bool)(u:Un):(unV u).ids p=true:=by simp[unV,V.ids,V.idsL,aL,eU,kU]
theorem Mn(g:Nat→Nat)(t:Fun):V.ren g (fnV t)=fnV t:=V.ren_id g _ (pH _ t)
theorem Mo(g:Nat→Nat)(l:List Fun):V.renL g (l.map fnV)=l.map fnV:=V.renL_id g _ (kU _ l)
theorem Xz(l:List Fun):kV 3 (l.map fnV)=true:=by
 unfold kV
 rw[List.all_map]
 exact List.all_eq_true.2 fun x _=>rfl
theorem MV(g:Nat→Nat)(u:Un):V.ren g (unV u)=unV u:=V.ren_id g _ (uI _ u)
theorem EL(u:Un):(unV u).live=true:=rfl
theorem EK(u:Un):(unV u).size=3:=rfl
theorem EM(u:Un):(unV u).isAg=true:=rfl
theorem Zt(u:Un):(unV u).cells=[.sl (u.globals.map vaV) .ro,.sl (u.data.map scV) .ro,.sl (u.funcs.map fnV) .ro]:=rfl
theorem EN(u:Un):(unV u).firm=true:=rfl
theorem Zs(g:Bool)(u:Un):strip g (unV u)=unV u:=rfl
theorem Jf{α β:Type}(f:α→β){l:List α}{m:Nat}(h:m<l.length):(l.take m).map f++[f l[m]]=(l.take (m+1)).map f:=by
 rw[List.take_succ_eq_append_getElem h,List.map_append];rfl
end Go.Proofs.YtmbmmckagcdapaaGreatDoor
namespace Go.Proofs.YtmbmmckagcdapaaGreatDoor
open Go.RowKit Go.Lib
def Cf.newTip(C:Cf)(e:TypeId)(z:Nat)(cs:Array Value):Cf:=⟨fun i=>if i=0 then some C.w.heap.size else C.σ i,ofl [.tip e z 0],C.av,C.w.drew.alloc (.cells cs e)⟩
theorem lS{e:TypeId}{z i:Nat}(h:ofl [.tip e z 0] i≠ .free):i=0:=by
 cases i with
 | zero=>rfl
 | succ i=>exact absurd (by simp[ofl,List.getD]) h
theorem Gb{C:Cf}{e:TypeId}{z:Nat}{cs:Array Value}{b:Nat}(hb:b<C.w.heap.size):(C.newTip e z cs).w.heap[b]? =C.w.heap[b]? :=by
 show(C.w.drew.heap.push _)[b]? =_
 rw[Array.getElem?_push]
 have:b≠C.w.drew.heap.size:=Nat.ne_of_lt hb
 rw[if_neg this]
 rfl
theorem Ev.newTip{C:Cf}{e:TypeId}{z:Nat}{cs:Array Value}(hst:C.st=stF):Ev C (C.newTip e z cs)where
 os:=rfl
 tape:=rfl
 output:=rfl
 size:=by show C.w.heap.size≤(C.w.drew.heap.push _).size;rw[Array.size_push];exact Nat.le_succ _
 av:=rfl
 rd:=fun a v h=>by
  have hb:a.block<C.w.heap.size:=by
   have h1:=h.1;refine Nat.lt_of_not_le fun hle=> ?_
   have:C.w.heap[a.block]? =none:=Array.getElem?_eq_none hle;simp[World.cell?,this]at h1
  refine⟨?_,h.2.1,fun i hi=> ?_⟩
  ·rw[←h.1]
   exact World.cell?_of_block (w:=C.w) (Gb hb)
  ·by_cases h0:i=0
   ·subst h0
    have:C.w.heap.size=a.block:=Option.some.inj hi;omega
   ·exact .inl (Classical.byContradiction fun hn=>h0 (lS hn))
 box:=fun i cs hb=>by rw[hst]at hb;cases hb
 tip:=fun i e z n hb=>by rw[hst]at hb;cases hb
 itr:=fun i s p hb=>by rw[hst]at hb;cases hb
 keep:=fun b hb _=>Gb hb
 shp:=fun i cs g bs t hb=>by rw[hst]at hb;cases hb
 fresh:=fun i b hi hs=>by
  obtain rfl:=lS hi;have:C.w.heap.size=b:=Option.some.inj hs;exact .inr (Nat.le_of_eq this)
theorem Ok.newTip{C:Cf}{e:TypeId}{z:Nat}{cs:Array Value}(hC:Ok C)(hst:C.st=stF):Ok (C.newTip e z cs)where
 box:=fun i cs' hb=>by
  have h0:i=0:=lS (e:=e) (z:=z) (by show(C.newTip e z cs).st i≠_;rw[hb];simp)
  subst h0;cases hb
 tip:=fun i e' z' n g hb hs=>by
  have h0:i=0:=lS (e:=e) (z:=z) (by show(C.newTip e z cs).st i≠_;rw[hb];simp)
  subst h0;cases hb
  have:C.w.heap.size=g:=Option.some.inj hs;subst this;refine⟨cs,?_,by omega,fun o ho=> ?_⟩
  ·show(C.w.drew.heap.push _)[C.w.heap.size]? =_
   rw[Array.getElem?_push];exact if_pos rfl
  ·exact absurd (hC.avl _ o ho) (Nat.lt_irrefl _)
 iter:=fun i s p hb=>by
  have h0:i=0:=lS (e:=e) (z:=z) (by show(C.newTip e z cs).st i≠_;rw[hb];simp)
  subst h0;cases hb
 inj:=fun i j g hi hj _ _=>(lS hi).trans (lS hj).symm
 avl:=fun b o h=>by
  have:=hC.avl b o h;show b<(C.w.drew.heap.push _).size
  rw[Array.size_push];exact Nat.lt_succ_of_lt this
 bav:=fun i cs' g o hb=>by
  have h0:i=0:=lS (e:=e) (z:=z) (by show(C.newTip e z cs).st i≠_;rw[hb];simp)
  subst h0;cases hb
 gl:=hC.gl.mono (Ev.newTip hst)
theorem zF{P:Program}{f:FuncId}{e:TypeId}{z:Nat}{xs:List V}(hf:Bj P f=true)(hz:0<z)
  (h: ∀(C:Cf) (vs:Array Value),C.st=stF→Ok C→vs.size=xs.length→(∀i (h:i<xs.length),R C xs[i] (vs.getD i undef)) →
   ∃(cap:Nat) (cs:Array Value),cap≤maxLen∧cs.size=cap*z∧Calls P f vs C.w fun e' w'=>e'= .returned (.slice (some ⟨C.w.heap.size,0,none⟩) 0 cap)∧w'=C.w.drew.alloc (.cells cs e)) :
  DC P f xs [.free] (.sl [] (.own 0)) [.tip e z 0]:=by
 refine⟨hf,fun C vs hst hC hl hR=> ?_⟩
 have hst':C.st=stF:=by
  rw[hst];funext i;unfold ofl stF;cases i with
  | zero=>rfl
  | succ i=>simp[List.getD]
 obtain⟨cap,cs,hcap,hcs,hc⟩:=h C vs hst' hC hl hR
 refine hc.mono ?_
 rintro e' w' ⟨rfl,rfl⟩
 refine⟨_,_,_,rfl,⟨rfl,rfl⟩,C.newTip e z cs,rfl,rfl,Ok.newTip hC hst',Ev.newTip hst',?_⟩
 ·refine .sl (z:=z) (u:=fun _=>undef) (Nat.zero_le _) hcap (fun i hi=>absurd hi (Nat.not_lt_zero _)) (fun i hi=>absurd hi (Nat.not_lt_zero _)) (fun i hi=>absurd hi (Nat.not_lt_zero _))
   ⟨e,0,rfl,Nat.le_refl _,fun _=> .inr ⟨_,cs,rfl,rfl,?_,hcs⟩⟩
  show(C.w.drew.heap.push _)[C.w.heap.size]? =_
  rw[Array.getElem?_push];exact if_pos rfl
theorem BR(n:Nat)(h0:0<n)(hb:n≤4194304*4)(w:World): ∃(cap:Nat) (cs:Array Value),cap≤maxLen∧cs.size=cap*1∧Calls Tryz.prog 256 #[.slice none 0 0,.int .i64 n] w fun e w'=>e= .returned (.slice (some ⟨w.heap.size,0,none⟩) 0 cap)∧w'=w.drew.alloc (.cells cs 35):=by
 obtain⟨i0,hi,hz0,hz1,hz2⟩:=info_parts (show(Tryz.prog.info? 35).map (fun i=>(i.zero,i.size,i.bytes))=some (some (.slice none 0 0),1,24) by kernel_rfl)
 have h1: ¬((n:Int)<0):=by omega
 have h4:(n:Int)>0:=by omega
 have hrz: ∀ty,(Builtin.append_ #[163,3] ty #[.slice none 0 0,.int .i64 n]).run Tryz.prog w=_:=fun ty=>run_append_nil_zeros w 163 3 ty 35 i0 _ .i64 .i64 Tryz.underlying163 Tryz.underlying3 hi hz0 n h0 (by rw[hz1];decide) (by omega) (by rw[hz2];omega)
 have hGn:n≤grownCap w n 0 35:=grownCap_ge w _ _ _
 have hG63:=grownCap_le_maxLen w n 0 35 (by unfold maxLen;omega)
 generalize grownCap w n 0 35=G at hrz hGn hG63
 refine⟨G,Builtin.zeroCells (Value.cells (.slice none 0 0)) n++Builtin.zeroCells (Value.cells (.slice none 0 0)) (G-n),hG63,?_,?_⟩
 rotate_left
 ·go_enter Tryz.func256,Tryz.ntmps256
  go_wp2_with (at_builtin;refine Lib.wpList_append_run _ rfl _ _ _ _ rfl _ _ rfl rfl _ _ (hrz _) ?_)
  all_goals (go_ret;exact⟨rfl,rfl⟩)
 ·simp[Builtin.zeroCells,Value.cells];omega
theorem QQ(n:Nat)(h0:0<n)(hb:n≤4194304*4):DC Tryz.prog 256 [.sl [] .nl,.im (.int .i64 n)] [.free] (.sl [] (.own 0)) [.tip 35 1 0]:=by
 refine zF (by kernel_rfl) (by decide) fun C vs _ _ hl hR=> ?_
 obtain⟨v0,v1,rfl⟩: ∃v0 v1,vs= #[v0,v1]:=Go.Joins.array2 hl
 have h1:=hR 0 (by simp)
 have h2:=hR 1 (by simp)
 obtain rfl:v0= .slice none 0 0:=by
  have h1:R C (.sl [] .nl) v0:=h1;cases h1 with
  | sl _ _ _ _ _ hk=>obtain⟨rfl,rfl⟩:=hk;rfl
 obtain rfl:v1= .int .i64 n:=by
  have h2:R C (.im (.int .i64 n)) v1:=h2;cases h2 with
  | im=>rfl
 exact BR n h0 hb C.w
theorem KV:PC Tryz.prog 256 [.sl [] .nl,.im (.int .i64 0)] (.sl [] .nl):=by
 refine⟨by kernel_rfl,fun C vs hst hC hl hR=> ?_⟩
 obtain⟨v0,v1,rfl⟩: ∃v0 v1,vs= #[v0,v1]:=Go.Joins.array2 hl
 have h1:=hR 0 (by simp)
 have h2:=hR 1 (by simp)
 obtain rfl:v0= .slice none 0 0:=by
  have h1:R C (.sl [] .nl) v0:=h1;cases h1 with
  | sl _ _ _ _ _ hk=>obtain⟨rfl,rfl⟩:=hk;rfl
 obtain rfl:v1= .int .i64 0:=by
  have h2:R C (.im (.int .i64 0)) v1:=h2;cases h2 with
  | im=>rfl
 have hc:Calls Tryz.prog 256 #[.slice none 0 0,.int .i64 0] C.w fun e w'=>e= .returned (.slice none 0 0)∧w'=C.w:=by
  go_enter Tryz.func256,Tryz.ntmps256
  go_wp2
  go_ret
  exact⟨rfl,rfl⟩
 refine hc.mono ?_
 rintro e' w' ⟨rfl,rfl⟩
 exact⟨_,_,_,rfl,⟨rfl,rfl⟩,C,rfl,hst,hC,Ev.refl C,h1⟩
theorem BQ(n:Nat)(h0:0<n)(hb:n≤4194304*4)(w:World): ∃(cap:Nat) (cs:Array Value),cap≤maxLen∧cs.size=cap*6∧Calls Tryz.prog 162 #[.slice none 0 0,.int .i64 n] w fun e w'=>e= .returned (.slice (some ⟨w.heap.size,0,none⟩) 0 cap)∧w'=w.drew.alloc (.cells cs 96):=by
 obtain⟨i0,hi,hz0,hz1,hz2⟩:=info_parts (show(Tryz.prog.info? 96).map (fun i=>(i.zero,i.size,i.bytes))=some (some (.agg #[.string .empty,.int .i64 0,.int .i64 0,.int .i64 0,.slice none 0 0,.slice none 0 0]),6,88) by kernel_rfl)
 have h1: ¬((n:Int)<0):=by omega
 have h4:(n:Int)>0:=by omega
 have hrz: ∀ty,(Builtin.append_ #[23,3] ty #[.slice none 0 0,.int .i64 n]).run Tryz.prog w=_:=fun ty=>run_append_nil_zeros w 23 3 ty 96 i0 _ .i64 .i64 Tryz.underlying23 Tryz.underlying3 hi hz0 n h0 (by rw[hz1];decide) (by omega) (by rw[hz2];omega)
 have hGn:n≤grownCap w n 0 96:=grownCap_ge w _ _ _
 have hG63:=grownCap_le_maxLen w n 0 96 (by unfold maxLen;omega)
 generalize grownCap w n 0 96=G at hrz hGn hG63
 refine⟨G,Builtin.zeroCells (Value.cells (.agg #[.string .empty,.int .i64 0,.int .i64 0,.int .i64 0,.slice none 0 0,.slice none 0 0])) n++Builtin.zeroCells (Value.cells (.agg #[.string .empty,.int .i64 0,.int .i64 0,.int .i64 0,.slice none 0 0,.slice none 0 0])) (G-n),hG63,?_,?_⟩
 rotate_left
 ·go_enter Tryz.func162,Tryz.ntmps162
  go_wp2_with (at_builtin;refine Lib.wpList_append_run _ rfl _ _ _ _ rfl _ _ rfl rfl _ _ (hrz _) ?_)
  all_goals (go_ret;exact⟨rfl,rfl⟩)
 ·simp[Builtin.zeroCells,Value.cells];omega
theorem QP(n:Nat)(h0:0<n)(hb:n≤4194304*4):DC Tryz.prog 162 [.sl [] .nl,.im (.int .i64 n)] [.free] (.sl [] (.own 0)) [.tip 96 6 0]:=by
 refine zF (by kernel_rfl) (by decide) fun C vs _ _ hl hR=> ?_
 obtain⟨v0,v1,rfl⟩: ∃v0 v1,vs= #[v0,v1]:=Go.Joins.array2 hl
 have h1:=hR 0 (by simp)
 have h2:=hR 1 (by simp)
 obtain rfl:v0= .slice none 0 0:=by
  have h1:R C (.sl [] .nl) v0:=h1;cases h1 with
  | sl _ _ _ _ _ hk=>obtain⟨rfl,rfl⟩:=hk;rfl
 obtain rfl:v1= .int .i64 n:=by
  have h2:R C (.im (.int .i64 n)) v1:=h2;cases h2 with
  | im=>rfl
 exact BQ n h0 hb C.w
theorem KU:PC Tryz.prog 162 [.sl [] .nl,.im (.int .i64 0)] (.sl [] .nl):=by
 refine⟨by kernel_rfl,fun C vs hst hC hl hR=> ?_⟩
 obtain⟨v0,v1,rfl⟩: ∃v0 v1,vs= #[v0,v1]:=Go.Joins.array2 hl
 have h1:=hR 0 (by simp)
 have h2:=hR 1 (by simp)
 obtain rfl:v0= .slice none 0 0:=by
  have h1:R C (.sl [] .nl) v0:=h1;cases h1 with
  | sl _ _ _ _ _ hk=>obtain⟨rfl,rfl⟩:=hk;rfl
 obtain rfl:v1= .int .i64 0:=by
  have h2:R C (.im (.int .i64 0)) v1:=h2;cases h2 with
  | im=>rfl
 have hc:Calls Tryz.prog 162 #[.slice none 0 0,.int .i64 0] C.w fun e w'=>e= .returned (.slice none 0 0)∧w'=C.w:=by
  go_enter Tryz.func162,Tryz.ntmps162
  go_wp2
  go_ret
  exact⟨rfl,rfl⟩
 refine hc.mono ?_
 rintro e' w' ⟨rfl,rfl⟩
 exact⟨_,_,_,rfl,⟨rfl,rfl⟩,C,rfl,hst,hC,Ev.refl C,h1⟩
end Go.Proofs.YtmbmmckagcdapaaGreatDoor
namespace Go.Proofs.YtmbmmckagcdapaaGreatDoor
open Go.RowKit
theorem wK{α:Type}{l:List (List α)}{m:Nat}(h:m<l.length):(l.take m).flatten.length+l[m].length=(l.take (m+1)).flatten.length:=by
 rw[List.take_succ_eq_append_getElem h,List.flatten_append,List.length_append]
 simp
theorem Kc{α:Type}{l:List (List α)}{m:Nat}(h:m<l.length):(l.take m).flatten++l[m]=(l.take (m+1)).flatten:=by
 rw[List.take_succ_eq_append_getElem h,List.flatten_append]
 simp
theorem Dq{α:Type}{l:List (List α)}(m:Nat):(l.take m).flatten.length≤l.flatten.length:=by
 have:=List.take_append_drop m l
 have h2:l.flatten.length=(l.take m).flatten.length+(l.drop m).flatten.length:=by
  rw[←List.length_append,←List.flatten_append,this]
 omega
theorem Kd{p:Nat→Bool}{l:List (List V)}(h: ∀xs∈l,V.idsL p xs=true)(m:Nat):V.idsL p (l.take m).flatten=true:=by
 refine Mg fun x hx=> ?_
 obtain⟨xs,h1,h2⟩:=List.mem_flatten.1 hx
 obtain⟨i,hi,rfl⟩:=List.getElem_of_mem h2
 exact V.idsL_get (h xs (List.mem_of_mem_take h1)) i hi
def mH:=A7 @oB @Om @Zg @lA @Sv @oA @iQ
theorem DI{xss:List (List V)}(hl:xss.length≤4194304)(hz: ∀xs∈xss,kV 1 xs=true)(hs: ∀p,∀xs∈xss,V.idsL p xs=true)(hn:xss.flatten.length≤16777216):PC Tryz.prog 213 [.sl (xss.map fun l=>V.sl l .ro) .ro] (.sl xss.flatten .ro):=by
 have hI: ∀p m,V.idsL p (xss.take m).flatten=true:=fun p m=>Kd (hs p) m
 have hK: ∀p,V.idsL p xss.flatten=true:=fun p=>by have:=hI p xss.length;rwa [List.take_length]at this
 have hJ: ∀p,V.idsL p (xss.map fun l=>V.sl l .ro)=true:=fun p=>jS xss fun x hx=>by simp only[V.ids,Bool.and_true];exact hs p x hx
 refine pcEnt 36 Tryz.func213 rfl [(0,.sl (xss.map fun l=>V.sl l .ro) .ro)] ?_
 refine wG mH @List.length_map.{0,0} ?_
 refine aP ?_
 refine ALp.cutP 0 [(0,.sl (xss.map fun l=>V.sl l .ro) .ro),(3,(.im (.int .i64 ((((xss.take (0)).flatten.length:Nat):Int))))),(9,.sl (xss.map fun l=>V.sl l .ro) .ro),(10,(.im (.int .i64 (xss.length)))),(11,(.im (.int .i64 ((((0:Nat)):Int)))))] [] (A3 hI hJ hK) ?_
 refine aW xss.length (fun _=>True) (fun m=>⟨dn 36 [(0,.sl (xss.map fun l=>V.sl l .ro) .ro),(3,(.im (.int .i64 ((((xss.take (m)).flatten.length:Nat):Int))))),(9,.sl (xss.map fun l=>V.sl l .ro) .ro),(10,(.im (.int .i64 (xss.length)))),(11,(.im (.int .i64 ((((m:Nat)):Int)))))],ofl []⟩) ?_ 0 (Nat.zero_le _) trivial
 intro m hm _ hnext
 by_cases hlt:m<xss.length
 ·have hlt':(m:Int)<(xss.length:Int):=by omega
  have hm1:=aK hlt (by omega)
  have hg:=bB hlt;have hln:=wK hlt;have hle:=Dq (l:=xss) (m+1)
  have hw:IntKind.i64.wrap (((xss.take m).flatten.length:Int)+(xss[m].length:Int))=((xss.take (m+1)).flatten.length:Int):=by
   rw[cU (by omega)]
   omega
  have hneg: ¬((xss.take (m+1)).flatten.length:Int)<0:=by omega
  refine wG mH (A7 hlt' hg @List.getElem?_map.{0,0} @Int.natCast_nonneg hw hneg hm1) ?_;refine ALp.cutP 0 [(0,.sl (xss.map fun l=>V.sl l .ro) .ro),(3,(.im (.int .i64 ((((xss.take (m+1)).flatten.length:Nat):Int))))),(9,.sl (xss.map fun l=>V.sl l .ro) .ro),(10,(.im (.int .i64 (xss.length)))),(11,(.im (.int .i64 ((((m+1:Nat)):Int)))))] [] (A3 hI hJ hK) ?_
  exact hnext (m+1) (by omega) (by omega) trivial
 obtain rfl:m=xss.length:=by omega
 clear hnext
 rw[List.take_length]
 refine whG mH @Int.lt_irrefl ?_
 refine Blk'.here (Thn.n ?_)
 refine wG mH TI ?_
 by_cases h0:xss.flatten.length=0
 case' pos =>
  rw[h0];refine AR.callP KV @Int.natCast_zero (A3 hI hJ hK) ?_;refine goG mH @List.length_map.{0,0} ?_;refine wG mH @List.length_map.{0,0} ?_;refine aP ?_;refine ALp.ghost 6 [] .nl 35 1 ?_;refine ALp.cutP 1 [(6,.sl (xss.take (0)).flatten (.own 0)),(25,.sl (xss.map fun l=>V.sl l .ro) .ro),(26,(.im (.int .i64 (xss.length)))),(27,(.im (.int .i64 ((((0:Nat)):Int)))))] [.tip 35 1 (xss.take (0)).flatten.length] (A3 hI hJ hK) ?_
 case' neg =>
  have hg:=QQ xss.flatten.length (by omega) (by omega)
  refine aA [0] hg TI (A3 hI hJ hK) TI ?_;refine goG mH @List.length_map.{0,0} ?_;refine wG mH @List.length_map.{0,0} ?_;refine aP ?_;refine ALp.cutP 1 [(6,.sl (xss.take (0)).flatten (.own 0)),(25,.sl (xss.map fun l=>V.sl l .ro) .ro),(26,(.im (.int .i64 (xss.length)))),(27,(.im (.int .i64 ((((0:Nat)):Int)))))] [.tip 35 1 (xss.take (0)).flatten.length] (A3 hI hJ hK) ?_
 all_goals
  refine aW xss.length (fun _=>True) (fun m=>⟨dn 36 [(6,.sl (xss.take (m)).flatten (.own 0)),(25,.sl (xss.map fun l=>V.sl l .ro) .ro),(26,(.im (.int .i64 (xss.length)))),(27,(.im (.int .i64 ((((m:Nat)):Int)))))],ofl [.tip 35 1 (xss.take (m)).flatten.length]⟩) ?_ 0 (Nat.zero_le _) trivial
  intro m hm _ hnext
  by_cases hlt:m<xss.length
  ·have hlt':(m:Int)<(xss.length:Int):=by omega
   have hm1:=aK hlt (by omega)
   have hg:=bB hlt;have hln:=wK hlt;have hle:=Dq (l:=xss) (m+1);have hsn:=Kc hlt;have hA:(xss.take (m+1)).flatten.length*24≤140737488355328:=by omega
   have hz':=hz xss[m] (List.getElem_mem hlt);refine wG mH (A9 hlt' hg @List.getElem?_map.{0,0} @Int.natCast_nonneg hA hz' hsn hln hm1) ?_;refine ALp.cutP 1 [(6,.sl (xss.take (m+1)).flatten (.own 0)),(25,.sl (xss.map fun l=>V.sl l .ro) .ro),(26,(.im (.int .i64 (xss.length)))),(27,(.im (.int .i64 ((((m+1:Nat)):Int)))))] [.tip 35 1 (xss.take (m+1)).flatten.length] (A3 hI hJ hK) ?_
   exact hnext (m+1) (by omega) (by omega) trivial
  obtain rfl:m=xss.length:=by omega
  clear hnext;rw[List.take_length];refine wG mH @Int.lt_irrefl ?_;refine fiGenO [.tmp 2] (finG mH) ?_
  all_goals exact wkG (A3 hI hJ hK)
def pM:=A7 @kA @qN @Ab @Sw @jZ @iZ @jM
theorem DH{xss:List (List V)}(hl:xss.length≤4194304)(hz: ∀xs∈xss,kV 6 xs=true)(hs: ∀p,∀xs∈xss,V.idsL p xs=true)(hn:xss.flatten.length≤16777216):PC Tryz.prog 96 [.sl (xss.map fun l=>V.sl l .ro) .ro] (.sl xss.flatten .ro):=by
 have hI: ∀p m,V.idsL p (xss.take m).flatten=true:=fun p m=>Kd (hs p) m
 have hK: ∀p,V.idsL p xss.flatten=true:=fun p=>by have:=hI p xss.length;rwa [List.take_length]at this
 have hJ: ∀p,V.idsL p (xss.map fun l=>V.sl l .ro)=true:=fun p=>jS xss fun x hx=>by simp only[V.ids,Bool.and_true];exact hs p x hx
 refine pcEnt 36 Tryz.func96 rfl [(0,.sl (xss.map fun l=>V.sl l .ro) .ro)] ?_
 refine wG pM @List.length_map.{0,0} ?_
 refine aP ?_
 refine ALp.cutP 0 [(0,.sl (xss.map fun l=>V.sl l .ro) .ro),(3,(.im (.int .i64 ((((xss.take (0)).flatten.length:Nat):Int))))),(9,.sl (xss.map fun l=>V.sl l .ro) .ro),(10,(.im (.int .i64 (xss.length)))),(11,(.im (.int .i64 ((((0:Nat)):Int)))))] [] (A3 hI hJ hK) ?_
 refine aW xss.length (fun _=>True) (fun m=>⟨dn 36 [(0,.sl (xss.map fun l=>V.sl l .ro) .ro),(3,(.im (.int .i64 ((((xss.take (m)).flatten.length:Nat):Int))))),(9,.sl (xss.map fun l=>V.sl l .ro) .ro),(10,(.im (.int .i64 (xss.length)))),(11,(.im (.int .i64 ((((m:Nat)):Int)))))],ofl []⟩) ?_ 0 (Nat.zero_le _) trivial
 intro m hm _ hnext
 by_cases hlt:m<xss.length
 ·have hlt':(m:Int)<(xss.length:Int):=by omega
  have hm1:=aK hlt (by omega)
  have hg:=bB hlt;have hln:=wK hlt;have hle:=Dq (l:=xss) (m+1)
  have hw:IntKind.i64.wrap (((xss.take m).flatten.length:Int)+(xss[m].length:Int))=((xss.take (m+1)).flatten.length:Int):=by
   rw[cU (by omega)]
   omega
  have hneg: ¬((xss.take (m+1)).flatten.length:Int)<0:=by omega
  refine wG pM (A7 hlt' hg @List.getElem?_map.{0,0} @Int.natCast_nonneg hw hneg hm1) ?_;refine ALp.cutP 0 [(0,.sl (xss.map fun l=>V.sl l .ro) .ro),(3,(.im (.int .i64 ((((xss.take (m+1)).flatten.length:Nat):Int))))),(9,.sl (xss.map fun l=>V.sl l .ro) .ro),(10,(.im (.int .i64 (xss.length)))),(11,(.im (.int .i64 ((((m+1:Nat)):Int)))))] [] (A3 hI hJ hK) ?_
  exact hnext (m+1) (by omega) (by omega) trivial
 obtain rfl:m=xss.length:=by omega
 clear hnext
 rw[List.take_length]
 refine whG pM @Int.lt_irrefl ?_
 refine Blk'.here (Thn.n ?_)
 refine wG pM TI ?_
 by_cases h0:xss.flatten.length=0
 case' pos =>
  rw[h0];refine AR.callP KU @Int.natCast_zero (A3 hI hJ hK) ?_;refine goG pM @List.length_map.{0,0} ?_;refine wG pM @List.length_map.{0,0} ?_;refine aP ?_;refine ALp.ghost 6 [] .nl 96 6 ?_;refine ALp.cutP 1 [(6,.sl (xss.take (0)).flatten (.own 0)),(25,.sl (xss.map fun l=>V.sl l .ro) .ro),(26,(.im (.int .i64 (xss.length)))),(27,(.im (.int .i64 ((((0:Nat)):Int)))))] [.tip 96 6 (xss.take (0)).flatten.length] (A3 hI hJ hK) ?_
 case' neg =>
  have hg:=QP xss.flatten.length (by omega) (by omega)
  refine aA [0] hg TI (A3 hI hJ hK) TI ?_;refine goG pM @List.length_map.{0,0} ?_;refine wG pM @List.length_map.{0,0} ?_;refine aP ?_;refine ALp.cutP 1 [(6,.sl (xss.take (0)).flatten (.own 0)),(25,.sl (xss.map fun l=>V.sl l .ro) .ro),(26,(.im (.int .i64 (xss.length)))),(27,(.im (.int .i64 ((((0:Nat)):Int)))))] [.tip 96 6 (xss.take (0)).flatten.length] (A3 hI hJ hK) ?_
 all_goals
  refine aW xss.length (fun _=>True) (fun m=>⟨dn 36 [(6,.sl (xss.take (m)).flatten (.own 0)),(25,.sl (xss.map fun l=>V.sl l .ro) .ro),(26,(.im (.int .i64 (xss.length)))),(27,(.im (.int .i64 ((((m:Nat)):Int)))))],ofl [.tip 96 6 (xss.take (m)).flatten.length]⟩) ?_ 0 (Nat.zero_le _) trivial
  intro m hm _ hnext
  by_cases hlt:m<xss.length
  ·have hlt':(m:Int)<(xss.length:Int):=by omega
   have hm1:=aK hlt (by omega)
   have hg:=bB hlt;have hln:=wK hlt;have hle:=Dq (l:=xss) (m+1);have hsn:=Kc hlt;have hA:(xss.take (m+1)).flatten.length*88≤140737488355328:=by omega
   have hz':=hz xss[m] (List.getElem_mem hlt);refine wG pM (A9 hlt' hg @List.getElem?_map.{0,0} @Int.natCast_nonneg hA hz' hsn hln hm1) ?_;refine ALp.cutP 1 [(6,.sl (xss.take (m+1)).flatten (.own 0)),(25,.sl (xss.map fun l=>V.sl l .ro) .ro),(26,(.im (.int .i64 (xss.length)))),(27,(.im (.int .i64 ((((m+1:Nat)):Int)))))] [.tip 96 6 (xss.take (m+1)).flatten.length] (A3 hI hJ hK) ?_
   exact hnext (m+1) (by omega) (by omega) trivial
  obtain rfl:m=xss.length:=by omega
  clear hnext;rw[List.take_length];refine wG pM @Int.lt_irrefl ?_;refine fiGenO [.tmp 2] (finG pM) ?_
  all_goals exact wkG (A3 hI hJ hK)
def jX:=A15 @vO @tV @qO @gF @sD @Ac @qM @qL @lL @mW @jU @nZ @tK @nM @gD
theorem CW: ∀(t:Ty),fit t→ ∀(n:Int),I64 n→PC Tryz.prog 157 [tyV t,(.im (.int .i64 (n)))] (.im (.bool (shal t n))):=by
 refine Ty.induct fun o k s c es fs hE hF=> ?_
 intro hfit n hn
 unfold I64 at hn
 obtain⟨hl1,hl2,hfE,hfF⟩:=pI hfit
 refine pcEnt 38 Tryz.func157 rfl [(0,tyV (.mk o k s c es fs)),(1,(.im (.int .i64 (n))))] ?_
 simp only[eE]
 by_cases h1:n<1
 ·have hr:shal (.mk o k s c es fs) n=false:=by
   rw[sL];have:decide (1≤n)=false:=by simp;omega
   simp[this]
  rw[hr];refine wG jX h1 ?_;exact aB
 ·have hn1:IntKind.i64.wrap (n-1)=n-1:=cU (by omega)
  refine wG jX h1 ?_;refine aP ?_;refine ALp.cutP 1 [(0,.ag [.im (.int .i64 k),.im (.int .i64 s),.im (.int .i64 c),.sl (es.map tyV) .ro,.sl (fs.map fdV) .ro]),(1,(.im (.int .i64 (n)))),(2,.pt 0 0),(4,.im (.bool false)),(12,.sl (es.map tyV) .ro),(13,(.im (.int .i64 (es.length)))),(14,(.im (.int .i64 (0))))] [.box [.im (.int .i64 k),.im (.int .i64 s),.im (.int .i64 c),.sl (es.map tyV) .ro,.sl (fs.map fdV) .ro]] TI ?_;refine aW es.length (AllTo (fun t=>shal t (n-1)) es) (fun m=>⟨dn 38 [(0,.ag [.im (.int .i64 k),.im (.int .i64 s),.im (.int .i64 c),.sl (es.map tyV) .ro,.sl (fs.map fdV) .ro]),(1,(.im (.int .i64 (n)))),(2,.pt 0 0),(4,.im (.bool false)),(12,.sl (es.map tyV) .ro),(13,(.im (.int .i64 (es.length)))),(14,(.im (.int .i64 (m))))],ofl [.box [.im (.int .i64 k),.im (.int .i64 s),.im (.int .i64 c),.sl (es.map tyV) .ro,.sl (fs.map fdV) .ro]]⟩) ?_ 0 (Nat.zero_le _) (AllTo.zero _ _)
  intro m hm hI hnext
  by_cases hlt:m<es.length
  ·have hlt':(m:Int)<(es.length:Int):=by omega
   have hg:=bB hlt;have hm1:=aK hlt (by omega)
   have hc:=hE es[m] (List.getElem_mem hlt) (hfE _ (List.getElem_mem hlt)) (n-1) (by unfold I64;omega)
   refine wG jX (A16 @eT @eY @dL @dN @eR @eQ @eS @dM @eB @eA @eX @dO @List.getElem?_map.{0,0} @Int.natCast_nonneg hlt' (A3 hg hn1 hm1)) ?_;refine AR.callP hc @bM TI ?_
   by_cases hsh:shal es[m] (n-1)=true
   ·refine goG jX hsh ?_
    refine wG jX hm1 ?_;refine ALp.cutP 1 [(0,.ag [.im (.int .i64 k),.im (.int .i64 s),.im (.int .i64 c),.sl (es.map tyV) .ro,.sl (fs.map fdV) .ro]),(1,(.im (.int .i64 (n)))),(2,.pt 0 0),(4,.im (.bool false)),(12,.sl (es.map tyV) .ro),(13,(.im (.int .i64 (es.length)))),(14,(.im (.int .i64 (((m+1:Nat):Int)))))] [.box [.im (.int .i64 k),.im (.int .i64 s),.im (.int .i64 c),.sl (es.map tyV) .ro,.sl (fs.map fdV) .ro]] TI ?_;exact hnext (m+1) (by omega) (by omega) (hI.succ hlt hsh)
   ·have hsh:shal es[m] (n-1)=false:=by simpa using hsh
    refine goG jX hsh ?_;refine wG jX hm1 ?_;rw[sL,pF hlt hsh];simp only[Bool.and_false,Bool.false_and];exact aB
  ·have hall1:=hI.done (by omega)
   have hlt': ¬(m:Int)<(es.length:Int):=by omega
   clear hnext hI hm hlt;refine wG jX hlt' ?_;clear hlt';refine aP ?_;refine ALp.cutP 1 [(0,.ag [.im (.int .i64 k),.im (.int .i64 s),.im (.int .i64 c),.sl (es.map tyV) .ro,.sl (fs.map fdV) .ro]),(1,(.im (.int .i64 (n)))),(2,.pt 0 0),(4,.im (.bool false)),(25,.sl (fs.map fdV) .ro),(26,(.im (.int .i64 (fs.length)))),(27,(.im (.int .i64 (0))))] [.box [.im (.int .i64 k),.im (.int .i64 s),.im (.int .i64 c),.sl (es.map tyV) .ro,.sl (fs.map fdV) .ro]] TI ?_;refine aW fs.length (AllTo (fun t=>shal t (n-1)) fs) (fun m=>⟨dn 38 [(0,.ag [.im (.int .i64 k),.im (.int .i64 s),.im (.int .i64 c),.sl (es.map tyV) .ro,.sl (fs.map fdV) .ro]),(1,(.im (.int .i64 (n)))),(2,.pt 0 0),(4,.im (.bool false)),(25,.sl (fs.map fdV) .ro),(26,(.im (.int .i64 (fs.length)))),(27,(.im (.int .i64 (m))))],ofl [.box [.im (.int .i64 k),.im (.int .i64 s),.im (.int .i64 c),.sl (es.map tyV) .ro,.sl (fs.map fdV) .ro]]⟩) ?_ 0 (Nat.zero_le _) (AllTo.zero _ _)
   intro m hm hI hnext
   by_cases hlt:m<fs.length
   ·have hlt':(m:Int)<(fs.length:Int):=by omega
    have hg:=bB hlt;have hm1:=aK hlt (by omega)
    have hc:=hF fs[m] (List.getElem_mem hlt) (hfF _ (List.getElem_mem hlt)) (n-1) (by unfold I64;omega)
    refine wG jX (A16 @eT @eY @dL @dN @eR @eQ @eS @dM @eB @eA @eX @dO @List.getElem?_map.{0,0} @Int.natCast_nonneg hlt' (A3 hg hn1 hm1)) ?_;refine AR.callP hc @bM TI ?_
    by_cases hsh:shal fs[m] (n-1)=true
    ·refine goG jX hsh ?_
     refine wG jX hm1 ?_;refine ALp.cutP 1 [(0,.ag [.im (.int .i64 k),.im (.int .i64 s),.im (.int .i64 c),.sl (es.map tyV) .ro,.sl (fs.map fdV) .ro]),(1,(.im (.int .i64 (n)))),(2,.pt 0 0),(4,.im (.bool false)),(25,.sl (fs.map fdV) .ro),(26,(.im (.int .i64 (fs.length)))),(27,(.im (.int .i64 (((m+1:Nat):Int)))))] [.box [.im (.int .i64 k),.im (.int .i64 s),.im (.int .i64 c),.sl (es.map tyV) .ro,.sl (fs.map fdV) .ro]] TI ?_;exact hnext (m+1) (by omega) (by omega) (hI.succ hlt hsh)
    ·have hsh:shal fs[m] (n-1)=false:=by simpa using hsh
     refine goG jX hsh ?_;refine wG jX hm1 ?_;rw[sL,pF hlt hsh];simp only[Bool.and_false];exact aB
   ·have hall2:=hI.done (by omega)
    have hlt': ¬(m:Int)<(fs.length:Int):=by omega
    clear hnext hI hm hlt;refine wG jX hlt' ?_;rw[sL,hall1,hall2];have:decide (1≤n)=true:=by simp;omega
    rw[this];simp only[Bool.and_self];exact aB
theorem IG(a b:Int):(if b<a then b else a)=min a b:=by omega
theorem VP(a b:Int):(if b>a then b else a)=max a b:=by omega
def ends(fs:List Ty)(m:Nat):Int:=((fs.take m).map fun f=>f.off+siz f).foldl max 0
theorem CK{fs:List Ty}{m:Nat}(h:m<fs.length):ends fs (m+1)=max (ends fs m) (fs[m].off+siz fs[m]):=by
 unfold ends
 rw[List.take_succ_eq_append_getElem h,List.map_append,List.foldl_append]
 rfl
theorem JK(fs:List Ty):ends fs fs.length=(fs.map fun f=>f.off+siz f).foldl max 0:=by
 unfold ends
 rw[List.take_length]
def lF:=A16 @vO @cO @tV @qO @gF @sD @qM @qL @tQ @lL @rZ @wY @wX @mW @jU (A5 @nZ @cN @tK @nM @gD)
theorem WT: ∀(t:Ty),fit t→frm t=true→PC Tryz.prog 212 [tyV t] (.im (.int .i64 (siz t))):=by
 refine Ty.induct fun o k s c es fs hE hF=> ?_
 intro hfit hfrm
 obtain⟨hl1,hl2,hfE,hfF⟩:=pI hfit
 obtain⟨hb,hof,hfs,hes⟩:=pX hfrm
 refine pcEnt 45 Tryz.func212 rfl [(0,tyV (.mk o k s c es fs))] ?_
 simp only[eE]
 rw[Fc]
 rcases mP hb with h1|h1|h1|h1|h1
 ·obtain⟨h1,rfl,rfl,_,_⟩:=h1
  rcases h1 with rfl|rfl
  all_goals
   refine wG lF TI ?_;exact aB
 ·obtain⟨h1,h2,rfl,_,_⟩:=h1
  have e:min s 65537=s:=by omega
  have hs: ¬(65537:Int)<s:=by omega
  rcases h1 with rfl|rfl
  ·refine wG lF hs ?_
   simp only[Int.reduceBEq,Bool.true_or,Bool.or_true,if_true,e];exact aB
  ·refine wG lF hs ?_
   simp only[Int.reduceBEq,Bool.true_or,Bool.or_true,if_true,e];exact aB
 ·obtain⟨rfl,rfl,rfl,_,_⟩:=h1
  refine wG lF TI ?_;exact aB
 ·obtain⟨rfl,rfl,h2,h3,h4,_⟩:=h1
  obtain⟨x,rfl⟩:=List.length_eq_one_iff.1 h4;have hc:=hE x (by simp) (hfE x (by simp)) (hes x (by simp))
  have hx0:=Fb x (hes x (by simp))
  have hx1:=GG x
  have hw:IntKind.i64.wrap (c*siz x)=c*siz x:=cU (by
   have h5:0≤c*siz x:=Int.mul_nonneg (by omega) hx0
   have h6:c*siz x≤65536*65537:=Int.mul_le_mul h3 hx1 hx0 (by omega)
   omega)
  refine wdG lF BN03 ?_;refine AR.callP hc @bM TI ?_;refine goG lF hw ?_;refine wdG lF (AI hw IG) ?_;simp only[Int.reduceBEq,Bool.or_self,Bool.false_eq_true,if_false,if_true,List.map_cons,List.headD_cons];exact aB
 ·obtain⟨rfl,rfl,rfl,_⟩:=h1
  have hoff: ∀i,(hi:i<fs.length)→0≤fs[i].off∧fs[i].off<65536:=fun i hi=>OU hi (hof i hi)
  refine wdG lF BN03 ?_;refine aP ?_;refine ALp.cutP 1 [(0,.ag [.im (.int .i64 5),.im (.int .i64 0),.im (.int .i64 0),.sl (es.map tyV) .ro,.sl (fs.map fdV) .ro]),(1,.pt 0 0),(2,(.im (.int .i64 (0)))),(3,(.im (.int .i64 (ends fs (0))))),(28,.sl (fs.map fdV) .ro),(29,(.im (.int .i64 (fs.length)))),(30,(.im (.int .i64 (((0:Nat):Int)))))] [.box [.im (.int .i64 5),.im (.int .i64 0),.im (.int .i64 0),.sl (es.map tyV) .ro,.sl (fs.map fdV) .ro]] TI ?_;refine aW fs.length (fun _=>True) (fun m=>⟨dn 45 [(0,.ag [.im (.int .i64 5),.im (.int .i64 0),.im (.int .i64 0),.sl (es.map tyV) .ro,.sl (fs.map fdV) .ro]),(1,.pt 0 0),(2,(.im (.int .i64 (0)))),(3,(.im (.int .i64 (ends fs (m))))),(28,.sl (fs.map fdV) .ro),(29,(.im (.int .i64 (fs.length)))),(30,(.im (.int .i64 (((m:Nat):Int)))))],ofl [.box [.im (.int .i64 5),.im (.int .i64 0),.im (.int .i64 0),.sl (es.map tyV) .ro,.sl (fs.map fdV) .ro]]⟩) ?_ 0 (Nat.zero_le _) trivial
  intro m hm _ hnext
  by_cases hlt:m<fs.length
  ·have hlt':(m:Int)<(fs.length:Int):=by omega
   have hg:=bB hlt;have hm1:=aK hlt (by omega)
   have hc:=hF fs[m] (List.getElem_mem hlt) (hfF _ (List.getElem_mem hlt)) (hfs _ (List.getElem_mem hlt));have ho:=hoff m hlt;have hx0:=Fb fs[m] (hfs _ (List.getElem_mem hlt));have hx1:=GG fs[m];have hw:IntKind.i64.wrap (fs[m].off+siz fs[m])=fs[m].off+siz fs[m]:=cU (by omega)
   have he:=(CK hlt).symm;refine wdG lF (A16 @eT @eY @dL @dN @eR @eQ @eS @dM @eB @eA @eX @dO @List.getElem?_map.{0,0} @Int.natCast_nonneg hlt' (AI hg hm1)) ?_;refine AR.callP hc @bM TI ?_;refine goG lF (A3 hw VP he) ?_;refine wdG lF hm1 ?_;refine ALp.cutP 1 [(0,.ag [.im (.int .i64 5),.im (.int .i64 0),.im (.int .i64 0),.sl (es.map tyV) .ro,.sl (fs.map fdV) .ro]),(1,.pt 0 0),(2,(.im (.int .i64 (0)))),(3,(.im (.int .i64 (ends fs (m+1))))),(28,.sl (fs.map fdV) .ro),(29,(.im (.int .i64 (fs.length)))),(30,(.im (.int .i64 (((m+1:Nat):Int)))))] [.box [.im (.int .i64 5),.im (.int .i64 0),.im (.int .i64 0),.sl (es.map tyV) .ro,.sl (fs.map fdV) .ro]] TI ?_;exact hnext (m+1) (by omega) (by omega) trivial
  ·obtain rfl:m=fs.length:=by omega
   have hlt': ¬(fs.length:Int)<(fs.length:Int):=by omega
   clear hnext;refine wdG lF (AI hlt' IG) ?_;simp only[Int.reduceBEq,Bool.or_self,Bool.false_eq_true,if_false,if_true,←JK];exact aB
section
variable {F:Fence} {n:Nat} {P:Program} {a:Act} {w:World} {Q:Exit→Act→World→Prop}
theorem lQ{b:Frame}{k:List Item}{cs:List Frame}{c:Code}:step P (lone (b.atR a (.code (.scope c)::k)) cs w)= .next (lone (b.atR a (.code c:: .inScope c::k)) cs w) :=
 step_lone_go (by simp[stepG,stepG.exec,Frame.atR])
theorem Ij{b:Frame}{k:List Item}{cs:List Frame}{c:Code}:step P (lone (b.atR a (.inScope c::k)) cs w)= .next (lone (b.atR a k) cs w) :=
 step_lone_go (by simp[stepG,stepG.exec,Frame.atR])
theorem Tf{c:Code}(h:c.wpIn F n P (Exit.noGoto Q) a w):(Code.scope c).wpIn F n P Q a w:=by
 intro b k cs hro hb hr
 have h0:(lone (b.atR a (.code (.scope c)::k)) cs w).fenced P F:=fenced_calm hb hr rfl
 obtain⟨e,a₁,w₁,hq,harr⟩:=h b (.inScope c::k) cs hro hb hr
 cases e with
 | normal=>exact⟨.normal,a₁,w₁,hq,.head h0 lQ (StepsIn.trans harr (.one (fenced_calm hb hr rfl) Ij))⟩
 | exit id =>
  have hx:exitTo id (.inScope c::k)=exitTo id k:=by simp[exitTo]
  exact⟨.exit id,a₁,w₁,hq,fun k' hk=> .head h0 lQ (harr.1 k' (by rw[hx];exact hk)),
   fun hr' hk=>let ⟨k₁,h1,h2⟩:=harr.2 hr' (by rw[hx];exact hk);⟨k₁,h1,.head h0 lQ h2⟩⟩
 | goto l=>exact hq.elim
 | ret=>exact⟨_,a₁,w₁,hq,.of_steps (.one h0 lQ) harr⟩
 | panic ch=>exact⟨_,a₁,w₁,hq,.of_steps (.one h0 lQ) harr⟩
 | outgrown=>exact⟨_,a₁,w₁,hq,.of_steps (.one h0 lQ) harr⟩
end
def NoG(Q:Exit→St→Prop):Exit→St→Prop
 | .goto _,_=>False
 | e,A=>Q e A
theorem AWp.scope{K:Ro→Prop}{P:Program}{st0:Nat→Ent}{Q:Exit→St→Prop}{A:St}{c:Code}(h:AWpK K P st0 c (NoG Q) A):AWpK K P st0 (.scope c) Q A:=by
 intro C0 C a ro n hK h0 hE hS
 refine Tf (wpIn_mono (h C0 C a ro n hK h0 hE hS) ?_)
 rintro e a' w' ⟨A',D,h1,h2,h3,h4⟩
 cases e with
 | goto l=>exact h1.elim
 | _=>exact⟨A',D,h1,h2,h3,h4⟩
end Go.Proofs.YtmbmmckagcdapaaGreatDoor
