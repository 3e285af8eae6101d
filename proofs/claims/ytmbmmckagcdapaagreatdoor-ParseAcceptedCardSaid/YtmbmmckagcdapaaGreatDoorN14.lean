import Derived.Laws.Strings
import Derived.Test.YtmbmmckagcdapaaGreatDoorN11
import Derived.Test.YtmbmmckagcdapaaGreatDoorN06
import Derived.Below
import Derived.WideLaws
import Derived.Lib.AppendZeros
import Derived.Lib.SliceRun
import Derived.Lib.Walk
import Derived.Shelf.RegionOpenPlain
import Derived.Lib.SmallJoins
set_option linter.all false
namespace Go.Proofs.YtmbmmckagcdapaaGreatDoor
open Go.RowKit
theorem dE(l:Bs):(ByteArray.mk l.toArray).size=l.length:=by simp[ByteArray.size]
theorem Ii(l:Bs):(ByteArray.mk l.toArray).toList=l:=by rw[ByteArray.toList_eq]
theorem Tc(l:Bs)(i:Nat):(ByteArray.mk l.toArray)[i]? =l[i]? :=by
 simp only[getElem?_def,ByteArray.size,List.size_toArray]
 split
 ·simp[ByteArray.getElem_eq_getElem_data]
 ·rfl
theorem zU(a b:Bs):ByteArray.mk a.toArray++ByteArray.mk b.toArray=ByteArray.mk (a++b).toArray:=by
 apply ByteArray.ext
 simp[ByteArray.data_append]
theorem Fb(l:Bs)(i j:Nat):(ByteArray.mk l.toArray).extract i j=ByteArray.mk ((l.drop i).take (j-i)).toArray:=by
 apply ByteArray.ext
 apply Array.toList_inj.1
 simp[ByteArray.data_extract]
def byB(b:UInt8):V:= .im (.int .u8 b.toNat)
theorem Sx(l:Bs):byV (ByteArray.mk l.toArray)=l.map byB:=by simp[byV,byB]
theorem mT(l:Bs):mL (l.map byB)=some l:=by
 induction l with
 | nil=>rfl
 | cons c l ih =>
  have hc:=c.toNat_lt;simp only[List.map_cons,byB,mL];rw[if_pos ⟨by omega,by omega⟩,show mL (List.map byB l)=some l from ih]
  simp
theorem Ph(b:UInt8):(byB b).live=true:=rfl
theorem Pg(b:UInt8):(byB b).size=1:=rfl
theorem Pi(b:UInt8):(byB b).isAg=false:=rfl
theorem Ig(b:UInt8):(byB b).cells=[.im (.int .u8 b.toNat)]:=rfl
theorem Pj(b:UInt8):(byB b).firm=true:=rfl
theorem If(g:Bool)(b:UInt8):strip g (byB b)=byB b:=rfl
theorem aB(p:Nat→Bool)(l:Bs):V.idsL p (l.map byB)=true:=fY (fun _=>rfl) l
theorem cK(g:Nat→Nat)(l:Bs):V.renL g (l.map byB)=l.map byB:=V.renL_id g _ (aB _ l)
def tkV(t:Tk):V:= .ag [.im (.int .i64 t.kind),.im (.string ⟨t.text.toArray⟩),.im (.int .u32 t.n),.im (.int .i64 t.line),.im (.int .i64 t.col)]
theorem Md(v:Tk):(tkV v).live=true:=rfl
theorem Mc(v:Tk):(tkV v).size=5:=rfl
theorem Me(v:Tk):(tkV v).isAg=true:=rfl
theorem Mf(v:Tk):(tkV v).firm=true:=rfl
theorem Gt(g:Bool)(v:Tk):strip g (tkV v)=tkV v:=rfl
theorem Gu(t:Tk):(tkV t).cells=[.im (.int .i64 t.kind),.im (.string ⟨t.text.toArray⟩),.im (.int .u32 t.n),.im (.int .i64 t.line),.im (.int .i64 t.col)]:=rfl
theorem aX(p:Nat→Bool)(v:Tk):(tkV v).ids p=true:=rfl
theorem bC(p:Nat→Bool)(l:List Tk):V.idsL p (l.map tkV)=true:=fY (aX p) l
theorem eW(g:Nat→Nat)(t:Tk):V.ren g (tkV t)=tkV t:=V.ren_id g _ (aX _ t)
theorem eX(g:Nat→Nat)(l:List Tk):V.renL g (l.map tkV)=l.map tkV:=V.renL_id g _ (bC _ l)
theorem BY:type_of%(A15 @dE @Ii @Tc @Fb @Sx @mT @Ph @Pg @Pi @Ig @Pj @If @List.getElem?_map.{0,0} @List.length_map.{0,0} @Int.natCast_nonneg) :=
 A15 @dE @Ii @Tc @Fb @Sx @mT @Ph @Pg @Pi @Ig @Pj @If @List.getElem?_map.{0,0} @List.length_map.{0,0} @Int.natCast_nonneg
theorem TKT:type_of%(A9 @Mf @Gt @Md @Mc @Me @Gu @List.getElem?_map.{0,0} @List.length_map.{0,0} @Int.natCast_nonneg) :=
 A9 @Mf @Gt @Md @Mc @Me @Gu @List.getElem?_map.{0,0} @List.length_map.{0,0} @Int.natCast_nonneg
def GDS:=A8 @Option.getD_none.{0} @Option.getD_some.{0} Int.toNat_natCast Int.toNat_zero Nat.sub_zero @List.drop_zero.{0} Int.natCast_nonneg Int.le_refl
theorem Ev.below{C:Cf}{w':World}(h:Below C.w.heap.size C.w w'):Ev C (C.withW w')where
 os:=h.os
 tape:=h.tape
 output:=h.output
 size:=h.size
 av:=rfl
 rd:=fun a v k=>⟨by
  rw[←k.1]
  exact World.cell?_of_block (h.block _ (World.block_lt_of_cell? _ _ k.1)),k.2⟩
 box:=fun _ cs h=>⟨rfl,cs,h⟩
 tip:=fun i e z n k=>⟨n,k,Nat.le_refl _,fun _=>⟨rfl,fun g cur hg hc=>⟨cur,(h.block _ (Array.getElem?_eq_some_iff.1 hc).1).trans hc,rfl⟩⟩⟩
 itr:=fun _ s p h=>⟨rfl,s,p,h⟩
 keep:=fun b hb _=>h.block b hb
 fresh:=fun _ _ h h'=> .inl ⟨h,h'⟩
 shp:=fun _ _ _ bs _ _ _ k=>⟨bs,(h.block _ (Array.getElem?_eq_some_iff.1 k).1).trans k,rfl⟩
theorem Ok.below{C:Cf}{w':World}(hC:Ok C)(hb:Below C.w.heap.size C.w w'):Ok (C.withW w')where
 box:=fun i cs h=>by
  obtain⟨g,bs,t,h1,h2,h3,h4,h5⟩:=hC.box i cs h;exact⟨g,bs,t,h1,(hb.block _ (Array.getElem?_eq_some_iff.1 h2).1).trans h2,h3,h4,fun j hj=>(h5 j hj).mono (Ev.below hb)⟩
 tip:=fun i e z n g h h'=>by
  obtain⟨cur,h1,h2⟩:=hC.tip i e z n g h h';exact⟨cur,(hb.block _ (Array.getElem?_eq_some_iff.1 h1).1).trans h1,h2⟩
 iter:=fun i s p h=>by
  obtain⟨g,h1,h2⟩:=hC.iter i s p h;exact⟨g,h1,(hb.block _ (Array.getElem?_eq_some_iff.1 h2).1).trans h2⟩
 inj:=hC.inj
 avl:=fun b o h=>Nat.lt_of_lt_of_le (hC.avl b o h) hb.size
 bav:=hC.bav
 gl:=hC.gl.mono (Ev.below hb)
theorem oF{P:Program}{f:FuncId}{xs:List V}{r:V}(hf:zJ P f=true)(h: ∀(C:Cf) (vs:Array Value),Ok C→vs.size=xs.length→(∀i (hi:i<xs.length),R C xs[i] (vs.getD i undef)) →
  Calls P f vs C.w fun e w'=> ∃v,e= .returned v∧(∀D:Cf,R D r v)∧Below C.w.heap.size C.w w'):PC P f xs r:=by
 refine⟨hf,fun C vs hst hC hsz hR=> ?_⟩
 refine(h C vs hC hsz hR).mono ?_
 rintro e w' ⟨v,rfl,hv,hb⟩
 exact⟨v,_,_,rfl,⟨rfl,rfl⟩,C.withW w',rfl,hst,hC.below hb,Ev.below hb,hv _⟩
def ifT(P:Program)(t:TypeId):Option Bool:=(P.underlying t).map fun d=>match d with| .interface _=>true|_=>false
theorem CO{P:Program}{o:Oper}{ev:Operand→V}{t:TypeId}{x:Operand}{v:Value}(ho:o.op= .makeInterface t x)(ht:ifT P t=some false)(hx:ev x= .im v):Step P o ev [] ⟨.im (.iface t v),[]⟩ :=
 Step.look fun C ρ _ hR _=>by
  have h1:=hR x (by simp[ho,Op.operands])
  rw[hx]at h1;have e1:ρ x=v:=h1.im_eq;refine⟨.iface t v,?_,.im rfl⟩;unfold ifT at ht;cases hu:P.underlying t with
  | none=>rw[hu]at ht;cases ht
  | some d =>
   rw[hu]at ht;simp only[execOp,ho,e1,Instr.makeInterface,run_underlying hu,Sem.run_bind,Result.andThen_ok];cases d<;>first|rfl|(simp at ht)
theorem VQ{P:Program}{t:TypeId}(ht:ifT P t=some true):P.underlying t=some (.interface (P.methodsAt t)):=by
 unfold ifT at ht
 cases hu:P.underlying t with
 | none=>rw[hu]at ht;cases ht
 | some d =>
  rw[hu]at ht;cases d<;>simp at ht
  simp[Program.methodsAt,hu]
theorem KQ{P:Program}{op:BinOp}{t:TypeId}(ht:ifT P t=some true)(hop:op= .eql∨op= .neq){a:Value}{b:Bool}(ha:(∃u v,a= .iface u v∧b=false)∨(a= .nilIface∧b=true))(x:Operand)(w:World) :
  (eqGuard op t x (.const .nilIface) a .nilIface).run P w= .ok () w∧(binOp op t a .nilIface).run P w= .ok (.bool (if op= .eql then b else !b)) w:=by
 have hu:=VQ ht
 rcases ha with ⟨u,v,rfl,rfl⟩|⟨rfl,rfl⟩
 ·have h:=run_equal_held_nil (w:=w) t u v hu
  rcases hop with rfl|rfl
  ·exact⟨by simp[eqGuard],by simp[binOp,h]⟩
  ·exact⟨by simp[eqGuard],by simp[binOp,h]⟩
 ·have h:=run_equal_nil_nil (w:=w) t hu
  rcases hop with rfl|rfl
  ·exact⟨by simp[eqGuard],by simp[binOp,h]⟩
  ·exact⟨by simp[eqGuard],by simp[binOp,h]⟩
theorem CR{P:Program}{o:Oper}{ev:Operand→V}{op:BinOp}{t u:TypeId}{x:Operand}{b:Bool}(ho:o.op= .binOp op t x (.const .nilIface) u)(ht:ifT P t=some true)(hop:op= .eql∨op= .neq)(hy:ev (.const .nilIface)= .im .nilIface)
  (hx:(∃a v,ev x= .im (.iface a v)∧b=false)∨(ev x= .ifc∧b=false)∨(ev x= .im .nilIface∧b=true)):Step P o ev [] ⟨.im (.bool (if op= .eql then b else !b)),[]⟩ :=
 Step.look fun C ρ _ hR _=>by
  have h1:=hR x (by simp[ho,Op.operands])
  have h2:=hR (.const .nilIface) (by simp[ho,Op.operands])
  rw[hy]at h2;have e2:ρ (.const .nilIface)= .nilIface:=h2.im_eq
  have ha:(∃u v,ρ x= .iface u v∧b=false)∨(ρ x= .nilIface∧b=true):=by
   rcases hx with ⟨a,v,hx,hb⟩|⟨hx,hb⟩|⟨hx,hb⟩
   ·rw[hx]at h1;exact .inl ⟨a,v,h1.im_eq,hb⟩
   ·rw[hx]at h1
    generalize ρ x=z at h1;cases h1
    exact .inl ⟨_,_,rfl,hb⟩
   ·rw[hx]at h1;exact .inr ⟨h1.im_eq,hb⟩
  obtain⟨h3,h4⟩:=KQ ht hop ha x C.w;refine⟨.bool (if op= .eql then b else !b),?_,.im rfl⟩
  simp only[execOp,ho,e2,Sem.run_bind,h3,Result.andThen_ok,h4,Sem.run_pure]
theorem yP{P:Program}{N:Nat}{ops:Array Oper}{dr:Bool}{Q:Exit→St→Prop}{o:Oper}{os:List Oper}{k:Nat}{s:List (Nat×V)}{l:List Ent}{acc:List (Nat×List Nat×List Nat)}{v:V}(h1:Step P o (St.ev ⟨dn N s,ofl l⟩) [] ⟨v,[]⟩)
  (hn:AR P ops dr Q os (k+1) ⟨dn N (eV s o.dst v),ofl l⟩ ((k,[],[])::acc)) (hg:gd ops o ⟨dn N s,ofl l⟩=some true):AR P ops dr Q (o::os) k ⟨dn N s,ofl l⟩ acc:=by
 refine .inr (.inl ⟨hg,[],⟨v,[]⟩,h1,fun _ h=>(by cases h),?_⟩)
 rw[←jW N s (ofl l)]at hn
 exact hn
theorem pU{P:Program}{N:Nat}{ops:Array Oper}{dr:Bool}{Q:Exit→St→Prop}{d:Option Tmp}{t:TypeId}{x:Operand}{ty:TypeId}{pos:String}{af:Array Edge}{g:Option (Nat×Bool)}{os:List Oper}{k:Nat}{s:List (Nat×V)}{l:List Ent}{acc:List (Nat×List Nat×List Nat)}{v:Value}
  (hn:AR P ops dr Q os (k+1) ⟨dn N (eV s d (.im (.iface t v))),ofl l⟩ ((k,[],[])::acc)) (ht:ifT P t=some false:=by kernel_rfl) (hx:St.ev ⟨dn N s,ofl l⟩ x= .im v:=by rfl) (hg:gd ops ⟨d,.makeInterface t x,ty,pos,af,g⟩ ⟨dn N s,ofl l⟩=some true:=by rfl) :
  AR P ops dr Q (⟨d,.makeInterface t x,ty,pos,af,g⟩::os) k ⟨dn N s,ofl l⟩ acc:=yP (CO rfl ht hx) hn hg
theorem tZ{P:Program}{N:Nat}{ops:Array Oper}{dr:Bool}{Q:Exit→St→Prop}{d:Option Tmp}{op:BinOp}{t u:TypeId}{x:Operand}{ty:TypeId}{pos:String}{af:Array Edge}{g:Option (Nat×Bool)}{os:List Oper}{k:Nat}{s:List (Nat×V)}{l:List Ent}{acc:List (Nat×List Nat×List Nat)}{y:V}(b:Bool){e:Bool}
  (hn:AR P ops dr Q os (k+1) ⟨dn N (eV s d (.im (.bool e))),ofl l⟩ ((k,[],[])::acc)) (ht:ifT P t=some true:=by kernel_rfl) (hop:op= .eql∨op= .neq:=by first|exact .inl rfl|exact .inr rfl) (hx:St.ev ⟨dn N s,ofl l⟩ x=y:=by rfl)
  (hy:(∃a v,y= .im (.iface a v)∧b=false)∨(y= .ifc∧b=false)∨(y= .im .nilIface∧b=true):=by first|exact .inl ⟨_,_,rfl,rfl⟩|exact .inr (.inl ⟨rfl,rfl⟩)|exact .inr (.inr ⟨rfl,rfl⟩)) (he:(if op= .eql then b else !b)=e:=by rfl)
  (hg:gd ops ⟨d,.binOp op t x (.const .nilIface) u,ty,pos,af,g⟩ ⟨dn N s,ofl l⟩=some true:=by rfl) :
  AR P ops dr Q (⟨d,.binOp op t x (.const .nilIface) u,ty,pos,af,g⟩::os) k ⟨dn N s,ofl l⟩ acc:=by
 subst hx he
 exact yP (CR rfl ht hop rfl hy) hn hg
theorem AWp.tail{K:Ro→Prop}{P:Program}{st0:Nat→Ent}{Q:Exit→St→Prop}{A:St}{c rest0:Code}{ι:Type}(S:ι→St)(tail: ∀i,AWpK K P st0 rest0 Q (S i))
  (walk: ∀rest,(∀i,AWpK K P st0 rest Q (S i))→AWpK K P st0 c (Thn K P st0 rest Q) A):AWpK K P st0 c (Thn K P st0 rest0 Q) A:=walk rest0 tail
theorem AWp.cut{K:Ro→Prop}{P:Program}{st0:Nat→Ent}{Q:Exit→St→Prop}{c:Code}{N:Nat}{s:List (Nat×V)}{l:List Ent}(n:Nat)(s':List (Nat×V))(l':List Ent)(h:AWpK K P st0 c Q ⟨dn N s',ofl l'⟩)(hl:l.take n=l')(hw:WkA s s')(h0: ∀i,st0 i≠ .free→i<n)(hs:idsA (ltB n) s'=true)
  (hb:l'.all (entOk (ltB n))=true):AWpK K P st0 c Q ⟨dn N s,ofl l⟩:=by
 refine AWp.weak (ltB n) (dn N s') ?_ (by rw[jD];exact(jD N s).symm) (fun t=> ?_) (fun i hi=>by simpa[ltB]using h0 i hi) (Uv hs N) (fun i cs h1 h2=> ?_)
 case refine_3 =>
  subst hl;have hi:i<n:=by simpa[ltB]using h2
  have hil:i<l.length:=by
   refine Nat.lt_of_not_le fun hle=> ?_
   have:ofl l i= .free:=by simp[ofl,List.getD,List.getElem?_eq_none hle]
   rw[show(St.mk (dn N s) (ofl l)).st i=ofl l i from rfl,this]at h1
   cases h1
  have he:l[i]= .box cs:=by simpa[ofl,List.getD,hil]using h1
  have:=List.all_eq_true.1 hb l[i] (by
   refine List.mem_iff_getElem?.2 ⟨i,?_⟩
   simp[List.getElem?_take,hi,hil])
  rw[he]at this;exact this
 ·have e:(fun i=>if ltB n i=true then ofl l i else Ent.free)=ofl l':=by
   funext i
   subst hl;unfold ofl ltB
   by_cases hi:i<n
   ·simp[hi,List.getD,List.getElem?_take]
   ·simp[hi,List.getD,List.getElem?_take]
  rw[e];exact h
 ·show Wk ((dn N s).getD t .dead) ((dn N s').getD t .dead)
  rw[fK,fK];split
  ·exact hw.look t
  ·exact .dead _
theorem AWp.cutP{K:Ro→Prop}{P:Program}{st0:Nat→Ent}{Q:Exit→St→Prop}{c:Code}{N:Nat}{s:List (Nat×V)}{l:List Ent}{E:Prop}(n:Nat)(s':List (Nat×V))(l':List Ent)(fi:E)(h:AWpK K P st0 c Q ⟨dn N s',ofl l'⟩)(hl:l.take n=l':=by rfl)
  (hw:WkA s s':=by repeat (first|exact WkA.nil|refine WkA.cons (Wk.refl _) ?_)) (h0: ∀i,st0 i≠ .free→i<n:=by exact fun i hi=>by first|exact absurd rfl hi|exact Nat.lt_of_lt_of_le (pL hi) (by simp))
  (hs:E→idsA (ltB n) s'=true:=by intro f;first|rfl|simp only[List.length_cons,List.length_nil,Nat.reduceAdd,V.ids,V.idsL,idsA,entOk,List.all_cons,List.all_nil,Bool.and_self,Bool.and_true,Bool.true_and,ltB,noId,Nat.reduceLT,decide_true,Bool.true_eq_false,bU,bW,bV,bX,f]) (hb:E→l'.all (entOk (ltB n))=true:=by intro f;first|rfl|simp only[List.length_cons,List.length_nil,Nat.reduceAdd,V.ids,V.idsL,idsA,entOk,List.all_cons,List.all_nil,Bool.and_self,Bool.and_true,Bool.true_and,ltB,noId,Nat.reduceLT,decide_true,Bool.true_eq_false,bU,bW,bV,bX,f]):AWpK K P st0 c Q ⟨dn N s,ofl l⟩ :=
 AWp.cut n s' l' h hl hw h0 (hs fi) (hb fi)
def jF:=A15 @tY @vJ @sL @iK @qQ @yL @sI @sH @lZ @nM @jU @oH @uW @nG @iI
set_option maxHeartbeats 400000 in
theorem Zu: ∀(t:Ty),fit t→ ∀(n:Int),I64 n→PC Tryz.prog 157 [tyV t,(.im (.int .i64 (n)))] (.im (.bool (shal t n))):=by
 refine Ty.induct fun o k s c es fs hE hF=> ?_
 intro hfit n hn
 unfold I64 at hn
 obtain⟨hl1,hl2,hfE,hfF⟩:=nU hfit
 refine PC.enter 38 Tryz.func157 rfl (by decide) rfl rfl (s:=[(0,tyV (.mk o k s c es fs)),(1,(.im (.int .i64 (n))))]) (by rfl) ?_
 simp only[eP]
 by_cases h1:n<1
 ·have hr:shal (.mk o k s c es fs) n=false:=by
   rw[qY];have:decide (1≤n)=false:=by simp;omega
   simp[this]
  rw[hr];refine wG jF h1 ?_;exact aD
 ·have hn1:IntKind.i64.wrap (n-1)=n-1:=dL (by omega)
  refine wG jF h1 ?_;refine aW ?_;refine ALp.cutP 1 [(0,.ag [.im (.int .i64 k),.im (.int .i64 s),.im (.int .i64 c),.sl (es.map tyV) .ro,.sl (fs.map fdV) .ro]),(1,(.im (.int .i64 (n)))),(2,.pt 0 0),(4,.im (.bool false)),(12,.sl (es.map tyV) .ro),(13,(.im (.int .i64 (es.length)))),(14,(.im (.int .i64 (0))))] [.box [.im (.int .i64 k),.im (.int .i64 s),.im (.int .i64 c),.sl (es.map tyV) .ro,.sl (fs.map fdV) .ro]] TI ?_;refine ALp.upto es.length (AllTo (fun t=>shal t (n-1)) es) (fun m=>⟨dn 38 [(0,.ag [.im (.int .i64 k),.im (.int .i64 s),.im (.int .i64 c),.sl (es.map tyV) .ro,.sl (fs.map fdV) .ro]),(1,(.im (.int .i64 (n)))),(2,.pt 0 0),(4,.im (.bool false)),(12,.sl (es.map tyV) .ro),(13,(.im (.int .i64 (es.length)))),(14,(.im (.int .i64 (m))))],ofl [.box [.im (.int .i64 k),.im (.int .i64 s),.im (.int .i64 c),.sl (es.map tyV) .ro,.sl (fs.map fdV) .ro]]⟩) ?_ 0 (Nat.zero_le _) (AllTo.zero _ _)
  intro m hm hI hnext
  by_cases hlt:m<es.length
  ·have hlt':(m:Int)<(es.length:Int):=by omega
   have hg:=bJ hlt;have hm1:=aT hlt (by omega)
   have hc:=hE es[m] (List.getElem_mem hlt) (hfE _ (List.getElem_mem hlt)) (n-1) (by unfold I64;omega)
   refine wG jF (A16 @eI @eL @dG @dI @eG @eF @eH @dH @dT @dS @eK @dJ @List.getElem?_map.{0,0} @Int.natCast_nonneg hlt' (A3 hg hn1 hm1)) ?_;refine AR.callP hc @cF TI ?_
   by_cases hsh:shal es[m] (n-1)=true
   ·refine goG jF hsh ?_
    refine wG jF hm1 ?_;refine ALp.cutP 1 [(0,.ag [.im (.int .i64 k),.im (.int .i64 s),.im (.int .i64 c),.sl (es.map tyV) .ro,.sl (fs.map fdV) .ro]),(1,(.im (.int .i64 (n)))),(2,.pt 0 0),(4,.im (.bool false)),(12,.sl (es.map tyV) .ro),(13,(.im (.int .i64 (es.length)))),(14,(.im (.int .i64 (((m+1:Nat):Int)))))] [.box [.im (.int .i64 k),.im (.int .i64 s),.im (.int .i64 c),.sl (es.map tyV) .ro,.sl (fs.map fdV) .ro]] TI ?_;exact hnext (m+1) (by omega) (by omega) (hI.succ hlt hsh)
   ·have hsh:shal es[m] (n-1)=false:=by simpa using hsh
    refine goG jF hsh ?_;refine wG jF hm1 ?_;rw[qY,nR hlt hsh];simp only[Bool.and_false,Bool.false_and];exact aD
  ·have hall1:=hI.done (by omega)
   have hlt': ¬(m:Int)<(es.length:Int):=by omega
   clear hnext hI hm hlt;refine wG jF hlt' ?_;clear hlt';refine aW ?_;refine ALp.cutP 1 [(0,.ag [.im (.int .i64 k),.im (.int .i64 s),.im (.int .i64 c),.sl (es.map tyV) .ro,.sl (fs.map fdV) .ro]),(1,(.im (.int .i64 (n)))),(2,.pt 0 0),(4,.im (.bool false)),(25,.sl (fs.map fdV) .ro),(26,(.im (.int .i64 (fs.length)))),(27,(.im (.int .i64 (0))))] [.box [.im (.int .i64 k),.im (.int .i64 s),.im (.int .i64 c),.sl (es.map tyV) .ro,.sl (fs.map fdV) .ro]] TI ?_;refine ALp.upto fs.length (AllTo (fun t=>shal t (n-1)) fs) (fun m=>⟨dn 38 [(0,.ag [.im (.int .i64 k),.im (.int .i64 s),.im (.int .i64 c),.sl (es.map tyV) .ro,.sl (fs.map fdV) .ro]),(1,(.im (.int .i64 (n)))),(2,.pt 0 0),(4,.im (.bool false)),(25,.sl (fs.map fdV) .ro),(26,(.im (.int .i64 (fs.length)))),(27,(.im (.int .i64 (m))))],ofl [.box [.im (.int .i64 k),.im (.int .i64 s),.im (.int .i64 c),.sl (es.map tyV) .ro,.sl (fs.map fdV) .ro]]⟩) ?_ 0 (Nat.zero_le _) (AllTo.zero _ _)
   intro m hm hI hnext
   by_cases hlt:m<fs.length
   ·have hlt':(m:Int)<(fs.length:Int):=by omega
    have hg:=bJ hlt;have hm1:=aT hlt (by omega)
    have hc:=hF fs[m] (List.getElem_mem hlt) (hfF _ (List.getElem_mem hlt)) (n-1) (by unfold I64;omega)
    refine wG jF (A16 @eI @eL @dG @dI @eG @eF @eH @dH @dT @dS @eK @dJ @List.getElem?_map.{0,0} @Int.natCast_nonneg hlt' (A3 hg hn1 hm1)) ?_;refine AR.callP hc @cF TI ?_
    by_cases hsh:shal fs[m] (n-1)=true
    ·refine goG jF hsh ?_
     refine wG jF hm1 ?_;refine ALp.cutP 1 [(0,.ag [.im (.int .i64 k),.im (.int .i64 s),.im (.int .i64 c),.sl (es.map tyV) .ro,.sl (fs.map fdV) .ro]),(1,(.im (.int .i64 (n)))),(2,.pt 0 0),(4,.im (.bool false)),(25,.sl (fs.map fdV) .ro),(26,(.im (.int .i64 (fs.length)))),(27,(.im (.int .i64 (((m+1:Nat):Int)))))] [.box [.im (.int .i64 k),.im (.int .i64 s),.im (.int .i64 c),.sl (es.map tyV) .ro,.sl (fs.map fdV) .ro]] TI ?_;exact hnext (m+1) (by omega) (by omega) (hI.succ hlt hsh)
    ·have hsh:shal fs[m] (n-1)=false:=by simpa using hsh
     refine goG jF hsh ?_;refine wG jF hm1 ?_;rw[qY,nR hlt hsh];simp only[Bool.and_false];exact aD
   ·have hall2:=hI.done (by omega)
    have hlt': ¬(m:Int)<(fs.length:Int):=by omega
    clear hnext hI hm hlt;refine wG jF hlt' ?_;rw[qY,hall1,hall2];have:decide (1≤n)=true:=by simp;omega
    rw[this];simp only[Bool.and_self];exact aD
theorem FG(a b:Int):(if b<a then b else a)=min a b:=by omega
theorem RV(a b:Int):(if b>a then b else a)=max a b:=by omega
def ends(fs:List Ty)(m:Nat):Int:=((fs.take m).map fun f=>f.off+siz f).foldl max 0
theorem Zg{fs:List Ty}{m:Nat}(h:m<fs.length):ends fs (m+1)=max (ends fs m) (fs[m].off+siz fs[m]):=by
 unfold ends
 rw[List.take_succ_eq_append_getElem h,List.map_append,List.foldl_append]
 rfl
theorem GO(fs:List Ty):ends fs fs.length=(fs.map fun f=>f.off+siz f).foldl max 0:=by
 unfold ends
 rw[List.take_length]
def kJ:=A16 @tY @cN @vJ @sL @iK @qQ @sI @sH @sF @lZ @qM @vB @vA @nM @jU (A5 @oH @cM @uW @nG @iI)
set_option maxHeartbeats 400000 in
theorem TG: ∀(t:Ty),fit t→frm t=true→PC Tryz.prog 212 [tyV t] (.im (.int .i64 (siz t))):=by
 refine Ty.induct fun o k s c es fs hE hF=> ?_
 intro hfit hfrm
 obtain⟨hl1,hl2,hfE,hfF⟩:=nU hfit
 obtain⟨hb,hof,hfs,hes⟩:=rC hfrm
 refine PC.enter 45 Tryz.func212 rfl (by decide) rfl rfl (s:=[(0,tyV (.mk o k s c es fs))]) (by rfl) ?_
 simp only[eP]
 rw[Cz]
 rcases oB hb with h1|h1|h1|h1|h1
 ·obtain⟨h1,rfl,rfl,_,_⟩:=h1
  rcases h1 with rfl|rfl
  all_goals
   refine wG kJ TI ?_;exact aD
 ·obtain⟨h1,h2,rfl,_,_⟩:=h1
  have e:min s 65537=s:=by omega
  have hs: ¬(65537:Int)<s:=by omega
  rcases h1 with rfl|rfl
  ·refine wG kJ hs ?_
   simp only[Int.reduceBEq,Bool.true_or,Bool.or_true,if_true,e];exact aD
  ·refine wG kJ hs ?_
   simp only[Int.reduceBEq,Bool.true_or,Bool.or_true,if_true,e];exact aD
 ·obtain⟨rfl,rfl,rfl,_,_⟩:=h1
  refine wG kJ TI ?_;exact aD
 ·obtain⟨rfl,rfl,h2,h3,h4,_⟩:=h1
  obtain⟨x,rfl⟩:=List.length_eq_one_iff.1 h4;have hc:=hE x (by simp) (hfE x (by simp)) (hes x (by simp))
  have hx0:=Cy x (hes x (by simp))
  have hx1:=DH x
  have hw:IntKind.i64.wrap (c*siz x)=c*siz x:=dL (by
   have h5:0≤c*siz x:=Int.mul_nonneg (by omega) hx0
   have h6:c*siz x≤65536*65537:=Int.mul_le_mul h3 hx1 hx0 (by omega)
   omega)
  refine wdG kJ BN03 ?_;refine AR.callP hc @cF TI ?_;refine goG kJ hw ?_;refine wdG kJ (AI hw FG) ?_;simp only[Int.reduceBEq,Bool.or_self,Bool.false_eq_true,if_false,if_true,List.map_cons,List.headD_cons];exact aD
 ·obtain⟨rfl,rfl,rfl,_⟩:=h1
  have hoff: ∀i,(hi:i<fs.length)→0≤fs[i].off∧fs[i].off<65536:=fun i hi=>LR hi (hof i hi)
  refine wdG kJ BN03 ?_;refine aW ?_;refine ALp.cutP 1 [(0,.ag [.im (.int .i64 5),.im (.int .i64 0),.im (.int .i64 0),.sl (es.map tyV) .ro,.sl (fs.map fdV) .ro]),(1,.pt 0 0),(2,(.im (.int .i64 (0)))),(3,(.im (.int .i64 (ends fs (0))))),(28,.sl (fs.map fdV) .ro),(29,(.im (.int .i64 (fs.length)))),(30,(.im (.int .i64 (((0:Nat):Int)))))] [.box [.im (.int .i64 5),.im (.int .i64 0),.im (.int .i64 0),.sl (es.map tyV) .ro,.sl (fs.map fdV) .ro]] TI ?_;refine ALp.upto fs.length (fun _=>True) (fun m=>⟨dn 45 [(0,.ag [.im (.int .i64 5),.im (.int .i64 0),.im (.int .i64 0),.sl (es.map tyV) .ro,.sl (fs.map fdV) .ro]),(1,.pt 0 0),(2,(.im (.int .i64 (0)))),(3,(.im (.int .i64 (ends fs (m))))),(28,.sl (fs.map fdV) .ro),(29,(.im (.int .i64 (fs.length)))),(30,(.im (.int .i64 (((m:Nat):Int)))))],ofl [.box [.im (.int .i64 5),.im (.int .i64 0),.im (.int .i64 0),.sl (es.map tyV) .ro,.sl (fs.map fdV) .ro]]⟩) ?_ 0 (Nat.zero_le _) trivial
  intro m hm _ hnext
  by_cases hlt:m<fs.length
  ·have hlt':(m:Int)<(fs.length:Int):=by omega
   have hg:=bJ hlt;have hm1:=aT hlt (by omega)
   have hc:=hF fs[m] (List.getElem_mem hlt) (hfF _ (List.getElem_mem hlt)) (hfs _ (List.getElem_mem hlt));have ho:=hoff m hlt;have hx0:=Cy fs[m] (hfs _ (List.getElem_mem hlt));have hx1:=DH fs[m];have hw:IntKind.i64.wrap (fs[m].off+siz fs[m])=fs[m].off+siz fs[m]:=dL (by omega)
   have he:=(Zg hlt).symm;refine wdG kJ (A16 @eI @eL @dG @dI @eG @eF @eH @dH @dT @dS @eK @dJ @List.getElem?_map.{0,0} @Int.natCast_nonneg hlt' (AI hg hm1)) ?_;refine AR.callP hc @cF TI ?_;refine goG kJ (A3 hw RV he) ?_;refine wdG kJ hm1 ?_;refine ALp.cutP 1 [(0,.ag [.im (.int .i64 5),.im (.int .i64 0),.im (.int .i64 0),.sl (es.map tyV) .ro,.sl (fs.map fdV) .ro]),(1,.pt 0 0),(2,(.im (.int .i64 (0)))),(3,(.im (.int .i64 (ends fs (m+1))))),(28,.sl (fs.map fdV) .ro),(29,(.im (.int .i64 (fs.length)))),(30,(.im (.int .i64 (((m+1:Nat):Int)))))] [.box [.im (.int .i64 5),.im (.int .i64 0),.im (.int .i64 0),.sl (es.map tyV) .ro,.sl (fs.map fdV) .ro]] TI ?_;exact hnext (m+1) (by omega) (by omega) trivial
  ·obtain rfl:m=fs.length:=by omega
   have hlt': ¬(fs.length:Int)<(fs.length:Int):=by omega
   clear hnext;refine wdG kJ (AI hlt' FG) ?_;simp only[Int.reduceBEq,Bool.or_self,Bool.false_eq_true,if_false,if_true,←GO];exact aD
end Go.Proofs.YtmbmmckagcdapaaGreatDoor
namespace Go.Proofs.YtmbmmckagcdapaaGreatDoor
open Go.RowKit Go.Lib
def Cf.newTip(C:Cf)(e:TypeId)(z:Nat)(cs:Array Value):Cf:=⟨fun i=>if i=0 then some C.w.heap.size else C.σ i,ofl [.tip e z 0],C.av,C.w.drew.alloc (.cells cs e)⟩
theorem kU{e:TypeId}{z i:Nat}(h:ofl [.tip e z 0] i≠ .free):i=0:=by
 cases i with
 | zero=>rfl
 | succ i=>exact absurd (by simp[ofl,List.getD]) h
theorem Dt{C:Cf}{e:TypeId}{z:Nat}{cs:Array Value}{b:Nat}(hb:b<C.w.heap.size):(C.newTip e z cs).w.heap[b]? =C.w.heap[b]? :=by
 show(C.w.drew.heap.push _)[b]? =_
 rw[Array.getElem?_push]
 have:b≠C.w.drew.heap.size:=Nat.ne_of_lt hb
 rw[if_neg this]
 rfl
theorem Ev.newTip{C:Cf}{e:TypeId}{z:Nat}{cs:Array Value}(hst:C.st=stF):Ev C (C.newTip e z cs)where
 os:=rfl
 tape:=rfl
 output:=rfl
 size:=by show C.w.heap.size≤(C.w.drew.heap.push _).size;rw[Array.size_push];exact Nat.le_succ _
 av:=rfl
 rd:=fun a v h=>by
  have hb:a.block<C.w.heap.size:=by
   have h1:=h.1;refine Nat.lt_of_not_le fun hle=> ?_
   have:C.w.heap[a.block]? =none:=Array.getElem?_eq_none hle;simp[World.cell?,this]at h1
  refine⟨?_,h.2.1,fun i hi=> ?_⟩
  ·rw[←h.1]
   exact World.cell?_of_block (w:=C.w) (Dt hb)
  ·by_cases h0:i=0
   ·subst h0
    have:C.w.heap.size=a.block:=Option.some.inj hi;omega
   ·exact .inl (Classical.byContradiction fun hn=>h0 (kU hn))
 box:=fun i cs hb=>by rw[hst]at hb;cases hb
 tip:=fun i e z n hb=>by rw[hst]at hb;cases hb
 itr:=fun i s p hb=>by rw[hst]at hb;cases hb
 keep:=fun b hb _=>Dt hb
 shp:=fun i cs g bs t hb=>by rw[hst]at hb;cases hb
 fresh:=fun i b hi hs=>by
  obtain rfl:=kU hi;have:C.w.heap.size=b:=Option.some.inj hs;exact .inr (Nat.le_of_eq this)
theorem Ok.newTip{C:Cf}{e:TypeId}{z:Nat}{cs:Array Value}(hC:Ok C)(hst:C.st=stF):Ok (C.newTip e z cs)where
 box:=fun i cs' hb=>by
  have h0:i=0:=kU (e:=e) (z:=z) (by show(C.newTip e z cs).st i≠_;rw[hb];simp)
  subst h0;cases hb
 tip:=fun i e' z' n g hb hs=>by
  have h0:i=0:=kU (e:=e) (z:=z) (by show(C.newTip e z cs).st i≠_;rw[hb];simp)
  subst h0;cases hb
  have:C.w.heap.size=g:=Option.some.inj hs;subst this;refine⟨cs,?_,by omega,fun o ho=> ?_⟩
  ·show(C.w.drew.heap.push _)[C.w.heap.size]? =_
   rw[Array.getElem?_push];exact if_pos rfl
  ·exact absurd (hC.avl _ o ho) (Nat.lt_irrefl _)
 iter:=fun i s p hb=>by
  have h0:i=0:=kU (e:=e) (z:=z) (by show(C.newTip e z cs).st i≠_;rw[hb];simp)
  subst h0;cases hb
 inj:=fun i j g hi hj _ _=>(kU hi).trans (kU hj).symm
 avl:=fun b o h=>by
  have:=hC.avl b o h;show b<(C.w.drew.heap.push _).size
  rw[Array.size_push];exact Nat.lt_succ_of_lt this
 bav:=fun i cs' g o hb=>by
  have h0:i=0:=kU (e:=e) (z:=z) (by show(C.newTip e z cs).st i≠_;rw[hb];simp)
  subst h0;cases hb
 gl:=hC.gl.mono (Ev.newTip hst)
theorem xN{P:Program}{f:FuncId}{e:TypeId}{z:Nat}{xs:List V}(hf:zJ P f=true)(hz:0<z)
  (h: ∀(C:Cf) (vs:Array Value),C.st=stF→Ok C→vs.size=xs.length→(∀i (h:i<xs.length),R C xs[i] (vs.getD i undef)) →
   ∃(cap:Nat) (cs:Array Value),cap≤maxLen∧cs.size=cap*z∧Calls P f vs C.w fun e' w'=>e'= .returned (.slice (some ⟨C.w.heap.size,0,none⟩) 0 cap)∧w'=C.w.drew.alloc (.cells cs e)) :
  DC P f xs [.free] (.sl [] (.own 0)) [.tip e z 0]:=by
 refine⟨hf,fun C vs hst hC hl hR=> ?_⟩
 have hst':C.st=stF:=by
  rw[hst];funext i;unfold ofl stF;cases i with
  | zero=>rfl
  | succ i=>simp[List.getD]
 obtain⟨cap,cs,hcap,hcs,hc⟩:=h C vs hst' hC hl hR
 refine hc.mono ?_
 rintro e' w' ⟨rfl,rfl⟩
 refine⟨_,_,_,rfl,⟨rfl,rfl⟩,C.newTip e z cs,rfl,rfl,Ok.newTip hC hst',Ev.newTip hst',?_⟩
 ·refine .sl (z:=z) (u:=fun _=>undef) (Nat.zero_le _) hcap (fun i hi=>absurd hi (Nat.not_lt_zero _)) (fun i hi=>absurd hi (Nat.not_lt_zero _)) (fun i hi=>absurd hi (Nat.not_lt_zero _))
   ⟨e,0,rfl,Nat.le_refl _,fun _=> .inr ⟨_,cs,rfl,rfl,?_,hcs⟩⟩
  show(C.w.drew.heap.push _)[C.w.heap.size]? =_
  rw[Array.getElem?_push];exact if_pos rfl
theorem Yr(n:Nat)(h0:0<n)(hb:n≤4194304*4)(w:World): ∃(cap:Nat) (cs:Array Value),cap≤maxLen∧cs.size=cap*1∧Calls Tryz.prog 256 #[.slice none 0 0,.int .i64 n] w fun e w'=>e= .returned (.slice (some ⟨w.heap.size,0,none⟩) 0 cap)∧w'=w.drew.alloc (.cells cs 35):=by
 obtain⟨i0,hi,hz0,hz1,hz2⟩:=info_parts (show(Tryz.prog.info? 35).map (fun i=>(i.zero,i.size,i.bytes))=some (some (.slice none 0 0),1,24) by kernel_rfl)
 have h1: ¬((n:Int)<0):=by omega
 have h4:(n:Int)>0:=by omega
 have hrz: ∀ty,(Builtin.append_ #[163,3] ty #[.slice none 0 0,.int .i64 n]).run Tryz.prog w=_:=fun ty=>run_append_nil_zeros w 163 3 ty 35 i0 _ .i64 .i64 Tryz.underlying163 Tryz.underlying3 hi hz0 n h0 (by rw[hz1];decide) (by omega) (by rw[hz2];omega)
 have hGn:n≤grownCap w n 0 35:=grownCap_ge w _ _ _
 have hG63:=grownCap_le_maxLen w n 0 35 (by unfold maxLen;omega)
 generalize grownCap w n 0 35=G at hrz hGn hG63
 refine⟨G,Builtin.zeroCells (Value.cells (.slice none 0 0)) n++Builtin.zeroCells (Value.cells (.slice none 0 0)) (G-n),hG63,?_,?_⟩
 rotate_left
 ·go_enter Tryz.func256,Tryz.ntmps256
  go_wp2_with (at_builtin;refine Lib.wpList_append_run _ rfl _ _ _ _ rfl _ _ rfl rfl _ _ (hrz _) ?_)
  all_goals (go_ret;exact⟨rfl,rfl⟩)
 ·simp[Builtin.zeroCells,Value.cells];omega
theorem NE(n:Nat)(h0:0<n)(hb:n≤4194304*4):DC Tryz.prog 256 [.sl [] .nl,.im (.int .i64 n)] [.free] (.sl [] (.own 0)) [.tip 35 1 0]:=by
 refine xN (by kernel_rfl) (by decide) fun C vs _ _ hl hR=> ?_
 obtain⟨v0,v1,rfl⟩: ∃v0 v1,vs= #[v0,v1]:=Go.Joins.array2 hl
 have h1:=hR 0 (by simp)
 have h2:=hR 1 (by simp)
 obtain rfl:v0= .slice none 0 0:=by
  have h1:R C (.sl [] .nl) v0:=h1;cases h1 with
  | sl _ _ _ _ _ hk=>obtain⟨rfl,rfl⟩:=hk;rfl
 obtain rfl:v1= .int .i64 n:=by
  have h2:R C (.im (.int .i64 n)) v1:=h2;cases h2 with
  | im=>rfl
 exact Yr n h0 hb C.w
theorem HT:PC Tryz.prog 256 [.sl [] .nl,.im (.int .i64 0)] (.sl [] .nl):=by
 refine⟨by kernel_rfl,fun C vs hst hC hl hR=> ?_⟩
 obtain⟨v0,v1,rfl⟩: ∃v0 v1,vs= #[v0,v1]:=Go.Joins.array2 hl
 have h1:=hR 0 (by simp)
 have h2:=hR 1 (by simp)
 obtain rfl:v0= .slice none 0 0:=by
  have h1:R C (.sl [] .nl) v0:=h1;cases h1 with
  | sl _ _ _ _ _ hk=>obtain⟨rfl,rfl⟩:=hk;rfl
 obtain rfl:v1= .int .i64 0:=by
  have h2:R C (.im (.int .i64 0)) v1:=h2;cases h2 with
  | im=>rfl
 have hc:Calls Tryz.prog 256 #[.slice none 0 0,.int .i64 0] C.w fun e w'=>e= .returned (.slice none 0 0)∧w'=C.w:=by
  go_enter Tryz.func256,Tryz.ntmps256
  go_wp2
  go_ret
  exact⟨rfl,rfl⟩
 refine hc.mono ?_
 rintro e' w' ⟨rfl,rfl⟩
 exact⟨_,_,_,rfl,⟨rfl,rfl⟩,C,rfl,hst,hC,Ev.refl C,h1⟩
theorem Yq(n:Nat)(h0:0<n)(hb:n≤4194304*4)(w:World): ∃(cap:Nat) (cs:Array Value),cap≤maxLen∧cs.size=cap*6∧Calls Tryz.prog 162 #[.slice none 0 0,.int .i64 n] w fun e w'=>e= .returned (.slice (some ⟨w.heap.size,0,none⟩) 0 cap)∧w'=w.drew.alloc (.cells cs 96):=by
 obtain⟨i0,hi,hz0,hz1,hz2⟩:=info_parts (show(Tryz.prog.info? 96).map (fun i=>(i.zero,i.size,i.bytes))=some (some (.agg #[.string .empty,.int .i64 0,.int .i64 0,.int .i64 0,.slice none 0 0,.slice none 0 0]),6,88) by kernel_rfl)
 have h1: ¬((n:Int)<0):=by omega
 have h4:(n:Int)>0:=by omega
 have hrz: ∀ty,(Builtin.append_ #[23,3] ty #[.slice none 0 0,.int .i64 n]).run Tryz.prog w=_:=fun ty=>run_append_nil_zeros w 23 3 ty 96 i0 _ .i64 .i64 Tryz.underlying23 Tryz.underlying3 hi hz0 n h0 (by rw[hz1];decide) (by omega) (by rw[hz2];omega)
 have hGn:n≤grownCap w n 0 96:=grownCap_ge w _ _ _
 have hG63:=grownCap_le_maxLen w n 0 96 (by unfold maxLen;omega)
 generalize grownCap w n 0 96=G at hrz hGn hG63
 refine⟨G,Builtin.zeroCells (Value.cells (.agg #[.string .empty,.int .i64 0,.int .i64 0,.int .i64 0,.slice none 0 0,.slice none 0 0])) n++Builtin.zeroCells (Value.cells (.agg #[.string .empty,.int .i64 0,.int .i64 0,.int .i64 0,.slice none 0 0,.slice none 0 0])) (G-n),hG63,?_,?_⟩
 rotate_left
 ·go_enter Tryz.func162,Tryz.ntmps162
  go_wp2_with (at_builtin;refine Lib.wpList_append_run _ rfl _ _ _ _ rfl _ _ rfl rfl _ _ (hrz _) ?_)
  all_goals (go_ret;exact⟨rfl,rfl⟩)
 ·simp[Builtin.zeroCells,Value.cells];omega
theorem NC(n:Nat)(h0:0<n)(hb:n≤4194304*4):DC Tryz.prog 162 [.sl [] .nl,.im (.int .i64 n)] [.free] (.sl [] (.own 0)) [.tip 96 6 0]:=by
 refine xN (by kernel_rfl) (by decide) fun C vs _ _ hl hR=> ?_
 obtain⟨v0,v1,rfl⟩: ∃v0 v1,vs= #[v0,v1]:=Go.Joins.array2 hl
 have h1:=hR 0 (by simp)
 have h2:=hR 1 (by simp)
 obtain rfl:v0= .slice none 0 0:=by
  have h1:R C (.sl [] .nl) v0:=h1;cases h1 with
  | sl _ _ _ _ _ hk=>obtain⟨rfl,rfl⟩:=hk;rfl
 obtain rfl:v1= .int .i64 n:=by
  have h2:R C (.im (.int .i64 n)) v1:=h2;cases h2 with
  | im=>rfl
 exact Yq n h0 hb C.w
theorem HS:PC Tryz.prog 162 [.sl [] .nl,.im (.int .i64 0)] (.sl [] .nl):=by
 refine⟨by kernel_rfl,fun C vs hst hC hl hR=> ?_⟩
 obtain⟨v0,v1,rfl⟩: ∃v0 v1,vs= #[v0,v1]:=Go.Joins.array2 hl
 have h1:=hR 0 (by simp)
 have h2:=hR 1 (by simp)
 obtain rfl:v0= .slice none 0 0:=by
  have h1:R C (.sl [] .nl) v0:=h1;cases h1 with
  | sl _ _ _ _ _ hk=>obtain⟨rfl,rfl⟩:=hk;rfl
 obtain rfl:v1= .int .i64 0:=by
  have h2:R C (.im (.int .i64 0)) v1:=h2;cases h2 with
  | im=>rfl
 have hc:Calls Tryz.prog 162 #[.slice none 0 0,.int .i64 0] C.w fun e w'=>e= .returned (.slice none 0 0)∧w'=C.w:=by
  go_enter Tryz.func162,Tryz.ntmps162
  go_wp2
  go_ret
  exact⟨rfl,rfl⟩
 refine hc.mono ?_
 rintro e' w' ⟨rfl,rfl⟩
 exact⟨_,_,_,rfl,⟨rfl,rfl⟩,C,rfl,hst,hC,Ev.refl C,h1⟩
end Go.Proofs.YtmbmmckagcdapaaGreatDoor
