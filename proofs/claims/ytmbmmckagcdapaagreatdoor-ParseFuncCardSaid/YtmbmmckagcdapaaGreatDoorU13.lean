import Derived.Test.YtmbmmckagcdapaaGreatDoorU10
import Derived.Test.YtmbmmckagcdapaaGreatDoorU02
import Derived.Lib.AppendZeros
import Derived.Lib.SliceRun
import Derived.Lib.Walk
import Derived.Shelf.RegionOpenPlain
import Derived.Lib.SmallJoins
set_option linter.all false
namespace Go.Proofs.YtmbmmckagcdapaaGreatDoor
open Go.RowKit
mutual
def ndV:Nd→V
 | .mk k w n e l el cs=> .ag [.im (.int .i64 k),.im (.int .i64 w),.im (.string n),.sl (exL e) .ro,.sl (ndL l) .ro,.sl (ndL el) .ro,.sl (ndC cs) .ro]
def ndL:List Nd→List V
 | []=>[]
 | t::r=>ndV t::ndL r
def ndC:List (List Nd)→List V
 | []=>[]
 | c::r=> .sl (ndL c) .ro::ndC r
end
def nlV(c:List Nd):V:= .sl (c.map ndV) .ro
theorem Ot: ∀l,ndL l=l.map ndV
 | []=>by simp[ndL]
 | t::r=>by simp[ndL,Ot r]
theorem Ya: ∀l,ndC l=l.map nlV
 | []=>by simp[ndC]
 | t::r=>by simp[ndC,Ya r,Ot,nlV]
theorem fN(t:Nd):ndV t= .ag [.im (.int .i64 t.kind),.im (.int .i64 t.width),.im (.string t.name),.sl (t.e.map exV) .ro,.sl (t.l.map ndV) .ro,.sl (t.el.map ndV) .ro,.sl (t.cs.map nlV) .ro]:=by
 cases t;simp[ndV,Ot,Ya,Pa,Nd.kind,Nd.width,Nd.name,Nd.e,Nd.l,Nd.el,Nd.cs]
theorem fO(k w:Int)(n:ByteArray)(e:List Ex)(l el:List Nd)(cs:List (List Nd)):ndV (.mk k w n e l el cs)= .ag [.im (.int .i64 k),.im (.int .i64 w),.im (.string n),.sl (e.map exV) .ro,.sl (l.map ndV) .ro,.sl (el.map ndV) .ro,.sl (cs.map nlV) .ro]:=fN _
theorem wK(t:Nd):(ndV t).isAg=true:=by rw[fN];rfl
theorem tI(t:Nd):(ndV t).live=true:=by rw[fN];rfl
theorem Cb(t:Nd):(ndV t).firm=true:=by rw[fN];rfl
theorem yE(g:Bool)(t:Nd):strip g (ndV t)=ndV t:=by rw[fN];rfl
theorem tH(t:Nd):(ndV t).size=7:=by rw[fN];rfl
theorem tZ(t:Nd):(ndV t).cells=[.im (.int .i64 t.kind),.im (.int .i64 t.width),.im (.string t.name),.sl (t.e.map exV) .ro,.sl (t.l.map ndV) .ro,.sl (t.el.map ndV) .ro,.sl (t.cs.map nlV) .ro]:=by rw[fN];rfl
theorem aQ(p:Nat→Bool): ∀t:Nd,(ndV t).ids p=true:=by
 refine Nd.induct fun k w n e l el cs h1 h2 h3=> ?_
 rw[fO]
 have hc:V.idsL p (cs.map nlV)=true:=jS cs fun c hc=>by
  simp only[nlV,V.ids,Bool.and_true];exact jS c (h3 c hc)
 simp[V.ids,V.idsL,jS l h1,jS el h2,aD,hc]
theorem aG(p:Nat→Bool)(l:List Nd):V.idsL p (l.map ndV)=true:=gY (aQ p) l
theorem aV(p:Nat→Bool)(c:List Nd):(nlV c).ids p=true:=by simp only[nlV,V.ids,Bool.and_true];exact aG p c
theorem aN(p:Nat→Bool)(l:List (List Nd)):V.idsL p (l.map nlV)=true:=gY (aV p) l
theorem bC(g:Nat→Nat)(t:Nd):V.ren g (ndV t)=ndV t:=V.ren_id g _ (aQ _ t)
theorem aR(g:Nat→Nat)(l:List Nd):V.renL g (l.map ndV)=l.map ndV:=V.renL_id g _ (aG _ l)
theorem aY(g:Nat→Nat)(l:List (List Nd)):V.renL g (l.map nlV)=l.map nlV:=V.renL_id g _ (aN _ l)
theorem Bx(c:List Nd):(nlV c).live=true:=rfl
theorem Bw(c:List Nd):(nlV c).size=1:=rfl
theorem By(c:List Nd):(nlV c).isAg=false:=rfl
theorem yD(c:List Nd):(nlV c).cells=[nlV c]:=rfl
theorem Bz(c:List Nd):(nlV c).firm=true:=rfl
theorem yC(g:Bool)(c:List Nd):strip g (nlV c)=nlV c:=rfl
theorem ND:type_of%(A14 @Cb @yE @tI @tH @wK @tZ @Bz @yC @Bx @Bw @By @yD @List.getElem?_map.{0,0} @Int.natCast_nonneg) :=
 A14 @Cb @yE @tI @tH @wK @tZ @Bz @yC @Bx @Bw @By @yD @List.getElem?_map.{0,0} @Int.natCast_nonneg
def scV(s:Sec):V:= .ag [.im (.string s.name),.im (.int .u32 s.addr),.sl (s.data.map fun b=> .im (.int .u8 b.toNat)) .ro,.im (.bool s.wr),.im (.bool s.exe)]
def fnV(f:Fun):V:= .ag [.im (.string f.name),.sl (f.vars.map vaV) .ro,.sl (f.body.map ndV) .ro]
def unV(u:Un):V:= .ag [.sl (u.globals.map vaV) .ro,.sl (u.data.map scV) .ro,.sl (u.funcs.map fnV) .ro]
def Yr:Nd→Bool:=Nd.para fun t r1 r2 r3=>decide (I64 t.kind∧I64 t.width)&&decide (t.name.size≤9223372036854775807)&&decide (t.e.length≤4194304∧t.l.length≤4194304∧t.el.length≤4194304∧t.cs.length≤4194304)&&t.e.all fitEB&&t.cs.all (fun c=>decide (c.length≤4194304))&&r1.all id&&r2.all id&&r3.all (·.all id)
def fitN(t:Nd):Prop:=Yr t=true
def mF(l:List Nd):Prop:=l.length≤4194304∧ ∀t∈l,fitN t
theorem mZ{t:Nd}(h:fitN t):(I64 t.kind∧I64 t.width)∧t.name.size≤9223372036854775807∧(t.e.length≤4194304∧ ∀x∈t.e,fitE x)∧mF t.l∧mF t.el∧t.cs.length≤4194304∧ ∀c∈t.cs,mF c:=by
 obtain⟨k,w,n,e,l,el,cs⟩:=t
 have q:Yr (.mk k w n e l el cs)=_:=Nd.para_mk _ k w n e l el cs
 unfold fitN at h
 rw[q]at h
 simp only[Bool.and_eq_true,Nd.kind,Nd.width,Nd.name,Nd.e,Nd.l,Nd.el,Nd.cs,List.all_map,List.all_eq_true]at h
 obtain⟨⟨⟨⟨⟨⟨⟨h1,h2⟩,h3⟩,h4⟩,h5⟩,h6⟩,h7⟩,h8⟩:=h
 have h3:=of_decide_eq_true h3
 exact⟨of_decide_eq_true h1,of_decide_eq_true h2,⟨h3.1,h4⟩,⟨h3.2.1,h6⟩,⟨h3.2.2.1,h7⟩,h3.2.2.2,fun c hc=>⟨of_decide_eq_true (h5 c hc),fun x hx=>by
  have:=h8 c hc;simp only[Function.comp,List.all_map,List.all_eq_true]at this
  exact this x hx⟩⟩
theorem Hd(s:Sec):scV s= .ag [.im (.string s.name),.im (.int .u32 s.addr),.sl (s.data.map fun b=> .im (.int .u8 b.toNat)) .ro,.im (.bool s.wr),.im (.bool s.exe)]:=rfl
theorem Kk(v:Sec):(scV v).live=true:=rfl
theorem Kj(v:Sec):(scV v).size=5:=rfl
theorem Kl(v:Sec):(scV v).isAg=true:=rfl
theorem Km(v:Sec):(scV v).firm=true:=rfl
theorem Fa(g:Bool)(v:Sec):strip g (scV v)=scV v:=rfl
theorem Fb(s:Sec):(scV s).cells=[.im (.string s.name),.im (.int .u32 s.addr),.sl (s.data.map fun b=> .im (.int .u8 b.toNat)) .ro,.im (.bool s.wr),.im (.bool s.exe)]:=rfl
theorem gM(p:Nat→Bool)(l:List UInt8):V.idsL p (l.map fun b=>V.im (.int .u8 b.toNat))=true:=gY (fun _=>rfl) l
theorem jU(g:Nat→Nat)(l:List UInt8):V.renL g (l.map fun b=>V.im (.int .u8 b.toNat))=l.map fun b=>V.im (.int .u8 b.toNat):=V.renL_id g _ (gM _ l)
theorem cR(p:Nat→Bool)(v:Sec):(scV v).ids p=true:=by simp[scV,V.ids,V.idsL,gM]
theorem dP(p:Nat→Bool)(l:List Sec):V.idsL p (l.map scV)=true:=gY (cR p) l
theorem eZ(g:Nat→Nat)(t:Sec):V.ren g (scV t)=scV t:=V.ren_id g _ (cR _ t)
theorem lU(g:Nat→Nat)(l:List Sec):V.renL g (l.map scV)=l.map scV:=V.renL_id g _ (dP _ l)
theorem He(l:List Sec):kV 5 (l.map scV)=true:=by
 unfold kV
 rw[List.all_map]
 exact List.all_eq_true.2 fun x _=>rfl
theorem Xk(l:List Sec):yT 5 (l.map scV)=true:=by
 unfold yT
 rw[List.all_map]
 exact List.all_eq_true.2 fun x _=>rfl
theorem SCT:type_of%(A8 @Km @Fa @Kk @Kj @Kl @Fb @List.getElem?_map.{0,0} @Int.natCast_nonneg) :=
 A8 @Km @Fa @Kk @Kj @Kl @Fb @List.getElem?_map.{0,0} @Int.natCast_nonneg
theorem qG(f:Fun):fnV f= .ag [.im (.string f.name),.sl (f.vars.map vaV) .ro,.sl (f.body.map ndV) .ro]:=rfl
theorem jL(p:Nat→Bool)(f:Fun):(fnV f).ids p=true:=by simp[fnV,V.ids,V.idsL,aU,aG]
theorem iB(p:Nat→Bool)(l:List Fun):V.idsL p (l.map fnV)=true:=gY (jL p) l
theorem sY(u:Un):unV u= .ag [.sl (u.globals.map vaV) .ro,.sl (u.data.map scV) .ro,.sl (u.funcs.map fnV) .ro]:=rfl
theorem Lo(v:Fun):(fnV v).live=true:=rfl
theorem Ln(v:Fun):(fnV v).size=3:=rfl
theorem Lp(v:Fun):(fnV v).isAg=true:=rfl
theorem Lq(v:Fun):(fnV v).firm=true:=rfl
theorem Fp(g:Bool)(v:Fun):strip g (fnV v)=fnV v:=rfl
theorem Fq(f:Fun):(fnV f).cells=[.im (.string f.name),.sl (f.vars.map vaV) .ro,.sl (f.body.map ndV) .ro]:=rfl
theorem FU:type_of%(A8 @Lq @Fp @Lo @Ln @Lp @Fq @List.getElem?_map.{0,0} @Int.natCast_nonneg) :=
 A8 @Lq @Fp @Lo @Ln @Lp @Fq @List.getElem?_map.{0,0} @Int.natCast_nonneg
theorem kT(p:Nat→Bool)(u:Un):(unV u).ids p=true:=by simp[unV,V.ids,V.idsL,aU,dP,iB]
theorem uD(g:Nat→Nat)(t:Fun):V.ren g (fnV t)=fnV t:=V.ren_id g _ (jL _ t)
theorem uE(g:Nat→Nat)(l:List Fun):V.renL g (l.map fnV)=l.map fnV:=V.renL_id g _ (iB _ l)
theorem Qy(l:List Fun):kV 3 (l.map fnV)=true:=by
 unfold kV
 rw[List.all_map]
 exact List.all_eq_true.2 fun x _=>rfl
theorem vT(g:Nat→Nat)(u:Un):V.ren g (unV u)=unV u:=V.ren_id g _ (kT _ u)
theorem Wa(u:Un):(unV u).live=true:=rfl
theorem Vz(u:Un):(unV u).size=3:=rfl
theorem Wb(u:Un):(unV u).isAg=true:=rfl
theorem Si(u:Un):(unV u).cells=[.sl (u.globals.map vaV) .ro,.sl (u.data.map scV) .ro,.sl (u.funcs.map fnV) .ro]:=rfl
theorem Wc(u:Un):(unV u).firm=true:=rfl
theorem Sh(g:Bool)(u:Un):strip g (unV u)=unV u:=rfl
theorem Ep{α β:Type}(f:α→β){l:List α}{m:Nat}(h:m<l.length):(l.take m).map f++[f l[m]]=(l.take (m+1)).map f:=by
 rw[List.take_succ_eq_append_getElem h,List.map_append];rfl
def Ef:=A15 @aD @aU @aE @aX aQ aG @bT @bV @bU @bW dP cR iB jL kT
end Go.Proofs.YtmbmmckagcdapaaGreatDoor
namespace Go.Proofs.YtmbmmckagcdapaaGreatDoor
open Go.RowKit Go.Lib
def Cf.newTip(C:Cf)(e:TypeId)(z:Nat)(cs:Array Value):Cf:=⟨fun i=>if i=0 then some C.w.heap.size else C.σ i,ofl [.tip e z 0],C.av,C.w.drew.alloc (.cells cs e)⟩
theorem lQ{e:TypeId}{z i:Nat}(h:ofl [.tip e z 0] i≠ .free):i=0:=by
 cases i with
 | zero=>rfl
 | succ i=>exact absurd (by simp[ofl,List.getD]) h
theorem Ca{C:Cf}{e:TypeId}{z:Nat}{cs:Array Value}{b:Nat}(hb:b<C.w.heap.size):(C.newTip e z cs).w.heap[b]? =C.w.heap[b]? :=by
 show(C.w.drew.heap.push _)[b]? =_
 rw[Array.getElem?_push]
 have:b≠C.w.drew.heap.size:=Nat.ne_of_lt hb
 rw[if_neg this]
 rfl
theorem Ev.newTip{C:Cf}{e:TypeId}{z:Nat}{cs:Array Value}(hst:C.st=stF):Ev C (C.newTip e z cs)where
 os:=rfl
 tape:=rfl
 output:=rfl
 size:=by show C.w.heap.size≤(C.w.drew.heap.push _).size;rw[Array.size_push];exact Nat.le_succ _
 av:=rfl
 rd:=fun a v h=>by
  have hb:a.block<C.w.heap.size:=by
   have h1:=h.1;refine Nat.lt_of_not_le fun hle=> ?_
   have:C.w.heap[a.block]? =none:=Array.getElem?_eq_none hle;simp[World.cell?,this]at h1
  refine⟨?_,h.2.1,fun i hi=> ?_⟩
  ·rw[←h.1]
   exact World.cell?_of_block (w:=C.w) (Ca hb)
  ·by_cases h0:i=0
   ·subst h0
    have:C.w.heap.size=a.block:=Option.some.inj hi;omega
   ·exact .inl (Classical.byContradiction fun hn=>h0 (lQ hn))
 box:=fun i cs hb=>by rw[hst]at hb;cases hb
 tip:=fun i e z n hb=>by rw[hst]at hb;cases hb
 itr:=fun i s p hb=>by rw[hst]at hb;cases hb
 keep:=fun b hb _=>Ca hb
 shp:=fun i cs g bs t hb=>by rw[hst]at hb;cases hb
 fresh:=fun i b hi hs=>by
  obtain rfl:=lQ hi;have:C.w.heap.size=b:=Option.some.inj hs;exact .inr (Nat.le_of_eq this)
theorem Ok.newTip{C:Cf}{e:TypeId}{z:Nat}{cs:Array Value}(hC:Ok C)(hst:C.st=stF):Ok (C.newTip e z cs)where
 box:=fun i cs' hb=>by
  have h0:i=0:=lQ (e:=e) (z:=z) (by show(C.newTip e z cs).st i≠_;rw[hb];simp)
  subst h0;cases hb
 tip:=fun i e' z' n g hb hs=>by
  have h0:i=0:=lQ (e:=e) (z:=z) (by show(C.newTip e z cs).st i≠_;rw[hb];simp)
  subst h0;cases hb
  have:C.w.heap.size=g:=Option.some.inj hs;subst this;refine⟨cs,?_,by omega,fun o ho=> ?_⟩
  ·show(C.w.drew.heap.push _)[C.w.heap.size]? =_
   rw[Array.getElem?_push];exact if_pos rfl
  ·exact absurd (hC.avl _ o ho) (Nat.lt_irrefl _)
 iter:=fun i s p hb=>by
  have h0:i=0:=lQ (e:=e) (z:=z) (by show(C.newTip e z cs).st i≠_;rw[hb];simp)
  subst h0;cases hb
 inj:=fun i j g hi hj _ _=>(lQ hi).trans (lQ hj).symm
 avl:=fun b o h=>by
  have:=hC.avl b o h;show b<(C.w.drew.heap.push _).size
  rw[Array.size_push];exact Nat.lt_succ_of_lt this
 bav:=fun i cs' g o hb=>by
  have h0:i=0:=lQ (e:=e) (z:=z) (by show(C.newTip e z cs).st i≠_;rw[hb];simp)
  subst h0;cases hb
 gl:=hC.gl.mono (Ev.newTip hst)
theorem wM{P:Program}{f:FuncId}{e:TypeId}{z:Nat}{xs:List V}(hf:yG P f=true)(hz:0<z)
  (h: ∀(C:Cf) (vs:Array Value),C.st=stF→Ok C→vs.size=xs.length→(∀i (h:i<xs.length),R C xs[i] (vs.getD i undef)) →
   ∃(cap:Nat) (cs:Array Value),cap≤maxLen∧cs.size=cap*z∧Calls P f vs C.w fun e' w'=>e'= .returned (.slice (some ⟨C.w.heap.size,0,none⟩) 0 cap)∧w'=C.w.drew.alloc (.cells cs e)) :
  DC P f xs [.free] (.sl [] (.own 0)) [.tip e z 0]:=by
 refine⟨hf,fun C vs hst hC hl hR=> ?_⟩
 have hst':C.st=stF:=by
  rw[hst];funext i;unfold ofl stF;cases i with
  | zero=>rfl
  | succ i=>simp[List.getD]
 obtain⟨cap,cs,hcap,hcs,hc⟩:=h C vs hst' hC hl hR
 refine hc.mono ?_
 rintro e' w' ⟨rfl,rfl⟩
 refine⟨_,_,_,rfl,⟨rfl,rfl⟩,C.newTip e z cs,rfl,rfl,Ok.newTip hC hst',Ev.newTip hst',?_⟩
 ·refine .sl (z:=z) (u:=fun _=>undef) (Nat.zero_le _) hcap (fun i hi=>absurd hi (Nat.not_lt_zero _)) (fun i hi=>absurd hi (Nat.not_lt_zero _)) (fun i hi=>absurd hi (Nat.not_lt_zero _))
   ⟨e,0,rfl,Nat.le_refl _,fun _=> .inr ⟨_,cs,rfl,rfl,?_,hcs⟩⟩
  show(C.w.drew.heap.push _)[C.w.heap.size]? =_
  rw[Array.getElem?_push];exact if_pos rfl
theorem Tz(n:Nat)(h0:0<n)(hb:n≤4194304*4)(w:World): ∃(cap:Nat) (cs:Array Value),cap≤maxLen∧cs.size=cap*1∧Calls Tryz.prog 256 #[.slice none 0 0,.int .i64 n] w fun e w'=>e= .returned (.slice (some ⟨w.heap.size,0,none⟩) 0 cap)∧w'=w.drew.alloc (.cells cs 35):=by
 obtain⟨i0,hi,hz0,hz1,hz2⟩:=info_parts (show(Tryz.prog.info? 35).map (fun i=>(i.zero,i.size,i.bytes))=some (some (.slice none 0 0),1,24) by kernel_rfl)
 have h1: ¬((n:Int)<0):=by omega
 have h4:(n:Int)>0:=by omega
 have hrz: ∀ty,(Builtin.append_ #[163,3] ty #[.slice none 0 0,.int .i64 n]).run Tryz.prog w=_:=fun ty=>run_append_nil_zeros w 163 3 ty 35 i0 _ .i64 .i64 Tryz.underlying163 Tryz.underlying3 hi hz0 n h0 (by rw[hz1];decide) (by omega) (by rw[hz2];omega)
 have hGn:n≤grownCap w n 0 35:=grownCap_ge w _ _ _
 have hG63:=grownCap_le_maxLen w n 0 35 (by unfold maxLen;omega)
 generalize grownCap w n 0 35=G at hrz hGn hG63
 refine⟨G,Builtin.zeroCells (Value.cells (.slice none 0 0)) n++Builtin.zeroCells (Value.cells (.slice none 0 0)) (G-n),hG63,?_,?_⟩
 rotate_left
 ·go_enter Tryz.func256,Tryz.ntmps256
  go_wp2_with (at_builtin;refine Lib.wpList_append_run _ rfl _ _ _ _ rfl _ _ rfl rfl _ _ (hrz _) ?_)
  all_goals (go_ret;exact⟨rfl,rfl⟩)
 ·simp[Builtin.zeroCells,Value.cells];omega
theorem EV(n:Nat)(h0:0<n)(hb:n≤4194304*4):DC Tryz.prog 256 [.sl [] .nl,.im (.int .i64 n)] [.free] (.sl [] (.own 0)) [.tip 35 1 0]:=by
 refine wM (by kernel_rfl) (by decide) fun C vs _ _ hl hR=> ?_
 obtain⟨v0,v1,rfl⟩: ∃v0 v1,vs= #[v0,v1]:=Go.Joins.array2 hl
 have h1:=hR 0 (by simp)
 have h2:=hR 1 (by simp)
 obtain rfl:v0= .slice none 0 0:=by
  have h1:R C (.sl [] .nl) v0:=h1;cases h1 with
  | sl _ _ _ _ _ hk=>obtain⟨rfl,rfl⟩:=hk;rfl
 obtain rfl:v1= .int .i64 n:=by
  have h2:R C (.im (.int .i64 n)) v1:=h2;cases h2 with
  | im=>rfl
 exact Tz n h0 hb C.w
theorem AJ:PC Tryz.prog 256 [.sl [] .nl,.im (.int .i64 0)] (.sl [] .nl):=by
 refine⟨by kernel_rfl,fun C vs hst hC hl hR=> ?_⟩
 obtain⟨v0,v1,rfl⟩: ∃v0 v1,vs= #[v0,v1]:=Go.Joins.array2 hl
 have h1:=hR 0 (by simp)
 have h2:=hR 1 (by simp)
 obtain rfl:v0= .slice none 0 0:=by
  have h1:R C (.sl [] .nl) v0:=h1;cases h1 with
  | sl _ _ _ _ _ hk=>obtain⟨rfl,rfl⟩:=hk;rfl
 obtain rfl:v1= .int .i64 0:=by
  have h2:R C (.im (.int .i64 0)) v1:=h2;cases h2 with
  | im=>rfl
 have hc:Calls Tryz.prog 256 #[.slice none 0 0,.int .i64 0] C.w fun e w'=>e= .returned (.slice none 0 0)∧w'=C.w:=by
  go_enter Tryz.func256,Tryz.ntmps256
  go_wp2
  go_ret
  exact⟨rfl,rfl⟩
 refine hc.mono ?_
 rintro e' w' ⟨rfl,rfl⟩
 exact⟨_,_,_,rfl,⟨rfl,rfl⟩,C,rfl,hst,hC,Ev.refl C,h1⟩
theorem Tx(n:Nat)(h0:0<n)(hb:n≤4194304*4)(w:World): ∃(cap:Nat) (cs:Array Value),cap≤maxLen∧cs.size=cap*6∧Calls Tryz.prog 162 #[.slice none 0 0,.int .i64 n] w fun e w'=>e= .returned (.slice (some ⟨w.heap.size,0,none⟩) 0 cap)∧w'=w.drew.alloc (.cells cs 96):=by
 obtain⟨i0,hi,hz0,hz1,hz2⟩:=info_parts (show(Tryz.prog.info? 96).map (fun i=>(i.zero,i.size,i.bytes))=some (some (.agg #[.string .empty,.int .i64 0,.int .i64 0,.int .i64 0,.slice none 0 0,.slice none 0 0]),6,88) by kernel_rfl)
 have h1: ¬((n:Int)<0):=by omega
 have h4:(n:Int)>0:=by omega
 have hrz: ∀ty,(Builtin.append_ #[23,3] ty #[.slice none 0 0,.int .i64 n]).run Tryz.prog w=_:=fun ty=>run_append_nil_zeros w 23 3 ty 96 i0 _ .i64 .i64 Tryz.underlying23 Tryz.underlying3 hi hz0 n h0 (by rw[hz1];decide) (by omega) (by rw[hz2];omega)
 have hGn:n≤grownCap w n 0 96:=grownCap_ge w _ _ _
 have hG63:=grownCap_le_maxLen w n 0 96 (by unfold maxLen;omega)
 generalize grownCap w n 0 96=G at hrz hGn hG63
 refine⟨G,Builtin.zeroCells (Value.cells (.agg #[.string .empty,.int .i64 0,.int .i64 0,.int .i64 0,.slice none 0 0,.slice none 0 0])) n++Builtin.zeroCells (Value.cells (.agg #[.string .empty,.int .i64 0,.int .i64 0,.int .i64 0,.slice none 0 0,.slice none 0 0])) (G-n),hG63,?_,?_⟩
 rotate_left
 ·go_enter Tryz.func162,Tryz.ntmps162
  go_wp2_with (at_builtin;refine Lib.wpList_append_run _ rfl _ _ _ _ rfl _ _ rfl rfl _ _ (hrz _) ?_)
  all_goals (go_ret;exact⟨rfl,rfl⟩)
 ·simp[Builtin.zeroCells,Value.cells];omega
theorem EU(n:Nat)(h0:0<n)(hb:n≤4194304*4):DC Tryz.prog 162 [.sl [] .nl,.im (.int .i64 n)] [.free] (.sl [] (.own 0)) [.tip 96 6 0]:=by
 refine wM (by kernel_rfl) (by decide) fun C vs _ _ hl hR=> ?_
 obtain⟨v0,v1,rfl⟩: ∃v0 v1,vs= #[v0,v1]:=Go.Joins.array2 hl
 have h1:=hR 0 (by simp)
 have h2:=hR 1 (by simp)
 obtain rfl:v0= .slice none 0 0:=by
  have h1:R C (.sl [] .nl) v0:=h1;cases h1 with
  | sl _ _ _ _ _ hk=>obtain⟨rfl,rfl⟩:=hk;rfl
 obtain rfl:v1= .int .i64 n:=by
  have h2:R C (.im (.int .i64 n)) v1:=h2;cases h2 with
  | im=>rfl
 exact Tx n h0 hb C.w
theorem AH:PC Tryz.prog 162 [.sl [] .nl,.im (.int .i64 0)] (.sl [] .nl):=by
 refine⟨by kernel_rfl,fun C vs hst hC hl hR=> ?_⟩
 obtain⟨v0,v1,rfl⟩: ∃v0 v1,vs= #[v0,v1]:=Go.Joins.array2 hl
 have h1:=hR 0 (by simp)
 have h2:=hR 1 (by simp)
 obtain rfl:v0= .slice none 0 0:=by
  have h1:R C (.sl [] .nl) v0:=h1;cases h1 with
  | sl _ _ _ _ _ hk=>obtain⟨rfl,rfl⟩:=hk;rfl
 obtain rfl:v1= .int .i64 0:=by
  have h2:R C (.im (.int .i64 0)) v1:=h2;cases h2 with
  | im=>rfl
 have hc:Calls Tryz.prog 162 #[.slice none 0 0,.int .i64 0] C.w fun e w'=>e= .returned (.slice none 0 0)∧w'=C.w:=by
  go_enter Tryz.func162,Tryz.ntmps162
  go_wp2
  go_ret
  exact⟨rfl,rfl⟩
 refine hc.mono ?_
 rintro e' w' ⟨rfl,rfl⟩
 exact⟨_,_,_,rfl,⟨rfl,rfl⟩,C,rfl,hst,hC,Ev.refl C,h1⟩
end Go.Proofs.YtmbmmckagcdapaaGreatDoor
namespace Go.Proofs.YtmbmmckagcdapaaGreatDoor
open Go.RowKit
theorem uF{α:Type}{l:List (List α)}{m:Nat}(h:m<l.length):(l.take m).flatten.length+l[m].length=(l.take (m+1)).flatten.length:=by
 rw[List.take_succ_eq_append_getElem h,List.flatten_append,List.length_append]
 simp
theorem Fr{α:Type}{l:List (List α)}{m:Nat}(h:m<l.length):(l.take m).flatten++l[m]=(l.take (m+1)).flatten:=by
 rw[List.take_succ_eq_append_getElem h,List.flatten_append]
 simp
theorem Af{α:Type}{l:List (List α)}(m:Nat):(l.take m).flatten.length≤l.flatten.length:=by
 have:=List.take_append_drop m l
 have h2:l.flatten.length=(l.take m).flatten.length+(l.drop m).flatten.length:=by
  rw[←List.length_append,←List.flatten_append,this]
 omega
theorem Fs{p:Nat→Bool}{l:List (List V)}(h: ∀xs∈l,V.idsL p xs=true)(m:Nat):V.idsL p (l.take m).flatten=true:=by
 refine Ho fun x hx=> ?_
 obtain⟨xs,h1,h2⟩:=List.mem_flatten.1 hx
 obtain⟨i,hi,rfl⟩:=List.getElem_of_mem h2
 exact V.idsL_get (h xs (List.mem_of_mem_take h1)) i hi
def mA:=A7 @rJ @Ar @Jd @nI @Ng @rE @kB
theorem Uy{xss:List (List V)}(hl:xss.length≤4194304)(hz: ∀xs∈xss,kV 1 xs=true)(hs: ∀p,∀xs∈xss,V.idsL p xs=true)(hn:xss.flatten.length≤16777216):PC Tryz.prog 213 [.sl (xss.map fun l=>V.sl l .ro) .ro] (.sl xss.flatten .ro):=by
 have hI: ∀p m,V.idsL p (xss.take m).flatten=true:=fun p m=>Fs (hs p) m
 have hK: ∀p,V.idsL p xss.flatten=true:=fun p=>by have:=hI p xss.length;rwa [List.take_length]at this
 have hJ: ∀p,V.idsL p (xss.map fun l=>V.sl l .ro)=true:=fun p=>jS xss fun x hx=>by simp only[V.ids,Bool.and_true];exact hs p x hx
 refine PC.enter 36 Tryz.func213 rfl (by decide) rfl rfl (s:=[(0,.sl (xss.map fun l=>V.sl l .ro) .ro)]) (by rfl) ?_
 refine wG mA @List.length_map.{0,0} ?_
 refine bH ?_
 refine ALp.cutP 0 [(0,.sl (xss.map fun l=>V.sl l .ro) .ro),(3,(.im (.int .i64 ((((xss.take (0)).flatten.length:Nat):Int))))),(9,.sl (xss.map fun l=>V.sl l .ro) .ro),(10,(.im (.int .i64 (xss.length)))),(11,(.im (.int .i64 ((((0:Nat)):Int)))))] [] (A3 hI hJ hK) ?_
 refine ALp.upto xss.length (fun _=>True) (fun m=>⟨dn 36 [(0,.sl (xss.map fun l=>V.sl l .ro) .ro),(3,(.im (.int .i64 ((((xss.take (m)).flatten.length:Nat):Int))))),(9,.sl (xss.map fun l=>V.sl l .ro) .ro),(10,(.im (.int .i64 (xss.length)))),(11,(.im (.int .i64 ((((m:Nat)):Int)))))],ofl []⟩) ?_ 0 (Nat.zero_le _) trivial
 intro m hm _ hnext
 by_cases hlt:m<xss.length
 ·have hlt':(m:Int)<(xss.length:Int):=by omega
  have hm1:=bD hlt (by omega)
  have hg:=cC hlt;have hln:=uF hlt;have hle:=Af (l:=xss) (m+1)
  have hw:IntKind.i64.wrap (((xss.take m).flatten.length:Int)+(xss[m].length:Int))=((xss.take (m+1)).flatten.length:Int):=by
   rw[cM (by omega)]
   omega
  have hneg: ¬((xss.take (m+1)).flatten.length:Int)<0:=by omega
  refine wG mA (A7 hlt' hg @List.getElem?_map.{0,0} @Int.natCast_nonneg hw hneg hm1) ?_;refine ALp.cutP 0 [(0,.sl (xss.map fun l=>V.sl l .ro) .ro),(3,(.im (.int .i64 ((((xss.take (m+1)).flatten.length:Nat):Int))))),(9,.sl (xss.map fun l=>V.sl l .ro) .ro),(10,(.im (.int .i64 (xss.length)))),(11,(.im (.int .i64 ((((m+1:Nat)):Int)))))] [] (A3 hI hJ hK) ?_
  exact hnext (m+1) (by omega) (by omega) trivial
 obtain rfl:m=xss.length:=by omega
 clear hnext
 rw[List.take_length]
 refine whG mA @Int.lt_irrefl ?_
 refine Blk'.here (Thn.n ?_)
 refine wG mA TI ?_
 by_cases h0:xss.flatten.length=0
 case' pos =>
  rw[h0];refine AR.callP AJ @Int.natCast_zero (A3 hI hJ hK) ?_;refine goG mA @List.length_map.{0,0} ?_;refine wG mA @List.length_map.{0,0} ?_;refine bH ?_;refine ALp.ghost 6 [] .nl 35 1 ?_;refine ALp.cutP 1 [(6,.sl (xss.take (0)).flatten (.own 0)),(25,.sl (xss.map fun l=>V.sl l .ro) .ro),(26,(.im (.int .i64 (xss.length)))),(27,(.im (.int .i64 ((((0:Nat)):Int)))))] [.tip 35 1 (xss.take (0)).flatten.length] (A3 hI hJ hK) ?_
 case' neg =>
  have hg:=EV xss.flatten.length (by omega) (by omega)
  refine aA [0] hg TI (A3 hI hJ hK) TI ?_;refine goG mA @List.length_map.{0,0} ?_;refine wG mA @List.length_map.{0,0} ?_;refine bH ?_;refine ALp.cutP 1 [(6,.sl (xss.take (0)).flatten (.own 0)),(25,.sl (xss.map fun l=>V.sl l .ro) .ro),(26,(.im (.int .i64 (xss.length)))),(27,(.im (.int .i64 ((((0:Nat)):Int)))))] [.tip 35 1 (xss.take (0)).flatten.length] (A3 hI hJ hK) ?_
 all_goals
  refine ALp.upto xss.length (fun _=>True) (fun m=>⟨dn 36 [(6,.sl (xss.take (m)).flatten (.own 0)),(25,.sl (xss.map fun l=>V.sl l .ro) .ro),(26,(.im (.int .i64 (xss.length)))),(27,(.im (.int .i64 ((((m:Nat)):Int)))))],ofl [.tip 35 1 (xss.take (m)).flatten.length]⟩) ?_ 0 (Nat.zero_le _) trivial
  intro m hm _ hnext
  by_cases hlt:m<xss.length
  ·have hlt':(m:Int)<(xss.length:Int):=by omega
   have hm1:=bD hlt (by omega)
   have hg:=cC hlt;have hln:=uF hlt;have hle:=Af (l:=xss) (m+1);have hsn:=Fr hlt;have hA:(xss.take (m+1)).flatten.length*24≤140737488355328:=by omega
   have hz':=hz xss[m] (List.getElem_mem hlt);refine wG mA (A9 hlt' hg @List.getElem?_map.{0,0} @Int.natCast_nonneg hA hz' hsn hln hm1) ?_;refine ALp.cutP 1 [(6,.sl (xss.take (m+1)).flatten (.own 0)),(25,.sl (xss.map fun l=>V.sl l .ro) .ro),(26,(.im (.int .i64 (xss.length)))),(27,(.im (.int .i64 ((((m+1:Nat)):Int)))))] [.tip 35 1 (xss.take (m+1)).flatten.length] (A3 hI hJ hK) ?_
   exact hnext (m+1) (by omega) (by omega) trivial
  obtain rfl:m=xss.length:=by omega
  clear hnext;rw[List.take_length];refine wG mA @Int.lt_irrefl ?_;refine aJ (rs:=[.tmp 2]) rfl (by first|exact .inl rfl|exact .inr rfl) (finG mA) ?_
  all_goals exact wkG (A3 hI hJ hK)
def oU:=A7 @oF @qB @uU @Nh @mC @mB @kQ
theorem Ux{xss:List (List V)}(hl:xss.length≤4194304)(hz: ∀xs∈xss,kV 6 xs=true)(hs: ∀p,∀xs∈xss,V.idsL p xs=true)(hn:xss.flatten.length≤16777216):PC Tryz.prog 96 [.sl (xss.map fun l=>V.sl l .ro) .ro] (.sl xss.flatten .ro):=by
 have hI: ∀p m,V.idsL p (xss.take m).flatten=true:=fun p m=>Fs (hs p) m
 have hK: ∀p,V.idsL p xss.flatten=true:=fun p=>by have:=hI p xss.length;rwa [List.take_length]at this
 have hJ: ∀p,V.idsL p (xss.map fun l=>V.sl l .ro)=true:=fun p=>jS xss fun x hx=>by simp only[V.ids,Bool.and_true];exact hs p x hx
 refine PC.enter 36 Tryz.func96 rfl (by decide) rfl rfl (s:=[(0,.sl (xss.map fun l=>V.sl l .ro) .ro)]) (by rfl) ?_
 refine wG oU @List.length_map.{0,0} ?_
 refine bH ?_
 refine ALp.cutP 0 [(0,.sl (xss.map fun l=>V.sl l .ro) .ro),(3,(.im (.int .i64 ((((xss.take (0)).flatten.length:Nat):Int))))),(9,.sl (xss.map fun l=>V.sl l .ro) .ro),(10,(.im (.int .i64 (xss.length)))),(11,(.im (.int .i64 ((((0:Nat)):Int)))))] [] (A3 hI hJ hK) ?_
 refine ALp.upto xss.length (fun _=>True) (fun m=>⟨dn 36 [(0,.sl (xss.map fun l=>V.sl l .ro) .ro),(3,(.im (.int .i64 ((((xss.take (m)).flatten.length:Nat):Int))))),(9,.sl (xss.map fun l=>V.sl l .ro) .ro),(10,(.im (.int .i64 (xss.length)))),(11,(.im (.int .i64 ((((m:Nat)):Int)))))],ofl []⟩) ?_ 0 (Nat.zero_le _) trivial
 intro m hm _ hnext
 by_cases hlt:m<xss.length
 ·have hlt':(m:Int)<(xss.length:Int):=by omega
  have hm1:=bD hlt (by omega)
  have hg:=cC hlt;have hln:=uF hlt;have hle:=Af (l:=xss) (m+1)
  have hw:IntKind.i64.wrap (((xss.take m).flatten.length:Int)+(xss[m].length:Int))=((xss.take (m+1)).flatten.length:Int):=by
   rw[cM (by omega)]
   omega
  have hneg: ¬((xss.take (m+1)).flatten.length:Int)<0:=by omega
  refine wG oU (A7 hlt' hg @List.getElem?_map.{0,0} @Int.natCast_nonneg hw hneg hm1) ?_;refine ALp.cutP 0 [(0,.sl (xss.map fun l=>V.sl l .ro) .ro),(3,(.im (.int .i64 ((((xss.take (m+1)).flatten.length:Nat):Int))))),(9,.sl (xss.map fun l=>V.sl l .ro) .ro),(10,(.im (.int .i64 (xss.length)))),(11,(.im (.int .i64 ((((m+1:Nat)):Int)))))] [] (A3 hI hJ hK) ?_
  exact hnext (m+1) (by omega) (by omega) trivial
 obtain rfl:m=xss.length:=by omega
 clear hnext
 rw[List.take_length]
 refine whG oU @Int.lt_irrefl ?_
 refine Blk'.here (Thn.n ?_)
 refine wG oU TI ?_
 by_cases h0:xss.flatten.length=0
 case' pos =>
  rw[h0];refine AR.callP AH @Int.natCast_zero (A3 hI hJ hK) ?_;refine goG oU @List.length_map.{0,0} ?_;refine wG oU @List.length_map.{0,0} ?_;refine bH ?_;refine ALp.ghost 6 [] .nl 96 6 ?_;refine ALp.cutP 1 [(6,.sl (xss.take (0)).flatten (.own 0)),(25,.sl (xss.map fun l=>V.sl l .ro) .ro),(26,(.im (.int .i64 (xss.length)))),(27,(.im (.int .i64 ((((0:Nat)):Int)))))] [.tip 96 6 (xss.take (0)).flatten.length] (A3 hI hJ hK) ?_
 case' neg =>
  have hg:=EU xss.flatten.length (by omega) (by omega)
  refine aA [0] hg TI (A3 hI hJ hK) TI ?_;refine goG oU @List.length_map.{0,0} ?_;refine wG oU @List.length_map.{0,0} ?_;refine bH ?_;refine ALp.cutP 1 [(6,.sl (xss.take (0)).flatten (.own 0)),(25,.sl (xss.map fun l=>V.sl l .ro) .ro),(26,(.im (.int .i64 (xss.length)))),(27,(.im (.int .i64 ((((0:Nat)):Int)))))] [.tip 96 6 (xss.take (0)).flatten.length] (A3 hI hJ hK) ?_
 all_goals
  refine ALp.upto xss.length (fun _=>True) (fun m=>⟨dn 36 [(6,.sl (xss.take (m)).flatten (.own 0)),(25,.sl (xss.map fun l=>V.sl l .ro) .ro),(26,(.im (.int .i64 (xss.length)))),(27,(.im (.int .i64 ((((m:Nat)):Int)))))],ofl [.tip 96 6 (xss.take (m)).flatten.length]⟩) ?_ 0 (Nat.zero_le _) trivial
  intro m hm _ hnext
  by_cases hlt:m<xss.length
  ·have hlt':(m:Int)<(xss.length:Int):=by omega
   have hm1:=bD hlt (by omega)
   have hg:=cC hlt;have hln:=uF hlt;have hle:=Af (l:=xss) (m+1);have hsn:=Fr hlt;have hA:(xss.take (m+1)).flatten.length*88≤140737488355328:=by omega
   have hz':=hz xss[m] (List.getElem_mem hlt);refine wG oU (A9 hlt' hg @List.getElem?_map.{0,0} @Int.natCast_nonneg hA hz' hsn hln hm1) ?_;refine ALp.cutP 1 [(6,.sl (xss.take (m+1)).flatten (.own 0)),(25,.sl (xss.map fun l=>V.sl l .ro) .ro),(26,(.im (.int .i64 (xss.length)))),(27,(.im (.int .i64 ((((m+1:Nat)):Int)))))] [.tip 96 6 (xss.take (m+1)).flatten.length] (A3 hI hJ hK) ?_
   exact hnext (m+1) (by omega) (by omega) trivial
  obtain rfl:m=xss.length:=by omega
  clear hnext;rw[List.take_length];refine wG oU @Int.lt_irrefl ?_;refine aJ (rs:=[.tmp 2]) rfl (by first|exact .inl rfl|exact .inr rfl) (finG oU) ?_
  all_goals exact wkG (A3 hI hJ hK)
theorem Or(c:List Nd):nlV c= .sl (c.map ndV) .ro:=rfl
theorem IF(l:List (List Nd)):kV 1 (l.map nlV)=true:=by
 unfold kV
 rw[List.all_map]
 exact List.all_eq_true.2 fun x _=>rfl
theorem Ck{t:Nd}(h:fitN t):(subs t).length≤4194306∧ ∀c∈subs t,mF c:=by
 obtain⟨_,_,_,h4,h5,h6,h7⟩:=mZ h
 refine⟨by simp[subs];omega,fun c hc=> ?_⟩
 unfold subs at hc
 rcases List.mem_cons.1 hc with rfl|hc
 ·exact h4
 ·rcases List.mem_cons.1 hc with rfl|hc
  ·exact h5
  ·exact h7 c hc
def Am:=A11 @rJ @mE @BN @Ar @nI @Ng @pE @pD @pC @rE @kB
theorem Ri(t:Nd)(ht:t.cs.length≤4194304):PC Tryz.prog 161 [ndV t] (.sl ((subs t).map nlV) .ro):=by
 obtain⟨k,w,n,e,l,el,cs⟩:=t
 have ht:cs.length≤4194304:=ht
 have h:=Uy (xss:=[[nlV l,nlV el],cs.map nlV]) (by simp) (by
  intro xs hx;simp only[List.mem_cons,List.not_mem_nil,or_false]at hx;rcases hx with rfl|rfl
  ·rfl
  ·exact IF cs) (by
  intro p xs hx;simp only[List.mem_cons,List.not_mem_nil,or_false]at hx;rcases hx with rfl|rfl
  ·simp only[V.idsL,aV,Bool.and_self]
  ·exact aN p cs) (by simp;omega)
 have e1:[[nlV l,nlV el],cs.map nlV].flatten=(subs (.mk k w n e l el cs)).map nlV:=by simp[subs,Nd.l,Nd.el,Nd.cs]
 rw[e1]at h
 simp only[List.map_cons,List.map_nil]at h
 refine PC.enter 12 Tryz.func161 rfl (by decide) rfl rfl (s:=[(0,ndV (.mk k w n e l el cs))]) (by rfl) ?_
 rw[fO]
 refine wG Am TI ?_
 refine lE h TI (A4 aQ aG aN aV) ?_
 refine goG Am TI ?_
 refine wG Am TI ?_
 refine aJ (rs:=[.tmp 2]) rfl (by first|exact .inl rfl|exact .inr rfl) (finG Am) ?_
 all_goals exact wkG (A4 aQ aG aN aV)
theorem IJ{α:Type}(f:α→Int){l:List α}{m:Nat}(h:m<l.length):(if f l[m]>mx ((l.take m).map f)then f l[m]else mx ((l.take m).map f))=mx ((l.take (m+1)).map f):=by
 rw[←Qn f h]
 split<;>omega
theorem DA{α:Type}(f:α→Int){l:List α}{m:Nat}(h:m<l.length):(if 1+f l[m]>1+mx ((l.take m).map f)then 1+f l[m]else 1+mx ((l.take m).map f))=1+mx ((l.take (m+1)).map f):=by
 rw[←Qn f h]
 split<;>omega
def qL:=A7 @iJ @mE @hG @nI @uT @gH @kB
theorem FA: ∀l:List Nd,mF l→cnt l≤4194304→PC Tryz.prog 94 [.sl (l.map ndV) .ro] (.im (.int .i64 (dep l))):=by
 refine mY fun l hl hf hc=> ?_
 have hl1:=hf.1
 show PC _ _ _ (.im (.int .i64 (mx (l.map depT))))
 refine PC.enter 33 Tryz.func94 rfl (by decide) rfl rfl (s:=[(0,.sl (l.map ndV) .ro)]) (by rfl) ?_
 refine wG qL TI ?_
 refine bH ?_
 refine ALp.cutP 0 [(3,(.im (.int .i64 (mx ((l.take (0)).map depT))))),(9,.sl (l.map ndV) .ro),(10,(.im (.int .i64 (l.length)))),(11,(.im (.int .i64 ((((0:Nat)):Int)))))] [] (A4 aQ aG aN aV) ?_
 refine ALp.upto l.length (fun _=>True) (fun m=>⟨dn 33 [(3,(.im (.int .i64 (mx ((l.take (m)).map depT))))),(9,.sl (l.map ndV) .ro),(10,(.im (.int .i64 (l.length)))),(11,(.im (.int .i64 ((((m:Nat)):Int)))))],ofl []⟩) ?_ 0 (Nat.zero_le _) trivial
 intro m hm _ hnext
 by_cases hlt:m<l.length
 ·have hlt':(m:Int)<(l.length:Int):=by omega
  have hm1:=bD hlt (by omega)
  have hg:=cC hlt;have ht:=hf.2 _ (List.getElem_mem hlt);have hx:=Ri l[m] (mZ ht).2.2.2.2.2.1;obtain⟨hs1,hs2⟩:=Ck ht;have hcs: ∀c∈subs l[m],1+cnt c≤cnt l:=fun c hc=>Rc (List.getElem_mem hlt) hc
  have hR:=fun c hc'=>hl l[m] (List.getElem_mem hlt) c hc' (hs2 c hc') (by have:=hcs c hc';omega)
  have hmx:=IJ depT hlt;rw[Rb]at hmx;generalize subs l[m]=sb at hx hs1 hs2 hcs hR hmx;refine wG qL (A3 hlt' hg ND) ?_;refine AR.callP hx fN (A4 aQ aG aN aV) ?_;refine goG qL @List.length_map.{0,0} ?_;refine wG qL @List.length_map.{0,0} ?_;refine bH ?_;refine ALp.cutP 0 [(3,(.im (.int .i64 (mx ((l.take m).map depT))))),(6,(.im (.int .i64 (1+mx ((sb.take (0)).map dep))))),(9,.sl (l.map ndV) .ro),(10,(.im (.int .i64 (l.length)))),(11,(.im (.int .i64 ((m:Int))))),(16,.sl (sb.map nlV) .ro),(17,(.im (.int .i64 (sb.length)))),(18,(.im (.int .i64 ((((0:Nat)):Int)))))] [] (A4 aQ aG aN aV) ?_;refine ALp.upto sb.length (fun _=>True) (fun j=>⟨dn 33 [(3,(.im (.int .i64 (mx ((l.take m).map depT))))),(6,(.im (.int .i64 (1+mx ((sb.take (j)).map dep))))),(9,.sl (l.map ndV) .ro),(10,(.im (.int .i64 (l.length)))),(11,(.im (.int .i64 ((m:Int))))),(16,.sl (sb.map nlV) .ro),(17,(.im (.int .i64 (sb.length)))),(18,(.im (.int .i64 ((((j:Nat)):Int)))))],ofl []⟩) ?_ 0 (Nat.zero_le _) trivial
  intro j hj _ hnext2
  by_cases hlu:j<sb.length
  ·have hlu':(j:Int)<(sb.length:Int):=by omega
   have hj1:=bD hlu (by omega)
   have hg2:=cC hlu;have hc2:=hR sb[j] (List.getElem_mem hlu);have hd0:=Pd sb[j];have hd1:=Pe sb[j];have hd2:=hcs sb[j] (List.getElem_mem hlu);have hw:IntKind.i64.wrap (1+dep sb[j])=1+dep sb[j]:=cM (by omega)
   have hmx2:=DA dep hlu;refine wG qL (A3 hlu' hg2 ND) ?_;refine AR.callP hc2 Or (A4 aQ aG aN aV) ?_;refine goG qL (AI hw hmx2) ?_;refine wG qL hj1 ?_;refine ALp.cutP 0 [(3,(.im (.int .i64 (mx ((l.take m).map depT))))),(6,(.im (.int .i64 (1+mx ((sb.take (j+1)).map dep))))),(9,.sl (l.map ndV) .ro),(10,(.im (.int .i64 (l.length)))),(11,(.im (.int .i64 ((m:Int))))),(16,.sl (sb.map nlV) .ro),(17,(.im (.int .i64 (sb.length)))),(18,(.im (.int .i64 ((((j+1:Nat)):Int)))))] [] (A4 aQ aG aN aV) ?_;exact hnext2 (j+1) (by omega) (by omega) trivial
  obtain rfl:j=sb.length:=by omega
  clear hnext2;rw[List.take_length];refine whG qL @Int.lt_irrefl ?_;refine Blk'.here (Thn.n ?_);refine wG qL (AI hmx hm1) ?_;refine ALp.cutP 0 [(3,(.im (.int .i64 (mx ((l.take (m+1)).map depT))))),(9,.sl (l.map ndV) .ro),(10,(.im (.int .i64 (l.length)))),(11,(.im (.int .i64 ((((m+1:Nat)):Int)))))] [] (A4 aQ aG aN aV) ?_;exact hnext (m+1) (by omega) (by omega) trivial
 obtain rfl:m=l.length:=by omega
 clear hnext
 rw[List.take_length]
 refine wG qL @Int.lt_irrefl ?_
 exact aM
def BN14:=A15 Cb yE tI tH wK tZ Bz yC Bx Bw By yD Or @List.getElem?_map.{0,0} @Int.natCast_nonneg
def plV(p:Nd×Bool):V:= .ag [.im (.int .i64 p.1.kind),.im (.int .i64 p.1.width),.im (.string p.1.name),.sl (p.1.e.map exV) .ro,.sl (p.1.l.map ndV) .ro,.sl (p.1.el.map ndV) .ro,.sl (p.1.cs.map nlV) .ro,.im (.bool p.2)]
theorem nL(p:Nd×Bool):plV p= .ag [.im (.int .i64 p.1.kind),.im (.int .i64 p.1.width),.im (.string p.1.name),.sl (p.1.e.map exV) .ro,.sl (p.1.l.map ndV) .ro,.sl (p.1.el.map ndV) .ro,.sl (p.1.cs.map nlV) .ro,.im (.bool p.2)]:=rfl
theorem Ks(p:Nd×Bool):(plV p).live=true:=rfl
theorem Kr(p:Nd×Bool):(plV p).size=8:=rfl
theorem Kt(p:Nd×Bool):(plV p).isAg=true:=rfl
theorem Ku(p:Nd×Bool):(plV p).firm=true:=rfl
theorem Fg(g:Bool)(p:Nd×Bool):strip g (plV p)=plV p:=rfl
theorem Fh(p:Nd×Bool):(plV p).cells=[.im (.int .i64 p.1.kind),.im (.int .i64 p.1.width),.im (.string p.1.name),.sl (p.1.e.map exV) .ro,.sl (p.1.l.map ndV) .ro,.sl (p.1.el.map ndV) .ro,.sl (p.1.cs.map nlV) .ro,.im (.bool p.2)]:=rfl
theorem kU(p:Nat→Bool)(x:Nd×Bool):(plV x).ids p=true:=by simp[plV,V.ids,V.idsL,aD,aG,aN]
theorem jW(p:Nat→Bool)(l:List (Nd×Bool)):V.idsL p (l.map plV)=true:=gY (kU p) l
theorem Xw(l:List (Nd×Bool)):kV 8 (l.map plV)=true:=by
 unfold kV
 rw[List.all_map]
 exact List.all_eq_true.2 fun x _=>rfl
theorem rQ{α β:Type}(f:α→List β){l:List α}{m:Nat}(h:m<l.length):(l.take m).flatMap f++f l[m]=(l.take (m+1)).flatMap f:=by
 rw[List.take_succ_eq_append_getElem h,List.flatMap_append]
 simp
theorem vI{α β:Type}(f:α→List β)(l:List α)(m:Nat):((l.take m).flatMap f).length≤(l.flatMap f).length:=by
 have h:l.flatMap f=(l.take m).flatMap f++(l.drop m).flatMap f:=by rw[←List.flatMap_append,List.take_append_drop]
 rw[h,List.length_append]
 omega
def oV:=A15 @iJ @cQ @mE @hG @Nl @BL @Ni @nI @uT @kH @BF @gH @Na @cN @kB
theorem MH: ∀l:List Nd,mF l→cnt l≤4194304→ ∀lp:Bool,PC Tryz.prog 95 [.sl (l.map ndV) .ro,(.im (.bool (lp)))] (.sl ((allL l lp).map plV) .ro):=by
 refine mY fun l hl hf hc lp=> ?_
 have hl1:=hf.1
 have hlen:=Ms l lp
 unfold allL at hlen ⊢
 refine PC.enter 47 Tryz.func95 rfl (by decide) rfl rfl (s:=[(0,.sl (l.map ndV) .ro),(1,(.im (.bool (lp))))]) (by rfl) ?_
 refine wG oV TI ?_
 refine bH ?_
 refine ALp.ghost 5 [] .nl 167 8 ?_
 refine ALp.cutP 1 [(1,(.im (.bool (lp)))),(5,.sl (((l.take (0)).flatMap fun t=>allT t lp).map plV) (.own 0)),(10,.sl (l.map ndV) .ro),(11,(.im (.int .i64 (l.length)))),(12,(.im (.int .i64 ((((0:Nat)):Int)))))] [.tip 167 8 ((l.take (0)).flatMap fun t=>allT t lp).length] (A7 aQ aG aN aV kU jW @aD) ?_
 refine ALp.upto l.length (fun _=>True) (fun m=>⟨dn 47 [(1,(.im (.bool (lp)))),(5,.sl (((l.take (m)).flatMap fun t=>allT t lp).map plV) (.own 0)),(10,.sl (l.map ndV) .ro),(11,(.im (.int .i64 (l.length)))),(12,(.im (.int .i64 ((((m:Nat)):Int)))))],ofl [.tip 167 8 ((l.take (m)).flatMap fun t=>allT t lp).length]⟩) ?_ 0 (Nat.zero_le _) trivial
 intro m hm _ hnext
 by_cases hlt:m<l.length
 ·have hlt':(m:Int)<(l.length:Int):=by omega
  have hm1:=bD hlt (by omega)
  have hg:=cC hlt;have ht:=hf.2 _ (List.getElem_mem hlt);have hx:=Ri l[m] (mZ ht).2.2.2.2.2.1;obtain⟨hs1,hs2⟩:=Ck ht;have hcs: ∀c∈subs l[m],1+cnt c≤cnt l:=fun c hc=>Rc (List.getElem_mem hlt) hc
  have hR:=fun c hc'=>hl l[m] (List.getElem_mem hlt) c hc' (hs2 c hc') (by have:=hcs c hc';omega) (inL l[m] lp)
  have hsn:=rQ (fun t=>allT t lp) hlt
  have hle:=vI (fun t=>allT t lp) l (m+1)
  have hle0:=vI (fun t=>allT t lp) l m
  simp only[Io l[m]]at hsn;generalize hA:(l.take m).flatMap (fun t=>allT t lp)=A at hsn hle0 ⊢
  generalize hsb:subs l[m]=sb at hx hs1 hs2 hcs hR hsn;obtain⟨Bf,hBf⟩: ∃Bf:Nat→List (Nd×Bool),∀j,Bf j=A++(l[m],lp)::(sb.take j).flatMap fun c=>allL c (inL l[m] lp):=⟨_,fun _=>rfl⟩
  have hap:A.map plV++[.ag [.im (.int .i64 l[m].kind),.im (.int .i64 l[m].width),.im (.string l[m].name),.sl (l[m].e.map exV) .ro,.sl (l[m].l.map ndV) .ro,.sl (l[m].el.map ndV) .ro,.sl (l[m].cs.map nlV) .ro,.im (.bool lp)]]=(Bf 0).map plV:=by
   rw[hBf];simp[plV]
  have hone:A.length+1=(Bf 0).length:=by rw[hBf];simp
  have hend:Bf sb.length=(l.take (m+1)).flatMap fun t=>allT t lp:=by
   rw[hBf,List.take_length,←hsn]
  have hstep: ∀j (hj:j<sb.length),Bf j++allL sb[j] (inL l[m] lp)=Bf (j+1):=fun j hj=>by
   rw[hBf,hBf,←rQ _ hj,List.append_assoc,List.cons_append]
  have hlen2: ∀j,(Bf j).length≤(Bf sb.length).length:=fun j=>by
   rw[hBf,hBf,List.length_append,List.length_append,List.length_cons,List.length_cons,List.take_length];have:=vI (fun c=>allL c (inL l[m] lp)) sb j
   omega
  rw[hend]at hlen2;have hb:(A.length+1)*136≤140737488355328:=by omega
  have hb0:(Bf 0).length*136≤140737488355328:=by have:=hlen2 0;omega
  refine wG oV (A7 hlt' hg hb hb0 hap hone ND) ?_;refine AR.callP hx fN (A7 aQ aG aN aV kU jW @aD) ?_;refine goG oV (AI @List.length_map.{0,0} ND) ?_;refine wG oV (AI @List.length_map.{0,0} ND) ?_;refine bH ?_;refine ALp.cutP 2 [(1,(.im (.bool (lp)))),(5,.sl ((Bf (0)).map plV) (.own 0)),(7,.pt 1 0),(10,.sl (l.map ndV) .ro),(11,(.im (.int .i64 (l.length)))),(12,(.im (.int .i64 ((m:Int))))),(23,.sl (sb.map nlV) .ro),(24,(.im (.int .i64 (sb.length)))),(25,(.im (.int .i64 ((((0:Nat)):Int)))))] [.tip 167 8 (Bf (0)).length,.box [.im (.int .i64 l[m].kind),.im (.int .i64 l[m].width),.im (.string l[m].name),.sl (l[m].e.map exV) .ro,.sl (l[m].l.map ndV) .ro,.sl (l[m].el.map ndV) .ro,.sl (l[m].cs.map nlV) .ro]] (A7 aQ aG aN aV kU jW @aD) ?_;refine ALp.upto sb.length (fun _=>True) (fun j=>⟨dn 47 [(1,(.im (.bool (lp)))),(5,.sl ((Bf (j)).map plV) (.own 0)),(7,.pt 1 0),(10,.sl (l.map ndV) .ro),(11,(.im (.int .i64 (l.length)))),(12,(.im (.int .i64 ((m:Int))))),(23,.sl (sb.map nlV) .ro),(24,(.im (.int .i64 (sb.length)))),(25,(.im (.int .i64 ((((j:Nat)):Int)))))],ofl [.tip 167 8 (Bf (j)).length,.box [.im (.int .i64 l[m].kind),.im (.int .i64 l[m].width),.im (.string l[m].name),.sl (l[m].e.map exV) .ro,.sl (l[m].l.map ndV) .ro,.sl (l[m].el.map ndV) .ro,.sl (l[m].cs.map nlV) .ro]]⟩) ?_ 0 (Nat.zero_le _) trivial
  intro j hj _ hnext2
  by_cases hlu:j<sb.length
  ·have hlu':(j:Int)<(sb.length:Int):=by omega
   have hj1:=bD hlu (by omega)
   have hg2:=cC hlu;have hc2:=hR sb[j] (List.getElem_mem hlu);have hs3:=congrArg (List.map plV) (hstep j hlu);rw[List.map_append]at hs3;have hs4:=congrArg List.length (hstep j hlu);rw[List.length_append]at hs4;have hb1:(Bf (j+1)).length*136≤140737488355328:=by have:=hlen2 (j+1);omega
   refine wG oV (A3 hlu' hg2 ND) ?_;have hin:inL l[m] lp=(lp||decide (l[m].kind=7)||decide (l[m].kind=8)):=rfl;refine AR.callP hc2 (AI Or hin) (A7 aQ aG aN aV kU jW @aD) ?_;refine goG oV (A5 hs3 hs4 hb1 Xw @List.length_map.{0,0}) ?_;refine wG oV hj1 ?_;refine ALp.cutP 2 [(1,(.im (.bool (lp)))),(5,.sl ((Bf (j+1)).map plV) (.own 0)),(7,.pt 1 0),(10,.sl (l.map ndV) .ro),(11,(.im (.int .i64 (l.length)))),(12,(.im (.int .i64 ((m:Int))))),(23,.sl (sb.map nlV) .ro),(24,(.im (.int .i64 (sb.length)))),(25,(.im (.int .i64 ((((j+1:Nat)):Int)))))] [.tip 167 8 (Bf (j+1)).length,.box [.im (.int .i64 l[m].kind),.im (.int .i64 l[m].width),.im (.string l[m].name),.sl (l[m].e.map exV) .ro,.sl (l[m].l.map ndV) .ro,.sl (l[m].el.map ndV) .ro,.sl (l[m].cs.map nlV) .ro]] (A7 aQ aG aN aV kU jW @aD) ?_;exact hnext2 (j+1) (by omega) (by omega) trivial
  obtain rfl:j=sb.length:=by omega
  clear hnext2;rw[hend];refine whG oV @Int.lt_irrefl ?_;refine Blk'.here (Thn.n ?_);refine wG oV hm1 ?_;refine ALp.cutP 1 [(1,(.im (.bool (lp)))),(5,.sl (((l.take (m+1)).flatMap fun t=>allT t lp).map plV) (.own 0)),(10,.sl (l.map ndV) .ro),(11,(.im (.int .i64 (l.length)))),(12,(.im (.int .i64 ((((m+1:Nat)):Int)))))] [.tip 167 8 ((l.take (m+1)).flatMap fun t=>allT t lp).length] (A7 aQ aG aN aV kU jW @aD) ?_
  exact hnext (m+1) (by omega) (by omega) trivial
 obtain rfl:m=l.length:=by omega
 clear hnext
 rw[List.take_length]
 refine wG oV @Int.lt_irrefl ?_
 refine aJ (rs:=[.tmp 4]) rfl (by first|exact .inl rfl|exact .inr rfl) (finG oV) ?_
 all_goals exact wkG (A7 aQ aG aN aV kU jW @aD)
def MO:=A7 aQ aG aN aV kU jW @aD
theorem FM{α β:Type}{p:α→β→Bool}{l:List α}{m:List β}(h:l.length≠m.length):all2 p l m=false:=by
 rw[←Bool.not_eq_true,tO]
 exact fun k=>h k.1
theorem FN{α β:Type}{p:α→β→Bool}{l:List α}{m:List β}{i:Nat}(h1:i<l.length)(h2:i<m.length)(h:p l[i] m[i]=false):all2 p l m=false:=by
 rw[←Bool.not_eq_true,tO]
 exact fun k=>by rw[k.2 i h1 h2]at h;cases h
def to2{α β:Type}(p:α→β→Bool)(l:List α)(k:List β)(m:Nat):Prop:= ∀j (h1:j<l.length) (h2:j<k.length),j<m→p l[j] k[j]=true
theorem to2.zero{α β:Type}(p:α→β→Bool)(l:List α)(k:List β):to2 p l k 0:=fun j _ _ h=>absurd h (Nat.not_lt_zero j)
theorem to2.succ{α β:Type}{p:α→β→Bool}{l:List α}{k:List β}{m:Nat}(h:to2 p l k m)(h1:m<l.length)(h2:m<k.length)(hp:p l[m] k[m]=true):to2 p l k (m+1):=fun j j1 j2 hj=>by
 rcases Nat.lt_succ_iff_lt_or_eq.1 hj with hj|rfl
 ·exact h j j1 j2 hj
 ·exact hp
theorem to2.all{α β:Type}{p:α→β→Bool}{l:List α}{k:List β}(h:to2 p l k l.length)(he:l.length=k.length):all2 p l k=true:=tO.2 ⟨he,fun j j1 j2=>h j j1 j2 j1⟩
end Go.Proofs.YtmbmmckagcdapaaGreatDoor
