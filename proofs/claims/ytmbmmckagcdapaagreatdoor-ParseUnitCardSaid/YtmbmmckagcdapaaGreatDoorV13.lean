import Derived.Test.YtmbmmckagcdapaaGreatDoorV10
import Derived.Lib.AppendZeros
import Derived.Lib.SliceRun
import Derived.Lib.Walk
import Derived.Shelf.RegionOpenPlain
import Derived.Lib.SmallJoins
set_option linter.all false
namespace Go.Proofs.YtmbmmckagcdapaaGreatDoor
open Go.RowKit
mutual
def ndV:Nd→V
 | .mk k w n e l el cs=> .ag [.im (.int .i64 k),.im (.int .i64 w),.im (.string n),.sl (exL e) .ro,.sl (ndL l) .ro,.sl (ndL el) .ro,.sl (ndC cs) .ro]
def ndL:List Nd→List V
 | []=>[]
 | t::r=>ndV t::ndL r
def ndC:List (List Nd)→List V
 | []=>[]
 | c::r=> .sl (ndL c) .ro::ndC r
end
def nlV(c:List Nd):V:= .sl (c.map ndV) .ro
theorem Rg: ∀l,ndL l=l.map ndV
 | []=>by simp[ndL]
 | t::r=>by simp[ndL,Rg r]
theorem BH: ∀l,ndC l=l.map nlV
 | []=>by simp[ndC]
 | t::r=>by simp[ndC,BH r,Rg,nlV]
theorem fZ(t:Nd):ndV t= .ag [.im (.int .i64 t.kind),.im (.int .i64 t.width),.im (.string t.name),.sl (t.e.map exV) .ro,.sl (t.l.map ndV) .ro,.sl (t.el.map ndV) .ro,.sl (t.cs.map nlV) .ro]:=by
 cases t;simp[ndV,Rg,BH,Rr,Nd.kind,Nd.width,Nd.name,Nd.e,Nd.l,Nd.el,Nd.cs]
theorem gH(k w:Int)(n:ByteArray)(e:List Ex)(l el:List Nd)(cs:List (List Nd)):ndV (.mk k w n e l el cs)= .ag [.im (.int .i64 k),.im (.int .i64 w),.im (.string n),.sl (e.map exV) .ro,.sl (l.map ndV) .ro,.sl (el.map ndV) .ro,.sl (cs.map nlV) .ro]:=fZ _
theorem yQ(t:Nd):(ndV t).isAg=true:=by rw[fZ];rfl
theorem vL(t:Nd):(ndV t).live=true:=by rw[fZ];rfl
theorem Fb(t:Nd):(ndV t).firm=true:=by rw[fZ];rfl
theorem Az(g:Bool)(t:Nd):strip g (ndV t)=ndV t:=by rw[fZ];rfl
theorem vK(t:Nd):(ndV t).size=7:=by rw[fZ];rfl
theorem wF(t:Nd):(ndV t).cells=[.im (.int .i64 t.kind),.im (.int .i64 t.width),.im (.string t.name),.sl (t.e.map exV) .ro,.sl (t.l.map ndV) .ro,.sl (t.el.map ndV) .ro,.sl (t.cs.map nlV) .ro]:=by rw[fZ];rfl
theorem aP(p:Nat→Bool): ∀t:Nd,(ndV t).ids p=true:=by
 refine Nd.induct fun k w n e l el cs h1 h2 h3=> ?_
 rw[gH]
 have hc:V.idsL p (cs.map nlV)=true:=lO cs fun c hc=>by
  simp only[nlV,V.ids,Bool.and_true];exact lO c (h3 c hc)
 simp[V.ids,V.idsL,lO l h1,lO el h2,aE,hc]
theorem aG(p:Nat→Bool)(l:List Nd):V.idsL p (l.map ndV)=true:=iJ (aP p) l
theorem aU(p:Nat→Bool)(c:List Nd):(nlV c).ids p=true:=by simp only[nlV,V.ids,Bool.and_true];exact aG p c
theorem aM(p:Nat→Bool)(l:List (List Nd)):V.idsL p (l.map nlV)=true:=iJ (aU p) l
theorem aX(g:Nat→Nat)(t:Nd):V.ren g (ndV t)=ndV t:=V.ren_id g _ (aP _ t)
theorem aR(g:Nat→Nat)(l:List Nd):V.renL g (l.map ndV)=l.map ndV:=V.renL_id g _ (aG _ l)
theorem aZ(g:Nat→Nat)(l:List (List Nd)):V.renL g (l.map nlV)=l.map nlV:=V.renL_id g _ (aM _ l)
theorem Eu(c:List Nd):(nlV c).live=true:=rfl
theorem Et(c:List Nd):(nlV c).size=1:=rfl
theorem Ew(c:List Nd):(nlV c).isAg=false:=rfl
theorem Ay(c:List Nd):(nlV c).cells=[nlV c]:=rfl
theorem Ey(c:List Nd):(nlV c).firm=true:=rfl
theorem Ax(g:Bool)(c:List Nd):strip g (nlV c)=nlV c:=rfl
theorem ND:type_of%(A14 @Fb @Az @vL @vK @yQ @wF @Ey @Ax @Eu @Et @Ew @Ay @List.getElem?_map.{0,0} @Int.natCast_nonneg) :=
 A14 @Fb @Az @vL @vK @yQ @wF @Ey @Ax @Eu @Et @Ew @Ay @List.getElem?_map.{0,0} @Int.natCast_nonneg
def scV(s:Sec):V:= .ag [.im (.string s.name),.im (.int .u32 s.addr),.sl (s.data.map fun b=> .im (.int .u8 b.toNat)) .ro,.im (.bool s.wr),.im (.bool s.exe)]
def fnV(f:Fun):V:= .ag [.im (.string f.name),.sl (f.vars.map vaV) .ro,.sl (f.body.map ndV) .ro]
def unV(u:Un):V:= .ag [.sl (u.globals.map vaV) .ro,.sl (u.data.map scV) .ro,.sl (u.funcs.map fnV) .ro]
def CB:Nd→Bool:=Nd.para fun t r1 r2 r3=>decide (I64 t.kind∧I64 t.width)&&decide (t.name.size≤9223372036854775807)&&decide (t.e.length≤4194304∧t.l.length≤4194304∧t.el.length≤4194304∧t.cs.length≤4194304)&&t.e.all fitEB&&t.cs.all (fun c=>decide (c.length≤4194304))&&r1.all id&&r2.all id&&r3.all (·.all id)
def fitN(t:Nd):Prop:=CB t=true
def fitNL(l:List Nd):Prop:=l.length≤4194304∧ ∀t∈l,fitN t
theorem lJ{t:Nd}(h:fitN t):(I64 t.kind∧I64 t.width)∧t.name.size≤9223372036854775807∧(t.e.length≤4194304∧ ∀x∈t.e,fitE x)∧fitNL t.l∧fitNL t.el∧t.cs.length≤4194304∧ ∀c∈t.cs,fitNL c:=by
 obtain⟨k,w,n,e,l,el,cs⟩:=t
 have q:CB (.mk k w n e l el cs)=_:=Nd.para_mk _ k w n e l el cs
 unfold fitN at h
 rw[q]at h
 simp only[Bool.and_eq_true,Nd.kind,Nd.width,Nd.name,Nd.e,Nd.l,Nd.el,Nd.cs,List.all_map,List.all_eq_true]at h
 obtain⟨⟨⟨⟨⟨⟨⟨h1,h2⟩,h3⟩,h4⟩,h5⟩,h6⟩,h7⟩,h8⟩:=h
 have h3:=of_decide_eq_true h3
 exact⟨of_decide_eq_true h1,of_decide_eq_true h2,⟨h3.1,h4⟩,⟨h3.2.1,h6⟩,⟨h3.2.2.1,h7⟩,h3.2.2.2,fun c hc=>⟨of_decide_eq_true (h5 c hc),fun x hx=>by
  have:=h8 c hc;simp only[Function.comp,List.all_map,List.all_eq_true]at this
  exact this x hx⟩⟩
def Ta:=A6 aP aG aM aU @aE @aF
theorem xG(s:Sec):scV s= .ag [.im (.string s.name),.im (.int .u32 s.addr),.sl (s.data.map fun b=> .im (.int .u8 b.toNat)) .ro,.im (.bool s.wr),.im (.bool s.exe)]:=rfl
theorem Ee(v:Sec):(scV v).live=true:=rfl
theorem Ed(v:Sec):(scV v).size=5:=rfl
theorem Ef(v:Sec):(scV v).isAg=true:=rfl
theorem Eg(v:Sec):(scV v).firm=true:=rfl
theorem Ao(g:Bool)(v:Sec):strip g (scV v)=scV v:=rfl
theorem Ap(s:Sec):(scV s).cells=[.im (.string s.name),.im (.int .u32 s.addr),.sl (s.data.map fun b=> .im (.int .u8 b.toNat)) .ro,.im (.bool s.wr),.im (.bool s.exe)]:=rfl
theorem eW(p:Nat→Bool)(l:List UInt8):V.idsL p (l.map fun b=>V.im (.int .u8 b.toNat))=true:=iJ (fun _=>rfl) l
theorem fI(g:Nat→Nat)(l:List UInt8):V.renL g (l.map fun b=>V.im (.int .u8 b.toNat))=l.map fun b=>V.im (.int .u8 b.toNat):=V.renL_id g _ (eW _ l)
theorem bM(p:Nat→Bool)(v:Sec):(scV v).ids p=true:=by simp[scV,V.ids,V.idsL,eW]
theorem bV(p:Nat→Bool)(l:List Sec):V.idsL p (l.map scV)=true:=iJ (bM p) l
theorem cP(g:Nat→Nat)(t:Sec):V.ren g (scV t)=scV t:=V.ren_id g _ (bM _ t)
theorem iT(g:Nat→Nat)(l:List Sec):V.renL g (l.map scV)=l.map scV:=V.renL_id g _ (bV _ l)
theorem yF(l:List Sec):mU 5 (l.map scV)=true:=by
 unfold mU
 rw[List.all_map]
 exact List.all_eq_true.2 fun x _=>rfl
theorem AN(l:List Sec):xN 5 (l.map scV)=true:=by
 unfold xN
 rw[List.all_map]
 exact List.all_eq_true.2 fun x _=>rfl
theorem SCT:type_of%(A8 @Eg @Ao @Ee @Ed @Ef @Ap @List.getElem?_map.{0,0} @Int.natCast_nonneg) :=
 A8 @Eg @Ao @Ee @Ed @Ef @Ap @List.getElem?_map.{0,0} @Int.natCast_nonneg
theorem sG(f:Fun):fnV f= .ag [.im (.string f.name),.sl (f.vars.map vaV) .ro,.sl (f.body.map ndV) .ro]:=rfl
theorem dC(p:Nat→Bool)(f:Fun):(fnV f).ids p=true:=by simp[fnV,V.ids,V.idsL,aK,aG]
theorem cC(p:Nat→Bool)(l:List Fun):V.idsL p (l.map fnV)=true:=iJ (dC p) l
theorem kS(u:Un):unV u= .ag [.sl (u.globals.map vaV) .ro,.sl (u.data.map scV) .ro,.sl (u.funcs.map fnV) .ro]:=rfl
theorem Fj(v:Fun):(fnV v).live=true:=rfl
theorem Fi(v:Fun):(fnV v).size=3:=rfl
theorem Fk(v:Fun):(fnV v).isAg=true:=rfl
theorem Fl(v:Fun):(fnV v).firm=true:=rfl
theorem Be(g:Bool)(v:Fun):strip g (fnV v)=fnV v:=rfl
theorem Bg(f:Fun):(fnV f).cells=[.im (.string f.name),.sl (f.vars.map vaV) .ro,.sl (f.body.map ndV) .ro]:=rfl
theorem FU:type_of%(A8 @Fl @Be @Fj @Fi @Fk @Bg @List.getElem?_map.{0,0} @Int.natCast_nonneg) :=
 A8 @Fl @Be @Fj @Fi @Fk @Bg @List.getElem?_map.{0,0} @Int.natCast_nonneg
theorem cK(p:Nat→Bool)(u:Un):(unV u).ids p=true:=by simp[unV,V.ids,V.idsL,aK,bV,cC]
theorem kU(g:Nat→Nat)(t:Fun):V.ren g (fnV t)=fnV t:=V.ren_id g _ (dC _ t)
theorem kV(g:Nat→Nat)(l:List Fun):V.renL g (l.map fnV)=l.map fnV:=V.renL_id g _ (cC _ l)
theorem Db(l:List Fun):mU 3 (l.map fnV)=true:=by
 unfold mU
 rw[List.all_map]
 exact List.all_eq_true.2 fun x _=>rfl
theorem vZ(g:Nat→Nat)(u:Un):V.ren g (unV u)=unV u:=V.ren_id g _ (cK _ u)
theorem Zc(u:Un):(unV u).live=true:=rfl
theorem Zb(u:Un):(unV u).size=3:=rfl
theorem Zd(u:Un):(unV u).isAg=true:=rfl
theorem Vo(u:Un):(unV u).cells=[.sl (u.globals.map vaV) .ro,.sl (u.data.map scV) .ro,.sl (u.funcs.map fnV) .ro]:=rfl
theorem Ze(u:Un):(unV u).firm=true:=rfl
theorem Vn(g:Bool)(u:Un):strip g (unV u)=unV u:=rfl
theorem Hy{α β:Type}(f:α→β){l:List α}{m:Nat}(h:m<l.length):(l.take m).map f++[f l[m]]=(l.take (m+1)).map f:=by
 rw[List.take_succ_eq_append_getElem h,List.map_append];rfl
def vX:=A9 @aE @aK @aF @aL bV bM cC dC eW
def Hp:=A15 @aE @aK @aF @aL aP aG @bN @bP @bO @bQ bV bM cC dC cK
end Go.Proofs.YtmbmmckagcdapaaGreatDoor
namespace Go.Proofs.YtmbmmckagcdapaaGreatDoor
open Go.RowKit Go.Lib
def Cf.newTip(C:Cf)(e:TypeId)(z:Nat)(cs:Array Value):Cf:=⟨fun i=>if i=0 then some C.w.heap.size else C.σ i,ofl [.tip e z 0],C.av,C.w.drew.alloc (.cells cs e)⟩
theorem nP{e:TypeId}{z i:Nat}(h:ofl [.tip e z 0] i≠ .free):i=0:=by
 cases i with
 | zero=>rfl
 | succ i=>exact absurd (by simp[ofl,List.getD]) h
theorem Fa{C:Cf}{e:TypeId}{z:Nat}{cs:Array Value}{b:Nat}(hb:b<C.w.heap.size):(C.newTip e z cs).w.heap[b]? =C.w.heap[b]? :=by
 show(C.w.drew.heap.push _)[b]? =_
 rw[Array.getElem?_push]
 have:b≠C.w.drew.heap.size:=Nat.ne_of_lt hb
 rw[if_neg this]
 rfl
theorem Ev.newTip{C:Cf}{e:TypeId}{z:Nat}{cs:Array Value}(hst:C.st=stF):Ev C (C.newTip e z cs)where
 os:=rfl
 tape:=rfl
 output:=rfl
 size:=by show C.w.heap.size≤(C.w.drew.heap.push _).size;rw[Array.size_push];exact Nat.le_succ _
 av:=rfl
 rd:=fun a v h=>by
  have hb:a.block<C.w.heap.size:=by
   have h1:=h.1;refine Nat.lt_of_not_le fun hle=> ?_
   have:C.w.heap[a.block]? =none:=Array.getElem?_eq_none hle;simp[World.cell?,this]at h1
  refine⟨?_,h.2.1,fun i hi=> ?_⟩
  ·rw[←h.1]
   exact World.cell?_of_block (w:=C.w) (Fa hb)
  ·by_cases h0:i=0
   ·subst h0
    have:C.w.heap.size=a.block:=Option.some.inj hi;omega
   ·exact .inl (Classical.byContradiction fun hn=>h0 (nP hn))
 box:=fun i cs hb=>by rw[hst]at hb;cases hb
 tip:=fun i e z n hb=>by rw[hst]at hb;cases hb
 itr:=fun i s p hb=>by rw[hst]at hb;cases hb
 keep:=fun b hb _=>Fa hb
 shp:=fun i cs g bs t hb=>by rw[hst]at hb;cases hb
 fresh:=fun i b hi hs=>by
  obtain rfl:=nP hi;have:C.w.heap.size=b:=Option.some.inj hs;exact .inr (Nat.le_of_eq this)
theorem Ok.newTip{C:Cf}{e:TypeId}{z:Nat}{cs:Array Value}(hC:Ok C)(hst:C.st=stF):Ok (C.newTip e z cs)where
 box:=fun i cs' hb=>by
  have h0:i=0:=nP (e:=e) (z:=z) (by show(C.newTip e z cs).st i≠_;rw[hb];simp)
  subst h0;cases hb
 tip:=fun i e' z' n g hb hs=>by
  have h0:i=0:=nP (e:=e) (z:=z) (by show(C.newTip e z cs).st i≠_;rw[hb];simp)
  subst h0;cases hb
  have:C.w.heap.size=g:=Option.some.inj hs;subst this;refine⟨cs,?_,by omega,fun o ho=> ?_⟩
  ·show(C.w.drew.heap.push _)[C.w.heap.size]? =_
   rw[Array.getElem?_push];exact if_pos rfl
  ·exact absurd (hC.avl _ o ho) (Nat.lt_irrefl _)
 iter:=fun i s p hb=>by
  have h0:i=0:=nP (e:=e) (z:=z) (by show(C.newTip e z cs).st i≠_;rw[hb];simp)
  subst h0;cases hb
 inj:=fun i j g hi hj _ _=>(nP hi).trans (nP hj).symm
 avl:=fun b o h=>by
  have:=hC.avl b o h;show b<(C.w.drew.heap.push _).size
  rw[Array.size_push];exact Nat.lt_succ_of_lt this
 bav:=fun i cs' g o hb=>by
  have h0:i=0:=nP (e:=e) (z:=z) (by show(C.newTip e z cs).st i≠_;rw[hb];simp)
  subst h0;cases hb
 gl:=hC.gl.mono (Ev.newTip hst)
theorem yS{P:Program}{f:FuncId}{e:TypeId}{z:Nat}{xs:List V}(hf:Bb P f=true)(hz:0<z)
  (h: ∀(C:Cf) (vs:Array Value),C.st=stF→Ok C→vs.size=xs.length→(∀i (h:i<xs.length),R C xs[i] (vs.getD i undef)) →
   ∃(cap:Nat) (cs:Array Value),cap≤maxLen∧cs.size=cap*z∧Calls P f vs C.w fun e' w'=>e'= .returned (.slice (some ⟨C.w.heap.size,0,none⟩) 0 cap)∧w'=C.w.drew.alloc (.cells cs e)) :
  DC P f xs [.free] (.sl [] (.own 0)) [.tip e z 0]:=by
 refine⟨hf,fun C vs hst hC hl hR=> ?_⟩
 have hst':C.st=stF:=by
  rw[hst];funext i;unfold ofl stF;cases i with
  | zero=>rfl
  | succ i=>simp[List.getD]
 obtain⟨cap,cs,hcap,hcs,hc⟩:=h C vs hst' hC hl hR
 refine hc.mono ?_
 rintro e' w' ⟨rfl,rfl⟩
 refine⟨_,_,_,rfl,⟨rfl,rfl⟩,C.newTip e z cs,rfl,rfl,Ok.newTip hC hst',Ev.newTip hst',?_⟩
 ·refine .sl (z:=z) (u:=fun _=>undef) (Nat.zero_le _) hcap (fun i hi=>absurd hi (Nat.not_lt_zero _)) (fun i hi=>absurd hi (Nat.not_lt_zero _)) (fun i hi=>absurd hi (Nat.not_lt_zero _))
   ⟨e,0,rfl,Nat.le_refl _,fun _=> .inr ⟨_,cs,rfl,rfl,?_,hcs⟩⟩
  show(C.w.drew.heap.push _)[C.w.heap.size]? =_
  rw[Array.getElem?_push];exact if_pos rfl
theorem Xb(n:Nat)(h0:0<n)(hb:n≤4194304*4)(w:World): ∃(cap:Nat) (cs:Array Value),cap≤maxLen∧cs.size=cap*1∧Calls Tryz.prog 256 #[.slice none 0 0,.int .i64 n] w fun e w'=>e= .returned (.slice (some ⟨w.heap.size,0,none⟩) 0 cap)∧w'=w.drew.alloc (.cells cs 35):=by
 obtain⟨i0,hi,hz0,hz1,hz2⟩:=info_parts (show(Tryz.prog.info? 35).map (fun i=>(i.zero,i.size,i.bytes))=some (some (.slice none 0 0),1,24) by kernel_rfl)
 have h1: ¬((n:Int)<0):=by omega
 have h4:(n:Int)>0:=by omega
 have hrz: ∀ty,(Builtin.append_ #[163,3] ty #[.slice none 0 0,.int .i64 n]).run Tryz.prog w=_:=fun ty=>run_append_nil_zeros w 163 3 ty 35 i0 _ .i64 .i64 Tryz.underlying163 Tryz.underlying3 hi hz0 n h0 (by rw[hz1];decide) (by omega) (by rw[hz2];omega)
 have hGn:n≤grownCap w n 0 35:=grownCap_ge w _ _ _
 have hG63:=grownCap_le_maxLen w n 0 35 (by unfold maxLen;omega)
 generalize grownCap w n 0 35=G at hrz hGn hG63
 refine⟨G,Builtin.zeroCells (Value.cells (.slice none 0 0)) n++Builtin.zeroCells (Value.cells (.slice none 0 0)) (G-n),hG63,?_,?_⟩
 rotate_left
 ·go_enter Tryz.func256,Tryz.ntmps256
  go_wp2_with (at_builtin;refine Lib.wpList_append_run _ rfl _ _ _ _ rfl _ _ rfl rfl _ _ (hrz _) ?_)
  all_goals (go_ret;exact⟨rfl,rfl⟩)
 ·simp[Builtin.zeroCells,Value.cells];omega
theorem JE(n:Nat)(h0:0<n)(hb:n≤4194304*4):DC Tryz.prog 256 [.sl [] .nl,.im (.int .i64 n)] [.free] (.sl [] (.own 0)) [.tip 35 1 0]:=by
 refine yS (by kernel_rfl) (by decide) fun C vs _ _ hl hR=> ?_
 obtain⟨v0,v1,rfl⟩: ∃v0 v1,vs= #[v0,v1]:=Go.Joins.array2 hl
 have h1:=hR 0 (by simp)
 have h2:=hR 1 (by simp)
 obtain rfl:v0= .slice none 0 0:=by
  have h1:R C (.sl [] .nl) v0:=h1;cases h1 with
  | sl _ _ _ _ _ hk=>obtain⟨rfl,rfl⟩:=hk;rfl
 obtain rfl:v1= .int .i64 n:=by
  have h2:R C (.im (.int .i64 n)) v1:=h2;cases h2 with
  | im=>rfl
 exact Xb n h0 hb C.w
theorem DY:PC Tryz.prog 256 [.sl [] .nl,.im (.int .i64 0)] (.sl [] .nl):=by
 refine⟨by kernel_rfl,fun C vs hst hC hl hR=> ?_⟩
 obtain⟨v0,v1,rfl⟩: ∃v0 v1,vs= #[v0,v1]:=Go.Joins.array2 hl
 have h1:=hR 0 (by simp)
 have h2:=hR 1 (by simp)
 obtain rfl:v0= .slice none 0 0:=by
  have h1:R C (.sl [] .nl) v0:=h1;cases h1 with
  | sl _ _ _ _ _ hk=>obtain⟨rfl,rfl⟩:=hk;rfl
 obtain rfl:v1= .int .i64 0:=by
  have h2:R C (.im (.int .i64 0)) v1:=h2;cases h2 with
  | im=>rfl
 have hc:Calls Tryz.prog 256 #[.slice none 0 0,.int .i64 0] C.w fun e w'=>e= .returned (.slice none 0 0)∧w'=C.w:=by
  go_enter Tryz.func256,Tryz.ntmps256
  go_wp2
  go_ret
  exact⟨rfl,rfl⟩
 refine hc.mono ?_
 rintro e' w' ⟨rfl,rfl⟩
 exact⟨_,_,_,rfl,⟨rfl,rfl⟩,C,rfl,hst,hC,Ev.refl C,h1⟩
theorem Xa(n:Nat)(h0:0<n)(hb:n≤4194304*4)(w:World): ∃(cap:Nat) (cs:Array Value),cap≤maxLen∧cs.size=cap*6∧Calls Tryz.prog 162 #[.slice none 0 0,.int .i64 n] w fun e w'=>e= .returned (.slice (some ⟨w.heap.size,0,none⟩) 0 cap)∧w'=w.drew.alloc (.cells cs 96):=by
 obtain⟨i0,hi,hz0,hz1,hz2⟩:=info_parts (show(Tryz.prog.info? 96).map (fun i=>(i.zero,i.size,i.bytes))=some (some (.agg #[.string .empty,.int .i64 0,.int .i64 0,.int .i64 0,.slice none 0 0,.slice none 0 0]),6,88) by kernel_rfl)
 have h1: ¬((n:Int)<0):=by omega
 have h4:(n:Int)>0:=by omega
 have hrz: ∀ty,(Builtin.append_ #[23,3] ty #[.slice none 0 0,.int .i64 n]).run Tryz.prog w=_:=fun ty=>run_append_nil_zeros w 23 3 ty 96 i0 _ .i64 .i64 Tryz.underlying23 Tryz.underlying3 hi hz0 n h0 (by rw[hz1];decide) (by omega) (by rw[hz2];omega)
 have hGn:n≤grownCap w n 0 96:=grownCap_ge w _ _ _
 have hG63:=grownCap_le_maxLen w n 0 96 (by unfold maxLen;omega)
 generalize grownCap w n 0 96=G at hrz hGn hG63
 refine⟨G,Builtin.zeroCells (Value.cells (.agg #[.string .empty,.int .i64 0,.int .i64 0,.int .i64 0,.slice none 0 0,.slice none 0 0])) n++Builtin.zeroCells (Value.cells (.agg #[.string .empty,.int .i64 0,.int .i64 0,.int .i64 0,.slice none 0 0,.slice none 0 0])) (G-n),hG63,?_,?_⟩
 rotate_left
 ·go_enter Tryz.func162,Tryz.ntmps162
  go_wp2_with (at_builtin;refine Lib.wpList_append_run _ rfl _ _ _ _ rfl _ _ rfl rfl _ _ (hrz _) ?_)
  all_goals (go_ret;exact⟨rfl,rfl⟩)
 ·simp[Builtin.zeroCells,Value.cells];omega
theorem JD(n:Nat)(h0:0<n)(hb:n≤4194304*4):DC Tryz.prog 162 [.sl [] .nl,.im (.int .i64 n)] [.free] (.sl [] (.own 0)) [.tip 96 6 0]:=by
 refine yS (by kernel_rfl) (by decide) fun C vs _ _ hl hR=> ?_
 obtain⟨v0,v1,rfl⟩: ∃v0 v1,vs= #[v0,v1]:=Go.Joins.array2 hl
 have h1:=hR 0 (by simp)
 have h2:=hR 1 (by simp)
 obtain rfl:v0= .slice none 0 0:=by
  have h1:R C (.sl [] .nl) v0:=h1;cases h1 with
  | sl _ _ _ _ _ hk=>obtain⟨rfl,rfl⟩:=hk;rfl
 obtain rfl:v1= .int .i64 n:=by
  have h2:R C (.im (.int .i64 n)) v1:=h2;cases h2 with
  | im=>rfl
 exact Xa n h0 hb C.w
theorem DX:PC Tryz.prog 162 [.sl [] .nl,.im (.int .i64 0)] (.sl [] .nl):=by
 refine⟨by kernel_rfl,fun C vs hst hC hl hR=> ?_⟩
 obtain⟨v0,v1,rfl⟩: ∃v0 v1,vs= #[v0,v1]:=Go.Joins.array2 hl
 have h1:=hR 0 (by simp)
 have h2:=hR 1 (by simp)
 obtain rfl:v0= .slice none 0 0:=by
  have h1:R C (.sl [] .nl) v0:=h1;cases h1 with
  | sl _ _ _ _ _ hk=>obtain⟨rfl,rfl⟩:=hk;rfl
 obtain rfl:v1= .int .i64 0:=by
  have h2:R C (.im (.int .i64 0)) v1:=h2;cases h2 with
  | im=>rfl
 have hc:Calls Tryz.prog 162 #[.slice none 0 0,.int .i64 0] C.w fun e w'=>e= .returned (.slice none 0 0)∧w'=C.w:=by
  go_enter Tryz.func162,Tryz.ntmps162
  go_wp2
  go_ret
  exact⟨rfl,rfl⟩
 refine hc.mono ?_
 rintro e' w' ⟨rfl,rfl⟩
 exact⟨_,_,_,rfl,⟨rfl,rfl⟩,C,rfl,hst,hC,Ev.refl C,h1⟩
end Go.Proofs.YtmbmmckagcdapaaGreatDoor
namespace Go.Proofs.YtmbmmckagcdapaaGreatDoor
open Go.RowKit
theorem wK{α:Type}{l:List (List α)}{m:Nat}(h:m<l.length):(l.take m).flatten.length+l[m].length=(l.take (m+1)).flatten.length:=by
 rw[List.take_succ_eq_append_getElem h,List.flatten_append,List.length_append]
 simp
theorem It{α:Type}{l:List (List α)}{m:Nat}(h:m<l.length):(l.take m).flatten++l[m]=(l.take (m+1)).flatten:=by
 rw[List.take_succ_eq_append_getElem h,List.flatten_append]
 simp
theorem Dc{α:Type}{l:List (List α)}(m:Nat):(l.take m).flatten.length≤l.flatten.length:=by
 have:=List.take_append_drop m l
 have h2:l.flatten.length=(l.take m).flatten.length+(l.drop m).flatten.length:=by
  rw[←List.length_append,←List.flatten_append,this]
 omega
theorem Iu{p:Nat→Bool}{l:List (List V)}(h: ∀xs∈l,V.idsL p xs=true)(m:Nat):V.idsL p (l.take m).flatten=true:=by
 refine Kj fun x hx=> ?_
 obtain⟨xs,h1,h2⟩:=List.mem_flatten.1 hx
 obtain⟨i,hi,rfl⟩:=List.getElem_of_mem h2
 exact V.idsL_get (h xs (List.mem_of_mem_take h1)) i hi
def oF:=A7 @oN @Dn @Lx @mC @Pw @oH @jU
theorem Yb{xss:List (List V)}(hl:xss.length≤4194304)(hz: ∀xs∈xss,mU 1 xs=true)(hs: ∀p,∀xs∈xss,V.idsL p xs=true)(hn:xss.flatten.length≤16777216):PC Tryz.prog 213 [.sl (xss.map fun l=>V.sl l .ro) .ro] (.sl xss.flatten .ro):=by
 have hI: ∀p m,V.idsL p (xss.take m).flatten=true:=fun p m=>Iu (hs p) m
 have hK: ∀p,V.idsL p xss.flatten=true:=fun p=>by have:=hI p xss.length;rwa [List.take_length]at this
 have hJ: ∀p,V.idsL p (xss.map fun l=>V.sl l .ro)=true:=fun p=>lO xss fun x hx=>by simp only[V.ids,Bool.and_true];exact hs p x hx
 refine pcEnt 36 Tryz.func213 rfl [(0,.sl (xss.map fun l=>V.sl l .ro) .ro)] ?_
 refine wG oF @List.length_map.{0,0} ?_
 refine aT ?_
 refine ALp.cutP 0 [(0,.sl (xss.map fun l=>V.sl l .ro) .ro),(3,(.im (.int .i64 ((((xss.take (0)).flatten.length:Nat):Int))))),(9,.sl (xss.map fun l=>V.sl l .ro) .ro),(10,(.im (.int .i64 (xss.length)))),(11,(.im (.int .i64 ((((0:Nat)):Int)))))] [] (A3 hI hJ hK) ?_
 refine ALp.upto xss.length (fun _=>True) (fun m=>⟨dn 36 [(0,.sl (xss.map fun l=>V.sl l .ro) .ro),(3,(.im (.int .i64 ((((xss.take (m)).flatten.length:Nat):Int))))),(9,.sl (xss.map fun l=>V.sl l .ro) .ro),(10,(.im (.int .i64 (xss.length)))),(11,(.im (.int .i64 ((((m:Nat)):Int)))))],ofl []⟩) ?_ 0 (Nat.zero_le _) trivial
 intro m hm _ hnext
 by_cases hlt:m<xss.length
 ·have hlt':(m:Int)<(xss.length:Int):=by omega
  have hm1:=aQ hlt (by omega)
  have hg:=bJ hlt;have hln:=wK hlt;have hle:=Dc (l:=xss) (m+1)
  have hw:IntKind.i64.wrap (((xss.take m).flatten.length:Int)+(xss[m].length:Int))=((xss.take (m+1)).flatten.length:Int):=by
   rw[cI (by omega)]
   omega
  have hneg: ¬((xss.take (m+1)).flatten.length:Int)<0:=by omega
  refine wG oF (A7 hlt' hg @List.getElem?_map.{0,0} @Int.natCast_nonneg hw hneg hm1) ?_;refine ALp.cutP 0 [(0,.sl (xss.map fun l=>V.sl l .ro) .ro),(3,(.im (.int .i64 ((((xss.take (m+1)).flatten.length:Nat):Int))))),(9,.sl (xss.map fun l=>V.sl l .ro) .ro),(10,(.im (.int .i64 (xss.length)))),(11,(.im (.int .i64 ((((m+1:Nat)):Int)))))] [] (A3 hI hJ hK) ?_
  exact hnext (m+1) (by omega) (by omega) trivial
 obtain rfl:m=xss.length:=by omega
 clear hnext
 rw[List.take_length]
 refine whG oF @Int.lt_irrefl ?_
 refine Blk'.here (Thn.n ?_)
 refine wG oF TI ?_
 by_cases h0:xss.flatten.length=0
 case' pos =>
  rw[h0];refine AR.callP DY @Int.natCast_zero (A3 hI hJ hK) ?_;refine goG oF @List.length_map.{0,0} ?_;refine wG oF @List.length_map.{0,0} ?_;refine aT ?_;refine ALp.ghost 6 [] .nl 35 1 ?_;refine ALp.cutP 1 [(6,.sl (xss.take (0)).flatten (.own 0)),(25,.sl (xss.map fun l=>V.sl l .ro) .ro),(26,(.im (.int .i64 (xss.length)))),(27,(.im (.int .i64 ((((0:Nat)):Int)))))] [.tip 35 1 (xss.take (0)).flatten.length] (A3 hI hJ hK) ?_
 case' neg =>
  have hg:=JE xss.flatten.length (by omega) (by omega)
  refine aA [0] hg TI (A3 hI hJ hK) TI ?_;refine goG oF @List.length_map.{0,0} ?_;refine wG oF @List.length_map.{0,0} ?_;refine aT ?_;refine ALp.cutP 1 [(6,.sl (xss.take (0)).flatten (.own 0)),(25,.sl (xss.map fun l=>V.sl l .ro) .ro),(26,(.im (.int .i64 (xss.length)))),(27,(.im (.int .i64 ((((0:Nat)):Int)))))] [.tip 35 1 (xss.take (0)).flatten.length] (A3 hI hJ hK) ?_
 all_goals
  refine ALp.upto xss.length (fun _=>True) (fun m=>⟨dn 36 [(6,.sl (xss.take (m)).flatten (.own 0)),(25,.sl (xss.map fun l=>V.sl l .ro) .ro),(26,(.im (.int .i64 (xss.length)))),(27,(.im (.int .i64 ((((m:Nat)):Int)))))],ofl [.tip 35 1 (xss.take (m)).flatten.length]⟩) ?_ 0 (Nat.zero_le _) trivial
  intro m hm _ hnext
  by_cases hlt:m<xss.length
  ·have hlt':(m:Int)<(xss.length:Int):=by omega
   have hm1:=aQ hlt (by omega)
   have hg:=bJ hlt;have hln:=wK hlt;have hle:=Dc (l:=xss) (m+1);have hsn:=It hlt;have hA:(xss.take (m+1)).flatten.length*24≤140737488355328:=by omega
   have hz':=hz xss[m] (List.getElem_mem hlt);refine wG oF (A9 hlt' hg @List.getElem?_map.{0,0} @Int.natCast_nonneg hA hz' hsn hln hm1) ?_;refine ALp.cutP 1 [(6,.sl (xss.take (m+1)).flatten (.own 0)),(25,.sl (xss.map fun l=>V.sl l .ro) .ro),(26,(.im (.int .i64 (xss.length)))),(27,(.im (.int .i64 ((((m+1:Nat)):Int)))))] [.tip 35 1 (xss.take (m+1)).flatten.length] (A3 hI hJ hK) ?_
   exact hnext (m+1) (by omega) (by omega) trivial
  obtain rfl:m=xss.length:=by omega
  clear hnext;rw[List.take_length];refine wG oF @Int.lt_irrefl ?_;refine fiGenO [.tmp 2] (finG oF) ?_
  all_goals exact wkG (A3 hI hJ hK)
def qV:=A7 @mT @pH @sC @Px @kQ @lA @jS
theorem Ya{xss:List (List V)}(hl:xss.length≤4194304)(hz: ∀xs∈xss,mU 6 xs=true)(hs: ∀p,∀xs∈xss,V.idsL p xs=true)(hn:xss.flatten.length≤16777216):PC Tryz.prog 96 [.sl (xss.map fun l=>V.sl l .ro) .ro] (.sl xss.flatten .ro):=by
 have hI: ∀p m,V.idsL p (xss.take m).flatten=true:=fun p m=>Iu (hs p) m
 have hK: ∀p,V.idsL p xss.flatten=true:=fun p=>by have:=hI p xss.length;rwa [List.take_length]at this
 have hJ: ∀p,V.idsL p (xss.map fun l=>V.sl l .ro)=true:=fun p=>lO xss fun x hx=>by simp only[V.ids,Bool.and_true];exact hs p x hx
 refine pcEnt 36 Tryz.func96 rfl [(0,.sl (xss.map fun l=>V.sl l .ro) .ro)] ?_
 refine wG qV @List.length_map.{0,0} ?_
 refine aT ?_
 refine ALp.cutP 0 [(0,.sl (xss.map fun l=>V.sl l .ro) .ro),(3,(.im (.int .i64 ((((xss.take (0)).flatten.length:Nat):Int))))),(9,.sl (xss.map fun l=>V.sl l .ro) .ro),(10,(.im (.int .i64 (xss.length)))),(11,(.im (.int .i64 ((((0:Nat)):Int)))))] [] (A3 hI hJ hK) ?_
 refine ALp.upto xss.length (fun _=>True) (fun m=>⟨dn 36 [(0,.sl (xss.map fun l=>V.sl l .ro) .ro),(3,(.im (.int .i64 ((((xss.take (m)).flatten.length:Nat):Int))))),(9,.sl (xss.map fun l=>V.sl l .ro) .ro),(10,(.im (.int .i64 (xss.length)))),(11,(.im (.int .i64 ((((m:Nat)):Int)))))],ofl []⟩) ?_ 0 (Nat.zero_le _) trivial
 intro m hm _ hnext
 by_cases hlt:m<xss.length
 ·have hlt':(m:Int)<(xss.length:Int):=by omega
  have hm1:=aQ hlt (by omega)
  have hg:=bJ hlt;have hln:=wK hlt;have hle:=Dc (l:=xss) (m+1)
  have hw:IntKind.i64.wrap (((xss.take m).flatten.length:Int)+(xss[m].length:Int))=((xss.take (m+1)).flatten.length:Int):=by
   rw[cI (by omega)]
   omega
  have hneg: ¬((xss.take (m+1)).flatten.length:Int)<0:=by omega
  refine wG qV (A7 hlt' hg @List.getElem?_map.{0,0} @Int.natCast_nonneg hw hneg hm1) ?_;refine ALp.cutP 0 [(0,.sl (xss.map fun l=>V.sl l .ro) .ro),(3,(.im (.int .i64 ((((xss.take (m+1)).flatten.length:Nat):Int))))),(9,.sl (xss.map fun l=>V.sl l .ro) .ro),(10,(.im (.int .i64 (xss.length)))),(11,(.im (.int .i64 ((((m+1:Nat)):Int)))))] [] (A3 hI hJ hK) ?_
  exact hnext (m+1) (by omega) (by omega) trivial
 obtain rfl:m=xss.length:=by omega
 clear hnext
 rw[List.take_length]
 refine whG qV @Int.lt_irrefl ?_
 refine Blk'.here (Thn.n ?_)
 refine wG qV TI ?_
 by_cases h0:xss.flatten.length=0
 case' pos =>
  rw[h0];refine AR.callP DX @Int.natCast_zero (A3 hI hJ hK) ?_;refine goG qV @List.length_map.{0,0} ?_;refine wG qV @List.length_map.{0,0} ?_;refine aT ?_;refine ALp.ghost 6 [] .nl 96 6 ?_;refine ALp.cutP 1 [(6,.sl (xss.take (0)).flatten (.own 0)),(25,.sl (xss.map fun l=>V.sl l .ro) .ro),(26,(.im (.int .i64 (xss.length)))),(27,(.im (.int .i64 ((((0:Nat)):Int)))))] [.tip 96 6 (xss.take (0)).flatten.length] (A3 hI hJ hK) ?_
 case' neg =>
  have hg:=JD xss.flatten.length (by omega) (by omega)
  refine aA [0] hg TI (A3 hI hJ hK) TI ?_;refine goG qV @List.length_map.{0,0} ?_;refine wG qV @List.length_map.{0,0} ?_;refine aT ?_;refine ALp.cutP 1 [(6,.sl (xss.take (0)).flatten (.own 0)),(25,.sl (xss.map fun l=>V.sl l .ro) .ro),(26,(.im (.int .i64 (xss.length)))),(27,(.im (.int .i64 ((((0:Nat)):Int)))))] [.tip 96 6 (xss.take (0)).flatten.length] (A3 hI hJ hK) ?_
 all_goals
  refine ALp.upto xss.length (fun _=>True) (fun m=>⟨dn 36 [(6,.sl (xss.take (m)).flatten (.own 0)),(25,.sl (xss.map fun l=>V.sl l .ro) .ro),(26,(.im (.int .i64 (xss.length)))),(27,(.im (.int .i64 ((((m:Nat)):Int)))))],ofl [.tip 96 6 (xss.take (m)).flatten.length]⟩) ?_ 0 (Nat.zero_le _) trivial
  intro m hm _ hnext
  by_cases hlt:m<xss.length
  ·have hlt':(m:Int)<(xss.length:Int):=by omega
   have hm1:=aQ hlt (by omega)
   have hg:=bJ hlt;have hln:=wK hlt;have hle:=Dc (l:=xss) (m+1);have hsn:=It hlt;have hA:(xss.take (m+1)).flatten.length*88≤140737488355328:=by omega
   have hz':=hz xss[m] (List.getElem_mem hlt);refine wG qV (A9 hlt' hg @List.getElem?_map.{0,0} @Int.natCast_nonneg hA hz' hsn hln hm1) ?_;refine ALp.cutP 1 [(6,.sl (xss.take (m+1)).flatten (.own 0)),(25,.sl (xss.map fun l=>V.sl l .ro) .ro),(26,(.im (.int .i64 (xss.length)))),(27,(.im (.int .i64 ((((m+1:Nat)):Int)))))] [.tip 96 6 (xss.take (m+1)).flatten.length] (A3 hI hJ hK) ?_
   exact hnext (m+1) (by omega) (by omega) trivial
  obtain rfl:m=xss.length:=by omega
  clear hnext;rw[List.take_length];refine wG qV @Int.lt_irrefl ?_;refine fiGenO [.tmp 2] (finG qV) ?_
  all_goals exact wkG (A3 hI hJ hK)
theorem Ez(c:List Nd):nlV c= .sl (c.map ndV) .ro:=rfl
theorem MM(l:List (List Nd)):mU 1 (l.map nlV)=true:=by
 unfold mU
 rw[List.all_map]
 exact List.all_eq_true.2 fun x _=>rfl
theorem vM{t:Nd}(h:fitN t):(subs t).length≤4194306∧ ∀c∈subs t,fitNL c:=by
 obtain⟨_,_,_,h4,h5,h6,h7⟩:=lJ h
 refine⟨by simp[subs];omega,fun c hc=> ?_⟩
 unfold subs at hc
 rcases List.mem_cons.1 hc with rfl|hc
 ·exact h4
 ·rcases List.mem_cons.1 hc with rfl|hc
  ·exact h5
  ·exact h7 c hc
def Dl:=A11 @oN @lG @FJ @Dn @mC @Pw @mB @mA @lZ @oH @jU
theorem Ui(t:Nd)(ht:t.cs.length≤4194304):PC Tryz.prog 161 [ndV t] (.sl ((subs t).map nlV) .ro):=by
 obtain⟨k,w,n,e,l,el,cs⟩:=t
 have ht:cs.length≤4194304:=ht
 have h:=Yb (xss:=[[nlV l,nlV el],cs.map nlV]) (by simp) (by
  intro xs hx;simp only[List.mem_cons,List.not_mem_nil,or_false]at hx;rcases hx with rfl|rfl
  ·rfl
  ·exact MM cs) (by
  intro p xs hx;simp only[List.mem_cons,List.not_mem_nil,or_false]at hx;rcases hx with rfl|rfl
  ·simp only[V.idsL,aU,Bool.and_self]
  ·exact aM p cs) (by simp;omega)
 have e1:[[nlV l,nlV el],cs.map nlV].flatten=(subs (.mk k w n e l el cs)).map nlV:=by simp[subs,Nd.l,Nd.el,Nd.cs]
 rw[e1]at h
 simp only[List.map_cons,List.map_nil]at h
 refine pcEnt 12 Tryz.func161 rfl [(0,ndV (.mk k w n e l el cs))] ?_
 rw[gH]
 refine wG Dl TI ?_
 refine jQ h TI (A4 aP aG aM aU) ?_
 refine goG Dl TI ?_
 refine wG Dl TI ?_
 refine fiGenO [.tmp 2] (finG Dl) ?_
 all_goals exact wkG (A4 aP aG aM aU)
theorem MQ{α:Type}(f:α→Int){l:List α}{m:Nat}(h:m<l.length):(if f l[m]>mx ((l.take m).map f)then f l[m]else mx ((l.take m).map f))=mx ((l.take (m+1)).map f):=by
 rw[←Kf f h]
 split<;>omega
theorem HC{α:Type}(f:α→Int){l:List α}{m:Nat}(h:m<l.length):(if 1+f l[m]>1+mx ((l.take m).map f)then 1+f l[m]else 1+mx ((l.take m).map f))=1+mx ((l.take (m+1)).map f):=by
 rw[←Kf f h]
 split<;>omega
def sK:=A7 @iA @lG @iR @mC @qC @fH @jU
theorem JJ: ∀l:List Nd,fitNL l→cnt l≤4194304→PC Tryz.prog 94 [.sl (l.map ndV) .ro] (.im (.int .i64 (dep l))):=by
 refine jN fun l hl hf hc=> ?_
 have hl1:=hf.1
 show PC _ _ _ (.im (.int .i64 (mx (l.map depT))))
 refine pcEnt 33 Tryz.func94 rfl [(0,.sl (l.map ndV) .ro)] ?_
 refine wG sK TI ?_
 refine aT ?_
 refine ALp.cutP 0 [(3,(.im (.int .i64 (mx ((l.take (0)).map depT))))),(9,.sl (l.map ndV) .ro),(10,(.im (.int .i64 (l.length)))),(11,(.im (.int .i64 ((((0:Nat)):Int)))))] [] (A4 aP aG aM aU) ?_
 refine ALp.upto l.length (fun _=>True) (fun m=>⟨dn 33 [(3,(.im (.int .i64 (mx ((l.take (m)).map depT))))),(9,.sl (l.map ndV) .ro),(10,(.im (.int .i64 (l.length)))),(11,(.im (.int .i64 ((((m:Nat)):Int)))))],ofl []⟩) ?_ 0 (Nat.zero_le _) trivial
 intro m hm _ hnext
 by_cases hlt:m<l.length
 ·have hlt':(m:Int)<(l.length:Int):=by omega
  have hm1:=aQ hlt (by omega)
  have hg:=bJ hlt;have ht:=hf.2 _ (List.getElem_mem hlt);have hx:=Ui l[m] (lJ ht).2.2.2.2.2.1;obtain⟨hs1,hs2⟩:=vM ht;have hcs: ∀c∈subs l[m],1+cnt c≤cnt l:=fun c hc=>Ks (List.getElem_mem hlt) hc
  have hR:=fun c hc'=>hl l[m] (List.getElem_mem hlt) c hc' (hs2 c hc') (by have:=hcs c hc';omega)
  have hmx:=MQ depT hlt;rw[Dg]at hmx;generalize subs l[m]=sb at hx hs1 hs2 hcs hR hmx;refine wG sK (A3 hlt' hg ND) ?_;refine AR.callP hx fZ (A4 aP aG aM aU) ?_;refine goG sK @List.length_map.{0,0} ?_;refine wG sK @List.length_map.{0,0} ?_;refine aT ?_;refine ALp.cutP 0 [(3,(.im (.int .i64 (mx ((l.take m).map depT))))),(6,(.im (.int .i64 (1+mx ((sb.take (0)).map dep))))),(9,.sl (l.map ndV) .ro),(10,(.im (.int .i64 (l.length)))),(11,(.im (.int .i64 ((m:Int))))),(16,.sl (sb.map nlV) .ro),(17,(.im (.int .i64 (sb.length)))),(18,(.im (.int .i64 ((((0:Nat)):Int)))))] [] (A4 aP aG aM aU) ?_;refine ALp.upto sb.length (fun _=>True) (fun j=>⟨dn 33 [(3,(.im (.int .i64 (mx ((l.take m).map depT))))),(6,(.im (.int .i64 (1+mx ((sb.take (j)).map dep))))),(9,.sl (l.map ndV) .ro),(10,(.im (.int .i64 (l.length)))),(11,(.im (.int .i64 ((m:Int))))),(16,.sl (sb.map nlV) .ro),(17,(.im (.int .i64 (sb.length)))),(18,(.im (.int .i64 ((((j:Nat)):Int)))))],ofl []⟩) ?_ 0 (Nat.zero_le _) trivial
  intro j hj _ hnext2
  by_cases hlu:j<sb.length
  ·have hlu':(j:Int)<(sb.length:Int):=by omega
   have hj1:=aQ hlu (by omega)
   have hg2:=bJ hlu;have hc2:=hR sb[j] (List.getElem_mem hlu);have hd0:=Fs sb[j];have hd1:=Rw sb[j];have hd2:=hcs sb[j] (List.getElem_mem hlu);have hw:IntKind.i64.wrap (1+dep sb[j])=1+dep sb[j]:=cI (by omega)
   have hmx2:=HC dep hlu;refine wG sK (A3 hlu' hg2 ND) ?_;refine AR.callP hc2 Ez (A4 aP aG aM aU) ?_;refine goG sK (AI hw hmx2) ?_;refine wG sK hj1 ?_;refine ALp.cutP 0 [(3,(.im (.int .i64 (mx ((l.take m).map depT))))),(6,(.im (.int .i64 (1+mx ((sb.take (j+1)).map dep))))),(9,.sl (l.map ndV) .ro),(10,(.im (.int .i64 (l.length)))),(11,(.im (.int .i64 ((m:Int))))),(16,.sl (sb.map nlV) .ro),(17,(.im (.int .i64 (sb.length)))),(18,(.im (.int .i64 ((((j+1:Nat)):Int)))))] [] (A4 aP aG aM aU) ?_;exact hnext2 (j+1) (by omega) (by omega) trivial
  obtain rfl:j=sb.length:=by omega
  clear hnext2;rw[List.take_length];refine whG sK @Int.lt_irrefl ?_;refine Blk'.here (Thn.n ?_);refine wG sK (AI hmx hm1) ?_;refine ALp.cutP 0 [(3,(.im (.int .i64 (mx ((l.take (m+1)).map depT))))),(9,.sl (l.map ndV) .ro),(10,(.im (.int .i64 (l.length)))),(11,(.im (.int .i64 ((((m+1:Nat)):Int)))))] [] (A4 aP aG aM aU) ?_;exact hnext (m+1) (by omega) (by omega) trivial
 obtain rfl:m=l.length:=by omega
 clear hnext
 rw[List.take_length]
 refine wG sK @Int.lt_irrefl ?_
 exact aD
def BN16:=A15 Fb Az vL vK yQ wF Ey Ax Eu Et Ew Ay Ez @List.getElem?_map.{0,0} @Int.natCast_nonneg
def plV(p:Nd×Bool):V:= .ag [.im (.int .i64 p.1.kind),.im (.int .i64 p.1.width),.im (.string p.1.name),.sl (p.1.e.map exV) .ro,.sl (p.1.l.map ndV) .ro,.sl (p.1.el.map ndV) .ro,.sl (p.1.cs.map nlV) .ro,.im (.bool p.2)]
theorem pQ(p:Nd×Bool):plV p= .ag [.im (.int .i64 p.1.kind),.im (.int .i64 p.1.width),.im (.string p.1.name),.sl (p.1.e.map exV) .ro,.sl (p.1.l.map ndV) .ro,.sl (p.1.el.map ndV) .ro,.sl (p.1.cs.map nlV) .ro,.im (.bool p.2)]:=rfl
theorem Nc(p:Nd×Bool):(plV p).live=true:=rfl
theorem Nb(p:Nd×Bool):(plV p).size=8:=rfl
theorem Nf(p:Nd×Bool):(plV p).isAg=true:=rfl
theorem Ng(p:Nd×Bool):(plV p).firm=true:=rfl
theorem Ij(g:Bool)(p:Nd×Bool):strip g (plV p)=plV p:=rfl
theorem Ik(p:Nd×Bool):(plV p).cells=[.im (.int .i64 p.1.kind),.im (.int .i64 p.1.width),.im (.string p.1.name),.sl (p.1.e.map exV) .ro,.sl (p.1.l.map ndV) .ro,.sl (p.1.el.map ndV) .ro,.sl (p.1.cs.map nlV) .ro,.im (.bool p.2)]:=rfl
theorem gG(p:Nat→Bool)(x:Nd×Bool):(plV x).ids p=true:=by simp[plV,V.ids,V.idsL,aE,aG,aM]
theorem fF(p:Nat→Bool)(l:List (Nd×Bool)):V.idsL p (l.map plV)=true:=iJ (gG p) l
theorem yO(l:List (Nd×Bool)):mU 8 (l.map plV)=true:=by
 unfold mU
 rw[List.all_map]
 exact List.all_eq_true.2 fun x _=>rfl
theorem nZ{α β:Type}(f:α→List β){l:List α}{m:Nat}(h:m<l.length):(l.take m).flatMap f++f l[m]=(l.take (m+1)).flatMap f:=by
 rw[List.take_succ_eq_append_getElem h,List.flatMap_append]
 simp
theorem qP{α β:Type}(f:α→List β)(l:List α)(m:Nat):((l.take m).flatMap f).length≤(l.flatMap f).length:=by
 have h:l.flatMap f=(l.take m).flatMap f++(l.drop m).flatMap f:=by rw[←List.flatMap_append,List.take_append_drop]
 rw[h,List.length_append]
 omega
def qW:=A15 @iA @cJ @lG @iR @Qb @FG @Py @mC @qC @jA @EY @fH @Ps @cH @jU
theorem QN: ∀l:List Nd,fitNL l→cnt l≤4194304→ ∀lp:Bool,PC Tryz.prog 95 [.sl (l.map ndV) .ro,(.im (.bool (lp)))] (.sl ((allL l lp).map plV) .ro):=by
 refine jN fun l hl hf hc lp=> ?_
 have hl1:=hf.1
 have hlen:=Pl l lp
 unfold allL at hlen ⊢
 refine pcEnt 47 Tryz.func95 rfl [(0,.sl (l.map ndV) .ro),(1,(.im (.bool (lp))))] ?_
 refine wG qW TI ?_
 refine aT ?_
 refine ALp.ghost 5 [] .nl 167 8 ?_
 refine ALp.cutP 1 [(1,(.im (.bool (lp)))),(5,.sl (((l.take (0)).flatMap fun t=>allT t lp).map plV) (.own 0)),(10,.sl (l.map ndV) .ro),(11,(.im (.int .i64 (l.length)))),(12,(.im (.int .i64 ((((0:Nat)):Int)))))] [.tip 167 8 ((l.take (0)).flatMap fun t=>allT t lp).length] (A7 aP aG aM aU gG fF @aE) ?_
 refine ALp.upto l.length (fun _=>True) (fun m=>⟨dn 47 [(1,(.im (.bool (lp)))),(5,.sl (((l.take (m)).flatMap fun t=>allT t lp).map plV) (.own 0)),(10,.sl (l.map ndV) .ro),(11,(.im (.int .i64 (l.length)))),(12,(.im (.int .i64 ((((m:Nat)):Int)))))],ofl [.tip 167 8 ((l.take (m)).flatMap fun t=>allT t lp).length]⟩) ?_ 0 (Nat.zero_le _) trivial
 intro m hm _ hnext
 by_cases hlt:m<l.length
 ·have hlt':(m:Int)<(l.length:Int):=by omega
  have hm1:=aQ hlt (by omega)
  have hg:=bJ hlt;have ht:=hf.2 _ (List.getElem_mem hlt);have hx:=Ui l[m] (lJ ht).2.2.2.2.2.1;obtain⟨hs1,hs2⟩:=vM ht;have hcs: ∀c∈subs l[m],1+cnt c≤cnt l:=fun c hc=>Ks (List.getElem_mem hlt) hc
  have hR:=fun c hc'=>hl l[m] (List.getElem_mem hlt) c hc' (hs2 c hc') (by have:=hcs c hc';omega) (inL l[m] lp)
  have hsn:=nZ (fun t=>allT t lp) hlt
  have hle:=qP (fun t=>allT t lp) l (m+1)
  have hle0:=qP (fun t=>allT t lp) l m
  simp only[zI l[m]]at hsn;generalize hA:(l.take m).flatMap (fun t=>allT t lp)=A at hsn hle0 ⊢
  generalize hsb:subs l[m]=sb at hx hs1 hs2 hcs hR hsn;obtain⟨Bf,hBf⟩: ∃Bf:Nat→List (Nd×Bool),∀j,Bf j=A++(l[m],lp)::(sb.take j).flatMap fun c=>allL c (inL l[m] lp):=⟨_,fun _=>rfl⟩
  have hap:A.map plV++[.ag [.im (.int .i64 l[m].kind),.im (.int .i64 l[m].width),.im (.string l[m].name),.sl (l[m].e.map exV) .ro,.sl (l[m].l.map ndV) .ro,.sl (l[m].el.map ndV) .ro,.sl (l[m].cs.map nlV) .ro,.im (.bool lp)]]=(Bf 0).map plV:=by
   rw[hBf];simp[plV]
  have hone:A.length+1=(Bf 0).length:=by rw[hBf];simp
  have hend:Bf sb.length=(l.take (m+1)).flatMap fun t=>allT t lp:=by
   rw[hBf,List.take_length,←hsn]
  have hstep: ∀j (hj:j<sb.length),Bf j++allL sb[j] (inL l[m] lp)=Bf (j+1):=fun j hj=>by
   rw[hBf,hBf,←nZ _ hj,List.append_assoc,List.cons_append]
  have hlen2: ∀j,(Bf j).length≤(Bf sb.length).length:=fun j=>by
   rw[hBf,hBf,List.length_append,List.length_append,List.length_cons,List.length_cons,List.take_length];have:=qP (fun c=>allL c (inL l[m] lp)) sb j
   omega
  rw[hend]at hlen2;have hb:(A.length+1)*136≤140737488355328:=by omega
  have hb0:(Bf 0).length*136≤140737488355328:=by have:=hlen2 0;omega
  refine wG qW (A7 hlt' hg hb hb0 hap hone ND) ?_;refine AR.callP hx fZ (A7 aP aG aM aU gG fF @aE) ?_;refine goG qW (AI @List.length_map.{0,0} ND) ?_;refine wG qW (AI @List.length_map.{0,0} ND) ?_;refine aT ?_;refine ALp.cutP 2 [(1,(.im (.bool (lp)))),(5,.sl ((Bf (0)).map plV) (.own 0)),(7,.pt 1 0),(10,.sl (l.map ndV) .ro),(11,(.im (.int .i64 (l.length)))),(12,(.im (.int .i64 ((m:Int))))),(23,.sl (sb.map nlV) .ro),(24,(.im (.int .i64 (sb.length)))),(25,(.im (.int .i64 ((((0:Nat)):Int)))))] [.tip 167 8 (Bf (0)).length,.box [.im (.int .i64 l[m].kind),.im (.int .i64 l[m].width),.im (.string l[m].name),.sl (l[m].e.map exV) .ro,.sl (l[m].l.map ndV) .ro,.sl (l[m].el.map ndV) .ro,.sl (l[m].cs.map nlV) .ro]] (A7 aP aG aM aU gG fF @aE) ?_;refine ALp.upto sb.length (fun _=>True) (fun j=>⟨dn 47 [(1,(.im (.bool (lp)))),(5,.sl ((Bf (j)).map plV) (.own 0)),(7,.pt 1 0),(10,.sl (l.map ndV) .ro),(11,(.im (.int .i64 (l.length)))),(12,(.im (.int .i64 ((m:Int))))),(23,.sl (sb.map nlV) .ro),(24,(.im (.int .i64 (sb.length)))),(25,(.im (.int .i64 ((((j:Nat)):Int)))))],ofl [.tip 167 8 (Bf (j)).length,.box [.im (.int .i64 l[m].kind),.im (.int .i64 l[m].width),.im (.string l[m].name),.sl (l[m].e.map exV) .ro,.sl (l[m].l.map ndV) .ro,.sl (l[m].el.map ndV) .ro,.sl (l[m].cs.map nlV) .ro]]⟩) ?_ 0 (Nat.zero_le _) trivial
  intro j hj _ hnext2
  by_cases hlu:j<sb.length
  ·have hlu':(j:Int)<(sb.length:Int):=by omega
   have hj1:=aQ hlu (by omega)
   have hg2:=bJ hlu;have hc2:=hR sb[j] (List.getElem_mem hlu);have hs3:=congrArg (List.map plV) (hstep j hlu);rw[List.map_append]at hs3;have hs4:=congrArg List.length (hstep j hlu);rw[List.length_append]at hs4;have hb1:(Bf (j+1)).length*136≤140737488355328:=by have:=hlen2 (j+1);omega
   refine wG qW (A3 hlu' hg2 ND) ?_;have hin:inL l[m] lp=(lp||decide (l[m].kind=7)||decide (l[m].kind=8)):=rfl;refine AR.callP hc2 (AI Ez hin) (A7 aP aG aM aU gG fF @aE) ?_;refine goG qW (A5 hs3 hs4 hb1 yO @List.length_map.{0,0}) ?_;refine wG qW hj1 ?_;refine ALp.cutP 2 [(1,(.im (.bool (lp)))),(5,.sl ((Bf (j+1)).map plV) (.own 0)),(7,.pt 1 0),(10,.sl (l.map ndV) .ro),(11,(.im (.int .i64 (l.length)))),(12,(.im (.int .i64 ((m:Int))))),(23,.sl (sb.map nlV) .ro),(24,(.im (.int .i64 (sb.length)))),(25,(.im (.int .i64 ((((j+1:Nat)):Int)))))] [.tip 167 8 (Bf (j+1)).length,.box [.im (.int .i64 l[m].kind),.im (.int .i64 l[m].width),.im (.string l[m].name),.sl (l[m].e.map exV) .ro,.sl (l[m].l.map ndV) .ro,.sl (l[m].el.map ndV) .ro,.sl (l[m].cs.map nlV) .ro]] (A7 aP aG aM aU gG fF @aE) ?_;exact hnext2 (j+1) (by omega) (by omega) trivial
  obtain rfl:j=sb.length:=by omega
  clear hnext2;rw[hend];refine whG qW @Int.lt_irrefl ?_;refine Blk'.here (Thn.n ?_);refine wG qW hm1 ?_;refine ALp.cutP 1 [(1,(.im (.bool (lp)))),(5,.sl (((l.take (m+1)).flatMap fun t=>allT t lp).map plV) (.own 0)),(10,.sl (l.map ndV) .ro),(11,(.im (.int .i64 (l.length)))),(12,(.im (.int .i64 ((((m+1:Nat)):Int)))))] [.tip 167 8 ((l.take (m+1)).flatMap fun t=>allT t lp).length] (A7 aP aG aM aU gG fF @aE) ?_
  exact hnext (m+1) (by omega) (by omega) trivial
 obtain rfl:m=l.length:=by omega
 clear hnext
 rw[List.take_length]
 refine wG qW @Int.lt_irrefl ?_
 refine fiGenO [.tmp 4] (finG qW) ?_
 all_goals exact wkG (A7 aP aG aM aU gG fF @aE)
def BN09:=A7 aP aG aM aU gG fF @aE
theorem JZ{α β:Type}{p:α→β→Bool}{l:List α}{m:List β}(h:l.length≠m.length):all2 p l m=false:=by
 rw[←Bool.not_eq_true,vQ]
 exact fun k=>h k.1
theorem KC{α β:Type}{p:α→β→Bool}{l:List α}{m:List β}{i:Nat}(h1:i<l.length)(h2:i<m.length)(h:p l[i] m[i]=false):all2 p l m=false:=by
 rw[←Bool.not_eq_true,vQ]
 exact fun k=>by rw[k.2 i h1 h2]at h;cases h
def to2{α β:Type}(p:α→β→Bool)(l:List α)(k:List β)(m:Nat):Prop:= ∀j (h1:j<l.length) (h2:j<k.length),j<m→p l[j] k[j]=true
theorem to2.zero{α β:Type}(p:α→β→Bool)(l:List α)(k:List β):to2 p l k 0:=fun j _ _ h=>absurd h (Nat.not_lt_zero j)
theorem to2.succ{α β:Type}{p:α→β→Bool}{l:List α}{k:List β}{m:Nat}(h:to2 p l k m)(h1:m<l.length)(h2:m<k.length)(hp:p l[m] k[m]=true):to2 p l k (m+1):=fun j j1 j2 hj=>by
 rcases Nat.lt_succ_iff_lt_or_eq.1 hj with hj|rfl
 ·exact h j j1 j2 hj
 ·exact hp
theorem to2.all{α β:Type}{p:α→β→Bool}{l:List α}{k:List β}(h:to2 p l k l.length)(he:l.length=k.length):all2 p l k=true:=vQ.2 ⟨he,fun j j1 j2=>h j j1 j2 j1⟩
end Go.Proofs.YtmbmmckagcdapaaGreatDoor
