import Derived.Test.YtmbmmckagcdapaaGreatDoorQ31
set_option linter.all false
namespace Go.Proofs.YtmbmmckagcdapaaGreatDoor
open Go.RowKit
inductive FitW:Ty→Prop
 | mk {o k s c:Int} {es fs:List Ty} (h0:I64 o∧I64 k∧I64 s∧I64 c) (h1:es.length≤140737488355328) (h2:fs.length≤140737488355328) (h3: ∀t∈es,FitW t) (h4: ∀t∈fs,FitW t):FitW (.mk o k s c es fs)
theorem FitW.inv{o k s c:Int}{es fs:List Ty}(h:FitW (.mk o k s c es fs)):(I64 o∧I64 k∧I64 s∧I64 c)∧es.length≤140737488355328∧fs.length≤140737488355328∧(∀t∈es,FitW t)∧ ∀t∈fs,FitW t:=by
 cases h with
 | mk h0 h1 h2 h3 h4=>exact⟨h0,h1,h2,h3,h4⟩
inductive FitEW:Ex→Prop
 | mk {o n:Int} {s:ByteArray} {w:Int} {l:List Ex} (h0:I64 o∧(0≤n∧n≤4294967295)∧I64 w) (h1:l.length≤140737488355328) (h2:s.size≤9223372036854775807) (h3: ∀t∈l,FitEW t):FitEW (.mk o n s w l)
theorem FitEW.inv{o n:Int}{s:ByteArray}{w:Int}{l:List Ex}(h:FitEW (.mk o n s w l)):(I64 o∧(0≤n∧n≤4294967295)∧I64 w)∧l.length≤140737488355328∧s.size≤9223372036854775807∧ ∀t∈l,FitEW t:=by
 cases h with
 | mk h0 h1 h2 h3=>exact⟨h0,h1,h2,h3⟩
inductive FitNW:Nd→Prop
 | mk {k w:Int} {n:ByteArray} {e:List Ex} {l el:List Nd} {cs:List (List Nd)} (h1:I64 k∧I64 w) (h2:n.size≤9223372036854775807) (h3:e.length≤140737488355328∧l.length≤140737488355328∧el.length≤140737488355328∧cs.length≤140737488355328)
  (h4: ∀x∈e,FitEW x) (h5: ∀t∈l,FitNW t) (h6: ∀t∈el,FitNW t) (h7: ∀c∈cs,c.length≤140737488355328) (h8: ∀c∈cs,∀t∈c,FitNW t):FitNW (.mk k w n e l el cs)
def FitNLW(l:List Nd):Prop:=l.length≤140737488355328∧ ∀t∈l,FitNW t
theorem Kh{t:Nd}(h:FitNW t):(I64 t.kind∧I64 t.width)∧t.name.size≤9223372036854775807∧(t.e.length≤140737488355328∧ ∀x∈t.e,FitEW x)∧FitNLW t.l∧FitNLW t.el∧t.cs.length≤140737488355328∧ ∀c∈t.cs,FitNLW c:=by
 cases h with
 | mk h1 h2 h3 h4 h5 h6 h7 h8=>exact⟨h1,h2,⟨h3.1,h4⟩,⟨h3.2.1,h5⟩,⟨h3.2.2.1,h6⟩,h3.2.2.2,fun c hc=>⟨h7 c hc,h8 c hc⟩⟩
def Oe(l:List Va):Prop:= ∀v∈l,FitW v.ty∧v.name.size≤9223372036854775807
structure FitFnW (f:Fun):Prop where
 vl:f.vars.length≤140737488355328
 vn:Oe f.vars
 bd:FitNLW f.body
 nm:f.name.size≤9223372036854775807
structure FitUW (u:Un):Prop where
 gl:u.globals.length≤140737488355328
 gn:Oe u.globals
 dl:u.data.length≤140737488355328
 dn:Ut u.data
 fl:u.funcs.length≤140737488355328
 fn: ∀f∈u.funcs,FitFnW f
section
variable {H:Type} {P:Program}
def Wt(P:Program)(t:TypeId)(d:DataW H):Prop:= ∀n∈d.weights P t,n≤reachBytes
def WtL(P:Program):List TypeId→List (DataW H)→Prop
 | t::ts,x::xs=>Wt P t x∧WtL P ts xs
 | _,_=>True
theorem Wc: ∀ {ts:List TypeId} {ds:List (DataW H)},(∀n∈DataW.weightsEach P ts ds,n≤reachBytes)→WtL P ts ds
 | t::ts,x::xs,h=>⟨fun n hn=>h n (by simp only[DataW.weightsEach];exact List.mem_append_left _ hn),Wc fun n hn=>h n (by simp only[DataW.weightsEach];exact List.mem_append_right _ hn)⟩
 | [],_,_=>by simp only[WtL]
 | _::_,[],_=>by simp only[WtL]
theorem Za{ts:List TypeId}{ds:List (DataW H)}(h:(DataW.weightsEach P ts ds).all (· ≤reachBytes)=true):WtL P ts ds :=
 Wc fun n hn=>of_decide_eq_true (List.all_eq_true.1 h n hn)
theorem Wt.agg{t:TypeId}{ts:List TypeId}{ps:List (DataW H)}(h:Wt P t (.agg ps))(ht:Df P t=some ts):WtL P ts ps:=by
 refine Wc fun n hn=>h n ?_
 unfold Df at ht
 simp only[DataW.weights]
 cases hu:P.underlying t with
 | none=>rw[hu]at ht;cases ht
 | some u =>
  rw[hu]at ht;cases u with
  | struct fs=>cases ht;exact hn
  | _=>cases ht
theorem wAll{e:TypeId}{x:DataW H}{n:Nat}: ∀ {es:List (DataW H)},x∈es→n∈x.weights P e→n∈DataW.weightsAll P e es
 | y::r,h,hn=>by
  simp only[DataW.weightsAll];rcases List.mem_cons.1 h with rfl|h
  ·exact List.mem_append_left _ hn
  ·exact List.mem_append_right _ (wAll h hn)
theorem Wt.slice{t e:TypeId}{es sp:List (DataW H)}(h:Wt P t (.slice es sp))(ht:eN P t=some e)(hz:decide (1≤P.bytesOf e)=true):es.length≤140737488355328∧ ∀x∈es,Wt P e x:=by
 have hz:=of_decide_eq_true hz
 have hw: ∀n,n∈(es.length+sp.length)*P.bytesOf e::(DataW.weightsAll P e es++DataW.weightsAll P e sp)→n≤reachBytes:=fun n hn=>h n (by
  unfold eN at ht;simp only[DataW.weights];cases hu:P.underlying t with
  | none=>rw[hu]at ht;cases ht
  | some u =>
   rw[hu]at ht;cases u with
   | slice e'=>cases ht;exact hn
   | _=>cases ht)
 constructor
 ·have h1:=hw _ (List.mem_cons_self ..)
  have h2:es.length+sp.length≤(es.length+sp.length)*P.bytesOf e:=Nat.le_mul_of_pos_right _ hz;have h3:reachBytes=140737488351232:=rfl;omega
 ·exact fun x hx n hn=>hw n (List.mem_cons_of_mem _ (List.mem_append_left _ (wAll hx hn)))
theorem jA{α:Type}{G:α→V}{Q:α→Prop}{d:DataW H}{t e:TypeId}(hd:Rd P t d)(hw:Wt P t d)(ht:eN P t=some e)(hz:decide (1≤P.bytesOf e)=true)
  (h: ∀x:DataW H,Rows.uptoBulk x<Rows.uptoBulk d→Rd P e x→Wt P e x→ ∃a,dV x=G a∧Q a): ∃l:List α,dV d= .sl (l.map G) .ro∧l.length≤140737488355328∧ ∀a∈l,Q a:=by
 rcases hd.slice_inv ht with rfl|⟨es,sp,rfl,hes⟩
 ·exact⟨[],by simp[dV],by simp,fun a ha=>by cases ha⟩
 ·have h0:=QW es sp
  obtain⟨w1,w2⟩:=hw.slice ht hz;obtain⟨l,h1,h2,h3⟩:=OH (G:=G) (Q:=Q) (es:=es) fun x hx=>h x (by have:=LH hx;omega) (hes x hx) (w2 x hx)
  exact⟨l,by simp[dV,h1],by omega,h3⟩
end
theorem UL{H:Type}: ∀(N:Nat) (d:DataW H),Rows.uptoBulk d≤N→Rd Tryz.prog 94 d→Wt Tryz.prog 94 d→ ∃t:Ty,dV d=tyV t∧FitW t∧t.off=0:=by
 intro N
 induction N using Nat.strongRecOn with
 | _ N ih =>
  intro d hb hd hw;obtain⟨ps,rfl,hps⟩:=hd.agg_inv C3;have hq:=hw.agg C3;clear hw
  match ps,hps with
  | [d1,d2,d3,d4,d5],⟨h1,h2,h3,h4,h5,_⟩ =>
   obtain⟨_,_,_,w4,w5,_⟩:=hq;obtain⟨k,rfl,hk⟩:=h1.int_inv Cw;obtain⟨s,rfl,hs⟩:=h2.int_inv Cw;obtain⟨c,rfl,hc⟩:=h3.int_inv Cw;simp only[Rows.uptoBulk,Rows.uptoBulkAll]at hb
   obtain⟨es,e1,e2,e3⟩:=jA (G:=tyV) (Q:=FitW) h4 w4 C2 (by kernel_rfl) fun x hx hr hwx=>by
    obtain⟨t,q1,q2,_⟩:=ih (Rows.uptoBulk x) (by omega) x (Nat.le_refl _) hr hwx
    exact⟨t,q1,q2⟩
   obtain⟨fs,f1,f2,f3⟩:=jA (G:=fdV) (Q:=FitW) h5 w5 D0 (by kernel_rfl) fun x hx hr hwx=>by
    obtain⟨qs,rfl,hqs⟩:=hr.agg_inv D3;have hqw:=hwx.agg D3;clear hwx
    match qs,hqs with
    | [x1,x2],⟨r1,r2,_⟩ =>
     obtain⟨_,v2,_⟩:=hqw;obtain⟨o,rfl,ho⟩:=r1.int_inv Cw;simp only[Rows.uptoBulk,Rows.uptoBulkAll]at hx;obtain⟨t,q1,q2,_⟩:=ih (Rows.uptoBulk x2) (by omega) x2 (Nat.le_refl _) r2 v2
     refine⟨.mk o t.kind t.size t.count t.elem t.fields,?_,?_⟩
     ·simp only[dV,dVF,q1,bM,mF,V.cells,List.append_nil,List.cons_append,List.nil_append,Ty.off,Ty.kind,Ty.size,Ty.count,Ty.elem,Ty.fields]
     ·cases t with
      | mk o' k s c es fs=>exact .mk ⟨vI ho,q2.inv.1.2⟩ q2.inv.2.1 q2.inv.2.2.1 q2.inv.2.2.2.1 q2.inv.2.2.2.2
   refine⟨.mk 0 k s c es fs,?_,.mk ⟨by unfold I64;omega,vI hk,vI hs,vI hc⟩ e2 f2 e3 f3,rfl⟩
   simp only[dV,dVF,e1,f1,eE,V.cells,List.append_nil,List.cons_append,List.nil_append]
theorem UP{H:Type}: ∀(N:Nat) (d:DataW H),Rows.uptoBulk d≤N→Rd Tryz.prog 46 d→Wt Tryz.prog 46 d→ ∃t:Ex,dV d=exV t∧FitEW t:=by
 intro N
 induction N using Nat.strongRecOn with
 | _ N ih =>
  intro d hb hd hw;obtain⟨ps,rfl,hps⟩:=hd.agg_inv D4;have hq:=hw.agg D4;clear hw
  match ps,hps with
  | [d1,d2,d3,d4,d5],⟨h1,h2,h3,h4,h5,_⟩ =>
   obtain⟨_,_,_,_,w5,_⟩:=hq;obtain⟨o,rfl,ho⟩:=h1.int_inv Cw;obtain⟨n,rfl,hn⟩:=h2.int_inv SY;obtain⟨s,rfl,hs⟩:=h3.string_inv Tryz.underlying9;obtain⟨w,rfl,hw⟩:=h4.int_inv Cw;simp only[Rows.uptoBulk,Rows.uptoBulkAll]at hb;obtain⟨l,e1,e2,e3⟩:=jA (G:=exV) (Q:=FitEW) h5 w5 TA (by kernel_rfl) fun x hx hr hwx=>ih (Rows.uptoBulk x) (by omega) x (Nat.le_refl _) hr hwx
   refine⟨.mk o n s w l,?_,.mk ⟨vI ho,LQ hn,vI hw⟩ e2 (Nat.le_trans hs (by decide)) e3⟩
   simp only[dV,dVF,e1,gV,V.cells,List.append_nil,List.cons_append,List.nil_append]
theorem UO{H:Type}: ∀(N:Nat) (d:DataW H),Rows.uptoBulk d≤N→Rd Tryz.prog 165 d→Wt Tryz.prog 165 d→ ∃t:Nd,dV d=ndV t∧FitNW t:=by
 intro N
 induction N using Nat.strongRecOn with
 | _ N ih =>
  intro d hb hd hw;obtain⟨ps,rfl,hps⟩:=hd.agg_inv C7;have hq:=hw.agg C7;clear hw
  match ps,hps with
  | [d1,d2,d3,d4,d5,d6,d7],⟨h1,h2,h3,h4,h5,h6,h7,_⟩ =>
   obtain⟨_,_,_,w4,w5,w6,w7,_⟩:=hq;obtain⟨k,rfl,hk⟩:=h1.int_inv Cw;obtain⟨w,rfl,hw⟩:=h2.int_inv Cw;obtain⟨s,rfl,hs⟩:=h3.string_inv Tryz.underlying9;simp only[Rows.uptoBulk,Rows.uptoBulkAll]at hb
   have hL: ∀x:DataW H,Rows.uptoBulk x<N→Rd Tryz.prog 35 x→Wt Tryz.prog 35 x→ ∃l:List Nd,dV x= .sl (l.map ndV) .ro∧FitNLW l:=fun x hx hr hwx =>
    jA (G:=ndV) (Q:=FitNW) hr hwx SZ (by kernel_rfl) fun y hy hry hwy=>ih (Rows.uptoBulk y) (by omega) y (Nat.le_refl _) hry hwy
   obtain⟨es,e1,e2,e3⟩:=jA (G:=exV) (Q:=FitEW) h4 w4 TA (by kernel_rfl) fun x hx hr hwx=>UP _ x (Nat.le_refl _) hr hwx
   obtain⟨l,l1,l2,l3⟩:=hL d5 (by omega) h5 w5
   obtain⟨el,m1,m2,m3⟩:=hL d6 (by omega) h6 w6
   obtain⟨cs,c1,c2,c3⟩:=jA (G:=nlV) (Q:=FitNLW) h7 w7 C6 (by kernel_rfl) fun x hx hr hwx=>hL x (by omega) hr hwx
   refine⟨.mk k w s es l el cs,?_,.mk ⟨vI hk,vI hw⟩ (Nat.le_trans hs (by decide)) ⟨e2,l2,m2,c2⟩ e3 l3 m3 (fun c hc=>(c3 c hc).1) fun c hc=>(c3 c hc).2⟩
   simp only[dV,dVF,e1,l1,m1,c1,eW,V.cells,List.append_nil,List.cons_append,List.nil_append]
theorem UN{H:Type}(d:DataW H)(hd:Rd Tryz.prog 35 d)(hw:Wt Tryz.prog 35 d): ∃l:List Nd,dV d= .sl (l.map ndV) .ro∧FitNLW l :=
 jA (G:=ndV) (Q:=FitNW) hd hw SZ (by kernel_rfl) fun y hy hry hwy=>UO _ y (Nat.le_refl _) hry hwy
theorem GY{H:Type}(d:DataW H)(hd:Rd Tryz.prog 23 d)(hw:Wt Tryz.prog 23 d): ∃vs:List Va,dV d= .sl (vs.map vaV) .ro∧vs.length≤140737488355328∧Oe vs :=
 jA (G:=vaV) (Q:=fun v:Va=>FitW v.ty∧v.name.size≤9223372036854775807) hd hw B8 (by kernel_rfl) fun x hx hr hwx=>by
  obtain⟨ps,rfl,hps⟩:=hr.agg_inv B9;have hq:=hwx.agg B9;clear hwx
  match ps,hps with
  | [d1,d2],⟨h1,h2,_⟩ =>
   obtain⟨_,w2,_⟩:=hq;obtain⟨s,rfl,hs⟩:=h1.string_inv Tryz.underlying9;obtain⟨t,q1,q2,_⟩:=UL _ d2 (Nat.le_refl _) h2 w2;refine⟨⟨s,t⟩,?_,q2,Nat.le_trans hs (by decide)⟩
   simp only[dV,dVF,q1,bM,qR,V.cells,List.append_nil,List.cons_append,List.nil_append]
theorem HC{H:Type}(d:DataW H)(hd:Rd Tryz.prog 37 d)(hw:Wt Tryz.prog 37 d): ∃f:Fun,dV d=fnV f∧FitFnW f:=by
 obtain⟨ps,rfl,hps⟩:=hd.agg_inv C9
 have hq:=hw.agg C9
 clear hw
 match ps,hps with
 | [d1,d2,d3],⟨h1,h2,h3,_⟩ =>
  obtain⟨_,w2,w3,_⟩:=hq;obtain⟨s,rfl,hs⟩:=h1.string_inv Tryz.underlying9;obtain⟨vs,e1,e2,e3⟩:=GY d2 h2 w2;obtain⟨l,l1,l2⟩:=UN d3 h3 w3;refine⟨⟨s,vs,l⟩,?_,⟨e2,e3,l2,Nat.le_trans hs (by decide)⟩⟩
  simp only[dV,dVF,e1,l1,fnV,V.cells,List.append_nil,List.cons_append,List.nil_append]
theorem UM{H:Type}(d:DataW H)(hd:Rd Tryz.prog 76 d)(hw:Wt Tryz.prog 76 d): ∃s:Sec,dV d=scV s∧s.name.size≤9223372036854775807∧(0≤s.addr∧s.addr<4294967296)∧s.data.length≤140737488355328:=by
 obtain⟨ps,rfl,hps⟩:=hd.agg_inv C5
 have hq:=hw.agg C5
 clear hw
 match ps,hps with
 | [d1,d2,d3,d4,d5],⟨h1,h2,h3,h4,h5,_⟩ =>
  obtain⟨_,_,w3,_⟩:=hq;obtain⟨s,rfl,hs⟩:=h1.string_inv Tryz.underlying9;obtain⟨a,rfl,ha⟩:=h2.int_inv SY;obtain⟨w,rfl⟩:=h4.bool_inv Tryz.underlying4;obtain⟨x,rfl⟩:=h5.bool_inv Tryz.underlying4
  obtain⟨l,e1,e2,_⟩:=jA (G:=fun b:UInt8=>V.im (.int .u8 b.toNat)) (Q:=fun _=>True) h3 w3 D5 (by kernel_rfl) fun y _ hr _=>by
   obtain⟨n,rfl,hn⟩:=hr.int_inv E6;have hn:0≤n∧n≤255:=hn;refine⟨UInt8.ofNat n.toNat,?_,trivial⟩;simp only[dV,UInt8.toNat_ofNat']
   congr 2
   omega
  have ha:=LQ ha;refine⟨⟨s,a,l,w,x⟩,?_,Nat.le_trans hs (by decide),⟨ha.1,by show a<4294967296;omega⟩,e2⟩
  simp only[dV,dVF,e1,scV,V.cells,List.append_nil,List.cons_append,List.nil_append]
theorem UK{H:Type}(d:DataW H)(hd:Rd Tryz.prog 27 d)(hw:Wt Tryz.prog 27 d): ∃u:Un,dV d=unV u∧FitUW u∧ ∀s∈u.data,(0≤s.addr∧s.addr<4294967296)∧s.data.length≤140737488355328:=by
 obtain⟨ps,rfl,hps⟩:=hd.agg_inv C1
 have hq:=hw.agg C1
 clear hw
 match ps,hps with
 | [d1,d2,d3],⟨h1,h2,h3,_⟩ =>
  obtain⟨w1,w2,w3,_⟩:=hq;obtain⟨vs,e1,e2,e3⟩:=GY d1 h1 w1;obtain⟨l,l1,l2,l3⟩:=jA (G:=scV) (Q:=fun s:Sec=>s.name.size≤9223372036854775807∧(0≤s.addr∧s.addr<4294967296)∧s.data.length≤140737488355328) h2 w2 C4 (by kernel_rfl) fun x hx hr hwx=>UM x hr hwx
  obtain⟨fs,f1,f2,f3⟩:=jA (G:=fnV) (Q:=FitFnW) h3 w3 C8 (by kernel_rfl) fun x hx hr hwx=>HC x hr hwx
  refine⟨⟨vs,l,fs⟩,?_,⟨e2,e3,l2,fun s hs=>(l3 s hs).1,f2,f3⟩,fun s hs=>(l3 s hs).2⟩
  simp only[dV,dVF,e1,l1,f1,unV,V.cells,List.append_nil,List.cons_append,List.nil_append]
end Go.Proofs.YtmbmmckagcdapaaGreatDoor
namespace Go.Proofs.YtmbmmckagcdapaaGreatDoor
open Go.RowKit Go.ChangeShapes Go.WideShapes Go.WideMaps Go.WideElems
section
variable {H:Type} {enc:TypeId×Value→H} {P:Program} {W:World}
theorem Qi{f:FuncId}{fn:Func}{s:ChangeSpec}{L:List TypeId}{B:TypeId}{b:Nat}{args:Array Value}{ds gs:List (DataW H)}{before:List MemPlace}(hL:BE P L=true)(hl:laidOutB P=true)(hpar: ∀t∈fn.params.toList,t∈L∧P.readableRec t=true∧t<P.types.size)
  (hvars:s.vars=[]) (hres:fn.resultTypes= #[B]) (hB:P.underlying B=some .bool) (hs: ∀ds:List (DataW H),RdL P fn.params.toList ds→s.fn H (ds++[])={results:=[.lit (.bool true)],args:=ds})
  (hP: ∀ds:List (DataW H),RdL P fn.params.toList ds→(DataW.weightsEach P fn.params.toList ds).all (· ≤reachBytes)=true→PC P f (ds.map dV) (.im (.bool true)))
  (hval: ∀(j:Nat) t v,fn.params[j]? =some t→args[j]? =some v→Value.okWide P W .any b t v) (hW:DataW.Whole enc P fn.params.toList s.vars false W args.toList ds gs before)
  {X:List TypeId} (hk:(DataW.weightsEach P (fn.params.toList++X) (ds++gs)).all (· ≤reachBytes)=true) (hX:X=[]) (hg:(Cf.raw W).known) :
  Calls P f args W fun e W'=> ∃v,e= .returned v∧s.post enc P fn false true false false W args v W':=by
 have hlt:=hW.lt
 have hW':=hW
 obtain⟨p,q,hA,hV,rfl,_,_⟩:=hW
 rw[hvars]at hV
 obtain⟨rfl,rfl⟩:=trodVars_none hV
 obtain⟨h1,h2,h3⟩:=Yx hL (b:=b) _ _ _ _ (fun t ht=>(hpar t ht).1) (fun j t v h4 h5=>hval j t v (by simpa using h4) (by simpa using h5)) hA
 have hb:(DataW.weightsEach P fn.params.toList ds).all (· ≤reachBytes)=true:=by rwa [hX,List.append_nil,List.append_nil]at hk
 refine((hP ds h1 hb).2 (Cf.raw W) args rfl (US hg) (by simpa using h2) (fun i hi=> ?_)).mono ?_
 ·have:=h3 i hi
  simpa[List.getD,Array.getD_eq_getD_getElem?]using this
 ·rintro e W' ⟨v,x,st',rfl,⟨rfl,rfl⟩,D,rfl,_,_,hE,hR⟩
  have hBel:=BA hE;obtain rfl:=hR.of_some_bool;refine⟨_,rfl,ds,[],_,[],p,[],hW',?_,?_,?_,hBel.frame _,fun h=>by cases h⟩
  ·rw[hs ds h1,hres]
   exact trodAll_mk1 (shut_bool hB true)
  ·rw[hs ds h1]
   exact Kw hl hBel _ _ _ _ (fun t ht=>(hpar t ht).2) (fun x hx=>hlt x (by simp[hx])) hA
  ·rw[hs ds h1,hvars]
   rfl
end
end Go.Proofs.YtmbmmckagcdapaaGreatDoor
namespace Go.Proofs.YtmbmmckagcdapaaGreatDoor
open Go.RowKit
theorem Ag{P:Program}{f:FuncId}{x:V}{es:List V}{l l':List Ent}{r:V}(h:DC P f [x,.sl es .ro] l r l'):DC P f [x,.sl es .full] l r l' :=
 ⟨h.1,fun C vs hst hC hsz hR=>h.2 C vs hst hC hsz fun i hi=>match i,hi with
  | 0,_=>hR 0 (by simp)
  | 1,_=>Wk.ro _ _ C _ (hR 1 (by simp))⟩
theorem nI(b x r:Bs)(k:Nat)(hr:b++lnT k x=r)(hlen:r.length≤140737488355328):DC Tryz.prog 36 [.pt 0 0,.sl [.im (.string ⟨(x).toArray⟩)] .full] [.box [.nb 0 PQ,.sl ((b).map byB) (.mine 1),(.im (.int .i64 ((k:Int))))],.tip 5 1 (b).length] (.tu []) [.box [.nb 0 PQ,.sl ((r).map byB) (.mine 1),(.im (.int .i64 ((k:Int))))],.tip 5 1 (r).length]:=by
 subst hr
 exact Ag<|Mw b [x] x (by simp) k (by simp) hlen
theorem wV(b x y z r:Bs)(k:Nat)(hr:b++lnT k (x++(y++z))=r)(hlen:r.length≤140737488355328):DC Tryz.prog 36 [.pt 0 0,.sl [.im (.string ⟨(x).toArray⟩),.im (.string ⟨(y).toArray⟩),.im (.string ⟨(z).toArray⟩)] .full] [.box [.nb 0 PQ,.sl ((b).map byB) (.mine 1),(.im (.int .i64 ((k:Int))))],.tip 5 1 (b).length] (.tu []) [.box [.nb 0 PQ,.sl ((r).map byB) (.mine 1),(.im (.int .i64 ((k:Int))))],.tip 5 1 (r).length]:=by
 subst hr
 exact Ag<|Mw b [x,y,z] (x++(y++z)) (by simp) k (by simp) hlen
def Ca:=A7 @iR @cO @kL @oV @sB @gT @cN
theorem zP(l:List Nd)(k:Nat)(b:Bs)(hl:l.length≤4194304)(hk:k≤4194304)(hlen:(b++lsT l (k+1)).length≤140737488355328)
  (h: ∀t∈l,∀c:Bs,(c++ndT t (k+1)).length≤140737488355328→DC Tryz.prog 153 [.pt 0 0,ndV t] [.box [.nb 0 PQ,.sl ((c).map byB) (.mine 1),(.im (.int .i64 (((k+1:Nat):Int))))],.tip 5 1 (c).length] (.tu []) [.box [.nb 0 PQ,.sl (((c++ndT t (k+1))).map byB) (.mine 1),(.im (.int .i64 (((k+1:Nat):Int))))],.tip 5 1 ((c++ndT t (k+1))).length]) :
  DC Tryz.prog 86 [.pt 0 0,.sl (l.map ndV) .ro] [.box [.nb 0 PQ,.sl ((b).map byB) (.mine 1),(.im (.int .i64 ((k:Int))))],.tip 5 1 (b).length] (.tu []) [.box [.nb 0 PQ,.sl (((b++lsT l (k+1))).map byB) (.mine 1),(.im (.int .i64 ((k:Int))))],.tip 5 1 ((b++lsT l (k+1))).length]:=by
 have hw1:IntKind.i64.wrap ((k:Int)+1)=((k+1:Nat):Int):=by rw[cU (by omega)];omega
 have hw2:IntKind.i64.wrap (((k+1:Nat):Int)-1)=(k:Int):=by rw[cU (by omega)];omega
 obtain⟨Bf,hBf⟩: ∃Bf:Nat→Bs,∀m,Bf m=b++lsT (l.take m) (k+1):=⟨_,fun _=>rfl⟩
 have h0:Bf 0=b:=by rw[hBf];simp[lsT]
 have hend:Bf l.length=b++lsT l (k+1):=by rw[hBf,List.take_length]
 rw[←hend,←h0]
 refine dcEnt 30 Tryz.func86 rfl [(0,.pt 0 0),(1,.sl (l.map ndV) .ro)] ?_
 refine wG Ca hw1 ?_
 refine aP ?_
 refine ALp.cutP 2 [(0,.pt 0 0),(6,.pt 0 0),(13,.sl (l.map ndV) .ro),(14,(.im (.int .i64 (l.length)))),(15,(.im (.int .i64 ((((0:Nat)):Int)))))] [.box [.nb 0 PQ,.sl (((Bf 0)).map byB) (.mine 1),(.im (.int .i64 (((k+1:Nat):Int))))],.tip 5 1 ((Bf 0)).length] (A8 aS aG aH aV @aD @aE aZ aC) ?_
 refine aW l.length (fun _=>True) (fun m=>⟨dn 30 [(0,.pt 0 0),(6,.pt 0 0),(13,.sl (l.map ndV) .ro),(14,(.im (.int .i64 (l.length)))),(15,(.im (.int .i64 ((((m:Nat)):Int)))))],ofl [.box [.nb 0 PQ,.sl (((Bf m)).map byB) (.mine 1),(.im (.int .i64 (((k+1:Nat):Int))))],.tip 5 1 ((Bf m)).length]⟩) ?_ 0 (Nat.zero_le _) trivial
 intro m hm _ hnext
 by_cases hlt:m<l.length
 ·have hlt':(m:Int)<(l.length:Int):=by omega
  have hm1:=aK hlt (by omega)
  have hg:=bB hlt;have hle:=VJ (l:=l) (m:=m+1) (k:=k+1)
  have hc:=h l[m] (List.getElem_mem hlt) (b++lsT (l.take m) (k+1)) (by
   rw[List.append_assoc,←Qe hlt,List.length_append];rw[List.length_append]at hlen
   omega)
  rw[List.append_assoc,←Qe hlt,←hBf,←hBf]at hc;refine wG Ca (A3 ND hlt' hg) ?_;refine aA [0,1] hc eF (A8 aS aG aH aV @aD @aE aZ aC) (A8 cC bI bK @aQ @aR fC cH eH) ?_;refine goG Ca TI ?_;refine wG Ca hm1 ?_;refine ALp.cutP 2 [(0,.pt 0 0),(6,.pt 0 0),(13,.sl (l.map ndV) .ro),(14,(.im (.int .i64 (l.length)))),(15,(.im (.int .i64 ((((m+1:Nat)):Int)))))] [.box [.nb 0 PQ,.sl (((Bf (m+1))).map byB) (.mine 1),(.im (.int .i64 (((k+1:Nat):Int))))],.tip 5 1 ((Bf (m+1))).length] (A8 aS aG aH aV @aD @aE aZ aC) ?_;exact hnext (m+1) (by omega) (by omega) trivial
 obtain rfl:m=l.length:=by omega
 clear hnext h
 refine wG Ca (AI @Int.lt_irrefl hw2) ?_
 refine fiGen [] (finG Ca) ?_ rfl (idG (A8 aS aG aH aV @aD @aE aZ aC))
 all_goals exact wkG (A8 aS aG aH aV @aD @aE aZ aC)
def zW:=A16 @oB @iR @cO @jO @hU @fB @mJ @lA @oV @gM @jN @iV @iD @lO @lN (A9 @lM @sB @oA @gT @cN @iQ @hM @dK @dA)
theorem QF(t:Nd)(k:Nat)(b:Bs)(hf:fitN t)(hs:stT t=true)(h6:t.kind≠6)(h7:t.kind≠7)(h8:t.kind≠8)(h9:t.kind≠9)(hlen:(b++ndT t k).length≤140737488355328) :
  DC Tryz.prog 153 [.pt 0 0,ndV t] [.box [.nb 0 PQ,.sl ((b).map byB) (.mine 1),(.im (.int .i64 ((k:Int))))],.tip 5 1 (b).length] (.tu []) [.box [.nb 0 PQ,.sl (((b++ndT t k)).map byB) (.mine 1),(.im (.int .i64 ((k:Int))))],.tip 5 1 ((b++ndT t k)).length]:=by
 have he:ndT t k=lnT k (simT t):=by
  obtain⟨o,w,n,e,l,el,cs⟩:=t;rw[kH];unfold ndN;rw[if_neg h6,if_neg h7,if_neg h8,if_neg h9]
 rw[he]at hlen ⊢
 have hl0:=hlen
 unfold lnT at hl0
 simp only[List.length_append]at hl0
 have q:=KD t hf hs ⟨h6,h7,h8,h9⟩ (by omega)
 obtain⟨B,hB⟩: ∃B,B=b++lnT k (simT t):=⟨_,rfl⟩
 rw[←hB]at hlen
 have ql:=nI b (simT t) B k hB.symm hlen
 rw[←hB]
 generalize simT t=s at q ql
 refine dcEnt 112 Tryz.func153 rfl [(0,.pt 0 0),(1,ndV t)] ?_
 refine wG zW (A5 ND h6 h7 h8 h9) ?_
 refine AR.callP q eF (A8 aS aG aH aV @aD @aE aZ aC) ?_
 refine goG zW TI ?_
 refine aA [0,1] ql TI (A8 aS aG aH aV @aD @aE aZ aC) (A8 cC bI bK @aQ @aR fC cH eH) ?_
 refine goG zW TI ?_
 refine wG zW TI ?_
 refine fiGen [] (finG zW) ?_ rfl (idG (A8 aS aG aH aV @aD @aE aZ aC))
 all_goals exact wkG (A8 aS aG aH aV @aD @aE aZ aC)
def Oc:=AI @fB @dK
theorem WZ(x:Ex)(hx:fitE x):PC Tryz.prog 102 [exV x] (.im (.bool (!esh x 64))):=by
 have h:=Hc x hx 64 (by unfold I64;omega)
 refine pcEnt 6 Tryz.func102 rfl [(0,exV x)] ?_
 refine wG Oc EX ?_
 refine AR.callP h @bH (A12 aS aG aH aV @aD @aE aZ aC fI dS @aL @aN) ?_
 refine goG Oc TI ?_
 refine wG Oc TI ?_
 exact aB
def rB:=A14 @kA @cO @jO @dR @mJ @jN @xC @mX @pB @sB @iZ @cN @iQ @dA
theorem Vk(f:Fun)(k:Nat)(hk:k≤4194304)(b b1 b2 b3 b4:Bs)(h1:b++lnT k ([102,117,110,99,32]++(f.name.data.toList++[32,123]))=b1)(hl1:b1.length≤140737488355328)
  (hv:DC Tryz.prog 35 [.pt 0 0,.sl (f.vars.map vaV) .ro] [.box [.nb 0 PQ,.sl ((b1).map byB) (.mine 1),(.im (.int .i64 (((k+1:Nat):Int))))],.tip 5 1 (b1).length] (.tu []) [.box [.nb 0 PQ,.sl ((b2).map byB) (.mine 1),(.im (.int .i64 (((k+1:Nat):Int))))],.tip 5 1 (b2).length])
  (hn:DC Tryz.prog 86 [.pt 0 0,.sl (f.body.map ndV) .ro] [.box [.nb 0 PQ,.sl ((b2).map byB) (.mine 1),(.im (.int .i64 ((k:Int))))],.tip 5 1 (b2).length] (.tu []) [.box [.nb 0 PQ,.sl ((b3).map byB) (.mine 1),(.im (.int .i64 ((k:Int))))],.tip 5 1 (b3).length])
  (h4:b3++lnT k [125]=b4) (hl4:b4.length≤140737488355328) :
  DC Tryz.prog 39 [.pt 0 0,fnV f] [.box [.nb 0 PQ,.sl ((b).map byB) (.mine 1),(.im (.int .i64 ((k:Int))))],.tip 5 1 (b).length] (.tu []) [.box [.nb 0 PQ,.sl ((b4).map byB) (.mine 1),(.im (.int .i64 ((k:Int))))],.tip 5 1 (b4).length]:=by
 have hw1:IntKind.i64.wrap ((k:Int)+1)=((k+1:Nat):Int):=by rw[cU (by omega)];omega
 have hw2:IntKind.i64.wrap (((k+1:Nat):Int)-1)=(k:Int):=by rw[cU (by omega)];omega
 have q1:=wV b [102,117,110,99,32] f.name.data.toList [32,123] b1 k h1 hl1
 rw[Sl]at q1
 have q4:=nI b3 [125] b4 k h4 hl4
 rw[jH]
 refine dcEnt 34 Tryz.func39 rfl [(0,.pt 0 0),(1,.ag [.im (.string f.name),.sl (f.vars.map vaV) .ro,.sl (f.body.map ndV) .ro])] ?_
 refine wG rB TI ?_
 refine aA [0,1] q1 TI (A12 aS aG aH aV @aD @aE aZ aC fI dS @aL @aN) (A10 cC bI bK @aQ @aR fC cH eH @bE @bD) ?_
 refine goG rB TI ?_
 refine wG rB hw1 ?_
 refine aA [0,1] hv TI (A12 aS aG aH aV @aD @aE aZ aC fI dS @aL @aN) (A10 cC bI bK @aQ @aR fC cH eH @bE @bD) ?_
 refine goG rB TI ?_
 refine wG rB hw2 ?_
 refine aA [0,1] hn TI (A12 aS aG aH aV @aD @aE aZ aC fI dS @aL @aN) (A10 cC bI bK @aQ @aR fC cH eH @bE @bD) ?_
 refine goG rB TI ?_
 refine wG rB TI ?_
 refine aA [0,1] q4 TI (A12 aS aG aH aV @aD @aE aZ aC fI dS @aL @aN) (A10 cC bI bK @aQ @aR fC cH eH @bE @bD) ?_
 refine goG rB TI ?_
 refine wG rB TI ?_
 refine fiGen [] (finG rB) ?_ rfl (idG (A12 aS aG aH aV @aD @aE aZ aC fI dS @aL @aN))
 all_goals exact wkG (A12 aS aG aH aV @aD @aE aZ aC fI dS @aL @aN)
def varT(k:Nat)(v:Va):Bs:=lnT k ([118,97,114,32]++(v.name.data.toList++([58,32]++(txT v.ty++[59]))))
def vasT(k:Nat)(l:List Va):Bs:=(l.map (varT k)).flatten
def funT(f:Fun):Bs:=lnT 0 ([102,117,110,99,32]++(f.name.data.toList++[32,123]))++(vasT 1 f.vars++(lsT f.body 1++lnT 0 [125]))
def Pv(w x:Bool):Bs:=(if w then [32,119,114,105,116,101]else [])++(if x then [32,101,120,101,99]else [])
def Dj(n:Nat):Bs:=48::120::lX n
def datT(d:Sec):Bs:=lnT 0 ([100,97,116,97,32]++(d.name.data.toList++([32]++(Dj d.addr.toNat++(Pv d.wr d.exe++([32,61,32]++(quoS d.data++[59])))))))
def uniT(u:Un):Bs:=vasT 0 u.globals++((u.data.map datT).flatten++(u.funcs.map funT).flatten)
def Lg(v:Va):List Tk:=kwT [118,97,114]::idT v.name.data.toList::opT [58]::(tyK v.ty++[opT [59]])
def vasK(l:List Va):List Tk:=(l.map Lg).flatten
def funK(f:Fun):List Tk:=kwT [102,117,110,99]::idT f.name.data.toList::opT [123]::(vasK f.vars++(lsK f.body++[opT [125]]))
def TV(w x:Bool):List Tk:=(if w then [kwT [119,114,105,116,101]]else [])++(if x then [kwT [101,120,101,99]]else [])
def datK(d:Sec):List Tk:=kwT [100,97,116,97]::idT d.name.data.toList::nuT d.addr.toNat::(TV d.wr d.exe++[opT [61],AF d.data,opT [59]])
def MU(u:Un):List Tk:=vasK u.globals++((u.data.map datK).flatten++(u.funcs.map funK).flatten)
structure VaOk (v:Va):Prop where
 name:nameT v.name=true
 ty:frm v.ty=true
 sh:shal v.ty 64=true
structure FunOk (f:Fun):Prop where
 name:nameT f.name=true
 vars: ∀v∈f.vars,VaOk v
 body: ∀t∈f.body,okT t=true∧exA qE t=true
 dep:dep f.body≤64
structure SecOk (d:Sec):Prop where
 name:nameT d.name=true
 addr:0≤d.addr∧d.addr<4294967296
structure UnOk (u:Un):Prop where
 globals: ∀v∈u.globals,VaOk v
 data: ∀d∈u.data,SecOk d
 funcs: ∀f∈u.funcs,FunOk f
theorem HI(e:Ex)(h:qE e=true):n32 e=true:=(HJ h).1
theorem Dn{α:Type}{g:α→Bs}{k:α→List Tk}: ∀(l:List α),(∀x∈l,∀s r,Sc s r→Sc (g x++s) (k x++r))→ ∀s r,Sc s r→Sc ((l.map g).flatten++s) ((l.map k).flatten++r)
 | [],_,s,r,h=>h
 | x::l,hl,s,r,h=>by
  rw[List.map_cons,List.map_cons,List.flatten_cons,List.flatten_cons,List.append_assoc,List.append_assoc];exact hl x (by simp) _ _ (Dn l (fun y hy=>hl y (by simp[hy])) s r h)
theorem TR{v:Va}(hv:VaOk v)(j:Nat){s:Bs}{r:List Tk}(h:Sc s r):Sc (varT j v++s) (Lg v++r):=by
 unfold varT Lg
 refine Sc.line ?_
 simp only[List.append_assoc,List.cons_append,List.nil_append]
 refine Sc.kw (w:=[118,97,114]) (by decide) rfl (Sc.sp (Sc.name hv.name rfl (Sc.op (by decide) (Sc.sp ?_))))
 exact YH v.ty hv.ty _ _ rfl (Sc.op (by decide) (Sc.nl h))
theorem GL{l:List Va}(hl: ∀v∈l,VaOk v)(j:Nat){s:Bs}{r:List Tk}(h:Sc s r):Sc (vasT j l++s) (vasK l++r):=Dn l (fun v hv s r h=>TR (hl v hv) j h) s r h
theorem GM{f:Fun}(hf:FunOk f){s:Bs}{r:List Tk}(h:Sc s r):Sc (funT f++s) (funK f++r):=by
 unfold funT funK
 simp only[List.append_assoc,List.cons_append,List.nil_append]
 refine Sc.line ?_
 simp only[List.append_assoc,List.cons_append,List.nil_append]
 refine Sc.kw (w:=[102,117,110,99]) (by decide) rfl (Sc.sp (Sc.name hf.name rfl (Sc.sp (Sc.op (by decide) (Sc.nl ?_)))))
 refine GL hf.vars 1 ?_
 refine Fd f.body (fun t ht=>YI t (hf.body t ht).1 (IX HI t (hf.body t ht).2)) 1 _ _ ?_
 exact Sc.line (Sc.op (by decide) (Sc.nl h))
theorem Lt{n:Nat}(hn:n<4294967296){s:Bs}{l:List Tk}(hs:nW s=true)(h:Sc s l):Sc (Dj n++s) (nuT n::l):=by
 obtain⟨h1,h2,h3⟩:=Bt (n+1) n (by omega)
 have h4:=rV 7 (n+1) n (by omega) (by omega)
 have hw: ∀c∈Dj n,isW c=true:=fun c hc=>by
  rcases List.mem_cons.1 hc with rfl|hc
  ·decide
  rcases List.mem_cons.1 hc with rfl|hc
  ·decide
  exact h3 c hc
 have hv:valP (Dj n)=some n:=by
  unfold valP Dj;rw[if_pos (show pre [48,120] (48::120::lX n)=true from Do [48,120] (lX n))]
  rw[show(48::120::lX n).drop 2=lX n from rfl]
  have h5:=List.length_pos_iff.2 h2;unfold lX;rw[if_pos ⟨h5,h4⟩];exact h1
 have nk:isK (Dj n)=false:=by
  rw[←Bool.not_eq_true,wE];intro hm;have:=(zD _ hm).1;revert this;unfold Dj;show isL 48=true→False
  decide
 refine Sc.word (by unfold Dj;simp) hw hs ?_ h
 unfold namP
 rw[if_neg (by rw[nk];decide),if_neg (by unfold Dj;show ¬isL 48=true;decide),hv]
 rfl
theorem TU{d:Sec}(hd:SecOk d){s:Bs}{r:List Tk}(h:Sc s r):Sc (datT d++s) (datK d++r):=by
 unfold datT datK
 refine Sc.line ?_
 simp only[List.append_assoc,List.cons_append,List.nil_append]
 refine Sc.kw (w:=[100,97,116,97]) (by decide) rfl (Sc.sp (Sc.name hd.name rfl (Sc.sp ?_)))
 have hn:d.addr.toNat<4294967296:=by have:=hd.addr;omega
 have hend:Sc (32::61::32::(quoS d.data++59::10::s)) (opT [61]::AF d.data::opT [59]::r):=Sc.sp (GO (Sc.str (Sc.op (by decide) (Sc.nl h))))
 unfold Pv TV
 cases d.wr<;>cases d.exe<;>simp only[if_true,if_false,Bool.false_eq_true,List.append_assoc,List.cons_append,List.nil_append]
 ·exact Lt hn rfl hend
 ·exact Lt hn rfl (Sc.sp (Sc.kw (w:=[101,120,101,99]) (by decide) rfl hend))
 ·exact Lt hn rfl (Sc.sp (Sc.kw (w:=[119,114,105,116,101]) (by decide) rfl hend))
 ·exact Lt hn rfl (Sc.sp (Sc.kw (w:=[119,114,105,116,101]) (by decide) rfl (Sc.sp (Sc.kw (w:=[101,120,101,99]) (by decide) rfl hend))))
theorem TT{u:Un}(hu:UnOk u){s:Bs}{r:List Tk}(h:Sc s r):Sc (uniT u++s) (MU u++r):=by
 unfold uniT MU
 rw[List.append_assoc,List.append_assoc,List.append_assoc,List.append_assoc]
 exact GL hu.globals 0 (Dn u.data (fun d hd s r h=>TU (hu.data d hd) h) _ _ (Dn u.funcs (fun f hf s r h=>GM (hu.funcs f hf) h) s r h))
section
variable {ts:List Tk}
theorem GX{v:Va}(hv:VaOk v){a o:Nat}{rest:List Tk}(hd:ts.drop a=Lg v++rest)(ho:o≤192): ∃v',vaV v'=vaV v∧ ∃F,∀f,F≤f→xL ts f a o=some (.ok v' (a+(Lg v).length) o):=by
 unfold Lg at hd ⊢
 simp only[List.append_assoc,List.cons_append,List.nil_append]at hd
 have d1:=bY hd
 have d2:=bY d1
 have d3:=bY d2
 obtain⟨t',⟨F,hF⟩,ht⟩:=YK (ts:=ts) v.ty hv.ty 64 _ o _ hv.sh (by omega) d3
 have d4:=kJ d3
 refine⟨⟨v.name,t'⟩,?_,F,fun f hf=> ?_⟩
 ·rw[bM,bM]at ht
  injection ht with ht
  injection ht with h1 ht
  injection ht with h2 ht
  injection ht with h3 ht
  injection ht with h4 ht
  injection ht with h5 ht
  rw[qR,qR];show V.ag [.im (.string v.name),.im (.int .i64 t'.kind),.im (.int .i64 t'.size),.im (.int .i64 t'.count),.sl (t'.elem.map tyV) .ro,.sl (t'.fields.map fdV) .ro]=_
  rw[h1,h2,h3,h4,h5]
 ·unfold xL
  rw[Uw hd,bW,Cq d1,bW,kI d2,bW,hF f (by omega),bW,kI d4,bW,pU]
  show some _=some _
  congr 2
  simp only[List.length_cons,List.length_append,List.length_nil];omega
theorem GW: ∀(l:List Va),(∀v∈l,VaOk v)→ ∀(acc:List Va) (a o:Nat) (rest:List Tk),ts.drop a=vasK l++rest→sees ts (a+(vasK l).length) [118,97,114]=false→o≤192 →
  ∃l',l'.map vaV=l.map vaV∧ ∃F,∀f,F≤f→vasM ts f acc a o=some (.ok (acc++l') (a+(vasK l).length) o)
 | [],_,acc,a,o,rest,hd,hs,ho=>by
  refine⟨[],rfl,1,fun f hf=> ?_⟩
  cases f with
  | zero=>omega
  | succ f =>
   have hs:sees ts a [118,97,114]=false:=hs;rw[vasM,if_neg (by rw[hs];decide),List.append_nil]
   rfl
 | v::l,hl,acc,a,o,rest,hd,hs,ho=>by
  have e:vasK (v::l)=Lg v++vasK l:=by unfold vasK;rw[List.map_cons,List.flatten_cons]
  rw[e]at hd hs ⊢;rw[List.append_assoc]at hd;rw[List.length_append,←Nat.add_assoc]at hs ⊢;obtain⟨v',hv,F,hF⟩:=GX (hl v (by simp)) hd ho
  obtain⟨l',hl',G,hG⟩:=GW l (fun x hx=>hl x (by simp[hx])) (acc++[v']) _ o rest (kJ hd) hs ho
  refine⟨v'::l',by rw[List.map_cons,List.map_cons,hv,hl'],F+G+1,fun f hf=> ?_⟩
  cases f with
  | zero=>omega
  | succ f =>
   have hk:sees ts a [118,97,114]=true:=by
    unfold Lg at hd;rw[List.cons_append]at hd;rw[bX hd];decide
   rw[vasM,if_pos hk,hF f (by omega),bW,hG f (by omega),List.append_assoc]
   rfl
def fnQ(f:Fun):ByteArray×List V×List Nd:=(f.name,f.vars.map vaV,f.body)
def unQ(u:Un):List V×List Sec×List (ByteArray×List V×List Nd):=(u.globals.map vaV,u.data,u.funcs.map fnQ)
theorem SM{f g:Fun}(h:fnQ f=fnQ g):fnV f=fnV g:=by
 unfold fnQ at h
 rw[Prod.mk.injEq,Prod.mk.injEq]at h
 obtain⟨h1,h2,h3⟩:=h
 unfold fnV
 rw[h1,h2,h3]
theorem SN: ∀ {l m:List Fun},l.map fnQ=m.map fnQ→l.map fnV=m.map fnV
 | [],[],_=>rfl
 | f::l,g::m,h=>by
  rw[List.map_cons,List.map_cons,List.cons.injEq]at h;rw[List.map_cons,List.map_cons,SM h.1,SN h.2]
theorem YC{u v:Un}(h:unQ u=unQ v):unV u=unV v:=by
 unfold unQ at h
 rw[Prod.mk.injEq,Prod.mk.injEq]at h
 obtain⟨h1,h2,h3⟩:=h
 unfold unV
 rw[h1,h2,SN h3]
theorem HA{g:Fun}(hg:FunOk g){a o:Nat}{rest:List Tk}(hd:ts.drop a=funK g++rest)(ho:o=0): ∃g',fnQ g'=fnQ g∧ ∃F,∀f,F≤f→funM ts f a o=some (.ok g' (a+(funK g).length) o):=by
 subst ho
 unfold funK at hd ⊢
 simp only[List.append_assoc,List.cons_append,List.nil_append]at hd
 have d1:=bY hd
 have d2:=bY d1
 have d3:=bY d2
 have d4:=kJ d3
 have hb: ∀t∈g.body,RdN ts t∧stT t=true:=fun t ht=>⟨YL t (hg.body t ht).1 (hg.body t ht).2,by
  have:=(hg.body t ht).1;obtain⟨k,w,n,e,l,el,cs⟩:=t;rw[Ax,Bool.and_eq_true]at this
  exact this.1⟩
 have hs:=(Xs (fun t ht=>(hb t ht).2) d4).2
 obtain⟨l',hl',F,hF⟩:=GW g.vars hg.vars [] _ 1 _ d3 hs (by omega)
 obtain⟨G,hG⟩:=SI g.body hb [] _ 1 _ d4 (by have:=hg.dep;unfold room;omega)
 have d5:=kJ d4
 refine⟨⟨g.name,l',g.body⟩,?_,F+G,fun f hf=> ?_⟩
 ·show(g.name,l'.map vaV,g.body)=(g.name,g.vars.map vaV,g.body)
  rw[hl']
 ·unfold funM
  rw[Uw hd,bW,Cq d1,bW,sY d2 (by omega),bW,hF f (by omega),bW,hG f (by omega),bW,Br d5,bW,pU]
  show some _=some _
  congr 2
  simp only[List.length_cons,List.length_append,List.length_nil];omega
theorem UQ{d:Sec}(hd0:SecOk d){a o:Nat}{rest:List Tk}(hd:ts.drop a=datK d++rest):Dg ts a o=some (.ok d (a+(datK d).length) o):=by
 unfold datK at hd ⊢
 simp only[List.append_assoc,List.cons_append,List.nil_append]at hd
 have d1:=bY hd
 have d2:=bY d1
 have d3:=bY d2
 have hn:((d.addr.toNat:Nat):Int)=d.addr:=by have:=hd0.addr;omega
 have fin: ∀a1,ts.drop a1=opT [61]::AF d.data::opT [59]::rest→(rb (expM ts [61] a1 o) fun _ a o=>rb (takM ts 4 a o) fun b a o=>rb (expM ts [59] a o) fun _ a o=>ret (Sec.mk d.name ((nuT d.addr.toNat).n) b.text d.wr d.exe) a o)=some (.ok d (a1+3) o):=fun a1 h=>by
  rw[kI h,bW,show takM ts 4 (a1+1) o=_ from EU (t:=AF d.data) (bY h),bW,kI (bY (bY h)),bW]
  show some (Rs.ok (Sec.mk d.name ((d.addr.toNat:Nat):Int) d.data d.wr d.exe) _ _)=_
  rw[hn]
 have acc: ∀a1 (s:Bs),sees ts a1 s=true→accM ts s a1 o=some (.ok true (a1+1) o):=fun a1 s h=>by unfold accM;rw[if_pos h];rfl
 have acn: ∀a1 (s:Bs),sees ts a1 s=false→accM ts s a1 o=some (.ok false a1 o):=fun a1 s h=>by unfold accM;rw[if_neg (by rw[h];decide)];rfl
 unfold Dg
 rw[Uw hd,bW,Cq d1,bW,Tp d2,bW,pU]
 unfold TV at d3 ⊢
 cases hw:d.wr<;>cases hx:d.exe<;>rw[hw,hx]at d3 fin<;>simp only[if_true,if_false,Bool.false_eq_true,List.append_assoc,List.cons_append,List.nil_append]at d3 ⊢
 ·rw[acn _ _ (by rw[eI d3];decide),bW,acn _ _ (by rw[eI d3];decide),bW,fin _ d3]
  rfl
 ·rw[acn _ _ (by rw[bX d3];decide),bW,acc _ _ (by rw[bX d3];decide),bW,fin _ (bY d3)]
  rfl
 ·rw[acc _ _ (by rw[bX d3];decide),bW,acn _ _ (by rw[eI (bY d3)];decide),bW,fin _ (bY d3)]
  rfl
 ·rw[acc _ _ (by rw[bX d3];decide),bW,acc _ _ (by rw[bX (bY d3)];decide),bW,fin _ (bY (bY d3))]
  rfl
theorem HB: ∀(l:List Fun),(∀g∈l,FunOk g)→ ∀(u:Un) (a:Nat),ts.drop a=(l.map funK).flatten→ ∃l',l'.map fnQ=l.map fnQ∧ ∃F,∀f,F≤f→uniM ts f u a 0=some (.ok ⟨u.globals,u.data,u.funcs++l'⟩ (a+((l.map funK).flatten).length) 0)
 | [],_,u,a,hd=>by
  refine⟨[],rfl,1,fun f hf=> ?_⟩
  cases f with
  | zero=>omega
  | succ f =>
   have hl:ts.length≤a:=List.drop_eq_nil_iff.1 hd;rw[uniM,if_pos hl,List.append_nil];rfl
 | g::l,hl,u,a,hd=>by
  have e:((g::l).map funK).flatten=funK g++(l.map funK).flatten:=by rw[List.map_cons,List.flatten_cons]
  rw[e]at hd ⊢;obtain⟨g',hg,F,hF⟩:=HA (hl g (by simp)) hd rfl
  obtain⟨l',hl',G,hG⟩:=HB l (fun x hx=>hl x (by simp[hx])) ⟨u.globals,u.data,u.funcs++[g']⟩ _ (kJ hd)
  refine⟨g'::l',by rw[List.map_cons,List.map_cons,hg,hl'],F+G+1,fun f hf=> ?_⟩
  cases f with
  | zero=>omega
  | succ f =>
   have hd1: ∃r,ts.drop a=kwT [102,117,110,99]::r:=⟨_,by rw[hd];rfl⟩
   obtain⟨r,hd1⟩:=hd1;have hlt: ¬ts.length≤a:=fun h=>by rw[List.drop_eq_nil_iff.2 h]at hd1;cases hd1
   rw[uniM,if_neg hlt,if_neg (by rw[bX hd1];decide),if_neg (by rw[bX hd1];decide),if_pos (by rw[bX hd1];decide),hF f (by omega),bW,hG f (by omega),List.length_append,←Nat.add_assoc,List.append_assoc]
   rfl
theorem HD: ∀(l:List Sec),(∀d∈l,SecOk d)→ ∀(u:Un) (a:Nat) (rest:List Tk) (z:Rs Un),ts.drop a=(l.map datK).flatten++rest→(∃F,∀f,F≤f→uniM ts f ⟨u.globals,u.data++l,u.funcs⟩ (a+((l.map datK).flatten).length) 0=some z)→ ∃F,∀f,F≤f→uniM ts f u a 0=some z
 | [],_,u,a,rest,z,hd,hz=>by
  rw[List.append_nil]at hz;exact hz
 | d::l,hl,u,a,rest,z,hd,hz=>by
  rw[List.map_cons,List.flatten_cons]at hd hz;rw[List.append_assoc]at hd;rw[List.length_append,←Nat.add_assoc]at hz;obtain⟨G,hG⟩:=HD l (fun x hx=>hl x (by simp[hx])) ⟨u.globals,u.data++[d],u.funcs⟩ _ rest z (kJ hd) (by rw[List.append_assoc];exact hz)
  refine⟨G+1,fun f hf=> ?_⟩
  cases f with
  | zero=>omega
  | succ f =>
   have hd1: ∃r,ts.drop a=kwT [100,97,116,97]::r:=⟨_,by rw[hd];rfl⟩
   obtain⟨r,hd1⟩:=hd1;have hlt: ¬ts.length≤a:=fun h=>by rw[List.drop_eq_nil_iff.2 h]at hd1;cases hd1
   rw[uniM,if_neg hlt,if_neg (by rw[bX hd1];decide),if_pos (by rw[bX hd1];decide),UQ (hl d (by simp)) hd,bW]
   exact hG f (by omega)
theorem GZ: ∀(l:List Va),(∀v∈l,VaOk v)→ ∀(u:Un) (a:Nat) (rest:List Tk),ts.drop a=vasK l++rest →
  ∃l',l'.map vaV=l.map vaV∧ ∀z:Rs Un,(∃F,∀f,F≤f→uniM ts f ⟨u.globals++l',u.data,u.funcs⟩ (a+(vasK l).length) 0=some z)→ ∃F,∀f,F≤f→uniM ts f u a 0=some z
 | [],_,u,a,rest,hd=>⟨[],rfl,fun z hz=>by rw[List.append_nil]at hz;exact hz⟩
 | v::l,hl,u,a,rest,hd=>by
  have e:vasK (v::l)=Lg v++vasK l:=by unfold vasK;rw[List.map_cons,List.flatten_cons]
  rw[e]at hd ⊢;rw[List.append_assoc]at hd;rw[List.length_append,←Nat.add_assoc];obtain⟨v',hv,F,hF⟩:=GX (hl v (by simp)) hd (o:=0) (by omega)
  obtain⟨l',hl',hG⟩:=GZ l (fun x hx=>hl x (by simp[hx])) ⟨u.globals++[v'],u.data,u.funcs⟩ _ rest (kJ hd)
  refine⟨v'::l',by rw[List.map_cons,List.map_cons,hv,hl'],fun z hz=> ?_⟩
  obtain⟨G,hG⟩:=hG z (by rw[List.append_assoc];exact hz)
  refine⟨F+G+1,fun f hf=> ?_⟩
  cases f with
  | zero=>omega
  | succ f =>
   have hd1: ∃r,ts.drop a=kwT [118,97,114]::r:=⟨_,by rw[hd];rfl⟩
   obtain⟨r,hd1⟩:=hd1;have hlt: ¬ts.length≤a:=fun h=>by rw[List.drop_eq_nil_iff.2 h]at hd1;cases hd1
   rw[uniM,if_neg hlt,if_pos (by rw[bX hd1];decide),hF f (by omega),bW]
   exact hG f (by omega)
def un0:Un:=⟨[],[],[]⟩
theorem UJ{u:Un}(hu:UnOk u)(hd:ts=MU u): ∃u',unQ u'=unQ u∧ ∃F,∀f,F≤f→allM ts (uniM ts f un0 0 0)=some (.ok u' ts.length 0):=by
 have h0:ts.drop 0=vasK u.globals++((u.data.map datK).flatten++(u.funcs.map funK).flatten):=by rw[List.drop_zero,hd];rfl
 obtain⟨l',hl',hG⟩:=GZ u.globals hu.globals un0 0 _ h0
 have h1:=kJ h0
 have h2:=kJ h1
 obtain⟨m',hm',hF⟩:=HB u.funcs hu.funcs ⟨l',u.data,[]⟩ _ h2
 have hlen:0+(vasK u.globals).length+((u.data.map datK).flatten).length+((u.funcs.map funK).flatten).length=ts.length:=by rw[hd];unfold MU;simp only[List.length_append];omega
 rw[hlen]at hF
 obtain⟨F,hF⟩:=hG _ (HD u.data hu.data ⟨[]++l',[],[]⟩ _ _ _ h1 hF)
 refine⟨⟨l',u.data,m'⟩,?_,F,fun f hf=> ?_⟩
 ·show(l'.map vaV,u.data,m'.map fnQ)=(u.globals.map vaV,u.data,u.funcs.map fnQ)
  rw[hl',hm']
 ·unfold allM
  rw[hF f hf,bW,if_neg (Nat.lt_irrefl _)];rfl
theorem YN{g:Fun}(hg:FunOk g)(hd:ts=funK g): ∃g',fnQ g'=fnQ g∧ ∃F,∀f,F≤f→allM ts (funM ts f 0 0)=some (.ok g' ts.length 0):=by
 have h0:ts.drop 0=funK g++[]:=by rw[List.drop_zero,List.append_nil];exact hd
 obtain⟨g',hg',F,hF⟩:=HA hg h0 rfl
 have hlen:0+(funK g).length=ts.length:=by rw[hd,Nat.zero_add]
 rw[hlen]at hF
 refine⟨g',hg',F,fun f hf=> ?_⟩
 unfold allM
 rw[hF f hf,bW,if_neg (Nat.lt_irrefl _)]
 rfl
end
theorem SK{n:Int}(h:0≤n∧n<4294967296):I64 n:=⟨by omega,by omega⟩
theorem Dr{o n:Int}{s:ByteArray}{w:Int}{l:List Ex}(h0:I64 o)(h1:0≤n∧n<4294967296)(h2:I64 w)(h3:l.length≤4194304)(h4:s.size≤9223372036854775807)(h5: ∀t∈l,fitE t):fitE (.mk o n s w l):=by
 have e:fitEB (.mk o n s w l)=_:=Ex.para_mk _ o n s w l
 unfold fitE
 rw[e]
 simp only[Bool.and_eq_true,Ex.op,Ex.n,Ex.width,Ex.name,Ex.l,List.all_map,List.all_eq_true]
 exact⟨⟨⟨decide_eq_true ⟨h0,⟨h1.1,by omega⟩,h2⟩,decide_eq_true h3⟩,decide_eq_true h4⟩,h5⟩
theorem Bo{o k s c:Int}{es fs:List Ty}(h0:I64 o∧I64 k∧I64 s∧I64 c)(h1:es.length≤4194304)(h2:fs.length≤4194304)(hE: ∀t∈es,fit t)(hF: ∀t∈fs,fit t):fit (.mk o k s c es fs):=by
 have e:BX (.mk o k s c es fs)=_:=Ty.para_mk _ o k s c es fs
 unfold fit
 rw[e]
 simp only[Bool.and_eq_true,decide_eq_true_eq,Ty.elem,Ty.fields,Ty.off,Ty.kind,Ty.size,Ty.count,List.all_map,List.all_eq_true]
 exact⟨⟨⟨⟨decide_eq_true h0,decide_eq_true h1⟩,decide_eq_true h2⟩,hE⟩,hF⟩
theorem PF{t:Ty}(h:fit t){o:Int}(ho:I64 o):fit (t.at_ o):=by
 cases t
 exact Bo ⟨ho,(OZ h).2⟩ (pI h).1 (pI h).2.1 (pI h).2.2.1 (pI h).2.2.2
theorem wM{k w:Int}{n:ByteArray}{e:List Ex}{l el:List Nd}{cs:List (List Nd)}(h0:I64 k∧I64 w)(h1:n.size≤9223372036854775807)(h2:e.length≤4194304)(h3: ∀x∈e,fitE x)(h4:lT l)(h5:lT el)(h6:cs.length≤4194304)(h7: ∀c∈cs,lT c):fitN (.mk k w n e l el cs):=by
 have q:Qv (.mk k w n e l el cs)=_:=Nd.para_mk _ k w n e l el cs
 unfold fitN
 rw[q]
 simp only[Bool.and_eq_true,Nd.kind,Nd.width,Nd.name,Nd.e,Nd.l,Nd.el,Nd.cs,List.all_map,List.all_eq_true]
 refine⟨⟨⟨⟨⟨⟨⟨decide_eq_true h0,decide_eq_true h1⟩,decide_eq_true ⟨h2,h4.1,h5.1,h6⟩⟩,h3⟩,fun c hc=>decide_eq_true (h7 c hc).1⟩,h4.2⟩,h5.2⟩,fun c hc=> ?_⟩
 simp only[Function.comp,List.all_map,List.all_eq_true]
 exact(h7 c hc).2
section
variable {ts:List Tk}
theorem vQ(hok: ∀t∈ts,TkOk t)(a:Nat):(strA (pk ts a).text).size≤9223372036854775807:=by
 have:(pk ts a).text.length≤4194304:=by
  by_cases hl:a<ts.length
  ·exact(hok _ (List.mem_of_getElem? (Xh hl))).2
  ·rw[Jn (by omega)];decide
 show(pk ts a).text.toArray.size≤_
 rw[List.size_toArray]
 omega
theorem YR(s:Bs):I64 (opR s).1:=by
 have key: ∀(c:Prop) [Decidable c] (x y:Int×Nat),I64 x.1→I64 y.1→I64 (if c then x else y).1:=fun c _ x y hx hy=>by by_cases h:c<;>simp[h,hx,hy]
 unfold opR
 repeat (refine key _ _ _ (by decide) ?_)
 decide
theorem YG(t:Tk):I64 (stR t).1:=by
 unfold stR
 split
 ·exact YR _
 ·decide
theorem LP{s:Bs}{k w:Int}(h:accW s=some (k,w)):I64 k∧I64 w:=by
 unfold accW at h
 rcases aI h with ⟨_,h⟩|⟨_,h⟩
 ·cases h;decide
 rcases aI h with ⟨_,h⟩|⟨_,h⟩
 ·cases h;decide
 rcases aI h with ⟨_,h⟩|⟨_,h⟩
 ·cases h;decide
 rcases aI h with ⟨_,h⟩|⟨_,h⟩
 ·cases h;decide
 rcases aI h with ⟨_,h⟩|⟨_,h⟩
 ·cases h;decide
 ·cases h
theorem HZ{s:Bs}{k w:Int}(h:intR s=some (k,w)):I64 k∧I64 w:=by
 unfold intR at h
 rcases aI h with ⟨_,h⟩|⟨_,h⟩
 ·cases h;decide
 rcases aI h with ⟨_,h⟩|⟨_,h⟩
 ·cases h;decide
 rcases aI h with ⟨_,h⟩|⟨_,h⟩
 ·cases h;decide
 rcases aI h with ⟨_,h⟩|⟨_,h⟩
 ·cases h;decide
 rcases aI h with ⟨_,h⟩|⟨_,h⟩
 ·cases h;decide
 rcases aI h with ⟨_,h⟩|⟨_,h⟩
 ·cases h;decide
 rcases aI h with ⟨_,h⟩|⟨_,h⟩
 ·cases h;decide
 ·cases h
theorem Qw{o w:Int}{x:Ex}(ho:I64 o)(hw:I64 w)(hx:fitE x):fitE (mkU o w x) :=
 Dr ho (by decide) hw (by simp) (by decide) (fun t ht=>by simp at ht;rw[ht];exact hx)
theorem Yc(hok: ∀t∈ts,TkOk t): ∀f,(∀a o x b p,exM ts f .op a o=some (.ok x b p)→fitE x)∧(∀l a o x b p,exM ts f (.ex l) a o=some (.ok x b p)→fitE x)∧(∀l y a o x b p,fitE y→exM ts f (.lo l y) a o=some (.ok x b p)→fitE x):=by
 intro f
 induction f with
 | zero=>exact⟨(fun _ _ _ _ _ h=>by cases h),(fun _ _ _ _ _ _ h=>by cases h),(fun _ _ _ _ _ _ _ _ h=>by cases h)⟩
 | succ f ih =>
  obtain⟨i1,i2,i3⟩:=ih
  have hin: ∀q a o x b p,(∀y,fitE y→fitE (q y))→inn ts (exM ts f (.ex 1)) q a o=some (.ok x b p)→fitE x:=fun q a o x b p hq h=>by
   obtain⟨_,a1,o1,h1,h⟩:=aO h;obtain⟨y,a2,o2,h2,h⟩:=aO h;obtain⟨_,a3,o3,h3,h⟩:=aO h;cases h
   exact hq y (i2 _ _ _ _ _ _ h2)
  refine⟨fun a o x b p h=> ?_,fun l a o x b p h=> ?_,fun l y a o x b p hy h=> ?_⟩
  ·rw[exM]at h
   rcases aI h with ⟨hk,h⟩|⟨_,h⟩
   ·cases h;exact Dr (by decide) (Fs hok a) (by decide) (by simp) (by decide) (by simp)
   rcases aI h with ⟨hk,h⟩|⟨_,h⟩
   ·cases h;exact Dr (by decide) (by decide) (by decide) (by simp) (vQ hok a) (by simp)
   rcases aI h with ⟨hk,h⟩|⟨_,h⟩
   ·cases hw:accW (pk ts a).text with
    | none=>rw[hw]at h;cases h
    | some p=>rw[hw]at h;exact hin _ _ _ _ _ _ (fun y hy=>Qw (LP hw).1 (LP hw).2 hy) h
   rcases aI h with ⟨hk,h⟩|⟨_,h⟩
   ·rcases aI h with ⟨_,h⟩|⟨_,h⟩
    ·exact hin _ _ _ _ _ _ (fun y hy=>hy) h
    rcases aI h with ⟨_,h⟩|⟨_,h⟩
    ·obtain⟨_,a1,o1,h1,h⟩:=aO h
     obtain⟨y,a2,o2,h2,h⟩:=aO h;cases h
     exact Qw (by split<;>decide) (by decide) (i1 _ _ _ _ _ h2)
    ·cases h
   ·cases h
  ·rw[exM]at h
   obtain⟨y,a1,o1,h1,h⟩:=aO h;exact i3 _ _ _ _ _ _ _ (i1 _ _ _ _ _ h1) h
  ·rw[exM]at h
   rcases aI h with ⟨_,h⟩|⟨_,h⟩
   ·cases h;exact hy
   ·obtain⟨z,a1,o1,h1,h⟩:=aO h
    refine i3 _ _ _ _ _ _ _ (Dr (YG _) (by decide) (by decide) (by simp) (by decide) fun t ht=> ?_) h
    simp at ht;rcases ht with rfl|rfl
    ·exact hy
    ·exact i2 _ _ _ _ _ _ h1
theorem NA(hok: ∀t∈ts,TkOk t)(hts:ts.length≤65536): ∀f,(∀a o x b p,tyM ts f .ty a o=some (.ok x b p)→fit x)∧(∀l a o x b p,l.length≤a→a≤ts.length→(∀t∈l,fit t)→tyM ts f (.fl l) a o=some (.ok x b p)→fit x):=by
 intro f
 induction f with
 | zero=>exact⟨(fun _ _ _ _ _ h=>by cases h),(fun _ _ _ _ _ _ _ _ _ h=>by cases h)⟩
 | succ f ih =>
  obtain⟨i1,i2⟩:=ih;refine⟨fun a o x b p h=> ?_,fun l a o x b p hl ha hf h=> ?_⟩
  ·rw[tyM]at h
   rcases aI h with ⟨hk,h⟩|⟨_,h⟩
   ·cases hw:intR (pk ts a).text with
    | none=>rw[hw]at h;cases h
    | some q =>
     rw[hw]at h;cases h
     exact Bo ⟨by decide,(HZ hw).1,(HZ hw).2,by decide⟩ (by simp) (by simp) (by simp) (by simp)
   rcases aI h with ⟨hk,h⟩|⟨_,h⟩
   ·cases h;exact Bo (by decide) (by simp) (by simp) (by simp) (by simp)
   rcases aI h with ⟨hk,h⟩|⟨_,h⟩
   ·obtain⟨_,a1,o1,h1,h⟩:=aO h
    obtain⟨y,a2,o2,h2,h⟩:=aO h;cases h
    exact Bo (by decide) (by simp) (by simp) (fun t ht=>by simp at ht;rw[ht];exact i1 _ _ _ _ _ h2) (by simp)
   rcases aI h with ⟨hk,h⟩|⟨_,h⟩
   ·obtain⟨_,a1,o1,h1,h⟩:=aO h
    obtain⟨n,a2,o2,h2,h⟩:=aO h;obtain⟨_,a3,o3,h3,h⟩:=aO h;obtain⟨y,a4,o4,h4,h⟩:=aO h;obtain⟨_,rfl,_,_⟩:=iE h2;cases h
    exact Bo ⟨by decide,by decide,by decide,SK (Fs hok _)⟩ (by simp) (by simp) (fun t ht=>by simp at ht;rw[ht];exact i1 _ _ _ _ _ h4) (by simp)
   rcases aI h with ⟨hk,h⟩|⟨_,h⟩
   ·obtain⟨_,a1,o1,h1,h⟩:=aO h
    have e1:=cE h1;have:=bJ e1.1;exact i2 _ _ _ _ _ _ (Nat.zero_le _) (by omega) (by simp) h
   ·cases h
  ·rw[tyM]at h
   rcases aI h with ⟨hk,h⟩|⟨_,h⟩
   ·obtain⟨_,a1,o1,h1,h⟩:=aO h
    cases h
    exact Bo (by decide) (by simp) (by omega) (by simp) hf
   ·obtain⟨_,a1,o1,h1,h⟩:=aO h
    obtain⟨n,a2,o2,h2,h⟩:=aO h;obtain⟨_,a3,o3,h3,h⟩:=aO h;obtain⟨y,a4,o4,h4,h⟩:=aO h
    have e0:a≤a1:=by
     rcases aI h1 with ⟨_,h1⟩|⟨_,h1⟩
     ·have:=cK h1;omega
     ·cases h1;omega
    obtain⟨_,rfl,e2,_⟩:=iE h2;have e3:=cK h3;have e4:=(kX ts f).1 _ _ _ _ _ h4;refine i2 _ _ _ _ _ _ (by simp;omega) (by omega) (fun t ht=> ?_) h
    rcases List.mem_append.1 ht with ht|ht
    ·exact hf t ht
    ·simp at ht;rw[ht];exact PF (i1 _ _ _ _ _ h4) (SK (Fs hok _))
theorem fit0:lT []:=⟨by simp,by simp⟩
theorem PZ(l:List Nd)(t:Nd):cnt (l++[t])=cnt l+cntT t:=by unfold cnt;rw[List.map_append,List.sum_append];simp
theorem wR:cnt []=0:=rfl
theorem pJ(k w:Int)(n:ByteArray)(e:List Ex):cntT (.mk k w n e [] [] [])=1:=by rw[nH];rfl
theorem mN{k w:Int}{n:ByteArray}{e:List Ex}(hk:I64 k)(hw:I64 w)(hn:n.size≤9223372036854775807)(he:e.length≤4194304)(hx: ∀x∈e,fitE x):fitN (.mk k w n e [] [] []):=wM ⟨hk,hw⟩ hn he hx fit0 fit0 (by simp) (by simp)
theorem NM(hok: ∀t∈ts,TkOk t)(hts:ts.length≤65536): ∀f,(∀a o x b p,stM ts f .st a o=some (.ok x b p)→fitN (theS x)∧cntT (theS x)+a≤b) ∧
  (∀l a o x b p,l.length≤a→(∀t∈l,fitN t)→stM ts f (.li l) a o=some (.ok x b p)→(∀t∈x.headD [],fitN t)∧(x.headD []).length≤b∧cnt (x.headD [])+a≤cnt l+b) ∧
  (∀a o x b p,stM ts f .br a o=some (.ok x b p)→lT (x.headD [])∧cnt (x.headD [])+a+2≤b) ∧
  (∀c a o x b p,c.length≤a→(∀l∈c,lT l)→stM ts f (.ca c) a o=some (.ok x b p)→(∀l∈x,lT l)∧x.length≤b∧(x.map cnt).sum+a≤(c.map cnt).sum+b):=by
 intro f
 induction f with
 | zero=>exact⟨(fun _ _ _ _ _ h=>by cases h),(fun _ _ _ _ _ _ _ _ h=>by cases h),(fun _ _ _ _ _ h=>by cases h),(fun _ _ _ _ _ _ _ _ h=>by cases h)⟩
 | succ f ih =>
  obtain⟨i1,i2,i3,i4⟩:=ih;have ex: ∀l a o x b p,exM ts f (.ex l) a o=some (.ok x b p)→fitE x∧a<b:=fun l a o x b p h=>⟨(Yc hok f).2.1 l a o x b p h,(Bp h).1⟩
  have one: ∀ {x:Ex},fitE x→ ∀y∈[x],fitE y:=fun hx y hy=>by simp at hy;rw[hy];exact hx
  have e0: ∀y∈([]:List Ex),fitE y:=by simp
  have z0:(ByteArray.empty).size≤9223372036854775807:=by decide
  refine⟨fun a o x b p h=> ?_,fun l a o x b p hl hf h=> ?_,fun a o x b p h=> ?_,fun c a o x b p hc hf h=> ?_⟩
  ·rw[stM]at h
   have leafN: ∀(k:Int) (a1 o1:Nat),I64 k→a≤a1→(rb (nmM ts a1 o1) fun n a o=>rb (expM ts [59] a o) fun _ a o=>ret (oneS (.mk k 0 n [] [] [] [])) a o)=some (.ok x b p)→fitN (theS x)∧cntT (theS x)+a≤b:=fun k a1 o1 hk ha h=>by
    obtain⟨n,a2,o2,h2,h⟩:=aO h;obtain⟨_,a3,o3,h3,h⟩:=aO h;have q2:=gQ h2;have q3:=cK h3;cases h
    refine⟨mN hk (by decide) (by rw[q2.1];exact vQ hok _) (by simp) e0,?_⟩
    show cntT (.mk k 0 n [] [] [] [])+a≤_
    rw[pJ];omega
   have simp': ∀(k:Int) (a1 o1:Nat),I64 k→a≤a1→mB ts k a1 o1=some (.ok x b p)→fitN (theS x)∧cntT (theS x)+a≤b:=fun k a1 o1 hk ha h=>by
    obtain⟨_,a2,o2,h2,h⟩:=aO h;have q2:=cK h2;cases h
    refine⟨mN hk (by decide) z0 (by simp) e0,?_⟩
    show cntT (.mk k 0 ByteArray.empty [] [] [] [])+a≤_
    rw[pJ];omega
   have sto: ∀(w:Int) (a1 o1:Nat),I64 w→a≤a1→mA ts f w a1 o1=some (.ok x b p)→fitN (theS x)∧cntT (theS x)+a≤b:=fun w a1 o1 hw ha h=>by
    obtain⟨_,a2,o2,h2,h⟩:=aO h;obtain⟨y,a3,o3,h3,h⟩:=aO h;obtain⟨_,a4,o4,h4,h⟩:=aO h;obtain⟨z,a5,o5,h5,h⟩:=aO h;obtain⟨_,a6,o6,h6,h⟩:=aO h;obtain⟨_,a7,o7,h7,h⟩:=aO h;have q2:=cE h2;have q3:=ex _ _ _ _ _ _ h3;have q4:=cK h4;have q5:=ex _ _ _ _ _ _ h5;have q6:=oM h6;have q7:=cK h7;cases h
    refine⟨mN (by decide) hw z0 (by simp) fun t ht=> ?_,?_⟩
    ·simp at ht
     rcases ht with rfl|rfl
     ·exact q3.1
     ·exact q5.1
    ·show cntT (.mk 2 w ByteArray.empty [y,z] [] [] [])+a≤_
     rw[pJ];omega
   rcases aI h with ⟨hk,h⟩|⟨_,h⟩
   ·obtain⟨n,a2,o2,h2,h⟩:=aO h
    have q2:=gQ h2;have hn:n.size≤9223372036854775807:=by rw[q2.1];exact vQ hok _
    rcases aI h with ⟨hk,h⟩|⟨_,h⟩
    ·cases h
     refine⟨mN (by decide) (by decide) hn (by simp) e0,?_⟩
     show cntT (.mk 13 0 n [] [] [] [])+a≤_
     rw[pJ];omega
    obtain⟨_,a3,o3,h3,h⟩:=aO h;have q3:=cK h3;rcases aI h with ⟨hk,h⟩|⟨_,h⟩
    ·obtain⟨_,a4,o4,h4,h⟩:=aO h
     have q4:=cK h4;cases h
     refine⟨mN (by decide) (by decide) hn (by simp) e0,?_⟩
     show cntT (.mk 3 0 n [] [] [] [])+a≤_
     rw[pJ];omega
    obtain⟨y,a4,o4,h4,h⟩:=aO h;obtain⟨_,a5,o5,h5,h⟩:=aO h;have q4:=ex _ _ _ _ _ _ h4;have q5:=cK h5;cases h
    refine⟨mN (by decide) (by decide) hn (by simp) (one q4.1),?_⟩
    show cntT (.mk 1 0 n [y] [] [] [])+a≤_
    rw[pJ];omega
   rcases aI h with ⟨_,h⟩|⟨_,h⟩
   ·exact leafN 12 _ _ (by decide) (by omega) h
   rcases aI h with ⟨_,h⟩|⟨_,h⟩
   ·exact leafN 5 _ _ (by decide) (by omega) h
   rcases aI h with ⟨_,h⟩|⟨_,h⟩
   ·exact sto 1 _ _ (by decide) (by omega) h
   rcases aI h with ⟨_,h⟩|⟨_,h⟩
   ·exact sto 2 _ _ (by decide) (by omega) h
   rcases aI h with ⟨_,h⟩|⟨_,h⟩
   ·exact sto 4 _ _ (by decide) (by omega) h
   rcases aI h with ⟨_,h⟩|⟨_,h⟩
   ·obtain⟨y,a2,o2,h2,h⟩:=aO h
    obtain⟨_,a3,o3,h3,h⟩:=aO h;have q2:=ex _ _ _ _ _ _ h2;have q3:=cK h3;cases h
    refine⟨mN (by decide) (by decide) z0 (by simp) (one q2.1),?_⟩
    show cntT (.mk 4 0 ByteArray.empty [y] [] [] [])+a≤_
    rw[pJ];omega
   rcases aI h with ⟨_,h⟩|⟨_,h⟩
   ·obtain⟨y,a2,o2,h2,h⟩:=aO h
    obtain⟨l,a3,o3,h3,h⟩:=aO h;have q2:=ex _ _ _ _ _ _ h2;have q3:=i3 _ _ _ _ _ h3;rcases aI h with ⟨_,h⟩|⟨_,h⟩
    ·obtain⟨e,a4,o4,h4,h⟩:=aO h
     have q4:=i3 _ _ _ _ _ h4;cases h
     refine⟨wM (by decide) z0 (by simp) (one q2.1) q3.1 q4.1 (by simp) (by simp),?_⟩
     show cntT (.mk 6 0 ByteArray.empty [y] (l.headD []) (e.headD []) [])+a≤_
     rw[nH];show 1+([cnt (l.headD []),cnt (e.headD [])]:List Nat).sum+a≤_
     simp only[List.sum_cons,List.sum_nil];omega
    ·cases h
     refine⟨wM (by decide) z0 (by simp) (one q2.1) q3.1 fit0 (by simp) (by simp),?_⟩
     show cntT (.mk 6 0 ByteArray.empty [y] (l.headD []) [] [])+a≤_
     rw[nH];show 1+([cnt (l.headD []),cnt []]:List Nat).sum+a≤_
     simp only[List.sum_cons,List.sum_nil,wR];omega
   rcases aI h with ⟨_,h⟩|⟨_,h⟩
   ·obtain⟨y,a2,o2,h2,h⟩:=aO h
    obtain⟨l,a3,o3,h3,h⟩:=aO h;have q2:=ex _ _ _ _ _ _ h2;have q3:=i3 _ _ _ _ _ h3;cases h
    refine⟨wM (by decide) z0 (by simp) (one q2.1) q3.1 fit0 (by simp) (by simp),?_⟩
    show cntT (.mk 7 0 ByteArray.empty [y] (l.headD []) [] [])+a≤_
    rw[nH];show 1+([cnt (l.headD []),cnt []]:List Nat).sum+a≤_
    simp only[List.sum_cons,List.sum_nil,wR];omega
   rcases aI h with ⟨_,h⟩|⟨_,h⟩
   ·obtain⟨l,a3,o3,h3,h⟩:=aO h
    have q3:=i3 _ _ _ _ _ h3;cases h
    refine⟨wM (by decide) z0 (by simp) e0 q3.1 fit0 (by simp) (by simp),?_⟩
    show cntT (.mk 8 0 ByteArray.empty [] (l.headD []) [] [])+a≤_
    rw[nH];show 1+([cnt (l.headD []),cnt []]:List Nat).sum+a≤_
    simp only[List.sum_cons,List.sum_nil,wR];omega
   rcases aI h with ⟨_,h⟩|⟨_,h⟩
   ·obtain⟨y,a2,o2,h2,h⟩:=aO h
    obtain⟨_,a3,o3,h3,h⟩:=aO h;obtain⟨c,a4,o4,h4,h⟩:=aO h;have q2:=ex _ _ _ _ _ _ h2;have q3:=cE h3;have q4:=i4 _ _ _ _ _ _ (Nat.zero_le _) (by simp) h4
    have q5:=(fW ts f).2.2.2 _ _ _ _ _ _ h4;cases h
    simp only[List.map_nil,List.sum_nil]at q4;refine⟨wM (by decide) z0 (by simp) (one q2.1) fit0 fit0 (by omega) q4.1,?_⟩
    show cntT (.mk 9 0 ByteArray.empty [y] [] [] c)+a≤_
    rw[nH];show 1+(cnt []::cnt []::c.map cnt).sum+a≤_
    simp only[List.sum_cons,wR];omega
   rcases aI h with ⟨_,h⟩|⟨_,h⟩
   ·exact simp' 10 _ _ (by decide) (by omega) h
   rcases aI h with ⟨_,h⟩|⟨_,h⟩
   ·exact simp' 11 _ _ (by decide) (by omega) h
   rcases aI h with ⟨_,h⟩|⟨_,h⟩
   ·exact simp' 14 _ _ (by decide) (by omega) h
   rcases aI h with ⟨_,h⟩|⟨_,h⟩
   ·exact simp' 15 _ _ (by decide) (by omega) h
   ·cases h
  ·rw[stM]at h
   rcases aI h with ⟨_,h⟩|⟨_,h⟩
   ·cases h
    exact⟨hf,hl,by show cnt l+a≤_;omega⟩
   ·obtain⟨s,a1,o1,h1,h⟩:=aO h
    have q1:=i1 _ _ _ _ _ h1;have q2:=(fW ts f).1 _ _ _ _ _ h1
    have q3:=i2 _ _ _ _ _ _ (by simp;omega) (fun t ht=>by
     rcases List.mem_append.1 ht with ht|ht
     ·exact hf t ht
     ·simp at ht;rw[ht];exact q1.1) h
    rw[PZ]at q3;exact⟨q3.1,q3.2.1,by omega⟩
  ·rw[stM]at h
   obtain⟨_,a1,o1,h1,h⟩:=aO h;obtain⟨l,a2,o2,h2,h⟩:=aO h;obtain⟨_,a3,o3,h3,h⟩:=aO h;have q1:=cE h1;have q2:=i2 _ _ _ _ _ _ (Nat.zero_le _) (by simp) h2
   have q4:=(fW ts f).2.1 _ _ _ _ _ _ h2;have q3:=oM h3;cases h
   rw[wR]at q2;exact⟨⟨by omega,q2.1⟩,by omega⟩
  ·rw[stM]at h
   rcases aI h with ⟨_,h⟩|⟨_,h⟩
   ·rcases aI h with ⟨_,h⟩|⟨_,h⟩
    ·obtain⟨l,a1,o1,h1,h⟩:=aO h
     have q1:=i3 _ _ _ _ _ h1
     have q3:=i4 _ _ _ _ _ _ (by simp;omega) (fun t ht=>by
      rcases List.mem_append.1 ht with ht|ht
      ·exact hf t ht
      ·rw[List.mem_singleton.1 ht];exact q1.1) h
     rw[List.map_append,List.sum_append]at q3;simp only[List.map_cons,List.map_nil,List.sum_cons,List.sum_nil]at q3;exact⟨q3.1,q3.2.1,by omega⟩
    ·cases h
   ·obtain⟨_,a1,o1,h1,h⟩:=aO h
    have q1:=oM h1;cases h
    exact⟨hf,by omega,by omega⟩
theorem Ow(hok: ∀t∈ts,TkOk t)(hts:ts.length≤65536){f a o:Nat}{v:Va}{b p:Nat}(h:xL ts f a o=some (.ok v b p)):fit v.ty∧v.name.size≤9223372036854775807:=by
 obtain⟨_,a1,o1,h1,h⟩:=aO h
 obtain⟨n,a2,o2,h2,h⟩:=aO h
 obtain⟨_,a3,o3,h3,h⟩:=aO h
 obtain⟨t,a4,o4,h4,h⟩:=aO h
 obtain⟨_,a5,o5,h5,h⟩:=aO h
 have e2:=gQ h2
 cases h
 exact⟨(NA hok hts f).1 _ _ _ _ _ h4,by show n.size≤_;rw[e2.1];exact vQ hok _⟩
theorem EG(hok: ∀t∈ts,TkOk t)(hts:ts.length≤65536): ∀(f:Nat) {l:List Va} {a o:Nat} {v:List Va} {b p:Nat},l.length≤a→fitVN l→vasM ts f l a o=some (.ok v b p)→fitVN v∧v.length≤b:=by
 intro f
 induction f with
 | zero=>intro l a o v b p _ _ h;cases h
 | succ f ih =>
  intro l a o v b p hl hf h;rw[vasM]at h;rcases aI h with ⟨hk,h⟩|⟨hk,h⟩
  ·obtain⟨x,a1,o1,h1,h⟩:=aO h
   have e1:=lY h1;refine ih (by simp;omega) (fun y hy=> ?_) h
   rcases List.mem_append.1 hy with hy|hy
   ·exact hf y hy
   ·simp at hy;rw[hy];exact Ow hok hts h1
  ·cases h;exact⟨hf,hl⟩
theorem IJ(hok: ∀t∈ts,TkOk t)(hts:ts.length≤65536){f a o:Nat}{v:Fun}{b p:Nat}(h:funM ts f a o=some (.ok v b p)):fitFn v:=by
 obtain⟨_,a1,o1,h1,h⟩:=aO h
 obtain⟨n,a2,o2,h2,h⟩:=aO h
 obtain⟨_,a3,o3,h3,h⟩:=aO h
 obtain⟨l,a4,o4,h4,h⟩:=aO h
 obtain⟨s,a5,o5,h5,h⟩:=aO h
 obtain⟨_,a6,o6,h6,h⟩:=aO h
 have e2:=gQ h2
 have e4:=EG hok hts f (Nat.zero_le _) (by intro y hy;cases hy) h4
 have e5:=(NM hok hts f).2.1 _ _ _ _ _ _ (Nat.zero_le _) (by simp) h5
 have e6:=(fW ts f).2.1 _ _ _ _ _ _ h5
 rw[wR]at e5
 cases h
 exact⟨by show l.length≤_;omega,e4.1,⟨by show(s.headD []).length≤_;omega,e5.1⟩,by show cnt (s.headD [])≤_;omega,by show n.size≤_;rw[e2.1];exact vQ hok _⟩
theorem JM(hok: ∀t∈ts,TkOk t){a o:Nat}{v:Sec}{b p:Nat}(h:Dg ts a o=some (.ok v b p)):v.name.size≤9223372036854775807:=by
 obtain⟨_,a1,o1,h1,h⟩:=aO h
 obtain⟨n,a2,o2,h2,h⟩:=aO h
 obtain⟨_,a3,o3,h3,h⟩:=aO h
 obtain⟨_,a4,o4,h4,h⟩:=aO h
 obtain⟨_,a5,o5,h5,h⟩:=aO h
 obtain⟨_,a6,o6,h6,h⟩:=aO h
 obtain⟨_,a7,o7,h7,h⟩:=aO h
 obtain⟨_,a8,o8,h8,h⟩:=aO h
 have e2:=gQ h2
 cases h
 show n.size≤_
 rw[e2.1]
 exact vQ hok _
theorem EJ(hok: ∀t∈ts,TkOk t)(hts:ts.length≤65536): ∀(f:Nat) {u:Un} {a o:Nat} {v:Un} {b p:Nat},a≤ts.length→u.globals.length≤a→u.data.length≤a→u.funcs.length≤a→fitU u→uniM ts f u a o=some (.ok v b p)→fitU v:=by
 intro f
 induction f with
 | zero=>intro u a o v b p _ _ _ _ _ h;cases h
 | succ f ih =>
  intro u a o v b p ha hg hd hn hf h;rw[uniM]at h;rcases aI h with ⟨hk,h⟩|⟨hk,h⟩
  ·cases h;exact hf
  rcases aI h with ⟨hk,h⟩|⟨hk,h⟩
  ·obtain⟨x,a1,o1,h1,h⟩:=aO h
   have e1:=lY h1;refine ih (u:=⟨u.globals++[x],u.data,u.funcs⟩) (a:=a1) (by omega) (by simp;omega) (by show u.data.length≤a1;omega) (by show u.funcs.length≤a1;omega) ⟨by simp;omega,fun y hy=> ?_,hf.dl,hf.dn,hf.fl,hf.fn⟩ h
   rcases List.mem_append.1 hy with hy|hy
   ·exact hf.gn y hy
   ·simp at hy;rw[hy];exact Ow hok hts h1
  rcases aI h with ⟨hk,h⟩|⟨hk,h⟩
  ·obtain⟨x,a1,o1,h1,h⟩:=aO h
   have e1:=zM h1;refine ih (u:=⟨u.globals,u.data++[x],u.funcs⟩) (a:=a1) (by omega) (by show u.globals.length≤a1;omega) (by simp;omega) (by show u.funcs.length≤a1;omega) ⟨hf.gl,hf.gn,by simp;omega,fun y hy=> ?_,hf.fl,hf.fn⟩ h
   rcases List.mem_append.1 hy with hy|hy
   ·exact hf.dn y hy
   ·simp at hy;rw[hy];exact JM hok h1
  rcases aI h with ⟨hk,h⟩|⟨hk,h⟩
  ·obtain⟨x,a1,o1,h1,h⟩:=aO h
   have e1:=wJ h1;refine ih (u:=⟨u.globals,u.data,u.funcs++[x]⟩) (a:=a1) (by omega) (by show u.globals.length≤a1;omega) (by show u.data.length≤a1;omega) (by simp;omega) ⟨hf.gl,hf.gn,hf.dl,hf.dn,by simp;omega,fun y hy=> ?_⟩ h
   rcases List.mem_append.1 hy with hy|hy
   ·exact hf.fn y hy
   ·simp at hy;rw[hy];exact IJ hok hts h1
  ·cases h
theorem Iz(hok: ∀t∈ts,TkOk t)(hts:ts.length≤65536){f:Nat}{v:Un}{b p:Nat}(h:uniM ts f ⟨[],[],[]⟩ 0 0=some (.ok v b p)):fitU v :=
 EJ hok hts f (Nat.zero_le _) (Nat.le_refl _) (Nat.le_refl _) (Nat.le_refl _) ⟨by simp,(by intro y hy;cases hy),by simp,(by intro y hy;cases hy),by simp,by simp⟩ h
def Er{α:Type}(n:Nat)(r:Option (Rs α)):Prop:= ∀b e,r=some (.bad b e)→(e=3∨e=20)∧b≤n
theorem Er.rb{α β:Type}{n:Nat}{r:Option (Rs α)}{k:α→Nat→Nat→Option (Rs β)}(h:Er n r)(hk: ∀x a o,r=some (.ok x a o)→Er n (k x a o)):Er n (rb r k):=fun b e q=>by
 rcases UR q with q|⟨x,a,o,h1,q⟩
 ·exact h b e q
 ·exact hk x a o h1 b e q
theorem Er.ite{α:Type}{n:Nat}{c:Prop}[Decidable c]{x y:Option (Rs α)}(hx:c→Er n x)(hy: ¬c→Er n y):Er n (if c then x else y):=by
 by_cases h:c
 ·rw[if_pos h];exact hx h
 ·rw[if_neg h];exact hy h
theorem Er.ret{α:Type}{n:Nat}(x:α)(a o:Nat):Er n (ret x a o):=fun b e q=>by cases q
theorem tY{α:Type}{n a:Nat}(h:a≤n):Er (α:=α) n (some (.bad a 3)):=fun b e q=>by cases q;exact⟨.inl rfl,h⟩
theorem Er.beg{n:Nat}(s:Bs){a:Nat}(o:Nat)(h:a≤n):Er n (begM ts s a o):=fun b e q=>by
 unfold begM at q
 rcases aI (Option.some.inj q)with ⟨_,q⟩|⟨_,q⟩
 ·cases q;exact⟨.inl rfl,h⟩
 rcases aI q with ⟨_,q⟩|⟨_,q⟩
 ·cases q;exact⟨.inr rfl,h⟩
 ·cases q
theorem Er.exp{n:Nat}(s:Bs){a:Nat}(o:Nat)(h:a≤n):Er n (expM ts s a o):=fun b e q=>by
 unfold expM at q
 rcases aI (Option.some.inj q)with ⟨_,q⟩|⟨_,q⟩
 ·cases q;exact⟨.inl rfl,h⟩
 ·cases q
theorem Er.en{n:Nat}(s:Bs){a:Nat}(o:Nat)(h:a≤n):Er n (endM ts s a o):=fun b e q=>by
 unfold endM at q
 rcases aI (Option.some.inj q)with ⟨_,q⟩|⟨_,q⟩
 ·cases q;exact⟨.inl rfl,h⟩
 ·cases q
theorem Er.tak{n:Nat}(k:Int){a:Nat}(o:Nat)(h:a≤n):Er n (takM ts k a o):=fun b e q=>by
 unfold takM at q
 rcases aI (Option.some.inj q)with ⟨_,q⟩|⟨_,q⟩
 ·cases q;exact⟨.inl rfl,h⟩
 ·cases q
theorem Er.nm{n:Nat}{a:Nat}(o:Nat)(h:a≤n):Er n (nmM ts a o):=Er.rb (Er.tak _ _ h) fun _ _ _ _=>Er.ret _ _ _
theorem Ux: ∀f,(∀a o x b p,exM ts f .op a o=some (.ok x b p)→b≤ts.length)∧(∀l a o x b p,exM ts f (.ex l) a o=some (.ok x b p)→b≤ts.length)∧(∀l y a o x b p,a≤ts.length→exM ts f (.lo l y) a o=some (.ok x b p)→b≤ts.length):=by
 intro f
 induction f with
 | zero=>exact⟨(fun _ _ _ _ _ h=>by cases h),(fun _ _ _ _ _ _ h=>by cases h),(fun _ _ _ _ _ _ _ _ h=>by cases h)⟩
 | succ f ih =>
  obtain⟨i1,i2,i3⟩:=ih
  have hin: ∀q a o x b p,inn ts (exM ts f (.ex 1)) q a o=some (.ok x b p)→b≤ts.length:=fun q a o x b p h=>by
   obtain⟨_,a1,o1,h1,h⟩:=aO h;obtain⟨y,a2,o2,h2,h⟩:=aO h;obtain⟨_,a3,o3,h3,h⟩:=aO h;have e3:=vA h3;cases h
   omega
  refine⟨fun a o x b p h=> ?_,fun l a o x b p h=> ?_,fun l y a o x b p ha h=> ?_⟩
  ·rw[exM]at h
   rcases aI h with ⟨hk,h⟩|⟨_,h⟩
   ·have:=eJ hk (by decide)
    cases h;omega
   rcases aI h with ⟨hk,h⟩|⟨_,h⟩
   ·have:=eJ hk (by decide)
    cases h;omega
   rcases aI h with ⟨hk,h⟩|⟨_,h⟩
   ·cases hw:accW (pk ts a).text with
    | none=>rw[hw]at h;cases h
    | some p=>rw[hw]at h;exact hin _ _ _ _ _ _ h
   rcases aI h with ⟨hk,h⟩|⟨_,h⟩
   ·rcases aI h with ⟨_,h⟩|⟨_,h⟩
    ·exact hin _ _ _ _ _ _ h
    rcases aI h with ⟨_,h⟩|⟨_,h⟩
    ·obtain⟨_,a1,o1,h1,h⟩:=aO h
     obtain⟨y,a2,o2,h2,h⟩:=aO h;have:=i1 _ _ _ _ _ h2;cases h
     exact this
    ·cases h
   ·cases h
  ·rw[exM]at h
   obtain⟨y,a1,o1,h1,h⟩:=aO h;exact i3 _ _ _ _ _ _ _ (i1 _ _ _ _ _ h1) h
  ·rw[exM]at h
   rcases aI h with ⟨_,h⟩|⟨_,h⟩
   ·cases h;exact ha
   ·obtain⟨z,a1,o1,h1,h⟩:=aO h
    exact i3 _ _ _ _ _ _ _ (i2 _ _ _ _ _ _ h1) h
theorem IV: ∀f,(∀a o,a≤ts.length→Er ts.length (exM ts f .op a o))∧(∀l a o,a≤ts.length→Er ts.length (exM ts f (.ex l) a o))∧(∀l x a o,a≤ts.length→Er ts.length (exM ts f (.lo l x) a o)):=by
 intro f
 induction f with
 | zero=>exact⟨(fun _ _ _ _ _ h=>by cases h),(fun _ _ _ _ _ _ h=>by cases h),(fun _ _ _ _ _ _ _ h=>by cases h)⟩
 | succ f ih =>
  obtain⟨i1,i2,i3⟩:=ih;obtain⟨l1,l2,l3⟩:=Ux (ts:=ts) f
  have hin: ∀q a o,a≤ts.length→Er ts.length (inn ts (exM ts f (.ex 1)) q a o):=fun q a o ha=>by
   refine Er.rb (Er.beg _ _ ha) fun _ a1 o1 h1=>Er.rb ?_ fun _ a2 o2 h2=>Er.rb (Er.en _ _ (l2 _ _ _ _ _ _ h2)) fun _ _ _ _=>Er.ret _ _ _
   have e1:=cE h1;have:=bJ e1.1;exact i2 _ _ _ (by omega)
  refine⟨fun a o ha=> ?_,fun l a o ha=> ?_,fun l x a o ha=> ?_⟩
  ·rw[exM]
   refine Er.ite (fun _=>Er.ret _ _ _) fun _=>Er.ite (fun _=>Er.ret _ _ _) fun _=>Er.ite (fun hk=> ?_) fun _=>Er.ite (fun hk=> ?_) fun _=>tY ha
   ·have hl:=eJ hk (by decide)
    cases accW (pk ts a).text with
    | none=>exact tY ha
    | some p=>exact hin _ _ _ (by omega)
   ·refine Er.ite (fun _=>hin _ _ _ ha) fun _=>Er.ite (fun _=> ?_) fun _=>tY ha
    refine Er.rb (Er.beg _ _ ha) fun _ a1 o1 h1=>Er.rb ?_ fun _ _ _ _=>Er.ret _ _ _
    have e1:=cE h1;have:=bJ e1.1;exact i1 _ _ (by omega)
  ·rw[exM]
   exact Er.rb (i1 _ _ ha) fun x b p h1=>i3 _ _ _ _ (l1 _ _ _ _ _ h1)
  ·rw[exM]
   refine Er.ite (fun _=>Er.ret _ _ _) fun hk=> ?_
   have hl:=FY (ts:=ts) (a:=a) (fun e=>hk (.inl e))
   exact Er.rb (i2 _ _ _ (by omega)) fun y b p h1=>i3 _ _ _ _ (l2 _ _ _ _ _ _ h1)
theorem TE: ∀f,(∀a o,a≤ts.length→Er ts.length (tyM ts f .ty a o))∧(∀l a o,a≤ts.length→Er ts.length (tyM ts f (.fl l) a o)):=by
 intro f
 induction f with
 | zero=>exact⟨(fun _ _ _ _ _ h=>by cases h),(fun _ _ _ _ _ _ h=>by cases h)⟩
 | succ f ih =>
  obtain⟨i1,i2⟩:=ih;obtain⟨l1,l2⟩:=kX ts f;refine⟨fun a o ha=> ?_,fun l a o ha=> ?_⟩
  ·rw[tyM]
   refine Er.ite (fun _=> ?_) fun _=>Er.ite (fun _=>Er.ret _ _ _) fun _=>Er.ite (fun hk=> ?_) fun _=>Er.ite (fun hk=> ?_) fun _=>Er.ite (fun hk=> ?_) fun _=>tY ha
   ·cases intR (pk ts a).text with
    | none=>exact tY ha
    | some p=>exact Er.ret _ _ _
   ·have hl:=bJ hk
    refine Er.rb (Er.beg _ _ ha) fun _ a1 o1 h1=>Er.rb (i1 _ _ ?_) fun _ _ _ _=>Er.ret _ _ _
    have:=cE h1;omega
   ·have hl:=bJ hk
    refine Er.rb (Er.beg _ _ ha) fun _ a1 o1 h1=> ?_
    have e1:=cE h1;refine Er.rb (Er.tak _ _ (by omega)) fun _ a2 o2 h2=> ?_
    have e2:=iE h2;have e4:=eJ e2.1 (by decide)
    refine Er.rb (Er.exp _ _ (by omega)) fun _ a3 o3 h3=> ?_
    have e3:=fJ h3;exact Er.rb (i1 _ _ (by omega)) fun _ _ _ _=>Er.ret _ _ _
   ·have hl:=bJ hk
    refine Er.rb (Er.beg _ _ ha) fun _ a1 o1 h1=>i2 _ _ _ ?_
    have:=cE h1;omega
  ·rw[tyM]
   refine Er.ite (fun _=>Er.rb (Er.en _ _ ha) fun _ _ _ _=>Er.ret _ _ _) fun _=>Er.rb (Er.ite (fun _=>Er.exp _ _ ha) fun _=>Er.ret _ _ _) fun _ a1 o1 h1=> ?_
   have e1:a1≤ts.length:=by
    rcases aI h1 with ⟨_,h1⟩|⟨_,h1⟩
    ·have:=fJ h1;omega
    ·cases h1;exact ha
   refine Er.rb (Er.tak _ _ e1) fun _ a2 o2 h2=> ?_
   have e2:=iE h2;have e4:=eJ e2.1 (by decide)
   refine Er.rb (Er.exp _ _ (by omega)) fun _ a3 o3 h3=> ?_
   have e3:=fJ h3;exact Er.rb (i1 _ _ (by omega)) fun _ a5 o5 h5=>i2 _ _ _ (l1 _ _ _ _ _ h5).2.2
theorem TQ: ∀f,(∀a o,a≤ts.length→Er ts.length (stM ts f .st a o))∧(∀l a o,a≤ts.length→Er ts.length (stM ts f (.li l) a o))∧(∀a o,a≤ts.length→Er ts.length (stM ts f .br a o))∧(∀c a o,a≤ts.length→Er ts.length (stM ts f (.ca c) a o)):=by
 intro f
 induction f with
 | zero=>exact⟨(fun _ _ _ _ _ h=>by cases h),(fun _ _ _ _ _ _ h=>by cases h),(fun _ _ _ _ _ h=>by cases h),(fun _ _ _ _ _ _ h=>by cases h)⟩
 | succ f ih =>
  obtain⟨i1,i2,i3,i4⟩:=ih;obtain⟨l1,l2,l3,l4⟩:=fW ts f;have ex: ∀l a o,a≤ts.length→Er ts.length (exM ts f (.ex l) a o):=(IV f).2.1
  have exl: ∀ {l a o x b p},exM ts f (.ex l) a o=some (.ok x b p)→b≤ts.length:=fun h=>(Ux f).2.1 _ _ _ _ _ _ h
  refine⟨fun a o ha=> ?_,fun l a o ha=> ?_,fun a o ha=> ?_,fun c a o ha=> ?_⟩
  ·rw[stM]
   have sim: ∀k a o,a≤ts.length→Er ts.length (mB ts k a o):=fun k a o ha=>Er.rb (Er.exp _ _ ha) fun _ _ _ _=>Er.ret _ _ _
   have sto: ∀w a o,a≤ts.length→Er ts.length (mA ts f w a o):=fun w a o ha=>by
    refine Er.rb (Er.beg _ _ ha) fun _ a1 o1 h1=> ?_
    have e1:=cE h1;have:=bJ e1.1;refine Er.rb (ex _ _ _ (by omega)) fun _ a2 o2 h2=>Er.rb (Er.exp _ _ (exl h2)) fun _ a3 o3 h3=> ?_
    have e3:=fJ h3;refine Er.rb (ex _ _ _ (by omega)) fun _ a4 o4 h4=>Er.rb (Er.en _ _ (exl h4)) fun _ a5 o5 h5=> ?_
    have e5:=vA h5;exact Er.rb (Er.exp _ _ (by omega)) fun _ _ _ _=>Er.ret _ _ _
   have nam: ∀k a o,a≤ts.length→Er ts.length (rb (nmM ts a o) fun n a o=>rb (expM ts [59] a o) fun _ a o=>ret (oneS (.mk k 0 n [] [] [] [])) a o):=fun k a o ha=>by
    refine Er.rb (Er.nm _ ha) fun _ a1 o1 h1=> ?_
    have e1:=gQ h1;exact Er.rb (Er.exp _ _ (by omega)) fun _ _ _ _=>Er.ret _ _ _
   refine Er.ite (fun hk=> ?_) fun _=>Er.ite (fun hk=>nam _ _ _ (by have:=bJ hk;omega)) fun _=>Er.ite (fun hk=>nam _ _ _ (by have:=bJ hk;omega)) fun _ =>
    Er.ite (fun hk=>sto _ _ _ (by have:=bJ hk;omega)) fun _=>Er.ite (fun hk=>sto _ _ _ (by have:=bJ hk;omega)) fun _=>Er.ite (fun hk=>sto _ _ _ (by have:=bJ hk;omega)) fun _=>Er.ite (fun hk=> ?_) fun _=>Er.ite (fun hk=> ?_) fun _=>Er.ite (fun hk=> ?_) fun _=>Er.ite (fun hk=> ?_) fun _=>Er.ite (fun hk=> ?_) fun _ =>
    Er.ite (fun hk=>sim _ _ _ (by have:=bJ hk;omega)) fun _=>Er.ite (fun hk=>sim _ _ _ (by have:=bJ hk;omega)) fun _=>Er.ite (fun hk=>sim _ _ _ (by have:=bJ hk;omega)) fun _=>Er.ite (fun hk=>sim _ _ _ (by have:=bJ hk;omega)) fun _=>tY ha
   ·have hl:=eJ hk (by decide)
    refine Er.rb (Er.nm _ ha) fun _ a1 o1 h1=> ?_
    have e1:=gQ h1;refine Er.ite (fun _=>Er.ret _ _ _) fun _=>Er.rb (Er.exp _ _ (by omega)) fun _ a2 o2 h2=> ?_
    have e2:=fJ h2;refine Er.ite (fun hk=>Er.rb (Er.exp _ _ (by have:=bJ hk;omega)) fun _ _ _ _=>Er.ret _ _ _) fun _=> ?_
    exact Er.rb (ex _ _ _ (by omega)) fun _ _ _ h3=>Er.rb (Er.exp _ _ (exl h3)) fun _ _ _ _=>Er.ret _ _ _
   ·have hl:=bJ hk
    exact Er.rb (ex _ _ _ (by omega)) fun _ _ _ h3=>Er.rb (Er.exp _ _ (exl h3)) fun _ _ _ _=>Er.ret _ _ _
   ·have hl:=bJ hk
    refine Er.rb (ex _ _ _ (by omega)) fun _ a1 o1 h1=>Er.rb (i3 _ _ (exl h1)) fun _ a2 o2 h2=>Er.ite (fun hk=> ?_) fun _=>Er.ret _ _ _
    have:=bJ hk;exact Er.rb (i3 _ _ (by omega)) fun _ _ _ _=>Er.ret _ _ _
   ·have hl:=bJ hk
    exact Er.rb (ex _ _ _ (by omega)) fun _ a1 o1 h1=>Er.rb (i3 _ _ (exl h1)) fun _ a2 o2 h2=>Er.ret _ _ _
   ·have hl:=bJ hk
    exact Er.rb (i3 _ _ (by omega)) fun _ a2 o2 h2=>Er.ret _ _ _
   ·have hl:=bJ hk
    refine Er.rb (ex _ _ _ (by omega)) fun _ a1 o1 h1=>Er.rb (Er.beg _ _ (exl h1)) fun _ a2 o2 h2=> ?_
    have e2:=cE h2;have:=bJ e2.1;exact Er.rb (i4 _ _ _ (by omega)) fun _ _ _ _=>Er.ret _ _ _
  ·rw[stM]
   exact Er.ite (fun _=>Er.ret _ _ _) fun _=>Er.rb (i1 _ _ ha) fun _ a1 o1 h1=>i2 _ _ _ (l1 _ _ _ _ _ h1).2.2
  ·rw[stM]
   refine Er.rb (Er.beg _ _ ha) fun _ a1 o1 h1=> ?_
   have e1:=cE h1;have:=bJ e1.1;refine Er.rb (i2 _ _ _ (by omega)) fun _ a2 o2 h2=> ?_
   have e2:=l2 _ _ _ _ _ _ h2;exact Er.rb (Er.en _ _ (by omega)) fun _ _ _ _=>Er.ret _ _ _
  ·rw[stM]
   refine Er.ite (fun hk=>Er.ite (fun hn=> ?_) fun _=>tY (by have:=bJ hk;omega)) fun _=>Er.rb (Er.en _ _ ha) fun _ _ _ _=>Er.ret _ _ _
   have hl:=bJ hk;have hl2:=eJ hn.1 (by decide)
   exact Er.rb (i3 _ _ (by omega)) fun _ a1 o1 h1=>i4 _ _ _ (l3 _ _ _ _ _ h1).2.2
theorem Er.acc{n:Nat}(s:Bs)(a o:Nat):Er n (accM ts s a o):=Er.ite (fun _=>Er.ret _ _ _) fun _=>Er.ret _ _ _
theorem LO{s:Bs}{a o:Nat}{w:Bool}{b p:Nat}(h:accM ts s a o=some (.ok w b p))(ha:a≤ts.length):b≤ts.length:=by
 rcases aI h with ⟨hk,h⟩|⟨_,h⟩
 ·have:=bJ hk
  cases h;omega
 ·cases h;exact ha
theorem Wu{f a o:Nat}(ha:a≤ts.length):Er ts.length (xL ts f a o):=by
 refine Er.rb (Er.exp _ _ ha) fun _ a1 o1 h1=> ?_
 have e1:=fJ h1
 refine Er.rb (Er.nm _ (by omega)) fun _ a2 o2 h2=> ?_
 have e2:=gQ h2
 refine Er.rb (Er.exp _ _ (by omega)) fun _ a3 o3 h3=> ?_
 have e3:=fJ h3
 exact Er.rb ((TE f).1 _ _ (by omega)) fun _ a4 o4 h4=>Er.rb (Er.exp _ _ ((kX ts f).1 _ _ _ _ _ h4).2.2) fun _ _ _ _=>Er.ret _ _ _
theorem PX{a o:Nat}(ha:a≤ts.length):Er ts.length (Dg ts a o):=by
 refine Er.rb (Er.exp _ _ ha) fun _ a1 o1 h1=> ?_
 have e1:=fJ h1
 refine Er.rb (Er.nm _ (by omega)) fun _ a2 o2 h2=> ?_
 have e2:=gQ h2
 refine Er.rb (Er.tak _ _ (by omega)) fun _ a3 o3 h3=> ?_
 have e3:=iE h3
 have q3:=eJ e3.1 (by decide)
 refine Er.rb (Er.acc _ _ _) fun _ a4 o4 h4=>Er.rb (Er.acc _ _ _) fun _ a5 o5 h5=> ?_
 have e5:=LO h5 (LO h4 (by omega))
 refine Er.rb (Er.exp _ _ e5) fun _ a6 o6 h6=> ?_
 have e6:=fJ h6
 refine Er.rb (Er.tak _ _ (by omega)) fun _ a7 o7 h7=> ?_
 have e7:=iE h7
 have q7:=eJ e7.1 (by decide)
 exact Er.rb (Er.exp _ _ (by omega)) fun _ _ _ _=>Er.ret _ _ _
theorem MP: ∀(f:Nat) (l:List Va) (a o:Nat),a≤ts.length→Er ts.length (vasM ts f l a o):=by
 intro f
 induction f with
 | zero=>intro l a o _ b e h;cases h
 | succ f ih =>
  intro l a o ha;rw[vasM];exact Er.ite (fun hk=>Er.rb (Wu ha) fun _ a1 o1 h1=>ih _ _ _ (lY h1).2.2) fun _=>Er.ret _ _ _
theorem MO: ∀(f:Nat) {l:List Va} {a o:Nat} {v:List Va} {b p:Nat},a≤ts.length→vasM ts f l a o=some (.ok v b p)→b≤ts.length:=by
 intro f
 induction f with
 | zero=>intro l a o v b p _ h;cases h
 | succ f ih =>
  intro l a o v b p ha h;rw[vasM]at h;rcases aI h with ⟨hk,h⟩|⟨hk,h⟩
  ·obtain⟨_,a1,o1,h1,h⟩:=aO h
   exact ih (lY h1).2.2 h
  ·cases h;exact ha
theorem Xx{f a o:Nat}(ha:a≤ts.length):Er ts.length (funM ts f a o):=by
 refine Er.rb (Er.exp _ _ ha) fun _ a1 o1 h1=> ?_
 have e1:=fJ h1
 refine Er.rb (Er.nm _ (by omega)) fun _ a2 o2 h2=> ?_
 have e2:=gQ h2
 refine Er.rb (Er.beg _ _ (by omega)) fun _ a3 o3 h3=> ?_
 have e3:=cE h3
 have q3:=bJ e3.1
 refine Er.rb (MP _ _ _ _ (by omega)) fun _ a4 o4 h4=> ?_
 have e4:=MO f (by omega) h4
 refine Er.rb ((TQ f).2.1 _ _ _ e4) fun _ a5 o5 h5=> ?_
 have e5:=(fW ts f).2.1 _ _ _ _ _ _ h5
 exact Er.rb (Er.en _ _ (by omega)) fun _ _ _ _=>Er.ret _ _ _
theorem MT: ∀(f:Nat) (u:Un) (a o:Nat),a≤ts.length→Er ts.length (uniM ts f u a o):=by
 intro f
 induction f with
 | zero=>intro u a o _ b e h;cases h
 | succ f ih =>
  intro u a o ha;rw[uniM]
  exact Er.ite (fun _=>Er.ret _ _ _) fun _=>Er.ite (fun hk=>Er.rb (Wu ha) fun _ a1 o1 h1=>ih _ _ _ (lY h1).2.2) fun _=>Er.ite (fun hk=>Er.rb (PX ha) fun _ a1 o1 h1=>ih _ _ _ (zM h1).2.2) fun _ =>
   Er.ite (fun hk=>Er.rb (Xx ha) fun _ a1 o1 h1=>ih _ _ _ (wJ h1).2.2) fun _=>tY ha
theorem Er.all{α:Type}{r:Option (Rs α)}(h:Er ts.length r)(hl: ∀x a o,r=some (.ok x a o)→a≤ts.length):Er ts.length (allM ts r):=Er.rb h fun x a o h1=>Er.ite (fun _=>tY (hl x a o h1)) fun _=>Er.ret _ _ _
end
def fu(ts:List Tk):Nat:=3*ts.length+10
def rdX{α:Type}(ts:List Tk)(z:α)(r:Option (Rs α)):α×Int×Nat:=match allM ts r with
 | some (.ok x _ _)=>(x,0,0)
 | some (.bad b e)=>(z,e,b)
 | none=>(z,0,0)
def ex0:Ex:= .mk 0 0 ByteArray.empty 0 []
def fn0:Fun:=⟨ByteArray.empty,[],[]⟩
def uz0:Un:=⟨[],[],[]⟩
def exR(ts:List Tk):Ex×Int×Nat:=rdX ts ex0 (exM ts (fu ts) (.ex 1) 0 0)
def fnR(ts:List Tk):Fun×Int×Nat:=rdX ts fn0 (funM ts (fu ts) 0 0)
def unR(ts:List Tk):Un×Int×Nat:=rdX ts uz0 (uniM ts (fu ts) uz0 0 0)
def BZ(s:Bs):Ex×Int:=if(scnR s).2≠0 then(ex0,(scnR s).2)else if(exR (scnR s).1).2.1≠0 then(ex0,(exR (scnR s).1).2.1)else if esh (exR (scnR s).1).1 64=true then((exR (scnR s).1).1,0)else(ex0,20)
def funP(s:Bs):Fun×Int:=if(scnR s).2≠0 then(fn0,(scnR s).2)else if(fnR (scnR s).1).2.1≠0 then(fn0,(fnR (scnR s).1).2.1)else((fnR (scnR s).1).1,0)
def Aj(s:Bs):Un×Int:=if(scnR s).2≠0 then(uz0,(scnR s).2)else if(unR (scnR s).1).2.1≠0 then(uz0,(unR (scnR s).1).2.1)else if unE (unR (scnR s).1).1≠0 then(uz0,unE (unR (scnR s).1).1)else((unR (scnR s).1).1,0)
def JJ(s:Bs):(Int×Int)×Int:=if(scnR s).2=3 then(Lx (scnR s).1 ((scnR s).1.length-1),3)else if(scnR s).2≠0 then((0,0),(scnR s).2)
 else if(unR (scnR s).1).2.1≠0 then(Lx (scnR s).1 (unR (scnR s).1).2.2,(unR (scnR s).1).2.1)else((0,0),unE (unR (scnR s).1).1)
theorem Dm(s:Bs):(∀t∈(scnR s).1,TkOk t)∧(scnR s).1.length≤65536∧((scnR s).2=0∨(scnR s).2=3∨(scnR s).2=6):=by
 unfold scnR
 by_cases h:65536<s.length
 ·rw[if_pos h];exact⟨by simp,by simp,.inr (.inr rfl)⟩
 ·rw[if_neg h,Jl]
  refine⟨NR (by omega),by have:=GK s;show(scan s).1.length≤_;omega,?_⟩
  show(if(scan s).2 then(0:Int)else 3)=0∨(if(scan s).2 then(0:Int)else 3)=3∨_
  cases (scan s).2
  ·exact .inr (.inl rfl)
  ·exact .inl rfl
theorem As{α:Type}{ts:List Tk}{z:α}{r:Option (Rs α)}(hs:Sm r)(he:Er ts.length r)(hl: ∀x a o,r=some (.ok x a o)→a≤ts.length) :
  (∃b e,allM ts r=some (.bad b e)∧rdX ts z r=(z,e,b)∧(e=3∨e=20)∧b≤ts.length)∨ ∃x b p,allM ts r=some (.ok x b p)∧rdX ts z r=(x,0,0)∧r=some (.ok x b p):=by
 obtain⟨q,hq⟩:=Sm.all (ts:=ts) hs
 cases q with
 | bad b e =>
  obtain⟨h1,h2⟩:=Er.all he hl b e hq;exact .inl ⟨b,e,hq,by unfold rdX;rw[hq],h1,h2⟩
 | ok x b p =>
  refine .inr ⟨x,b,p,hq,by unfold rdX;rw[hq],?_⟩
  obtain⟨y,a,o,h1,h2⟩:=aO hq;rcases aI h2 with ⟨_,h2⟩|⟨_,h2⟩
  ·cases h2
  ·cases h2;exact h1
theorem CA(ts:List Tk):(∃b e,allM ts (exM ts (fu ts) (.ex 1) 0 0)=some (.bad b e)∧exR ts=(ex0,e,b)∧(e=3∨e=20)∧b≤ts.length)∨ ∃x b p,allM ts (exM ts (fu ts) (.ex 1) 0 0)=some (.ok x b p)∧exR ts=(x,0,0)∧exM ts (fu ts) (.ex 1) 0 0=some (.ok x b p) :=
 As ((Qy ts _).2.1 _ _ _ (by unfold fu;omega)) ((IV _).2.1 _ _ _ (Nat.zero_le _)) fun x a o h=>(Ux _).2.1 _ _ _ _ _ _ h
theorem BT(ts:List Tk):(∃b e,allM ts (funM ts (fu ts) 0 0)=some (.bad b e)∧fnR ts=(fn0,e,b)∧(e=3∨e=20)∧b≤ts.length)∨ ∃x b p,allM ts (funM ts (fu ts) 0 0)=some (.ok x b p)∧fnR ts=(x,0,0)∧funM ts (fu ts) 0 0=some (.ok x b p) :=
 As (Bk ts (by unfold fu;omega)) (Xx (Nat.zero_le _)) fun x a o h=>(wJ h).2.2
theorem MS{ts:List Tk}: ∀(f:Nat) {u:Un} {a o:Nat} {v:Un} {b p:Nat},a≤ts.length→uniM ts f u a o=some (.ok v b p)→b≤ts.length:=by
 intro f
 induction f with
 | zero=>intro u a o v b p _ h;cases h
 | succ f ih =>
  intro u a o v b p ha h;rw[uniM]at h;rcases aI h with ⟨hk,h⟩|⟨hk,h⟩
  ·cases h;exact ha
  rcases aI h with ⟨hk,h⟩|⟨hk,h⟩
  ·obtain⟨x,a1,o1,h1,h⟩:=aO h
   exact ih (lY h1).2.2 h
  rcases aI h with ⟨hk,h⟩|⟨hk,h⟩
  ·obtain⟨x,a1,o1,h1,h⟩:=aO h
   exact ih (zM h1).2.2 h
  rcases aI h with ⟨hk,h⟩|⟨hk,h⟩
  ·obtain⟨x,a1,o1,h1,h⟩:=aO h
   exact ih (wJ h1).2.2 h
  ·cases h
theorem Ja(ts:List Tk):(∃b e,allM ts (uniM ts (fu ts) uz0 0 0)=some (.bad b e)∧unR ts=(uz0,e,b)∧(e=3∨e=20)∧b≤ts.length)∨ ∃x b p,allM ts (uniM ts (fu ts) uz0 0 0)=some (.ok x b p)∧unR ts=(x,0,0)∧uniM ts (fu ts) uz0 0 0=some (.ok x b p) :=
 As (Iy ts _ _ _ _ (by unfold fu;omega)) (MT _ _ _ _ (Nat.zero_le _)) fun x a o h=>MS _ (Nat.zero_le _) h
def iN:=A16 @oB @iR @cO @jO @hU @fB @dR @kL @lA @oV @gM @iV @yK @mZ @iD (A10 @lO @lN @lM @oA @gT @cN @iQ @hM @dK @dA)
def rD:=A8 @aD @aL @aE @aN aS aG aH aV
def SamL(l:List Nd):Prop:=PC Tryz.prog 53 [.sl (l.map ndV) .ro,.sl (l.map ndV) .ro] (.im (.bool (true)))
theorem KG(l:List Nd)(hl:lT l)(h: ∀t∈l,SamL t.l∧SamL t.el∧ ∀c∈t.cs,SamL c):SamL l:=by
 show PC _ _ _ _
 obtain⟨hn,hf⟩:=hl
 refine pcEnt 120 Tryz.func53 rfl [(0,.sl (l.map ndV) .ro),(1,.sl (l.map ndV) .ro)] ?_
 refine wG iN @List.length_map.{0,0} ?_
 refine aP ?_
 refine ALp.cutP 0 [(0,.sl (l.map ndV) .ro),(1,.sl (l.map ndV) .ro),(5,(.im (.int .i64 ((((0:Nat)):Int)))))] [] rD ?_
 refine aW l.length (fun _=>True) (fun m=>⟨dn 120 [(0,.sl (l.map ndV) .ro),(1,.sl (l.map ndV) .ro),(5,(.im (.int .i64 ((((m:Nat)):Int)))))],ofl []⟩) ?_ 0 (Nat.zero_le _) trivial
 intro m hm hI hnext
 by_cases hlt:m<l.length
 ·have hlt':(m:Int)<(l.length:Int):=by omega
  have hg:=bB hlt;have hm1:=aK hlt (by omega)
  obtain⟨h1,h2,h3⟩:=h l[m] (List.getElem_mem hlt);unfold SamL at h1 h2;have hf:=dU (hf _ (List.getElem_mem hlt));generalize l[m]=t at hg h1 h2 h3 hf;obtain⟨_,hnm,⟨hel,hex⟩,_,_,hcl,hcx⟩:=hf;refine wG iN (A3 hlt' hg BN05) ?_;refine wdG iN BN05 ?_;refine AR.callP h1 TI rD ?_;refine goG iN BN05 ?_;refine AR.callP h2 TI rD ?_;refine goG iN BN05 ?_;refine wdG iN BN05 ?_;refine aP ?_;refine ALp.cutP 2 [(0,.sl (l.map ndV) .ro),(1,.sl (l.map ndV) .ro),(5,(.im (.int .i64 ((m:Int))))),(6,.pt 0 0),(7,.pt 1 0),(8,(.im (.int .i64 ((((0:Nat)):Int)))))] [.box [.im (.int .i64 (t).kind),.im (.int .i64 (t).width),.im (.string (t).name),.sl ((t).e.map exV) .ro,.sl ((t).l.map ndV) .ro,.sl ((t).el.map ndV) .ro,.sl ((t).cs.map nlV) .ro],.box [.im (.int .i64 (t).kind),.im (.int .i64 (t).width),.im (.string (t).name),.sl ((t).e.map exV) .ro,.sl ((t).l.map ndV) .ro,.sl ((t).el.map ndV) .ro,.sl ((t).cs.map nlV) .ro]] rD ?_;refine aW t.e.length (fun _=>True) (fun j=>⟨dn 120 [(0,.sl (l.map ndV) .ro),(1,.sl (l.map ndV) .ro),(5,(.im (.int .i64 ((m:Int))))),(6,.pt 0 0),(7,.pt 1 0),(8,(.im (.int .i64 ((((j:Nat)):Int)))))],ofl [.box [.im (.int .i64 (t).kind),.im (.int .i64 (t).width),.im (.string (t).name),.sl ((t).e.map exV) .ro,.sl ((t).l.map ndV) .ro,.sl ((t).el.map ndV) .ro,.sl ((t).cs.map nlV) .ro],.box [.im (.int .i64 (t).kind),.im (.int .i64 (t).width),.im (.string (t).name),.sl ((t).e.map exV) .ro,.sl ((t).l.map ndV) .ro,.sl ((t).el.map ndV) .ro,.sl ((t).cs.map nlV) .ro]]⟩) ?_ 0 (Nat.zero_le _) trivial
  intro j hj hJ hnext2
  by_cases hlj:j<t.e.length
  ·have hlj':(j:Int)<(t.e.length:Int):=by omega
   have hgj:=bB hlj;have hj1:=aK hlj (by omega)
   have hc:=Vu t.e[j] (hex _ (List.getElem_mem hlj)) t.e[j] (hex _ (List.getElem_mem hlj));rw[AY]at hc;refine wdG iN (A3 hlj' hgj EX) ?_;refine AR.callP hc @bH rD ?_;refine goG iN TI ?_;refine wdG iN hj1 ?_;refine ALp.cutP 2 [(0,.sl (l.map ndV) .ro),(1,.sl (l.map ndV) .ro),(5,(.im (.int .i64 ((m:Int))))),(6,.pt 0 0),(7,.pt 1 0),(8,(.im (.int .i64 ((((j+1:Nat)):Int)))))] [.box [.im (.int .i64 (t).kind),.im (.int .i64 (t).width),.im (.string (t).name),.sl ((t).e.map exV) .ro,.sl ((t).l.map ndV) .ro,.sl ((t).el.map ndV) .ro,.sl ((t).cs.map nlV) .ro],.box [.im (.int .i64 (t).kind),.im (.int .i64 (t).width),.im (.string (t).name),.sl ((t).e.map exV) .ro,.sl ((t).l.map ndV) .ro,.sl ((t).el.map ndV) .ro,.sl ((t).cs.map nlV) .ro]] rD ?_;exact hnext2 (j+1) (by omega) (by omega) trivial
  obtain rfl:j=t.e.length:=by omega
  clear hnext2 hJ;refine whG iN @Int.lt_irrefl ?_;refine Blk'.here (Thn.n ?_);refine wG iN TI ?_;refine aP ?_;refine ALp.cutP 2 [(0,.sl (l.map ndV) .ro),(1,.sl (l.map ndV) .ro),(5,(.im (.int .i64 ((m:Int))))),(6,.pt 0 0),(7,.pt 1 0),(9,(.im (.int .i64 ((((0:Nat)):Int)))))] [.box [.im (.int .i64 (t).kind),.im (.int .i64 (t).width),.im (.string (t).name),.sl ((t).e.map exV) .ro,.sl ((t).l.map ndV) .ro,.sl ((t).el.map ndV) .ro,.sl ((t).cs.map nlV) .ro],.box [.im (.int .i64 (t).kind),.im (.int .i64 (t).width),.im (.string (t).name),.sl ((t).e.map exV) .ro,.sl ((t).l.map ndV) .ro,.sl ((t).el.map ndV) .ro,.sl ((t).cs.map nlV) .ro]] rD ?_;refine aW t.cs.length (fun _=>True) (fun j=>⟨dn 120 [(0,.sl (l.map ndV) .ro),(1,.sl (l.map ndV) .ro),(5,(.im (.int .i64 ((m:Int))))),(6,.pt 0 0),(7,.pt 1 0),(9,(.im (.int .i64 ((((j:Nat)):Int)))))],ofl [.box [.im (.int .i64 (t).kind),.im (.int .i64 (t).width),.im (.string (t).name),.sl ((t).e.map exV) .ro,.sl ((t).l.map ndV) .ro,.sl ((t).el.map ndV) .ro,.sl ((t).cs.map nlV) .ro],.box [.im (.int .i64 (t).kind),.im (.int .i64 (t).width),.im (.string (t).name),.sl ((t).e.map exV) .ro,.sl ((t).l.map ndV) .ro,.sl ((t).el.map ndV) .ro,.sl ((t).cs.map nlV) .ro]]⟩) ?_ 0 (Nat.zero_le _) trivial
  intro j hj hJ hnext2
  by_cases hlj:j<t.cs.length
  ·have hlj':(j:Int)<(t.cs.length:Int):=by omega
   have hgj:=bB hlj;have hj1:=aK hlj (by omega)
   have hc:=h3 t.cs[j] (List.getElem_mem hlj);unfold SamL at hc;refine wdG iN (A3 hlj' hgj BN05) ?_;refine AR.callP hc TI rD ?_;refine goG iN TI ?_;refine wdG iN hj1 ?_;refine ALp.cutP 2 [(0,.sl (l.map ndV) .ro),(1,.sl (l.map ndV) .ro),(5,(.im (.int .i64 ((m:Int))))),(6,.pt 0 0),(7,.pt 1 0),(9,(.im (.int .i64 ((((j+1:Nat)):Int)))))] [.box [.im (.int .i64 (t).kind),.im (.int .i64 (t).width),.im (.string (t).name),.sl ((t).e.map exV) .ro,.sl ((t).l.map ndV) .ro,.sl ((t).el.map ndV) .ro,.sl ((t).cs.map nlV) .ro],.box [.im (.int .i64 (t).kind),.im (.int .i64 (t).width),.im (.string (t).name),.sl ((t).e.map exV) .ro,.sl ((t).l.map ndV) .ro,.sl ((t).el.map ndV) .ro,.sl ((t).cs.map nlV) .ro]] rD ?_;exact hnext2 (j+1) (by omega) (by omega) trivial
  obtain rfl:j=t.cs.length:=by omega
  clear hnext2 hJ;refine whG iN @Int.lt_irrefl ?_;refine Blk'.here (Blk'.n (Thn.n ?_));refine wG iN hm1 ?_;refine ALp.cutP 0 [(0,.sl (l.map ndV) .ro),(1,.sl (l.map ndV) .ro),(5,(.im (.int .i64 ((((m+1:Nat)):Int)))))] [] rD ?_;exact hnext (m+1) (by omega) (by omega) trivial
 obtain rfl:m=l.length:=by omega
 clear hnext hI
 refine wG iN @Int.lt_irrefl ?_
 exact aB
theorem QI: ∀l,lT l→SamL l:=by
 refine Nd.listInduct fun l ih=> ?_
 intro hl
 refine KG l hl fun t ht=> ?_
 have hf:=dU (hl.2 t ht)
 obtain⟨i1,i2,i3⟩:=ih t ht
 exact⟨i1 hf.2.2.2.1,i2 hf.2.2.2.2.1,fun c hc=>i3 c hc (hf.2.2.2.2.2.2 c hc)⟩
def Dz:=A9 @kA @jO @dR @xC @mX @pB @iZ @iQ @dA
def yE:=A5 pH kU eU @aL aG
theorem Yl(f:Fun)(hf:fitFn f):PC Tryz.prog 20 [fnV f,fnV f] (.im (.bool (true))):=by
 have h1:=Rw f.vars hf.vn (Nat.le_trans hf.vl (by decide))
 have h2:=QI f.body hf.bd
 unfold SamL at h2
 rw[jH]
 refine pcEnt 24 Tryz.func20 rfl [(0,.ag [.im (.string f.name),.sl (f.vars.map vaV) .ro,.sl (f.body.map ndV) .ro]),(1,.ag [.im (.string f.name),.sl (f.vars.map vaV) .ro,.sl (f.body.map ndV) .ro])] ?_
 refine wdG Dz TI ?_
 refine AR.callP h1 TI yE ?_
 refine goG Dz TI ?_
 refine AR.callP h2 TI yE ?_
 refine goG Dz TI ?_
 refine wG Dz TI ?_
 exact aB
def qJ:=A12 @kA @Af @xE @nQ @xD @lV @pC @mY @iZ @wW @tN @lG
theorem QH(u:Un)(hu:fitU u)(hd: ∀s∈u.data,s.data.length≤4194304):PC Tryz.prog 16 [unV u,unV u] (.im (.bool (true))):=by
 have h1:=Rw u.globals hu.gn (Nat.le_trans hu.gl (by decide))
 have h2:=KF u.data hd hu.dl
 have hfl:=hu.fl
 refine pcEnt 48 Tryz.func16 rfl [(0,unV u),(1,unV u)] ?_
 simp only[kS]
 refine wdG qJ TI ?_
 refine AR.callP h1 TI yE ?_
 refine goG qJ TI ?_
 refine AR.callP h2 TI yE ?_
 refine goG qJ TI ?_
 refine wdG qJ TI ?_
 refine aP ?_
 refine ALp.cutP 2 [(2,.pt 0 0),(3,.pt 1 0),(5,(.im (.int .i64 ((((0:Nat)):Int)))))] [.box [.sl (u.globals.map vaV) .ro,.sl (u.data.map scV) .ro,.sl (u.funcs.map fnV) .ro],.box [.sl (u.globals.map vaV) .ro,.sl (u.data.map scV) .ro,.sl (u.funcs.map fnV) .ro]] yE ?_
 refine aW u.funcs.length (fun _=>True) (fun m=>⟨dn 48 [(2,.pt 0 0),(3,.pt 1 0),(5,(.im (.int .i64 ((((m:Nat)):Int)))))],ofl [.box [.sl (u.globals.map vaV) .ro,.sl (u.data.map scV) .ro,.sl (u.funcs.map fnV) .ro],.box [.sl (u.globals.map vaV) .ro,.sl (u.data.map scV) .ro,.sl (u.funcs.map fnV) .ro]]⟩) ?_ 0 (Nat.zero_le _) trivial
 intro m hm hI hnext
 by_cases hlt:m<u.funcs.length
 ·have hlt':(m:Int)<(u.funcs.length:Int):=by omega
  have hg:=bB hlt;have hm1:=aK hlt (by omega)
  have hc:=Yl u.funcs[m] (hu.fn _ (List.getElem_mem hlt));refine wdG qJ (A10 hlt' hg Gk Bl Gi Gh Gj Bm @List.getElem?_map.{0,0} @Int.natCast_nonneg) ?_;refine AR.callP hc jH yE ?_;refine goG qJ TI ?_;refine wdG qJ hm1 ?_;refine ALp.cutP 2 [(2,.pt 0 0),(3,.pt 1 0),(5,(.im (.int .i64 ((((m+1:Nat)):Int)))))] [.box [.sl (u.globals.map vaV) .ro,.sl (u.data.map scV) .ro,.sl (u.funcs.map fnV) .ro],.box [.sl (u.globals.map vaV) .ro,.sl (u.data.map scV) .ro,.sl (u.funcs.map fnV) .ro]] yE ?_;exact hnext (m+1) (by omega) (by omega) trivial
 obtain rfl:m=u.funcs.length:=by omega
 clear hnext hI
 refine wG qJ @Int.lt_irrefl ?_
 exact aB
end Go.Proofs.YtmbmmckagcdapaaGreatDoor
