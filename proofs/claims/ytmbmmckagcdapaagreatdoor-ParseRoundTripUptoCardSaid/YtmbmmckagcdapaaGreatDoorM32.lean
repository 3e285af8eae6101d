import Derived.Test.YtmbmmckagcdapaaGreatDoorM11
import Derived.Test.YtmbmmckagcdapaaGreatDoorM34
import Derived.Test.YtmbmmckagcdapaaGreatDoorM10
import Derived.Test.YtmbmmckagcdapaaGreatDoorM12
import Derived.Test.YtmbmmckagcdapaaGreatDoorM27
import Derived.Test.YtmbmmckagcdapaaGreatDoorM15
import Derived.Test.YtmbmmckagcdapaaGreatDoorM18
import Derived.Test.YtmbmmckagcdapaaGreatDoorM24
import Derived.Test.YtmbmmckagcdapaaGreatDoorM16
set_option linter.all false
namespace Go.Proofs.YtmbmmckagcdapaaGreatDoor
open Go.RowKit
variable {H:Type}
theorem GF{α:Type}{G:α→V}{Q:α→Prop}{μ:α→Nat}{es:List (DataW H)}(h: ∀x∈es,∃a,dV x=G a∧Q a∧μ a≤Rows.uptoBulk x): ∃l:List α,dVL es=l.map G∧l.length=es.length∧(∀a∈l,Q a)∧(l.map μ).sum≤Rows.uptoBulkAll es:=by
 induction es with
 | nil=>exact⟨[],by simp[dVL],rfl,(fun a ha=>by cases ha),by simp⟩
 | cons x r ih =>
  obtain⟨a,h1,h2,h6⟩:=h x (by simp)
  obtain⟨l,h3,h4,h5,h7⟩:=ih fun y hy=>h y (by simp[hy])
  refine⟨a::l,by simp[dVL,h1,h3],by simp[h4],fun b hb=> ?_,?_⟩
  ·rcases List.mem_cons.1 hb with rfl|hb
   ·exact h2
   ·exact h5 b hb
  ·simp only[List.map_cons,List.sum_cons,Rows.uptoBulkAll]
   omega
theorem zM{P:Program}{α:Type}{G:α→V}{Q:α→Prop}{μ:α→Nat}{d:DataW H}{t e:TypeId}(hd:Rd P t d)(ht:eS P t=some e)(h: ∀x:DataW H,Rows.uptoBulk x<Rows.uptoBulk d→Rd P e x→ ∃a,dV x=G a∧Q a∧μ a≤Rows.uptoBulk x) :
  ∃l:List α,dV d= .sl (l.map G) .ro∧l.length≤Rows.uptoBulk d∧(∀a∈l,Q a)∧(l.map μ).sum+1≤Rows.uptoBulk d:=by
 rcases hd.slice_inv ht with rfl|⟨es,sp,rfl,hes⟩
 ·exact⟨[],by simp[dV],by simp,(fun a ha=>by cases ha),by simp[Rows.uptoBulk]⟩
 ·have h0:=Xf es sp
  obtain⟨l,h1,h2,h3,h4⟩:=GF (G:=G) (Q:=Q) (μ:=μ) (es:=es) fun x hx=>h x (by have:=Qm hx;omega) (hes x hx)
  refine⟨l,by simp[dV,h1],?_,h3,by omega⟩
  have:=Qn es;omega
theorem Rd.bool_inv{P:Program}{t:TypeId}{d:DataW H}(h:Rd P t d)(ht:P.underlying t=some .bool): ∃b,d= .lit (.bool b):=by
 cases h with
 | bool hu=>exact⟨_,rfl⟩
 | int hu=>rw[hu]at ht;cases ht
 | string hu=>rw[hu]at ht;cases ht
 | agg hu=>rw[hu]at ht;cases ht
 | nil hu=>rw[hu]at ht;cases ht
 | slice hu=>rw[hu]at ht;cases ht
theorem HA{k w:Int}{n:ByteArray}{e:List Ex}{l el:List Nd}{cs:List (List Nd)}(h1:I64 k∧I64 w)(h2:n.size≤9223372036854775807)(h3:e.length≤4194304∧l.length≤4194304∧el.length≤4194304∧cs.length≤4194304)
  (h4: ∀x∈e,fitE x) (h5: ∀t∈l,fitN t) (h6: ∀t∈el,fitN t) (h7: ∀c∈cs,fitNL c):fitN (.mk k w n e l el cs):=by
 have q:Pb (.mk k w n e l el cs)=_:=Nd.para_mk _ k w n e l el cs
 show Pb (.mk k w n e l el cs)=true
 rw[q]
 simp only[Bool.and_eq_true,Nd.kind,Nd.width,Nd.name,Nd.e,Nd.l,Nd.el,Nd.cs,List.all_map,List.all_eq_true]
 exact⟨⟨⟨⟨⟨⟨⟨decide_eq_true h1,decide_eq_true h2⟩,decide_eq_true h3⟩,h4⟩,fun c hc=>decide_eq_true (h7 c hc).1⟩,h5⟩,h6⟩,fun c hc=>by
  simp only[Function.comp,List.all_map,List.all_eq_true]
  exact(h7 c hc).2⟩
theorem ZL:Hb Tryz.prog 165=some [3,3,9,44,35,35,163]:=by kernel_rfl
theorem QY:eS Tryz.prog 35=some 165:=by kernel_rfl
theorem YU:eS Tryz.prog 163=some 35:=by kernel_rfl
theorem ZK:Hb Tryz.prog 76=some [9,43,69,4,4]:=by kernel_rfl
theorem YT:eS Tryz.prog 24=some 76:=by kernel_rfl
theorem YX:eS Tryz.prog 69=some 5:=by kernel_rfl
theorem ZP:rW Tryz.prog 5=some .u8:=by kernel_rfl
theorem ZM:Hb Tryz.prog 37=some [9,23,35]:=by kernel_rfl
theorem YV:eS Tryz.prog 25=some 37:=by kernel_rfl
theorem ZI:Hb Tryz.prog 27=some [23,24,25]:=by kernel_rfl
theorem WW: ∀(N:Nat) (d:DataW H),Rows.uptoBulk d≤N→N≤4194304→Rd Tryz.prog 165 d→ ∃t:Nd,dV d=ndV t∧fitN t∧cntT t≤Rows.uptoBulk d:=by
 intro N
 induction N using Nat.strongRecOn with
 | _ N ih =>
  intro d hb hN hd;obtain⟨ps,rfl,hps⟩:=hd.agg_inv ZL
  match ps,hps with
  | [d1,d2,d3,d4,d5,d6,d7],⟨h1,h2,h3,h4,h5,h6,h7,_⟩ =>
   obtain⟨k,rfl,hk⟩:=h1.int_inv Bo;obtain⟨w,rfl,hw⟩:=h2.int_inv Bo;obtain⟨s,rfl,hs⟩:=h3.string_inv Tryz.underlying9;simp only[Rows.uptoBulk,Rows.uptoBulkAll]at hb
   have hL: ∀x:DataW H,Rows.uptoBulk x<N→Rd Tryz.prog 35 x→ ∃l:List Nd,dV x= .sl (l.map ndV) .ro∧l.length≤Rows.uptoBulk x∧(∀a∈l,fitN a)∧(l.map cntT).sum+1≤Rows.uptoBulk x:=fun x hx hr =>
    zM (G:=ndV) (Q:=fitN) (μ:=cntT) hr QY fun y hy hry=>ih (Rows.uptoBulk y) (by omega) y (Nat.le_refl _) (by omega) hry
   obtain⟨es,e1,e2,e3⟩:=nD (G:=exV) (Q:=fitE) h4 QZ fun x hx hr=>WY _ x (Nat.le_refl _) (by omega) hr
   obtain⟨l,l1,l2,l3,l4⟩:=hL d5 (by omega) h5
   obtain⟨el,m1,m2,m3,m4⟩:=hL d6 (by omega) h6
   obtain⟨cs,c1,c2,c3,c4⟩:=zM (G:=nlV) (Q:=fitNL) (μ:=cnt) h7 YU fun x hx hr=>by
    obtain⟨q,q1,q2,q3,q4⟩:=hL x (by omega) hr
    exact⟨q,q1,⟨by omega,q3⟩,by unfold cnt;omega⟩
   refine⟨.mk k w s es l el cs,?_,HA ⟨uM hk,uM hw⟩ (Nat.le_trans hs (by decide)) ⟨by omega,by omega,by omega,by omega⟩ e3 l3 m3 c3,?_⟩
   ·simp only[dV,dVF,e1,l1,m1,c1,eP,V.cells,List.append_nil,List.cons_append,List.nil_append]
   ·rw[mT]
    simp only[subs,Nd.l,Nd.el,Nd.cs,List.map_cons,List.sum_cons,Rows.uptoBulk,Rows.uptoBulkAll];unfold cnt at c4 ⊢;omega
theorem WV(d:DataW H)(hb:Rows.uptoBulk d≤4194304)(hd:Rd Tryz.prog 35 d): ∃l:List Nd,dV d= .sl (l.map ndV) .ro∧fitNL l∧cnt l≤Rows.uptoBulk d:=by
 obtain⟨l,h1,h2,h3,h4⟩:=zM (G:=ndV) (Q:=fitN) (μ:=cntT) hd QY fun y hy hry=>WW _ y (Nat.le_refl _) (by omega) hry
 exact⟨l,h1,⟨by omega,h3⟩,by unfold cnt;omega⟩
theorem QN(d:DataW H)(hb:Rows.uptoBulk d≤1048576)(hd:Rd Tryz.prog 23 d): ∃vs:List Va,dV d= .sl (vs.map vaV) .ro∧vs.length≤2097152∧yI vs:=by
 obtain⟨l,e1,e2,e3⟩:=nD (G:=vaV) (Q:=fun v:Va=>fit v.ty∧v.name.size≤9223372036854775807) hd YR fun x hx hr=>by
  obtain⟨ps,rfl,hps⟩:=hr.agg_inv ZH
  match ps,hps with
  | [d1,d2],⟨h1,h2,_⟩ =>
   obtain⟨s,rfl,hs⟩:=h1.string_inv Tryz.underlying9;simp only[Rows.uptoBulk,Rows.uptoBulkAll]at hx;obtain⟨t,q1,q2,_⟩:=WT _ d2 (Nat.le_refl _) (by omega) h2
   refine⟨⟨s,t⟩,?_,q2,Nat.le_trans hs (by decide)⟩
   simp only[dV,dVF,q1,bP,qA,V.cells,List.append_nil,List.cons_append,List.nil_append]
 exact⟨l,e1,by omega,e3⟩
theorem WU(d:DataW H)(hb:Rows.uptoBulk d≤1048576)(hd:Rd Tryz.prog 76 d): ∃s:Sec,dV d=scV s∧s.name.size≤9223372036854775807∧(0≤s.addr∧s.addr<4294967296)∧s.data.length≤4194304:=by
 obtain⟨ps,rfl,hps⟩:=hd.agg_inv ZK
 match ps,hps with
 | [d1,d2,d3,d4,d5],⟨h1,h2,h3,h4,h5,_⟩ =>
  obtain⟨s,rfl,hs⟩:=h1.string_inv Tryz.underlying9;obtain⟨a,rfl,ha⟩:=h2.int_inv QX;obtain⟨w,rfl⟩:=h4.bool_inv Tryz.underlying4;obtain⟨x,rfl⟩:=h5.bool_inv Tryz.underlying4;simp only[Rows.uptoBulk,Rows.uptoBulkAll]at hb
  obtain⟨l,e1,e2,_⟩:=nD (G:=fun b:UInt8=>V.im (.int .u8 b.toNat)) (Q:=fun _=>True) h3 YX fun y _ hr=>by
   obtain⟨n,rfl,hn⟩:=hr.int_inv ZP;have hn:0≤n∧n≤255:=hn;refine⟨UInt8.ofNat n.toNat,?_,trivial⟩;simp only[dV,UInt8.toNat_ofNat']
   congr 2
   omega
  have ha:=JY ha;refine⟨⟨s,a,l,w,x⟩,?_,Nat.le_trans hs (by decide),⟨ha.1,by show a<4294967296;omega⟩,Nat.le_trans e2 (by omega)⟩
  simp only[dV,dVF,e1,scV,V.cells,List.append_nil,List.cons_append,List.nil_append]
theorem WX(d:DataW H)(hb:Rows.uptoBulk d≤1048576)(hd:Rd Tryz.prog 37 d): ∃f:Fun,dV d=fnV f∧fitFn f:=by
 obtain⟨ps,rfl,hps⟩:=hd.agg_inv ZM
 match ps,hps with
 | [d1,d2,d3],⟨h1,h2,h3,_⟩ =>
  obtain⟨s,rfl,hs⟩:=h1.string_inv Tryz.underlying9;simp only[Rows.uptoBulk,Rows.uptoBulkAll]at hb;obtain⟨vs,e1,e2,e3⟩:=QN d2 (by omega) h2
  obtain⟨l,l1,l2,l3⟩:=WV d3 (by omega) h3
  refine⟨⟨s,vs,l⟩,?_,⟨e2,e3,l2,Nat.le_trans l3 (by omega),Nat.le_trans hs (by decide)⟩⟩
  simp only[dV,dVF,e1,l1,fnV,V.cells,List.append_nil,List.cons_append,List.nil_append]
theorem WS(d:DataW H)(hb:Rows.uptoBulk d≤1048576)(hd:Rd Tryz.prog 27 d): ∃u:Un,dV d=unV u∧fitU u∧ ∀s∈u.data,(0≤s.addr∧s.addr<4294967296)∧s.data.length≤4194304:=by
 obtain⟨ps,rfl,hps⟩:=hd.agg_inv ZI
 match ps,hps with
 | [d1,d2,d3],⟨h1,h2,h3,_⟩ =>
  simp only[Rows.uptoBulk,Rows.uptoBulkAll]at hb;obtain⟨vs,e1,e2,e3⟩:=QN d1 (by omega) h1
  obtain⟨l,l1,l2,l3⟩:=nD (G:=scV) (Q:=fun s:Sec=>s.name.size≤9223372036854775807∧(0≤s.addr∧s.addr<4294967296)∧s.data.length≤4194304) h2 YT fun x hx hr=>WU x (by omega) hr
  obtain⟨fs,f1,f2,f3⟩:=nD (G:=fnV) (Q:=fitFn) h3 YV fun x hx hr=>WX x (by omega) hr
  refine⟨⟨vs,l,fs⟩,?_,⟨e2,e3,Nat.le_trans l2 (by omega),fun s hs=>(l3 s hs).1,Nat.le_trans f2 (by omega),f3⟩,fun s hs=>(l3 s hs).2⟩
  simp only[dV,dVF,e1,l1,f1,unV,V.cells,List.append_nil,List.cons_append,List.nil_append]
end Go.Proofs.YtmbmmckagcdapaaGreatDoor
namespace Go.Proofs.YtmbmmckagcdapaaGreatDoor
open Go.RowKit
theorem rV{m:Nat}(h:m≤9):Lib.itoa (m:Int)=[hexD m]:=by
 unfold Lib.itoa
 rw[if_neg (by omega),Int.toNat_natCast,Lib.decDigits,dif_pos (by omega)]
 have: ∀m<10,[UInt8.ofNat (48+m)]=[hexD m]:=by decide
 exact this m (by omega)
theorem Sv{w:Int}(h:w=1∨w=2∨w=4):Lib.itoa w=wB w:=by
 rcases h with rfl|rfl|rfl
 ·exact rV (m:=1) (by decide)
 ·exact rV (m:=2) (by decide)
 ·exact rV (m:=4) (by decide)
theorem xW(o:Int)(t:Bs)(need:Nat):t.length≤(opdT o t need).length:=by
 unfold opdT
 split
 ·simp only[List.length_cons,List.length_append];omega
 ·exact Nat.le_refl _
def mA:=A5 @fE @mB @jE @dP @dC
theorem vU(e:Ex)(need:Nat)(hn:need≤10)(hlen:(opdT e.op (txE e) need).length≤140737488355328)(q:PC Tryz.prog 75 [exV e] (.im (.string ⟨(txE e).toArray⟩))):PC Tryz.prog 142 [exV e,(.im (.int .i64 ((need:Int))))] (.im (.string ⟨(opdT e.op (txE e) need).toArray⟩)):=by
 have qs:PC Tryz.prog 199 [exV e] (.im (.int .i64 ((strE e.op:Int)))):=by
  obtain⟨o,n,s,w,l⟩:=e;exact Tg o n s w l
 by_cases h:strE e.op<need
 ·have h1:(strE e.op:Int)<(need:Int):=by omega
  have he:opdT e.op (txE e) need=40::(txE e++[41]):=if_pos h;rw[he]at hlen ⊢;have qj:=IZ [40] (txE e) [41] _ rfl hlen;refine PC.enter 15 Tryz.func142 rfl (by decide) rfl rfl (s:=[(0,exV e),(1,(.im (.int .i64 ((need:Int)))))]) (by rfl) ?_
  refine wG mA BN01 ?_;refine AR.callP qs @bI (A4 aB @aD @aE bC) ?_;refine goG mA (A9 @fU @eI @fS @fR @fT @eJ @List.getElem?_map.{0,0} @Int.natCast_nonneg h1) ?_;refine wG mA (A9 @fU @eI @fS @fR @fT @eJ @List.getElem?_map.{0,0} @Int.natCast_nonneg h1) ?_;refine AR.callP q @bI (A4 aB @aD @aE bC) ?_;refine goG mA TI ?_;refine dH qj TI (A4 aB @aD @aE bC) ?_;refine goG mA TI ?_;refine wG mA TI ?_;exact aC
 ·have h1: ¬(strE e.op:Int)<(need:Int):=by omega
  have he:opdT e.op (txE e) need=txE e:=if_neg h;rw[he]at hlen ⊢;refine PC.enter 15 Tryz.func142 rfl (by decide) rfl rfl (s:=[(0,exV e),(1,(.im (.int .i64 ((need:Int)))))]) (by rfl) ?_
  refine wG mA BN01 ?_;refine AR.callP qs @bI (A4 aB @aD @aE bC) ?_;refine goG mA (A9 @fU @eI @fS @fR @fT @eJ @List.getElem?_map.{0,0} @Int.natCast_nonneg h1) ?_;refine wG mA (A9 @fU @eI @fS @fR @fT @eJ @List.getElem?_map.{0,0} @Int.natCast_nonneg h1) ?_;refine AR.callP q @bI (A4 aB @aD @aE bC) ?_;refine goG mA TI ?_;refine wG mA TI ?_;exact aC
theorem Zo{m:Nat}(h:m≤9):Lib.itoa (m:Int)=tY m:=(rV h).trans (if_pos h).symm
def eT:=A16 @cO @nB @iA @fE @dT @Re @mB @gJ @jE @Ut @Gl @oG @Az @wD @Ay (A11 @lM @uR @sY @Qv @cN @nA @hX @dP @dC @uP @sQ)
set_option maxHeartbeats 2000000 in
theorem wW: ∀(e:Ex),fitE e→efm e=true→(txE e).length≤140737488355328→PC Tryz.prog 75 [exV e] (.im (.string ⟨(txE e).toArray⟩)):=by
 refine Ex.induct fun o n s w l hE=> ?_
 intro hfit hf hlen
 obtain⟨hl1,hfE⟩:=nS hfit
 obtain⟨_,hn,_⟩:=Pd hfit
 rw[uF,Bool.and_eq_true]at hf
 obtain⟨hb,hl⟩:=hf
 have IH:=fun t ht=>hE t ht (hfE t ht) (List.all_eq_true.1 hl t ht)
 clear hE hl hfE
 obtain⟨n,rfl⟩: ∃m:Nat,n=m:=⟨n.toNat,by omega⟩
 rw[rO]at hlen ⊢
 rcases vP hb with ⟨rfl,_,_,h4⟩|⟨rfl,h1,_,_,h4⟩|⟨ho,_,_,_,h4⟩|⟨ho,_,_,_,h4⟩|⟨rfl,_,_,h3,h4⟩|⟨rfl,_,_,h3,h4⟩
 ·rw[show txN 1 (n:Int) s.data.toList w l (l.map txE)=tY n from rfl]
  by_cases h9:n≤9
  ·have h9':(n:Int)≤9:=by omega
   have q:=uG n (by omega) (by omega)
   rw[Zo h9]at q;have hw:IntKind.i64.wrap (n:Int)=n:=cU (by omega)
   refine PC.enter 86 Tryz.func75 rfl (by decide) rfl rfl (s:=[(0,exV (.mk 1 (n:Int) s w l))]) (by rfl) ?_
   simp only[gR];refine wG eT (AI h9' hw) ?_;refine AR.callP q TI (A4 aB @aD @aE bC) ?_;refine goG eT TI ?_;refine wG eT TI ?_;exact aC
  ·have h9': ¬(n:Int)≤9:=by omega
   have q:=Jf n (by omega)
   rw[show tY n=48::120::lP n from if_neg h9]
   refine PC.enter 86 Tryz.func75 rfl (by decide) rfl rfl (s:=[(0,exV (.mk 1 (n:Int) s w l))]) (by rfl) ?_
   simp only[gR];refine wG eT h9' ?_;refine AR.callP q TI (A4 aB @aD @aE bC) ?_;refine goG eT TI ?_;refine wG eT TI ?_;exact aC
 ·rw[show txN 2 (n:Int) s.data.toList w l (l.map txE)=s.data.toList from rfl,show ByteArray.mk s.data.toList.toArray=s from rfl]
  refine PC.enter 86 Tryz.func75 rfl (by decide) rfl rfl (s:=[(0,exV (.mk 2 (n:Int) s w l))]) (by rfl) ?_
  simp only[gR];refine wG eT TI ?_;exact aC
 ·obtain⟨a,b,rfl⟩: ∃a b,l=[a,b]:=by
   match l,h4 with
   | [a,b],_=>exact⟨a,b,rfl⟩
  have e1:txN o (n:Int) s.data.toList w [a,b] ([a,b].map txE)=opdT a.op (txE a) (stO o)++([32]++(nP o++([32]++opdT b.op (txE b) (stO o+1)))):=by
   unfold txN;rw[if_neg (by omega),if_neg (by omega),if_neg (by omega),if_neg (by omega),if_neg (by omega),if_neg (by omega)]
   rfl
  rw[e1]at hlen ⊢;obtain⟨_,_,q3,_⟩:=Jy ho;have hl0:=hlen;simp only[List.length_append]at hl0;have la:=xW a.op (txE a) (stO o);have lb:=xW b.op (txE b) (stO o+1);have qa:=vU a (stO o) (by omega) (by omega) (IH a (by simp) (by omega))
  have qb:=vU b (stO o+1) (by omega) (by omega) (IH b (by simp) (by omega))
  have qo:=Qg o ho;have qj:=VI (opdT a.op (txE a) (stO o)) [32] (nP o) [32] (opdT b.op (txE b) (stO o+1)) _ rfl hlen;have hw:IntKind.i64.wrap ((stO o:Int)+1)=((stO o+1:Nat):Int):=by rw[cU (by omega)];omega
  have n1: ¬o=1:=by omega
  have n2: ¬o=2:=by omega
  have n3: ¬o=18:=by omega
  have n4: ¬o=19:=by omega
  have n5: ¬o=16:=by omega
  have n6: ¬o=17:=by omega
  clear IH;refine PC.enter 86 Tryz.func75 rfl (by decide) rfl rfl (s:=[(0,exV (.mk o (n:Int) s w [a,b]))]) (by rfl) ?_
  simp only[gR];refine wG eT (A6 n1 n2 n3 n4 n5 n6) ?_;refine AR.callP qo TI (A4 aB @aD @aE bC) ?_;refine goG eT TI ?_;refine wdG eT BN01 ?_;refine AR.callP qa @bI (A4 aB @aD @aE bC) ?_;refine goG eT (A9 @fU @eI @fS @fR @fT @eJ @List.getElem?_map.{0,0} @Int.natCast_nonneg hw) ?_;refine AR.callP qb @bI (A4 aB @aD @aE bC) ?_;refine goG eT TI ?_;refine dH qj TI (A4 aB @aD @aE bC) ?_;refine goG eT TI ?_;refine wdG eT TI ?_;exact aC
 ·obtain⟨a,rfl⟩: ∃a,l=[a]:=by
   match l,h4 with
   | [a],_=>exact⟨a,rfl⟩
  rcases ho with rfl|rfl
  ·have e1:txN 16 (n:Int) s.data.toList w [a] ([a].map txE)=[33]++opdT a.op (txE a) 9:=rfl
   rw[e1]at hlen ⊢;have hl0:=hlen;simp only[List.length_append]at hl0;have la:=xW a.op (txE a) 9;have qa:=vU a 9 (by omega) (by omega) (IH a (by simp) (by omega))
   rw[show((9:Nat):Int)=9 from rfl]at qa
   have qj:=JA [33] (opdT a.op (txE a) 9) _ rfl hlen;refine PC.enter 86 Tryz.func75 rfl (by decide) rfl rfl (s:=[(0,exV (.mk 16 (n:Int) s w [a]))]) (by rfl) ?_
   simp only[gR];refine wG eT BN01 ?_;refine AR.callP qa @bI (A4 aB @aD @aE bC) ?_;refine goG eT TI ?_;refine dH qj TI (A4 aB @aD @aE bC) ?_;refine goG eT TI ?_;refine wG eT TI ?_;exact aC
  ·have e1:txN 17 (n:Int) s.data.toList w [a] ([a].map txE)=[45]++opdT a.op (txE a) 9:=rfl
   rw[e1]at hlen ⊢;have hl0:=hlen;simp only[List.length_append]at hl0;have la:=xW a.op (txE a) 9;have qa:=vU a 9 (by omega) (by omega) (IH a (by simp) (by omega))
   rw[show((9:Nat):Int)=9 from rfl]at qa
   have qj:=JA [45] (opdT a.op (txE a) 9) _ rfl hlen;refine PC.enter 86 Tryz.func75 rfl (by decide) rfl rfl (s:=[(0,exV (.mk 17 (n:Int) s w [a]))]) (by rfl) ?_
   simp only[gR];refine wG eT BN01 ?_;refine AR.callP qa @bI (A4 aB @aD @aE bC) ?_;refine goG eT TI ?_;refine dH qj TI (A4 aB @aD @aE bC) ?_;refine goG eT TI ?_;refine wG eT TI ?_;exact aC
 ·obtain⟨a,rfl⟩: ∃a,l=[a]:=by
   match l,h4 with
   | [a],_=>exact⟨a,rfl⟩
  have e1:txN 18 (n:Int) s.data.toList w [a] ([a].map txE)=[108,111,97,100]++(wB w++([40]++(txE a++[41]))):=rfl;rw[e1]at hlen ⊢;have hl0:=hlen;simp only[List.length_append]at hl0;have qa:=IH a (by simp) (by omega)
  have qi:=uG w (by omega) (by omega)
  rw[Sv h3]at qi;have qj:=VI [108,111,97,100] (wB w) [40] (txE a) [41] _ rfl hlen;refine PC.enter 86 Tryz.func75 rfl (by decide) rfl rfl (s:=[(0,exV (.mk 18 (n:Int) s w [a]))]) (by rfl) ?_
  simp only[gR];refine wdG eT BN01 ?_;refine AR.callP qi TI (A4 aB @aD @aE bC) ?_;refine goG eT BN01 ?_;refine AR.callP qa @bI (A4 aB @aD @aE bC) ?_;refine goG eT TI ?_;refine dH qj TI (A4 aB @aD @aE bC) ?_;refine goG eT TI ?_;refine wdG eT TI ?_;exact aC
 ·obtain⟨a,rfl⟩: ∃a,l=[a]:=by
   match l,h4 with
   | [a],_=>exact⟨a,rfl⟩
  have e1:txN 19 (n:Int) s.data.toList w [a] ([a].map txE)=[115,101,120,116]++(wB w++([40]++(txE a++[41]))):=rfl;rw[e1]at hlen ⊢;have hl0:=hlen;simp only[List.length_append]at hl0;have qa:=IH a (by simp) (by omega)
  have qi:=uG w (by omega) (by omega)
  rw[Sv (by omega)]at qi
  have qj:=VI [115,101,120,116] (wB w) [40] (txE a) [41] _ rfl hlen;refine PC.enter 86 Tryz.func75 rfl (by decide) rfl rfl (s:=[(0,exV (.mk 19 (n:Int) s w [a]))]) (by rfl) ?_
  simp only[gR];refine wdG eT BN01 ?_;refine AR.callP qi TI (A4 aB @aD @aE bC) ?_;refine goG eT BN01 ?_;refine AR.callP qa @bI (A4 aB @aD @aE bC) ?_;refine goG eT TI ?_;refine dH qj TI (A4 aB @aD @aE bC) ?_;refine goG eT TI ?_;refine wdG eT TI ?_;exact aC
theorem eX(g:Nat→Nat)(i:Nat)(t:TypeId):V.ren g (.nb i t)= .nb (g i) t:=by rw[V.ren]
def Lw:=A8 @tF @Gs @Gr @lA @Jp @qP @sS @iB
theorem Fy(b s:Bs)(k:Int)(hlen:b.length+s.length≤140737488355328):DC Tryz.prog 82 [.pt 0 0,.im (.string ⟨(s).toArray⟩)] [.box [.nb 0 PQ,.sl ((b).map byB) (.mine 1),(.im (.int .i64 (k)))],.tip 5 1 (b).length] (.tu [(.im (.int .i64 ((s.length:Int)))),.im Value.nilIface]) [.box [.nb 0 PQ,.sl (((b++s)).map byB) (.mine 1),(.im (.int .i64 (k)))],.tip 5 1 ((b++s)).length]:=by
 have h:=Lk (.sl (b.map byB) (.mine 1)) (.im (.int .i64 (k))) [.tip 5 1 b.length]
 obtain⟨B,hB⟩: ∃B,B=b++s:=⟨_,rfl⟩
 have hA:b.map byB++s.map byB=B.map byB:=by rw[hB,List.map_append]
 have hz:b.length+s.length=B.length:=by rw[hB,List.length_append]
 rw[←hB]
 refine DC.enter 19 Tryz.func82 rfl (by decide) rfl rfl (s:=[(0,.pt 0 0),(1,.im (.string ⟨(s).toArray⟩))]) (by rfl) ?_
 refine wG Lw TI ?_
 refine aA [0,1] h TI (A4 aB @aD @aE bC) (A5 @aS @aT fF cK eX) ?_
 refine goG Lw TI ?_
 have hl1:B.length*1≤140737488355328:=by omega
 have hl2:B.length≤140737488355328:=by omega
 refine wG Lw (A6 BY hA hz hl1 hl2 @List.length_map.{0,0}) ?_
 refine aR (rs:=[.tmp 4,.tmp 5]) rfl (by first|exact .inl rfl|exact .inr rfl) (finG Lw) ?_ rfl (idG (A4 aB @aD @aE bC))
 all_goals exact wkG (A4 aB @aD @aE bC)
def wZ:=A9 @cO @zC @mB @jE @Jo @rI @cN @yX @dC
theorem Lj(b:Bs)(l:List Bs)(s:Bs)(hs:l.flatten=s)(k:Nat)(hl:l.length≤4194304)(hlen:(b++lnT k s).length≤140737488355328):DC Tryz.prog 36 [.pt 0 0,.sl (l.map sV) .ro] [.box [.nb 0 PQ,.sl ((b).map byB) (.mine 1),(.im (.int .i64 ((k:Int))))],.tip 5 1 (b).length] (.tu []) [.box [.nb 0 PQ,.sl (((b++lnT k s)).map byB) (.mine 1),(.im (.int .i64 ((k:Int))))],.tip 5 1 ((b++lnT k s)).length]:=by
 have hl0:=hlen
 unfold lnT at hl0
 simp only[List.length_append,Lib.repeatL_length,List.length_cons,List.length_nil]at hl0
 have q1:=JP [32,32] k (by omega) (by simp only[List.length_cons,List.length_nil];omega)
 have q2:=BF l s hs hl (by omega)
 have q3:=IZ (Lib.repeatL [32,32] k) s [10] (lnT k s) rfl (by rw[List.length_append]at hlen;omega)
 have q4:=Fy b (lnT k s) k (by rw[List.length_append]at hlen;omega)
 generalize lnT k s=L at q3 q4 ⊢
 obtain⟨B,hB⟩: ∃B,B=b++L:=⟨_,rfl⟩
 rw[←hB]at q4 ⊢
 generalize Lib.repeatL [32,32] k=rp at q1 q3
 refine DC.enter 17 Tryz.func36 rfl (by decide) rfl rfl (s:=[(0,.pt 0 0),(1,.sl (l.map sV) .ro)]) (by rfl) ?_
 refine wdG wZ TI ?_
 refine AR.callP q1 TI (A4 aB @aD @aE bC) ?_
 refine goG wZ TI ?_
 refine AR.callP q2 TI (A4 aB @aD @aE bC) ?_
 refine goG wZ TI ?_
 refine dH q3 TI (A4 aB @aD @aE bC) ?_
 refine goG wZ TI ?_
 refine aA [0,1] q4 TI (A4 aB @aD @aE bC) (A5 @aS @aT fF cK eX) ?_
 refine goG wZ TI ?_
 refine wdG wZ TI ?_
 refine aR (rs:=[]) rfl (by first|exact .inl rfl|exact .inr rfl) (finG wZ) ?_ rfl (idG (A4 aB @aD @aE bC))
 all_goals exact wkG (A4 aB @aD @aE bC)
theorem Ug(a b:ByteArray):byV a++byV b=byV (a++b):=by
 unfold byV
 rw[←List.map_append]
 congr 1
theorem Ue(p:Nat→Bool)(a:ByteArray):V.idsL p (byV a)=true:=by
 unfold byV
 exact gB (fun _=>rfl) _
theorem Xe(g:Nat→Nat)(a:ByteArray):V.renL g (byV a)=byV a:=V.renL_id g _ (Ue _ a)
def Cq:=A8 @tF @Gs @Gr @lA @Jp @qP @sS @iB
def Ur:=A5 @bS @bU @bT @bV Ue
def VY:=A6 @sA @rM @rZ @rL Xe eX
theorem Hi(b s:ByteArray)(hlen:b.size+s.size≤140737488355328):DC Tryz.prog 82 [.pt 0 0,.im (.string s)] [.box [.nb 0 206,.sl (byV (b)) (.mine 1)],.tip 5 1 (b).size] (.tu [(.im (.int .i64 ((s.size:Int)))),.im Value.nilIface]) [.box [.nb 0 206,.sl (byV ((b++s))) (.mine 1)],.tip 5 1 ((b++s)).size]:=by
 have h:=Qf (.sl (byV b) (.mine 1)) [.tip 5 1 b.size]
 obtain⟨B,hB⟩: ∃B,B=b++s:=⟨_,rfl⟩
 have hA:byV b++byV s=byV B:=by rw[hB];exact Ug b s
 have hz:b.size+s.size=B.size:=by rw[hB,ByteArray.size_append]
 rw[←hB]
 refine DC.enter 19 Tryz.func82 rfl (by decide) rfl rfl (s:=[(0,.pt 0 0),(1,.im (.string s))]) (by rfl) ?_
 refine wG Cq TI ?_
 refine aA [0,1] h TI Ur VY ?_
 refine goG Cq TI ?_
 have hl1:B.size*1≤140737488355328:=by omega
 refine wG Cq (A4 hA hz hl1 lC) ?_
 refine aR (rs:=[.tmp 4,.tmp 5]) rfl (by first|exact .inl rfl|exact .inr rfl) (finG Cq) ?_ rfl (idG Ur)
 all_goals exact wkG Ur
def stV(x:List (List Nd)):V:=ndV (theS x)
def liV(x:List (List Nd)):V:=nlV (x.headD [])
def caV(x:List (List Nd)):V:= .sl (x.map nlV) .ro
theorem kC(s:Nd):stV (oneS s)=ndV s:=rfl
theorem Vv(g:Nat→Nat)(c:List Nd):V.ren g (nlV c)=nlV c:=V.ren_id g _ (aZ _ c)
theorem Kr(g:Nat→Nat)(x:List (List Nd)):V.ren g (liV x)=liV x:=V.ren_id g _ (aZ _ _)
theorem Ss(p:Nat→Bool)(x:List (List Nd)):(liV x).ids p=true:=aZ _ _
theorem Vk(g:Nat→Nat)(x:List (List Nd)):V.ren g (stV x)=stV x:=V.ren_id g _ (aW _ _)
theorem EB(p:Nat→Bool)(x:List (List Nd)):(stV x).ids p=true:=aW _ _
theorem Tf(p:Nat→Bool)(x:List (List Nd)):(caV x).ids p=true:=by simp only[caV,V.ids,Bool.and_true];exact aJ p x
theorem Ws(g:Nat→Nat)(x:List (List Nd)):V.ren g (caV x)=caV x:=V.ren_id g _ (Tf _ _)
theorem On(c:List (List Nd)):(liV c).live=true:=rfl
theorem Om(c:List (List Nd)):(liV c).size=1:=rfl
theorem Oo(c:List (List Nd)):(liV c).isAg=false:=rfl
theorem In(c:List (List Nd)):(liV c).cells=[liV c]:=rfl
theorem Pt(c:List (List Nd)):(caV c).live=true:=rfl
theorem Ps(c:List (List Nd)):(caV c).size=1:=rfl
theorem Pu(c:List (List Nd)):(caV c).isAg=false:=rfl
theorem Jc(c:List (List Nd)):(caV c).cells=[caV c]:=rfl
theorem Np(c:List (List Nd)):(stV c).live=true:=uA _
theorem No(c:List (List Nd)):(stV c).size=7:=tZ _
theorem Nq(c:List (List Nd)):(stV c).isAg=true:=xY _
theorem Hy(c:List (List Nd)):(stV c).cells=[.im (.int .i64 (theS c).kind),.im (.int .i64 (theS c).width),.im (.string (theS c).name),.sl ((theS c).e.map exV) .ro,.sl ((theS c).l.map ndV) .ro,.sl ((theS c).el.map ndV) .ro,.sl ((theS c).cs.map nlV) .ro]:=vD _
theorem LIT:type_of%(A12 @On @Om @Oo @In @Pt @Ps @Pu @Jc @Np @No @Nq @Hy) :=
 A12 @On @Om @Oo @In @Pt @Ps @Pu @Jc @Np @No @Nq @Hy
def eA:=A13 @iV @cO @iA @jZ @kH @gJ @iP @iO @yZ @gY @cN @hX @dP
def dG:=A8 aX bD @aE @aD aW aH aZ aJ
def fN:=A7 fA fB @aS @aT cF bK bO
set_option maxHeartbeats 4000000 in
theorem IV{ts:List Tk}{f:Nat}(hts:ts.length≤4194304)(a o:Nat)(ho:o≤256)(r:Rs (List (List Nd)))(h:zZ ts f a o=some r):XC Tryz.prog 215 [.pt 0 0] ts a o stV r:=by
 unfold zZ at h
 refine XC.enter 24 Tryz.func215 rfl (by decide) rfl rfl (s:=[(0,.pt 0 0)]) (by rfl) ?_
 refine wG eA TI ?_
 rcases aV h with ⟨b1,e1,h1,rfl⟩|⟨nm,a1,o1,h1,h⟩
 ·exact PA.callP [0] ((kV ts a o hts _ h1).fails) TI dG fN (fun _=>PFin.i rfl rfl)
 refine aA [0] (((kV ts a o hts _ h1).good)) TI dG fN ?_
 refine goG eA TI ?_
 obtain⟨_,rfl,hoe,hlt⟩:=gM h1
 subst o1
 clear h1
 refine wG eA TI ?_
 have hq:=dZ ts (a+1) o [58] hts
 rcases aI h with ⟨hk,h⟩|⟨hk,h⟩
 ·rw[if_pos hk,hk]at hq
  cases h
  refine aA [0] hq TI dG fN ?_;refine goG eA TI ?_;refine wG eA TI ?_;refine aR (rs:=[.cell 2 165]) rfl (by first|exact .inl rfl|exact .inr rfl) (finG eA) ?_ rfl (idG dG)
  simp only[kC,eP,List.map_nil]
  all_goals exact wkG dG
 rw[if_neg hk]at hq
 rw[Bool.not_eq_true]at hk
 rw[hk]at hq
 refine aA [0] hq TI dG fN ?_
 refine goG eA TI ?_
 refine wG eA TI ?_
 rcases aV h with ⟨b1,e1,h1,rfl⟩|⟨_,a2,o2,h1,h⟩
 ·exact PA.callP [0] ((bW ts (a+1) o [61] hts _ h1).fails) TI dG fN (fun _=>PFin.i rfl rfl)
 refine aA [0] (((bW ts (a+1) o [61] hts _ h1).good)) TI dG fN ?_
 refine goG eA TI ?_
 obtain⟨_,rfl,hoe⟩:=cJ h1
 subst o2
 clear h1
 refine wG eA TI ?_
 have hq:=dZ ts (a+1+1) o [105,110] hts
 rcases aI h with ⟨hk2,h⟩|⟨hk2,h⟩
 ·rw[if_pos hk2,hk2]at hq
  refine aA [0] hq TI dG fN ?_;refine goG eA TI ?_;refine wG eA TI ?_;rcases aV h with ⟨b1,e1,h1,rfl⟩|⟨_,a3,o3,h1,h⟩
  ·exact PA.callP [0] ((bW ts (a+1+1+1) o [59] hts _ h1).fails) TI dG fN (fun _=>PFin.i rfl rfl)
  refine aA [0] (((bW ts (a+1+1+1) o [59] hts _ h1).good)) TI dG fN ?_;refine goG eA TI ?_;cases h
  refine wG eA TI ?_;refine aR (rs:=[.cell 2 165]) rfl (by first|exact .inl rfl|exact .inr rfl) (finG eA) ?_ rfl (idG dG)
  simp only[kC,eP,List.map_nil]
  all_goals exact wkG dG
 rw[if_neg hk2]at hq
 rw[Bool.not_eq_true]at hk2
 rw[hk2]at hq
 refine aA [0] hq TI dG fN ?_
 refine goG eA TI ?_
 refine wG eA TI ?_
 rcases aV h with ⟨b1,e1,h1,rfl⟩|⟨x,a3,o3,h1,h⟩
 ·exact PA.callP [0] ((wH hts f 1 (a+1+1) o (by decide) ho _ h1).fails) i1 dG fN (fun _=>PFin.i rfl rfl)
 refine aA [0] (((wH hts f 1 (a+1+1) o (by decide) ho _ h1).good)) i1 dG fN ?_
 refine goG eA BN01 ?_
 have hoe:=(dS ts _ _ _ _ _ _ _ h1).1
 subst o3
 refine wG eA BN01 ?_
 rcases aV h with ⟨b1,e1,h1,rfl⟩|⟨_,a4,o4,h1,h⟩
 ·exact PA.callP [0] ((bW ts a3 o [59] hts _ h1).fails) TI dG fN (fun _=>PFin.i rfl rfl)
 refine aA [0] (((bW ts a3 o [59] hts _ h1).good)) TI dG fN ?_
 refine goG eA TI ?_
 cases h
 refine wG eA BN01 ?_
 refine aR (rs:=[.cell 2 165]) rfl (by first|exact .inl rfl|exact .inr rfl) (finG eA) ?_ rfl (idG dG)
 simp only[kC,eP,List.map_nil,List.map_cons];rw[bI x]
 all_goals exact wkG dG
def iJ:=A11 @iV @iA @fE @jZ @kH @gJ @iO @yZ @gY @hX @dP
set_option maxHeartbeats 4000000 in
theorem Li{ts:List Tk}{f:Nat}(hts:ts.length≤4194304)(w:Int)(a o:Nat)(ho:o≤256)(r:Rs (List (List Nd)))(h:lS ts f w a o=some r):XC Tryz.prog 216 [.pt 0 0,(.im (.int .i64 (w)))] ts a o stV r:=by
 unfold lS at h
 refine XC.enter 27 Tryz.func216 rfl (by decide) rfl rfl (s:=[(0,.pt 0 0),(1,(.im (.int .i64 (w))))]) (by rfl) ?_
 refine wG iJ TI ?_
 rcases aV h with ⟨b1,e1,h1,rfl⟩|⟨_,a1,o1,h1,h⟩
 ·exact PA.callP [0] ((fP ts a o [40] hts _ h1).fails) TI dG fN (fun _=>PFin.i rfl rfl)
 refine aA [0] (((fP ts a o [40] hts _ h1).good)) TI dG fN ?_
 refine goG iJ TI ?_
 obtain⟨_,ho1,rfl,rfl⟩:=cE h1
 clear h1
 refine wG iJ TI ?_
 rcases aV h with ⟨b1,e1,h1,rfl⟩|⟨x,a2,o2,h1,h⟩
 ·exact PA.callP [0] ((wH hts f 1 (a+1) (o+1) (by decide) (by omega) _ h1).fails) i1 dG fN (fun _=>PFin.i rfl rfl)
 refine aA [0] (((wH hts f 1 (a+1) (o+1) (by decide) (by omega) _ h1).good)) i1 dG fN ?_
 refine goG iJ BN01 ?_
 obtain⟨rfl,_⟩:=dS ts _ _ _ _ _ _ _ h1
 clear h1
 refine wG iJ BN01 ?_
 rcases aV h with ⟨b1,e1,h1,rfl⟩|⟨_,a3,o3,h1,h⟩
 ·exact PA.callP [0] ((bW ts a2 (o+1) [44] hts _ h1).fails) TI dG fN (fun _=>PFin.i rfl rfl)
 refine aA [0] (((bW ts a2 (o+1) [44] hts _ h1).good)) TI dG fN ?_
 refine goG iJ TI ?_
 obtain⟨_,rfl,rfl⟩:=cJ h1
 clear h1
 refine wG iJ TI ?_
 rcases aV h with ⟨b1,e1,h1,rfl⟩|⟨y,a4,o4,h1,h⟩
 ·exact PA.callP [0] ((wH hts f 1 (a2+1) (o+1) (by decide) (by omega) _ h1).fails) i1 dG fN (fun _=>PFin.i rfl rfl)
 refine aA [0] (((wH hts f 1 (a2+1) (o+1) (by decide) (by omega) _ h1).good)) i1 dG fN ?_
 refine goG iJ BN01 ?_
 obtain⟨rfl,_⟩:=dS ts _ _ _ _ _ _ _ h1
 clear h1
 refine wG iJ BN01 ?_
 rcases aV h with ⟨b1,e1,h1,rfl⟩|⟨_,a5,o5,h1,h⟩
 ·exact PA.callP [0] ((pM ts a4 (o+1) [41] hts (by omega) (by omega) _ h1).fails) TI dG fN (fun _=>PFin.i rfl rfl)
 refine aA [0] (((pM ts a4 (o+1) [41] hts (by omega) (by omega) _ h1).good)) TI dG fN ?_
 refine goG iJ TI ?_
 obtain⟨_,rfl,hoe⟩:=nT h1
 rw[Nat.add_sub_cancel]at hoe
 subst o5
 clear h1
 refine wG iJ TI ?_
 rcases aV h with ⟨b1,e1,h1,rfl⟩|⟨_,a6,o6,h1,h⟩
 ·exact PA.callP [0] ((bW ts (a4+1) o [59] hts _ h1).fails) TI dG fN (fun _=>PFin.i rfl rfl)
 refine aA [0] (((bW ts (a4+1) o [59] hts _ h1).good)) TI dG fN ?_
 refine goG iJ TI ?_
 cases h
 refine wG iJ BN01 ?_
 refine aR (rs:=[.cell 4 165]) rfl (by first|exact .inl rfl|exact .inr rfl) (finG iJ) ?_ rfl (idG dG)
 simp only[kC,eP,List.map_nil,List.map_cons];rw[bI x,bI y]
 all_goals exact wkG dG
def yU:=A4 @iV @jZ @yZ @gY
theorem vS{ts:List Tk}(hts:ts.length≤4194304)(k:Int)(a o:Nat)(ho:o≤256)(r:Rs (List (List Nd)))(h:lT ts k a o=some r):XC Tryz.prog 219 [.pt 0 0,(.im (.int .i64 (k)))] ts a o stV r:=by
 unfold lT at h
 refine XC.enter 9 Tryz.func219 rfl (by decide) rfl rfl (s:=[(0,.pt 0 0),(1,(.im (.int .i64 (k))))]) (by rfl) ?_
 refine wG yU TI ?_
 rcases aV h with ⟨b1,e1,h1,rfl⟩|⟨_,a1,o1,h1,h⟩
 ·exact PA.callP [0] ((bW ts a o [59] hts _ h1).fails) TI dG fN (fun _=>PFin.i rfl rfl)
 refine aA [0] (((bW ts a o [59] hts _ h1).good)) TI dG fN ?_
 refine goG yU TI ?_
 cases h
 refine wG yU TI ?_
 refine aR (rs:=[.cell 4 165]) rfl (by first|exact .inl rfl|exact .inr rfl) (finG yU) ?_ rfl (idG dG)
 simp only[kC,eP,List.map_nil]
 all_goals exact wkG dG
def BN09:=A9 LIT @fU @eI @fS @fR @fT @eJ @List.getElem?_map.{0,0} @Int.natCast_nonneg
def StC(ts:List Tk)(f:Nat):Prop:= ∀a o:Nat,o≤256→ ∀r,stM ts f .st a o=some r→XC Tryz.prog 168 [.pt 0 0] ts a o stV r
def LiC(ts:List Tk)(f:Nat):Prop:= ∀a o:Nat,o≤256→ ∀r,stM ts f (.li []) a o=some r→XC Tryz.prog 107 [.pt 0 0] ts a o liV r
def BrC(ts:List Tk)(f:Nat):Prop:= ∀a o:Nat,o≤256→ ∀r,stM ts f .br a o=some r→XC Tryz.prog 217 [.pt 0 0] ts a o liV r
def CaC(ts:List Tk)(f:Nat):Prop:= ∀a o:Nat,o≤256→ ∀r,rb (begM ts [123] a o) (fun _ a o=>stM ts f (.ca []) a o)=some r→XC Tryz.prog 218 [.pt 0 0] ts a o caV r
theorem Mu{n:Int}(h:0≤n∧n≤9223372036854775807):IntKind.u64.wrap n=n:=by
 show n%18446744073709551616=n
 omega
theorem FY(l:List Nd):kO 7 (l.map ndV)=true:=by
 unfold kO
 rw[List.all_map]
 exact List.all_eq_true.2 fun x _=>by simp[tZ,uA]
theorem Vu(l:List (List Nd)):kO 1 (l.map nlV)=true:=by
 unfold kO
 rw[List.all_map]
 exact List.all_eq_true.2 fun x _=>rfl
def kS:=A4 @jZ @KJ @nZ @gY
def eY:=A11 aX bD @aE @aD aW aH aZ aJ Ss EB Tf
def iM:=A11 fA fB @aS @aT cF bK bO Vv Kr Vk Ws
set_option maxHeartbeats 4000000 in
theorem IW{ts:List Tk}(hts:ts.length≤4194304)(F:Nat)(hS: ∀f,f<F→StC ts f):LiC ts F:=by
 intro a o ho r h
 refine XC.enter 13 Tryz.func107 rfl (by decide) rfl rfl (s:=[(0,.pt 0 0)]) (by rfl) ?_
 refine wG kS TI ?_
 refine aP ?_
 refine ALp.ghost 3 [] .nl 165 7 ?_
 suffices H: ∀(f:Nat),f≤F→ ∀(l:List Nd) (a:Nat),l.length≤a→stM ts f (.li l) a o=some r→ALp _ _ _ _ _ ⟨dn 13 [(0,.pt 0 0),(3,.sl ((l).map ndV) (.own 1))],ofl [.box [.sl (ts.map tkV) .ro,(.im (.int .i64 ((a:Nat)))),(.im (.int .i64 ((o:Nat))))],.tip 165 7 (l).length]⟩ by
  refine ALp.cutP 2 [(0,.pt 0 0),(3,.sl ((([]:List Nd)).map ndV) (.own 1))] [.box [.sl (ts.map tkV) .ro,(.im (.int .i64 ((a:Nat)))),(.im (.int .i64 ((o:Nat))))],.tip 165 7 (([]:List Nd)).length] eY ?_;exact H F (Nat.le_refl _) [] a (Nat.zero_le _) h
 clear h
 intro f
 induction f with
 | zero=>intro _ l a _ h;cases h
 | succ f ih =>
 intro hf l a hla h
 rw[stM]at h
 have hs:=oR ts a o [125]
 refine dE ?_
 rcases aI h with ⟨hk,h⟩|⟨hk,h⟩
 ·rw[hk]at hs
  cases h
  refine wG kS TI ?_;refine aA [0] hs TI eY iM ?_;refine goG kS TI ?_;refine wG kS TI ?_;refine aR (rs:=[.tmp 2]) rfl (by first|exact .inl rfl|exact .inr rfl) (finG kS) ?_ rfl (idG eY)
  show WkF _ _ _ (.sl (l.map ndV) .ro)
  all_goals exact wkG eY
 rw[Bool.not_eq_true]at hk
 rw[hk]at hs
 refine wG kS TI ?_
 refine aA [0] hs TI eY iM ?_
 refine goG kS TI ?_
 refine wG kS TI ?_
 rcases aV h with ⟨b1,e1,h1,rfl⟩|⟨x,a1,o1,h1,hk2⟩
 ·exact PA.callP [0] ((hS f (by omega) a o ho _ h1).fails) TI eY iM (fun _=>PFin.i rfl rfl)
 obtain⟨hoe,hlt,hle⟩:=(fQ ts f).1 _ _ _ _ _ h1
 have hc:=(hS f (by omega) a o ho _ h1).good
 change DC _ _ _ _ (ndV (theS x)) _ at hc
 subst o1
 generalize theS x=s at hc hk2
 obtain⟨B,hB⟩: ∃B,B=l++[s]:=⟨_,rfl⟩
 have hAs:l.map ndV++[ndV s]=B.map ndV:=by rw[hB,List.map_append];rfl
 have hAl:l.length+1=B.length:=by rw[hB];simp
 have hbl:B.length*128≤140737488355328:=by omega
 have h4:stM ts f (.li B) a1 o=some r:=by rw[hB];exact hk2
 refine aA [0] hc TI eY iM ?_
 refine goG kS (A6 ND hAs hAl hbl FY @List.length_map.{0,0}) ?_
 refine wG kS (A6 ND hAs hAl hbl FY @List.length_map.{0,0}) ?_
 refine ALp.cutP 2 [(0,.pt 0 0),(3,.sl ((B).map ndV) (.own 1))] [.box [.sl (ts.map tkV) .ro,(.im (.int .i64 ((a1:Nat)))),(.im (.int .i64 ((o:Nat))))],.tip 165 7 (B).length] eY ?_
 exact ih (by omega) B a1 (by omega) h4
theorem JM{ts:List Tk}(hts:ts.length≤4194304)(f:Nat)(hL:LiC ts f):BrC ts (f+1):=by
 intro a o ho r h
 rw[stM]at h
 refine XC.enter 11 Tryz.func217 rfl (by decide) rfl rfl (s:=[(0,.pt 0 0)]) (by rfl) ?_
 refine wG TI TI ?_
 rcases aV h with ⟨b1,e1,h1,rfl⟩|⟨_,a1,o1,h1,h⟩
 ·exact PA.callP [0] ((fP ts a o [123] hts _ h1).fails) TI eY iM (fun _=>PFin.i rfl rfl)
 refine aA [0] (((fP ts a o [123] hts _ h1).good)) TI eY iM ?_
 refine goG TI TI ?_
 obtain⟨_,ho1,rfl,rfl⟩:=cE h1
 clear h1
 refine wG TI TI ?_
 rcases aV h with ⟨b1,e1,h1,rfl⟩|⟨l,a2,o2,h1,h⟩
 ·exact PA.callP [0] ((hL (a+1) (o+1) (by omega) _ h1).fails) TI eY iM (fun _=>PFin.i rfl rfl)
 refine aA [0] (((hL (a+1) (o+1) (by omega) _ h1).good)) TI eY iM ?_
 refine goG TI TI ?_
 obtain⟨rfl,_,_⟩:=(fQ ts f).2.1 _ _ _ _ _ _ h1
 clear h1
 refine wG TI TI ?_
 rcases aV h with ⟨b1,e1,h1,rfl⟩|⟨_,a3,o3,h1,h⟩
 ·exact PA.callP [0] ((pM ts a2 (o+1) [125] hts (by omega) (by omega) _ h1).fails) TI eY iM (fun _=>PFin.i rfl rfl)
 refine aA [0] (((pM ts a2 (o+1) [125] hts (by omega) (by omega) _ h1).good)) TI eY iM ?_
 refine goG TI TI ?_
 cases h
 refine wG TI TI ?_
 refine aR (rs:=[.tmp 2]) rfl (by first|exact .inl rfl|exact .inr rfl) (finG TI) ?_ rfl (idG eY)
 all_goals exact wkG eY
def fW:=A16 @cO @nB @kA @Mm @Xq @kT @lJ @oZ @fX @rF @uR @sY @gZ @cN @iS (A4 @nA @rE @uP @sQ)
set_option maxHeartbeats 4000000 in
theorem OV{ts:List Tk}(hts:ts.length≤4194304)(hok: ∀t∈ts,TkOk t)(F:Nat)(hB: ∀f,f<F→BrC ts f):CaC ts F:=by
 intro a0 o ho r h
 refine XC.enter 40 Tryz.func218 rfl (by decide) rfl rfl (s:=[(0,.pt 0 0)]) (by rfl) ?_
 refine wG fW TI ?_
 rcases aV h with ⟨b1,e1,h1,rfl⟩|⟨_,a1,o1,h1,h⟩
 ·exact PA.callP [0] ((fP ts a0 o [123] hts _ h1).fails) TI eY iM (fun _=>PFin.i rfl rfl)
 refine aA [0] (((fP ts a0 o [123] hts _ h1).good)) TI eY iM ?_
 refine goG fW TI ?_
 obtain⟨_,ho1,rfl,rfl⟩:=cE h1
 clear h1
 refine wG fW TI ?_
 refine aP ?_
 refine ALp.ghost 3 [] .nl 35 1 ?_
 suffices H: ∀(f:Nat),f≤F→ ∀(l:List (List Nd)) (a:Nat),l.length≤a→stM ts f (.ca l) a (o+1)=some r→ALp _ _ _ _ _ ⟨dn 40 [(0,.pt 0 0),(3,.sl ((l).map nlV) (.own 1))],ofl [.box [.sl (ts.map tkV) .ro,(.im (.int .i64 ((a:Nat)))),(.im (.int .i64 ((o+1:Nat))))],.tip 35 1 (l).length]⟩ by
  refine ALp.cutP 2 [(0,.pt 0 0),(3,.sl ((([]:List (List Nd))).map nlV) (.own 1))] [.box [.sl (ts.map tkV) .ro,(.im (.int .i64 ((a0+1:Nat)))),(.im (.int .i64 ((o+1:Nat))))],.tip 35 1 (([]:List (List Nd))).length] eY ?_;exact H F (Nat.le_refl _) [] (a0+1) (Nat.zero_le _) h
 clear h
 intro f
 induction f with
 | zero=>intro _ l a _ h;cases h
 | succ f ih =>
 intro hf l a hla h
 rw[stM]at h
 have hq:=dZ ts a (o+1) [99,97,115,101] hts
 refine dE ?_
 rcases aI h with ⟨hk,h⟩|⟨hk,h⟩
 case inr =>
  rw[if_neg hk]at hq;rw[Bool.not_eq_true]at hk;rw[hk]at hq;refine wG fW TI ?_;refine aA [0] hq TI eY iM ?_;refine goG fW TI ?_;refine wG fW TI ?_;rcases aV h with ⟨b1,e1,h1,rfl⟩|⟨_,a3,o3,h1,h⟩
  ·exact PA.callP [0] ((pM ts a (o+1) [125] hts (by omega) (by omega) _ h1).fails) TI eY iM (fun _=>PFin.i rfl rfl)
  refine aA [0] (((pM ts a (o+1) [125] hts (by omega) (by omega) _ h1).good)) TI eY iM ?_
  refine goG fW TI ?_;cases h
  refine wG fW TI ?_;refine aR (rs:=[.tmp 2]) rfl (by first|exact .inl rfl|exact .inr rfl) (finG fW) ?_ rfl (idG eY)
  show WkF _ _ _ (.sl (l.map nlV) .ro)
  all_goals exact wkG eY
 have hlt:=bJ hk
 rw[if_pos hk,hk]at hq
 have hp:=wX ts (a+1) (o+1)
 have hf:=oS ts (a+1) (o+1) 3
 have hn:=Eg hok (a+1)
 have hkl:=fun hh=>eE (ts:=ts) (a:=a+1) (k:=3) hh (by decide)
 generalize pk ts (a+1)=t at hp hn h hkl
 refine wG fW TI ?_
 refine aA [0] hq TI eY iM ?_
 refine goG fW TI ?_
 refine wG fW TI ?_
 refine aA [0] hp TI eY iM ?_
 refine goG fW TKT ?_
 have hw1:IntKind.u64.wrap t.n=t.n:=Mu (by omega)
 have hw2:IntKind.u64.wrap (l.length:Int)=(l.length:Int):=Mu (by omega)
 by_cases k3:t.kind=3
 case neg =>
  rw[if_neg (fun hh=>k3 hh.1)]at h
  cases h
  refine wG fW (A5 TKT k3 hw1 hw2 @List.length_map.{0,0}) ?_;exact PA.callP [0] hf TI eY iM (fun _=>PFin.i rfl rfl)
 by_cases kn:t.n=l.length
 case neg =>
  rw[if_neg (fun hh=>kn hh.2)]at h
  cases h
  refine wG fW (A6 TKT k3 kn hw1 hw2 @List.length_map.{0,0}) ?_;exact PA.callP [0] hf TI eY iM (fun _=>PFin.i rfl rfl)
 rw[if_pos ⟨k3,kn⟩]at h
 have hlt2:=hkl k3
 have hw:=aL (m:=a+1) (N:=4194304) (by omega) (by decide)
 refine wG fW (A7 TKT k3 kn hw1 hw2 hw @List.length_map.{0,0}) ?_
 rcases aV h with ⟨b1,e1,h1,rfl⟩|⟨x,a1,o1,h1,hk2⟩
 ·exact PA.callP [0] ((hB f (by omega) (a+2) (o+1) (by omega) _ h1).fails) TI eY iM (fun _=>PFin.i rfl rfl)
 obtain⟨hoe,hlt3,hle⟩:=(fQ ts f).2.2.1 _ _ _ _ _ h1
 have hc:=(hB f (by omega) (a+2) (o+1) (by omega) _ h1).good
 change DC _ _ _ _ (nlV (x.headD [])) _ at hc
 subst hoe
 generalize x.headD []=s at hc hk2
 obtain⟨B,hB⟩: ∃B,B=l++[s]:=⟨_,rfl⟩
 have hAs:l.map nlV++[nlV s]=B.map nlV:=by rw[hB,List.map_append];rfl
 have hAl:l.length+1=B.length:=by rw[hB];simp
 have hbl:B.length*24≤140737488355328:=by omega
 have h4:stM ts f (.ca B) a1 (o+1)=some r:=by rw[hB];exact hk2
 refine aA [0] hc TI eY iM ?_
 refine goG fW (A6 ND hAs hAl hbl Vu @List.length_map.{0,0}) ?_
 refine wG fW (A6 ND hAs hAl hbl Vu @List.length_map.{0,0}) ?_
 refine ALp.cutP 2 [(0,.pt 0 0),(3,.sl ((B).map nlV) (.own 1))] [.box [.sl (ts.map tkV) .ro,(.im (.int .i64 ((a1:Nat)))),(.im (.int .i64 ((o+1:Nat))))],.tip 35 1 (B).length] eY ?_
 exact ih (by omega) B a1 (by omega) h4
theorem Nz{α β γ:Type}(r:Option (Rs α))(k:α→Nat→Nat→Option (Rs β))(k2:β→Nat→Nat→Option (Rs γ)):rb (rb r k) k2=rb r fun x a o=>rb (k x a o) k2:=by
 match r with
 | none=>rfl
 | some (.bad a e)=>rfl
 | some (.ok x a o)=>rfl
theorem tT(x:List (List Nd)):stV x= .ag [.im (.int .i64 (theS x).kind),.im (.int .i64 (theS x).width),.im (.string (theS x).name),.sl ((theS x).e.map exV) .ro,.sl ((theS x).l.map ndV) .ro,.sl ((theS x).el.map ndV) .ro,.sl ((theS x).cs.map nlV) .ro]:=eW _
theorem Ek(l:List (List Nd)):liV l= .sl ((l.headD []).map ndV) .ro:=rfl
def aF:=A16 @nM @iV @cO @jP @jZ @kH @gJ @lJ @lI @lH @lG @yZ @nL @gY @cN (AI @iS @dP)
def aU:=A11 aX bD @aE @aD aW aH aZ aJ Ss EB Tf
def bG:=A11 fA fB @aS @aT cF bK bO Vv Kr Vk Ws
set_option maxHeartbeats 8000000 in
theorem OE{ts:List Tk}{f:Nat}(hts:ts.length≤4194304)(hB:BrC ts f)(hC:CaC ts f):StC ts (f+1):=by
 intro a o ho r h
 have hp:=wX ts a o
 have hf:=oS ts a o 3
 rw[stM]at h
 refine XC.enter 126 Tryz.func168 rfl (by decide) rfl rfl (s:=[(0,.pt 0 0)]) (by rfl) ?_
 refine wG aF TI ?_
 rcases aI h with ⟨hk,h⟩|⟨hk,h⟩
 ·have hc:=IV hts a o ho r h
  generalize pk ts a=t at hp hk;refine aA [0] hp TI aU bG ?_;refine goG aF (AI TKT hk) ?_;refine wG aF (AI TKT hk) ?_;cases r with
  | bad b e1 =>
   exact PA.callP [0] hc.fails TI aU bG (fun _=>PFin.i rfl rfl)
  | ok x b p =>
   refine aA [0] hc.good TI aU bG ?_;refine goG aF LIT ?_;refine wG aF LIT ?_;refine aR (rs:=[.cell 2 165]) rfl (by first|exact .inl rfl|exact .inr rfl) (finG aF) ?_ rfl (idG aU)
   rw[tT x]
   all_goals exact wkG aU
 generalize pk ts a=t at hp hk
 refine aA [0] hp TI aU bG ?_
 refine goG aF (AI TKT hk) ?_
 refine wG aF (AI TKT hk) ?_
 clear hk hp
 have hq:=dZ ts a o [103,111,116,111] hts
 rcases aI h with ⟨hk,h⟩|⟨hk,h⟩
 ·rw[if_pos hk,hk]at hq
  refine aA [0] hq TI aU bG ?_;refine goG aF TI ?_;refine wG aF TI ?_;rcases aV h with ⟨b1,e1,h1,rfl⟩|⟨nm,a1,o1,h1,h⟩
  ·exact PA.callP [0] ((kV ts (a+1) o hts _ h1).fails) TI aU bG (fun _=>PFin.i rfl rfl)
  refine aA [0] (((kV ts (a+1) o hts _ h1).good)) TI aU bG ?_;refine goG aF TI ?_;obtain⟨_,rfl,hoe,hlt⟩:=gM h1;subst o1;clear h1;refine wG aF TI ?_;rcases aV h with ⟨b1,e1,h1,rfl⟩|⟨_,a2,o2,h1,h⟩
  ·exact PA.callP [0] ((bW ts (a+1+1) o [59] hts _ h1).fails) TI aU bG (fun _=>PFin.i rfl rfl)
  refine aA [0] (((bW ts (a+1+1) o [59] hts _ h1).good)) TI aU bG ?_;refine goG aF TI ?_;cases h
  refine wG aF TI ?_;refine aR (rs:=[.cell 2 165]) rfl (by first|exact .inl rfl|exact .inr rfl) (finG aF) ?_ rfl (idG aU)
  simp only[kC,eP,List.map_nil]
  all_goals exact wkG aU
 rw[if_neg hk]at hq
 rw[Bool.not_eq_true]at hk
 rw[hk]at hq
 refine aA [0] hq TI aU bG ?_
 refine goG aF TI ?_
 refine wG aF TI ?_
 clear hk hq
 have hq:=dZ ts a o [99,97,108,108] hts
 rcases aI h with ⟨hk,h⟩|⟨hk,h⟩
 ·rw[if_pos hk,hk]at hq
  refine aA [0] hq TI aU bG ?_;refine goG aF TI ?_;refine wG aF TI ?_;rcases aV h with ⟨b1,e1,h1,rfl⟩|⟨nm,a1,o1,h1,h⟩
  ·exact PA.callP [0] ((kV ts (a+1) o hts _ h1).fails) TI aU bG (fun _=>PFin.i rfl rfl)
  refine aA [0] (((kV ts (a+1) o hts _ h1).good)) TI aU bG ?_;refine goG aF TI ?_;obtain⟨_,rfl,hoe,hlt⟩:=gM h1;subst o1;clear h1;refine wG aF TI ?_;rcases aV h with ⟨b1,e1,h1,rfl⟩|⟨_,a2,o2,h1,h⟩
  ·exact PA.callP [0] ((bW ts (a+1+1) o [59] hts _ h1).fails) TI aU bG (fun _=>PFin.i rfl rfl)
  refine aA [0] (((bW ts (a+1+1) o [59] hts _ h1).good)) TI aU bG ?_;refine goG aF TI ?_;cases h
  refine wG aF TI ?_;refine aR (rs:=[.cell 2 165]) rfl (by first|exact .inl rfl|exact .inr rfl) (finG aF) ?_ rfl (idG aU)
  simp only[kC,eP,List.map_nil]
  all_goals exact wkG aU
 rw[if_neg hk]at hq
 rw[Bool.not_eq_true]at hk
 rw[hk]at hq
 refine aA [0] hq TI aU bG ?_
 refine goG aF TI ?_
 refine wG aF TI ?_
 clear hk hq
 have hq:=dZ ts a o [115,116,111,114,101,49] hts
 rcases aI h with ⟨hk,h⟩|⟨hk,h⟩
 ·rw[if_pos hk,hk]at hq
  refine aA [0] hq TI aU bG ?_;refine goG aF TI ?_;refine wG aF TI ?_;have hc:=Li hts 1 (a+1) o ho r h;cases r with
  | bad b e1 =>
   exact PA.callP [0] hc.fails TI aU bG (fun _=>PFin.i rfl rfl)
  | ok x b p =>
   refine aA [0] hc.good TI aU bG ?_;refine goG aF LIT ?_;refine wG aF LIT ?_;refine aR (rs:=[.cell 2 165]) rfl (by first|exact .inl rfl|exact .inr rfl) (finG aF) ?_ rfl (idG aU)
   rw[tT x]
   all_goals exact wkG aU
 rw[if_neg hk]at hq
 rw[Bool.not_eq_true]at hk
 rw[hk]at hq
 refine aA [0] hq TI aU bG ?_
 refine goG aF TI ?_
 refine wG aF TI ?_
 clear hk hq
 have hq:=dZ ts a o [115,116,111,114,101,50] hts
 rcases aI h with ⟨hk,h⟩|⟨hk,h⟩
 ·rw[if_pos hk,hk]at hq
  refine aA [0] hq TI aU bG ?_;refine goG aF TI ?_;refine wG aF TI ?_;have hc:=Li hts 2 (a+1) o ho r h;cases r with
  | bad b e1 =>
   exact PA.callP [0] hc.fails TI aU bG (fun _=>PFin.i rfl rfl)
  | ok x b p =>
   refine aA [0] hc.good TI aU bG ?_;refine goG aF LIT ?_;refine wG aF LIT ?_;refine aR (rs:=[.cell 2 165]) rfl (by first|exact .inl rfl|exact .inr rfl) (finG aF) ?_ rfl (idG aU)
   rw[tT x]
   all_goals exact wkG aU
 rw[if_neg hk]at hq
 rw[Bool.not_eq_true]at hk
 rw[hk]at hq
 refine aA [0] hq TI aU bG ?_
 refine goG aF TI ?_
 refine wG aF TI ?_
 clear hk hq
 have hq:=dZ ts a o [115,116,111,114,101,52] hts
 rcases aI h with ⟨hk,h⟩|⟨hk,h⟩
 ·rw[if_pos hk,hk]at hq
  refine aA [0] hq TI aU bG ?_;refine goG aF TI ?_;refine wG aF TI ?_;have hc:=Li hts 4 (a+1) o ho r h;cases r with
  | bad b e1 =>
   exact PA.callP [0] hc.fails TI aU bG (fun _=>PFin.i rfl rfl)
  | ok x b p =>
   refine aA [0] hc.good TI aU bG ?_;refine goG aF LIT ?_;refine wG aF LIT ?_;refine aR (rs:=[.cell 2 165]) rfl (by first|exact .inl rfl|exact .inr rfl) (finG aF) ?_ rfl (idG aU)
   rw[tT x]
   all_goals exact wkG aU
 rw[if_neg hk]at hq
 rw[Bool.not_eq_true]at hk
 rw[hk]at hq
 refine aA [0] hq TI aU bG ?_
 refine goG aF TI ?_
 refine wG aF TI ?_
 clear hk hq
 have hq:=dZ ts a o [111,117,116] hts
 rcases aI h with ⟨hk,h⟩|⟨hk,h⟩
 ·rw[if_pos hk,hk]at hq
  refine aA [0] hq TI aU bG ?_;refine goG aF TI ?_;refine wG aF TI ?_;rcases aV h with ⟨b1,e1,h1,rfl⟩|⟨x,a1,o1,h1,h⟩
  ·exact PA.callP [0] ((wH hts f 1 (a+1) o (by decide) ho _ h1).fails) i1 aU bG (fun _=>PFin.i rfl rfl)
  refine aA [0] (((wH hts f 1 (a+1) o (by decide) ho _ h1).good)) i1 aU bG ?_
  refine goG aF BN01 ?_;obtain⟨hoe,_⟩:=dS ts _ _ _ _ _ _ _ h1;subst o1;clear h1;refine wG aF BN01 ?_;rcases aV h with ⟨b1,e1,h1,rfl⟩|⟨_,a2,o2,h1,h⟩
  ·exact PA.callP [0] ((bW ts a1 o [59] hts _ h1).fails) TI aU bG (fun _=>PFin.i rfl rfl)
  refine aA [0] (((bW ts a1 o [59] hts _ h1).good)) TI aU bG ?_;refine goG aF TI ?_;cases h
  refine wG aF BN01 ?_;refine aR (rs:=[.cell 2 165]) rfl (by first|exact .inl rfl|exact .inr rfl) (finG aF) ?_ rfl (idG aU)
  simp only[kC,eP,List.map_nil,List.map_cons];rw[bI x]
  all_goals exact wkG aU
 rw[if_neg hk]at hq
 rw[Bool.not_eq_true]at hk
 rw[hk]at hq
 refine aA [0] hq TI aU bG ?_
 refine goG aF TI ?_
 refine wG aF TI ?_
 clear hk hq
 have hq:=dZ ts a o [105,102] hts
 rcases aI h with ⟨hk,h⟩|⟨hk,h⟩
 ·rw[if_pos hk,hk]at hq
  refine aA [0] hq TI aU bG ?_;refine goG aF TI ?_;refine wG aF TI ?_;rcases aV h with ⟨b1,e1,h1,rfl⟩|⟨x,a1,o1,h1,h⟩
  ·exact PA.callP [0] ((wH hts f 1 (a+1) o (by decide) ho _ h1).fails) i1 aU bG (fun _=>PFin.i rfl rfl)
  refine aA [0] (((wH hts f 1 (a+1) o (by decide) ho _ h1).good)) i1 aU bG ?_
  refine goG aF BN01 ?_;obtain⟨hoe,_⟩:=dS ts _ _ _ _ _ _ _ h1;subst o1;clear h1;refine wG aF BN01 ?_;rcases aV h with ⟨b1,e1,h1,rfl⟩|⟨l,a2,o2,h1,h⟩
  ·exact PA.callP [0] ((hB a1 o ho _ h1).fails) TI aU bG (fun _=>PFin.i rfl rfl)
  refine aA [0] (((hB a1 o ho _ h1).good)) TI aU bG ?_;refine goG aF LIT ?_;obtain⟨hoe,_,_⟩:=(fQ ts f).2.2.1 _ _ _ _ _ h1;subst o2;clear h1;refine wG aF BN09 ?_;have hq:=dZ ts a2 o [101,108,115,101] hts;rcases aI h with ⟨hk,h⟩|⟨hk,h⟩
  ·rw[if_pos hk,hk]at hq
   refine aA [0] hq TI aU bG ?_;refine goG aF TI ?_;refine wG aF TI ?_;rcases aV h with ⟨b1,e1,h1,rfl⟩|⟨el,a3,o2,h1,h⟩
   ·exact PA.callP [0] ((hB (a2+1) o ho _ h1).fails) TI aU bG (fun _=>PFin.i rfl rfl)
   refine aA [0] (((hB (a2+1) o ho _ h1).good)) TI aU bG ?_;refine goG aF LIT ?_;obtain⟨hoe,_,_⟩:=(fQ ts f).2.2.1 _ _ _ _ _ h1;subst o2;clear h1;refine wG aF BN09 ?_;cases h
   refine wG aF BN09 ?_;refine aR (rs:=[.cell 2 165]) rfl (by first|exact .inl rfl|exact .inr rfl) (finG aF) ?_ rfl (idG aU)
   simp only[kC,eP,List.map_nil,List.map_cons,Ek];rw[bI x]
   all_goals exact wkG aU
  rw[if_neg hk]at hq;rw[Bool.not_eq_true]at hk;rw[hk]at hq;refine aA [0] hq TI aU bG ?_;refine goG aF TI ?_;cases h
  refine wG aF BN09 ?_;refine aR (rs:=[.cell 2 165]) rfl (by first|exact .inl rfl|exact .inr rfl) (finG aF) ?_ rfl (idG aU)
  simp only[kC,eP,List.map_nil,List.map_cons,Ek];rw[bI x]
  all_goals exact wkG aU
 rw[if_neg hk]at hq
 rw[Bool.not_eq_true]at hk
 rw[hk]at hq
 refine aA [0] hq TI aU bG ?_
 refine goG aF TI ?_
 refine wG aF TI ?_
 clear hk hq
 have hq:=dZ ts a o [119,104,105,108,101] hts
 rcases aI h with ⟨hk,h⟩|⟨hk,h⟩
 ·rw[if_pos hk,hk]at hq
  refine aA [0] hq TI aU bG ?_;refine goG aF TI ?_;refine wG aF TI ?_;rcases aV h with ⟨b1,e1,h1,rfl⟩|⟨x,a1,o1,h1,h⟩
  ·exact PA.callP [0] ((wH hts f 1 (a+1) o (by decide) ho _ h1).fails) i1 aU bG (fun _=>PFin.i rfl rfl)
  refine aA [0] (((wH hts f 1 (a+1) o (by decide) ho _ h1).good)) i1 aU bG ?_
  refine goG aF BN01 ?_;obtain⟨hoe,_⟩:=dS ts _ _ _ _ _ _ _ h1;subst o1;clear h1;refine wG aF BN01 ?_;rcases aV h with ⟨b1,e1,h1,rfl⟩|⟨l,a2,o2,h1,h⟩
  ·exact PA.callP [0] ((hB a1 o ho _ h1).fails) TI aU bG (fun _=>PFin.i rfl rfl)
  refine aA [0] (((hB a1 o ho _ h1).good)) TI aU bG ?_;refine goG aF LIT ?_;obtain⟨hoe,_,_⟩:=(fQ ts f).2.2.1 _ _ _ _ _ h1;subst o2;clear h1;refine wG aF BN09 ?_;cases h
  refine aR (rs:=[.cell 2 165]) rfl (by first|exact .inl rfl|exact .inr rfl) (finG aF) ?_ rfl (idG aU)
  simp only[kC,eP,List.map_nil,List.map_cons,Ek];rw[bI x]
  all_goals exact wkG aU
 rw[if_neg hk]at hq
 rw[Bool.not_eq_true]at hk
 rw[hk]at hq
 refine aA [0] hq TI aU bG ?_
 refine goG aF TI ?_
 refine wG aF TI ?_
 clear hk hq
 have hq:=dZ ts a o [108,111,111,112] hts
 rcases aI h with ⟨hk,h⟩|⟨hk,h⟩
 ·rw[if_pos hk,hk]at hq
  refine aA [0] hq TI aU bG ?_;refine goG aF TI ?_;refine wG aF TI ?_;rcases aV h with ⟨b1,e1,h1,rfl⟩|⟨l,a2,o2,h1,h⟩
  ·exact PA.callP [0] ((hB (a+1) o ho _ h1).fails) TI aU bG (fun _=>PFin.i rfl rfl)
  refine aA [0] (((hB (a+1) o ho _ h1).good)) TI aU bG ?_;refine goG aF LIT ?_;obtain⟨hoe,_,_⟩:=(fQ ts f).2.2.1 _ _ _ _ _ h1;subst o2;clear h1;refine wG aF BN09 ?_;cases h
  refine aR (rs:=[.cell 2 165]) rfl (by first|exact .inl rfl|exact .inr rfl) (finG aF) ?_ rfl (idG aU)
  simp only[kC,eP,List.map_nil,List.map_cons,Ek]
  all_goals exact wkG aU
 rw[if_neg hk]at hq
 rw[Bool.not_eq_true]at hk
 rw[hk]at hq
 refine aA [0] hq TI aU bG ?_
 refine goG aF TI ?_
 refine wG aF TI ?_
 clear hk hq
 have hq:=dZ ts a o [115,119,105,116,99,104] hts
 rcases aI h with ⟨hk,h⟩|⟨hk,h⟩
 ·rw[if_pos hk,hk]at hq
  refine aA [0] hq TI aU bG ?_;refine goG aF TI ?_;refine wG aF TI ?_;rcases aV h with ⟨b1,e1,h1,rfl⟩|⟨x,a1,o1,h1,h⟩
  ·exact PA.callP [0] ((wH hts f 1 (a+1) o (by decide) ho _ h1).fails) i1 aU bG (fun _=>PFin.i rfl rfl)
  refine aA [0] (((wH hts f 1 (a+1) o (by decide) ho _ h1).good)) i1 aU bG ?_
  refine goG aF BN01 ?_;obtain⟨hoe,_⟩:=dS ts _ _ _ _ _ _ _ h1;subst o1;clear h1;refine wG aF BN01 ?_;rw[←Nz]at h;rcases aV h with ⟨b1,e1,h1,rfl⟩|⟨l,a2,o2,h1,h⟩
  ·exact PA.callP [0] ((hC a1 o ho _ h1).fails) TI aU bG (fun _=>PFin.i rfl rfl)
  refine aA [0] (((hC a1 o ho _ h1).good)) TI aU bG ?_;refine goG aF LIT ?_;clear h1;refine wG aF BN09 ?_;cases h
  refine aR (rs:=[.cell 2 165]) rfl (by first|exact .inl rfl|exact .inr rfl) (finG aF) ?_ rfl (idG aU)
  simp only[kC,eP,List.map_nil,List.map_cons,caV];rw[bI x]
  all_goals exact wkG aU
 rw[if_neg hk]at hq
 rw[Bool.not_eq_true]at hk
 rw[hk]at hq
 refine aA [0] hq TI aU bG ?_
 refine goG aF TI ?_
 refine wG aF TI ?_
 clear hk hq
 have hq:=dZ ts a o [98,114,101,97,107] hts
 rcases aI h with ⟨hk,h⟩|⟨hk,h⟩
 ·rw[if_pos hk,hk]at hq
  refine aA [0] hq TI aU bG ?_;refine goG aF TI ?_;refine wG aF TI ?_;have hc:=vS hts 10 (a+1) o ho r h;cases r with
  | bad b e1 =>
   exact PA.callP [0] hc.fails TI aU bG (fun _=>PFin.i rfl rfl)
  | ok x b p =>
   refine aA [0] hc.good TI aU bG ?_;refine goG aF LIT ?_;refine wG aF LIT ?_;refine aR (rs:=[.cell 2 165]) rfl (by first|exact .inl rfl|exact .inr rfl) (finG aF) ?_ rfl (idG aU)
   rw[tT x]
   all_goals exact wkG aU
 rw[if_neg hk]at hq
 rw[Bool.not_eq_true]at hk
 rw[hk]at hq
 refine aA [0] hq TI aU bG ?_
 refine goG aF TI ?_
 refine wG aF TI ?_
 clear hk hq
 have hq:=dZ ts a o [99,111,110,116,105,110,117,101] hts
 rcases aI h with ⟨hk,h⟩|⟨hk,h⟩
 ·rw[if_pos hk,hk]at hq
  refine aA [0] hq TI aU bG ?_;refine goG aF TI ?_;refine wG aF TI ?_;have hc:=vS hts 11 (a+1) o ho r h;cases r with
  | bad b e1 =>
   exact PA.callP [0] hc.fails TI aU bG (fun _=>PFin.i rfl rfl)
  | ok x b p =>
   refine aA [0] hc.good TI aU bG ?_;refine goG aF LIT ?_;refine wG aF LIT ?_;refine aR (rs:=[.cell 2 165]) rfl (by first|exact .inl rfl|exact .inr rfl) (finG aF) ?_ rfl (idG aU)
   rw[tT x]
   all_goals exact wkG aU
 rw[if_neg hk]at hq
 rw[Bool.not_eq_true]at hk
 rw[hk]at hq
 refine aA [0] hq TI aU bG ?_
 refine goG aF TI ?_
 refine wG aF TI ?_
 clear hk hq
 have hq:=dZ ts a o [114,101,116,117,114,110] hts
 rcases aI h with ⟨hk,h⟩|⟨hk,h⟩
 ·rw[if_pos hk,hk]at hq
  refine aA [0] hq TI aU bG ?_;refine goG aF TI ?_;refine wG aF TI ?_;have hc:=vS hts 14 (a+1) o ho r h;cases r with
  | bad b e1 =>
   exact PA.callP [0] hc.fails TI aU bG (fun _=>PFin.i rfl rfl)
  | ok x b p =>
   refine aA [0] hc.good TI aU bG ?_;refine goG aF LIT ?_;refine wG aF LIT ?_;refine aR (rs:=[.cell 2 165]) rfl (by first|exact .inl rfl|exact .inr rfl) (finG aF) ?_ rfl (idG aU)
   rw[tT x]
   all_goals exact wkG aU
 rw[if_neg hk]at hq
 rw[Bool.not_eq_true]at hk
 rw[hk]at hq
 refine aA [0] hq TI aU bG ?_
 refine goG aF TI ?_
 refine wG aF TI ?_
 clear hk hq
 have hq:=dZ ts a o [104,97,108,116] hts
 rcases aI h with ⟨hk,h⟩|⟨hk,h⟩
 ·rw[if_pos hk,hk]at hq
  refine aA [0] hq TI aU bG ?_;refine goG aF TI ?_;refine wG aF TI ?_;have hc:=vS hts 15 (a+1) o ho r h;cases r with
  | bad b e1 =>
   exact PA.callP [0] hc.fails TI aU bG (fun _=>PFin.i rfl rfl)
  | ok x b p =>
   refine aA [0] hc.good TI aU bG ?_;refine goG aF LIT ?_;refine wG aF LIT ?_;refine aR (rs:=[.cell 2 165]) rfl (by first|exact .inl rfl|exact .inr rfl) (finG aF) ?_ rfl (idG aU)
   rw[tT x]
   all_goals exact wkG aU
 rw[if_neg hk]at hq
 rw[Bool.not_eq_true]at hk
 rw[hk]at hq
 refine aA [0] hq TI aU bG ?_
 refine goG aF TI ?_
 refine wG aF TI ?_
 clear hk hq
 cases h
 exact PA.callP [0] hf TI aU bG (fun _=>PFin.i rfl rfl)
theorem YF{ts:List Tk}(hts:ts.length≤4194304)(hok: ∀t∈ts,TkOk t): ∀F f,f≤F→StC ts f∧BrC ts f:=by
 intro F
 induction F with
 | zero =>
  intro f hf;obtain rfl:f=0:=by omega
  exact⟨(fun a o _ r h=>by cases h),(fun a o _ r h=>by cases h)⟩
 | succ F ih =>
  intro f hf
  by_cases hle:f≤F
  ·exact ih f hle
  obtain rfl:f=F+1:=by omega
  exact⟨OE hts (ih F (Nat.le_refl _)).2 (OV hts hok F fun f hf=>(ih f (by omega)).2),JM hts F (IW hts F fun f hf=>(ih f (by omega)).1)⟩
theorem QV{ts:List Tk}(hts:ts.length≤4194304)(hok: ∀t∈ts,TkOk t)(F:Nat):LiC ts F:=IW hts F fun f _=>(YF hts hok F f (by omega)).1
theorem SV{ts:List Tk}(h: ∀t∈ts,TkOk t)(a:Nat):(pk ts a).text.length≤4194304:=by
 by_cases hl:a<ts.length
 ·exact(h _ (List.mem_of_getElem? (Vq hl))).2
 ·rw[Ig (by omega)];decide
theorem Jv(l:List Va):kO 6 (l.map vaV)=true:=by
 unfold kO
 rw[List.all_map]
 exact List.all_eq_true.2 fun x _=>rfl
def kX:=A7 @gK @Cz @tC @oF @PP @gI @jO
def cS:=A13 aX bD @bS @bU @bT @bV @aQ @aO aW aH Ss uI gA
def dF:=A13 fA fB @rL @rZ @rM @sA @bF @bE cF bK Kr Lp nQ
theorem sD{ts:List Tk}{f:Nat}(hts:ts.length≤4194304)(hok: ∀t∈ts,TkOk t)(a o:Nat)(ho:o≤256)(r:Rs Va)(h:wN ts f a o=some r):XC Tryz.prog 79 [.pt 0 0] ts a o vaV r:=by
 unfold wN at h
 refine XC.enter 17 Tryz.func79 rfl (by decide) rfl rfl (s:=[(0,.pt 0 0)]) (by rfl) ?_
 refine wG kX TI ?_
 rcases aV h with ⟨b1,e1,h1,rfl⟩|⟨_,a1,o1,h1,h⟩
 ·exact PA.callP [0] ((bW ts a o [118,97,114] hts _ h1).fails) TI cS dF (fun _=>PFin.i rfl rfl)
 refine aA [0] (((bW ts a o [118,97,114] hts _ h1).good)) TI cS dF ?_
 refine goG kX TI ?_
 obtain⟨_,rfl,hoe⟩:=cJ h1
 subst o1
 clear h1
 refine wG kX TI ?_
 rcases aV h with ⟨b1,e1,h1,rfl⟩|⟨nm,a2,o2,h1,h⟩
 ·exact PA.callP [0] ((kV ts (a+1) o hts _ h1).fails) TI cS dF (fun _=>PFin.i rfl rfl)
 refine aA [0] (((kV ts (a+1) o hts _ h1).good)) TI cS dF ?_
 refine goG kX TI ?_
 obtain⟨_,rfl,hoe,hlt⟩:=gM h1
 subst o2
 clear h1
 refine wG kX TI ?_
 rcases aV h with ⟨b1,e1,h1,rfl⟩|⟨_,a3,o3,h1,h⟩
 ·exact PA.callP [0] ((bW ts (a+1+1) o [58] hts _ h1).fails) TI cS dF (fun _=>PFin.i rfl rfl)
 refine aA [0] (((bW ts (a+1+1) o [58] hts _ h1).good)) TI cS dF ?_
 refine goG kX TI ?_
 obtain⟨_,rfl,hoe⟩:=cJ h1
 subst o3
 clear h1
 refine wG kX TI ?_
 rcases aV h with ⟨b1,e1,h1,rfl⟩|⟨x,a4,o4,h1,h⟩
 ·exact PA.callP [0] ((QT hts hok f f (Nat.le_refl _) (a+1+1+1) o ho _ h1).fails) TI cS dF (fun _=>PFin.i rfl rfl)
 refine aA [0] (((QT hts hok f f (Nat.le_refl _) (a+1+1+1) o ho _ h1).good)) TI cS dF ?_
 refine goG kX BN03 ?_
 obtain⟨hoe,_,_⟩:=(kQ ts f).1 _ _ _ _ _ h1
 subst o4
 clear h1
 refine wG kX BN03 ?_
 rcases aV h with ⟨b1,e1,h1,rfl⟩|⟨_,a5,o5,h1,h⟩
 ·exact PA.callP [0] ((bW ts a4 o [59] hts _ h1).fails) TI cS dF (fun _=>PFin.i rfl rfl)
 refine aA [0] (((bW ts a4 o [59] hts _ h1).good)) TI cS dF ?_
 refine goG kX TI ?_
 cases h
 refine wG kX BN03 ?_
 refine aR (rs:=[.cell 2 96]) rfl (by first|exact .inl rfl|exact .inr rfl) (finG kX) ?_ rfl (idG cS)
 rw[qA]
 all_goals exact wkG cS
def iH:=A16 @Mq @nB @tF @Da @dT @Cx @lA @mO @oZ @rH @Ax @Aw @sX @xG @PR (A8 @Mi @nA @sS @pS @dC @qO @sP @iB)
theorem Wz{ts:List Tk}(hts:ts.length≤4194304)(hok: ∀t∈ts,TkOk t)(a o:Nat)(ho:o≤256)(r:Rs Sec)(h:By ts a o=some r):XC Tryz.prog 80 [.pt 0 0] ts a o scV r:=by
 unfold By at h
 refine XC.enter 28 Tryz.func80 rfl (by decide) rfl rfl (s:=[(0,.pt 0 0)]) (by rfl) ?_
 refine wG iH TI ?_
 rcases aV h with ⟨b1,e1,h1,rfl⟩|⟨_,a1,o1,h1,h⟩
 ·exact PA.callP [0] ((bW ts a o [100,97,116,97] hts _ h1).fails) TI cS dF (fun _=>PFin.i rfl rfl)
 refine aA [0] (((bW ts a o [100,97,116,97] hts _ h1).good)) TI cS dF ?_
 refine goG iH TI ?_
 obtain⟨_,rfl,hoe⟩:=cJ h1
 subst o1
 clear h1
 refine wG iH TI ?_
 rcases aV h with ⟨b1,e1,h1,rfl⟩|⟨nm,a2,o2,h1,h⟩
 ·exact PA.callP [0] ((kV ts (a+1) o hts _ h1).fails) TI cS dF (fun _=>PFin.i rfl rfl)
 refine aA [0] (((kV ts (a+1) o hts _ h1).good)) TI cS dF ?_
 refine goG iH TI ?_
 obtain⟨_,rfl,hoe,hlt⟩:=gM h1
 subst o2
 clear h1
 rcases aV h with ⟨b1,e1,h1,rfl⟩|⟨d,a3,o3,h1,h⟩
 ·exact PA.callP [0] ((nO ts (a+1+1) o 3 (by decide) hts _ h1).fails) TI cS dF (fun _=>PFin.i rfl rfl)
 refine aA [0] (((nO ts (a+1+1) o 3 (by decide) hts _ h1).good)) TI cS dF ?_
 refine goG iH TKT ?_
 obtain⟨_,_,rfl,hoe⟩:=hM h1
 subst o3
 clear h1
 refine wG iH TKT ?_
 have hq:=dZ ts (a+1+1+1) o [119,114,105,116,101] hts
 obtain⟨w,a4,o4,h1,h⟩: ∃w a4 o4,accM ts [119,114,105,116,101] (a+1+1+1) o=some (.ok w a4 o4)∧_:=by
  rcases aV h with ⟨b1,e1,h1,rfl⟩|⟨w,a4,o4,h1,h⟩
  ·rcases aI h1 with ⟨_,h1⟩|⟨_,h1⟩<;>cases h1
  ·exact⟨w,a4,o4,h1,h⟩
 obtain⟨hoe,hle,hw,ha4⟩:=Cp h1
 rw[←ha4,←hw]at hq
 subst o4
 clear h1 hw ha4
 refine aA [0] hq TI cS dF ?_
 refine goG iH TI ?_
 refine wG iH TI ?_
 clear hq
 have hq:=dZ ts a4 o [101,120,101,99] hts
 obtain⟨xe,a5,o5,h1,h⟩: ∃w a5 o5,accM ts [101,120,101,99] a4 o=some (.ok w a5 o5)∧_:=by
  rcases aV h with ⟨b1,e1,h1,rfl⟩|⟨w,a5,o5,h1,h⟩
  ·rcases aI h1 with ⟨_,h1⟩|⟨_,h1⟩<;>cases h1
  ·exact⟨w,a5,o5,h1,h⟩
 obtain⟨hoe,hle2,hw,ha5⟩:=Cp h1
 rw[←ha5,←hw]at hq
 subst o5
 clear h1 hw ha5
 refine aA [0] hq TI cS dF ?_
 refine goG iH TI ?_
 refine wG iH TI ?_
 clear hq
 rcases aV h with ⟨b1,e1,h1,rfl⟩|⟨_,a6,o6,h1,h⟩
 ·exact PA.callP [0] ((bW ts a5 o [61] hts _ h1).fails) TI cS dF (fun _=>PFin.i rfl rfl)
 refine aA [0] (((bW ts a5 o [61] hts _ h1).good)) TI cS dF ?_
 refine goG iH TI ?_
 obtain⟨_,rfl,hoe⟩:=cJ h1
 subst o6
 clear h1
 refine wG iH TI ?_
 have hpk:=SV hok (a5+1)
 rcases aV h with ⟨b1,e1,h1,rfl⟩|⟨t,a7,o7,h1,h⟩
 ·exact PA.callP [0] ((nO ts (a5+1) o 4 (by decide) hts _ h1).fails) TI cS dF (fun _=>PFin.i rfl rfl)
 obtain⟨_,ht,ha7,hoe⟩:=hM h1
 rw[←ht]at hpk
 have hsz:(ByteArray.mk t.text.toArray).size≤140737488355328:=by show t.text.toArray.size≤_;rw[List.size_toArray];omega
 have hbv:byV (ByteArray.mk t.text.toArray)=t.text.map fun b=>V.im (.int .u8 b.toNat):=rfl
 refine aA [0] ((nO ts (a5+1) o 4 (by decide) hts _ h1).good) TI cS dF ?_
 refine goG iH (A3 TKT hsz hbv) ?_
 subst ha7
 subst o7
 clear h1
 refine wG iH TKT ?_
 rcases aV h with ⟨b1,e1,h1,rfl⟩|⟨_,a8,o8,h1,h⟩
 ·exact PA.callP [0] ((bW ts (a5+1+1) o [59] hts _ h1).fails) TI cS dF (fun _=>PFin.i rfl rfl)
 refine aA [0] (((bW ts (a5+1+1) o [59] hts _ h1).good)) TI cS dF ?_
 refine goG iH TI ?_
 cases h
 refine wG iH TI ?_
 refine aR (rs:=[.cell 2 76]) rfl (by first|exact .inl rfl|exact .inr rfl) (finG iH) ?_ rfl (idG cS)
 rw[Dz]
 all_goals exact wkG cS
def gH:=A14 @kI @jP @zD @Cy @tC @zA @kG @oH @rJ @PT @jD @iS @sU @jO
set_option maxHeartbeats 4000000 in
theorem Wx{ts:List Tk}{f:Nat}(hts:ts.length≤4194304)(hok: ∀t∈ts,TkOk t)(a0 o:Nat)(ho:o≤256)(r:Rs Fun)(h:funM ts f a0 o=some r):XC Tryz.prog 52 [.pt 0 0] ts a0 o fnV r:=by
 unfold funM at h
 refine XC.enter 26 Tryz.func52 rfl (by decide) rfl rfl (s:=[(0,.pt 0 0)]) (by rfl) ?_
 refine wG gH TI ?_
 rcases aV h with ⟨b1,e1,h1,rfl⟩|⟨_,a1,o1,h1,h⟩
 ·exact PA.callP [0] ((bW ts a0 o [102,117,110,99] hts _ h1).fails) TI cS dF (fun _=>PFin.i rfl rfl)
 refine aA [0] (((bW ts a0 o [102,117,110,99] hts _ h1).good)) TI cS dF ?_
 refine goG gH TI ?_
 obtain⟨_,rfl,hoe⟩:=cJ h1
 subst o1
 clear h1
 refine wG gH TI ?_
 rcases aV h with ⟨b1,e1,h1,rfl⟩|⟨nm,a2,o2,h1,h⟩
 ·exact PA.callP [0] ((kV ts (a0+1) o hts _ h1).fails) TI cS dF (fun _=>PFin.i rfl rfl)
 refine aA [0] (((kV ts (a0+1) o hts _ h1).good)) TI cS dF ?_
 refine goG gH TI ?_
 obtain⟨_,rfl,hoe,hlt⟩:=gM h1
 subst o2
 clear h1
 refine wG gH TI ?_
 rcases aV h with ⟨b1,e1,h1,rfl⟩|⟨_,a3,o3,h1,h⟩
 ·exact PA.callP [0] ((fP ts (a0+1+1) o [123] hts _ h1).fails) TI cS dF (fun _=>PFin.i rfl rfl)
 refine aA [0] (((fP ts (a0+1+1) o [123] hts _ h1).good)) TI cS dF ?_
 refine goG gH TI ?_
 obtain⟨_,ho1,rfl,rfl⟩:=cE h1
 clear h1
 refine wG gH TI ?_
 refine aP ?_
 refine dE ?_
 refine AWp.ghostB 2 1 [.im (.string nm),.sl [] .nl,.sl [] .nl] 96 6 ?_
 suffices H: ∀(F:Nat),F≤f→ ∀(l:List Va) (a:Nat),l.length≤a→(rb (vasM ts F l a (o+1)) fun v a o=>rb (stM ts f (.li []) a o) fun l a o=>rb (endM ts [125] a o) fun _ a o=>ret (Fun.mk nm v (l.headD [])) a o)=some r→AWpK _ _ _ _ _ ⟨dn 26 [(0,.pt 0 0),(2,.pt 1 0),(3,.pt 2 0)],ofl [.box [.sl (ts.map tkV) .ro,(.im (.int .i64 ((a:Nat)))),(.im (.int .i64 ((o+1:Nat))))],.box [.im (.string ByteArray.empty),.sl [] .nl,.sl [] .nl],.box [.im (.string nm),.sl ((l).map vaV) (.mine 3),.sl [] .nl],.tip 96 6 (l).length]⟩ by
  refine AWp.cutP 4 [(0,.pt 0 0),(2,.pt 1 0),(3,.pt 2 0)] [.box [.sl (ts.map tkV) .ro,(.im (.int .i64 ((a0+1+1+1:Nat)))),(.im (.int .i64 ((o+1:Nat))))],.box [.im (.string ByteArray.empty),.sl [] .nl,.sl [] .nl],.box [.im (.string nm),.sl ((([]:List Va)).map vaV) (.mine 3),.sl [] .nl],.tip 96 6 (([]:List Va)).length] cS ?_;exact H f (Nat.le_refl _) [] (a0+1+1+1) (by simp) h
 clear h
 intro F
 induction F with
 | zero=>intro _ l a _ h;cases h
 | succ F ih =>
 intro hf l a hla h
 rw[vasM]at h
 have hs:=oR ts a (o+1) [118,97,114]
 by_cases hk:sees ts a [118,97,114]=true
 case neg =>
  rw[if_neg hk]at h;rw[Bool.not_eq_true]at hk;rw[hk]at hs;change (rb (stM ts f (.li []) a (o+1)) fun b a o=>rb (endM ts [125] a o) fun _ a o=>ret (Fun.mk nm l (b.headD [])) a o)=some r at h
  refine wG gH TI ?_;refine aA [0] hs TI cS dF ?_;refine goG gH TI ?_;refine wG gH TI ?_;rcases aV h with ⟨b1,e1,h1,rfl⟩|⟨b,a4,o4,h1,h⟩
  ·exact PA.callP [0] ((QV hts hok f a (o+1) (by omega) _ h1).fails) TI cS dF (fun _=>PFin.i rfl rfl)
  refine aA [0] (((QV hts hok f a (o+1) (by omega) _ h1).good)) TI cS dF ?_
  refine goG gH LIT ?_;obtain⟨rfl,_,_⟩:=(fQ ts f).2.1 _ _ _ _ _ _ h1;clear h1;refine wG gH LIT ?_;rcases aV h with ⟨b1,e1,h1,rfl⟩|⟨_,a5,o5,h1,h⟩
  ·exact PA.callP [0] ((pM ts a4 (o+1) [125] hts (by omega) (by omega) _ h1).fails) TI cS dF (fun _=>PFin.i rfl rfl)
  refine aA [0] (((pM ts a4 (o+1) [125] hts (by omega) (by omega) _ h1).good)) TI cS dF ?_
  refine goG gH TI ?_;cases h
  refine wG gH LIT ?_;refine aR (rs:=[.cell 2 37]) rfl (by first|exact .inl rfl|exact .inr rfl) (finG gH) ?_ rfl (idG cS)
  rw[oO];simp only[Ek]
  all_goals exact wkG cS
 rw[if_pos hk]at h
 rw[hk]at hs
 refine wG gH TI ?_
 refine aA [0] hs TI cS dF ?_
 refine goG gH TI ?_
 refine wdG gH TI ?_
 rw[Nz]at h
 rcases aV h with ⟨b1,e1,h1,rfl⟩|⟨x,a4,o4,h1,hk2⟩
 ·exact oY [0] ((sD hts hok a (o+1) (by omega) _ h1).fails) TI cS dF (fun _=>PFin.i rfl rfl) ⟨[⟨6,[],⟨_,[]⟩⟩],_,(.cons (vF (i:=6) rfl rfl oH jD (by decide)) .nil),by kernel_rfl⟩
 obtain⟨hoe,hle,hle2⟩:=lQ h1
 subst hoe
 obtain⟨B,hB⟩: ∃B,B=l++[x]:=⟨_,rfl⟩
 have hAs:l.map vaV++[vaV x]=B.map vaV:=by rw[hB,List.map_append,List.map_singleton]
 have hAl:l.length+1=B.length:=by rw[hB];simp
 have hbl:B.length*88≤140737488355328:=by omega
 have h4:(rb (vasM ts F B a4 (o+1)) fun v a o=>rb (stM ts f (.li []) a o) fun l a o=>rb (endM ts [125] a o) fun _ a o=>ret (Fun.mk nm v (l.headD [])) a o)=some r:=by rw[hB];exact hk2
 refine aA [0] ((sD hts hok a (o+1) (by omega) _ h1).good) TI cS dF ?_
 refine goG gH (A6 VA hAs hAl hbl Jv @List.length_map.{0,0}) ?_
 refine wdG gH (A6 VA hAs hAl hbl Jv @List.length_map.{0,0}) ?_
 refine dE ?_
 refine AWp.cutP 4 [(0,.pt 0 0),(2,.pt 1 0),(3,.pt 2 0)] [.box [.sl (ts.map tkV) .ro,(.im (.int .i64 ((a4:Nat)))),(.im (.int .i64 ((o+1:Nat))))],.box [.im (.string ByteArray.empty),.sl [] .nl,.sl [] .nl],.box [.im (.string nm),.sl ((B).map vaV) (.mine 3),.sl [] .nl],.tip 96 6 (B).length] cS ?_
 exact ih (by omega) B a4 (by omega) h4
def fI:=A16 @kI @zE @wF @pY @cO @Db @tD @Cy @Cx @tC @PV @PU @zA @kG @tB (A16 @wE @pV @Gp @fX @lN @oI @mM @gZ @jD @vW @sW @nY @cN @sU @Cu (AI @pS @jO))
def jC:=A8 aX bD @aQ @aO gA eO oN kL
def mJ:=A8 fA fB @bF @bE nQ pF La Lb
set_option maxHeartbeats 8000000 in
theorem II{ts:List Tk}{f:Nat}(hts:ts.length≤4194304)(hok: ∀t∈ts,TkOk t)(r:Rs Un)(h:uniM ts f ⟨[],[],[]⟩ 0 0=some r):XC Tryz.prog 34 [.pt 0 0] ts 0 0 unV r:=by
 refine XC.enter 47 Tryz.func34 rfl (by decide) rfl rfl (s:=[(0,.pt 0 0)]) (by rfl) ?_
 refine wG fI TI ?_
 refine aP ?_
 refine dE ?_
 refine AWp.ghostB 2 0 [.sl [] .nl,.sl [] .nl,.sl [] .nl] 96 6 ?_
 refine AWp.ghostB 2 1 [.sl [] (.mine 3),.sl [] .nl,.sl [] .nl] 76 5 ?_
 refine AWp.ghostB 2 2 [.sl [] (.mine 3),.sl [] (.mine 4),.sl [] .nl] 37 3 ?_
 suffices H: ∀(F:Nat),F≤f→ ∀(u:Un) (a:Nat),u.globals.length≤a→u.data.length≤a→u.funcs.length≤a→uniM ts F u a 0=some r→AWpK _ _ _ _ _ ⟨dn 47 [(0,.pt 0 0),(2,.pt 1 0),(3,.pt 2 0)],ofl [.box [.sl (ts.map tkV) .ro,(.im (.int .i64 ((a:Nat)))),(.im (.int .i64 ((0:Nat))))],.box [.sl [] .nl,.sl [] .nl,.sl [] .nl],.box [.sl ((u).globals.map vaV) (.mine 3),.sl ((u).data.map scV) (.mine 4),.sl ((u).funcs.map fnV) (.mine 5)],.tip 96 6 (u).globals.length,.tip 76 5 (u).data.length,.tip 37 3 (u).funcs.length]⟩ by
  refine AWp.cutP 6 [(0,.pt 0 0),(2,.pt 1 0),(3,.pt 2 0)] [.box [.sl (ts.map tkV) .ro,(.im (.int .i64 ((0:Nat)))),(.im (.int .i64 ((0:Nat))))],.box [.sl [] .nl,.sl [] .nl,.sl [] .nl],.box [.sl (((⟨[],[],[]⟩:Un)).globals.map vaV) (.mine 3),.sl (((⟨[],[],[]⟩:Un)).data.map scV) (.mine 4),.sl (((⟨[],[],[]⟩:Un)).funcs.map fnV) (.mine 5)],.tip 96 6 ((⟨[],[],[]⟩:Un)).globals.length,.tip 76 5 ((⟨[],[],[]⟩:Un)).data.length,.tip 37 3 ((⟨[],[],[]⟩:Un)).funcs.length] jC ?_;exact H f (Nat.le_refl _) ⟨[],[],[]⟩ 0 (by simp) (by simp) (by simp) h
 clear h
 intro F
 induction F with
 | zero=>intro _ u a _ _ _ h;cases h
 | succ F ih =>
 intro hf u a hg hd hfn h
 rw[uniM]at h
 by_cases hlt:ts.length≤a
 ·have hn: ¬(a:Int)<(ts.length:Int):=by omega
  rw[if_pos hlt]at h;cases h
  refine wdG fI (AI hn @List.length_map.{0,0}) ?_;refine aR (rs:=[.cell 2 27]) rfl (by first|exact .inl rfl|exact .inr rfl) (finG fI) ?_ rfl (idG jC)
  rw[kJ]
  all_goals exact wkG jC
 have hn:(a:Int)<(ts.length:Int):=by omega
 rw[if_neg hlt]at h
 have hs1:=oR ts a 0 [118,97,114]
 have hs2:=oR ts a 0 [100,97,116,97]
 have hs3:=oR ts a 0 [102,117,110,99]
 have hfl:=oS ts a 0 3
 refine wdG fI (AI hn @List.length_map.{0,0}) ?_
 refine wG fI TI ?_
 rcases aI h with ⟨hk,h⟩|⟨hk,h⟩
 ·rw[hk]at hs1
  refine aA [0] hs1 TI jC mJ ?_;refine goG fI TI ?_;refine wdG fI TI ?_;rcases aV h with ⟨b1,e1,h1,rfl⟩|⟨x,a4,o4,h1,hk2⟩
  ·exact oY [0] ((sD hts hok a 0 (by omega) _ h1).fails) TI jC mJ (fun _=>PFin.i rfl rfl) ⟨[⟨6,[],⟨_,[]⟩⟩],_,(.cons (vF (i:=6) rfl rfl lN jD (by decide)) .nil),by kernel_rfl⟩
  obtain⟨hoe,hle,hle2⟩:=lQ h1;subst hoe;obtain⟨B,hB⟩: ∃B,B=u.globals++[x]:=⟨_,rfl⟩
  have hAs:u.globals.map vaV++[vaV x]=B.map vaV:=by rw[hB,List.map_append,List.map_singleton]
  have hAl:u.globals.length+1=B.length:=by rw[hB];simp
  have hbl:B.length*88≤140737488355328:=by omega
  have h4:uniM ts F ⟨B,u.data,u.funcs⟩ a4 0=some r:=by rw[hB];exact hk2
  refine aA [0] ((sD hts hok a 0 (by omega) _ h1).good) TI jC mJ ?_
  refine goG fI (A6 VA hAs hAl hbl Jv @List.length_map.{0,0}) ?_;refine wdG fI (A6 VA hAs hAl hbl Jv @List.length_map.{0,0}) ?_;refine dE ?_;refine AWp.cutP 6 [(0,.pt 0 0),(2,.pt 1 0),(3,.pt 2 0)] [.box [.sl (ts.map tkV) .ro,(.im (.int .i64 ((a4:Nat)))),(.im (.int .i64 ((0:Nat))))],.box [.sl [] .nl,.sl [] .nl,.sl [] .nl],.box [.sl (((⟨B,u.data,u.funcs⟩:Un)).globals.map vaV) (.mine 3),.sl (((⟨B,u.data,u.funcs⟩:Un)).data.map scV) (.mine 4),.sl (((⟨B,u.data,u.funcs⟩:Un)).funcs.map fnV) (.mine 5)],.tip 96 6 ((⟨B,u.data,u.funcs⟩:Un)).globals.length,.tip 76 5 ((⟨B,u.data,u.funcs⟩:Un)).data.length,.tip 37 3 ((⟨B,u.data,u.funcs⟩:Un)).funcs.length] jC ?_;exact ih (by omega) ⟨B,u.data,u.funcs⟩ a4 (by show B.length≤a4;omega) (by show u.data.length≤a4;omega) (by show u.funcs.length≤a4;omega) h4
 rw[Bool.not_eq_true]at hk
 rw[hk]at hs1
 refine aA [0] hs1 TI jC mJ ?_
 refine goG fI TI ?_
 refine wG fI TI ?_
 clear hk
 rcases aI h with ⟨hk,h⟩|⟨hk,h⟩
 ·rw[hk]at hs2
  refine aA [0] hs2 TI jC mJ ?_;refine goG fI TI ?_;refine wdG fI TI ?_;rcases aV h with ⟨b1,e1,h1,rfl⟩|⟨x,a4,o4,h1,hk2⟩
  ·exact oY [0] ((Wz hts hok a 0 (by omega) _ h1).fails) TI jC mJ (fun _=>PFin.i rfl rfl) ⟨[⟨6,[],⟨_,[]⟩⟩],_,(.cons (vF (i:=6) rfl rfl oI vW (by decide)) .nil),by kernel_rfl⟩
  obtain⟨hoe,hle,hle2⟩:=yL h1;subst hoe;obtain⟨B,hB⟩: ∃B,B=u.data++[x]:=⟨_,rfl⟩
  have hAs:u.data.map scV++[scV x]=B.map scV:=by rw[hB,List.map_append,List.map_singleton]
  have hAl:u.data.length+1=B.length:=by rw[hB];simp
  have hbl:B.length*56≤140737488355328:=by omega
  have h4:uniM ts F ⟨u.globals,B,u.funcs⟩ a4 0=some r:=by rw[hB];exact hk2
  refine aA [0] ((Wz hts hok a 0 (by omega) _ h1).good) TI jC mJ ?_
  refine goG fI (A6 SCT hAs hAl hbl Kj @List.length_map.{0,0}) ?_;refine wdG fI (A6 SCT hAs hAl hbl Kj @List.length_map.{0,0}) ?_;refine dE ?_;refine AWp.cutP 6 [(0,.pt 0 0),(2,.pt 1 0),(3,.pt 2 0)] [.box [.sl (ts.map tkV) .ro,(.im (.int .i64 ((a4:Nat)))),(.im (.int .i64 ((0:Nat))))],.box [.sl [] .nl,.sl [] .nl,.sl [] .nl],.box [.sl (((⟨u.globals,B,u.funcs⟩:Un)).globals.map vaV) (.mine 3),.sl (((⟨u.globals,B,u.funcs⟩:Un)).data.map scV) (.mine 4),.sl (((⟨u.globals,B,u.funcs⟩:Un)).funcs.map fnV) (.mine 5)],.tip 96 6 ((⟨u.globals,B,u.funcs⟩:Un)).globals.length,.tip 76 5 ((⟨u.globals,B,u.funcs⟩:Un)).data.length,.tip 37 3 ((⟨u.globals,B,u.funcs⟩:Un)).funcs.length] jC ?_;exact ih (by omega) ⟨u.globals,B,u.funcs⟩ a4 (by show u.globals.length≤a4;omega) (by show B.length≤a4;omega) (by show u.funcs.length≤a4;omega) h4
 rw[Bool.not_eq_true]at hk
 rw[hk]at hs2
 refine aA [0] hs2 TI jC mJ ?_
 refine goG fI TI ?_
 refine wG fI TI ?_
 clear hk
 rcases aI h with ⟨hk,h⟩|⟨hk,h⟩
 ·rw[hk]at hs3
  refine aA [0] hs3 TI jC mJ ?_;refine goG fI TI ?_;refine wdG fI TI ?_;rcases aV h with ⟨b1,e1,h1,rfl⟩|⟨x,a4,o4,h1,hk2⟩
  ·exact oY [0] ((Wx hts hok a 0 (by omega) _ h1).fails) TI jC mJ (fun _=>PFin.i rfl rfl) ⟨[⟨6,[],⟨_,[]⟩⟩],_,(.cons (vF (i:=6) rfl rfl mM sW (by decide)) .nil),by kernel_rfl⟩
  obtain⟨hoe,hle,hle2⟩:=yG h1;subst hoe;obtain⟨B,hB⟩: ∃B,B=u.funcs++[x]:=⟨_,rfl⟩
  have hAs:u.funcs.map fnV++[fnV x]=B.map fnV:=by rw[hB,List.map_append,List.map_singleton]
  have hAl:u.funcs.length+1=B.length:=by rw[hB];simp
  have hbl:B.length*64≤140737488355328:=by omega
  have h4:uniM ts F ⟨u.globals,u.data,B⟩ a4 0=some r:=by rw[hB];exact hk2
  refine aA [0] ((Wx hts hok a 0 (by omega) _ h1).good) TI jC mJ ?_
  refine goG fI (A6 FU hAs hAl hbl Wg @List.length_map.{0,0}) ?_;refine wdG fI (A6 FU hAs hAl hbl Wg @List.length_map.{0,0}) ?_;refine dE ?_;refine AWp.cutP 6 [(0,.pt 0 0),(2,.pt 1 0),(3,.pt 2 0)] [.box [.sl (ts.map tkV) .ro,(.im (.int .i64 ((a4:Nat)))),(.im (.int .i64 ((0:Nat))))],.box [.sl [] .nl,.sl [] .nl,.sl [] .nl],.box [.sl (((⟨u.globals,u.data,B⟩:Un)).globals.map vaV) (.mine 3),.sl (((⟨u.globals,u.data,B⟩:Un)).data.map scV) (.mine 4),.sl (((⟨u.globals,u.data,B⟩:Un)).funcs.map fnV) (.mine 5)],.tip 96 6 ((⟨u.globals,u.data,B⟩:Un)).globals.length,.tip 76 5 ((⟨u.globals,u.data,B⟩:Un)).data.length,.tip 37 3 ((⟨u.globals,u.data,B⟩:Un)).funcs.length] jC ?_;exact ih (by omega) ⟨u.globals,u.data,B⟩ a4 (by show u.globals.length≤a4;omega) (by show u.data.length≤a4;omega) (by show B.length≤a4;omega) h4
 rw[Bool.not_eq_true]at hk
 rw[hk]at hs3
 refine aA [0] hs3 TI jC mJ ?_
 refine goG fI TI ?_
 refine wG fI TI ?_
 cases h
 exact PA.callP [0] hfl TI jC mJ (fun _=>PFin.i rfl rfl)
def pP:=A3 @Mo @pW @sT
theorem Xb:Catch Tryz.prog 76 61:=by
 refine Catch.of (N:=19) Tryz.func76 rfl (by decide) rfl rfl rfl Tryz.results76 (fun u v a b=> ?_) (fun u v=> ?_)
 ·refine wG pP TI ?_
  refine uT false ?_;refine goG pP TI ?_;refine wG pP TI ?_;refine Uz ?_;refine goG pP TI ?_;refine wG pP TI ?_;exact⟨rfl,rfl⟩
 ·refine wG pP TI ?_
  refine uT true ?_;refine goG pP TI ?_;refine wG pP TI ?_;exact⟨rfl,rfl⟩
def prsV{α:Type}(val:α→V)(zero:V):Rs α→V
 | .ok x _ _=> .tu [val x,.ag [(.im (.int .i64 (0))),(.im (.int .i64 (0)))]]
 | .bad b e=> .tu [zero,.ag [(.im (.int .i64 ((b:Nat)))),(.im (.int .i64 (e)))]]
def yQ:=A3 @fE @kH @dP
def qM:=A4 aX bD @aE @aD
def Gh:=A4 fA fB @aS @aT
theorem Wu{ts:List Tk}(hts:ts.length≤4194304)(f:Nat)(r:Rs Ex)(h:exM ts f (.ex 1) 0 0=some r):XC Tryz.prog 58 [.pt 0 0] ts 0 0 exV r:=by
 cases r with
 | bad b e =>
  refine XC.enter 5 Tryz.func58 rfl (by decide) rfl rfl (s:=[(0,.pt 0 0)]) (by rfl) ?_
  refine wG yQ TI ?_;exact PA.callP [0] ((wH hts f 1 0 0 (by decide) (by decide) _ h).fails) i1 qM Gh (fun _=>PFin.i rfl rfl)
 | ok x b p =>
  refine XC.enter 5 Tryz.func58 rfl (by decide) rfl rfl (s:=[(0,.pt 0 0)]) (by rfl) ?_
  refine wG yQ TI ?_;refine aA [0] ((wH hts f 1 0 0 (by decide) (by decide) _ h).good) i1 qM Gh ?_
  refine goG yQ BN01 ?_;refine wG yQ BN01 ?_;refine aR (rs:=[.cell 2 46]) rfl (by first|exact .inl rfl|exact .inr rfl) (finG yQ) ?_ rfl (idG qM)
  rw[bI x]
  all_goals exact wkG qM
def nU:=A14 @cO @fE @Mo @Rg @kH @pW @pV @fX @Qx @Mk @gZ @cN @dP @sT
theorem Jd{ts:List Tk}(hts:ts.length≤4194304)(f:Nat)(z:Rs Ex)(hz:allM ts (exM ts f (.ex 1) 0 0)=some z):PC Tryz.prog 57 [.sl (ts.map tkV) .ro,.fn (.func 58) [] []] (prsV exV (exV (.mk 0 0 ByteArray.empty 0 [])) z):=by
 refine Gg (s:=[(0,.sl (ts.map tkV) .ro),(1,.fn (.func 58) [] [])]) (s1:=[(0,.sl (ts.map tkV) .ro),(1,.fn (.func 58) [] []),(4,.pt 0 0),(5,.pt 1 0)]) (l1:=[.box [(.im (.int .i64 (0))),.im (.int .u32 0),.im (.string ByteArray.empty),(.im (.int .i64 (0))),.sl [] .nl],.box [(.im (.int .i64 (0))),(.im (.int .i64 (0)))]]) 1 25 Xb Tryz.func57 rfl (by decide) rfl rfl rfl ?_ rfl ?_
 ·rw[EF]
  refine goG nU TI ?_;exact⟨(fun e=>by cases e),rfl,rfl⟩
 rcases aV hz with ⟨b1,e1,h1,rfl⟩|⟨x,a1,o1,h1,h⟩
 ·refine wG nU TI ?_
  refine PA.callS [2] ((Wu hts f _ h1).fails) TI qM Gh ?_;show FinD _ _ _ _ _ _ ⟨_,ofl [.box [(.im (.int .i64 (0))),.im (.int .u32 0),.im (.string ByteArray.empty),(.im (.int .i64 (0))),.sl [] .nl],.box [(.im (.int .i64 (0))),(.im (.int .i64 (0)))],.box (List.replicate 3 .dead)]⟩
  refine FinD.pan 1 (by simp) rfl ?_
  refine aG (rs:=[.cell 4 46,.cell 5 61]) rfl (by first|exact .inl rfl|exact .inr rfl) (finG nU) ?_
  all_goals exact wkG qM
 refine wG nU TI ?_
 refine aA [2] ((Wu hts f _ h1).good) TI qM Gh ?_
 refine goG nU BN01 ?_
 rcases aI h with ⟨hlt,h⟩|⟨hlt,h⟩
 ·have hl:(a1:Int)<(ts.length:Int):=by omega
  cases h
  refine wG nU (AI hl @List.length_map.{0,0}) ?_;refine PA.callS [2] (oS ts a1 o1 3) TI qM Gh ?_;show FinD _ _ _ _ _ _ ⟨_,ofl [.box [(.im (.int .i64 (0))),.im (.int .u32 0),.im (.string ByteArray.empty),(.im (.int .i64 (0))),.sl [] .nl],.box [(.im (.int .i64 (0))),(.im (.int .i64 (0)))],.box (List.replicate 3 .dead),_]⟩
  refine FinD.pan 1 (by simp) rfl ?_
  refine aG (rs:=[.cell 4 46,.cell 5 61]) rfl (by first|exact .inl rfl|exact .inr rfl) (finG nU) ?_
  all_goals exact wkG qM
 ·have hl: ¬(a1:Int)<(ts.length:Int):=by omega
  cases h
  refine wG nU (A3 hl @List.length_map.{0,0} BN01) ?_;refine FinD.ret 1 rfl ?_;refine aG (rs:=[.cell 4 46,.cell 5 61]) rfl (by first|exact .inl rfl|exact .inr rfl) (finG nU) ?_
  show WkF _ _ _ (.tu [exV x,.ag [(.im (.int .i64 (0))),(.im (.int .i64 (0)))]]);rw[bI x]
  all_goals exact wkG qM
def At:=A10 aX bD @aQ @aO gA eO oN kL aH tQ
def Up:=A10 fA fB @bF @bE nQ pF La Lb bK LE
def UNT:=A6 @CV @Yb @CT @CS @CU @Yc
def nV:=A14 @pY @cO @Mo @Rg @tD @pW @pV @fX @Qx @Mk @gZ @nY @cN @sT
theorem vT{ts:List Tk}(hts:ts.length≤4194304)(hok: ∀t∈ts,TkOk t)(f:Nat)(z:Rs Un)(hz:allM ts (uniM ts f ⟨[],[],[]⟩ 0 0)=some z):PC Tryz.prog 33 [.sl (ts.map tkV) .ro,.fn (.func 34) [] []] (prsV unV (unV ⟨[],[],[]⟩) z):=by
 refine Gg (s:=[(0,.sl (ts.map tkV) .ro),(1,.fn (.func 34) [] [])]) (s1:=[(0,.sl (ts.map tkV) .ro),(1,.fn (.func 34) [] []),(4,.pt 0 0),(5,.pt 1 0)]) (l1:=[.box [.sl [] .nl,.sl [] .nl,.sl [] .nl],.box [(.im (.int .i64 (0))),(.im (.int .i64 (0)))]]) 1 25 Xb Tryz.func33 rfl (by decide) rfl rfl rfl ?_ rfl ?_
 ·rw[EF]
  refine goG nV TI ?_;exact⟨(fun e=>by cases e),rfl,rfl⟩
 rcases aV hz with ⟨b1,e1,h1,rfl⟩|⟨x,a1,o1,h1,h⟩
 ·refine wG nV TI ?_
  refine PA.callS [2] ((II hts hok _ h1).fails) TI At Up ?_;show FinD _ _ _ _ _ _ ⟨_,ofl [.box [.sl [] .nl,.sl [] .nl,.sl [] .nl],.box [(.im (.int .i64 (0))),(.im (.int .i64 (0)))],.box (List.replicate 3 .dead)]⟩
  refine FinD.pan 1 (by simp) rfl ?_
  refine aG (rs:=[.cell 4 27,.cell 5 61]) rfl (by first|exact .inl rfl|exact .inr rfl) (finG nV) ?_
  all_goals exact wkG At
 refine wG nV TI ?_
 refine aA [2] ((II hts hok _ h1).good) TI At Up ?_
 refine goG nV UNT ?_
 rcases aI h with ⟨hlt,h⟩|⟨hlt,h⟩
 ·have hl:(a1:Int)<(ts.length:Int):=by omega
  cases h
  refine wG nV (AI hl @List.length_map.{0,0}) ?_;refine PA.callS [2] (oS ts a1 o1 3) TI At Up ?_;show FinD _ _ _ _ _ _ ⟨_,ofl [.box [.sl [] .nl,.sl [] .nl,.sl [] .nl],.box [(.im (.int .i64 (0))),(.im (.int .i64 (0)))],.box (List.replicate 3 .dead),_]⟩
  refine FinD.pan 1 (by simp) rfl ?_
  refine aG (rs:=[.cell 4 27,.cell 5 61]) rfl (by first|exact .inl rfl|exact .inr rfl) (finG nV) ?_
  all_goals exact wkG At
 ·have hl: ¬(a1:Int)<(ts.length:Int):=by omega
  cases h
  refine wG nV (A3 hl @List.length_map.{0,0} UNT) ?_;refine FinD.ret 1 rfl ?_;refine aG (rs:=[.cell 4 27,.cell 5 61]) rfl (by first|exact .inl rfl|exact .inr rfl) (finG nV) ?_
  show WkF _ _ _ (.tu [unV x,.ag [(.im (.int .i64 (0))),(.im (.int .i64 (0)))]]);rw[kJ x]
  all_goals exact wkG At
def sJ:=A16 @cO @nB @iA @fE @dT @gJ @oG @Az @wD @Ay @lM @cN @nA @hX @dP @dC
theorem Uc: ∀(a:Ex),fitE a→ ∀b,fitE b→PC Tryz.prog 24 [exV a,exV b] (.im (.bool (samE a b))):=by
 refine Ex.induct fun o k s w l hL=> ?_
 intro hfit b hfb
 obtain⟨o',k',s',w',l'⟩:=b
 obtain⟨hl1,hfL⟩:=nS hfit
 obtain⟨hl2,hfL'⟩:=nS hfb
 rw[Vo]
 simp only[Ex.op,Ex.n,Ex.name,Ex.width,Ex.l]
 refine PC.enter 60 Tryz.func24 rfl (by decide) rfl rfl (s:=[(0,exV (.mk o k s w l)),(1,exV (.mk o' k' s' w' l'))]) (by rfl) ?_
 simp only[gR]
 refine wG sJ TI ?_
 refine cY rfl rfl (fun hE=> ?_) (fun hE=> ?_)
 ·have hr:(o==o'&&k==k'&&eqS s s'&&w==w'&&all2 samE l l')=false:=by
   simp only[Bool.or_eq_true,bne_iff_ne,ne_eq,Bool.not_eq_true',decide_eq_false_iff_not,beq_eq_false_iff_ne]at hE;rcases hE with (((hE|hE)|hE)|hE)|hE
   ·simp[hE]
   ·simp[hE]
   ·have:eqS s s'=false:=by unfold eqS;simpa using hE
    simp[this]
   ·simp[hE]
   ·rw[PH (by omega)];simp
  rw[hr];refine wG sJ TI ?_;exact aC
 ·simp only[Bool.or_eq_false_iff,bne_eq_false_iff_eq,beq_iff_eq,Bool.not_eq_false',decide_eq_true_eq]at hE
  obtain⟨⟨⟨⟨rfl,rfl⟩,hs⟩,rfl⟩,h4⟩:=hE;obtain rfl:s=s':=(vO s s').1 (by unfold eqS;simpa using hs)
  have h4:l.length=l'.length:=by omega
  have hr:(o==o&&k==k&&eqS s s&&w==w&&all2 samE l l')=all2 samE l l':=by simp[Pf]
  rw[hr];clear hr hs;refine wG sJ TI ?_;refine aP ?_;refine ALp.cutP 2 [(2,.pt 0 0),(3,.pt 1 0),(5,(.im (.int .i64 ((((0:Nat)):Int)))))] [.box [.im (.int .i64 o),.im (.int .u32 k),.im (.string s),.im (.int .i64 w),.sl (l.map exV) .ro],.box [.im (.int .i64 o),.im (.int .u32 k),.im (.string s),.im (.int .i64 w),.sl (l'.map exV) .ro]] (A4 @aD @aO @aE @aQ) ?_;refine ALp.upto l.length (to2 samE l l') (fun m=>⟨dn 60 [(2,.pt 0 0),(3,.pt 1 0),(5,(.im (.int .i64 ((((m:Nat)):Int)))))],ofl [.box [.im (.int .i64 o),.im (.int .u32 k),.im (.string s),.im (.int .i64 w),.sl (l.map exV) .ro],.box [.im (.int .i64 o),.im (.int .u32 k),.im (.string s),.im (.int .i64 w),.sl (l'.map exV) .ro]]⟩) ?_ 0 (Nat.zero_le _) (to2.zero _ _ _)
  intro m hm hI hnext
  by_cases hlt:m<l.length
  ·have hlt2:m<l'.length:=by omega
   have hlt':(m:Int)<(l.length:Int):=by omega
   have hlt2':(m:Int)<(l'.length:Int):=by omega
   have hg:=bB hlt;have hg2:=bB hlt2;have hm1:=aL hlt (by omega)
   have hc:=hL l[m] (List.getElem_mem hlt) (hfL _ (List.getElem_mem hlt)) l'[m] (hfL' _ (List.getElem_mem hlt2));refine wdG sJ (A5 hlt' hlt2' hg hg2 EX) ?_;refine AR.callP hc @bI (A4 @aD @aO @aE @aQ) ?_;cases hs:samE l[m] l'[m]with
   | false =>
    rw[PI hlt hlt2 hs];refine goG sJ hs ?_;refine wdG sJ TI ?_;exact aC
   | true =>
    refine goG sJ hs ?_;refine wdG sJ hm1 ?_;refine ALp.cutP 2 [(2,.pt 0 0),(3,.pt 1 0),(5,(.im (.int .i64 ((((m+1:Nat)):Int)))))] [.box [.im (.int .i64 o),.im (.int .u32 k),.im (.string s),.im (.int .i64 w),.sl (l.map exV) .ro],.box [.im (.int .i64 o),.im (.int .u32 k),.im (.string s),.im (.int .i64 w),.sl (l'.map exV) .ro]] (A4 @aD @aO @aE @aQ) ?_;exact hnext (m+1) (by omega) (by omega) (hI.succ hlt hlt2 hs)
  obtain rfl:m=l.length:=by omega
  rw[hI.all h4];clear hnext hI;refine wG sJ @Int.lt_irrefl ?_;exact aC
end Go.Proofs.YtmbmmckagcdapaaGreatDoor
