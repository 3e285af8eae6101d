import Derived.Test.YtmbmmckagcdapaaGreatDoorL13
import Derived.Test.YtmbmmckagcdapaaGreatDoorL33
import Derived.Test.YtmbmmckagcdapaaGreatDoorL23
import Derived.Test.YtmbmmckagcdapaaGreatDoorL12
import Derived.Test.YtmbmmckagcdapaaGreatDoorL20
import Derived.Test.YtmbmmckagcdapaaGreatDoorL34
import Derived.Lib.SmallJoins
import Derived.Test.YtmbmmckagcdapaaGreatDoorL10
import Derived.Test.YtmbmmckagcdapaaGreatDoorL14
import Derived.Test.YtmbmmckagcdapaaGreatDoorL30
import Derived.Test.YtmbmmckagcdapaaGreatDoorL21
import Derived.Test.YtmbmmckagcdapaaGreatDoorL26
import Derived.Test.YtmbmmckagcdapaaGreatDoorL04
set_option linter.all false
namespace Go.Proofs.YtmbmmckagcdapaaGreatDoor
open Go.RowKit
def fnE:List ByteArray→List Fun→Int
 | _,[]=>0
 | sn,f::r=>if !nameT f.name then 3 else if sn.any (fun x=>eqS f.name x)then 8 else fnE (sn++[f.name]) r
theorem EV{l:List Fun}{m:Nat}(h:m<l.length):fnE ((l.take m).map Fun.name) (l.drop m)=if !nameT l[m].name then 3 else if((l.take m).map Fun.name).any (fun x=>eqS l[m].name x)then 8 else fnE ((l.take (m+1)).map Fun.name) (l.drop (m+1)):=by
 rw[List.drop_eq_getElem_cons h,fnE,List.take_succ_eq_append_getElem h,List.map_append]
 rfl
def bdE(gs:List Va)(fs:List ByteArray):List Fun→Int
 | []=>0
 | f::r=>if bodyE gs f fs=0 then bdE gs fs r else bodyE gs f fs
def unE(u:Un):Int :=
 if 256<u.globals.length∨16<u.data.length∨64<u.funcs.length then 6 else if u.funcs.length=0 then 17 else if vErr [] u.globals≠0 then vErr [] u.globals else if dErr [] u.data≠0 then dErr [] u.data
 else if fnE [] u.funcs≠0 then fnE [] u.funcs else bdE u.globals (u.funcs.map Fun.name) u.funcs
structure fitFn (f:Fun):Prop where
 vl:f.vars.length≤2097152
 vn:xQ f.vars
 bd:fitNL f.body
 ct:cnt f.body≤4194304
 nm:f.name.size≤9223372036854775807
structure fitU (u:Un):Prop where
 gl:u.globals.length≤2097152
 gn:xQ u.globals
 dl:u.data.length≤4194304
 dn:EZ u.data
 fl:u.funcs.length≤4194304
 fn: ∀f∈u.funcs,fitFn f
def dR:=A16 @lT @Wd @Lr @yM @sL @eC @vQ @mG @Tl @kC @Bv @Li @jN @qY @Ac (A10 @vP @vO @kB @Lg @Br @vI @nN @yE @dD @jM)
set_option maxHeartbeats 2000000 in
theorem Ph(u:Un)(hu:fitU u):PC Tryz.prog 15 [unV u] (.im (.int .i64 (unE u))):=by
 have h1:=xV [] u.globals (by have:=hu.gl;simp;omega) hu.gn
 have h2:=SN u.data hu.dl hu.dn
 have hgl:=hu.gl
 have hfl:=hu.fl
 unfold unE
 rw[List.map_nil]at h1
 refine PC.enter 79 Tryz.func15 rfl (by decide) rfl rfl (s:=[(0,unV u)]) (by rfl) ?_
 simp only[sZ]
 refine wG dR @List.length_map.{0,0} ?_
 refine cX rfl rfl (fun hE=> ?_) (fun hE=> ?_)
 ·have q:256<u.globals.length∨16<u.data.length∨64<u.funcs.length:=by
   simp only[Bool.or_eq_true,decide_eq_true_eq]at hE;omega
  rw[if_pos q];refine wG dR TI ?_;exact aC
 have q: ¬(256<u.globals.length∨16<u.data.length∨64<u.funcs.length):=by
  simp only[Bool.or_eq_false_iff,decide_eq_false_iff_not]at hE;omega
 rw[if_neg q]
 by_cases b0:u.funcs.length=0
 ·have b0':(u.funcs.length:Int)=0:=by omega
  rw[if_pos b0];refine wG dR (AI b0' @List.length_map.{0,0}) ?_;exact aC
 have b0': ¬(u.funcs.length:Int)=0:=by omega
 rw[if_neg b0]
 refine wG dR (AI b0' @List.length_map.{0,0}) ?_
 refine dE h1 TI BN04 ?_
 by_cases b1:vErr [] u.globals=0
 case neg =>
  rw[if_pos b1];refine goG dR b1 ?_;refine wG dR b1 ?_;exact aC
 rw[if_neg (by simp[b1]),b1]
 refine goG dR TI ?_
 refine wG dR TI ?_
 refine AR.callP h2 TI BN04 ?_
 by_cases b2:dErr [] u.data=0
 case neg =>
  rw[if_pos b2];refine goG dR b2 ?_;refine wG dR b2 ?_;exact aC
 rw[if_neg (by simp[b2]),b2]
 refine goG dR TI ?_
 refine wG dR @List.length_map.{0,0} ?_
 refine aV ?_
 refine ALp.ghost 5 [] .nl 9 1 ?_
 refine ALp.cutP 2 [(1,.pt 0 0),(5,.sl (((u.funcs.take (0)).map Fun.name).map tsV) (.own 1)),(44,.sl (u.funcs.map fnV) .ro),(45,(.im (.int .i64 (u.funcs.length)))),(46,(.im (.int .i64 ((((0:Nat)):Int)))))] [.box [.sl (u.globals.map vaV) .ro,.sl (u.data.map scV) .ro,.sl (u.funcs.map fnV) .ro],.tip 9 1 ((u.funcs.take (0)).map Fun.name).length] BN04 ?_
 refine ALp.upto u.funcs.length (fun m=>fnE ((u.funcs.take (m)).map Fun.name) (u.funcs.drop m)=fnE [] u.funcs) (fun m=>⟨dn 79 [(1,.pt 0 0),(5,.sl (((u.funcs.take (m)).map Fun.name).map tsV) (.own 1)),(44,.sl (u.funcs.map fnV) .ro),(45,(.im (.int .i64 (u.funcs.length)))),(46,(.im (.int .i64 ((((m:Nat)):Int)))))],ofl [.box [.sl (u.globals.map vaV) .ro,.sl (u.data.map scV) .ro,.sl (u.funcs.map fnV) .ro],.tip 9 1 ((u.funcs.take (m)).map Fun.name).length]⟩) ?_ 0 (Nat.zero_le _) rfl
 intro m hm hV hnext
 by_cases hlt:m<u.funcs.length
 ·have hlt':(m:Int)<(u.funcs.length:Int):=by omega
  have hm1:=aP hlt (by omega)
  have hg:=bE hlt;have hf:=hu.fn _ (List.getElem_mem hlt);have h3:=wK u.funcs[m].name hf.nm;have hnl:((u.funcs.take (m)).map Fun.name).length=m:=by rw[List.length_map,List.length_take];omega
  have h4:=pD ((u.funcs.take (m)).map Fun.name) (by omega) u.funcs[m].name
  have hn2:=hnext (m+1) (by omega) (by omega)
  rw[EV hlt]at hV
  have hap:((u.funcs.take (m)).map Fun.name).map tsV++[.im (.string u.funcs[m].name)]=((u.funcs.take (m+1)).map Fun.name).map tsV:=by
   rw[List.map_map,List.map_map];exact Gk (tsV∘Fun.name) hlt
  have hnl1:((u.funcs.take (m+1)).map Fun.name).length=m+1:=by rw[List.length_map,List.length_take];omega
  have hln:((u.funcs.take (m)).map Fun.name).length+1=((u.funcs.take (m+1)).map Fun.name).length:=by omega
  have hA:((u.funcs.take (m+1)).map Fun.name).length*16≤140737488355328:=by omega
  generalize ((u.funcs.take (m)).map Fun.name)=n0 at h4 hV hap hln ⊢;generalize ((u.funcs.take (m+1)).map Fun.name)=n1 at hV hap hln hA hn2 ⊢;cases b3:nameT u.funcs[m].name with
  | false =>
   rw[b3]at h3 hV;simp only[Bool.not_false,if_true]at hV;rw[←hV,if_pos (by decide)]
   refine wG dR (A3 hlt' hg FU) ?_;refine AR.callP h3 TI BN04 ?_;refine goG dR TI ?_;refine wG dR TI ?_;exact aC
  | true =>
  rw[b3]at h3 hV;simp only[Bool.not_true,Bool.false_eq_true,if_false]at hV;cases b4:n0.any fun x=>eqS u.funcs[m].name x with
  | true =>
   rw[b4]at h4 hV;simp only[if_true]at hV;rw[←hV,if_pos (by decide)]
   refine wG dR (A3 hlt' hg FU) ?_;refine AR.callP h3 TI BN04 ?_;refine goG dR TI ?_;refine wG dR TI ?_;refine dE h4 TI BN04 ?_;refine goG dR TI ?_;refine wG dR TI ?_;exact aC
  | false =>
   rw[b4]at h4 hV;simp only[Bool.false_eq_true,if_false]at hV;refine wG dR (A3 hlt' hg FU) ?_;refine AR.callP h3 TI BN04 ?_;refine goG dR TI ?_;refine wG dR TI ?_;refine dE h4 TI BN04 ?_;refine goG dR TI ?_;refine wG dR (A5 hap hln hA hm1 @List.length_map.{0,0}) ?_;refine ALp.cutP 2 [(1,.pt 0 0),(5,.sl (n1.map tsV) (.own 1)),(44,.sl (u.funcs.map fnV) .ro),(45,(.im (.int .i64 (u.funcs.length)))),(46,(.im (.int .i64 ((((m+1:Nat)):Int)))))] [.box [.sl (u.globals.map vaV) .ro,.sl (u.data.map scV) .ro,.sl (u.funcs.map fnV) .ro],.tip 9 1 n1.length] BN04 ?_;exact hn2 hV
 obtain rfl:m=u.funcs.length:=by omega
 clear hnext
 rw[List.take_length,List.drop_length]at hV
 have hV:fnE [] u.funcs=0:=by rw[←hV];cases u.funcs.map Fun.name<;>rfl
 rw[if_neg (by simp[hV]),List.take_length]
 have hfn:(u.funcs.map Fun.name).length≤4194304:=by rw[List.length_map];exact hfl
 generalize u.funcs.map Fun.name=fs at hfn ⊢
 refine whG dR @Int.lt_irrefl ?_
 refine Blk'.here (Thn.n ?_)
 refine wG dR @List.length_map.{0,0} ?_
 refine aV ?_
 refine ALp.cutP 2 [(1,.pt 0 0),(5,.sl (fs.map tsV) (.own 1)),(65,.sl (u.funcs.map fnV) .ro),(66,(.im (.int .i64 (u.funcs.length)))),(67,(.im (.int .i64 ((((0:Nat)):Int)))))] [.box [.sl (u.globals.map vaV) .ro,.sl (u.data.map scV) .ro,.sl (u.funcs.map fnV) .ro],.tip 9 1 fs.length] BN04 ?_
 refine ALp.upto u.funcs.length (fun m=>bdE u.globals fs (u.funcs.drop m)=bdE u.globals fs u.funcs) (fun m=>⟨dn 79 [(1,.pt 0 0),(5,.sl (fs.map tsV) (.own 1)),(65,.sl (u.funcs.map fnV) .ro),(66,(.im (.int .i64 (u.funcs.length)))),(67,(.im (.int .i64 ((((m:Nat)):Int)))))],ofl [.box [.sl (u.globals.map vaV) .ro,.sl (u.data.map scV) .ro,.sl (u.funcs.map fnV) .ro],.tip 9 1 fs.length]⟩) ?_ 0 (Nat.zero_le _) rfl
 intro m hm hV hnext
 rw[←hV]
 by_cases hlt:m<u.funcs.length
 ·have hlt':(m:Int)<(u.funcs.length:Int):=by omega
  have hm1:=aP hlt (by omega)
  have hg:=bE hlt;have hf:=hu.fn _ (List.getElem_mem hlt);have hb:=SO u u.funcs[m] fs hgl hf.vl hf.vn hf.bd hf.ct hfn;have hd:u.funcs.drop m=u.funcs[m]::u.funcs.drop (m+1):=List.drop_eq_getElem_cons hlt;rw[hd]at hV ⊢;have hs:bdE u.globals fs (u.funcs[m]::u.funcs.drop (m+1))=if bodyE u.globals u.funcs[m] fs=0 then bdE u.globals fs (u.funcs.drop (m+1))else bodyE u.globals u.funcs[m] fs:=rfl
  rw[hs]at hV ⊢
  by_cases b:bodyE u.globals u.funcs[m] fs=0
  ·rw[if_pos b]at hV ⊢
   rw[b]at hb;refine wG dR (A3 hlt' hg FU) ?_;refine dE hb (AI sZ kU) BN04 ?_;refine goG dR TI ?_;refine wG dR hm1 ?_;refine ALp.cutP 2 [(1,.pt 0 0),(5,.sl (fs.map tsV) (.own 1)),(65,.sl (u.funcs.map fnV) .ro),(66,(.im (.int .i64 (u.funcs.length)))),(67,(.im (.int .i64 ((((m+1:Nat)):Int)))))] [.box [.sl (u.globals.map vaV) .ro,.sl (u.data.map scV) .ro,.sl (u.funcs.map fnV) .ro],.tip 9 1 fs.length] BN04 ?_;rw[hV];exact hnext (m+1) (by omega) (by omega) hV
  ·rw[if_neg b]
   refine wG dR (A3 hlt' hg FU) ?_;refine dE hb (AI sZ kU) BN04 ?_;refine goG dR b ?_;refine wG dR b ?_;exact aC
 obtain rfl:m=u.funcs.length:=by omega
 clear hnext
 rw[List.drop_length]
 refine wG dR @Int.lt_irrefl ?_
 exact aC
end Go.Proofs.YtmbmmckagcdapaaGreatDoor
namespace Go.Proofs.YtmbmmckagcdapaaGreatDoor
open Go.RowKit
variable {H:Type}
theorem EH{α:Type}{G:α→V}{Q:α→Prop}{μ:α→Nat}{es:List (DataW H)}(h: ∀x∈es,∃a,dV x=G a∧Q a∧μ a≤Rows.uptoBulk x): ∃l:List α,dVL es=l.map G∧l.length=es.length∧(∀a∈l,Q a)∧(l.map μ).sum≤Rows.uptoBulkAll es:=by
 induction es with
 | nil=>exact⟨[],by simp[dVL],rfl,(fun a ha=>by cases ha),by simp⟩
 | cons x r ih =>
  obtain⟨a,h1,h2,h6⟩:=h x (by simp)
  obtain⟨l,h3,h4,h5,h7⟩:=ih fun y hy=>h y (by simp[hy])
  refine⟨a::l,by simp[dVL,h1,h3],by simp[h4],fun b hb=> ?_,?_⟩
  ·rcases List.mem_cons.1 hb with rfl|hb
   ·exact h2
   ·exact h5 b hb
  ·simp only[List.map_cons,List.sum_cons,Rows.uptoBulkAll]
   omega
theorem yS{P:Program}{α:Type}{G:α→V}{Q:α→Prop}{μ:α→Nat}{d:DataW H}{t e:TypeId}(hd:Rd P t d)(ht:eX P t=some e)(h: ∀x:DataW H,Rows.uptoBulk x<Rows.uptoBulk d→Rd P e x→ ∃a,dV x=G a∧Q a∧μ a≤Rows.uptoBulk x) :
  ∃l:List α,dV d= .sl (l.map G) .ro∧l.length≤Rows.uptoBulk d∧(∀a∈l,Q a)∧(l.map μ).sum+1≤Rows.uptoBulk d:=by
 rcases hd.slice_inv ht with rfl|⟨es,sp,rfl,hes⟩
 ·exact⟨[],by simp[dV],by simp,(fun a ha=>by cases ha),by simp[Rows.uptoBulk]⟩
 ·have h0:=Vs es sp
  obtain⟨l,h1,h2,h3,h4⟩:=EH (G:=G) (Q:=Q) (μ:=μ) (es:=es) fun x hx=>h x (by have:=Pn hx;omega) (hes x hx)
  refine⟨l,by simp[dV,h1],?_,h3,by omega⟩
  have:=Po es;omega
theorem FA{k w:Int}{n:ByteArray}{e:List Ex}{l el:List Nd}{cs:List (List Nd)}(h1:I64 k∧I64 w)(h2:n.size≤9223372036854775807)(h3:e.length≤4194304∧l.length≤4194304∧el.length≤4194304∧cs.length≤4194304)
  (h4: ∀x∈e,fitE x) (h5: ∀t∈l,fitN t) (h6: ∀t∈el,fitN t) (h7: ∀c∈cs,fitNL c):fitN (.mk k w n e l el cs):=by
 have q:Od (.mk k w n e l el cs)=_:=Nd.para_mk _ k w n e l el cs
 show Od (.mk k w n e l el cs)=true
 rw[q]
 simp only[Bool.and_eq_true,Nd.kind,Nd.width,Nd.name,Nd.e,Nd.l,Nd.el,Nd.cs,List.all_map,List.all_eq_true]
 exact⟨⟨⟨⟨⟨⟨⟨decide_eq_true h1,decide_eq_true h2⟩,decide_eq_true h3⟩,h4⟩,fun c hc=>decide_eq_true (h7 c hc).1⟩,h5⟩,h6⟩,fun c hc=>by
  simp only[Function.comp,List.all_map,List.all_eq_true]
  exact(h7 c hc).2⟩
theorem WE:Nw Tryz.prog 165=some [3,3,9,44,35,35,163]:=by kernel_rfl
theorem OF:eX Tryz.prog 35=some 165:=by kernel_rfl
theorem VT:eX Tryz.prog 163=some 35:=by kernel_rfl
theorem WF:Nw Tryz.prog 37=some [9,23,35]:=by kernel_rfl
theorem TZ: ∀(N:Nat) (d:DataW H),Rows.uptoBulk d≤N→N≤4194304→Rd Tryz.prog 165 d→ ∃t:Nd,dV d=ndV t∧fitN t∧cntT t≤Rows.uptoBulk d:=by
 intro N
 induction N using Nat.strongRecOn with
 | _ N ih =>
  intro d hb hN hd;obtain⟨ps,rfl,hps⟩:=hd.agg_inv WE
  match ps,hps with
  | [d1,d2,d3,d4,d5,d6,d7],⟨h1,h2,h3,h4,h5,h6,h7,_⟩ =>
   obtain⟨k,rfl,hk⟩:=h1.int_inv An;obtain⟨w,rfl,hw⟩:=h2.int_inv An;obtain⟨s,rfl,hs⟩:=h3.string_inv Tryz.underlying9;simp only[Rows.uptoBulk,Rows.uptoBulkAll]at hb
   have hL: ∀x:DataW H,Rows.uptoBulk x<N→Rd Tryz.prog 35 x→ ∃l:List Nd,dV x= .sl (l.map ndV) .ro∧l.length≤Rows.uptoBulk x∧(∀a∈l,fitN a)∧(l.map cntT).sum+1≤Rows.uptoBulk x:=fun x hx hr =>
    yS (G:=ndV) (Q:=fitN) (μ:=cntT) hr OF fun y hy hry=>ih (Rows.uptoBulk y) (by omega) y (Nat.le_refl _) (by omega) hry
   obtain⟨es,e1,e2,e3⟩:=tE (G:=exV) (Q:=fitE) h4 OG fun x hx hr=>UB _ x (Nat.le_refl _) (by omega) hr
   obtain⟨l,l1,l2,l3,l4⟩:=hL d5 (by omega) h5
   obtain⟨el,m1,m2,m3,m4⟩:=hL d6 (by omega) h6
   obtain⟨cs,c1,c2,c3,c4⟩:=yS (G:=nlV) (Q:=fitNL) (μ:=cnt) h7 VT fun x hx hr=>by
    obtain⟨q,q1,q2,q3,q4⟩:=hL x (by omega) hr
    exact⟨q,q1,⟨by omega,q3⟩,by unfold cnt;omega⟩
   refine⟨.mk k w s es l el cs,?_,FA ⟨uB hk,uB hw⟩ (Nat.le_trans hs (by decide)) ⟨by omega,by omega,by omega,by omega⟩ e3 l3 m3 c3,?_⟩
   ·simp only[dV,dVF,e1,l1,m1,c1,eN,V.cells,List.append_nil,List.cons_append,List.nil_append]
   ·rw[mI]
    simp only[subs,Nd.l,Nd.el,Nd.cs,List.map_cons,List.sum_cons,Rows.uptoBulk,Rows.uptoBulkAll];unfold cnt at c4 ⊢;omega
theorem TX(d:DataW H)(hb:Rows.uptoBulk d≤4194304)(hd:Rd Tryz.prog 35 d): ∃l:List Nd,dV d= .sl (l.map ndV) .ro∧fitNL l∧cnt l≤Rows.uptoBulk d:=by
 obtain⟨l,h1,h2,h3,h4⟩:=yS (G:=ndV) (Q:=fitN) (μ:=cntT) hd OF fun y hy hry=>TZ _ y (Nat.le_refl _) (by omega) hry
 exact⟨l,h1,⟨by omega,h3⟩,by unfold cnt;omega⟩
theorem TV(d:DataW H)(hb:Rows.uptoBulk d≤1048576)(hd:Rd Tryz.prog 23 d): ∃vs:List Va,dV d= .sl (vs.map vaV) .ro∧vs.length≤2097152∧xQ vs:=by
 obtain⟨l,e1,e2,e3⟩:=tE (G:=vaV) (Q:=fun v:Va=>fit v.ty∧v.name.size≤9223372036854775807) hd VQ fun x hx hr=>by
  obtain⟨ps,rfl,hps⟩:=hr.agg_inv WC
  match ps,hps with
  | [d1,d2],⟨h1,h2,_⟩ =>
   obtain⟨s,rfl,hs⟩:=h1.string_inv Tryz.underlying9;simp only[Rows.uptoBulk,Rows.uptoBulkAll]at hx;obtain⟨t,q1,q2,_⟩:=TW _ d2 (Nat.le_refl _) (by omega) h2
   refine⟨⟨s,t⟩,?_,q2,Nat.le_trans hs (by decide)⟩
   simp only[dV,dVF,q1,bW,sY,V.cells,List.append_nil,List.cons_append,List.nil_append]
 exact⟨l,e1,by omega,e3⟩
theorem UA(d:DataW H)(hb:Rows.uptoBulk d≤1048576)(hd:Rd Tryz.prog 37 d): ∃f:Fun,dV d=fnV f∧fitFn f:=by
 obtain⟨ps,rfl,hps⟩:=hd.agg_inv WF
 match ps,hps with
 | [d1,d2,d3],⟨h1,h2,h3,_⟩ =>
  obtain⟨s,rfl,hs⟩:=h1.string_inv Tryz.underlying9;simp only[Rows.uptoBulk,Rows.uptoBulkAll]at hb;obtain⟨vs,e1,e2,e3⟩:=TV d2 (by omega) h2
  obtain⟨l,l1,l2,l3⟩:=TX d3 (by omega) h3
  refine⟨⟨s,vs,l⟩,?_,⟨e2,e3,l2,Nat.le_trans l3 (by omega),Nat.le_trans hs (by decide)⟩⟩
  simp only[dV,dVF,e1,l1,fnV,V.cells,List.append_nil,List.cons_append,List.nil_append]
end Go.Proofs.YtmbmmckagcdapaaGreatDoor
namespace Go.Proofs.YtmbmmckagcdapaaGreatDoor
open Go.RowKit
def yA:=A4 @Ew @sH @Es @sF
theorem VW:PC Tryz.prog 255 [.im (.int .u64 (16))] (.im (.int .i64 (4))):=by
 refine PC.enter 8 Tryz.func255 rfl (by decide) rfl rfl (s:=[(0,.im (.int .u64 (16)))]) (by rfl) ?_
 refine wG yA TI ?_
 refine Il rfl ?_
 refine wG yA TI ?_
 refine AR.callP RU TI aB ?_
 refine goG yA TI ?_
 refine wG yA TI ?_
 exact aC
theorem SG:PC Tryz.prog 254 [(.im (.int .i64 (16)))] (.im (.bool (true))):=by
 refine PC.enter 8 Tryz.func254 rfl (by decide) rfl rfl (s:=[(0,(.im (.int .i64 (16))))]) (by rfl) ?_
 refine wG TI TI ?_
 exact aC
theorem Hh: ∀(f g n:Nat),n<f→n<g→xM f n=xM g n
 | 0,_,_,h,_=>by omega
 | _,0,_,_,h=>by omega
 | f+1,g+1,n,hf,hg=>by
  rw[xM,xM];split
  ·rfl
  ·rw[Hh f g (n/16) (by omega) (by omega)]
theorem LB{n:Nat}(h:n<16):oD n=[hexD n]:=by
 unfold oD
 rw[xM,if_pos h]
theorem LC{n:Nat}(h: ¬n<16):oD n=oD (n/16)++[hexD (n%16)]:=by
 unfold oD
 rw[xM,if_neg h,Hh n (n/16+1) (n/16) (by omega) (by omega)]
theorem OH(n:Nat)(hn:n<18446744073709551616):IntKind.u64.wrap ↑(BitVec.ofInt IntKind.u64.bits (n:Int)&&&BitVec.ofInt IntKind.u64.bits 15).toNat=((n%16:Nat):Int):=by
 have e:(BitVec.ofInt 64 (n:Int)&&&BitVec.ofInt 64 15).toNat=n%16:=by
  rw[BitVec.toNat_and,BitVec.ofInt_natCast,BitVec.toNat_ofNat,Nat.mod_eq_of_lt (by omega:n<2^64),show(BitVec.ofInt 64 15).toNat=2^4-1 from rfl,Nat.and_two_pow_sub_one_eq_mod]
 show IntKind.u64.wrap ((BitVec.ofInt 64 (n:Int)&&&BitVec.ofInt 64 15).toNat:Int)=_
 rw[e]
 exact IntWalk.u64_in _ (by omega)
theorem JK(n:Nat):((n:Nat):Int).fdiv (2^min 4 IntKind.u64.bits)=((n/16:Nat):Int):=by
 rw[show(2:Int)^min 4 IntKind.u64.bits=16 by decide,Int.fdiv_eq_ediv_of_nonneg _ (by decide)]
 omega
theorem Nr: ∀ {n:Nat},n<16→(48::49::50::51::52::53::54::55::56::57::97::98::99::100::101::102::103::104::105::106::107::108::109::110::111::112::113::114::115::116::117::118::119::120::121::122::[]:Bs)[n]? =some (hexD n):=by
 intro n h
 have: ∀n<16,(48::49::50::51::52::53::54::55::56::57::97::98::99::100::101::102::103::104::105::106::107::108::109::110::111::112::113::114::115::116::117::118::119::120::121::122::[]:Bs)[n]? =some (hexD n):=by decide
 exact this n h
def jU:=A16 @IQ @Ll @IN @Lj @nO @qU @Ew @uF @vJ @zY @wR @qT @Es @uE @sE (AI @vG @iU)
set_option maxHeartbeats 2000000 in
theorem MS(n:Nat)(hn:n<4294967296)(b4:Bool)(hb4:b4=false):PC Tryz.prog 209 [.sl [] .nl,.im (.int .u64 ((n:Int))),(.im (.int .i64 (16))),(.im (.bool (false))),(.im (.bool (b4)))] (.tu [.sl [] .nl,.im (.string ⟨(oD n).toArray⟩)]):=by
 have qp:=SG
 have qz:=VW
 have k16:IntKind.u64.wrap 16=16:=by kernel_rfl
 have k4:IntKind.u64.wrap 4=4:=by kernel_rfl
 have k15:IntKind.u64.wrap 15=15:=by kernel_rfl
 have k36: ¬(16:Int)>36:=by decide
 refine PC.enter 102 Tryz.func209 rfl (by decide) rfl rfl (s:=[(0,.sl [] .nl),(1,.im (.int .u64 ((n:Int)))),(2,(.im (.int .i64 (16)))),(3,(.im (.bool (false)))),(4,(.im (.bool (b4))))]) (by rfl) ?_
 refine wG jU k36 ?_
 refine AR.callP qp TI aB ?_
 refine goG jU TI ?_
 refine wG jU k16 ?_
 refine AR.callP qz TI aB ?_
 refine goG jU TI ?_
 refine wG jU (A3 k16 k4 k15) ?_
 refine aV ?_
 suffices H: ∀(k m:Nat) (Z A:Bs),m=k→m<16^Z.length→m<18446744073709551616→1≤Z.length→Z.length+A.length=65→oD n=oD m++A→ALp _ _ _ _ _ ⟨dn 102 [(1,.im (.int .u64 (((m:Nat):Int)))),(3,(.im (.bool (false)))),(4,(.im (.bool (b4)))),(10,.sl [] .nl),(11,.im (.string ⟨([]).toArray⟩)),(12,.pt 0 0),(13,(.im (.int .i64 ((Z.length:Int))))),(14,.im (.int .u64 (4))),(15,.im (.int .u64 (16))),(16,.im (.int .u64 (15)))],ofl [.box ((Z++A).map byB)]⟩ by
  refine ALp.cutP 1 [(1,.im (.int .u64 ((n:Int)))),(3,(.im (.bool (false)))),(4,(.im (.bool (b4)))),(10,.sl [] .nl),(11,.im (.string ⟨([]).toArray⟩)),(12,.pt 0 0),(13,(.im (.int .i64 (((List.replicate 65 (0:UInt8)).length:Int))))),(14,.im (.int .u64 (4))),(15,.im (.int .u64 (16))),(16,.im (.int .u64 (15)))] [.box (((List.replicate 65 (0:UInt8))++[]).map byB)] aB ?_;exact H n n (List.replicate 65 (0:UInt8)) [] rfl (by rw[List.length_replicate];exact Nat.lt_of_lt_of_le hn (by decide)) (by omega) (by decide) rfl (by simp)
 intro k
 induction k using Nat.strongRecOn with
 | _ k ih =>
 intro m Z A hk hm hm64 hZ hZA hx
 obtain⟨Z',z,rfl⟩: ∃Z' z,Z=Z'++[z]:=⟨Z.dropLast,Z.getLast (fun e=>by rw[e]at hZ;cases hZ),(List.dropLast_concat_getLast _).symm⟩
 rw[List.length_append,List.length_singleton]at hm hZ hZA ⊢
 have hw1:IntKind.i64.wrap (((Z'.length+1:Nat):Int)-1)=(Z'.length:Int):=by rw[cU (by omega)];omega
 have hlt:(Z'.length:Int)<65:=by omega
 have hle:Z'.length≤64:=by omega
 have hle3:Z'.length+1≤Z'.length+1+A.length:=by omega
 have hseg: ∀c:UInt8,List.take Z'.length (List.map byB (Z'++[z]++A))++[V.im (.int .u8 c.toNat)]++List.drop (Z'.length+1) (List.map byB (Z'++[z]++A))=List.map byB (Z'++c::A):=fun c=>by
  rw[←List.map_take,←List.map_drop];simp[byB]
 have hlen:(List.map byB (Z'++[z]++A)).length=65:=by simp;omega
 refine dM ?_
 by_cases h16:m<16
 ·have e1: ¬(m:Int)≥16:=by omega
  have hg:=Nr h16;rw[LB h16]at hx;clear ih;refine wG jU (A11 BY GDS e1 hw1 hg hlen hlt hle hle3 @Nat.mul_one hseg) ?_;refine We 0 [(10,.sl [] .nl),(12,.ep (.ag ((Z'++hexD m::A).map byB)) 0),(13,(.im (.int .i64 ((Z'.length:Int))))),(94,(.im (.bool (b4))))] [] ?_ (by simp) (by repeat (first|exact WkFA.nil|refine WkFA.cons (by first|exact .of (Wk.refl _) (by first|rfl|simp only[List.length_cons,List.length_nil,Nat.reduceAdd,V.ids,V.idsL,idsA,entOk,List.all_cons,List.all_nil,Bool.and_self,Bool.and_true,Bool.true_and,ltB,noId,Nat.reduceLT,decide_true,Bool.true_eq_false,bR,bT,bS,bU,aB])|exact Vw rfl rfl (aB _ _)) ?_)) (by repeat (first|exact WkFE.nil|refine WkFE.box (by repeat (first|exact WkFL.nil|refine WkFL.cons (by first|exact .of (Wk.refl _) (by first|rfl|simp only[List.length_cons,List.length_nil,Nat.reduceAdd,V.ids,V.idsL,idsA,entOk,List.all_cons,List.all_nil,Bool.and_self,Bool.and_true,Bool.true_and,ltB,noId,Nat.reduceLT,decide_true,Bool.true_eq_false,bR,bT,bS,bU,aB])|exact Vw rfl rfl (aB _ _)) ?_)) ?_|refine WkFE.same (fun _ e=>by cases e) ?_)) (fun i hi=>by first|exact absurd rfl hi|exact Nat.lt_of_lt_of_le (pV hi) (by simp))
  subst hb4;refine jW rfl rfl ?_;refine wG jU TI ?_;refine AY (e:=5) (n:=65) (m:=Z'.length) (b:=Z'++hexD m::A) ?_ (by omega) (by simp;omega) (by decide)
  rw[List.drop_left,hx,List.singleton_append];generalize hexD m::A=B;have hb:=pE B;refine goG jU hb ?_;refine wG jU hb ?_;refine aG (rs:=[.tmp 10,.tmp 11]) rfl (by first|exact .inl rfl|exact .inr rfl) (finG jU) ?_
  all_goals exact wkG aB
 ·have e1:(m:Int)≥16:=by omega
  have hg:=Nr (show m%16<16 by omega)
  have h15:=OH m hm64;have hs4:=JK m;rw[LC h16,List.append_assoc]at hx
  have hI:=ih (m/16) (by omega) (m/16) Z' (hexD (m%16)::A) rfl (by rw[Nat.pow_succ]at hm;omega) (by omega) (by
   rcases Nat.eq_zero_or_pos Z'.length with h0|h0
   ·rw[h0]at hm;omega
   ·exact h0) (by rw[List.length_cons];omega) hx
  clear ih;refine wdG jU (A13 BY GDS e1 hw1 hg h15 hs4 hlen hlt hle hle3 @Nat.mul_one hseg) ?_;refine ALp.cutP 1 [(1,.im (.int .u64 (((m/16:Nat):Int)))),(3,(.im (.bool (false)))),(4,(.im (.bool (b4)))),(10,.sl [] .nl),(11,.im (.string ⟨([]).toArray⟩)),(12,.pt 0 0),(13,(.im (.int .i64 ((Z'.length:Int))))),(14,.im (.int .u64 (4))),(15,.im (.int .u64 (16))),(16,.im (.int .u64 (15)))] [.box ((Z'++hexD (m%16)::A).map byB)] aB ?_;exact hI
theorem SL(n:Nat)(hn:n<4294967296):PC Tryz.prog 209 [.sl [] .nl,.im (.int .u64 ((n:Int))),(.im (.int .i64 (16))),(.im (.bool (false))),(.im (.bool (false)))] (.tu [.sl [] .nl,.im (.string ⟨(oD n).toArray⟩)]):=MS n hn false rfl
def En:=A11 @IR @nO @qU @uF @vJ @zY @qT @uE @sE @vG @iU
theorem SK(n:Nat)(hn:n<4294967296):PC Tryz.prog 152 [.im (.int .u64 ((n:Int))),(.im (.int .i64 (16)))] (.im (.string ⟨(oD n).toArray⟩)):=by
 have q:=SL n hn
 refine PC.enter 32 Tryz.func152 rfl (by decide) rfl rfl (s:=[(0,.im (.int .u64 ((n:Int)))),(1,(.im (.int .i64 (16))))]) (by rfl) ?_
 refine wG En TI ?_
 refine AR.callP q TI aB ?_
 refine goG En TI ?_
 refine wG En TI ?_
 exact aC
theorem VI(n:Nat)(hn:n<4294967296):PC Tryz.prog 85 [.im (.int .u64 ((n:Int))),(.im (.int .i64 (16)))] (.im (.string ⟨(oD n).toArray⟩)):=by
 have q:=SK n hn
 refine PC.enter 8 Tryz.func85 rfl (by decide) rfl rfl (s:=[(0,.im (.int .u64 ((n:Int)))),(1,(.im (.int .i64 (16))))]) (by rfl) ?_
 refine wG TI TI ?_
 refine AR.callP q TI aB ?_
 refine goG TI TI ?_
 refine wG TI TI ?_
 exact aC
theorem bB(p:Nat→Bool)(l:List Bs):V.idsL p (l.map sV)=true:=gL (fun _=>rfl) l
theorem fC(g:Nat→Nat)(l:List Bs):V.renL g (l.map sV)=l.map sV:=V.renL_id g _ (bB _ l)
theorem Zo(l:List Bs)(r:Bs)(hr:l.flatten=r)(hN:l.length≤4194304)(hlen:r.length≤140737488355328):PC Tryz.prog 83 [.sl (l.map sV) .ro] (.im (.string ⟨(r).toArray⟩)):=by
 have q:=MP l (by omega) (by rw[hr];exact hlen)
 rw[hr]at q
 refine PC.enter 5 Tryz.func83 rfl (by decide) rfl rfl (s:=[(0,.sl (l.map sV) .ro)]) (by rfl) ?_
 refine wG TI TI ?_
 refine AR.callP q TI (A4 aB @aD @aE bB) ?_
 refine goG TI TI ?_
 refine wG TI TI ?_
 exact aC
theorem GZ(a b r:Bs)(hr:a++b=r)(hlen:r.length≤140737488355328):PC Tryz.prog 83 [.sl [.im (.string ⟨(a).toArray⟩),.im (.string ⟨(b).toArray⟩)] .ro] (.im (.string ⟨(r).toArray⟩)):=Zo [a,b] r (by simpa using hr) (by simp) hlen
theorem GY(a b c r:Bs)(hr:a++(b++c)=r)(hlen:r.length≤140737488355328):PC Tryz.prog 83 [.sl [.im (.string ⟨(a).toArray⟩),.im (.string ⟨(b).toArray⟩),.im (.string ⟨(c).toArray⟩)] .ro] (.im (.string ⟨(r).toArray⟩)):=Zo [a,b,c] r (by simpa using hr) (by simp) hlen
theorem SI(a b c d e r:Bs)(hr:a++(b++(c++(d++e)))=r)(hlen:r.length≤140737488355328):PC Tryz.prog 83 [.sl [.im (.string ⟨(a).toArray⟩),.im (.string ⟨(b).toArray⟩),.im (.string ⟨(c).toArray⟩),.im (.string ⟨(d).toArray⟩),.im (.string ⟨(e).toArray⟩)] .ro] (.im (.string ⟨(r).toArray⟩)):=Zo [a,b,c,d,e] r (by simpa using hr) (by simp) hlen
def El:=A7 @mG @jN @qU @sH @dD @qT @sF
theorem AH(n:Nat)(hn:n<4294967296):PC Tryz.prog 37 [.im (.int .u32 ((n:Int)))] (.im (.string ⟨(48::120::oD n).toArray⟩)):=by
 have hl:(48::120::oD n).length≤140737488355328:=by
  have:=xL 7 (n+1) n (by omega) (by omega)
  unfold oD;simp only[List.length_cons];omega
 have q1:=VI n hn
 have q2:=GZ [48,120] (oD n) _ rfl hl
 have hw:IntKind.u64.wrap (n:Int)=n:=IntWalk.u64_in _ (by omega)
 refine PC.enter 8 Tryz.func37 rfl (by decide) rfl rfl (s:=[(0,.im (.int .u32 ((n:Int))))]) (by rfl) ?_
 refine wG El hw ?_
 refine AR.callP q1 TI (A4 aB @aD @aE bB) ?_
 refine goG El TI ?_
 refine wG El TI ?_
 refine dE q2 TI (A4 aB @aD @aE bB) ?_
 refine goG El TI ?_
 refine wG El TI ?_
 exact aC
def bP:=A7 @IZ @Px @IS @IP @IE @Pu @IB
theorem s93:pS Tryz.prog 244=none:=by kernel_rfl
theorem AF:PC Tryz.prog 143 [(.im (.int .i64 (3)))] (.ag [.im (.string ⟨([43]).toArray⟩),(.im (.int .i64 (7)))]):=by
 have hw:IntKind.i64.wrap 0=0:=by kernel_rfl
 refine PC.enter 22 Tryz.func143 rfl (by decide) rfl rfl (s:=[(0,(.im (.int .i64 (3))))]) (by rfl) ?_
 refine wG bP s93 ?_
 refine gW (n:=13) (e:=198) (z:=2) (cs:=(List.replicate 13 [.im (.string ByteArray.empty),(.im (.int .i64 (0)))]).flatten) (cs':=[.im (.string ⟨([43]).toArray⟩),(.im (.int .i64 (7))),.im (.string ⟨([45]).toArray⟩),(.im (.int .i64 (7))),.im (.string ⟨([42]).toArray⟩),(.im (.int .i64 (8))),.im (.string ⟨([38]).toArray⟩),(.im (.int .i64 (3))),.im (.string ⟨([124]).toArray⟩),(.im (.int .i64 (1))),.im (.string ⟨([94]).toArray⟩),(.im (.int .i64 (2))),.im (.string ⟨([60,60]).toArray⟩),(.im (.int .i64 (6))),.im (.string ⟨([62,62]).toArray⟩),(.im (.int .i64 (6))),.im (.string ⟨([62,62,115]).toArray⟩),(.im (.int .i64 (6))),.im (.string ⟨([61,61]).toArray⟩),(.im (.int .i64 (4))),.im (.string ⟨([33,61]).toArray⟩),(.im (.int .i64 (4))),.im (.string ⟨([60,115]).toArray⟩),(.im (.int .i64 (5))),.im (.string ⟨([60]).toArray⟩),(.im (.int .i64 (5)))]) ?_
 refine goG bP TI ?_
 refine wG bP hw ?_
 refine aG (rs:=[.cell 2 198]) rfl (by first|exact .inl rfl|exact .inr rfl) (finG bP) ?_
 all_goals exact wkG (A4 aB @aD @aE bB)
theorem AE:PC Tryz.prog 143 [(.im (.int .i64 (4)))] (.ag [.im (.string ⟨([45]).toArray⟩),(.im (.int .i64 (7)))]):=by
 have hw:IntKind.i64.wrap 1=1:=by kernel_rfl
 refine PC.enter 22 Tryz.func143 rfl (by decide) rfl rfl (s:=[(0,(.im (.int .i64 (4))))]) (by rfl) ?_
 refine wG bP s93 ?_
 refine gW (n:=13) (e:=198) (z:=2) (cs:=(List.replicate 13 [.im (.string ByteArray.empty),(.im (.int .i64 (0)))]).flatten) (cs':=[.im (.string ⟨([43]).toArray⟩),(.im (.int .i64 (7))),.im (.string ⟨([45]).toArray⟩),(.im (.int .i64 (7))),.im (.string ⟨([42]).toArray⟩),(.im (.int .i64 (8))),.im (.string ⟨([38]).toArray⟩),(.im (.int .i64 (3))),.im (.string ⟨([124]).toArray⟩),(.im (.int .i64 (1))),.im (.string ⟨([94]).toArray⟩),(.im (.int .i64 (2))),.im (.string ⟨([60,60]).toArray⟩),(.im (.int .i64 (6))),.im (.string ⟨([62,62]).toArray⟩),(.im (.int .i64 (6))),.im (.string ⟨([62,62,115]).toArray⟩),(.im (.int .i64 (6))),.im (.string ⟨([61,61]).toArray⟩),(.im (.int .i64 (4))),.im (.string ⟨([33,61]).toArray⟩),(.im (.int .i64 (4))),.im (.string ⟨([60,115]).toArray⟩),(.im (.int .i64 (5))),.im (.string ⟨([60]).toArray⟩),(.im (.int .i64 (5)))]) ?_
 refine goG bP TI ?_
 refine wG bP hw ?_
 refine aG (rs:=[.cell 2 198]) rfl (by first|exact .inl rfl|exact .inr rfl) (finG bP) ?_
 all_goals exact wkG (A4 aB @aD @aE bB)
theorem AD:PC Tryz.prog 143 [(.im (.int .i64 (5)))] (.ag [.im (.string ⟨([42]).toArray⟩),(.im (.int .i64 (8)))]):=by
 have hw:IntKind.i64.wrap 2=2:=by kernel_rfl
 refine PC.enter 22 Tryz.func143 rfl (by decide) rfl rfl (s:=[(0,(.im (.int .i64 (5))))]) (by rfl) ?_
 refine wG bP s93 ?_
 refine gW (n:=13) (e:=198) (z:=2) (cs:=(List.replicate 13 [.im (.string ByteArray.empty),(.im (.int .i64 (0)))]).flatten) (cs':=[.im (.string ⟨([43]).toArray⟩),(.im (.int .i64 (7))),.im (.string ⟨([45]).toArray⟩),(.im (.int .i64 (7))),.im (.string ⟨([42]).toArray⟩),(.im (.int .i64 (8))),.im (.string ⟨([38]).toArray⟩),(.im (.int .i64 (3))),.im (.string ⟨([124]).toArray⟩),(.im (.int .i64 (1))),.im (.string ⟨([94]).toArray⟩),(.im (.int .i64 (2))),.im (.string ⟨([60,60]).toArray⟩),(.im (.int .i64 (6))),.im (.string ⟨([62,62]).toArray⟩),(.im (.int .i64 (6))),.im (.string ⟨([62,62,115]).toArray⟩),(.im (.int .i64 (6))),.im (.string ⟨([61,61]).toArray⟩),(.im (.int .i64 (4))),.im (.string ⟨([33,61]).toArray⟩),(.im (.int .i64 (4))),.im (.string ⟨([60,115]).toArray⟩),(.im (.int .i64 (5))),.im (.string ⟨([60]).toArray⟩),(.im (.int .i64 (5)))]) ?_
 refine goG bP TI ?_
 refine wG bP hw ?_
 refine aG (rs:=[.cell 2 198]) rfl (by first|exact .inl rfl|exact .inr rfl) (finG bP) ?_
 all_goals exact wkG (A4 aB @aD @aE bB)
theorem AC:PC Tryz.prog 143 [(.im (.int .i64 (6)))] (.ag [.im (.string ⟨([38]).toArray⟩),(.im (.int .i64 (3)))]):=by
 have hw:IntKind.i64.wrap 3=3:=by kernel_rfl
 refine PC.enter 22 Tryz.func143 rfl (by decide) rfl rfl (s:=[(0,(.im (.int .i64 (6))))]) (by rfl) ?_
 refine wG bP s93 ?_
 refine gW (n:=13) (e:=198) (z:=2) (cs:=(List.replicate 13 [.im (.string ByteArray.empty),(.im (.int .i64 (0)))]).flatten) (cs':=[.im (.string ⟨([43]).toArray⟩),(.im (.int .i64 (7))),.im (.string ⟨([45]).toArray⟩),(.im (.int .i64 (7))),.im (.string ⟨([42]).toArray⟩),(.im (.int .i64 (8))),.im (.string ⟨([38]).toArray⟩),(.im (.int .i64 (3))),.im (.string ⟨([124]).toArray⟩),(.im (.int .i64 (1))),.im (.string ⟨([94]).toArray⟩),(.im (.int .i64 (2))),.im (.string ⟨([60,60]).toArray⟩),(.im (.int .i64 (6))),.im (.string ⟨([62,62]).toArray⟩),(.im (.int .i64 (6))),.im (.string ⟨([62,62,115]).toArray⟩),(.im (.int .i64 (6))),.im (.string ⟨([61,61]).toArray⟩),(.im (.int .i64 (4))),.im (.string ⟨([33,61]).toArray⟩),(.im (.int .i64 (4))),.im (.string ⟨([60,115]).toArray⟩),(.im (.int .i64 (5))),.im (.string ⟨([60]).toArray⟩),(.im (.int .i64 (5)))]) ?_
 refine goG bP TI ?_
 refine wG bP hw ?_
 refine aG (rs:=[.cell 2 198]) rfl (by first|exact .inl rfl|exact .inr rfl) (finG bP) ?_
 all_goals exact wkG (A4 aB @aD @aE bB)
theorem AB:PC Tryz.prog 143 [(.im (.int .i64 (7)))] (.ag [.im (.string ⟨([124]).toArray⟩),(.im (.int .i64 (1)))]):=by
 have hw:IntKind.i64.wrap 4=4:=by kernel_rfl
 refine PC.enter 22 Tryz.func143 rfl (by decide) rfl rfl (s:=[(0,(.im (.int .i64 (7))))]) (by rfl) ?_
 refine wG bP s93 ?_
 refine gW (n:=13) (e:=198) (z:=2) (cs:=(List.replicate 13 [.im (.string ByteArray.empty),(.im (.int .i64 (0)))]).flatten) (cs':=[.im (.string ⟨([43]).toArray⟩),(.im (.int .i64 (7))),.im (.string ⟨([45]).toArray⟩),(.im (.int .i64 (7))),.im (.string ⟨([42]).toArray⟩),(.im (.int .i64 (8))),.im (.string ⟨([38]).toArray⟩),(.im (.int .i64 (3))),.im (.string ⟨([124]).toArray⟩),(.im (.int .i64 (1))),.im (.string ⟨([94]).toArray⟩),(.im (.int .i64 (2))),.im (.string ⟨([60,60]).toArray⟩),(.im (.int .i64 (6))),.im (.string ⟨([62,62]).toArray⟩),(.im (.int .i64 (6))),.im (.string ⟨([62,62,115]).toArray⟩),(.im (.int .i64 (6))),.im (.string ⟨([61,61]).toArray⟩),(.im (.int .i64 (4))),.im (.string ⟨([33,61]).toArray⟩),(.im (.int .i64 (4))),.im (.string ⟨([60,115]).toArray⟩),(.im (.int .i64 (5))),.im (.string ⟨([60]).toArray⟩),(.im (.int .i64 (5)))]) ?_
 refine goG bP TI ?_
 refine wG bP hw ?_
 refine aG (rs:=[.cell 2 198]) rfl (by first|exact .inl rfl|exact .inr rfl) (finG bP) ?_
 all_goals exact wkG (A4 aB @aD @aE bB)
theorem AA:PC Tryz.prog 143 [(.im (.int .i64 (8)))] (.ag [.im (.string ⟨([94]).toArray⟩),(.im (.int .i64 (2)))]):=by
 have hw:IntKind.i64.wrap 5=5:=by kernel_rfl
 refine PC.enter 22 Tryz.func143 rfl (by decide) rfl rfl (s:=[(0,(.im (.int .i64 (8))))]) (by rfl) ?_
 refine wG bP s93 ?_
 refine gW (n:=13) (e:=198) (z:=2) (cs:=(List.replicate 13 [.im (.string ByteArray.empty),(.im (.int .i64 (0)))]).flatten) (cs':=[.im (.string ⟨([43]).toArray⟩),(.im (.int .i64 (7))),.im (.string ⟨([45]).toArray⟩),(.im (.int .i64 (7))),.im (.string ⟨([42]).toArray⟩),(.im (.int .i64 (8))),.im (.string ⟨([38]).toArray⟩),(.im (.int .i64 (3))),.im (.string ⟨([124]).toArray⟩),(.im (.int .i64 (1))),.im (.string ⟨([94]).toArray⟩),(.im (.int .i64 (2))),.im (.string ⟨([60,60]).toArray⟩),(.im (.int .i64 (6))),.im (.string ⟨([62,62]).toArray⟩),(.im (.int .i64 (6))),.im (.string ⟨([62,62,115]).toArray⟩),(.im (.int .i64 (6))),.im (.string ⟨([61,61]).toArray⟩),(.im (.int .i64 (4))),.im (.string ⟨([33,61]).toArray⟩),(.im (.int .i64 (4))),.im (.string ⟨([60,115]).toArray⟩),(.im (.int .i64 (5))),.im (.string ⟨([60]).toArray⟩),(.im (.int .i64 (5)))]) ?_
 refine goG bP TI ?_
 refine wG bP hw ?_
 refine aG (rs:=[.cell 2 198]) rfl (by first|exact .inl rfl|exact .inr rfl) (finG bP) ?_
 all_goals exact wkG (A4 aB @aD @aE bB)
theorem Zz:PC Tryz.prog 143 [(.im (.int .i64 (9)))] (.ag [.im (.string ⟨([60,60]).toArray⟩),(.im (.int .i64 (6)))]):=by
 have hw:IntKind.i64.wrap 6=6:=by kernel_rfl
 refine PC.enter 22 Tryz.func143 rfl (by decide) rfl rfl (s:=[(0,(.im (.int .i64 (9))))]) (by rfl) ?_
 refine wG bP s93 ?_
 refine gW (n:=13) (e:=198) (z:=2) (cs:=(List.replicate 13 [.im (.string ByteArray.empty),(.im (.int .i64 (0)))]).flatten) (cs':=[.im (.string ⟨([43]).toArray⟩),(.im (.int .i64 (7))),.im (.string ⟨([45]).toArray⟩),(.im (.int .i64 (7))),.im (.string ⟨([42]).toArray⟩),(.im (.int .i64 (8))),.im (.string ⟨([38]).toArray⟩),(.im (.int .i64 (3))),.im (.string ⟨([124]).toArray⟩),(.im (.int .i64 (1))),.im (.string ⟨([94]).toArray⟩),(.im (.int .i64 (2))),.im (.string ⟨([60,60]).toArray⟩),(.im (.int .i64 (6))),.im (.string ⟨([62,62]).toArray⟩),(.im (.int .i64 (6))),.im (.string ⟨([62,62,115]).toArray⟩),(.im (.int .i64 (6))),.im (.string ⟨([61,61]).toArray⟩),(.im (.int .i64 (4))),.im (.string ⟨([33,61]).toArray⟩),(.im (.int .i64 (4))),.im (.string ⟨([60,115]).toArray⟩),(.im (.int .i64 (5))),.im (.string ⟨([60]).toArray⟩),(.im (.int .i64 (5)))]) ?_
 refine goG bP TI ?_
 refine wG bP hw ?_
 refine aG (rs:=[.cell 2 198]) rfl (by first|exact .inl rfl|exact .inr rfl) (finG bP) ?_
 all_goals exact wkG (A4 aB @aD @aE bB)
theorem Sp:PC Tryz.prog 143 [(.im (.int .i64 (10)))] (.ag [.im (.string ⟨([62,62]).toArray⟩),(.im (.int .i64 (6)))]):=by
 have hw:IntKind.i64.wrap 7=7:=by kernel_rfl
 refine PC.enter 22 Tryz.func143 rfl (by decide) rfl rfl (s:=[(0,(.im (.int .i64 (10))))]) (by rfl) ?_
 refine wG bP s93 ?_
 refine gW (n:=13) (e:=198) (z:=2) (cs:=(List.replicate 13 [.im (.string ByteArray.empty),(.im (.int .i64 (0)))]).flatten) (cs':=[.im (.string ⟨([43]).toArray⟩),(.im (.int .i64 (7))),.im (.string ⟨([45]).toArray⟩),(.im (.int .i64 (7))),.im (.string ⟨([42]).toArray⟩),(.im (.int .i64 (8))),.im (.string ⟨([38]).toArray⟩),(.im (.int .i64 (3))),.im (.string ⟨([124]).toArray⟩),(.im (.int .i64 (1))),.im (.string ⟨([94]).toArray⟩),(.im (.int .i64 (2))),.im (.string ⟨([60,60]).toArray⟩),(.im (.int .i64 (6))),.im (.string ⟨([62,62]).toArray⟩),(.im (.int .i64 (6))),.im (.string ⟨([62,62,115]).toArray⟩),(.im (.int .i64 (6))),.im (.string ⟨([61,61]).toArray⟩),(.im (.int .i64 (4))),.im (.string ⟨([33,61]).toArray⟩),(.im (.int .i64 (4))),.im (.string ⟨([60,115]).toArray⟩),(.im (.int .i64 (5))),.im (.string ⟨([60]).toArray⟩),(.im (.int .i64 (5)))]) ?_
 refine goG bP TI ?_
 refine wG bP hw ?_
 refine aG (rs:=[.cell 2 198]) rfl (by first|exact .inl rfl|exact .inr rfl) (finG bP) ?_
 all_goals exact wkG (A4 aB @aD @aE bB)
theorem So:PC Tryz.prog 143 [(.im (.int .i64 (11)))] (.ag [.im (.string ⟨([62,62,115]).toArray⟩),(.im (.int .i64 (6)))]):=by
 have hw:IntKind.i64.wrap 8=8:=by kernel_rfl
 refine PC.enter 22 Tryz.func143 rfl (by decide) rfl rfl (s:=[(0,(.im (.int .i64 (11))))]) (by rfl) ?_
 refine wG bP s93 ?_
 refine gW (n:=13) (e:=198) (z:=2) (cs:=(List.replicate 13 [.im (.string ByteArray.empty),(.im (.int .i64 (0)))]).flatten) (cs':=[.im (.string ⟨([43]).toArray⟩),(.im (.int .i64 (7))),.im (.string ⟨([45]).toArray⟩),(.im (.int .i64 (7))),.im (.string ⟨([42]).toArray⟩),(.im (.int .i64 (8))),.im (.string ⟨([38]).toArray⟩),(.im (.int .i64 (3))),.im (.string ⟨([124]).toArray⟩),(.im (.int .i64 (1))),.im (.string ⟨([94]).toArray⟩),(.im (.int .i64 (2))),.im (.string ⟨([60,60]).toArray⟩),(.im (.int .i64 (6))),.im (.string ⟨([62,62]).toArray⟩),(.im (.int .i64 (6))),.im (.string ⟨([62,62,115]).toArray⟩),(.im (.int .i64 (6))),.im (.string ⟨([61,61]).toArray⟩),(.im (.int .i64 (4))),.im (.string ⟨([33,61]).toArray⟩),(.im (.int .i64 (4))),.im (.string ⟨([60,115]).toArray⟩),(.im (.int .i64 (5))),.im (.string ⟨([60]).toArray⟩),(.im (.int .i64 (5)))]) ?_
 refine goG bP TI ?_
 refine wG bP hw ?_
 refine aG (rs:=[.cell 2 198]) rfl (by first|exact .inl rfl|exact .inr rfl) (finG bP) ?_
 all_goals exact wkG (A4 aB @aD @aE bB)
theorem Sn:PC Tryz.prog 143 [(.im (.int .i64 (12)))] (.ag [.im (.string ⟨([61,61]).toArray⟩),(.im (.int .i64 (4)))]):=by
 have hw:IntKind.i64.wrap 9=9:=by kernel_rfl
 refine PC.enter 22 Tryz.func143 rfl (by decide) rfl rfl (s:=[(0,(.im (.int .i64 (12))))]) (by rfl) ?_
 refine wG bP s93 ?_
 refine gW (n:=13) (e:=198) (z:=2) (cs:=(List.replicate 13 [.im (.string ByteArray.empty),(.im (.int .i64 (0)))]).flatten) (cs':=[.im (.string ⟨([43]).toArray⟩),(.im (.int .i64 (7))),.im (.string ⟨([45]).toArray⟩),(.im (.int .i64 (7))),.im (.string ⟨([42]).toArray⟩),(.im (.int .i64 (8))),.im (.string ⟨([38]).toArray⟩),(.im (.int .i64 (3))),.im (.string ⟨([124]).toArray⟩),(.im (.int .i64 (1))),.im (.string ⟨([94]).toArray⟩),(.im (.int .i64 (2))),.im (.string ⟨([60,60]).toArray⟩),(.im (.int .i64 (6))),.im (.string ⟨([62,62]).toArray⟩),(.im (.int .i64 (6))),.im (.string ⟨([62,62,115]).toArray⟩),(.im (.int .i64 (6))),.im (.string ⟨([61,61]).toArray⟩),(.im (.int .i64 (4))),.im (.string ⟨([33,61]).toArray⟩),(.im (.int .i64 (4))),.im (.string ⟨([60,115]).toArray⟩),(.im (.int .i64 (5))),.im (.string ⟨([60]).toArray⟩),(.im (.int .i64 (5)))]) ?_
 refine goG bP TI ?_
 refine wG bP hw ?_
 refine aG (rs:=[.cell 2 198]) rfl (by first|exact .inl rfl|exact .inr rfl) (finG bP) ?_
 all_goals exact wkG (A4 aB @aD @aE bB)
theorem Sl:PC Tryz.prog 143 [(.im (.int .i64 (13)))] (.ag [.im (.string ⟨([33,61]).toArray⟩),(.im (.int .i64 (4)))]):=by
 have hw:IntKind.i64.wrap 10=10:=by kernel_rfl
 refine PC.enter 22 Tryz.func143 rfl (by decide) rfl rfl (s:=[(0,(.im (.int .i64 (13))))]) (by rfl) ?_
 refine wG bP s93 ?_
 refine gW (n:=13) (e:=198) (z:=2) (cs:=(List.replicate 13 [.im (.string ByteArray.empty),(.im (.int .i64 (0)))]).flatten) (cs':=[.im (.string ⟨([43]).toArray⟩),(.im (.int .i64 (7))),.im (.string ⟨([45]).toArray⟩),(.im (.int .i64 (7))),.im (.string ⟨([42]).toArray⟩),(.im (.int .i64 (8))),.im (.string ⟨([38]).toArray⟩),(.im (.int .i64 (3))),.im (.string ⟨([124]).toArray⟩),(.im (.int .i64 (1))),.im (.string ⟨([94]).toArray⟩),(.im (.int .i64 (2))),.im (.string ⟨([60,60]).toArray⟩),(.im (.int .i64 (6))),.im (.string ⟨([62,62]).toArray⟩),(.im (.int .i64 (6))),.im (.string ⟨([62,62,115]).toArray⟩),(.im (.int .i64 (6))),.im (.string ⟨([61,61]).toArray⟩),(.im (.int .i64 (4))),.im (.string ⟨([33,61]).toArray⟩),(.im (.int .i64 (4))),.im (.string ⟨([60,115]).toArray⟩),(.im (.int .i64 (5))),.im (.string ⟨([60]).toArray⟩),(.im (.int .i64 (5)))]) ?_
 refine goG bP TI ?_
 refine wG bP hw ?_
 refine aG (rs:=[.cell 2 198]) rfl (by first|exact .inl rfl|exact .inr rfl) (finG bP) ?_
 all_goals exact wkG (A4 aB @aD @aE bB)
theorem Sk:PC Tryz.prog 143 [(.im (.int .i64 (14)))] (.ag [.im (.string ⟨([60,115]).toArray⟩),(.im (.int .i64 (5)))]):=by
 have hw:IntKind.i64.wrap 11=11:=by kernel_rfl
 refine PC.enter 22 Tryz.func143 rfl (by decide) rfl rfl (s:=[(0,(.im (.int .i64 (14))))]) (by rfl) ?_
 refine wG bP s93 ?_
 refine gW (n:=13) (e:=198) (z:=2) (cs:=(List.replicate 13 [.im (.string ByteArray.empty),(.im (.int .i64 (0)))]).flatten) (cs':=[.im (.string ⟨([43]).toArray⟩),(.im (.int .i64 (7))),.im (.string ⟨([45]).toArray⟩),(.im (.int .i64 (7))),.im (.string ⟨([42]).toArray⟩),(.im (.int .i64 (8))),.im (.string ⟨([38]).toArray⟩),(.im (.int .i64 (3))),.im (.string ⟨([124]).toArray⟩),(.im (.int .i64 (1))),.im (.string ⟨([94]).toArray⟩),(.im (.int .i64 (2))),.im (.string ⟨([60,60]).toArray⟩),(.im (.int .i64 (6))),.im (.string ⟨([62,62]).toArray⟩),(.im (.int .i64 (6))),.im (.string ⟨([62,62,115]).toArray⟩),(.im (.int .i64 (6))),.im (.string ⟨([61,61]).toArray⟩),(.im (.int .i64 (4))),.im (.string ⟨([33,61]).toArray⟩),(.im (.int .i64 (4))),.im (.string ⟨([60,115]).toArray⟩),(.im (.int .i64 (5))),.im (.string ⟨([60]).toArray⟩),(.im (.int .i64 (5)))]) ?_
 refine goG bP TI ?_
 refine wG bP hw ?_
 refine aG (rs:=[.cell 2 198]) rfl (by first|exact .inl rfl|exact .inr rfl) (finG bP) ?_
 all_goals exact wkG (A4 aB @aD @aE bB)
theorem Sj:PC Tryz.prog 143 [(.im (.int .i64 (15)))] (.ag [.im (.string ⟨([60]).toArray⟩),(.im (.int .i64 (5)))]):=by
 have hw:IntKind.i64.wrap 12=12:=by kernel_rfl
 refine PC.enter 22 Tryz.func143 rfl (by decide) rfl rfl (s:=[(0,(.im (.int .i64 (15))))]) (by rfl) ?_
 refine wG bP s93 ?_
 refine gW (n:=13) (e:=198) (z:=2) (cs:=(List.replicate 13 [.im (.string ByteArray.empty),(.im (.int .i64 (0)))]).flatten) (cs':=[.im (.string ⟨([43]).toArray⟩),(.im (.int .i64 (7))),.im (.string ⟨([45]).toArray⟩),(.im (.int .i64 (7))),.im (.string ⟨([42]).toArray⟩),(.im (.int .i64 (8))),.im (.string ⟨([38]).toArray⟩),(.im (.int .i64 (3))),.im (.string ⟨([124]).toArray⟩),(.im (.int .i64 (1))),.im (.string ⟨([94]).toArray⟩),(.im (.int .i64 (2))),.im (.string ⟨([60,60]).toArray⟩),(.im (.int .i64 (6))),.im (.string ⟨([62,62]).toArray⟩),(.im (.int .i64 (6))),.im (.string ⟨([62,62,115]).toArray⟩),(.im (.int .i64 (6))),.im (.string ⟨([61,61]).toArray⟩),(.im (.int .i64 (4))),.im (.string ⟨([33,61]).toArray⟩),(.im (.int .i64 (4))),.im (.string ⟨([60,115]).toArray⟩),(.im (.int .i64 (5))),.im (.string ⟨([60]).toArray⟩),(.im (.int .i64 (5)))]) ?_
 refine goG bP TI ?_
 refine wG bP hw ?_
 refine aG (rs:=[.cell 2 198]) rfl (by first|exact .inl rfl|exact .inr rfl) (finG bP) ?_
 all_goals exact wkG (A4 aB @aD @aE bB)
theorem Pg(o:Int)(ho:3≤o∧o≤15):PC Tryz.prog 143 [(.im (.int .i64 (o)))] (.ag [.im (.string ⟨(nD o).toArray⟩),(.im (.int .i64 ((stO o:Int))))]):=by
 have:o=3∨o=4∨o=5∨o=6∨o=7∨o=8∨o=9∨o=10∨o=11∨o=12∨o=13∨o=14∨o=15:=by omega
 rcases this with rfl|rfl|rfl|rfl|rfl|rfl|rfl|rfl|rfl|rfl|rfl|rfl|rfl
 ·exact AF
 ·exact AE
 ·exact AD
 ·exact AC
 ·exact AB
 ·exact AA
 ·exact Zz
 ·exact Sp
 ·exact So
 ·exact Sn
 ·exact Sl
 ·exact Sk
 ·exact Sj
def sB:=A4 @cL @Ey @nZ @cK
theorem Rx(o n:Int)(s:ByteArray)(w:Int)(l:List Ex):PC Tryz.prog 199 [exV (.mk o n s w l)] (.im (.int .i64 ((strE o:Int)))):=by
 refine PC.enter 23 Tryz.func199 rfl (by decide) rfl rfl (s:=[(0,exV (.mk o n s w l))]) (by rfl) ?_
 simp only[gQ]
 by_cases h1:3≤o∧o≤15
 ·have q:=Pg o h1
  have e1:o≥3:=h1.1;have e2:o≤15:=h1.2;rw[show strE o=stO o from if_pos h1]
  refine wG sB (AI e1 e2) ?_;refine AR.callP q TI (A4 aB @aD @aE bB) ?_;refine goG sB TI ?_;refine wG sB TI ?_;exact aC
 have hs:strE o=if o=16∨o=17 then 9 else 10:=if_neg h1
 have hb:(decide (o≥3)&&decide (o≤15))=false:=by simp;omega
 rw[hs]
 by_cases h3:o=16
 ·subst h3
  refine wG sB TI ?_;exact aC
 by_cases h4:o=17
 ·subst h4
  refine wG sB TI ?_;exact aC
 rw[if_neg (by omega)]
 by_cases e1:o≥3
 ·have e2: ¬o≤15:=by omega
  refine wG sB (A4 e1 e2 h3 h4) ?_;exact aC
 ·refine wG sB (A3 e1 h3 h4) ?_
  exact aC
def Jd(l:List Tk)(k:Int):Int×Int:=if k<0 then(1,1)else match l[min k.toNat (l.length-1)]? with
 | some t=>(t.line,t.col)
 | none=>(1,1)
def rW:=A8 @rA @cL @kM @pM @Fc @Fb @gX @cK
theorem Eg(l:List Tk)(k:Int)(hl:l.length≤4194304):PC Tryz.prog 64 [.sl (l.map tkV) .ro,(.im (.int .i64 (k)))] (.tu [(.im (.int .i64 ((Jd l k).1))),(.im (.int .i64 ((Jd l k).2)))]):=by
 by_cases h0:k<0
 ·rw[show Jd l k=(1,1)from if_pos h0]
  refine PC.enter 26 Tryz.func64 rfl (by decide) rfl rfl (s:=[(0,.sl (l.map tkV) .ro),(1,(.im (.int .i64 (k))))]) (by rfl) ?_
  refine wG rW (AI TKT h0) ?_;refine aG (rs:=[.tmp 4,.tmp 5]) rfl (by first|exact .inl rfl|exact .inr rfl) (finG rW) ?_
  all_goals exact wkG (A4 bC aZ aB bB)
 cases hE:l with
 | nil =>
  rw[show Jd [] k=(1,1) by unfold Jd;split<;>rfl]
  refine PC.enter 26 Tryz.func64 rfl (by decide) rfl rfl (s:=[(0,.sl (([]:List Tk).map tkV) .ro),(1,(.im (.int .i64 (k))))]) (by rfl) ?_
  refine wG rW (AI TKT h0) ?_;refine aG (rs:=[.tmp 4,.tmp 5]) rfl (by first|exact .inl rfl|exact .inr rfl) (finG rW) ?_
  all_goals exact wkG (A4 bC aZ aB bB)
 | cons x r =>
 rw[←hE]
 have hpos:1≤l.length:=by rw[hE];simp
 clear hE
 have hne: ¬(l.length:Int)=0:=by omega
 have hw:IntKind.i64.wrap ((l.length:Int)-1)=((l.length-1:Nat):Int):=by rw[cU (by omega)];omega
 obtain⟨j,hj⟩: ∃j,j=min k.toNat (l.length-1):=⟨_,rfl⟩
 have hjl:j<l.length:=by omega
 have hg:l[j]? =some l[j]:=List.getElem?_eq_getElem hjl
 have hR:Jd l k=(l[j].line,l[j].col):=by
  unfold Jd;rw[if_neg h0,←hj,hg]
 rw[hR]
 clear hR
 generalize l[j]=t at hg
 have hmin:(if((l.length-1:Nat):Int)<k then((l.length-1:Nat):Int)else k)=(j:Int):=by split<;>omega
 refine PC.enter 26 Tryz.func64 rfl (by decide) rfl rfl (s:=[(0,.sl (l.map tkV) .ro),(1,(.im (.int .i64 (k))))]) (by rfl) ?_
 refine wG rW (A3 TKT h0 hne) ?_
 refine wdG rW (A7 TKT h0 hne hw hg hmin @Int.toNat_natCast) ?_
 refine aG (rs:=[.tmp 4,.tmp 5]) rfl (by first|exact .inl rfl|exact .inr rfl) (finG rW) ?_
 all_goals exact wkG (A4 bC aZ aB bB)
theorem rN{m:Nat}(h:m≤9):Lib.itoa (m:Int)=[hexD m]:=by
 unfold Lib.itoa
 rw[if_neg (by omega),Int.toNat_natCast,Lib.decDigits,dif_pos (by omega)]
 have: ∀m<10,[UInt8.ofNat (48+m)]=[hexD m]:=by decide
 exact this m (by omega)
theorem Ri{w:Int}(h:w=1∨w=2∨w=4):Lib.itoa w=wB w:=by
 rcases h with rfl|rfl|rfl
 ·exact rN (m:=1) (by decide)
 ·exact rN (m:=2) (by decide)
 ·exact rN (m:=4) (by decide)
theorem xF(o:Int)(t:Bs)(need:Nat):t.length≤(opdT o t need).length:=by
 unfold opdT
 split
 ·simp only[List.length_cons,List.length_append];omega
 ·exact Nat.le_refl _
def lS:=A5 @eU @mG @jN @dG @dD
theorem vE(e:Ex)(need:Nat)(hn:need≤10)(hlen:(opdT e.op (txE e) need).length≤140737488355328)(q:PC Tryz.prog 75 [exV e] (.im (.string ⟨(txE e).toArray⟩))):PC Tryz.prog 142 [exV e,(.im (.int .i64 ((need:Int))))] (.im (.string ⟨(opdT e.op (txE e) need).toArray⟩)):=by
 have qs:PC Tryz.prog 199 [exV e] (.im (.int .i64 ((strE e.op:Int)))):=by
  obtain⟨o,n,s,w,l⟩:=e;exact Rx o n s w l
 by_cases h:strE e.op<need
 ·have h1:(strE e.op:Int)<(need:Int):=by omega
  have he:opdT e.op (txE e) need=40::(txE e++[41]):=if_pos h;rw[he]at hlen ⊢;have qj:=GY [40] (txE e) [41] _ rfl hlen;refine PC.enter 15 Tryz.func142 rfl (by decide) rfl rfl (s:=[(0,exV e),(1,(.im (.int .i64 ((need:Int)))))]) (by rfl) ?_
  refine wG lS BN01 ?_;refine AR.callP qs @bI (A4 aB @aD @aE bB) ?_;refine goG lS (A9 @fW @eH @fT @fS @fU @eI @List.getElem?_map.{0,0} @Int.natCast_nonneg h1) ?_;refine wG lS (A9 @fW @eH @fT @fS @fU @eI @List.getElem?_map.{0,0} @Int.natCast_nonneg h1) ?_;refine AR.callP q @bI (A4 aB @aD @aE bB) ?_;refine goG lS TI ?_;refine dE qj TI (A4 aB @aD @aE bB) ?_;refine goG lS TI ?_;refine wG lS TI ?_;exact aC
 ·have h1: ¬(strE e.op:Int)<(need:Int):=by omega
  have he:opdT e.op (txE e) need=txE e:=if_neg h;rw[he]at hlen ⊢;refine PC.enter 15 Tryz.func142 rfl (by decide) rfl rfl (s:=[(0,exV e),(1,(.im (.int .i64 ((need:Int)))))]) (by rfl) ?_
  refine wG lS BN01 ?_;refine AR.callP qs @bI (A4 aB @aD @aE bB) ?_;refine goG lS (A9 @fW @eH @fT @fS @fU @eI @List.getElem?_map.{0,0} @Int.natCast_nonneg h1) ?_;refine wG lS (A9 @fW @eH @fT @fS @fU @eI @List.getElem?_map.{0,0} @Int.natCast_nonneg h1) ?_;refine AR.callP q @bI (A4 aB @aD @aE bB) ?_;refine goG lS TI ?_;refine wG lS TI ?_;exact aC
theorem Yb{m:Nat}(h:m≤9):Lib.itoa (m:Int)=tM m:=(rN h).trans (if_pos h).symm
def eR:=A16 @cL @pP @gV @eU @eC @Px @mG @gG @jN @Te @Ey @nZ @Ab @vN @Aa (A11 @lH @uF @sH @Pu @cK @pJ @gU @dG @dD @uE @sF)
set_option maxHeartbeats 2000000 in
theorem wI: ∀(e:Ex),fitE e→efm e=true→(txE e).length≤140737488355328→PC Tryz.prog 75 [exV e] (.im (.string ⟨(txE e).toArray⟩)):=by
 refine Ex.induct fun o n s w l hE=> ?_
 intro hfit hf hlen
 obtain⟨hl1,hfE⟩:=nG hfit
 obtain⟨_,hn,_⟩:=Of hfit
 rw[tU,Bool.and_eq_true]at hf
 obtain⟨hb,hl⟩:=hf
 have IH:=fun t ht=>hE t ht (hfE t ht) (List.all_eq_true.1 hl t ht)
 clear hE hl hfE
 obtain⟨n,rfl⟩: ∃m:Nat,n=m:=⟨n.toNat,by omega⟩
 rw[rF]at hlen ⊢
 rcases uZ hb with ⟨rfl,_,_,h4⟩|⟨rfl,h1,_,_,h4⟩|⟨ho,_,_,_,h4⟩|⟨ho,_,_,_,h4⟩|⟨rfl,_,_,h3,h4⟩|⟨rfl,_,_,h3,h4⟩
 ·rw[show txN 1 (n:Int) s.data.toList w l (l.map txE)=tM n from rfl]
  by_cases h9:n≤9
  ·have h9':(n:Int)≤9:=by omega
   have q:=tW n (by omega) (by omega)
   rw[Yb h9]at q;have hw:IntKind.i64.wrap (n:Int)=n:=cU (by omega)
   refine PC.enter 86 Tryz.func75 rfl (by decide) rfl rfl (s:=[(0,exV (.mk 1 (n:Int) s w l))]) (by rfl) ?_
   simp only[gQ];refine wG eR (AI h9' hw) ?_;refine AR.callP q TI (A4 aB @aD @aE bB) ?_;refine goG eR TI ?_;refine wG eR TI ?_;exact aC
  ·have h9': ¬(n:Int)≤9:=by omega
   have q:=AH n (by omega)
   rw[show tM n=48::120::oD n from if_neg h9]
   refine PC.enter 86 Tryz.func75 rfl (by decide) rfl rfl (s:=[(0,exV (.mk 1 (n:Int) s w l))]) (by rfl) ?_
   simp only[gQ];refine wG eR h9' ?_;refine AR.callP q TI (A4 aB @aD @aE bB) ?_;refine goG eR TI ?_;refine wG eR TI ?_;exact aC
 ·rw[show txN 2 (n:Int) s.data.toList w l (l.map txE)=s.data.toList from rfl,show ByteArray.mk s.data.toList.toArray=s from rfl]
  refine PC.enter 86 Tryz.func75 rfl (by decide) rfl rfl (s:=[(0,exV (.mk 2 (n:Int) s w l))]) (by rfl) ?_
  simp only[gQ];refine wG eR TI ?_;exact aC
 ·obtain⟨a,b,rfl⟩: ∃a b,l=[a,b]:=by
   match l,h4 with
   | [a,b],_=>exact⟨a,b,rfl⟩
  have e1:txN o (n:Int) s.data.toList w [a,b] ([a,b].map txE)=opdT a.op (txE a) (stO o)++([32]++(nD o++([32]++opdT b.op (txE b) (stO o+1)))):=by
   unfold txN;rw[if_neg (by omega),if_neg (by omega),if_neg (by omega),if_neg (by omega),if_neg (by omega),if_neg (by omega)]
   rfl
  rw[e1]at hlen ⊢;obtain⟨_,_,q3,_⟩:=Ir ho;have hl0:=hlen;simp only[List.length_append]at hl0;have la:=xF a.op (txE a) (stO o);have lb:=xF b.op (txE b) (stO o+1);have qa:=vE a (stO o) (by omega) (by omega) (IH a (by simp) (by omega))
  have qb:=vE b (stO o+1) (by omega) (by omega) (IH b (by simp) (by omega))
  have qo:=Pg o ho;have qj:=SI (opdT a.op (txE a) (stO o)) [32] (nD o) [32] (opdT b.op (txE b) (stO o+1)) _ rfl hlen;have hw:IntKind.i64.wrap ((stO o:Int)+1)=((stO o+1:Nat):Int):=by rw[cU (by omega)];omega
  have n1: ¬o=1:=by omega
  have n2: ¬o=2:=by omega
  have n3: ¬o=18:=by omega
  have n4: ¬o=19:=by omega
  have n5: ¬o=16:=by omega
  have n6: ¬o=17:=by omega
  clear IH;refine PC.enter 86 Tryz.func75 rfl (by decide) rfl rfl (s:=[(0,exV (.mk o (n:Int) s w [a,b]))]) (by rfl) ?_
  simp only[gQ];refine wG eR (A6 n1 n2 n3 n4 n5 n6) ?_;refine AR.callP qo TI (A4 aB @aD @aE bB) ?_;refine goG eR TI ?_;refine wdG eR BN01 ?_;refine AR.callP qa @bI (A4 aB @aD @aE bB) ?_;refine goG eR (A9 @fW @eH @fT @fS @fU @eI @List.getElem?_map.{0,0} @Int.natCast_nonneg hw) ?_;refine AR.callP qb @bI (A4 aB @aD @aE bB) ?_;refine goG eR TI ?_;refine dE qj TI (A4 aB @aD @aE bB) ?_;refine goG eR TI ?_;refine wdG eR TI ?_;exact aC
 ·obtain⟨a,rfl⟩: ∃a,l=[a]:=by
   match l,h4 with
   | [a],_=>exact⟨a,rfl⟩
  rcases ho with rfl|rfl
  ·have e1:txN 16 (n:Int) s.data.toList w [a] ([a].map txE)=[33]++opdT a.op (txE a) 9:=rfl
   rw[e1]at hlen ⊢;have hl0:=hlen;simp only[List.length_append]at hl0;have la:=xF a.op (txE a) 9;have qa:=vE a 9 (by omega) (by omega) (IH a (by simp) (by omega))
   rw[show((9:Nat):Int)=9 from rfl]at qa
   have qj:=GZ [33] (opdT a.op (txE a) 9) _ rfl hlen;refine PC.enter 86 Tryz.func75 rfl (by decide) rfl rfl (s:=[(0,exV (.mk 16 (n:Int) s w [a]))]) (by rfl) ?_
   simp only[gQ];refine wG eR BN01 ?_;refine AR.callP qa @bI (A4 aB @aD @aE bB) ?_;refine goG eR TI ?_;refine dE qj TI (A4 aB @aD @aE bB) ?_;refine goG eR TI ?_;refine wG eR TI ?_;exact aC
  ·have e1:txN 17 (n:Int) s.data.toList w [a] ([a].map txE)=[45]++opdT a.op (txE a) 9:=rfl
   rw[e1]at hlen ⊢;have hl0:=hlen;simp only[List.length_append]at hl0;have la:=xF a.op (txE a) 9;have qa:=vE a 9 (by omega) (by omega) (IH a (by simp) (by omega))
   rw[show((9:Nat):Int)=9 from rfl]at qa
   have qj:=GZ [45] (opdT a.op (txE a) 9) _ rfl hlen;refine PC.enter 86 Tryz.func75 rfl (by decide) rfl rfl (s:=[(0,exV (.mk 17 (n:Int) s w [a]))]) (by rfl) ?_
   simp only[gQ];refine wG eR BN01 ?_;refine AR.callP qa @bI (A4 aB @aD @aE bB) ?_;refine goG eR TI ?_;refine dE qj TI (A4 aB @aD @aE bB) ?_;refine goG eR TI ?_;refine wG eR TI ?_;exact aC
 ·obtain⟨a,rfl⟩: ∃a,l=[a]:=by
   match l,h4 with
   | [a],_=>exact⟨a,rfl⟩
  have e1:txN 18 (n:Int) s.data.toList w [a] ([a].map txE)=[108,111,97,100]++(wB w++([40]++(txE a++[41]))):=rfl;rw[e1]at hlen ⊢;have hl0:=hlen;simp only[List.length_append]at hl0;have qa:=IH a (by simp) (by omega)
  have qi:=tW w (by omega) (by omega)
  rw[Ri h3]at qi;have qj:=SI [108,111,97,100] (wB w) [40] (txE a) [41] _ rfl hlen;refine PC.enter 86 Tryz.func75 rfl (by decide) rfl rfl (s:=[(0,exV (.mk 18 (n:Int) s w [a]))]) (by rfl) ?_
  simp only[gQ];refine wdG eR BN01 ?_;refine AR.callP qi TI (A4 aB @aD @aE bB) ?_;refine goG eR BN01 ?_;refine AR.callP qa @bI (A4 aB @aD @aE bB) ?_;refine goG eR TI ?_;refine dE qj TI (A4 aB @aD @aE bB) ?_;refine goG eR TI ?_;refine wdG eR TI ?_;exact aC
 ·obtain⟨a,rfl⟩: ∃a,l=[a]:=by
   match l,h4 with
   | [a],_=>exact⟨a,rfl⟩
  have e1:txN 19 (n:Int) s.data.toList w [a] ([a].map txE)=[115,101,120,116]++(wB w++([40]++(txE a++[41]))):=rfl;rw[e1]at hlen ⊢;have hl0:=hlen;simp only[List.length_append]at hl0;have qa:=IH a (by simp) (by omega)
  have qi:=tW w (by omega) (by omega)
  rw[Ri (by omega)]at qi
  have qj:=SI [115,101,120,116] (wB w) [40] (txE a) [41] _ rfl hlen;refine PC.enter 86 Tryz.func75 rfl (by decide) rfl rfl (s:=[(0,exV (.mk 19 (n:Int) s w [a]))]) (by rfl) ?_
  simp only[gQ];refine wdG eR BN01 ?_;refine AR.callP qi TI (A4 aB @aD @aE bB) ?_;refine goG eR BN01 ?_;refine AR.callP qa @bI (A4 aB @aD @aE bB) ?_;refine goG eR TI ?_;refine dE qj TI (A4 aB @aD @aE bB) ?_;refine goG eR TI ?_;refine wdG eR TI ?_;exact aC
theorem eO(g:Nat→Nat)(i:Nat)(t:TypeId):V.ren g (.nb i t)= .nb (g i) t:=by rw[V.ren]
def Kp:=A8 @Bw @Ll @Lj @nO @Ij @wR @Bp @iU
theorem Ef(b s:Bs)(k:Int)(hlen:b.length+s.length≤140737488355328):DC Tryz.prog 82 [.pt 0 0,.im (.string ⟨(s).toArray⟩)] [.box [.nb 0 PQ,.sl ((b).map byB) (.mine 1),(.im (.int .i64 (k)))],.tip 5 1 (b).length] (.tu [(.im (.int .i64 ((s.length:Int)))),.im Value.nilIface]) [.box [.nb 0 PQ,.sl (((b++s)).map byB) (.mine 1),(.im (.int .i64 (k)))],.tip 5 1 ((b++s)).length]:=by
 have h:=Jy (.sl (b.map byB) (.mine 1)) (.im (.int .i64 (k))) [.tip 5 1 b.length]
 obtain⟨B,hB⟩: ∃B,B=b++s:=⟨_,rfl⟩
 have hA:b.map byB++s.map byB=B.map byB:=by rw[hB,List.map_append]
 have hz:b.length+s.length=B.length:=by rw[hB,List.length_append]
 rw[←hB]
 refine DC.enter 19 Tryz.func82 rfl (by decide) rfl rfl (s:=[(0,.pt 0 0),(1,.im (.string ⟨(s).toArray⟩))]) (by rfl) ?_
 refine wG Kp TI ?_
 refine aA [0,1] h TI (A4 aB @aD @aE bB) (A5 @aR @aS fC cF eO) ?_
 refine goG Kp TI ?_
 have hl1:B.length*1≤140737488355328:=by omega
 have hl2:B.length≤140737488355328:=by omega
 refine wG Kp (A6 BY hA hz hl1 hl2 @List.length_map.{0,0}) ?_
 refine aQ (rs:=[.tmp 4,.tmp 5]) rfl (by first|exact .inl rfl|exact .inr rfl) (finG Kp) ?_ rfl (idG (A4 aB @aD @aE bB))
 all_goals exact wkG (A4 aB @aD @aE bB)
def wL:=A9 @cL @vR @mG @jN @zZ @qX @cK @vH @dD
theorem Sg(b:Bs)(l:List Bs)(s:Bs)(hs:l.flatten=s)(k:Nat)(hl:l.length≤4194304)(hlen:(b++lnT k s).length≤140737488355328):DC Tryz.prog 36 [.pt 0 0,.sl (l.map sV) .ro] [.box [.nb 0 PQ,.sl ((b).map byB) (.mine 1),(.im (.int .i64 ((k:Int))))],.tip 5 1 (b).length] (.tu []) [.box [.nb 0 PQ,.sl (((b++lnT k s)).map byB) (.mine 1),(.im (.int .i64 ((k:Int))))],.tip 5 1 ((b++lnT k s)).length]:=by
 have hl0:=hlen
 unfold lnT at hl0
 simp only[List.length_append,Lib.repeatL_length,List.length_cons,List.length_nil]at hl0
 have q1:=HP [32,32] k (by omega) (by simp only[List.length_cons,List.length_nil];omega)
 have q2:=Zo l s hs hl (by omega)
 have q3:=GY (Lib.repeatL [32,32] k) s [10] (lnT k s) rfl (by rw[List.length_append]at hlen;omega)
 have q4:=Ef b (lnT k s) k (by rw[List.length_append]at hlen;omega)
 generalize lnT k s=L at q3 q4 ⊢
 obtain⟨B,hB⟩: ∃B,B=b++L:=⟨_,rfl⟩
 rw[←hB]at q4 ⊢
 generalize Lib.repeatL [32,32] k=rp at q1 q3
 refine DC.enter 17 Tryz.func36 rfl (by decide) rfl rfl (s:=[(0,.pt 0 0),(1,.sl (l.map sV) .ro)]) (by rfl) ?_
 refine wdG wL TI ?_
 refine AR.callP q1 TI (A4 aB @aD @aE bB) ?_
 refine goG wL TI ?_
 refine AR.callP q2 TI (A4 aB @aD @aE bB) ?_
 refine goG wL TI ?_
 refine dE q3 TI (A4 aB @aD @aE bB) ?_
 refine goG wL TI ?_
 refine aA [0,1] q4 TI (A4 aB @aD @aE bB) (A5 @aR @aS fC cF eO) ?_
 refine goG wL TI ?_
 refine wdG wL TI ?_
 refine aQ (rs:=[]) rfl (by first|exact .inl rfl|exact .inr rfl) (finG wL) ?_ rfl (idG (A4 aB @aD @aE bB))
 all_goals exact wkG (A4 aB @aD @aE bB)
theorem Sv(a b:ByteArray):byV a++byV b=byV (a++b):=by
 unfold byV
 rw[←List.map_append]
 congr 1
theorem Ss(p:Nat→Bool)(a:ByteArray):V.idsL p (byV a)=true:=by
 unfold byV
 exact gL (fun _=>rfl) _
theorem Vr(g:Nat→Nat)(a:ByteArray):V.renL g (byV a)=byV a:=V.renL_id g _ (Ss _ a)
def Bm:=A8 @Bw @Ll @Lj @nO @Ij @wR @Bp @iU
def Tc:=A5 @bR @bT @bS @bU Ss
def TA:=A6 @rR @rD @rQ @rC Vr eO
theorem Ga(b s:ByteArray)(hlen:b.size+s.size≤140737488355328):DC Tryz.prog 82 [.pt 0 0,.im (.string s)] [.box [.nb 0 206,.sl (byV (b)) (.mine 1)],.tip 5 1 (b).size] (.tu [(.im (.int .i64 ((s.size:Int)))),.im Value.nilIface]) [.box [.nb 0 206,.sl (byV ((b++s))) (.mine 1)],.tip 5 1 ((b++s)).size]:=by
 have h:=Pf (.sl (byV b) (.mine 1)) [.tip 5 1 b.size]
 obtain⟨B,hB⟩: ∃B,B=b++s:=⟨_,rfl⟩
 have hA:byV b++byV s=byV B:=by rw[hB];exact Sv b s
 have hz:b.size+s.size=B.size:=by rw[hB,ByteArray.size_append]
 rw[←hB]
 refine DC.enter 19 Tryz.func82 rfl (by decide) rfl rfl (s:=[(0,.pt 0 0),(1,.im (.string s))]) (by rfl) ?_
 refine wG Bm TI ?_
 refine aA [0,1] h TI Tc TA ?_
 refine goG Bm TI ?_
 have hl1:B.size*1≤140737488355328:=by omega
 refine wG Bm (A4 hA hz hl1 kW) ?_
 refine aQ (rs:=[.tmp 4,.tmp 5]) rfl (by first|exact .inl rfl|exact .inr rfl) (finG Bm) ?_ rfl (idG Tc)
 all_goals exact wkG Tc
theorem VY(a b c d r:Bs)(hr:a++(b++(c++d))=r)(hlen:r.length≤140737488355328):PC Tryz.prog 83 [.sl [.im (.string ⟨(a).toArray⟩),.im (.string ⟨(b).toArray⟩),.im (.string ⟨(c).toArray⟩),.im (.string ⟨(d).toArray⟩)] .ro] (.im (.string ⟨(r).toArray⟩)):=Zo [a,b,c,d] r (by simpa using hr) (by simp) hlen
theorem VX(a b c d e f g r:Bs)(hr:a++(b++(c++(d++(e++(f++g)))))=r)(hlen:r.length≤140737488355328):PC Tryz.prog 83 [.sl [.im (.string ⟨(a).toArray⟩),.im (.string ⟨(b).toArray⟩),.im (.string ⟨(c).toArray⟩),.im (.string ⟨(d).toArray⟩),.im (.string ⟨(e).toArray⟩),.im (.string ⟨(f).toArray⟩),.im (.string ⟨(g).toArray⟩)] .ro] (.im (.string ⟨(r).toArray⟩)):=Zo [a,b,c,d,e,f,g] r (by simpa using hr) (by simp) hlen
theorem Sy(s:ByteArray):Value.string ⟨s.data.toList.toArray⟩=Value.string s:=rfl
def dF:=A15 @cL @gV @eU @eC @mG @gG @jN @iN @wU @mE @gY @cK @gU @dG @dD
theorem Zm(w:Int)(n:ByteArray)(e:List Ex)(l el:List Nd)(cs:List (List Nd))(hf:fitN (.mk 1 w n e l el cs))(hs:stT (.mk 1 w n e l el cs)=true)(hlen:(simT (.mk 1 w n e l el cs)).length≤140737488355328):PC Tryz.prog 210 [ndV (.mk 1 w n e l el cs)] (.im (.string ⟨(simT (.mk 1 w n e l el cs)).toArray⟩)):=by
 obtain⟨_,h2,h3,h4⟩:=iA hs
 obtain⟨_,_,⟨_,he⟩,_⟩:=dN hf
 simp only[Nd.kind,Nd.width,Nd.name,Nd.e]at h2 h3 h4 he
 obtain⟨a,rfl⟩:=xG h2
 have e1:simT (.mk 1 w n [a] l el cs)=n.data.toList++([32,61,32]++(txE a++[59])):=rfl
 rw[e1]at hlen ⊢
 have hl0:=hlen
 simp only[List.length_append]at hl0
 have qa:=wI a (he a (by simp)) (h3 a (by simp)) (by omega)
 have qj:=VY n.data.toList [32,61,32] (txE a) [59] _ rfl hlen
 rw[Sy]at qj
 clear hlen e1
 refine PC.enter 72 Tryz.func210 rfl (by decide) rfl rfl (s:=[(0,ndV (.mk 1 w n [a] l el cs))]) (by rfl) ?_
 simp only[eN]
 refine wdG dF EX ?_
 refine AR.callP qa @bI (A7 aT aH aI aX @aD @aE bB) ?_
 refine goG dF TI ?_
 refine dE qj TI (A7 aT aH aI aX @aD @aE bB) ?_
 refine goG dF TI ?_
 refine wdG dF TI ?_
 exact aC
theorem Zl(w:Int)(n:ByteArray)(e:List Ex)(l el:List Nd)(cs:List (List Nd))(hf:fitN (.mk 2 w n e l el cs))(hs:stT (.mk 2 w n e l el cs)=true)(hlen:(simT (.mk 2 w n e l el cs)).length≤140737488355328):PC Tryz.prog 210 [ndV (.mk 2 w n e l el cs)] (.im (.string ⟨(simT (.mk 2 w n e l el cs)).toArray⟩)):=by
 obtain⟨_,h2,h3,h4⟩:=iA hs
 obtain⟨_,_,⟨_,he⟩,_⟩:=dN hf
 simp only[Nd.kind,Nd.width,Nd.name,Nd.e]at h2 h3 h4 he
 obtain⟨a,b,rfl⟩:=BM h2
 have e1:simT (.mk 2 w n [a,b] l el cs)=[115,116,111,114,101]++(wB w++([40]++(txE a++([44,32]++(txE b++[41,59]))))):=rfl
 rw[e1]at hlen ⊢
 have hl0:=hlen
 simp only[List.length_append]at hl0
 have qa:=wI a (he a (by simp)) (h3 a (by simp)) (by omega)
 have qb:=wI b (he b (by simp)) (h3 b (by simp)) (by omega)
 have h4:=h4 trivial
 have qw:=tW w (by omega) (by omega)
 rw[Ri h4]at qw
 have qj:=VX [115,116,111,114,101] (wB w) [40] (txE a) [44,32] (txE b) [41,59] _ rfl hlen
 clear hlen e1
 refine PC.enter 72 Tryz.func210 rfl (by decide) rfl rfl (s:=[(0,ndV (.mk 2 w n [a,b] l el cs))]) (by rfl) ?_
 simp only[eN]
 refine wdG dF EX ?_
 refine AR.callP qw TI (A7 aT aH aI aX @aD @aE bB) ?_
 refine goG dF EX ?_
 refine AR.callP qa @bI (A7 aT aH aI aX @aD @aE bB) ?_
 refine goG dF EX ?_
 refine AR.callP qb @bI (A7 aT aH aI aX @aD @aE bB) ?_
 refine goG dF TI ?_
 refine dE qj TI (A7 aT aH aI aX @aD @aE bB) ?_
 refine goG dF TI ?_
 refine wdG dF TI ?_
 exact aC
theorem Zk(w:Int)(n:ByteArray)(e:List Ex)(l el:List Nd)(cs:List (List Nd))(hf:fitN (.mk 3 w n e l el cs))(hs:stT (.mk 3 w n e l el cs)=true)(hlen:(simT (.mk 3 w n e l el cs)).length≤140737488355328):PC Tryz.prog 210 [ndV (.mk 3 w n e l el cs)] (.im (.string ⟨(simT (.mk 3 w n e l el cs)).toArray⟩)):=by
 obtain⟨_,h2,h3,h4⟩:=iA hs
 obtain⟨_,_,⟨_,he⟩,_⟩:=dN hf
 simp only[Nd.kind,Nd.width,Nd.name,Nd.e]at h2 h3 h4 he
 have e1:simT (.mk 3 w n e l el cs)=n.data.toList++[32,61,32,105,110,59]:=rfl
 rw[e1]at hlen ⊢
 have qj:=GZ n.data.toList [32,61,32,105,110,59] _ rfl hlen
 rw[Sy]at qj
 clear hlen e1
 refine PC.enter 72 Tryz.func210 rfl (by decide) rfl rfl (s:=[(0,ndV (.mk 3 w n e l el cs))]) (by rfl) ?_
 simp only[eN]
 refine wG dF EX ?_
 refine dE qj TI (A7 aT aH aI aX @aD @aE bB) ?_
 refine goG dF TI ?_
 refine wG dF TI ?_
 exact aC
theorem Zj(w:Int)(n:ByteArray)(e:List Ex)(l el:List Nd)(cs:List (List Nd))(hf:fitN (.mk 4 w n e l el cs))(hs:stT (.mk 4 w n e l el cs)=true)(hlen:(simT (.mk 4 w n e l el cs)).length≤140737488355328):PC Tryz.prog 210 [ndV (.mk 4 w n e l el cs)] (.im (.string ⟨(simT (.mk 4 w n e l el cs)).toArray⟩)):=by
 obtain⟨_,h2,h3,h4⟩:=iA hs
 obtain⟨_,_,⟨_,he⟩,_⟩:=dN hf
 simp only[Nd.kind,Nd.width,Nd.name,Nd.e]at h2 h3 h4 he
 obtain⟨a,rfl⟩:=xG h2
 have e1:simT (.mk 4 w n [a] l el cs)=[111,117,116,32]++(txE a++[59]):=rfl
 rw[e1]at hlen ⊢
 have hl0:=hlen
 simp only[List.length_append]at hl0
 have qa:=wI a (he a (by simp)) (h3 a (by simp)) (by omega)
 have qj:=GY [111,117,116,32] (txE a) [59] _ rfl hlen
 clear hlen e1
 refine PC.enter 72 Tryz.func210 rfl (by decide) rfl rfl (s:=[(0,ndV (.mk 4 w n [a] l el cs))]) (by rfl) ?_
 simp only[eN]
 refine wG dF EX ?_
 refine AR.callP qa @bI (A7 aT aH aI aX @aD @aE bB) ?_
 refine goG dF TI ?_
 refine dE qj TI (A7 aT aH aI aX @aD @aE bB) ?_
 refine goG dF TI ?_
 refine wG dF TI ?_
 exact aC
theorem Zi(w:Int)(n:ByteArray)(e:List Ex)(l el:List Nd)(cs:List (List Nd))(hf:fitN (.mk 5 w n e l el cs))(hs:stT (.mk 5 w n e l el cs)=true)(hlen:(simT (.mk 5 w n e l el cs)).length≤140737488355328):PC Tryz.prog 210 [ndV (.mk 5 w n e l el cs)] (.im (.string ⟨(simT (.mk 5 w n e l el cs)).toArray⟩)):=by
 obtain⟨_,h2,h3,h4⟩:=iA hs
 obtain⟨_,_,⟨_,he⟩,_⟩:=dN hf
 simp only[Nd.kind,Nd.width,Nd.name,Nd.e]at h2 h3 h4 he
 have e1:simT (.mk 5 w n e l el cs)=[99,97,108,108,32]++(n.data.toList++[59]):=rfl
 rw[e1]at hlen ⊢
 have qj:=GY [99,97,108,108,32] n.data.toList [59] _ rfl hlen
 rw[Sy]at qj
 clear hlen e1
 refine PC.enter 72 Tryz.func210 rfl (by decide) rfl rfl (s:=[(0,ndV (.mk 5 w n e l el cs))]) (by rfl) ?_
 simp only[eN]
 refine wG dF EX ?_
 refine dE qj TI (A7 aT aH aI aX @aD @aE bB) ?_
 refine goG dF TI ?_
 refine wG dF TI ?_
 exact aC
theorem Sb(w:Int)(n:ByteArray)(e:List Ex)(l el:List Nd)(cs:List (List Nd))(hf:fitN (.mk 12 w n e l el cs))(hs:stT (.mk 12 w n e l el cs)=true)(hlen:(simT (.mk 12 w n e l el cs)).length≤140737488355328):PC Tryz.prog 210 [ndV (.mk 12 w n e l el cs)] (.im (.string ⟨(simT (.mk 12 w n e l el cs)).toArray⟩)):=by
 obtain⟨_,h2,h3,h4⟩:=iA hs
 obtain⟨_,_,⟨_,he⟩,_⟩:=dN hf
 simp only[Nd.kind,Nd.width,Nd.name,Nd.e]at h2 h3 h4 he
 have e1:simT (.mk 12 w n e l el cs)=[103,111,116,111,32]++(n.data.toList++[59]):=rfl
 rw[e1]at hlen ⊢
 have qj:=GY [103,111,116,111,32] n.data.toList [59] _ rfl hlen
 rw[Sy]at qj
 clear hlen e1
 refine PC.enter 72 Tryz.func210 rfl (by decide) rfl rfl (s:=[(0,ndV (.mk 12 w n e l el cs))]) (by rfl) ?_
 simp only[eN]
 refine wG dF EX ?_
 refine dE qj TI (A7 aT aH aI aX @aD @aE bB) ?_
 refine goG dF TI ?_
 refine wG dF TI ?_
 exact aC
theorem Sa(w:Int)(n:ByteArray)(e:List Ex)(l el:List Nd)(cs:List (List Nd))(hf:fitN (.mk 13 w n e l el cs))(hs:stT (.mk 13 w n e l el cs)=true)(hlen:(simT (.mk 13 w n e l el cs)).length≤140737488355328):PC Tryz.prog 210 [ndV (.mk 13 w n e l el cs)] (.im (.string ⟨(simT (.mk 13 w n e l el cs)).toArray⟩)):=by
 obtain⟨_,h2,h3,h4⟩:=iA hs
 obtain⟨_,_,⟨_,he⟩,_⟩:=dN hf
 simp only[Nd.kind,Nd.width,Nd.name,Nd.e]at h2 h3 h4 he
 have e1:simT (.mk 13 w n e l el cs)=n.data.toList++[58]:=rfl
 rw[e1]at hlen ⊢
 have qj:=GZ n.data.toList [58] _ rfl hlen
 rw[Sy]at qj
 clear hlen e1
 refine PC.enter 72 Tryz.func210 rfl (by decide) rfl rfl (s:=[(0,ndV (.mk 13 w n e l el cs))]) (by rfl) ?_
 simp only[eN]
 refine wG dF EX ?_
 refine dE qj TI (A7 aT aH aI aX @aD @aE bB) ?_
 refine goG dF TI ?_
 refine wG dF TI ?_
 exact aC
theorem Se(w:Int)(n:ByteArray)(e:List Ex)(l el:List Nd)(cs:List (List Nd))(hf:fitN (.mk 10 w n e l el cs))(hs:stT (.mk 10 w n e l el cs)=true)(hlen:(simT (.mk 10 w n e l el cs)).length≤140737488355328):PC Tryz.prog 210 [ndV (.mk 10 w n e l el cs)] (.im (.string ⟨(simT (.mk 10 w n e l el cs)).toArray⟩)):=by
 obtain⟨_,h2,h3,h4⟩:=iA hs
 obtain⟨_,_,⟨_,he⟩,_⟩:=dN hf
 simp only[Nd.kind,Nd.width,Nd.name,Nd.e]at h2 h3 h4 he
 have e1:simT (.mk 10 w n e l el cs)=[98,114,101,97,107,59]:=rfl
 rw[e1]at hlen ⊢
 clear hlen e1
 refine PC.enter 72 Tryz.func210 rfl (by decide) rfl rfl (s:=[(0,ndV (.mk 10 w n e l el cs))]) (by rfl) ?_
 simp only[eN]
 refine wG dF EX ?_
 exact aC
theorem Sd(w:Int)(n:ByteArray)(e:List Ex)(l el:List Nd)(cs:List (List Nd))(hf:fitN (.mk 11 w n e l el cs))(hs:stT (.mk 11 w n e l el cs)=true)(hlen:(simT (.mk 11 w n e l el cs)).length≤140737488355328):PC Tryz.prog 210 [ndV (.mk 11 w n e l el cs)] (.im (.string ⟨(simT (.mk 11 w n e l el cs)).toArray⟩)):=by
 obtain⟨_,h2,h3,h4⟩:=iA hs
 obtain⟨_,_,⟨_,he⟩,_⟩:=dN hf
 simp only[Nd.kind,Nd.width,Nd.name,Nd.e]at h2 h3 h4 he
 have e1:simT (.mk 11 w n e l el cs)=[99,111,110,116,105,110,117,101,59]:=rfl
 rw[e1]at hlen ⊢
 clear hlen e1
 refine PC.enter 72 Tryz.func210 rfl (by decide) rfl rfl (s:=[(0,ndV (.mk 11 w n e l el cs))]) (by rfl) ?_
 simp only[eN]
 refine wG dF EX ?_
 exact aC
theorem Rz(w:Int)(n:ByteArray)(e:List Ex)(l el:List Nd)(cs:List (List Nd))(hf:fitN (.mk 14 w n e l el cs))(hs:stT (.mk 14 w n e l el cs)=true)(hlen:(simT (.mk 14 w n e l el cs)).length≤140737488355328):PC Tryz.prog 210 [ndV (.mk 14 w n e l el cs)] (.im (.string ⟨(simT (.mk 14 w n e l el cs)).toArray⟩)):=by
 obtain⟨_,h2,h3,h4⟩:=iA hs
 obtain⟨_,_,⟨_,he⟩,_⟩:=dN hf
 simp only[Nd.kind,Nd.width,Nd.name,Nd.e]at h2 h3 h4 he
 have e1:simT (.mk 14 w n e l el cs)=[114,101,116,117,114,110,59]:=rfl
 rw[e1]at hlen ⊢
 clear hlen e1
 refine PC.enter 72 Tryz.func210 rfl (by decide) rfl rfl (s:=[(0,ndV (.mk 14 w n e l el cs))]) (by rfl) ?_
 simp only[eN]
 refine wG dF EX ?_
 exact aC
theorem Ry(w:Int)(n:ByteArray)(e:List Ex)(l el:List Nd)(cs:List (List Nd))(hf:fitN (.mk 15 w n e l el cs))(hs:stT (.mk 15 w n e l el cs)=true)(hlen:(simT (.mk 15 w n e l el cs)).length≤140737488355328):PC Tryz.prog 210 [ndV (.mk 15 w n e l el cs)] (.im (.string ⟨(simT (.mk 15 w n e l el cs)).toArray⟩)):=by
 obtain⟨_,h2,h3,h4⟩:=iA hs
 obtain⟨_,_,⟨_,he⟩,_⟩:=dN hf
 simp only[Nd.kind,Nd.width,Nd.name,Nd.e]at h2 h3 h4 he
 have e1:simT (.mk 15 w n e l el cs)=[104,97,108,116,59]:=rfl
 rw[e1]at hlen ⊢
 clear hlen e1
 refine PC.enter 72 Tryz.func210 rfl (by decide) rfl rfl (s:=[(0,ndV (.mk 15 w n e l el cs))]) (by rfl) ?_
 simp only[eN]
 refine wG dF EX ?_
 exact aC
theorem GO(t:Nd)(hf:fitN t)(hs:stT t=true)(hk:t.kind≠6∧t.kind≠7∧t.kind≠8∧t.kind≠9)(hlen:(simT t).length≤140737488355328):PC Tryz.prog 210 [ndV t] (.im (.string ⟨(simT t).toArray⟩)):=by
 obtain⟨h1,_⟩:=iA hs
 obtain⟨k,w,n,e,l,el,cs⟩:=t
 simp only[Nd.kind]at h1 hk
 have:k=1∨k=2∨k=3∨k=4∨k=5∨k=12∨k=13∨k=10∨k=11∨k=14∨k=15:=by omega
 rcases this with rfl|rfl|rfl|rfl|rfl|rfl|rfl|rfl|rfl|rfl|rfl
 ·exact Zm w n e l el cs hf hs hlen
 ·exact Zl w n e l el cs hf hs hlen
 ·exact Zk w n e l el cs hf hs hlen
 ·exact Zj w n e l el cs hf hs hlen
 ·exact Zi w n e l el cs hf hs hlen
 ·exact Sb w n e l el cs hf hs hlen
 ·exact Sa w n e l el cs hf hs hlen
 ·exact Se w n e l el cs hf hs hlen
 ·exact Sd w n e l el cs hf hs hlen
 ·exact Rz w n e l el cs hf hs hlen
 ·exact Ry w n e l el cs hf hs hlen
end Go.Proofs.YtmbmmckagcdapaaGreatDoor
namespace Go.Proofs.YtmbmmckagcdapaaGreatDoor
inductive TyF:Int→Int→Int→List Ty→List Ty→Prop
 | unk:TyF 0 0 0 [] []
 | any:TyF 6 0 0 [] []
 | num (k s:Int) (hk:k=1∨k=2) (hs:s=1∨s=2∨s=4):TyF k s 0 [] []
 | ptr (e:Ty):TyF 3 0 0 [e] []
 | arr (c:Int) (e:Ty) (hc:1≤c∧c≤65536):TyF 4 0 c [e] []
 | str (fs:List Ty):TyF 5 0 0 [] fs
theorem Ic{k s c:Int}{es fs:List Ty}(h:base k s c es.length fs.length=true):TyF k s c es fs:=by
 unfold base at h
 by_cases h1:(k==0||k==6)=true
 ·rw[if_pos h1]at h
  simp at h h1;obtain⟨⟨⟨rfl,rfl⟩,rfl⟩,rfl⟩:=h;rcases h1 with rfl|rfl
  ·exact .unk
  ·exact .any
 rw[if_neg h1]at h
 by_cases h2:(k==1||k==2)=true
 ·rw[if_pos h2]at h
  simp at h h2;obtain⟨⟨⟨hs,rfl⟩,rfl⟩,rfl⟩:=h;exact .num k s h2 (by omega)
 rw[if_neg h2]at h
 by_cases h3:(k==3)=true
 ·rw[if_pos h3]at h
  simp at h h3;obtain⟨⟨⟨rfl,rfl⟩,he⟩,rfl⟩:=h;subst h3;obtain⟨e,rfl⟩:=List.length_eq_one_iff.1 he;exact .ptr e
 rw[if_neg h3]at h
 by_cases h4:(k==4)=true
 ·rw[if_pos h4]at h
  simp at h h4;obtain⟨⟨⟨⟨rfl,hc1⟩,hc2⟩,he⟩,rfl⟩:=h;subst h4;obtain⟨e,rfl⟩:=List.length_eq_one_iff.1 he;exact .arr c e ⟨hc1,hc2⟩
 rw[if_neg h4]at h
 by_cases h5:(k==5)=true
 ·rw[if_pos h5]at h
  simp at h h5;obtain⟨⟨rfl,rfl⟩,rfl⟩:=h;subst h5;exact .str fs
 rw[if_neg h5]at h
 cases h
def Fu(k s:Int):Bs:=(if k=1 then [105,110,116]else [117,105,110,116])++(if s=1 then [56]else if s=2 then [49,54]else [51,50])
def pcK(p:Int×List Tk):List Tk:=nuT p.1.toNat::opT [58]::p.2
def tlK:List (Int×List Tk)→List Tk
 | []=>[]
 | p::r=>opT [44]::(pcK p++tlK r)
def flK:List (Int×List Tk)→List Tk
 | []=>[]
 | p::r=>pcK p++tlK r
def TG(t:Ty)(es fs:List (List Tk)):List Tk :=
 if t.kind=0 then [opT [63]]else if t.kind=6 then [idT [97,110,121]]else if t.kind=1∨t.kind=2 then [idT (Fu t.kind t.size)]
 else if t.kind=3 then opT [42]::es.headD []else if t.kind=4 then opT [91]::nuT t.count.toNat::opT [93]::es.headD []
 else opT [123]::(flK ((t.fields.map Ty.off).zip fs)++[opT [125]])
def tyK:Ty→List Tk:=Ty.para TG
theorem lK(o k s c:Int)(es fs:List Ty):tyK (.mk o k s c es fs) =
  if k=0 then [opT [63]]else if k=6 then [idT [97,110,121]]else if k=1∨k=2 then [idT (Fu k s)]
  else if k=3 then opT [42]::(es.map tyK).headD []else if k=4 then opT [91]::nuT c.toNat::opT [93]::(es.map tyK).headD []
  else opT [123]::(flK (fs.map fun f=>(f.off,tyK f))++[opT [125]]):=by
 have e:tyK (.mk o k s c es fs)=TG (.mk o k s c es fs) (es.map tyK) (fs.map tyK):=Ty.para_mk _ o k s c es fs
 rw[e]
 have hz:(List.map Ty.off fs).zip (List.map tyK fs)=fs.map fun f=>(f.off,tyK f):=List.zip_map' ..
 rw[←hz]
 rfl
theorem QN:Lib.itoa 8=[56]:=by simp[Lib.itoa,Lib.decDigits]
theorem KX:Lib.itoa 16=[49,54]:=by simp[Lib.itoa,Lib.decDigits]
theorem KW:Lib.itoa 32=[51,50]:=by simp[Lib.itoa,Lib.decDigits]
theorem KM{k s:Int}(hk:k=1∨k=2)(hs:s=1∨s=2∨s=4)(o:Int):txT (.mk o k s 0 [] [])=Fu k s:=by
 rw[rE]
 rcases hk with rfl|rfl<;>rcases hs with rfl|rfl|rfl<;>simp[Fu,QN,KX,KW]
theorem PZ{k s:Int}(hk:k=1∨k=2)(hs:s=1∨s=2∨s=4){r:Bs}{l:List Tk}(hr:nW r=true)(h:Sc r l):Sc (Fu k s++r) (idT (Fu k s)::l):=by
 rcases hk with rfl|rfl<;>rcases hs with rfl|rfl|rfl<;>exact Sc.id (by decide) (by decide) (by decide) (by decide) (by decide) hr h
theorem UD{k s:Int}(hk:k=1∨k=2)(hs:s=1∨s=2∨s=4):intR (Fu k s)=some (k,s):=by
 rcases hk with rfl|rfl<;>rcases hs with rfl|rfl|rfl<;>decide
def ScT(t:Ty):Prop:= ∀s l,nW s=true→Sc s l→Sc (txT t++s) (tyK t++l)
theorem Ut{fs:List Ty}(h: ∀i,i<fs.length→fok fs i=true): ∀f∈fs,0≤f.off∧f.off<65536:=by
 intro f hf
 obtain⟨i,hi,rfl⟩:=List.getElem_of_mem hf
 have:=h i hi
 unfold fok at this
 simp only[Bool.and_eq_true,decide_eq_true_eq]at this
 have e:(fs.map Ty.off).getD i 0=fs[i].off:=by simp[List.getD,hi]
 rw[e]at this
 exact this.1
theorem NT{f:Ty}(hf:ScT f)(ho:0≤f.off∧f.off<65536){s:Bs}{l:List Tk}(hs:nW s=true)(h:Sc s l):Sc (pcT (f.off,txT f)++s) (pcK (f.off,tyK f)++l):=by
 unfold pcT pcK
 obtain⟨n,hn⟩: ∃n:Nat,f.off=n:=⟨f.off.toNat,by omega⟩
 simp only[hn,Int.toNat_natCast,List.append_assoc,List.cons_append,List.nil_append]
 exact Sc.itoa (by omega) rfl (Sc.op (by decide) (Sc.sp (hf s l hs h)))
theorem NS: ∀(r:List Ty),(∀f∈r,ScT f∧0≤f.off∧f.off<65536)→ ∀s l,nW s=true→Sc s l→Sc (((r.map fun f=>(f.off,txT f)).map fun q=>[44,32]++pcT q).flatten++s) (tlK (r.map fun f=>(f.off,tyK f))++l)
 | [],_,s,l,_,h=>h
 | f::r,hr,s,l,hs,h=>by
  have ih:=NS r (fun x hx=>hr x (by simp[hx])) s l hs h
  simp only[List.map_cons,List.flatten_cons,List.append_assoc,List.cons_append,List.nil_append,tlK];refine Sc.op (by decide) (Sc.sp (NT (hr f (by simp)).1 (hr f (by simp)).2 ?_ ih))
  cases r with
  | nil=>exact hs
  | cons g r=>rfl
theorem TK: ∀t:Ty,frm t=true→ScT t:=by
 intro t
 induction t using Ty.induct with
 | h o k s c es fs ie iff_ =>
 intro hf r l hr h
 obtain⟨hb,hfo,h1,h2⟩:=oW hf
 cases Ic hb with
 | unk=>rw[rE,lK];exact Sc.op (by decide) h
 | any=>rw[rE,lK];exact Sc.id (w:=[97,110,121]) (by decide) (by decide) (by decide) (by decide) (by decide) hr h
 | num k s hk hs =>
  rw[KM hk hs,lK,if_neg (by omega),if_neg (by omega),if_pos hk]
  exact PZ hk hs hr h
 | ptr e =>
  rw[rE,lK];exact Sc.op (by decide) (ie e (by simp) (h2 e (by simp)) r l hr h)
 | arr c e hc =>
  have e1:txT (.mk o 4 0 c [e] [])=([91]++Lib.itoa c++[93])++txT e:=by rw[rE];rfl
  have e2:tyK (.mk o 4 0 c [e] [])=opT [91]::nuT c.toNat::opT [93]::tyK e:=by rw[lK];rfl
  obtain⟨n,rfl⟩: ∃n:Nat,c=n:=⟨c.toNat,by omega⟩
  rw[e1,e2];simp only[Int.toNat_natCast,List.append_assoc,List.cons_append,List.nil_append];exact Sc.op (by decide) (Sc.itoa (by omega) rfl (Sc.op (by decide) (ie e (by simp) (h2 e (by simp)) r l hr h)))
 | str fs =>
  have e1:txT (.mk o 5 0 0 [] fs)=[123]++fldT (fs.map fun f=>(f.off,txT f))++[125]:=by rw[rE];rfl
  have e2:tyK (.mk o 5 0 0 [] fs)=opT [123]::(flK (fs.map fun f=>(f.off,tyK f))++[opT [125]]):=by rw[lK];rfl
  have hoff:=Ut hfo;rw[e1,e2];simp only[List.append_assoc,List.cons_append,List.nil_append];refine Sc.op (by decide) ?_
  have hend:Sc (125::r) (opT [125]::l):=Sc.op (by decide) h
  cases fs with
  | nil=>exact hend
  | cons f fs =>
   show Sc ((pcT (f.off,txT f)++((fs.map fun f=>(f.off,txT f)).map fun q=>[44,32]++pcT q).flatten)++125::r) ((pcK (f.off,tyK f)++tlK (fs.map fun f=>(f.off,tyK f)))++opT [125]::l)
   rw[List.append_assoc,List.append_assoc];have H: ∀x∈f::fs,ScT x:=fun x hx=>iff_ x hx (h1 x hx)
   refine NT (H f (by simp)) (hoff f (by simp)) ?_ (NS fs (fun x hx=>⟨H x (by simp[hx]),hoff x (by simp[hx])⟩) _ _ rfl hend)
   cases fs with
   | nil=>rfl
   | cons g fs=>rfl
section
variable {ts:List Tk}
def VV(ts:List Tk)(m:Md5)(a o:Nat)(z:Rs Ty):Prop:= ∃F,∀f,F≤f→tyM ts f m a o=some z
def RdT(ts:List Tk)(t:Ty):Prop:= ∀(n a o:Nat) (rest:List Tk),shal t n=true→o+n≤256→ts.drop a=tyK t++rest→ ∃t',VV ts .ty a o (.ok t' (a+(tyK t).length) o)∧tyV t'=tyV t
theorem BP{a o n:Nat}{l:List Tk}(h:ts.drop a=nuT n::l):takM ts 3 a o=some (.ok (nuT n) (a+1) o):=OL h
theorem QY{t' f:Ty}(h:tyV t'=tyV f){n:Int}(hn:n=f.off):fdV (t'.at_ n)=fdV f:=by
 subst hn
 rw[bW,bW]at h
 rw[mX,mX]
 injection h with h
 injection h with h1 h
 injection h with h2 h
 injection h with h3 h
 injection h with h4 h
 injection h with h5 h
 show V.ag [.im (.int .i64 f.off),.im (.int .i64 t'.kind),.im (.int .i64 t'.size),.im (.int .i64 t'.count),.sl (t'.elem.map tyV) .ro,.sl (t'.fields.map fdV) .ro]=_
 rw[h1,h2,h3,h4,h5]
theorem NW: ∀(fs:List Ty),(∀f∈fs,RdT ts f∧0≤f.off)→ ∀(n:Nat),(∀f∈fs,shal f n=true)→ ∀(acc:List Ty) (a o:Nat) (rest:List Tk),o+n≤256 →
  ts.drop a=(if acc.length=0 then flK (fs.map fun f=>(f.off,tyK f))else tlK (fs.map fun f=>(f.off,tyK f)))++opT [125]::rest →
  ∃fs',VV ts (.fl acc) a o (.ok (.mk 0 5 0 0 [] (acc++fs')) (a+(if acc.length=0 then flK (fs.map fun f=>(f.off,tyK f))else tlK (fs.map fun f=>(f.off,tyK f))).length+1) (o-1))∧fs'.map fdV=fs.map fdV
 | [],_,n,_,acc,a,o,rest,ho,hd=>by
  have e:(if acc.length=0 then flK (([]:List Ty).map fun f=>(f.off,tyK f))else tlK (([]:List Ty).map fun f=>(f.off,tyK f)))=[]:=by split<;>rfl
  rw[e]at hd ⊢;rw[List.nil_append]at hd;refine⟨[],⟨1,fun f hf=> ?_⟩,rfl⟩
  cases f with
  | zero=>omega
  | succ f =>
   rw[tyM,if_pos (by rw[fD hd];decide),zO hd,cN,List.append_nil]
   rfl
 | g::fs,hR,n,hsh,acc,a,o,rest,ho,hd=>by
  obtain⟨hg,hoff⟩:=hR g (by simp)
  have main: ∀(a1:Nat),ts.drop a1=pcK (g.off,tyK g)++(tlK (fs.map fun f=>(f.off,tyK f))++opT [125]::rest) →
    ∃fs' F,(∀f,F≤f→(rb (takM ts 3 a1 o) fun n a o=>rb (expM ts [58] a o) fun _ a o=>rb (tyM ts f .ty a o) fun x a o=>tyM ts f (.fl (acc++[x.at_ n.n])) a o)=some (.ok (.mk 0 5 0 0 [] (acc++fs')) (a1+(pcK (g.off,tyK g)).length+(tlK (fs.map fun f=>(f.off,tyK f))).length+1) (o-1)))∧fs'.map fdV=(g::fs).map fdV:=by
   intro a1 h1;unfold pcK at h1;simp only[List.cons_append]at h1;have h2:=cO h1;have h3:=cO h2;obtain⟨t',⟨F,hF⟩,ht⟩:=hg n _ o _ (hsh g (by simp)) ho h3
   have h4:=mY h3;have hne: ¬(acc++[t'.at_ ((g.off.toNat:Nat):Int)]).length=0:=by simp
   obtain⟨fs',⟨G,hG⟩,hfs⟩:=NW fs (fun x hx=>hR x (by simp[hx])) n (fun x hx=>hsh x (by simp[hx])) (acc++[t'.at_ ((g.off.toNat:Nat):Int)]) _ o rest ho (by rw[if_neg hne];exact h4)
   rw[if_neg hne]at hG;refine⟨t'.at_ ((g.off.toNat:Nat):Int)::fs',F+G,fun f hf=> ?_,?_⟩
   ·rw[BP h1,cN,kV h2,cN,hF f (by omega),cN]
    show tyM ts f (.fl (acc++[t'.at_ ((g.off.toNat:Nat):Int)])) _ _=_
    rw[hG f (by omega),List.append_assoc]
    show some _=some _
    congr 2
    simp only[pcK,List.length_cons];omega
   ·rw[List.map_cons,List.map_cons,hfs,QY ht (by omega)]
  by_cases h0:acc.length=0
  ·rw[if_pos h0]at hd ⊢
   rw[List.map_cons]at hd ⊢;unfold flK at hd ⊢;rw[List.append_assoc]at hd;obtain⟨fs',F,hF,hfs⟩:=main a hd;refine⟨fs',⟨F+1,fun f hf=> ?_⟩,hfs⟩
   cases f with
   | zero=>omega
   | succ f =>
    have hs:sees ts a [125]=false:=by
     unfold pcK at hd;unfold sees;rw[cG hd];rfl
    rw[tyM,if_neg (by rw[hs];decide),if_neg (by omega)]
    show rb (takM ts 3 a o) _=_
    rw[hF f (by omega),List.length_append,Nat.add_assoc a]
  ·rw[if_neg h0]at hd ⊢
   rw[List.map_cons]at hd ⊢;unfold tlK at hd ⊢;rw[List.cons_append,List.append_assoc]at hd;obtain⟨fs',F,hF,hfs⟩:=main (a+1) (cO hd);refine⟨fs',⟨F+1,fun f hf=> ?_⟩,hfs⟩
   cases f with
   | zero=>omega
   | succ f =>
    rw[tyM,if_neg (by rw[fD hd];decide),if_pos (by omega),kV hd,cN,hF f (by omega)]
    show some _=some _
    congr 2
    simp only[List.length_cons,List.length_append];omega
theorem TN: ∀t:Ty,frm t=true→RdT ts t:=by
 intro t
 induction t using Ty.induct with
 | h o k s c es fs ie iff_ =>
 intro hf n a p rest hsh ho hd
 obtain⟨hb,hfo,h1,h2⟩:=oW hf
 rw[xB]at hsh
 simp only[Bool.and_eq_true,decide_eq_true_eq,List.all_eq_true]at hsh
 obtain⟨⟨hn1,se⟩,sf⟩:=hsh
 obtain⟨m,rfl⟩: ∃m,n=m+1:=⟨n-1,by omega⟩
 rw[show((m+1:Nat):Int)-1=(m:Int) by omega]at se sf
 cases Ic hb with
 | unk =>
  have hd:ts.drop a=opT [63]::rest:=by rw[hd,lK];rfl
  refine⟨.mk 0 0 0 0 [] [],⟨1,fun f hf=> ?_⟩,by rw[dY,dY]⟩
  cases f with
  | zero=>omega
  | succ f =>
   rw[tyM,if_neg (by rw[cG hd];decide),if_pos (by rw[fD hd];decide),lK]
   rfl
 | any =>
  have hd:ts.drop a=idT [97,110,121]::rest:=by rw[hd,lK];rfl
  refine⟨.mk 0 6 0 0 [] [],⟨1,fun f hf=> ?_⟩,by rw[dY,dY]⟩
  cases f with
  | zero=>omega
  | succ f =>
   rw[tyM,if_pos (by rw[cG hd];rfl),cG hd,lK]
   rfl
 | num k s hk hs =>
  have hK:tyK (.mk o k s 0 [] [])=[idT (Fu k s)]:=by rw[lK,if_neg (by omega),if_neg (by omega),if_pos hk]
  rw[hK]at hd ⊢;have hd:ts.drop a=idT (Fu k s)::rest:=hd;refine⟨.mk 0 k s 0 [] [],⟨1,fun f hf=> ?_⟩,by rw[dY,dY]⟩
  cases f with
  | zero=>omega
  | succ f =>
   rw[tyM,if_pos (by rw[cG hd];rfl),cG hd,show intR (idT (Fu k s)).text=some (k,s)from UD hk hs]
   rfl
 | ptr e =>
  have hK:tyK (.mk o 3 0 0 [e] [])=opT [42]::tyK e:=by rw[lK];rfl
  rw[hK]at hd ⊢;rw[List.cons_append]at hd;obtain⟨t',⟨F,hF⟩,ht⟩:=ie e (by simp) (h2 e (by simp)) m _ (p+1) rest (se e (by simp)) (by omega) (cO hd)
  refine⟨.mk 0 3 0 0 [t'] [],⟨F+1,fun f hf=> ?_⟩,by rw[dY,dY,List.map_cons,List.map_cons,ht]⟩
  cases f with
  | zero=>omega
  | succ f =>
   rw[tyM,if_neg (by rw[cG hd];decide),if_neg (by rw[fD hd];decide),if_pos (by rw[fD hd];decide),rU hd (by omega),cN,hF f (by omega),cN]
   show some _=some _
   congr 2<;>(simp only[List.length_cons]<;>omega)
 | arr c e hc =>
  have hK:tyK (.mk o 4 0 c [e] [])=opT [91]::nuT c.toNat::opT [93]::tyK e:=by rw[lK];rfl
  rw[hK]at hd ⊢;simp only[List.cons_append]at hd;have d2:=cO hd;have d3:=cO d2;obtain⟨t',⟨F,hF⟩,ht⟩:=ie e (by simp) (h2 e (by simp)) m _ (p+1) rest (se e (by simp)) (by omega) (cO d3)
  refine⟨.mk 0 4 0 ((c.toNat:Nat):Int) [t'] [],⟨F+1,fun f hf=> ?_⟩,by rw[dY,dY,List.map_cons,List.map_cons,ht,show((c.toNat:Nat):Int)=c by omega]⟩
  cases f with
  | zero=>omega
  | succ f =>
   rw[tyM,if_neg (by rw[cG hd];decide),if_neg (by rw[fD hd];decide),if_neg (by rw[fD hd];decide),if_pos (by rw[fD hd];decide),rU hd (by omega),cN,BP d2,cN,kV d3,cN,hF f (by omega),cN]
   show some _=some _
   congr 2<;>(simp only[List.length_cons]<;>omega)
 | str fs =>
  have hK:tyK (.mk o 5 0 0 [] fs)=opT [123]::(flK (fs.map fun f=>(f.off,tyK f))++[opT [125]]):=by rw[lK];rfl
  rw[hK]at hd ⊢;simp only[List.cons_append,List.append_assoc,List.nil_append]at hd;have hoff:=Ut hfo;obtain⟨fs',⟨F,hF⟩,hfs⟩:=NW fs (fun f hf=>⟨iff_ f hf (h1 f hf),(hoff f hf).1⟩) m sf [] (a+1) (p+1) rest (by omega) (cO hd)
  refine⟨.mk 0 5 0 0 [] fs',⟨F+1,fun f hf=> ?_⟩,by rw[dY,dY,hfs]⟩
  cases f with
  | zero=>omega
  | succ f =>
   rw[tyM,if_neg (by rw[cG hd];decide),if_neg (by rw[fD hd];decide),if_neg (by rw[fD hd];decide),if_neg (by rw[fD hd];decide),if_pos (by rw[fD hd];decide),rU hd (by omega),cN,hF f (by omega)]
   show some _=some _
   congr 2
   show _+(flK (fs.map fun f=>(f.off,tyK f))).length+1=_
   simp only[List.length_cons,List.length_append,List.length_nil];omega
end
end Go.Proofs.YtmbmmckagcdapaaGreatDoor
namespace Go.Proofs.YtmbmmckagcdapaaGreatDoor
open Go.RowKit
def rY:=A16 @cL @pP @gV @eU @eC @gG @nZ @Ab @vN @Aa @lH @cK @pJ @gU @dG @dD
theorem Sq: ∀(a:Ex),fitE a→ ∀b,fitE b→PC Tryz.prog 24 [exV a,exV b] (.im (.bool (samE a b))):=by
 refine Ex.induct fun o k s w l hL=> ?_
 intro hfit b hfb
 obtain⟨o',k',s',w',l'⟩:=b
 obtain⟨hl1,hfL⟩:=nG hfit
 obtain⟨hl2,hfL'⟩:=nG hfb
 rw[Ua]
 simp only[Ex.op,Ex.n,Ex.name,Ex.width,Ex.l]
 refine PC.enter 60 Tryz.func24 rfl (by decide) rfl rfl (s:=[(0,exV (.mk o k s w l)),(1,exV (.mk o' k' s' w' l'))]) (by rfl) ?_
 simp only[gQ]
 refine wG rY TI ?_
 refine cX rfl rfl (fun hE=> ?_) (fun hE=> ?_)
 ·have hr:(o==o'&&k==k'&&eqS s s'&&w==w'&&all2 samE l l')=false:=by
   simp only[Bool.or_eq_true,bne_iff_ne,ne_eq,Bool.not_eq_true',decide_eq_false_iff_not,beq_eq_false_iff_ne]at hE;rcases hE with (((hE|hE)|hE)|hE)|hE
   ·simp[hE]
   ·simp[hE]
   ·have:eqS s s'=false:=by unfold eqS;simpa using hE
    simp[this]
   ·simp[hE]
   ·rw[MX (by omega)];simp
  rw[hr];refine wG rY TI ?_;exact aC
 ·simp only[Bool.or_eq_false_iff,bne_eq_false_iff_eq,beq_iff_eq,Bool.not_eq_false',decide_eq_true_eq]at hE
  obtain⟨⟨⟨⟨rfl,rfl⟩,hs⟩,rfl⟩,h4⟩:=hE;obtain rfl:s=s':=(uY s s').1 (by unfold eqS;simpa using hs)
  have h4:l.length=l'.length:=by omega
  have hr:(o==o&&k==k&&eqS s s&&w==w&&all2 samE l l')=all2 samE l l':=by simp[Oh]
  rw[hr];clear hr hs;refine wG rY TI ?_;refine aV ?_;refine ALp.cutP 2 [(2,.pt 0 0),(3,.pt 1 0),(5,(.im (.int .i64 ((((0:Nat)):Int)))))] [.box [.im (.int .i64 o),.im (.int .u32 k),.im (.string s),.im (.int .i64 w),.sl (l.map exV) .ro],.box [.im (.int .i64 o),.im (.int .u32 k),.im (.string s),.im (.int .i64 w),.sl (l'.map exV) .ro]] (A4 @aD @aL @aE @aO) ?_;refine ALp.upto l.length (to2 samE l l') (fun m=>⟨dn 60 [(2,.pt 0 0),(3,.pt 1 0),(5,(.im (.int .i64 ((((m:Nat)):Int)))))],ofl [.box [.im (.int .i64 o),.im (.int .u32 k),.im (.string s),.im (.int .i64 w),.sl (l.map exV) .ro],.box [.im (.int .i64 o),.im (.int .u32 k),.im (.string s),.im (.int .i64 w),.sl (l'.map exV) .ro]]⟩) ?_ 0 (Nat.zero_le _) (to2.zero _ _ _)
  intro m hm hI hnext
  by_cases hlt:m<l.length
  ·have hlt2:m<l'.length:=by omega
   have hlt':(m:Int)<(l.length:Int):=by omega
   have hlt2':(m:Int)<(l'.length:Int):=by omega
   have hg:=bE hlt;have hg2:=bE hlt2;have hm1:=aP hlt (by omega)
   have hc:=hL l[m] (List.getElem_mem hlt) (hfL _ (List.getElem_mem hlt)) l'[m] (hfL' _ (List.getElem_mem hlt2));refine wdG rY (A5 hlt' hlt2' hg hg2 EX) ?_;refine AR.callP hc @bI (A4 @aD @aL @aE @aO) ?_;cases hs:samE l[m] l'[m]with
   | false =>
    rw[MY hlt hlt2 hs];refine goG rY hs ?_;refine wdG rY TI ?_;exact aC
   | true =>
    refine goG rY hs ?_;refine wdG rY hm1 ?_;refine ALp.cutP 2 [(2,.pt 0 0),(3,.pt 1 0),(5,(.im (.int .i64 ((((m+1:Nat)):Int)))))] [.box [.im (.int .i64 o),.im (.int .u32 k),.im (.string s),.im (.int .i64 w),.sl (l.map exV) .ro],.box [.im (.int .i64 o),.im (.int .u32 k),.im (.string s),.im (.int .i64 w),.sl (l'.map exV) .ro]] (A4 @aD @aL @aE @aO) ?_;exact hnext (m+1) (by omega) (by omega) (hI.succ hlt hlt2 hs)
  obtain rfl:m=l.length:=by omega
  rw[hI.all h4];clear hnext hI;refine wG rY @Int.lt_irrefl ?_;exact aC
def mL:=A16 @cL @sK @pO @gH @pL @pK @sI @kZ @qW @vL @vK @mC @jH @mT @cK (A3 @sG @mN @gF)
def sD:=A8 @bR @bT @bS @bU @aD @aL @aE @aO
theorem GQ: ∀(a:Ty),fit a→PC Tryz.prog 98 [tyV a,tyV a] (.im (.bool (true))):=by
 refine Ty.induct fun o k s c es fs hT hF=> ?_
 intro hfit
 obtain⟨hl1,hl2,hfE,hfF⟩:=kF hfit
 refine PC.enter 99 Tryz.func98 rfl (by decide) rfl rfl (s:=[(0,tyV (.mk o k s c es fs)),(1,tyV (.mk o k s c es fs))]) (by rfl) ?_
 simp only[dY]
 refine wG mL TI ?_
 refine aV ?_
 refine ALp.cutP 2 [(2,.pt 0 0),(3,.pt 1 0),(5,(.im (.int .i64 ((((0:Nat)):Int)))))] [.box [.im (.int .i64 k),.im (.int .i64 s),.im (.int .i64 c),.sl (es.map tyV) .ro,.sl (fs.map fdV) .ro],.box [.im (.int .i64 k),.im (.int .i64 s),.im (.int .i64 c),.sl (es.map tyV) .ro,.sl (fs.map fdV) .ro]] sD ?_
 refine ALp.upto es.length (fun _=>True) (fun m=>⟨dn 99 [(2,.pt 0 0),(3,.pt 1 0),(5,(.im (.int .i64 ((((m:Nat)):Int)))))],ofl [.box [.im (.int .i64 k),.im (.int .i64 s),.im (.int .i64 c),.sl (es.map tyV) .ro,.sl (fs.map fdV) .ro],.box [.im (.int .i64 k),.im (.int .i64 s),.im (.int .i64 c),.sl (es.map tyV) .ro,.sl (fs.map fdV) .ro]]⟩) ?_ 0 (Nat.zero_le _) trivial
 intro m hm hI hnext
 by_cases hlt:m<es.length
 ·have hlt':(m:Int)<(es.length:Int):=by omega
  have hg:=bE hlt;have hm1:=aP hlt (by omega)
  have hc:=hT es[m] (List.getElem_mem hlt) (hfE _ (List.getElem_mem hlt));refine wdG mL (A3 hlt' hg TY) ?_;refine AR.callP hc @bW sD ?_;refine goG mL TI ?_;refine wdG mL hm1 ?_;refine ALp.cutP 2 [(2,.pt 0 0),(3,.pt 1 0),(5,(.im (.int .i64 ((((m+1:Nat)):Int)))))] [.box [.im (.int .i64 k),.im (.int .i64 s),.im (.int .i64 c),.sl (es.map tyV) .ro,.sl (fs.map fdV) .ro],.box [.im (.int .i64 k),.im (.int .i64 s),.im (.int .i64 c),.sl (es.map tyV) .ro,.sl (fs.map fdV) .ro]] sD ?_;exact hnext (m+1) (by omega) (by omega) trivial
 obtain rfl:m=es.length:=by omega
 clear hnext hI
 refine whG mL @Int.lt_irrefl ?_
 refine Blk'.here (Thn.n ?_)
 refine wG mL TI ?_
 refine aV ?_
 refine ALp.cutP 2 [(2,.pt 0 0),(3,.pt 1 0),(6,(.im (.int .i64 ((((0:Nat)):Int)))))] [.box [.im (.int .i64 k),.im (.int .i64 s),.im (.int .i64 c),.sl (es.map tyV) .ro,.sl (fs.map fdV) .ro],.box [.im (.int .i64 k),.im (.int .i64 s),.im (.int .i64 c),.sl (es.map tyV) .ro,.sl (fs.map fdV) .ro]] sD ?_
 refine ALp.upto fs.length (fun _=>True) (fun m=>⟨dn 99 [(2,.pt 0 0),(3,.pt 1 0),(6,(.im (.int .i64 ((((m:Nat)):Int)))))],ofl [.box [.im (.int .i64 k),.im (.int .i64 s),.im (.int .i64 c),.sl (es.map tyV) .ro,.sl (fs.map fdV) .ro],.box [.im (.int .i64 k),.im (.int .i64 s),.im (.int .i64 c),.sl (es.map tyV) .ro,.sl (fs.map fdV) .ro]]⟩) ?_ 0 (Nat.zero_le _) trivial
 intro m hm hI hnext
 by_cases hlt:m<fs.length
 ·have hlt':(m:Int)<(fs.length:Int):=by omega
  have hg:=bE hlt;have hm1:=aP hlt (by omega)
  have hc:=hF fs[m] (List.getElem_mem hlt) (hfF _ (List.getElem_mem hlt));refine wdG mL (A3 hlt' hg TY) ?_;refine AR.callP hc @bW sD ?_;refine goG mL TI ?_;refine wdG mL hm1 ?_;refine ALp.cutP 2 [(2,.pt 0 0),(3,.pt 1 0),(6,(.im (.int .i64 ((((m+1:Nat)):Int)))))] [.box [.im (.int .i64 k),.im (.int .i64 s),.im (.int .i64 c),.sl (es.map tyV) .ro,.sl (fs.map fdV) .ro],.box [.im (.int .i64 k),.im (.int .i64 s),.im (.int .i64 c),.sl (es.map tyV) .ro,.sl (fs.map fdV) .ro]] sD ?_;exact hnext (m+1) (by omega) (by omega) trivial
 obtain rfl:m=fs.length:=by omega
 clear hnext hI
 refine wG mL @Int.lt_irrefl ?_
 exact aC
def xZ:=A8 @eC @gH @kC @qV @nY @dD @gF @jM
theorem GP(l:List Va)(hl:xQ l)(hn:l.length≤4194304):PC Tryz.prog 46 [.sl (l.map vaV) .ro,.sl (l.map vaV) .ro] (.im (.bool (true))):=by
 refine PC.enter 42 Tryz.func46 rfl (by decide) rfl rfl (s:=[(0,.sl (l.map vaV) .ro),(1,.sl (l.map vaV) .ro)]) (by rfl) ?_
 refine wG xZ @List.length_map.{0,0} ?_
 refine aV ?_
 refine ALp.cutP 0 [(0,.sl (l.map vaV) .ro),(1,.sl (l.map vaV) .ro),(5,(.im (.int .i64 ((((0:Nat)):Int)))))] [] sD ?_
 refine ALp.upto l.length (fun _=>True) (fun m=>⟨dn 42 [(0,.sl (l.map vaV) .ro),(1,.sl (l.map vaV) .ro),(5,(.im (.int .i64 ((((m:Nat)):Int)))))],ofl []⟩) ?_ 0 (Nat.zero_le _) trivial
 intro m hm hI hnext
 by_cases hlt:m<l.length
 ·have hlt':(m:Int)<(l.length:Int):=by omega
  have hg:=bE hlt;have hm1:=aP hlt (by omega)
  obtain⟨hty,hnm⟩:=hl _ (List.getElem_mem hlt);have hc:=GQ l[m].ty hty;refine wdG xZ (A3 hlt' hg VA) ?_;refine AR.callP hc @bW sD ?_;refine goG xZ TI ?_;refine wdG xZ hm1 ?_;refine ALp.cutP 0 [(0,.sl (l.map vaV) .ro),(1,.sl (l.map vaV) .ro),(5,(.im (.int .i64 ((((m+1:Nat)):Int)))))] [] sD ?_;exact hnext (m+1) (by omega) (by omega) trivial
 obtain rfl:m=l.length:=by omega
 clear hnext hI
 refine wG xZ @Int.lt_irrefl ?_
 exact aC
end Go.Proofs.YtmbmmckagcdapaaGreatDoor
