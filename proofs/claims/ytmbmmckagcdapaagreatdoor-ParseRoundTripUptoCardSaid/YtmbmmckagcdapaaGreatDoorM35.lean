import Derived.Test.YtmbmmckagcdapaaGreatDoorM11
import Derived.Test.YtmbmmckagcdapaaGreatDoorM29
import Derived.Test.YtmbmmckagcdapaaGreatDoorM15
import Derived.Test.YtmbmmckagcdapaaGreatDoorM34
import Derived.Test.YtmbmmckagcdapaaGreatDoorM32
import Derived.KernelRfl
import Derived.Test.YtmbmmckagcdapaaGreatDoorM13
import Derived.Test.YtmbmmckagcdapaaGreatDoorM16
import Derived.Test.YtmbmmckagcdapaaGreatDoorM04
set_option linter.all false
namespace Go.Proofs.YtmbmmckagcdapaaGreatDoor
open Go.RowKit
def qL:=A14 @kI @cO @jP @dT @mB @jE @Ba @oH @rJ @rI @jD @cN @iS @dC
theorem Tp(f:Fun)(k:Nat)(hk:k≤4194304)(b b1 b2 b3 b4:Bs)(h1:b++lnT k ([102,117,110,99,32]++(f.name.data.toList++[32,123]))=b1)(hl1:b1.length≤140737488355328)
  (hv:DC Tryz.prog 35 [.pt 0 0,.sl (f.vars.map vaV) .ro] [.box [.nb 0 PQ,.sl ((b1).map byB) (.mine 1),(.im (.int .i64 (((k+1:Nat):Int))))],.tip 5 1 (b1).length] (.tu []) [.box [.nb 0 PQ,.sl ((b2).map byB) (.mine 1),(.im (.int .i64 (((k+1:Nat):Int))))],.tip 5 1 (b2).length])
  (hn:DC Tryz.prog 86 [.pt 0 0,.sl (f.body.map ndV) .ro] [.box [.nb 0 PQ,.sl ((b2).map byB) (.mine 1),(.im (.int .i64 ((k:Int))))],.tip 5 1 (b2).length] (.tu []) [.box [.nb 0 PQ,.sl ((b3).map byB) (.mine 1),(.im (.int .i64 ((k:Int))))],.tip 5 1 (b3).length])
  (h4:b3++lnT k [125]=b4) (hl4:b4.length≤140737488355328) :
  DC Tryz.prog 39 [.pt 0 0,fnV f] [.box [.nb 0 PQ,.sl ((b).map byB) (.mine 1),(.im (.int .i64 ((k:Int))))],.tip 5 1 (b).length] (.tu []) [.box [.nb 0 PQ,.sl ((b4).map byB) (.mine 1),(.im (.int .i64 ((k:Int))))],.tip 5 1 (b4).length]:=by
 have hw1:IntKind.i64.wrap ((k:Int)+1)=((k+1:Nat):Int):=by rw[cU (by omega)];omega
 have hw2:IntKind.i64.wrap (((k+1:Nat):Int)-1)=(k:Int):=by rw[cU (by omega)];omega
 have q1:=vV b [102,117,110,99,32] f.name.data.toList [32,123] b1 k h1 hl1
 rw[Qo]at q1
 have q4:=mU b3 [125] b4 k h4 hl4
 rw[oO]
 refine DC.enter 34 Tryz.func39 rfl (by decide) rfl rfl (s:=[(0,.pt 0 0),(1,.ag [.im (.string f.name),.sl (f.vars.map vaV) .ro,.sl (f.body.map ndV) .ro])]) (by rfl) ?_
 refine wG qL TI ?_
 refine aA [0,1] q1 TI (A12 aW aH aJ aZ @aD @aE bC aB gX fY @aO @aQ) (A10 cF bK bO @aS @aT fF cK eX @bF @bE) ?_
 refine goG qL TI ?_
 refine wG qL hw1 ?_
 refine aA [0,1] hv TI (A12 aW aH aJ aZ @aD @aE bC aB gX fY @aO @aQ) (A10 cF bK bO @aS @aT fF cK eX @bF @bE) ?_
 refine goG qL TI ?_
 refine wG qL hw2 ?_
 refine aA [0,1] hn TI (A12 aW aH aJ aZ @aD @aE bC aB gX fY @aO @aQ) (A10 cF bK bO @aS @aT fF cK eX @bF @bE) ?_
 refine goG qL TI ?_
 refine wG qL TI ?_
 refine aA [0,1] q4 TI (A12 aW aH aJ aZ @aD @aE bC aB gX fY @aO @aQ) (A10 cF bK bO @aS @aT fF cK eX @bF @bE) ?_
 refine goG qL TI ?_
 refine wG qL TI ?_
 refine aR (rs:=[]) rfl (by first|exact .inl rfl|exact .inr rfl) (finG qL) ?_ rfl (idG (A12 aW aH aJ aZ @aD @aE bC aB gX fY @aO @aQ))
 all_goals exact wkG (A12 aW aH aJ aZ @aD @aE bC aB gX fY @aO @aQ)
theorem ON(b x y z u v r:Bs)(k:Nat)(hr:b++lnT k (x++(y++(z++(u++v))))=r)(hlen:r.length≤140737488355328):DC Tryz.prog 36 [.pt 0 0,.sl [.im (.string ⟨(x).toArray⟩),.im (.string ⟨(y).toArray⟩),.im (.string ⟨(z).toArray⟩),.im (.string ⟨(u).toArray⟩),.im (.string ⟨(v).toArray⟩)] .full] [.box [.nb 0 PQ,.sl ((b).map byB) (.mine 1),(.im (.int .i64 ((k:Int))))],.tip 5 1 (b).length] (.tu []) [.box [.nb 0 PQ,.sl ((r).map byB) (.mine 1),(.im (.int .i64 ((k:Int))))],.tip 5 1 (r).length]:=by
 subst hr
 exact zF<|Lj b [x,y,z,u,v] (x++(y++(z++(u++v)))) (by simp) k (by simp) hlen
theorem Xt{l:List Va}{m:Nat}(k:Nat)(h:m<l.length):vasT k (l.take (m+1))=vasT k (l.take m)++varT k l[m]:=by
 unfold vasT
 rw[List.take_succ_eq_append_getElem h,List.map_append,List.flatten_append]
 simp
theorem KW{l:List Va}{m k:Nat}:(vasT k (l.take m)).length≤(vasT k l).length:=by
 conv=>rhs;rw[←List.take_append_drop m l]
 unfold vasT
 rw[List.map_append,List.flatten_append,List.length_append]
 exact Nat.le_add_right _ _
theorem WR(t:Ty)(hf:fit t)(hg:good t=true)(hl:(txT t).length≤140737488355328):PC Tryz.prog 81 [tyV t] (.im (.string ⟨(txT t).toArray⟩)):=by
 have:=AX t hf fun _=>hl
 rw[prT,if_pos hg]at this
 exact this
def sI:=A12 @dT @gK @Cz @mB @tC @kG @jE @vX @oF @dC @gI @jO
def Av:=A10 @aD @aE bC aB @aO @aQ @bT @bS @bV @bU
def VX:=A11 @aS @aT fF cK eX @bF @bE @rL @rM @rZ @sA
theorem Wt(l:List Va)(k:Nat)(b:Bs)(hl:l.length≤4194304)(hf:yI l)(hg: ∀v∈l,good v.ty=true)(hlen:(b++vasT k l).length≤140737488355328) :
  DC Tryz.prog 35 [.pt 0 0,.sl (l.map vaV) .ro] [.box [.nb 0 PQ,.sl ((b).map byB) (.mine 1),(.im (.int .i64 ((k:Int))))],.tip 5 1 (b).length] (.tu []) [.box [.nb 0 PQ,.sl (((b++vasT k l)).map byB) (.mine 1),(.im (.int .i64 ((k:Int))))],.tip 5 1 ((b++vasT k l)).length]:=by
 obtain⟨Bf,hBf⟩: ∃Bf:Nat→Bs,∀m,Bf m=b++vasT k (l.take m):=⟨_,fun _=>rfl⟩
 have h0:Bf 0=b:=by rw[hBf];simp[vasT]
 have hend:Bf l.length=b++vasT k l:=by rw[hBf,List.take_length]
 rw[←hend,←h0]
 refine DC.enter 21 Tryz.func35 rfl (by decide) rfl rfl (s:=[(0,.pt 0 0),(1,.sl (l.map vaV) .ro)]) (by rfl) ?_
 refine wG sI @List.length_map.{0,0} ?_
 refine aP ?_
 refine ALp.cutP 2 [(0,.pt 0 0),(6,.sl (l.map vaV) .ro),(7,(.im (.int .i64 (l.length)))),(8,(.im (.int .i64 ((((0:Nat)):Int)))))] [.box [.nb 0 PQ,.sl (((Bf 0)).map byB) (.mine 1),(.im (.int .i64 ((k:Int))))],.tip 5 1 ((Bf 0)).length] Av ?_
 refine ALp.upto l.length (fun _=>True) (fun m=>⟨dn 21 [(0,.pt 0 0),(6,.sl (l.map vaV) .ro),(7,(.im (.int .i64 (l.length)))),(8,(.im (.int .i64 ((((m:Nat)):Int)))))],ofl [.box [.nb 0 PQ,.sl (((Bf m)).map byB) (.mine 1),(.im (.int .i64 ((k:Int))))],.tip 5 1 ((Bf m)).length]⟩) ?_ 0 (Nat.zero_le _) trivial
 intro m hm _ hnext
 by_cases hlt:m<l.length
 ·have hlt':(m:Int)<(l.length:Int):=by omega
  have hm1:=aL hlt (by omega)
  have hgv:=bB hlt;have hle:=KW (l:=l) (m:=m+1) (k:=k);have hB:Bf m++varT k l[m]=Bf (m+1):=by rw[hBf,hBf,Xt k hlt,List.append_assoc]
  have hBl:(Bf (m+1)).length≤140737488355328:=by
   rw[hBf,List.length_append];rw[List.length_append]at hlen;omega
  have hvl:(varT k l[m]).length≤(Bf (m+1)).length:=by rw[←hB,List.length_append];omega
  have hp:=WR l[m].ty (hf _ (List.getElem_mem hlt)).1 (hg _ (List.getElem_mem hlt)) (by
   have:(txT l[m].ty).length≤(varT k l[m]).length:=by unfold varT lnT;simp only[List.length_append,List.length_cons,List.length_nil];omega
   omega)
  have hline:=ON (Bf m) [118,97,114,32] l[m].name.data.toList [58,32] (txT l[m].ty) [59] (Bf (m+1)) k hB hBl;rw[Qo]at hline;refine wdG sI (A3 hlt' hgv VA) ?_;refine AR.callP hp @bP Av ?_;refine goG sI TI ?_;refine aA [0,1] hline TI Av VX ?_;refine goG sI TI ?_;refine wdG sI hm1 ?_;refine ALp.cutP 2 [(0,.pt 0 0),(6,.sl (l.map vaV) .ro),(7,(.im (.int .i64 (l.length)))),(8,(.im (.int .i64 ((((m+1:Nat)):Int)))))] [.box [.nb 0 PQ,.sl (((Bf (m+1))).map byB) (.mine 1),(.im (.int .i64 ((k:Int))))],.tip 5 1 ((Bf (m+1))).length] Av ?_;exact hnext (m+1) (by omega) (by omega) trivial
 obtain rfl:m=l.length:=by omega
 clear hnext
 refine wG sI @Int.lt_irrefl ?_
 refine aR (rs:=[]) rfl (by first|exact .inl rfl|exact .inr rfl) (finG sI) ?_ rfl (idG Av)
 all_goals exact wkG Av
def toP{α:Type}(p:α→Bool)(l:List α)(m:Nat):Prop:= ∀j (h:j<l.length),j<m→p l[j]=true
theorem toP.zero{α:Type}(p:α→Bool)(l:List α):toP p l 0:=fun j _ h=>absurd h (Nat.not_lt_zero j)
theorem toP.succ{α:Type}{p:α→Bool}{l:List α}{m:Nat}(h:toP p l m)(h1:m<l.length)(hp:p l[m]=true):toP p l (m+1):=fun j j1 hj=>by
 rcases Nat.lt_succ_iff_lt_or_eq.1 hj with hj|rfl
 ·exact h j j1 hj
 ·exact hp
theorem toP.all{α:Type}{p:α→Bool}{l:List α}(h:toP p l l.length):l.all p=true:=by
 rw[List.all_eq_true]
 intro x hx
 obtain⟨j,hj,rfl⟩:=List.getElem_of_mem hx
 exact h j hj hj
theorem Ul{α:Type}{p:α→Bool}{l:List α}{m:Nat}(h:m<l.length)(hp:p l[m]=false):l.all p=false:=by
 rw[←Bool.not_eq_true,List.all_eq_true]
 intro k
 rw[k _ (List.getElem_mem h)]at hp
 cases hp
def ST(v:Va):Bool:=nameT v.name&&decide (chk v.ty=0)
def SU(p:Nd×Bool):Bool:= !(p.1.e.any fun x=> !esh x 64)&&stT p.1
def prtB(f:Fun):Bool:=nameT f.name&&(decide (dep f.body≤64)&&(f.vars.all ST&&(allL f.body false).all SU))
theorem YO:PQ%1000000=73∧PQ/1000000=1:=by decide
def bL:=A16 @nM @iV @cO @jP @iA @fE @mB @kT @nZ @gJ @jE @iP @iO @lI @lH (A9 @lG @rI @nL @gY @cN @iS @hX @dP @dC)
set_option maxHeartbeats 4000000 in
theorem UY: ∀t:Nd,fitN t→okT t=true→ ∀(k:Nat) (b:Bs),(k:Int)+2*depT t≤4194304→(b++ndT t k).length≤140737488355328 →
  DC Tryz.prog 153 [.pt 0 0,ndV t] [.box [.nb 0 PQ,.sl ((b).map byB) (.mine 1),(.im (.int .i64 ((k:Int))))],.tip 5 1 (b).length] (.tu []) [.box [.nb 0 PQ,.sl (((b++ndT t k)).map byB) (.mine 1),(.im (.int .i64 ((k:Int))))],.tip 5 1 ((b++ndT t k)).length]:=by
 refine Nd.induct fun o w n e l el cs h1 h2 h3=> ?_
 intro hf hok k b hd hlen
 rw[zV]at hok
 simp only[Bool.and_eq_true,List.all_eq_true]at hok
 obtain⟨hs,o1,o2,o3⟩:=hok
 obtain⟨_,e2,e3,_⟩:=iD hs
 obtain⟨_,_,⟨_,he⟩,f1,f2,f3,f4⟩:=dR hf
 simp only[Nd.kind,Nd.e,Nd.l,Nd.el,Nd.cs]at e2 e3 he f1 f2 f3 f4
 have hp:=Pm (.mk o w n e l el cs)
 have d1:=uV (t:= .mk o w n e l el cs) (c:=l) (List.mem_cons_self)
 have d2:=uV (t:= .mk o w n e l el cs) (c:=el) (List.mem_cons_of_mem _ List.mem_cons_self)
 have d3:=fun c hc=>uV (t:= .mk o w n e l el cs) (c:=c) (List.mem_cons_of_mem _ (List.mem_cons_of_mem _ hc))
 generalize hD:depT (.mk o w n e l el cs)=D at hd hp d1 d2 d3
 have N1:=fun(B:Bs) (hB:(B++lsT l (k+1)).length≤140737488355328)=>yO l k B f1.1 (by omega) hB fun t ht c hc=>h1 t ht (f1.2 t ht) (o1 t ht) (k+1) c (by have:=vE ht;omega) hc
 have N2:=fun(B:Bs) (hB:(B++lsT el (k+1)).length≤140737488355328)=>yO el k B f2.1 (by omega) hB fun t ht c hc=>h2 t ht (f2.2 t ht) (o2 t ht) (k+1) c (by have:=vE ht;omega) hc
 have N3:=fun(c:List Nd) (hc:c∈cs) (B:Bs) (hB:(B++lsT c (k+1+1)).length≤140737488355328)=>yO c (k+1) B (f4 c hc).1 (by have:=d3 c hc;have:=sB c;omega) hB fun t ht q hq=>h3 c hc t ht ((f4 c hc).2 t ht) (o3 c hc t ht) (k+1+1) q (by have:=vE ht;have:=d3 c hc;omega) hq
 clear h1 h2 h3 hD
 by_cases k6:o=6
 ·subst k6
  obtain⟨a,rfl⟩:=xX e2;rw[nd6]at hlen ⊢;have qa:=fun h=>wW a (he a (by simp)) (e3 a (by simp)) h
  obtain⟨B1,hB1⟩: ∃B1,b++lnT k ([105,102,32]++(txE a++[32,123]))=B1:=⟨_,rfl⟩
  obtain⟨B2,hB2⟩: ∃B2,B1++lsT l (k+1)=B2:=⟨_,rfl⟩
  have hta:(txE a).length≤B1.length:=by rw[←hB1];unfold lnT;simp only[List.length_append];omega
  have l12:B1.length≤B2.length:=by rw[←hB2,List.length_append];omega
  by_cases hel:el.length=0
  ·obtain⟨B5,hB5⟩: ∃B5,B2++lnT k [125]=B5:=⟨_,rfl⟩
   have hR:b++(lnT k ([105,102,32]++(txE a++[32,123]))++(lsT l (k+1)++((if el.length=0 then []else lnT k [125,32,101,108,115,101,32,123]++lsT el (k+1))++lnT k [125])))=B5:=by
    rw[if_pos hel,←hB5,←hB2,←hB1];simp only[List.append_assoc,List.nil_append]
   rw[hR]at hlen ⊢;have l25:B2.length≤B5.length:=by rw[←hB5,List.length_append];omega
   have q1:=vV b [105,102,32] (txE a) [32,123] B1 k hB1 (by omega)
   have q2:=N1 B1 (by rw[hB2];omega)
   rw[hB2]at q2;have q5:=mU B2 [125] B5 k hB5 hlen;have qt:=qa (by omega)
   have hel': ¬(el.length:Int)>0:=by omega
   clear hR hB1 hB2 hB5 N1 N2 N3;refine DC.enter 112 Tryz.func153 rfl (by decide) rfl rfl (s:=[(0,.pt 0 0),(1,ndV (.mk 6 w n [a] l el cs))]) (by rfl) ?_
   simp only[eP];refine wG bL (AI ND EX) ?_;refine AR.callP qt @bI (A8 aW aH aJ aZ @aD @aE bC aB) ?_;refine goG bL TI ?_;refine aA [0,1] q1 TI (A8 aW aH aJ aZ @aD @aE bC aB) (A8 cF bK bO @aS @aT fF cK eX) ?_;refine goG bL TI ?_;refine wG bL (AI ND EX) ?_;refine aA [0,1] q2 TI (A8 aW aH aJ aZ @aD @aE bC aB) (A8 cF bK bO @aS @aT fF cK eX) ?_;refine goG bL TI ?_;refine wG bL (A4 ND EX @List.length_map.{0,0} hel') ?_;refine aA [0,1] q5 TI (A8 aW aH aJ aZ @aD @aE bC aB) (A8 cF bK bO @aS @aT fF cK eX) ?_;refine goG bL TI ?_;refine wG bL TI ?_;refine aR (rs:=[]) rfl (by first|exact .inl rfl|exact .inr rfl) (finG bL) ?_ rfl (idG (A8 aW aH aJ aZ @aD @aE bC aB))
   all_goals exact wkG (A8 aW aH aJ aZ @aD @aE bC aB)
  ·obtain⟨B3,hB3⟩: ∃B3,B2++lnT k [125,32,101,108,115,101,32,123]=B3:=⟨_,rfl⟩
   obtain⟨B4,hB4⟩: ∃B4,B3++lsT el (k+1)=B4:=⟨_,rfl⟩
   obtain⟨B5,hB5⟩: ∃B5,B4++lnT k [125]=B5:=⟨_,rfl⟩
   have hR:b++(lnT k ([105,102,32]++(txE a++[32,123]))++(lsT l (k+1)++((if el.length=0 then []else lnT k [125,32,101,108,115,101,32,123]++lsT el (k+1))++lnT k [125])))=B5:=by
    rw[if_neg hel,←hB5,←hB4,←hB3,←hB2,←hB1];simp only[List.append_assoc]
   rw[hR]at hlen ⊢;have l23:B2.length≤B3.length:=by rw[←hB3,List.length_append];omega
   have l34:B3.length≤B4.length:=by rw[←hB4,List.length_append];omega
   have l45:B4.length≤B5.length:=by rw[←hB5,List.length_append];omega
   have q1:=vV b [105,102,32] (txE a) [32,123] B1 k hB1 (by omega)
   have q2:=N1 B1 (by rw[hB2];omega)
   rw[hB2]at q2;have q3:=mU B2 [125,32,101,108,115,101,32,123] B3 k hB3 (by omega)
   have q4:=N2 B3 (by rw[hB4];omega)
   rw[hB4]at q4;have q5:=mU B4 [125] B5 k hB5 hlen;have qt:=qa (by omega)
   have hel':(el.length:Int)>0:=by omega
   clear hR hB1 hB2 hB3 hB4 hB5 N1 N2 N3;refine DC.enter 112 Tryz.func153 rfl (by decide) rfl rfl (s:=[(0,.pt 0 0),(1,ndV (.mk 6 w n [a] l el cs))]) (by rfl) ?_
   simp only[eP];refine wG bL (AI ND EX) ?_;refine AR.callP qt @bI (A8 aW aH aJ aZ @aD @aE bC aB) ?_;refine goG bL TI ?_;refine aA [0,1] q1 TI (A8 aW aH aJ aZ @aD @aE bC aB) (A8 cF bK bO @aS @aT fF cK eX) ?_;refine goG bL TI ?_;refine wG bL (AI ND EX) ?_;refine aA [0,1] q2 TI (A8 aW aH aJ aZ @aD @aE bC aB) (A8 cF bK bO @aS @aT fF cK eX) ?_;refine goG bL TI ?_;refine wG bL (A4 ND EX @List.length_map.{0,0} hel') ?_;refine aA [0,1] q3 TI (A8 aW aH aJ aZ @aD @aE bC aB) (A8 cF bK bO @aS @aT fF cK eX) ?_;refine goG bL TI ?_;refine wG bL (AI ND EX) ?_;refine aA [0,1] q4 TI (A8 aW aH aJ aZ @aD @aE bC aB) (A8 cF bK bO @aS @aT fF cK eX) ?_;refine goG bL TI ?_;refine wG bL TI ?_;refine aA [0,1] q5 TI (A8 aW aH aJ aZ @aD @aE bC aB) (A8 cF bK bO @aS @aT fF cK eX) ?_;refine goG bL TI ?_;refine wG bL TI ?_;refine aR (rs:=[]) rfl (by first|exact .inl rfl|exact .inr rfl) (finG bL) ?_ rfl (idG (A8 aW aH aJ aZ @aD @aE bC aB))
   all_goals exact wkG (A8 aW aH aJ aZ @aD @aE bC aB)
 by_cases k7:o=7
 ·subst k7
  obtain⟨a,rfl⟩:=xX e2;rw[nd7]at hlen ⊢;obtain⟨B1,hB1⟩: ∃B1,b++lnT k ([119,104,105,108,101,32]++(txE a++[32,123]))=B1:=⟨_,rfl⟩
  obtain⟨B2,hB2⟩: ∃B2,B1++lsT l (k+1)=B2:=⟨_,rfl⟩
  have hta:(txE a).length≤B1.length:=by rw[←hB1];unfold lnT;simp only[List.length_append];omega
  have l12:B1.length≤B2.length:=by rw[←hB2,List.length_append];omega
  obtain⟨B5,hB5⟩: ∃B5,B2++lnT k [125]=B5:=⟨_,rfl⟩
  have hR:b++(lnT k ([119,104,105,108,101,32]++(txE a++[32,123]))++(lsT l (k+1)++lnT k [125]))=B5:=by
   rw[←hB5,←hB2,←hB1];simp only[List.append_assoc]
  rw[hR]at hlen ⊢;have l25:B2.length≤B5.length:=by rw[←hB5,List.length_append];omega
  have q1:=vV b [119,104,105,108,101,32] (txE a) [32,123] B1 k hB1 (by omega)
  have q2:=N1 B1 (by rw[hB2];omega)
  rw[hB2]at q2;have q5:=mU B2 [125] B5 k hB5 hlen;have qt:=wW a (he a (by simp)) (e3 a (by simp)) (by omega)
  clear hR hB1 hB2 hB5 N1 N2 N3;refine DC.enter 112 Tryz.func153 rfl (by decide) rfl rfl (s:=[(0,.pt 0 0),(1,ndV (.mk 7 w n [a] l el cs))]) (by rfl) ?_
  simp only[eP];refine wG bL (AI ND EX) ?_;refine AR.callP qt @bI (A8 aW aH aJ aZ @aD @aE bC aB) ?_;refine goG bL TI ?_;refine aA [0,1] q1 TI (A8 aW aH aJ aZ @aD @aE bC aB) (A8 cF bK bO @aS @aT fF cK eX) ?_;refine goG bL TI ?_;refine wG bL (AI ND EX) ?_;refine aA [0,1] q2 TI (A8 aW aH aJ aZ @aD @aE bC aB) (A8 cF bK bO @aS @aT fF cK eX) ?_;refine goG bL TI ?_;refine wG bL TI ?_;refine aA [0,1] q5 TI (A8 aW aH aJ aZ @aD @aE bC aB) (A8 cF bK bO @aS @aT fF cK eX) ?_;refine goG bL TI ?_;refine wG bL TI ?_;refine aR (rs:=[]) rfl (by first|exact .inl rfl|exact .inr rfl) (finG bL) ?_ rfl (idG (A8 aW aH aJ aZ @aD @aE bC aB))
  all_goals exact wkG (A8 aW aH aJ aZ @aD @aE bC aB)
 by_cases k8:o=8
 ·subst k8
  rw[nd8]at hlen ⊢;obtain⟨B1,hB1⟩: ∃B1,b++lnT k [108,111,111,112,32,123]=B1:=⟨_,rfl⟩
  obtain⟨B2,hB2⟩: ∃B2,B1++lsT l (k+1)=B2:=⟨_,rfl⟩
  have l12:B1.length≤B2.length:=by rw[←hB2,List.length_append];omega
  obtain⟨B5,hB5⟩: ∃B5,B2++lnT k [125]=B5:=⟨_,rfl⟩
  have hR:b++(lnT k [108,111,111,112,32,123]++(lsT l (k+1)++lnT k [125]))=B5:=by
   rw[←hB5,←hB2,←hB1];simp only[List.append_assoc]
  rw[hR]at hlen ⊢;have l25:B2.length≤B5.length:=by rw[←hB5,List.length_append];omega
  have q1:=mU b [108,111,111,112,32,123] B1 k hB1 (by omega)
  have q2:=N1 B1 (by rw[hB2];omega)
  rw[hB2]at q2;have q5:=mU B2 [125] B5 k hB5 hlen;clear hR hB1 hB2 hB5 N1 N2 N3;refine DC.enter 112 Tryz.func153 rfl (by decide) rfl rfl (s:=[(0,.pt 0 0),(1,ndV (.mk 8 w n e l el cs))]) (by rfl) ?_
  simp only[eP];refine wG bL (AI ND EX) ?_;refine aA [0,1] q1 TI (A8 aW aH aJ aZ @aD @aE bC aB) (A8 cF bK bO @aS @aT fF cK eX) ?_;refine goG bL TI ?_;refine wG bL (AI ND EX) ?_;refine aA [0,1] q2 TI (A8 aW aH aJ aZ @aD @aE bC aB) (A8 cF bK bO @aS @aT fF cK eX) ?_;refine goG bL TI ?_;refine wG bL TI ?_;refine aA [0,1] q5 TI (A8 aW aH aJ aZ @aD @aE bC aB) (A8 cF bK bO @aS @aT fF cK eX) ?_;refine goG bL TI ?_;refine wG bL TI ?_;refine aR (rs:=[]) rfl (by first|exact .inl rfl|exact .inr rfl) (finG bL) ?_ rfl (idG (A8 aW aH aJ aZ @aD @aE bC aB))
  all_goals exact wkG (A8 aW aH aJ aZ @aD @aE bC aB)
 by_cases k9:o=9
 ·subst k9
  obtain⟨a,rfl⟩:=xX e2;rw[nd9]at hlen ⊢;have hw1:IntKind.i64.wrap ((k:Int)+1)=((k+1:Nat):Int):=by rw[cU (by omega)];omega
  have hw2:IntKind.i64.wrap (((k+1:Nat):Int)-1)=(k:Int):=by rw[cU (by omega)];omega
  obtain⟨B1,hB1⟩: ∃B1,b++lnT k ([115,119,105,116,99,104,32]++(txE a++[32,123]))=B1:=⟨_,rfl⟩
  obtain⟨Cf,hCf⟩: ∃Cf:Nat→Bs,∀m,Cf m=B1++((cs.zipIdx.take m).map (caS k)).flatten:=⟨_,fun _=>rfl⟩
  have hC0:Cf 0=B1:=by rw[hCf];simp
  have hCE:Cf cs.length=B1++(cs.zipIdx.map (caS k)).flatten:=by rw[hCf,List.take_of_length_le (by simp)]
  obtain⟨B5,hB5⟩: ∃B5,Cf cs.length++lnT k [125]=B5:=⟨_,rfl⟩
  have hR:b++(lnT k ([115,119,105,116,99,104,32]++(txE a++[32,123]))++((cs.zipIdx.map (caS k)).flatten++lnT k [125]))=B5:=by
   rw[←hB5,hCE,←hB1];simp only[List.append_assoc]
  rw[hR]at hlen ⊢
  have hCs: ∀m (h:m<cs.length),Cf (m+1)=Cf m++caS k (cs[m],m):=fun m h=>by
   have hz:m<cs.zipIdx.length:=by simpa using h
   rw[hCf,hCf,List.take_succ_eq_append_getElem hz,List.map_append,List.flatten_append,List.append_assoc];simp
  have hCl: ∀m,(Cf m).length≤(Cf cs.length).length:=fun m=>by
   rw[hCE,hCf,List.length_append,List.length_append]
   have:(cs.zipIdx.map (caS k)).flatten=((cs.zipIdx.take m).map (caS k)).flatten++((cs.zipIdx.drop m).map (caS k)).flatten:=by
    rw[←List.flatten_append,←List.map_append,List.take_append_drop]
   rw[this,List.length_append];omega
  have lCE:(Cf cs.length).length≤B5.length:=by rw[←hB5,List.length_append];omega
  have l1C:B1.length≤(Cf cs.length).length:=by rw[←hC0];exact hCl 0
  have hta:(txE a).length≤B1.length:=by rw[←hB1];unfold lnT;simp only[List.length_append];omega
  have q1:=vV b [115,119,105,116,99,104,32] (txE a) [32,123] B1 k hB1 (by omega)
  have q5:=mU (Cf cs.length) [125] B5 k hB5 hlen;have qt:=wW a (he a (by simp)) (e3 a (by simp)) (by omega)
  have hcl:cs.length≤4194304:=(dR hf).2.2.2.2.2.1;clear hR hB1 hB5 N1 N2 hCE hCf;rw[←hC0]at q1;clear hC0;refine DC.enter 112 Tryz.func153 rfl (by decide) rfl rfl (s:=[(0,.pt 0 0),(1,ndV (.mk 9 w n [a] l el cs))]) (by rfl) ?_
  simp only[eP];refine wG bL (AI ND EX) ?_;refine AR.callP qt @bI (A8 aW aH aJ aZ @aD @aE bC aB) ?_;refine goG bL TI ?_;refine aA [0,1] q1 TI (A8 aW aH aJ aZ @aD @aE bC aB) (A8 cF bK bO @aS @aT fF cK eX) ?_;refine goG bL TI ?_;refine wG bL (A4 hw1 ND EX @List.length_map.{0,0}) ?_;refine aP ?_;refine ALp.cutP 3 [(0,.pt 0 0),(3,.pt 2 0),(83,.sl (cs.map nlV) .ro),(84,(.im (.int .i64 (cs.length)))),(85,(.im (.int .i64 ((((0:Nat)):Int)))))] [.box [.nb 0 PQ,.sl (((Cf 0)).map byB) (.mine 1),(.im (.int .i64 (((k+1:Nat):Int))))],.tip 5 1 ((Cf 0)).length,.box [(.im (.int .i64 (9))),.im (.int .i64 w),.im (.string n),.sl [exV a] .ro,.sl (l.map ndV) .ro,.sl (el.map ndV) .ro,.sl (cs.map nlV) .ro]] (A8 aW aH aJ aZ @aD @aE bC aB) ?_;refine ALp.upto cs.length (fun _=>True) (fun m=>⟨dn 112 [(0,.pt 0 0),(3,.pt 2 0),(83,.sl (cs.map nlV) .ro),(84,(.im (.int .i64 (cs.length)))),(85,(.im (.int .i64 ((((m:Nat)):Int)))))],ofl [.box [.nb 0 PQ,.sl (((Cf m)).map byB) (.mine 1),(.im (.int .i64 (((k+1:Nat):Int))))],.tip 5 1 ((Cf m)).length,.box [(.im (.int .i64 (9))),.im (.int .i64 w),.im (.string n),.sl [exV a] .ro,.sl (l.map ndV) .ro,.sl (el.map ndV) .ro,.sl (cs.map nlV) .ro]]⟩) ?_ 0 (Nat.zero_le _) trivial
  intro m hm _ hnext
  by_cases hlt:m<cs.length
  ·have hlt':(m:Int)<(cs.length:Int):=by omega
   have hm1:=aL hlt (by omega)
   have hg:=bB hlt;have hst:=hCs m hlt;have hle:=hCl (m+1);have hmem:=List.getElem_mem hlt;have qi:=uG (m:Int) (by omega) (by omega)
   generalize cs[m]=c at hg hst hmem;obtain⟨D1,hD1⟩: ∃D1,Cf m++lnT (k+1) ([99,97,115,101,32]++(Lib.itoa (m:Int)++[32,123]))=D1:=⟨_,rfl⟩
   obtain⟨D2,hD2⟩: ∃D2,D1++lsT c (k+1+1)=D2:=⟨_,rfl⟩
   have hD3:D2++lnT (k+1) [125]=Cf (m+1):=by rw[hst,←hD2,←hD1];unfold caS;simp only[List.append_assoc]
   have m1:D2.length≤(Cf (m+1)).length:=by rw[←hD3,List.length_append];omega
   have m2:D1.length≤D2.length:=by rw[←hD2,List.length_append];omega
   have r1:=vV (Cf m) [99,97,115,101,32] (Lib.itoa (m:Int)) [32,123] D1 (k+1) hD1 (by omega)
   have r2:=N3 c hmem D1 (by rw[hD2];omega)
   rw[hD2]at r2;have r3:=mU D2 [125] (Cf (m+1)) (k+1) hD3 (by omega)
   clear hD1 hD2 hD3 hst hCs hCl N3;refine wG bL (A3 hlt' hg ND) ?_;refine AR.callP qi TI (A8 aW aH aJ aZ @aD @aE bC aB) ?_;refine goG bL TI ?_;refine aA [0,1] r1 TI (A8 aW aH aJ aZ @aD @aE bC aB) (A8 cF bK bO @aS @aT fF cK eX) ?_;refine goG bL TI ?_;refine wG bL ND ?_;refine aA [0,1] r2 Ko (A8 aW aH aJ aZ @aD @aE bC aB) (A8 cF bK bO @aS @aT fF cK eX) ?_;refine goG bL TI ?_;refine wG bL TI ?_;refine aA [0,1] r3 TI (A8 aW aH aJ aZ @aD @aE bC aB) (A8 cF bK bO @aS @aT fF cK eX) ?_;refine goG bL TI ?_;refine wG bL hm1 ?_;refine ALp.cutP 3 [(0,.pt 0 0),(3,.pt 2 0),(83,.sl (cs.map nlV) .ro),(84,(.im (.int .i64 (cs.length)))),(85,(.im (.int .i64 ((((m+1:Nat)):Int)))))] [.box [.nb 0 PQ,.sl (((Cf (m+1))).map byB) (.mine 1),(.im (.int .i64 (((k+1:Nat):Int))))],.tip 5 1 ((Cf (m+1))).length,.box [(.im (.int .i64 (9))),.im (.int .i64 w),.im (.string n),.sl [exV a] .ro,.sl (l.map ndV) .ro,.sl (el.map ndV) .ro,.sl (cs.map nlV) .ro]] (A8 aW aH aJ aZ @aD @aE bC aB) ?_;exact hnext (m+1) (by omega) (by omega) trivial
  obtain rfl:m=cs.length:=by omega
  clear hnext hCs hCl N3;refine wG bL (AI @Int.lt_irrefl hw2) ?_;refine aA [0,1] q5 TI (A8 aW aH aJ aZ @aD @aE bC aB) (A8 cF bK bO @aS @aT fF cK eX) ?_;refine goG bL TI ?_;refine wG bL TI ?_;refine aR (rs:=[]) rfl (by first|exact .inl rfl|exact .inr rfl) (finG bL) ?_ rfl (idG (A8 aW aH aJ aZ @aD @aE bC aB))
  all_goals exact wkG (A8 aW aH aJ aZ @aD @aE bC aB)
 exact OF (.mk o w n e l el cs) k b hf hs k6 k7 k8 k9 hlen
theorem Ef{f:Fun}(h:prtB f=true):nameT f.name=true∧dep f.body≤64∧(∀v∈f.vars,nameT v.name=true∧chk v.ty=0)∧ ∀q∈allL f.body false,(∀x∈q.1.e,esh x 64=true)∧stT q.1=true:=by
 unfold prtB at h
 simp only[Bool.and_eq_true,decide_eq_true_eq,List.all_eq_true]at h
 obtain⟨h1,h2,h3,h4⟩:=h
 refine⟨h1,h2,fun v hv=> ?_,fun q hq=> ?_⟩
 ·have:=h3 v hv
  unfold ST at this;simpa using this
 ·have:=h4 q hq
  unfold SU at this;simp only[Bool.and_eq_true,Bool.not_eq_true',List.any_eq_false]at this;refine⟨fun x hx=> ?_,this.2⟩
  have:=this.1 x hx;simpa using this
theorem yF{t:Ty}(h:chk t=0):good t=true:=by unfold good;rw[h];rfl
theorem Xg{f:Fun}(h:prtB f=true): ∀t∈f.body,okT t=true:=fun t ht =>
 SX (lp:=false) fun q hq=>((Ef h).2.2.2 q (List.mem_flatMap.2 ⟨t,ht,hq⟩)).2
theorem YG(f:Fun)(hF:fitFn f)(hp:prtB f=true)(b:Bs)(hl:(b++funT f).length≤140737488355328):DC Tryz.prog 39 [.pt 0 0,fnV f] [.box [.nb 0 PQ,.sl (b.map byB) (.mine 1),(.im (.int .i64 (((0:Nat):Int))))],.tip 5 1 b.length] (.tu []) [.box [.nb 0 PQ,.sl ((b++funT f).map byB) (.mine 1),(.im (.int .i64 (((0:Nat):Int))))],.tip 5 1 (b++funT f).length]:=by
 obtain⟨h1,h2,h3,h4⟩:=Ef hp
 have hbo:=Xg hp
 have hlen:=hl
 unfold funT at hlen ⊢
 simp only[List.length_append]at hlen
 have hv:=Wt f.vars 1 (b++lnT 0 ([102,117,110,99,32]++(f.name.data.toList++[32,123]))) (Nat.le_trans hF.vl (by decide)) hF.vn (fun v hv=>yF (h3 v hv).2) (by simp only[List.length_append];omega)
 have hn:=yO f.body 0 (b++lnT 0 ([102,117,110,99,32]++(f.name.data.toList++[32,123]))++vasT 1 f.vars) hF.bd.1 (by decide) (by simp only[List.length_append,Nat.zero_add];omega) (fun t ht c hc=>UY t (hF.bd.2 t ht) (hbo t ht) 1 c (by have:=vE ht;omega) hc)
 have:=Tp f 0 (by decide) b _ _ _ (b++(lnT 0 ([102,117,110,99,32]++(f.name.data.toList++[32,123]))++(vasT 1 f.vars++(lsT f.body 1++lnT 0 [125])))) rfl (by simp only[List.length_append];omega) hv hn (by simp only[List.append_assoc]) (by simp only[List.length_append];omega)
 exact this
theorem OM(b x y z u v w q s r:Bs)(hr:b++lnT 0 (x++(y++(z++(u++(v++(w++(q++s)))))))=r)(hlen:r.length≤140737488355328):DC Tryz.prog 36 [.pt 0 0,.sl [.im (.string ⟨(x).toArray⟩),.im (.string ⟨(y).toArray⟩),.im (.string ⟨(z).toArray⟩),.im (.string ⟨(u).toArray⟩),.im (.string ⟨(v).toArray⟩),.im (.string ⟨(w).toArray⟩),.im (.string ⟨(q).toArray⟩),.im (.string ⟨(s).toArray⟩)] .full] [.box [.nb 0 PQ,.sl ((b).map byB) (.mine 1),(.im (.int .i64 (0)))],.tip 5 1 (b).length] (.tu []) [.box [.nb 0 PQ,.sl ((r).map byB) (.mine 1),(.im (.int .i64 (0)))],.tip 5 1 (r).length]:=by
 subst hr
 exact zF<|Lj b [x,y,z,u,v,w,q,s] (x++(y++(z++(u++(v++(w++(q++s))))))) (by simp) 0 (by simp) hlen
theorem Fe{α:Type}(g:α→Bs){l:List α}{m:Nat}(h:m<l.length):((l.take (m+1)).map g).flatten=((l.take m).map g).flatten++g l[m]:=by
 rw[List.take_succ_eq_append_getElem h,List.map_append,List.flatten_append]
 simp
theorem Pa{α:Type}(g:α→Bs)(l:List α)(m:Nat):(((l.take m).map g).flatten).length≤((l.map g).flatten).length:=by
 conv=>rhs;rw[←List.take_append_drop m l]
 rw[List.map_append,List.flatten_append,List.length_append]
 exact Nat.le_add_right _ _
theorem RB(p:Nat→Bool)(l:Bs):V.idsL p (l.map fun b=>V.im (.int .u8 b.toNat))=true:=aB p l
theorem YZ:(ByteArray.mk #[32,119,114,105,116,101]).size+(ByteArray.mk #[32,101,120,101,99]).size≤9223372036854775807∧(ByteArray.mk #[]).size+(ByteArray.mk #[32,101,120,101,99]).size≤9223372036854775807:=by decide
theorem ZA:ByteArray.mk #[32,119,114,105,116,101]++ByteArray.mk #[32,101,120,101,99]=ByteArray.mk (Nw true true).toArray∧ByteArray.mk #[]++ByteArray.mk #[32,101,120,101,99]=ByteArray.mk (Nw false true).toArray :=
 ⟨An [32,119,114,105,116,101] [32,101,120,101,99],An [] [32,101,120,101,99]⟩
def cQ:=A16 @kI @zE @wF @pY @zD @Mq @nB @tF @zC @Da @dT @Cy @PW @Cx @mB (A16 @tB @wE @jE @lN @oI @mM @Jo @wA @Jn @rH @Ax @Aw @PS @jD @vW (A9 @sW @nY @sU @Mi @nA @sS @yX @pS @dC))
def gV:=A16 RB aW aH aJ aZ @aD @aE bC aB gX fY @aO @aQ eO gA (A3 kL oN tQ)
def xA:=A14 cF bK bO @aS @aT fF cK eX @bF @bE nQ pF La Lb
theorem CA(u:Un)(hu:fitU u)(hA:UnOk u)(hd: ∀d∈u.data,d.data.length≤4194304)(hp: ∀f∈u.funcs,prtB f=true)(hgd: ∀v∈u.globals,good v.ty=true)(h0:unE u=0)(hne:uniT u≠[])(hl:(uniT u).length≤140737488355328):PC Tryz.prog 14 [unV u] (.im (.string ⟨(uniT u).toArray⟩)):=by
 have hc:=uH u hu
 rw[h0]at hc
 obtain⟨Bf,hBf⟩: ∃Bf:Nat→Bs,∀m,Bf m=vasT 0 u.globals++((u.data.take m).map datT).flatten:=⟨_,fun _=>rfl⟩
 obtain⟨Bg,hBg⟩: ∃Bg:Nat→Bs,∀m,Bg m=Bf u.data.length++((u.funcs.take m).map funT).flatten:=⟨_,fun _=>rfl⟩
 have hend:Bg u.funcs.length=uniT u:=by rw[hBg,hBf,List.take_length,List.take_length,List.append_assoc];rfl
 have hbf0:Bf 0=[]++vasT 0 u.globals:=by rw[hBf];simp
 have hbg0:Bg 0=Bf u.data.length:=by rw[hBg];simp
 have hul:=hl
 unfold uniT at hul
 rw[List.length_append,List.length_append]at hul
 have hfl: ∀m,(Bf m).length≤140737488355328:=fun m=>by
  rw[hBf,List.length_append];have:=Pa datT u.data m;omega
 have hgl: ∀m,(Bg m).length≤140737488355328:=fun m=>by
  rw[hBg,hBf,List.length_append,List.length_append,List.take_length];have:=Pa funT u.funcs m;omega
 have hv:=Wt u.globals 0 [] (Nat.le_trans hu.gl (by decide)) hu.gn hgd (by rw[←hbf0];exact hfl 0)
 rw[←hbf0]at hv
 have hs:=BZ ⟨(uniT u).toArray⟩ (.im (.int .i64 (0))) (by rw[dI];intro e;exact hne (List.length_eq_zero_iff.1 e))
 rw[Uf,dI]at hs
 have hdl:=hu.dl
 have hfnl:=hu.fl
 rw[kJ]at hc ⊢
 refine PC.enter 59 Tryz.func14 rfl (by decide) rfl rfl (s:=[(0,.ag [.sl (u.globals.map vaV) .ro,.sl (u.data.map scV) .ro,.sl (u.funcs.map fnV) .ro])]) (by rfl) ?_
 refine wG cQ TI ?_
 refine AR.callP hc TI gV ?_
 refine goG cQ TI ?_
 repeat (with_reducible first|refine AWp.seq ?_|refine qR ?_|refine Thn.n ?_|refine kU ?_)
 with_reducible apply kB
 case ht=>rfl
 case hc=>rfl
 repeat (with_reducible first|refine AWp.seq ?_|refine qR ?_|refine Thn.n ?_|refine kU ?_)
 refine AWp.region ?_
 refine AR.one rfl (by simp only[↓iZ,↓reduceIte,SA,SB,SC,SD,cQ,pC,fpsG,evO,evB,evA,oP,pD,eqF,eqC,kN,iF,slB,slK,gd,St.ev,eZ,ofl,wrl,putE,V.ofVal,V.ofCell,bin2,un1,seg,iW,eV,Value.oneCell',Nat.reduceBEq,Nat.reduceLT,Nat.reduceSub,Nat.reduceAdd,Nat.reduceMul,Nat.reduceLeDiff,Nat.reduceEqDiff,reduceCtorEq,Int.reduceLT,Int.reduceLE,Int.reduceEq,Int.reduceNe,Int.reduceBEq,Int.reduceBNe,Int.reduceAdd,Int.reduceSub,Int.reduceMul,Int.reduceToNat];with_reducible exact rfl) (by simp only[↓iZ,↓reduceIte,SA,SB,SC,SD,cQ,pC,fpsG,evO,evB,evA,oP,pD,eqF,eqC,kN,iF,slB,slK,gd,St.ev,eZ,ofl,wrl,putE,V.ofVal,V.ofCell,bin2,un1,seg,iW,eV,Value.oneCell',Nat.reduceBEq,Nat.reduceLT,Nat.reduceSub,Nat.reduceAdd,Nat.reduceMul,Nat.reduceLeDiff,Nat.reduceEqDiff,reduceCtorEq,Int.reduceLT,Int.reduceLE,Int.reduceEq,Int.reduceNe,Int.reduceBEq,Int.reduceBNe,Int.reduceAdd,Int.reduceSub,Int.reduceMul,Int.reduceToNat];with_reducible exact rfl) (by simp only[↓iZ,↓reduceIte,SA,SB,SC,SD,cQ,pC,fpsG,evO,evB,evA,oP,pD,eqF,eqC,kN,iF,slB,slK,gd,St.ev,eZ,ofl,wrl,putE,V.ofVal,V.ofCell,bin2,un1,seg,iW,eV,Value.oneCell',Nat.reduceBEq,Nat.reduceLT,Nat.reduceSub,Nat.reduceAdd,Nat.reduceMul,Nat.reduceLeDiff,Nat.reduceEqDiff,reduceCtorEq,Int.reduceLT,Int.reduceLE,Int.reduceEq,Int.reduceNe,Int.reduceBEq,Int.reduceBNe,Int.reduceAdd,Int.reduceSub,Int.reduceMul,Int.reduceToNat];with_reducible exact rfl) ?_
 refine QC (q:=PQ) YO rfl ?_
 refine goG cQ TI ?_
 repeat (with_reducible first|refine AWp.seq ?_|refine qR ?_|refine Thn.n ?_|refine kU ?_)
 refine AWp.ghostB 1 1 [.nb 1 PQ,.sl [] .nl,(.im (.int .i64 (0)))] 5 1 ?_
 simp only[List.set_cons_succ,List.set_cons_zero,List.cons_append,List.nil_append,List.length_cons,List.length_nil,Nat.reduceAdd]
 rw[show(([]:Bs).map byB)=[]from rfl,show([]:Bs).length=0 from rfl,show((0:Nat):Int)=0 from rfl]at hv
 refine wG cQ TI ?_
 refine aA [1,2] hv TI gV xA ?_
 refine goG cQ TI ?_
 refine wG cQ @List.length_map.{0,0} ?_
 refine aP ?_
 refine ALp.cutP 3 [(1,.pt 0 0),(3,.pt 1 0),(19,.sl (u.data.map scV) .ro),(20,(.im (.int .i64 (u.data.length)))),(21,(.im (.int .i64 ((((0:Nat)):Int)))))] [.box [.sl (u.globals.map vaV) .ro,.sl (u.data.map scV) .ro,.sl (u.funcs.map fnV) .ro],.box [.nb 1 PQ,.sl (((Bf 0)).map byB) (.mine 2),(.im (.int .i64 (0)))],.tip 5 1 ((Bf 0)).length] gV ?_
 refine ALp.upto u.data.length (fun _=>True) (fun m=>⟨dn 59 [(1,.pt 0 0),(3,.pt 1 0),(19,.sl (u.data.map scV) .ro),(20,(.im (.int .i64 (u.data.length)))),(21,(.im (.int .i64 ((((m:Nat)):Int)))))],ofl [.box [.sl (u.globals.map vaV) .ro,.sl (u.data.map scV) .ro,.sl (u.funcs.map fnV) .ro],.box [.nb 1 PQ,.sl (((Bf m)).map byB) (.mine 2),(.im (.int .i64 (0)))],.tip 5 1 ((Bf m)).length]⟩) ?_ 0 (Nat.zero_le _) trivial
 intro m hm _ hnext
 by_cases hlt:m<u.data.length
 ·have hlt':(m:Int)<(u.data.length:Int):=by omega
  have hm1:=aL hlt (by omega)
  have hg:=bB hlt;have hB:Bf m++datT u.data[m]=Bf (m+1):=by rw[hBf,hBf,Fe datT hlt,List.append_assoc]
  have hBl:=hfl (m+1);have hok:=hA.data _ (List.getElem_mem hlt);have hdd:=hd _ (List.getElem_mem hlt);have hnx:=hnext (m+1) (by omega) (by omega) trivial
  clear hnext;generalize u.data[m]=d at hg hB hok hdd;generalize Bf m=b0 at hB;generalize Bf (m+1)=b1 at hB hBl hnx;have hq:PC Tryz.prog 38 [.sl (d.data.map fun b=>V.im (.int .u8 b.toNat)) .ro] (.im (.string ⟨(quoS d.data).toArray⟩)):=OK d.data hdd
  have hn:((d.addr.toNat:Nat):Int)=d.addr:=by have:=hok.addr;omega
  have ha:=Jf d.addr.toNat (by have:=hok.addr;omega)
  rw[hn]at ha;have hline:=OM b0 [100,97,116,97,32] d.name.data.toList [32] (Cb d.addr.toNat) (Nw d.wr d.exe) [32,61,32] (quoS d.data) [59] b1 hB hBl;rw[Qo]at hline;unfold Cb at hline;obtain⟨hr1,hr2⟩:=ZA;obtain⟨hz1,hz2⟩:=YZ;cases hw:d.wr<;>cases hx:d.exe<;>rw[hw,hx]at hline
  ·rw[show Nw false false=[]from rfl]at hline
   refine wdG cQ (A5 hlt' hg SCT hw hx) ?_;refine AR.callP ha TI gV ?_;refine goG cQ TI ?_;refine AR.callP hq TI gV ?_;refine goG cQ TI ?_;refine aA [1,2] hline TI gV xA ?_;refine goG cQ TI ?_;refine wdG cQ hm1 ?_;refine ALp.cutP 3 [(1,.pt 0 0),(3,.pt 1 0),(19,.sl (u.data.map scV) .ro),(20,(.im (.int .i64 (u.data.length)))),(21,(.im (.int .i64 ((((m+1:Nat)):Int)))))] [.box [.sl (u.globals.map vaV) .ro,.sl (u.data.map scV) .ro,.sl (u.funcs.map fnV) .ro],.box [.nb 1 PQ,.sl ((b1).map byB) (.mine 2),(.im (.int .i64 (0)))],.tip 5 1 (b1).length] gV ?_;exact hnx
  ·refine wdG cQ (A7 hlt' hg SCT hw hx hr2 hz2) ?_
   refine AR.callP ha TI gV ?_;refine goG cQ TI ?_;refine AR.callP hq TI gV ?_;refine goG cQ TI ?_;refine aA [1,2] hline TI gV xA ?_;refine goG cQ TI ?_;refine wdG cQ hm1 ?_;refine ALp.cutP 3 [(1,.pt 0 0),(3,.pt 1 0),(19,.sl (u.data.map scV) .ro),(20,(.im (.int .i64 (u.data.length)))),(21,(.im (.int .i64 ((((m+1:Nat)):Int)))))] [.box [.sl (u.globals.map vaV) .ro,.sl (u.data.map scV) .ro,.sl (u.funcs.map fnV) .ro],.box [.nb 1 PQ,.sl ((b1).map byB) (.mine 2),(.im (.int .i64 (0)))],.tip 5 1 (b1).length] gV ?_;exact hnx
  ·rw[show Nw true false=[32,119,114,105,116,101]from rfl]at hline
   refine wdG cQ (A5 hlt' hg SCT hw hx) ?_;refine AR.callP ha TI gV ?_;refine goG cQ TI ?_;refine AR.callP hq TI gV ?_;refine goG cQ TI ?_;refine aA [1,2] hline TI gV xA ?_;refine goG cQ TI ?_;refine wdG cQ hm1 ?_;refine ALp.cutP 3 [(1,.pt 0 0),(3,.pt 1 0),(19,.sl (u.data.map scV) .ro),(20,(.im (.int .i64 (u.data.length)))),(21,(.im (.int .i64 ((((m+1:Nat)):Int)))))] [.box [.sl (u.globals.map vaV) .ro,.sl (u.data.map scV) .ro,.sl (u.funcs.map fnV) .ro],.box [.nb 1 PQ,.sl ((b1).map byB) (.mine 2),(.im (.int .i64 (0)))],.tip 5 1 (b1).length] gV ?_;exact hnx
  ·refine wdG cQ (A7 hlt' hg SCT hw hx hr1 hz1) ?_
   refine AR.callP ha TI gV ?_;refine goG cQ TI ?_;refine AR.callP hq TI gV ?_;refine goG cQ TI ?_;refine aA [1,2] hline TI gV xA ?_;refine goG cQ TI ?_;refine wdG cQ hm1 ?_;refine ALp.cutP 3 [(1,.pt 0 0),(3,.pt 1 0),(19,.sl (u.data.map scV) .ro),(20,(.im (.int .i64 (u.data.length)))),(21,(.im (.int .i64 ((((m+1:Nat)):Int)))))] [.box [.sl (u.globals.map vaV) .ro,.sl (u.data.map scV) .ro,.sl (u.funcs.map fnV) .ro],.box [.nb 1 PQ,.sl ((b1).map byB) (.mine 2),(.im (.int .i64 (0)))],.tip 5 1 (b1).length] gV ?_;exact hnx
 obtain rfl:m=u.data.length:=by omega
 clear hnext
 rw[←hbg0]
 refine whG cQ @Int.lt_irrefl ?_
 refine Blk'.here (Thn.n ?_)
 refine wG cQ @List.length_map.{0,0} ?_
 refine aP ?_
 refine ALp.cutP 3 [(1,.pt 0 0),(3,.pt 1 0),(45,.sl (u.funcs.map fnV) .ro),(46,(.im (.int .i64 (u.funcs.length)))),(47,(.im (.int .i64 ((((0:Nat)):Int)))))] [.box [.sl (u.globals.map vaV) .ro,.sl (u.data.map scV) .ro,.sl (u.funcs.map fnV) .ro],.box [.nb 1 PQ,.sl (((Bg 0)).map byB) (.mine 2),(.im (.int .i64 (0)))],.tip 5 1 ((Bg 0)).length] gV ?_
 refine ALp.upto u.funcs.length (fun _=>True) (fun m=>⟨dn 59 [(1,.pt 0 0),(3,.pt 1 0),(45,.sl (u.funcs.map fnV) .ro),(46,(.im (.int .i64 (u.funcs.length)))),(47,(.im (.int .i64 ((((m:Nat)):Int)))))],ofl [.box [.sl (u.globals.map vaV) .ro,.sl (u.data.map scV) .ro,.sl (u.funcs.map fnV) .ro],.box [.nb 1 PQ,.sl (((Bg m)).map byB) (.mine 2),(.im (.int .i64 (0)))],.tip 5 1 ((Bg m)).length]⟩) ?_ 0 (Nat.zero_le _) trivial
 intro m hm _ hnext
 by_cases hlt:m<u.funcs.length
 ·have hlt':(m:Int)<(u.funcs.length:Int):=by omega
  have hm1:=aL hlt (by omega)
  have hg:=bB hlt;have hB:Bg m++funT u.funcs[m]=Bg (m+1):=by rw[hBg,hBg,Fe funT hlt,List.append_assoc]
  have hfun:=YG u.funcs[m] (hu.fn _ (List.getElem_mem hlt)) (hp _ (List.getElem_mem hlt)) (Bg m) (by rw[hB];exact hgl (m+1))
  rw[hB]at hfun;have hnx:=hnext (m+1) (by omega) (by omega) trivial
  clear hnext hB;generalize u.funcs[m]=f at hg hfun;generalize Bg m=b0 at hfun;generalize Bg (m+1)=b1 at hfun hnx;rw[oO,show((0:Nat):Int)=0 from rfl]at hfun
  refine wG cQ (A3 hlt' hg FU) ?_;refine aA [1,2] hfun TI gV xA ?_;refine goG cQ TI ?_;refine wG cQ hm1 ?_;refine ALp.cutP 3 [(1,.pt 0 0),(3,.pt 1 0),(45,.sl (u.funcs.map fnV) .ro),(46,(.im (.int .i64 (u.funcs.length)))),(47,(.im (.int .i64 ((((m+1:Nat)):Int)))))] [.box [.sl (u.globals.map vaV) .ro,.sl (u.data.map scV) .ro,.sl (u.funcs.map fnV) .ro],.box [.nb 1 PQ,.sl ((b1).map byB) (.mine 2),(.im (.int .i64 (0)))],.tip 5 1 (b1).length] gV ?_;exact hnx
 obtain rfl:m=u.funcs.length:=by omega
 clear hnext
 rw[hend]
 generalize uniT u=T at hs
 refine wG cQ @Int.lt_irrefl ?_
 refine aA [1,2] hs TI gV xA ?_
 refine goG cQ TI ?_
 refine wG cQ TI ?_
 refine aG (rs:=[.tmp 2]) rfl (by first|exact .inl rfl|exact .inr rfl) (finG cQ) ?_
 all_goals exact wkG gV
def nmX(s:Bs):Ex:= .mk 2 0 ⟨s.toArray⟩ 0 []
def coX(n:Int):Ex:= .mk 1 n ByteArray.empty 0 []
def twX(o:Int)(a b:Ex):Ex:= .mk o 0 ByteArray.empty 0 [a,b]
def s1X:Bs:=[114,48,32,45,32,49,32,45,32,114,49,32,42,32,50]
def s2X:Bs:=[45,114,48,32,42,32,50]
def s3X:Bs:=[114,48,32,43]
def s4X:Bs:=[102,117,110,99,32,109,97,105,110,32,123,32,114,48,32,61,32,49,59,32,104,97,108,116,59,32,125]
def s5X:Bs:=[118,97,114,32,114,48,58,32,117,105,110,116,51,50,59,32,102,117,110,99,32,109,97,105,110,32,123,32,114,48,32,61,32,49,59,32,104,97,108,116,59,32,125]
def s6X:Bs:=[102,117,110,99,32,102,32,123,10,32,32,104,97,108,116,10,125]
theorem e1X:AF s1X=(twX 4 (twX 4 (nmX [114,48]) (coX 1)) (twX 5 (nmX [114,49]) (coX 2)),0):=by kernel_rfl
theorem e2X:AF s2X=(twX 5 (mkU 17 0 (nmX [114,48])) (coX 2),0):=by kernel_rfl
theorem e3X:AF s3X=(ex0,3):=by kernel_rfl
theorem e4X:zI s4X=(uz0,17):=by kernel_rfl
def v5X:Va:=⟨⟨#[114,48]⟩,.mk 0 2 4 0 [] []⟩
def f5X:Fun:=⟨⟨#[109,97,105,110]⟩,[],[.mk 1 0 ⟨#[114,48]⟩ [coX 1] [] [] [],.mk 15 0 ByteArray.empty [] [] [] []]⟩
theorem e5X:zI s5X=(⟨[v5X],[],[f5X]⟩,0):=by kernel_rfl
theorem e6X:HT s6X=((3,1),3):=by kernel_rfl
def jN:=A16 @kI @wF @cO @iA @tD @kH @kG @wE @gJ @lN @mM @oG @lM @jD @sW (A6 @nY @cN @sU @hX @dP @jO)
def xF:=A12 aX bD @aE @aD @aQ @aO gA eO oN kL aH tQ
set_option maxRecDepth 4000 in
set_option maxHeartbeats 4000000 in
theorem YJ:PC Tryz.prog 12 [] (.im (.bool (true))):=by
 have h1:=Ud s1X (by decide)
 have h2:=Ud s2X (by decide)
 have h3:=Ud s3X (by decide)
 have h4:=Tz s4X (by decide)
 have h5:=Tz s5X (by decide)
 have h6:=CC s6X (by decide)
 rw[e1X]at h1
 rw[e2X]at h2
 rw[e3X]at h3
 rw[e4X]at h4
 rw[e5X]at h5
 rw[e6X]at h6
 simp only[twX,nmX,coX,mkU,ex0,gR,List.map_cons,List.map_nil,kJ,uz0]at h1 h2 h3 h4 h5 h6
 unfold s1X at h1
 unfold s2X at h2
 unfold s3X at h3
 unfold s4X at h4
 unfold s5X at h5
 unfold s6X at h6
 generalize vaV v5X=va at h5
 generalize fnV f5X=fa at h5
 refine PC.enter 127 Tryz.func12 rfl (by decide) rfl rfl (s:=[]) (by rfl) ?_
 simp only[List.append]
 refine wG jN TI ?_
 refine AR.callP h1 TI xF ?_
 refine goG jN TI ?_
 refine wG jN TI ?_
 refine AR.callP h2 TI xF ?_
 refine goG jN TI ?_
 refine wG jN TI ?_
 refine AR.callP h3 TI xF ?_
 refine goG jN TI ?_
 refine wG jN TI ?_
 refine AR.callP h4 TI xF ?_
 refine goG jN TI ?_
 refine wG jN TI ?_
 refine AR.callP h5 TI xF ?_
 refine goG jN TI ?_
 refine wG jN TI ?_
 refine AR.callP h6 TI xF ?_
 refine goG jN TI ?_
 refine wG jN TI ?_
 refine aG (rs:=[.tmp 0]) rfl (by first|exact .inl rfl|exact .inr rfl) (finG jN) ?_
 all_goals exact wkG xF
theorem jU{m n:Nat}{a:Int}(h:(decide ((m:Int)<(n:Int))&&decide (a≥0))=true):m<n∧0≤a:=by
 simp only[Bool.and_eq_true,decide_eq_true_eq]at h
 exact⟨by omega,by omega⟩
theorem jT{α:Type}{f:α→Int→Int}{l:List α}{m:Nat}{n:Int}(hm:m≤l.length)(h:(decide ((m:Int)<(l.length:Int))&&decide (pfold f (l.take m) n≥0))=false):pfold f (l.take m) n=pfold f l n:=by
 simp only[Bool.and_eq_false_iff,decide_eq_false_iff_not]at h
 by_cases hp:0≤pfold f (l.take m) n
 ·obtain rfl:m=l.length:=by rcases h with h|h<;>omega
  rw[List.take_length]
 ·exact(Ii hp).symm
def pQ:=A6 @iA @fE @gJ @lM @hX @dP
def Us:=AI @aE @aD
theorem JI: ∀(t:Ex),fitE t→ ∀most n:Int,0≤most→most≤4194304→0≤n→n≤4194304→PC Tryz.prog 72 [exV t,(.im (.int .i64 (most))),(.im (.int .i64 (n)))] (.im (.int .i64 (epa t most n))):=by
 refine Ex.induct fun o k s w l hE0=> ?_
 intro hfit most n hq hq2 hn hn2
 obtain⟨hl1,hfE⟩:=nS hfit
 rw[Td]
 refine PC.enter 44 Tryz.func72 rfl (by decide) rfl rfl (s:=[(0,exV (.mk o k s w l)),(1,(.im (.int .i64 (most)))),(2,(.im (.int .i64 (n))))]) (by rfl) ?_
 simp only[gR]
 refine wG pQ TI ?_
 refine cY rfl rfl (fun hE=> ?_) (fun hE=> ?_)
 ·simp only[Bool.or_eq_true,decide_eq_true_eq]at hE
  rw[if_pos (by omega)]
  refine wG pQ TI ?_;exact aC
 simp only[Bool.or_eq_false_iff,decide_eq_false_iff_not]at hE
 have hw:IntKind.i64.wrap (n-1)=n-1:=cU (by omega)
 have hv:IntKind.i64.wrap (most-1)=most-1:=cU (by omega)
 rw[if_neg (by omega)]
 refine wG pQ hw ?_
 refine aP ?_
 refine ALp.cutP 1 [(1,(.im (.int .i64 (most)))),(3,.pt 0 0),(7,(.im (.int .i64 (pfold (fun x n=>epa x (most-1) n) (l.take (0)) (n-1))))),(8,(.im (.int .i64 ((((0:Nat)):Int)))))] [.box [(.im (.int .i64 (o))),.im (.int .u32 k),.im (.string s),(.im (.int .i64 (w))),.sl (l.map exV) .ro]] Us ?_
 refine ALp.upto l.length (fun _=>True) (fun m=>⟨dn 44 [(1,(.im (.int .i64 (most)))),(3,.pt 0 0),(7,(.im (.int .i64 (pfold (fun x n=>epa x (most-1) n) (l.take (m)) (n-1))))),(8,(.im (.int .i64 ((((m:Nat)):Int)))))],ofl [.box [(.im (.int .i64 (o))),.im (.int .u32 k),.im (.string s),(.im (.int .i64 (w))),.sl (l.map exV) .ro]]⟩) ?_ 0 (Nat.zero_le _) trivial
 intro m hm _ hnext
 refine wG pQ @Int.natCast_nonneg ?_
 refine cY rfl rfl (fun hE=> ?_) (fun hE=> ?_)
 ·obtain⟨hlt,hp⟩:=jU hE
  have hlt':(m:Int)<(l.length:Int):=by omega
  have hm1:=aL hlt (by omega)
  have hb:=dQ (f:=fun x n=>epa x (most-1) n) (l:=l.take m) (fun t _ n hn=>oD t _ n hn) (n-1) (by omega)
  have hc:=hE0 l[m] (List.getElem_mem hlt) (hfE _ (List.getElem_mem hlt)) (most-1) _ (by omega) (by omega) hp (by omega)
  rw[←jS (f:=fun x n=>epa x (most-1) n) hlt hp]at hc
  have hg:=bB hlt;refine wG pQ (A5 hlt' hg hv @Int.natCast_nonneg BN01) ?_;refine AR.callP hc @bI Us ?_;refine goG pQ BN01 ?_;refine wG pQ hm1 ?_;refine ALp.cutP 1 [(1,(.im (.int .i64 (most)))),(3,.pt 0 0),(7,(.im (.int .i64 (pfold (fun x n=>epa x (most-1) n) (l.take (m+1)) (n-1))))),(8,(.im (.int .i64 ((((m+1:Nat)):Int)))))] [.box [(.im (.int .i64 (o))),.im (.int .u32 k),.im (.string s),(.im (.int .i64 (w))),.sl (l.map exV) .ro]] Us ?_
  exact hnext (m+1) (by omega) (by omega) trivial
 rw[jT hm hE]
 clear hnext hE
 refine wG pQ TI ?_
 exact aC
def iK:=A12 @tE @pX @gK @pU @pT @lF @mL @jJ @nK @sR @mZ @gI
def xE:=A4 @bS @bU @bT @bV
theorem IU: ∀(t:Ty),fit t→ ∀most n:Int,0≤most→most≤4194304→0≤n→n≤4194304→PC Tryz.prog 100 [tyV t,(.im (.int .i64 (most))),(.im (.int .i64 (n)))] (.im (.int .i64 (tpa t most n))):=by
 refine Ty.induct fun o k s c es fs hT hF=> ?_
 intro hfit most n hq hq2 hn hn2
 obtain⟨hl1,hl2,hfE,hfF⟩:=kM hfit
 rw[Dh]
 refine PC.enter 72 Tryz.func100 rfl (by decide) rfl rfl (s:=[(0,tyV (.mk o k s c es fs)),(1,(.im (.int .i64 (most)))),(2,(.im (.int .i64 (n))))]) (by rfl) ?_
 simp only[eB]
 refine wG iK TI ?_
 refine cY rfl rfl (fun hE=> ?_) (fun hE=> ?_)
 ·simp only[Bool.or_eq_true,decide_eq_true_eq]at hE
  rw[if_pos (by omega)]
  refine wG iK TI ?_;exact aC
 simp only[Bool.or_eq_false_iff,decide_eq_false_iff_not]at hE
 have hw:IntKind.i64.wrap (n-1)=n-1:=cU (by omega)
 have hv:IntKind.i64.wrap (most-1)=most-1:=cU (by omega)
 rw[if_neg (by omega)]
 refine wG iK hw ?_
 refine aP ?_
 refine ALp.cutP 1 [(1,(.im (.int .i64 (most)))),(3,.pt 0 0),(7,(.im (.int .i64 (pfold (fun x n=>tpa x (most-1) n) (es.take (0)) (n-1))))),(8,(.im (.int .i64 ((((0:Nat)):Int)))))] [.box [.im (.int .i64 k),.im (.int .i64 s),.im (.int .i64 c),.sl (es.map tyV) .ro,.sl (fs.map fdV) .ro]] xE ?_
 refine ALp.upto es.length (fun _=>True) (fun m=>⟨dn 72 [(1,(.im (.int .i64 (most)))),(3,.pt 0 0),(7,(.im (.int .i64 (pfold (fun x n=>tpa x (most-1) n) (es.take (m)) (n-1))))),(8,(.im (.int .i64 ((((m:Nat)):Int)))))],ofl [.box [.im (.int .i64 k),.im (.int .i64 s),.im (.int .i64 c),.sl (es.map tyV) .ro,.sl (fs.map fdV) .ro]]⟩) ?_ 0 (Nat.zero_le _) trivial
 intro m hm _ hnext
 refine wG iK @Int.natCast_nonneg ?_
 refine cY rfl rfl (fun hE=> ?_) (fun hE=> ?_)
 ·obtain⟨hlt,hp⟩:=jU hE
  have hlt':(m:Int)<(es.length:Int):=by omega
  have hm1:=aL hlt (by omega)
  have hb:=dQ (f:=fun x n=>tpa x (most-1) n) (l:=es.take m) (fun t _ n hn=>zJ t _ n hn) (n-1) (by omega)
  have hc:=hT es[m] (List.getElem_mem hlt) (hfE _ (List.getElem_mem hlt)) (most-1) _ (by omega) (by omega) hp (by omega)
  rw[←jS (f:=fun x n=>tpa x (most-1) n) hlt hp]at hc
  have hg:=bB hlt;refine wG iK (A5 hlt' hg hv @Int.natCast_nonneg BN03) ?_;refine AR.callP hc @bP xE ?_;refine goG iK BN03 ?_;refine wG iK hm1 ?_;refine ALp.cutP 1 [(1,(.im (.int .i64 (most)))),(3,.pt 0 0),(7,(.im (.int .i64 (pfold (fun x n=>tpa x (most-1) n) (es.take (m+1)) (n-1))))),(8,(.im (.int .i64 ((((m+1:Nat)):Int)))))] [.box [.im (.int .i64 k),.im (.int .i64 s),.im (.int .i64 c),.sl (es.map tyV) .ro,.sl (fs.map fdV) .ro]] xE ?_
  exact hnext (m+1) (by omega) (by omega) trivial
 rw[jT hm hE]
 clear hnext hE
 generalize hm0:m=m0
 clear hm hm0
 have hb0:=dQ (f:=fun x n=>tpa x (most-1) n) (l:=es) (fun t _ n hn=>zJ t _ n hn) (n-1) (by omega)
 refine whG iK TI ?_
 refine Blk'.here (Thn.n ?_)
 refine wG iK TI ?_
 refine aP ?_
 refine ALp.cutP 1 [(1,(.im (.int .i64 (most)))),(3,.pt 0 0),(7,(.im (.int .i64 (pfold (fun x n=>tpa x (most-1) n) (fs.take (0)) (pfold (fun x n=>tpa x (most-1) n) es (n-1)))))),(9,(.im (.int .i64 ((((0:Nat)):Int)))))] [.box [.im (.int .i64 k),.im (.int .i64 s),.im (.int .i64 c),.sl (es.map tyV) .ro,.sl (fs.map fdV) .ro]] xE ?_
 refine ALp.upto fs.length (fun _=>True) (fun m=>⟨dn 72 [(1,(.im (.int .i64 (most)))),(3,.pt 0 0),(7,(.im (.int .i64 (pfold (fun x n=>tpa x (most-1) n) (fs.take (m)) (pfold (fun x n=>tpa x (most-1) n) es (n-1)))))),(9,(.im (.int .i64 ((((m:Nat)):Int)))))],ofl [.box [.im (.int .i64 k),.im (.int .i64 s),.im (.int .i64 c),.sl (es.map tyV) .ro,.sl (fs.map fdV) .ro]]⟩) ?_ 0 (Nat.zero_le _) trivial
 intro m hm _ hnext
 refine wG iK @Int.natCast_nonneg ?_
 refine cY rfl rfl (fun hE=> ?_) (fun hE=> ?_)
 ·obtain⟨hlt,hp⟩:=jU hE
  have hlt':(m:Int)<(fs.length:Int):=by omega
  have hm1:=aL hlt (by omega)
  have hb:=dQ (f:=fun x n=>tpa x (most-1) n) (l:=fs.take m) (fun t _ n hn=>zJ t _ n hn) (pfold (fun x n=>tpa x (most-1) n) es (n-1)) (by omega)
  have hc:=hF fs[m] (List.getElem_mem hlt) (hfF _ (List.getElem_mem hlt)) (most-1) _ (by omega) (by omega) hp (by omega)
  rw[←jS (f:=fun x n=>tpa x (most-1) n) hlt hp]at hc
  have hg:=bB hlt;refine wG iK (A5 hlt' hg hv @Int.natCast_nonneg BN03) ?_;refine AR.callP hc @bP xE ?_;refine goG iK BN03 ?_;refine wG iK hm1 ?_;refine ALp.cutP 1 [(1,(.im (.int .i64 (most)))),(3,.pt 0 0),(7,(.im (.int .i64 (pfold (fun x n=>tpa x (most-1) n) (fs.take (m+1)) (pfold (fun x n=>tpa x (most-1) n) es (n-1)))))),(9,(.im (.int .i64 ((((m+1:Nat)):Int)))))] [.box [.im (.int .i64 k),.im (.int .i64 s),.im (.int .i64 c),.sl (es.map tyV) .ro,.sl (fs.map fdV) .ro]] xE ?_
  exact hnext (m+1) (by omega) (by omega) trivial
 rw[jT hm hE]
 clear hnext hE
 refine wG iK TI ?_
 exact aC
def Ly:=AI @gK @gI
theorem Py(t:Ty)(ht:fit t)(most:Int)(hq:0≤most)(hq2:most≤4194304):PC Tryz.prog 49 [tyV t,(.im (.int .i64 (most)))] (.im (.bool (smallT t most))):=by
 have h:=IU t ht most 3000 hq hq2 (by omega) (by omega)
 refine PC.enter 9 Tryz.func49 rfl (by decide) rfl rfl (s:=[(0,tyV t),(1,(.im (.int .i64 (most))))]) (by rfl) ?_
 rw[bP t]
 refine wG Ly TI ?_
 refine AR.callP h @bP xE ?_
 refine goG Ly BN03 ?_
 refine wG Ly TI ?_
 unfold smallT
 exact aC
def cL:=A16 @nM @iV @jP @iA @fE @jZ @kT @nZ @gJ @iO @lI @lH @lG @nL @gY (A3 @iS @hX @dP)
def jB:=A12 @aD @aO @aE @aQ aW aH aJ aZ @bS @bU @bT @bV
theorem Qa: ∀l:List Nd,fitNL l→ ∀most n:Int,0≤most→most≤4194304→0≤n→n≤4194304→PC Tryz.prog 48 [.sl (l.map ndV) .ro,(.im (.int .i64 (most))),(.im (.int .i64 (n)))] (.im (.int .i64 (lpa l most n))):=by
 refine Nd.listInduct fun l ih=> ?_
 intro hl most n hq hq2 hn hn2
 obtain⟨hll,hf⟩:=hl
 unfold lpa
 refine PC.enter 101 Tryz.func48 rfl (by decide) rfl rfl (s:=[(0,.sl (l.map ndV) .ro),(1,(.im (.int .i64 (most)))),(2,(.im (.int .i64 (n))))]) (by rfl) ?_
 refine wG cL @List.length_map.{0,0} ?_
 refine cY rfl rfl (fun hE=> ?_) (fun hE=> ?_)
 ·simp only[Bool.or_eq_true,decide_eq_true_eq]at hE
  rw[if_pos (by omega)]
  refine wG cL TI ?_;exact aC
 simp only[Bool.or_eq_false_iff,decide_eq_false_iff_not]at hE
 rw[if_neg (by omega)]
 have hv:IntKind.i64.wrap (most-1)=most-1:=cU (by omega)
 refine wG cL TI ?_
 refine aP ?_
 refine ALp.cutP 0 [(0,.sl (l.map ndV) .ro),(1,(.im (.int .i64 (most)))),(7,(.im (.int .i64 (pfold (fun t n=>ndp t most n) (l.take (0)) n)))),(8,(.im (.int .i64 ((((0:Nat)):Int)))))] [] jB ?_
 refine ALp.upto l.length (fun _=>True) (fun m=>⟨dn 101 [(0,.sl (l.map ndV) .ro),(1,(.im (.int .i64 (most)))),(7,(.im (.int .i64 (pfold (fun t n=>ndp t most n) (l.take (m)) n)))),(8,(.im (.int .i64 ((((m:Nat)):Int)))))],ofl []⟩) ?_ 0 (Nat.zero_le _) trivial
 intro m hm _ hnext
 refine wG cL (AI @Int.natCast_nonneg @List.length_map.{0,0}) ?_
 refine cY rfl rfl (fun hE=> ?_) (fun hE=> ?_)
 ·obtain⟨hlt,hp⟩:=jU hE
  have hlt':(m:Int)<(l.length:Int):=by omega
  have hm1:=aL hlt (by omega)
  have hb:=dQ (f:=fun t n=>ndp t most n) (l:=l.take m) (fun t _ n hn=>Il t _ n hn) n (by omega)
  have hg:=bB hlt;have hst:=jS (f:=fun t n=>ndp t most n) hlt hp
  obtain⟨i1,i2,i3⟩:=ih l[m] (List.getElem_mem hlt);have hfi:=dR (hf _ (List.getElem_mem hlt));have hn3:=hnext (m+1) (by omega) (by omega) trivial
  rw[hst,Es]at hn3;have hall:pfold (fun t n=>ndp t most n) (l.take m) n=pfold (fun t n=>ndp t most n) (l.take m) n:=rfl
  have hend: ∀r,ndp l[m] most (pfold (fun t n=>ndp t most n) (l.take m) n)=r→ ¬0≤r→pfold (fun t n=>ndp t most n) l n=r:=fun r h1 h2=>by
   rw[←hst]at h1;rw[←h1]at h2 ⊢;exact Ii h2
  rw[Es]at hend;clear hnext hall hst hE;generalize pfold (fun t n=>ndp t most n) (l.take m) n=n0 at *
  generalize l[m]=t at *;obtain⟨_,hnm,⟨hel,hex⟩,hfl,hfel,hcl,hcx⟩:=hfi;refine wG cL (A3 hlt' hg BN05) ?_;refine cY rfl rfl (fun hE=> ?_) (fun hE=> ?_)
  ·simp only[Bool.or_eq_true,decide_eq_true_eq]at hE
   rw[hend (-1) (by rw[if_pos (by omega)]) (by omega)]
   refine wG cL TI ?_;exact aC
  simp only[Bool.or_eq_false_iff,decide_eq_false_iff_not]at hE;rw[if_neg (by omega)]at hn3
  clear hend;have hw:IntKind.i64.wrap (n0-1)=n0-1:=cU (by omega)
  refine wG cL hw ?_;refine aP ?_;refine ALp.cutP 1 [(0,.sl (l.map ndV) .ro),(1,(.im (.int .i64 (most)))),(7,(.im (.int .i64 (pfold (fun x n=>epa x 70 n) (t.e.take (0)) (n0-1))))),(8,(.im (.int .i64 ((m:Int))))),(9,.pt 0 0),(10,(.im (.int .i64 ((((0:Nat)):Int)))))] [.box [.im (.int .i64 (t).kind),.im (.int .i64 (t).width),.im (.string (t).name),.sl ((t).e.map exV) .ro,.sl ((t).l.map ndV) .ro,.sl ((t).el.map ndV) .ro,.sl ((t).cs.map nlV) .ro]] jB ?_
  refine ALp.upto t.e.length (fun _=>True) (fun j=>⟨dn 101 [(0,.sl (l.map ndV) .ro),(1,(.im (.int .i64 (most)))),(7,(.im (.int .i64 (pfold (fun x n=>epa x 70 n) (t.e.take (j)) (n0-1))))),(8,(.im (.int .i64 ((m:Int))))),(9,.pt 0 0),(10,(.im (.int .i64 ((((j:Nat)):Int)))))],ofl [.box [.im (.int .i64 (t).kind),.im (.int .i64 (t).width),.im (.string (t).name),.sl ((t).e.map exV) .ro,.sl ((t).l.map ndV) .ro,.sl ((t).el.map ndV) .ro,.sl ((t).cs.map nlV) .ro]]⟩) ?_ 0 (Nat.zero_le _) trivial
  intro j hj _ hnext;refine wG cL (AI @Int.natCast_nonneg @List.length_map.{0,0}) ?_;refine cY rfl rfl (fun hE=> ?_) (fun hE=> ?_)
  ·obtain⟨hlj,hpj⟩:=jU hE
   have hlj':(j:Int)<(t.e.length:Int):=by omega
   have hj1:=aL hlj (by omega)
   have hbj:=dQ (f:=fun x n=>epa x 70 n) (l:=t.e.take j) (fun x _ n hn=>oD x _ n hn) (n0-1) (by omega)
   have hgj:=bB hlj;have hc:=JI t.e[j] (hex _ (List.getElem_mem hlj)) 70 _ (by decide) (by decide) hpj (by omega)
   rw[←jS (f:=fun x n=>epa x 70 n) hlj hpj]at hc
   have hnj:=hnext (j+1) (by omega) (by omega) trivial
   clear hnext;refine wG cL (A3 hlj' hgj BN01) ?_;refine AR.callP hc @bI jB ?_;refine goG cL TI ?_;refine wG cL hj1 ?_;refine ALp.cutP 1 [(0,.sl (l.map ndV) .ro),(1,(.im (.int .i64 (most)))),(7,(.im (.int .i64 (pfold (fun x n=>epa x 70 n) (t.e.take (j+1)) (n0-1))))),(8,(.im (.int .i64 ((m:Int))))),(9,.pt 0 0),(10,(.im (.int .i64 ((((j+1:Nat)):Int)))))] [.box [.im (.int .i64 (t).kind),.im (.int .i64 (t).width),.im (.string (t).name),.sl ((t).e.map exV) .ro,.sl ((t).l.map ndV) .ro,.sl ((t).el.map ndV) .ro,.sl ((t).cs.map nlV) .ro]] jB ?_
   exact hnj
  rw[jT hj hE];clear hnext hE;have b1:=dQ (f:=fun x n=>epa x 70 n) (l:=t.e) (fun x _ n hn=>oD x _ n hn) (n0-1) (by omega)
  generalize pfold (fun x n=>epa x 70 n) t.e (n0-1)=n1 at *
  refine whG cL TI ?_;refine Blk'.here (Thn.n ?_)
  by_cases k1:0≤n1
  case neg =>
   have e3:nxq (lpa t.el (most-1)) (nxq (lpa t.l (most-1)) n1)=n1:=by unfold nxq;rw[if_neg k1,if_neg k1]
   rw[e3]at hn3;have k1': ¬n1≥0:=by omega
   have b3: -1≤n1∧n1≤4194304:=by omega
   generalize n1=n3 at *;refine wG cL k1' ?_;refine aP ?_;refine ALp.cutP 1 [(0,.sl (l.map ndV) .ro),(1,(.im (.int .i64 (most)))),(7,(.im (.int .i64 (pfold (fun c n=>lpa c (most-1) n) (t.cs.take (0)) n3)))),(8,(.im (.int .i64 ((m:Int))))),(9,.pt 0 0),(11,(.im (.int .i64 ((((0:Nat)):Int)))))] [.box [.im (.int .i64 (t).kind),.im (.int .i64 (t).width),.im (.string (t).name),.sl ((t).e.map exV) .ro,.sl ((t).l.map ndV) .ro,.sl ((t).el.map ndV) .ro,.sl ((t).cs.map nlV) .ro]] jB ?_
   refine ALp.upto t.cs.length (fun _=>True) (fun j=>⟨dn 101 [(0,.sl (l.map ndV) .ro),(1,(.im (.int .i64 (most)))),(7,(.im (.int .i64 (pfold (fun c n=>lpa c (most-1) n) (t.cs.take (j)) n3)))),(8,(.im (.int .i64 ((m:Int))))),(9,.pt 0 0),(11,(.im (.int .i64 ((((j:Nat)):Int)))))],ofl [.box [.im (.int .i64 (t).kind),.im (.int .i64 (t).width),.im (.string (t).name),.sl ((t).e.map exV) .ro,.sl ((t).l.map ndV) .ro,.sl ((t).el.map ndV) .ro,.sl ((t).cs.map nlV) .ro]]⟩) ?_ 0 (Nat.zero_le _) trivial
   intro j hj _ hnext;refine wG cL (AI @Int.natCast_nonneg @List.length_map.{0,0}) ?_;refine cY rfl rfl (fun hE=> ?_) (fun hE=> ?_)
   ·obtain⟨hlj,hpj⟩:=jU hE
    have hlj':(j:Int)<(t.cs.length:Int):=by omega
    have hj1:=aL hlj (by omega)
    have hbj:=dQ (f:=fun c n=>lpa c (most-1) n) (l:=t.cs.take j) (fun c _ n hn=>kE c _ n hn) n3 (by omega)
    have hgj:=bB hlj;have hc:=i3 t.cs[j] (List.getElem_mem hlj) (hcx _ (List.getElem_mem hlj)) (most-1) _ (by omega) (by omega) hpj (by omega)
    rw[←jS (f:=fun c n=>lpa c (most-1) n) hlj hpj]at hc
    have hnj:=hnext (j+1) (by omega) (by omega) trivial
    clear hnext;refine wG cL (A4 hlj' hgj hv BN05) ?_;refine AR.callP hc TI jB ?_;refine goG cL TI ?_;refine wG cL hj1 ?_;refine ALp.cutP 1 [(0,.sl (l.map ndV) .ro),(1,(.im (.int .i64 (most)))),(7,(.im (.int .i64 (pfold (fun c n=>lpa c (most-1) n) (t.cs.take (j+1)) n3)))),(8,(.im (.int .i64 ((m:Int))))),(9,.pt 0 0),(11,(.im (.int .i64 ((((j+1:Nat)):Int)))))] [.box [.im (.int .i64 (t).kind),.im (.int .i64 (t).width),.im (.string (t).name),.sl ((t).e.map exV) .ro,.sl ((t).l.map ndV) .ro,.sl ((t).el.map ndV) .ro,.sl ((t).cs.map nlV) .ro]] jB ?_
    exact hnj
   rw[jT hj hE];clear hnext hE;refine whG cL TI ?_;refine Blk'.here (Blk'.n (Thn.n ?_));refine wG cL hm1 ?_;refine ALp.cutP 0 [(0,.sl (l.map ndV) .ro),(1,(.im (.int .i64 (most)))),(7,(.im (.int .i64 (pfold (fun c n=>lpa c (most-1) n) t.cs n3)))),(8,(.im (.int .i64 ((((m+1:Nat)):Int)))))] [] jB ?_
   exact hn3
  have c1:=i1 hfl (most-1) n1 (by omega) (by omega) k1 (by omega)
  have b2:=kE t.l (most-1) n1 k1;have k1':n1≥0:=k1;have e2:nxq (lpa t.l (most-1)) n1=lpa t.l (most-1) n1:=by unfold nxq;rw[if_pos k1]
  rw[e2]at hn3;generalize lpa t.l (most-1) n1=n2 at *
  by_cases k2:0≤n2
  case neg =>
   have e3:nxq (lpa t.el (most-1)) n2=n2:=by unfold nxq;rw[if_neg k2]
   rw[e3]at hn3;have k2': ¬n2≥0:=by omega
   have b3: -1≤n2∧n2≤4194304:=by omega
   generalize n2=n3 at *;refine wG cL (A3 k1' hv BN05) ?_;refine AR.callP c1 TI jB ?_;refine goG cL TI ?_;refine wG cL k2' ?_;refine aP ?_;refine ALp.cutP 1 [(0,.sl (l.map ndV) .ro),(1,(.im (.int .i64 (most)))),(7,(.im (.int .i64 (pfold (fun c n=>lpa c (most-1) n) (t.cs.take (0)) n3)))),(8,(.im (.int .i64 ((m:Int))))),(9,.pt 0 0),(11,(.im (.int .i64 ((((0:Nat)):Int)))))] [.box [.im (.int .i64 (t).kind),.im (.int .i64 (t).width),.im (.string (t).name),.sl ((t).e.map exV) .ro,.sl ((t).l.map ndV) .ro,.sl ((t).el.map ndV) .ro,.sl ((t).cs.map nlV) .ro]] jB ?_
   refine ALp.upto t.cs.length (fun _=>True) (fun j=>⟨dn 101 [(0,.sl (l.map ndV) .ro),(1,(.im (.int .i64 (most)))),(7,(.im (.int .i64 (pfold (fun c n=>lpa c (most-1) n) (t.cs.take (j)) n3)))),(8,(.im (.int .i64 ((m:Int))))),(9,.pt 0 0),(11,(.im (.int .i64 ((((j:Nat)):Int)))))],ofl [.box [.im (.int .i64 (t).kind),.im (.int .i64 (t).width),.im (.string (t).name),.sl ((t).e.map exV) .ro,.sl ((t).l.map ndV) .ro,.sl ((t).el.map ndV) .ro,.sl ((t).cs.map nlV) .ro]]⟩) ?_ 0 (Nat.zero_le _) trivial
   intro j hj _ hnext;refine wG cL (AI @Int.natCast_nonneg @List.length_map.{0,0}) ?_;refine cY rfl rfl (fun hE=> ?_) (fun hE=> ?_)
   ·obtain⟨hlj,hpj⟩:=jU hE
    have hlj':(j:Int)<(t.cs.length:Int):=by omega
    have hj1:=aL hlj (by omega)
    have hbj:=dQ (f:=fun c n=>lpa c (most-1) n) (l:=t.cs.take j) (fun c _ n hn=>kE c _ n hn) n3 (by omega)
    have hgj:=bB hlj;have hc:=i3 t.cs[j] (List.getElem_mem hlj) (hcx _ (List.getElem_mem hlj)) (most-1) _ (by omega) (by omega) hpj (by omega)
    rw[←jS (f:=fun c n=>lpa c (most-1) n) hlj hpj]at hc
    have hnj:=hnext (j+1) (by omega) (by omega) trivial
    clear hnext;refine wG cL (A4 hlj' hgj hv BN05) ?_;refine AR.callP hc TI jB ?_;refine goG cL TI ?_;refine wG cL hj1 ?_;refine ALp.cutP 1 [(0,.sl (l.map ndV) .ro),(1,(.im (.int .i64 (most)))),(7,(.im (.int .i64 (pfold (fun c n=>lpa c (most-1) n) (t.cs.take (j+1)) n3)))),(8,(.im (.int .i64 ((m:Int))))),(9,.pt 0 0),(11,(.im (.int .i64 ((((j+1:Nat)):Int)))))] [.box [.im (.int .i64 (t).kind),.im (.int .i64 (t).width),.im (.string (t).name),.sl ((t).e.map exV) .ro,.sl ((t).l.map ndV) .ro,.sl ((t).el.map ndV) .ro,.sl ((t).cs.map nlV) .ro]] jB ?_
    exact hnj
   rw[jT hj hE];clear hnext hE;refine whG cL TI ?_;refine Blk'.here (Blk'.n (Thn.n ?_));refine wG cL hm1 ?_;refine ALp.cutP 0 [(0,.sl (l.map ndV) .ro),(1,(.im (.int .i64 (most)))),(7,(.im (.int .i64 (pfold (fun c n=>lpa c (most-1) n) t.cs n3)))),(8,(.im (.int .i64 ((((m+1:Nat)):Int)))))] [] jB ?_
   exact hn3
  have c2:=i2 hfel (most-1) n2 (by omega) (by omega) k2 (by omega)
  have b3:=kE t.el (most-1) n2 k2;have k2':n2≥0:=k2;have e3:nxq (lpa t.el (most-1)) n2=lpa t.el (most-1) n2:=by unfold nxq;rw[if_pos k2]
  rw[e3]at hn3;generalize lpa t.el (most-1) n2=n3 at *;refine wG cL (A3 k1' hv BN05) ?_;refine AR.callP c1 TI jB ?_;refine goG cL TI ?_;refine wG cL (A3 k2' hv BN05) ?_;refine AR.callP c2 TI jB ?_;refine goG cL TI ?_;refine wG cL TI ?_;refine aP ?_;refine ALp.cutP 1 [(0,.sl (l.map ndV) .ro),(1,(.im (.int .i64 (most)))),(7,(.im (.int .i64 (pfold (fun c n=>lpa c (most-1) n) (t.cs.take (0)) n3)))),(8,(.im (.int .i64 ((m:Int))))),(9,.pt 0 0),(11,(.im (.int .i64 ((((0:Nat)):Int)))))] [.box [.im (.int .i64 (t).kind),.im (.int .i64 (t).width),.im (.string (t).name),.sl ((t).e.map exV) .ro,.sl ((t).l.map ndV) .ro,.sl ((t).el.map ndV) .ro,.sl ((t).cs.map nlV) .ro]] jB ?_
  refine ALp.upto t.cs.length (fun _=>True) (fun j=>⟨dn 101 [(0,.sl (l.map ndV) .ro),(1,(.im (.int .i64 (most)))),(7,(.im (.int .i64 (pfold (fun c n=>lpa c (most-1) n) (t.cs.take (j)) n3)))),(8,(.im (.int .i64 ((m:Int))))),(9,.pt 0 0),(11,(.im (.int .i64 ((((j:Nat)):Int)))))],ofl [.box [.im (.int .i64 (t).kind),.im (.int .i64 (t).width),.im (.string (t).name),.sl ((t).e.map exV) .ro,.sl ((t).l.map ndV) .ro,.sl ((t).el.map ndV) .ro,.sl ((t).cs.map nlV) .ro]]⟩) ?_ 0 (Nat.zero_le _) trivial
  intro j hj _ hnext;refine wG cL (AI @Int.natCast_nonneg @List.length_map.{0,0}) ?_;refine cY rfl rfl (fun hE=> ?_) (fun hE=> ?_)
  ·obtain⟨hlj,hpj⟩:=jU hE
   have hlj':(j:Int)<(t.cs.length:Int):=by omega
   have hj1:=aL hlj (by omega)
   have hbj:=dQ (f:=fun c n=>lpa c (most-1) n) (l:=t.cs.take j) (fun c _ n hn=>kE c _ n hn) n3 (by omega)
   have hgj:=bB hlj;have hc:=i3 t.cs[j] (List.getElem_mem hlj) (hcx _ (List.getElem_mem hlj)) (most-1) _ (by omega) (by omega) hpj (by omega)
   rw[←jS (f:=fun c n=>lpa c (most-1) n) hlj hpj]at hc
   have hnj:=hnext (j+1) (by omega) (by omega) trivial
   clear hnext;refine wG cL (A4 hlj' hgj hv BN05) ?_;refine AR.callP hc TI jB ?_;refine goG cL TI ?_;refine wG cL hj1 ?_;refine ALp.cutP 1 [(0,.sl (l.map ndV) .ro),(1,(.im (.int .i64 (most)))),(7,(.im (.int .i64 (pfold (fun c n=>lpa c (most-1) n) (t.cs.take (j+1)) n3)))),(8,(.im (.int .i64 ((m:Int))))),(9,.pt 0 0),(11,(.im (.int .i64 ((((j+1:Nat)):Int)))))] [.box [.im (.int .i64 (t).kind),.im (.int .i64 (t).width),.im (.string (t).name),.sl ((t).e.map exV) .ro,.sl ((t).l.map ndV) .ro,.sl ((t).el.map ndV) .ro,.sl ((t).cs.map nlV) .ro]] jB ?_
   exact hnj
  rw[jT hj hE];clear hnext hE;refine whG cL TI ?_;refine Blk'.here (Blk'.n (Thn.n ?_));refine wG cL hm1 ?_;refine ALp.cutP 0 [(0,.sl (l.map ndV) .ro),(1,(.im (.int .i64 (most)))),(7,(.im (.int .i64 (pfold (fun c n=>lpa c (most-1) n) t.cs n3)))),(8,(.im (.int .i64 ((((m+1:Nat)):Int)))))] [] jB ?_
  exact hn3
 rw[jT hm hE]
 clear hnext hE
 refine wG cL TI ?_
 exact aC
def jL:=A11 @kI @jP @gK @kG @oH @rJ @oF @jD @iS @gI @jO
def Au:=A10 @aD @aO @aE @aQ aW aH @bS @bU @bT @bV
theorem IL(f:Fun)(hF:fitFn f):PC Tryz.prog 17 [fnV f] (.im (.bool (smF f))):=by
 have q1:=Qa f.body hF.bd 70 5000 (by decide) (by decide) (by decide) (by decide)
 have hvl:=hF.vl
 unfold smF
 rw[oO]
 by_cases h1:f.vars.length≤300
 case neg =>
  have h1':(f.vars.length:Int)>300:=by omega
  rw[decide_eq_false h1,Bool.false_and];refine PC.enter 29 Tryz.func17 rfl (by decide) rfl rfl (s:=[(0,.ag [.im (.string f.name),.sl (f.vars.map vaV) .ro,.sl (f.body.map ndV) .ro])]) (by rfl) ?_
  refine wG jL (AI @List.length_map.{0,0} h1') ?_;exact aC
 have h1': ¬(f.vars.length:Int)>300:=by omega
 rw[decide_eq_true h1,Bool.true_and]
 by_cases h2:0≤lpa f.body 70 5000
 case neg =>
  have h2':lpa f.body 70 5000<0:=by omega
  rw[decide_eq_false h2,Bool.false_and];refine PC.enter 29 Tryz.func17 rfl (by decide) rfl rfl (s:=[(0,.ag [.im (.string f.name),.sl (f.vars.map vaV) .ro,.sl (f.body.map ndV) .ro])]) (by rfl) ?_
  refine wG jL (AI @List.length_map.{0,0} h1') ?_;refine AR.callP q1 TI Au ?_;refine goG jL h2' ?_;refine wG jL h2' ?_;exact aC
 have h2': ¬lpa f.body 70 5000<0:=by omega
 rw[decide_eq_true h2,Bool.true_and]
 refine PC.enter 29 Tryz.func17 rfl (by decide) rfl rfl (s:=[(0,.ag [.im (.string f.name),.sl (f.vars.map vaV) .ro,.sl (f.body.map ndV) .ro])]) (by rfl) ?_
 refine wG jL (AI @List.length_map.{0,0} h1') ?_
 refine AR.callP q1 TI Au ?_
 refine goG jL h2' ?_
 refine wG jL h2' ?_
 refine aP ?_
 refine ALp.cutP 1 [(1,.pt 0 0),(3,(.im (.int .i64 ((((0:Nat)):Int)))))] [.box [.im (.string f.name),.sl (f.vars.map vaV) .ro,.sl (f.body.map ndV) .ro]] Au ?_
 refine ALp.upto f.vars.length (toP (fun v=>smallT v.ty 70) f.vars) (fun m=>⟨dn 29 [(1,.pt 0 0),(3,(.im (.int .i64 ((((m:Nat)):Int)))))],ofl [.box [.im (.string f.name),.sl (f.vars.map vaV) .ro,.sl (f.body.map ndV) .ro]]⟩) ?_ 0 (Nat.zero_le _) (toP.zero _ _)
 intro m hm hI hnext
 by_cases hlt:m<f.vars.length
 ·have hlt':(m:Int)<(f.vars.length:Int):=by omega
  have hm1:=aL hlt (by omega)
  have hg:=bB hlt;have hc:=Py f.vars[m].ty (hF.vn _ (List.getElem_mem hlt)).1 70 (by decide) (by decide)
  cases b:smallT f.vars[m].ty 70 with
  | false =>
   rw[b]at hc;rw[Ul hlt b];refine wdG jL (A3 hlt' hg VA) ?_;refine AR.callP hc @bP Au ?_;refine goG jL TI ?_;refine wdG jL TI ?_;exact aC
  | true =>
   rw[b]at hc;refine wdG jL (A3 hlt' hg VA) ?_;refine AR.callP hc @bP Au ?_;refine goG jL TI ?_;refine wdG jL hm1 ?_;refine ALp.cutP 1 [(1,.pt 0 0),(3,(.im (.int .i64 ((((m+1:Nat)):Int)))))] [.box [.im (.string f.name),.sl (f.vars.map vaV) .ro,.sl (f.body.map ndV) .ro]] Au ?_;exact hnext (m+1) (by omega) (by omega) (hI.succ hlt b)
 obtain rfl:m=f.vars.length:=by omega
 rw[hI.all]
 clear hnext hI
 refine wG jL @Int.lt_irrefl ?_
 exact aC
theorem MK: ∀e:Ex,fitE e→n32 e=true:=by
 refine Ex.induct fun o n s w l hl=> ?_
 intro hf
 obtain⟨_,h2⟩:=nS hf
 obtain⟨_,h3,_⟩:=Pd hf
 rw[Eu,Bool.and_eq_true,decide_eq_true_eq,List.all_eq_true]
 exact⟨by omega,fun t ht=>hl t ht (h2 t ht)⟩
end Go.Proofs.YtmbmmckagcdapaaGreatDoor
namespace Go.Proofs.YtmbmmckagcdapaaGreatDoor
theorem Pr{t:Ty}(h:chk t=0):shal t 64=true:=by
 unfold chk at h
 cases q:shal t 64 with
 | true=>rfl
 | false=>rw[q]at h;simp at h
theorem GS{f:Fun}(h:prtB f=true)(hF:fitFn f):FunOk f:=by
 obtain⟨h1,h2,h3,h4⟩:=Ef h
 have hfit:=Xj f.body hF.bd false
 refine⟨h1,fun v hv=>⟨(h3 v hv).1,Ey (yF (h3 v hv).2),Pr (h3 v hv).2⟩,fun t ht=>⟨Xg h t ht,UA (lp:=false) qE fun q hq=> ?_⟩,h2⟩
 have hm:q∈allL f.body false:=List.mem_flatMap.2 ⟨t,ht,hq⟩
 rw[List.all_eq_true]
 intro x hx
 obtain⟨k1,k2⟩:=h4 q hm
 have hfe:=(dR (hfit q hm)).2.2.1.2 x hx
 have hg:=(XS x ((iD k2).2.2.1 x hx) 63 (k1 x hx)).1
 unfold qE
 rw[MK x hfe,decide_eq_true hg]
 rfl
theorem mR(k:Nat)(s:Bs):(lnT k s).length=2*k+s.length+1:=by
 have h:(Lib.repeatL ([32,32]:Bs) k).length=2*k:=by rw[Lib.repeatL_length];show k*2=_;omega
 unfold lnT
 rw[List.length_append,List.length_append,h]
 rfl
theorem Vz{α:Type}{f:α→Nat}{x:α}: ∀ {l:List α},x∈l→f x≤(l.map f).sum
 | y::l,h=>by
  rw[List.map_cons,List.sum_cons];rcases List.mem_cons.1 h with rfl|h
  ·omega
  ·have:=Vz (f:=f) h;omega
theorem Jz{α:Type}{f:α→Nat}{B:Nat}: ∀ {l:List α},(∀x∈l,f x≤B)→(l.map f).sum≤l.length*B
 | [],_=>by simp
 | x::l,h=>by
  have h1:=h x (by simp)
  have h2:=Jz (l:=l) fun y hy=>h y (by simp[hy])
  rw[List.map_cons,List.sum_cons,List.length_cons,Nat.add_mul];omega
theorem HG(l:List Ex)(i:Nat):(Hd l i).length≤(l.map fun x=>(txE x).length).sum:=by
 unfold Hd
 cases h:l[i]? with
 | none=>exact Nat.zero_le _
 | some x=>exact Vz (f:=fun x=>(txE x).length) (List.mem_of_getElem? h)
theorem vL{α:Type}(f:α→Bs)(l:List α):((l.map f).flatten).length=(l.map fun x=>(f x).length).sum:=by
 rw[List.length_flatten,List.map_map]
 rfl
theorem Wr(k:Nat)(hk:k≤140): ∀(cs:List (List Nd)) (j:Nat),j+cs.length≤1000→(((cs.zipIdx j).map (caS k)).flatten).length≤700*cs.length+(cs.map fun c=>(lsT c (k+2)).length).sum
 | [],j,_=>by simp
 | c::cs,j,h=>by
  rw[List.length_cons]at h;have ih:=Wr k hk cs (j+1) (by omega)
  have hi:=uB (c:=(j:Int)) (by omega) (by omega)
  have h1:(caS k (c,j)).length≤700+(lsT c (k+2)).length:=by
   unfold caS;simp only[List.length_append,mR,List.length_cons,List.length_nil];omega
  rw[List.zipIdx_cons,List.map_cons,List.flatten_cons,List.length_append,List.map_cons,List.sum_cons,List.length_cons];omega
theorem Nr{t:Nd}(h:stT t=true):t.name.data.toList.length≤32∧t.cs.length≤64:=by
 unfold stT at h
 simp only[Bool.and_eq_true,decide_eq_true_eq,List.all_eq_true]at h
 obtain⟨⟨⟨⟨⟨⟨⟨⟨h1,h2⟩,h3⟩,h4⟩,h5⟩,h6⟩,h7⟩,h8⟩,h9⟩:=h
 constructor
 ·split at h4
  ·have:=(mE h4).2.2.2
   have e:t.name.data.toList.length=t.name.size:=by simp
   omega
  ·rw[vO]at h4
   rw[h4]
   decide
 ·split at h8
  ·simp only[Bool.and_eq_true,decide_eq_true_eq]at h8
   exact h8.2
  ·rw[decide_eq_true_eq]at h8
   omega
theorem LV{t:Nd}(h:stT t=true):(simT t).length≤100+(t.e.map fun x=>(txE x).length).sum:=by
 obtain⟨hn,_⟩:=Nr h
 have he:=(iD h).2.1
 have h0:=HG t.e 0
 by_cases hk:t.kind=2
 ·rw[hk]at he
  obtain⟨a,b,hab⟩:=CZ he;unfold simT;rw[if_neg (by omega),if_pos hk,hab]
  simp only[Hd,wB,List.length_append,List.length_cons,List.length_nil,List.map_cons,List.map_nil,List.sum_cons,List.sum_nil,List.getElem?_cons_zero,List.getElem?_cons_succ];omega
 ·unfold simT
  repeat' split
  all_goals first|omega|(simp only[List.length_append,List.length_cons,List.length_nil];omega)
theorem Vs{f:Int→Int}{n:Int}(h:0≤nxq f n):0≤n∧nxq f n=f n:=by
 unfold nxq at h ⊢
 split at h
 ·rename_i h0;exact⟨h0,if_pos h0⟩
 ·omega
theorem Ih{α:Type}{f:α→Int→Int}{l:List α}{n:Int}(h:0≤pfold f l n):0≤n:=Int.not_lt.1 fun hneg=>by
 rw[lB _ (by omega)]at h
 omega
theorem TC{t:Nd}(hst:stT t=true){k:Nat}(hk:k≤140):(ndT t k).length≤46800+((t.e.map fun x=>(txE x).length).sum+((lsT t.l (k+1)).length+((lsT t.el (k+1)).length+(t.cs.map fun c=>(lsT c (k+2)).length).sum))):=by
 have hse:=LV hst
 obtain⟨_,hcl⟩:=Nr hst
 have hinv:=iD hst
 obtain⟨kd,w,nm,e,l,el,cs⟩:=t
 simp only[Nd.e,Nd.l,Nd.el,Nd.cs,Nd.kind]at hse hcl hinv ⊢
 by_cases k6:kd=6
 ·subst k6
  obtain⟨a,rfl⟩:=xX hinv.2.1;rw[nd6];simp only[List.map_cons,List.map_nil,List.sum_cons,List.sum_nil];split<;>simp only[List.length_append,mR,List.length_cons,List.length_nil]<;>omega
 by_cases k7:kd=7
 ·subst k7
  obtain⟨a,rfl⟩:=xX hinv.2.1;rw[nd7];simp only[List.map_cons,List.map_nil,List.sum_cons,List.sum_nil,List.length_append,mR,List.length_cons,List.length_nil];omega
 by_cases k8:kd=8
 ·subst k8
  rw[nd8];simp only[List.length_append,mR,List.length_cons,List.length_nil];omega
 by_cases k9:kd=9
 ·subst k9
  obtain⟨a,rfl⟩:=xX hinv.2.1;rw[nd9];have:=Wr k (by omega) cs 0 (by omega)
  simp only[List.map_cons,List.map_nil,List.sum_cons,List.sum_nil,List.length_append,mR,List.length_cons,List.length_nil];omega
 ·have e1:ndT (.mk kd w nm e l el cs) k=lnT k (simT (.mk kd w nm e l el cs)):=by
   rw[jV];show(if kd=6 then _ else if kd=7 then _ else if kd=8 then _ else if kd=9 then _ else lnT k (simT (.mk kd w nm e l el cs)))=_
   rw[if_neg k6,if_neg k7,if_neg k8,if_neg k9]
  rw[e1,mR];omega
def NdL(t:Nd):Prop:=okT t=true→exA qE t=true→ ∀(most n:Int) (k:Nat),1≤most→0≤n→(k:Int)+2*most≤141→0≤ndp t most n→((ndT t k).length:Int)≤50000*(n-ndp t most n)
theorem Ch{l:List Nd}(ih: ∀t∈l,NdL t)(ho:l.all okT=true)(hx:l.all (exA qE)=true){most n:Int}{k:Nat}(hn:0≤n)(hk:(k:Int)+2*most≤141)(hp:0≤lpa l most n):((lsT l k).length:Int)≤50000*(n-lpa l most n):=by
 unfold lpa at hp ⊢
 split at hp
 ·omega
 rename_i hc
 rw[if_neg hc]
 unfold lsT
 rw[vL]
 rw[List.all_eq_true]at ho hx
 exact uZ (f:=fun t n=>ndp t most n) (g:=fun t=>(ndT t k).length) (C:=50000) (by decide) (fun t ht n hn=>⟨(Il t most n hn).2,fun h=>ih t ht (ho t ht) (hx t ht) most n k (by omega) hn hk h⟩) n hn hp
theorem TB: ∀t,NdL t:=by
 refine Nd.induct fun kd w nm e l el cs h1 h2 h3=> ?_
 intro hok hex most n k hm hn hk hp
 rw[zV]at hok
 rw[Lf]at hex
 simp only[Bool.and_eq_true]at hok hex
 obtain⟨hst,ol,oel,ocs⟩:=hok
 obtain⟨xe,xl,xel,xcs⟩:=hex
 rw[List.all_eq_true]at ocs xcs xe
 have hinv:=iD hst
 rw[Es]at hp ⊢
 split at hp
 ·omega
 rename_i hc
 rw[if_neg hc]
 simp only[Nd.e,Nd.l,Nd.el,Nd.cs,Nd.kind]at hp hinv ⊢
 have p3:=Ih hp
 obtain⟨p2,e3⟩:=Vs p3
 rw[e3]at hp p3 ⊢
 obtain⟨p1,e2⟩:=Vs p2
 rw[e2]at hp p2 p3 ⊢
 have p0:=Ih p1
 have s1:=uZ (f:=fun x n=>epa x 70 n) (g:=fun x=>(txE x).length) (C:=40) (by decide) (l:=e) (fun x hx n hn=>⟨(oD x 70 n hn).2,fun h=>by
  have q:=NU x 70 n hn h;have:=LL x (hinv.2.2.1 x hx) (FJ x (xe x hx)) (n+1) (by omega)
  omega⟩) (n-1) p0 p1
 have s2:=Ch (k:=k+1) h1 ol xl (n:=pfold (fun x n=>epa x 70 n) e (n-1)) p1 (by omega) p2
 have s3:=Ch (k:=k+1) h2 oel xel (n:=lpa l (most-1) (pfold (fun x n=>epa x 70 n) e (n-1))) p2 (by omega) p3
 have s4:=uZ (f:=fun c n=>lpa c (most-1) n) (g:=fun c=>(lsT c (k+2)).length) (C:=50000) (by decide) (l:=cs) (fun c hc n hn=>⟨(kE c (most-1) n hn).2,fun h=>Ch (h3 c hc) (ocs c hc) (xcs c hc) hn (by omega) h⟩) _ p3 hp
 generalize pfold (fun x n=>epa x 70 n) e (n-1)=q1 at *
 generalize lpa l (most-1) q1=q2 at *
 generalize lpa el (most-1) q2=q3 at *
 generalize pfold (fun c n=>lpa c (most-1) n) cs q3=q4 at *
 have hkey:=TC hst (k:=k) (by omega)
 simp only[Nd.e,Nd.l,Nd.el,Nd.cs]at hkey
 omega
theorem TJ{l:List Nd}(h: ∀t∈l,okT t=true∧exA qE t=true)(hp:0≤lpa l 70 5000):(lsT l 1).length≤250000000:=by
 have:=Ch (l:=l) (k:=1) (fun t _=>TB t) (List.all_eq_true.2 fun t ht=>(h t ht).1) (List.all_eq_true.2 fun t ht=>(h t ht).2) (n:=5000) (by decide) (by decide) hp
 omega
theorem Sg{v:Va}(h:VaOk v)(hs:smallT v.ty 70=true)(k:Nat)(hk:k≤1):(varT k v).length≤121000:=by
 have h1:=Yd h.ty hs
 have h2:=(mE h.name).2.2.2
 have e:v.name.data.toList.length=v.name.size:=by simp
 unfold varT
 simp only[List.length_append,mR,List.length_cons,List.length_nil]
 omega
theorem Vc{l:List Va}(h: ∀v∈l,VaOk v)(hs: ∀v∈l,smallT v.ty 70=true)(hl:l.length≤300)(k:Nat)(hk:k≤1):(vasT k l).length≤36300000:=by
 unfold vasT
 rw[vL]
 have:=Jz (f:=fun v=>(varT k v).length) (B:=121000) (l:=l) fun v hv=>Sg (h v hv) (hs v hv) k hk
 omega
theorem NC{f:Fun}(h:FunOk f)(hs:smF f=true):(funT f).length≤300000000:=by
 unfold smF at hs
 simp only[Bool.and_eq_true,decide_eq_true_eq,List.all_eq_true]at hs
 obtain⟨h1,h2,h3⟩:=hs
 have l1:=Vc h.vars h3 h1 1 (by decide)
 have l2:=TJ h.body h2
 have h4:=(mE h.name).2.2.2
 have e:f.name.data.toList.length=f.name.size:=by simp
 unfold funT
 simp only[List.length_append,mR,List.length_cons,List.length_nil]
 omega
theorem IC{vs:List Va}{fs ls sn:List ByteArray}{p:Nd×Bool}(h:chk1 vs fs ls sn p=0):(p.1.e.all fun x=>esh x 64)=true∧stT p.1=true:=by
 unfold chk1 at h
 rcases aI h with ⟨_,h⟩|⟨h1,h⟩
 ·cases h
 rcases aI h with ⟨_,h⟩|⟨h2,h⟩
 ·cases h
 exact⟨by simpa using h1,by simpa using h2⟩
theorem Nv{vs:List Va}{fs ls:List ByteArray}: ∀ {l:List (Nd×Bool)} {sn:List ByteArray},runS vs fs ls sn l=0→ ∀p∈l,(p.1.e.all fun x=>esh x 64)=true∧stT p.1=true
 | [],_,_,p,hp=>by cases hp
 | q::r,sn,h,p,hp=>by
  rw[uY]at h;rcases aI h with ⟨h1,h⟩|⟨h1,h⟩
  ·rcases List.mem_cons.1 hp with rfl|hp
   ·exact IC h1
   ·exact Nv h p hp
  ·exact absurd h h1
theorem Dg: ∀ {l seen:List Va},vErr seen l=0→ ∀v∈l,nameT v.name=true∧chk v.ty=0
 | [],_,_,v,hv=>by cases hv
 | x::r,seen,h,v,hv=>by
  rw[vErr]at h;rcases aI h with ⟨_,h⟩|⟨h1,h⟩
  ·cases h
  rcases aI h with ⟨_,h⟩|⟨h2,h⟩
  ·cases h
  rcases aI h with ⟨h3,h⟩|⟨h3,h⟩
  ·exact absurd h h3
  rcases List.mem_cons.1 hv with rfl|hv
  ·exact⟨by simpa using h1,Classical.not_not.1 h3⟩
  ·exact Dg h v hv
theorem Po: ∀ {l seen:List Sec},dErr seen l=0→ ∀d∈l,nameT d.name=true∧d.data.length≤65536
 | [],_,_,v,hv=>by cases hv
 | x::r,seen,h,v,hv=>by
  rw[dErr]at h;rcases aI h with ⟨_,h⟩|⟨h1,h⟩
  ·cases h
  rcases aI h with ⟨_,h⟩|⟨h2,h⟩
  ·cases h
  rcases aI h with ⟨_,h⟩|⟨h3,h⟩
  ·cases h
  rcases List.mem_cons.1 hv with rfl|hv
  ·exact⟨by simpa using h1,by omega⟩
  ·exact Po h v hv
theorem Wh: ∀ {l:List Fun} {seen:List ByteArray},fnE seen l=0→ ∀f∈l,nameT f.name=true
 | [],_,_,v,hv=>by cases hv
 | x::r,seen,h,v,hv=>by
  rw[fnE]at h;rcases aI h with ⟨_,h⟩|⟨h1,h⟩
  ·cases h
  rcases aI h with ⟨_,h⟩|⟨h2,h⟩
  ·cases h
  rcases List.mem_cons.1 hv with rfl|hv
  ·simpa using h1
  ·exact Wh h v hv
theorem Xh{gs:List Va}{fs:List ByteArray}: ∀ {l:List Fun},bdE gs fs l=0→ ∀f∈l,bodyE gs f fs=0
 | [],_,v,hv=>by cases hv
 | x::r,h,v,hv=>by
  rw[bdE]at h;rcases aI h with ⟨h1,h⟩|⟨h1,h⟩
  ·rcases List.mem_cons.1 hv with rfl|hv
   ·exact h1
   ·exact Xh h v hv
  ·exact absurd h h1
theorem CD{gs:List Va}{f:Fun}{fs:List ByteArray}(hn:nameT f.name=true)(h:bodyE gs f fs=0):prtB f=true∧f.vars.length≤256∧cnt f.body≤1024:=by
 unfold bodyE at h
 rcases aI h with ⟨_,h⟩|⟨h1,h⟩
 ·cases h
 rcases aI h with ⟨h2,h⟩|⟨h2,h⟩
 ·exact absurd h h2
 rcases aI h with ⟨_,h⟩|⟨h3,h⟩
 ·cases h
 rcases aI h with ⟨_,h⟩|⟨h4,h⟩
 ·cases h
 refine⟨?_,by omega,by omega⟩
 have hv:=Dg (Classical.not_not.1 h2)
 have hr:=Nv h
 unfold prtB ST SU
 simp only[Bool.and_eq_true,decide_eq_true_eq,List.all_eq_true,Bool.not_eq_true',List.any_eq_false,Bool.not_eq_eq_eq_not,Bool.not_true,Bool.not_eq_false]
 refine⟨hn,by omega,hv,fun q hq=>⟨fun x hx=> ?_,(hr q hq).2⟩⟩
 have:=List.all_eq_true.1 (hr q hq).1 x hx
 simpa using this
theorem LF{u:Un}(hu:fitU u)(hA: ∀d∈u.data,0≤d.addr∧d.addr<4294967296)(h:unE u=0):UnOk u∧(u.globals.length≤256∧u.data.length≤16∧u.funcs.length≤64)∧(∀d∈u.data,d.data.length≤65536)∧(∀f∈u.funcs,prtB f=true∧f.vars.length≤256∧cnt f.body≤1024)∧ ∀v∈u.globals,good v.ty=true:=by
 unfold unE at h
 rcases aI h with ⟨_,h⟩|⟨h1,h⟩
 ·cases h
 rcases aI h with ⟨_,h⟩|⟨h2,h⟩
 ·cases h
 rcases aI h with ⟨h3,h⟩|⟨h3,h⟩
 ·exact absurd h h3
 rcases aI h with ⟨h4,h⟩|⟨h4,h⟩
 ·exact absurd h h4
 rcases aI h with ⟨h5,h⟩|⟨h5,h⟩
 ·exact absurd h h5
 have hv:=Dg (Classical.not_not.1 h3)
 have hd:=Po (Classical.not_not.1 h4)
 have hf:=Wh (Classical.not_not.1 h5)
 have hb: ∀f∈u.funcs,prtB f=true∧f.vars.length≤256∧cnt f.body≤1024:=fun f hm=>CD (hf f hm) (Xh h f hm)
 refine⟨⟨fun v hm=>⟨(hv v hm).1,Ey (yF (hv v hm).2),Pr (hv v hm).2⟩,fun d hm=>⟨(hd d hm).1,hA d hm⟩,fun f hm=>GS (hb f hm).1 (hu.fn f hm)⟩,by omega,fun d hm=>(hd d hm).2,hb,fun v hm=>yF (hv v hm).2⟩
def smU(u:Un):Bool:=decide (u.globals.length≤300∧u.data.length≤20∧u.funcs.length≤70)&&(decide ((u.data.map fun d=>min d.data.length 3000).sum<3000)&&(u.globals.all (fun v=>smallT v.ty 70)&&u.funcs.all smF))
theorem GN{n:Nat}(h:n<4294967296):(lP n).length≤8:=rD 7 (n+1) n (by omega) (by omega)
theorem NX{d:Sec}(h:SecOk d){D:Nat}(hd:d.data.length≤D):(datT d).length≤4*D+100:=by
 have h1:=(mE h.name).2.2.2
 have e:d.name.data.toList.length=d.name.size:=by simp
 have h2:=GN (n:=d.addr.toNat) (by have:=h.addr;omega)
 have h3:=Oz d.data
 unfold datT Cb Nw quoS
 cases d.wr<;>cases d.exe<;>simp only[if_true,if_false,Bool.false_eq_true,List.length_append,mR,List.length_cons,List.length_nil]<;>omega
theorem CQ{u:Un}(h:UnOk u)(hl:u.globals.length≤256∧u.data.length≤16∧u.funcs.length≤64)(hd: ∀d∈u.data,d.data.length≤65536)(hs:smU u=true):(uniT u).length≤20000000000:=by
 unfold smU at hs
 simp only[Bool.and_eq_true,decide_eq_true_eq,List.all_eq_true]at hs
 obtain⟨h1,h2,h3,h4⟩:=hs
 have l1:=Vc h.globals h3 (by omega) 0 (by decide)
 have l2:=Jz (f:=fun d=>(datT d).length) (B:=262244) (l:=u.data) fun d hm=>NX (h.data d hm) (hd d hm)
 have l3:=Jz (f:=fun f=>(funT f).length) (B:=300000000) (l:=u.funcs) fun f hm=>NC (h.funcs f hm) (h4 f hm)
 have m2:u.data.length*262244≤16*262244:=Nat.mul_le_mul_right _ hl.2.1
 have m3:u.funcs.length*300000000≤64*300000000:=Nat.mul_le_mul_right _ hl.2.2
 unfold uniT
 rw[List.length_append,List.length_append,vL,vL]
 omega
end Go.Proofs.YtmbmmckagcdapaaGreatDoor
namespace Go.Proofs.YtmbmmckagcdapaaGreatDoor
open Go.RowKit
def iI:=A16 @nM @iV @cO @jP @iA @fE @dT @jZ @kT @nZ @gJ @iP @xI @mN @iO (A10 @lI @lH @lG @nL @gY @cN @iS @hX @dP @dC)
def qN:=A8 @aD @aO @aE @aQ aW aH aJ aZ
def SamL(l:List Nd):Prop:=PC Tryz.prog 53 [.sl (l.map ndV) .ro,.sl (l.map ndV) .ro] (.im (.bool (true)))
theorem IR(l:List Nd)(hl:fitNL l)(h: ∀t∈l,SamL t.l∧SamL t.el∧ ∀c∈t.cs,SamL c):SamL l:=by
 show PC _ _ _ _
 obtain⟨hn,hf⟩:=hl
 refine PC.enter 120 Tryz.func53 rfl (by decide) rfl rfl (s:=[(0,.sl (l.map ndV) .ro),(1,.sl (l.map ndV) .ro)]) (by rfl) ?_
 refine wG iI @List.length_map.{0,0} ?_
 refine aP ?_
 refine ALp.cutP 0 [(0,.sl (l.map ndV) .ro),(1,.sl (l.map ndV) .ro),(5,(.im (.int .i64 ((((0:Nat)):Int)))))] [] qN ?_
 refine ALp.upto l.length (fun _=>True) (fun m=>⟨dn 120 [(0,.sl (l.map ndV) .ro),(1,.sl (l.map ndV) .ro),(5,(.im (.int .i64 ((((m:Nat)):Int)))))],ofl []⟩) ?_ 0 (Nat.zero_le _) trivial
 intro m hm hI hnext
 by_cases hlt:m<l.length
 ·have hlt':(m:Int)<(l.length:Int):=by omega
  have hg:=bB hlt;have hm1:=aL hlt (by omega)
  obtain⟨h1,h2,h3⟩:=h l[m] (List.getElem_mem hlt);unfold SamL at h1 h2;have hf:=dR (hf _ (List.getElem_mem hlt));generalize l[m]=t at hg h1 h2 h3 hf;obtain⟨_,hnm,⟨hel,hex⟩,_,_,hcl,hcx⟩:=hf;refine wG iI (A3 hlt' hg BN05) ?_;refine wdG iI BN05 ?_;refine AR.callP h1 TI qN ?_;refine goG iI BN05 ?_;refine AR.callP h2 TI qN ?_;refine goG iI BN05 ?_;refine wdG iI BN05 ?_;refine aP ?_;refine ALp.cutP 2 [(0,.sl (l.map ndV) .ro),(1,.sl (l.map ndV) .ro),(5,(.im (.int .i64 ((m:Int))))),(6,.pt 0 0),(7,.pt 1 0),(8,(.im (.int .i64 ((((0:Nat)):Int)))))] [.box [.im (.int .i64 (t).kind),.im (.int .i64 (t).width),.im (.string (t).name),.sl ((t).e.map exV) .ro,.sl ((t).l.map ndV) .ro,.sl ((t).el.map ndV) .ro,.sl ((t).cs.map nlV) .ro],.box [.im (.int .i64 (t).kind),.im (.int .i64 (t).width),.im (.string (t).name),.sl ((t).e.map exV) .ro,.sl ((t).l.map ndV) .ro,.sl ((t).el.map ndV) .ro,.sl ((t).cs.map nlV) .ro]] qN ?_;refine ALp.upto t.e.length (fun _=>True) (fun j=>⟨dn 120 [(0,.sl (l.map ndV) .ro),(1,.sl (l.map ndV) .ro),(5,(.im (.int .i64 ((m:Int))))),(6,.pt 0 0),(7,.pt 1 0),(8,(.im (.int .i64 ((((j:Nat)):Int)))))],ofl [.box [.im (.int .i64 (t).kind),.im (.int .i64 (t).width),.im (.string (t).name),.sl ((t).e.map exV) .ro,.sl ((t).l.map ndV) .ro,.sl ((t).el.map ndV) .ro,.sl ((t).cs.map nlV) .ro],.box [.im (.int .i64 (t).kind),.im (.int .i64 (t).width),.im (.string (t).name),.sl ((t).e.map exV) .ro,.sl ((t).l.map ndV) .ro,.sl ((t).el.map ndV) .ro,.sl ((t).cs.map nlV) .ro]]⟩) ?_ 0 (Nat.zero_le _) trivial
  intro j hj hJ hnext2
  by_cases hlj:j<t.e.length
  ·have hlj':(j:Int)<(t.e.length:Int):=by omega
   have hgj:=bB hlj;have hj1:=aL hlj (by omega)
   have hc:=Uc t.e[j] (hex _ (List.getElem_mem hlj)) t.e[j] (hex _ (List.getElem_mem hlj));rw[Zf]at hc;refine wdG iI (A3 hlj' hgj EX) ?_;refine AR.callP hc @bI qN ?_;refine goG iI TI ?_;refine wdG iI hj1 ?_;refine ALp.cutP 2 [(0,.sl (l.map ndV) .ro),(1,.sl (l.map ndV) .ro),(5,(.im (.int .i64 ((m:Int))))),(6,.pt 0 0),(7,.pt 1 0),(8,(.im (.int .i64 ((((j+1:Nat)):Int)))))] [.box [.im (.int .i64 (t).kind),.im (.int .i64 (t).width),.im (.string (t).name),.sl ((t).e.map exV) .ro,.sl ((t).l.map ndV) .ro,.sl ((t).el.map ndV) .ro,.sl ((t).cs.map nlV) .ro],.box [.im (.int .i64 (t).kind),.im (.int .i64 (t).width),.im (.string (t).name),.sl ((t).e.map exV) .ro,.sl ((t).l.map ndV) .ro,.sl ((t).el.map ndV) .ro,.sl ((t).cs.map nlV) .ro]] qN ?_;exact hnext2 (j+1) (by omega) (by omega) trivial
  obtain rfl:j=t.e.length:=by omega
  clear hnext2 hJ;refine whG iI @Int.lt_irrefl ?_;refine Blk'.here (Thn.n ?_);refine wG iI TI ?_;refine aP ?_;refine ALp.cutP 2 [(0,.sl (l.map ndV) .ro),(1,.sl (l.map ndV) .ro),(5,(.im (.int .i64 ((m:Int))))),(6,.pt 0 0),(7,.pt 1 0),(9,(.im (.int .i64 ((((0:Nat)):Int)))))] [.box [.im (.int .i64 (t).kind),.im (.int .i64 (t).width),.im (.string (t).name),.sl ((t).e.map exV) .ro,.sl ((t).l.map ndV) .ro,.sl ((t).el.map ndV) .ro,.sl ((t).cs.map nlV) .ro],.box [.im (.int .i64 (t).kind),.im (.int .i64 (t).width),.im (.string (t).name),.sl ((t).e.map exV) .ro,.sl ((t).l.map ndV) .ro,.sl ((t).el.map ndV) .ro,.sl ((t).cs.map nlV) .ro]] qN ?_;refine ALp.upto t.cs.length (fun _=>True) (fun j=>⟨dn 120 [(0,.sl (l.map ndV) .ro),(1,.sl (l.map ndV) .ro),(5,(.im (.int .i64 ((m:Int))))),(6,.pt 0 0),(7,.pt 1 0),(9,(.im (.int .i64 ((((j:Nat)):Int)))))],ofl [.box [.im (.int .i64 (t).kind),.im (.int .i64 (t).width),.im (.string (t).name),.sl ((t).e.map exV) .ro,.sl ((t).l.map ndV) .ro,.sl ((t).el.map ndV) .ro,.sl ((t).cs.map nlV) .ro],.box [.im (.int .i64 (t).kind),.im (.int .i64 (t).width),.im (.string (t).name),.sl ((t).e.map exV) .ro,.sl ((t).l.map ndV) .ro,.sl ((t).el.map ndV) .ro,.sl ((t).cs.map nlV) .ro]]⟩) ?_ 0 (Nat.zero_le _) trivial
  intro j hj hJ hnext2
  by_cases hlj:j<t.cs.length
  ·have hlj':(j:Int)<(t.cs.length:Int):=by omega
   have hgj:=bB hlj;have hj1:=aL hlj (by omega)
   have hc:=h3 t.cs[j] (List.getElem_mem hlj);unfold SamL at hc;refine wdG iI (A3 hlj' hgj BN05) ?_;refine AR.callP hc TI qN ?_;refine goG iI TI ?_;refine wdG iI hj1 ?_;refine ALp.cutP 2 [(0,.sl (l.map ndV) .ro),(1,.sl (l.map ndV) .ro),(5,(.im (.int .i64 ((m:Int))))),(6,.pt 0 0),(7,.pt 1 0),(9,(.im (.int .i64 ((((j+1:Nat)):Int)))))] [.box [.im (.int .i64 (t).kind),.im (.int .i64 (t).width),.im (.string (t).name),.sl ((t).e.map exV) .ro,.sl ((t).l.map ndV) .ro,.sl ((t).el.map ndV) .ro,.sl ((t).cs.map nlV) .ro],.box [.im (.int .i64 (t).kind),.im (.int .i64 (t).width),.im (.string (t).name),.sl ((t).e.map exV) .ro,.sl ((t).l.map ndV) .ro,.sl ((t).el.map ndV) .ro,.sl ((t).cs.map nlV) .ro]] qN ?_;exact hnext2 (j+1) (by omega) (by omega) trivial
  obtain rfl:j=t.cs.length:=by omega
  clear hnext2 hJ;refine whG iI @Int.lt_irrefl ?_;refine Blk'.here (Blk'.n (Thn.n ?_));refine wG iI hm1 ?_;refine ALp.cutP 0 [(0,.sl (l.map ndV) .ro),(1,.sl (l.map ndV) .ro),(5,(.im (.int .i64 ((((m+1:Nat)):Int)))))] [] qN ?_;exact hnext (m+1) (by omega) (by omega) trivial
 obtain rfl:m=l.length:=by omega
 clear hnext hI
 refine wG iI @Int.lt_irrefl ?_
 exact aC
theorem OI: ∀l,fitNL l→SamL l:=by
 refine Nd.listInduct fun l ih=> ?_
 intro hl
 refine IR l hl fun t ht=> ?_
 have hf:=dR (hl.2 t ht)
 obtain⟨i1,i2,i3⟩:=ih t ht
 exact⟨i1 hf.2.2.2.1,i2 hf.2.2.2.2.1,fun c hc=>i3 c hc (hf.2.2.2.2.2.2 c hc)⟩
def Cr:=A9 @kI @jP @dT @Ba @oH @rJ @jD @iS @dC
def xD:=A5 oN kL eO @aO aH
theorem OJ(f:Fun)(hf:fitFn f):PC Tryz.prog 20 [fnV f,fnV f] (.im (.bool (true))):=by
 have h1:=Pz f.vars hf.vn (Nat.le_trans hf.vl (by decide))
 have h2:=OI f.body hf.bd
 unfold SamL at h2
 rw[oO]
 refine PC.enter 24 Tryz.func20 rfl (by decide) rfl rfl (s:=[(0,.ag [.im (.string f.name),.sl (f.vars.map vaV) .ro,.sl (f.body.map ndV) .ro]),(1,.ag [.im (.string f.name),.sl (f.vars.map vaV) .ro,.sl (f.body.map ndV) .ro])]) (by rfl) ?_
 refine wdG Cr TI ?_
 refine AR.callP h1 TI xD ?_
 refine goG Cr TI ?_
 refine AR.callP h2 TI xD ?_
 refine goG Cr TI ?_
 refine wG Cr TI ?_
 exact aC
def pR:=A12 @kI @zE @wF @zD @wE @lN @oI @mM @jD @vW @sW @sU
theorem OH(u:Un)(hu:fitU u)(hd: ∀s∈u.data,s.data.length≤4194304):PC Tryz.prog 16 [unV u,unV u] (.im (.bool (true))):=by
 have h1:=Pz u.globals hu.gn (Nat.le_trans hu.gl (by decide))
 have h2:=IQ u.data hd hu.dl
 have hfl:=hu.fl
 refine PC.enter 48 Tryz.func16 rfl (by decide) rfl rfl (s:=[(0,unV u),(1,unV u)]) (by rfl) ?_
 simp only[kJ]
 refine wdG pR TI ?_
 refine AR.callP h1 TI xD ?_
 refine goG pR TI ?_
 refine AR.callP h2 TI xD ?_
 refine goG pR TI ?_
 refine wdG pR TI ?_
 refine aP ?_
 refine ALp.cutP 2 [(2,.pt 0 0),(3,.pt 1 0),(5,(.im (.int .i64 ((((0:Nat)):Int)))))] [.box [.sl (u.globals.map vaV) .ro,.sl (u.data.map scV) .ro,.sl (u.funcs.map fnV) .ro],.box [.sl (u.globals.map vaV) .ro,.sl (u.data.map scV) .ro,.sl (u.funcs.map fnV) .ro]] xD ?_
 refine ALp.upto u.funcs.length (fun _=>True) (fun m=>⟨dn 48 [(2,.pt 0 0),(3,.pt 1 0),(5,(.im (.int .i64 ((((m:Nat)):Int)))))],ofl [.box [.sl (u.globals.map vaV) .ro,.sl (u.data.map scV) .ro,.sl (u.funcs.map fnV) .ro],.box [.sl (u.globals.map vaV) .ro,.sl (u.data.map scV) .ro,.sl (u.funcs.map fnV) .ro]]⟩) ?_ 0 (Nat.zero_le _) trivial
 intro m hm hI hnext
 by_cases hlt:m<u.funcs.length
 ·have hlt':(m:Int)<(u.funcs.length:Int):=by omega
  have hg:=bB hlt;have hm1:=aL hlt (by omega)
  have hc:=OJ u.funcs[m] (hu.fn _ (List.getElem_mem hlt));refine wdG pR (A10 hlt' hg Fd Ae Fb Fa Fc Af @List.getElem?_map.{0,0} @Int.natCast_nonneg) ?_;refine AR.callP hc oO xD ?_;refine goG pR TI ?_;refine wdG pR hm1 ?_;refine ALp.cutP 2 [(2,.pt 0 0),(3,.pt 1 0),(5,(.im (.int .i64 ((((m+1:Nat)):Int)))))] [.box [.sl (u.globals.map vaV) .ro,.sl (u.data.map scV) .ro,.sl (u.funcs.map fnV) .ro],.box [.sl (u.globals.map vaV) .ro,.sl (u.data.map scV) .ro,.sl (u.funcs.map fnV) .ro]] xD ?_;exact hnext (m+1) (by omega) (by omega) trivial
 obtain rfl:m=u.funcs.length:=by omega
 clear hnext hI
 refine wG pR @Int.lt_irrefl ?_
 exact aC
end Go.Proofs.YtmbmmckagcdapaaGreatDoor
