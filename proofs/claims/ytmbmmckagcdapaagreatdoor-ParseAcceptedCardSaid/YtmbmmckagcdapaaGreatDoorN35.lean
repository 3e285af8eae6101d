import Derived.Test.YtmbmmckagcdapaaGreatDoorN11
import Derived.Test.YtmbmmckagcdapaaGreatDoorN31
import Derived.Test.YtmbmmckagcdapaaGreatDoorN22
import Derived.Test.YtmbmmckagcdapaaGreatDoorN34
import Derived.Test.YtmbmmckagcdapaaGreatDoorN29
import Derived.KernelRfl
import Derived.Test.YtmbmmckagcdapaaGreatDoorN13
import Derived.Test.YtmbmmckagcdapaaGreatDoorN16
import Derived.Test.YtmbmmckagcdapaaGreatDoorN04
set_option linter.all false
namespace Go.Proofs.YtmbmmckagcdapaaGreatDoor
open Go.RowKit
def toP{α:Type}(p:α→Bool)(l:List α)(m:Nat):Prop:= ∀j (h:j<l.length),j<m→p l[j]=true
theorem toP.all{α:Type}{p:α→Bool}{l:List α}(h:toP p l l.length):l.all p=true:=by
 rw[List.all_eq_true]
 intro x hx
 obtain⟨j,hj,rfl⟩:=List.getElem_of_mem hx
 exact h j hj hj
def QY(v:Va):Bool:=nameT v.name&&decide (chk v.ty=0)
def QZ(p:Nd×Bool):Bool:= !(p.1.e.any fun x=> !esh x 64)&&stT p.1
def prtB(f:Fun):Bool:=nameT f.name&&(decide (dep f.body≤64)&&(f.vars.all QY&&(allL f.body false).all QZ))
def bM:=A16 @oK @jB @cN @kL @iL @fM @lL @lK @pD @gT @iW @iE @iV @mC @mB (A9 @mA @qN @oI @iA @cM @jH @iJ @dP @cY)
set_option maxHeartbeats 4000000 in
theorem TF: ∀t:Nd,fitN t→okT t=true→ ∀(k:Nat) (b:Bs),(k:Int)+2*depT t≤4194304→(b++ndT t k).length≤140737488355328 →
  DC Tryz.prog 153 [.pt 0 0,ndV t] [.box [.nb 0 PQ,.sl ((b).map byB) (.mine 1),(.im (.int .i64 ((k:Int))))],.tip 5 1 (b).length] (.tu []) [.box [.nb 0 PQ,.sl (((b++ndT t k)).map byB) (.mine 1),(.im (.int .i64 ((k:Int))))],.tip 5 1 ((b++ndT t k)).length]:=by
 refine Nd.induct fun o w n e l el cs h1 h2 h3=> ?_
 intro hf hok k b hd hlen
 rw[zB]at hok
 simp only[Bool.and_eq_true,List.all_eq_true]at hok
 obtain⟨hs,o1,o2,o3⟩:=hok
 obtain⟨_,e2,e3,_⟩:=iF hs
 obtain⟨_,_,⟨_,he⟩,f1,f2,f3,f4⟩:=dR hf
 simp only[Nd.kind,Nd.e,Nd.l,Nd.el,Nd.cs]at e2 e3 he f1 f2 f3 f4
 have hp:=Ej (.mk o w n e l el cs)
 have d1:=qU (t:= .mk o w n e l el cs) (c:=l) (List.mem_cons_self)
 have d2:=qU (t:= .mk o w n e l el cs) (c:=el) (List.mem_cons_of_mem _ List.mem_cons_self)
 have d3:=fun c hc=>qU (t:= .mk o w n e l el cs) (c:=c) (List.mem_cons_of_mem _ (List.mem_cons_of_mem _ hc))
 generalize hD:depT (.mk o w n e l el cs)=D at hd hp d1 d2 d3
 have N1:=fun(B:Bs) (hB:(B++lsT l (k+1)).length≤140737488355328)=>xX l k B f1.1 (by omega) hB fun t ht c hc=>h1 t ht (f1.2 t ht) (o1 t ht) (k+1) c (by have:=mH ht;omega) hc
 have N2:=fun(B:Bs) (hB:(B++lsT el (k+1)).length≤140737488355328)=>xX el k B f2.1 (by omega) hB fun t ht c hc=>h2 t ht (f2.2 t ht) (o2 t ht) (k+1) c (by have:=mH ht;omega) hc
 have N3:=fun(c:List Nd) (hc:c∈cs) (B:Bs) (hB:(B++lsT c (k+1+1)).length≤140737488355328)=>xX c (k+1) B (f4 c hc).1 (by have:=d3 c hc;have:=rH c;omega) hB fun t ht q hq=>h3 c hc t ht ((f4 c hc).2 t ht) (o3 c hc t ht) (k+1+1) q (by have:=mH ht;have:=d3 c hc;omega) hq
 clear h1 h2 h3 hD
 by_cases k6:o=6
 ·subst k6
  obtain⟨a,rfl⟩:=xG e2;rw[nd6]at hlen ⊢;have qa:=fun h=>wD a (he a (by simp)) (e3 a (by simp)) h
  obtain⟨B1,hB1⟩: ∃B1,b++lnT k ([105,102,32]++(txE a++[32,123]))=B1:=⟨_,rfl⟩
  obtain⟨B2,hB2⟩: ∃B2,B1++lsT l (k+1)=B2:=⟨_,rfl⟩
  have hta:(txE a).length≤B1.length:=by rw[←hB1];unfold lnT;simp only[List.length_append];omega
  have l12:B1.length≤B2.length:=by rw[←hB2,List.length_append];omega
  by_cases hel:el.length=0
  ·obtain⟨B5,hB5⟩: ∃B5,B2++lnT k [125]=B5:=⟨_,rfl⟩
   have hR:b++(lnT k ([105,102,32]++(txE a++[32,123]))++(lsT l (k+1)++((if el.length=0 then []else lnT k [125,32,101,108,115,101,32,123]++lsT el (k+1))++lnT k [125])))=B5:=by
    rw[if_pos hel,←hB5,←hB2,←hB1];simp only[List.append_assoc,List.nil_append]
   rw[hR]at hlen ⊢;have l25:B2.length≤B5.length:=by rw[←hB5,List.length_append];omega
   have q1:=uV b [105,102,32] (txE a) [32,123] B1 k hB1 (by omega)
   have q2:=N1 B1 (by rw[hB2];omega)
   rw[hB2]at q2;have q5:=mK B2 [125] B5 k hB5 hlen;have qt:=qa (by omega)
   have hel': ¬(el.length:Int)>0:=by omega
   clear hR hB1 hB2 hB5 N1 N2 N3;refine DC.enter 112 Tryz.func153 rfl (by decide) rfl rfl (s:=[(0,.pt 0 0),(1,ndV (.mk 6 w n [a] l el cs))]) (by rfl) ?_
   simp only[eR];refine wG bM (AI ND EX) ?_;refine AR.callP qt @bK (A8 aV aJ aK aZ @aC @aE bB aB) ?_;refine goG bM TI ?_;refine aA [0,1] q1 TI (A8 aV aJ aK aZ @aC @aE bB aB) (A8 cG bL bQ @aQ @aR fB cK eT) ?_;refine goG bM TI ?_;refine wG bM (AI ND EX) ?_;refine aA [0,1] q2 TI (A8 aV aJ aK aZ @aC @aE bB aB) (A8 cG bL bQ @aQ @aR fB cK eT) ?_;refine goG bM TI ?_;refine wG bM (A4 ND EX @List.length_map.{0,0} hel') ?_;refine aA [0,1] q5 TI (A8 aV aJ aK aZ @aC @aE bB aB) (A8 cG bL bQ @aQ @aR fB cK eT) ?_;refine goG bM TI ?_;refine wG bM TI ?_;refine aP (rs:=[]) rfl (by first|exact .inl rfl|exact .inr rfl) (finG bM) ?_ rfl (idG (A8 aV aJ aK aZ @aC @aE bB aB))
   all_goals exact wkG (A8 aV aJ aK aZ @aC @aE bB aB)
  ·obtain⟨B3,hB3⟩: ∃B3,B2++lnT k [125,32,101,108,115,101,32,123]=B3:=⟨_,rfl⟩
   obtain⟨B4,hB4⟩: ∃B4,B3++lsT el (k+1)=B4:=⟨_,rfl⟩
   obtain⟨B5,hB5⟩: ∃B5,B4++lnT k [125]=B5:=⟨_,rfl⟩
   have hR:b++(lnT k ([105,102,32]++(txE a++[32,123]))++(lsT l (k+1)++((if el.length=0 then []else lnT k [125,32,101,108,115,101,32,123]++lsT el (k+1))++lnT k [125])))=B5:=by
    rw[if_neg hel,←hB5,←hB4,←hB3,←hB2,←hB1];simp only[List.append_assoc]
   rw[hR]at hlen ⊢;have l23:B2.length≤B3.length:=by rw[←hB3,List.length_append];omega
   have l34:B3.length≤B4.length:=by rw[←hB4,List.length_append];omega
   have l45:B4.length≤B5.length:=by rw[←hB5,List.length_append];omega
   have q1:=uV b [105,102,32] (txE a) [32,123] B1 k hB1 (by omega)
   have q2:=N1 B1 (by rw[hB2];omega)
   rw[hB2]at q2;have q3:=mK B2 [125,32,101,108,115,101,32,123] B3 k hB3 (by omega)
   have q4:=N2 B3 (by rw[hB4];omega)
   rw[hB4]at q4;have q5:=mK B4 [125] B5 k hB5 hlen;have qt:=qa (by omega)
   have hel':(el.length:Int)>0:=by omega
   clear hR hB1 hB2 hB3 hB4 hB5 N1 N2 N3;refine DC.enter 112 Tryz.func153 rfl (by decide) rfl rfl (s:=[(0,.pt 0 0),(1,ndV (.mk 6 w n [a] l el cs))]) (by rfl) ?_
   simp only[eR];refine wG bM (AI ND EX) ?_;refine AR.callP qt @bK (A8 aV aJ aK aZ @aC @aE bB aB) ?_;refine goG bM TI ?_;refine aA [0,1] q1 TI (A8 aV aJ aK aZ @aC @aE bB aB) (A8 cG bL bQ @aQ @aR fB cK eT) ?_;refine goG bM TI ?_;refine wG bM (AI ND EX) ?_;refine aA [0,1] q2 TI (A8 aV aJ aK aZ @aC @aE bB aB) (A8 cG bL bQ @aQ @aR fB cK eT) ?_;refine goG bM TI ?_;refine wG bM (A4 ND EX @List.length_map.{0,0} hel') ?_;refine aA [0,1] q3 TI (A8 aV aJ aK aZ @aC @aE bB aB) (A8 cG bL bQ @aQ @aR fB cK eT) ?_;refine goG bM TI ?_;refine wG bM (AI ND EX) ?_;refine aA [0,1] q4 TI (A8 aV aJ aK aZ @aC @aE bB aB) (A8 cG bL bQ @aQ @aR fB cK eT) ?_;refine goG bM TI ?_;refine wG bM TI ?_;refine aA [0,1] q5 TI (A8 aV aJ aK aZ @aC @aE bB aB) (A8 cG bL bQ @aQ @aR fB cK eT) ?_;refine goG bM TI ?_;refine wG bM TI ?_;refine aP (rs:=[]) rfl (by first|exact .inl rfl|exact .inr rfl) (finG bM) ?_ rfl (idG (A8 aV aJ aK aZ @aC @aE bB aB))
   all_goals exact wkG (A8 aV aJ aK aZ @aC @aE bB aB)
 by_cases k7:o=7
 ·subst k7
  obtain⟨a,rfl⟩:=xG e2;rw[nd7]at hlen ⊢;obtain⟨B1,hB1⟩: ∃B1,b++lnT k ([119,104,105,108,101,32]++(txE a++[32,123]))=B1:=⟨_,rfl⟩
  obtain⟨B2,hB2⟩: ∃B2,B1++lsT l (k+1)=B2:=⟨_,rfl⟩
  have hta:(txE a).length≤B1.length:=by rw[←hB1];unfold lnT;simp only[List.length_append];omega
  have l12:B1.length≤B2.length:=by rw[←hB2,List.length_append];omega
  obtain⟨B5,hB5⟩: ∃B5,B2++lnT k [125]=B5:=⟨_,rfl⟩
  have hR:b++(lnT k ([119,104,105,108,101,32]++(txE a++[32,123]))++(lsT l (k+1)++lnT k [125]))=B5:=by
   rw[←hB5,←hB2,←hB1];simp only[List.append_assoc]
  rw[hR]at hlen ⊢;have l25:B2.length≤B5.length:=by rw[←hB5,List.length_append];omega
  have q1:=uV b [119,104,105,108,101,32] (txE a) [32,123] B1 k hB1 (by omega)
  have q2:=N1 B1 (by rw[hB2];omega)
  rw[hB2]at q2;have q5:=mK B2 [125] B5 k hB5 hlen;have qt:=wD a (he a (by simp)) (e3 a (by simp)) (by omega)
  clear hR hB1 hB2 hB5 N1 N2 N3;refine DC.enter 112 Tryz.func153 rfl (by decide) rfl rfl (s:=[(0,.pt 0 0),(1,ndV (.mk 7 w n [a] l el cs))]) (by rfl) ?_
  simp only[eR];refine wG bM (AI ND EX) ?_;refine AR.callP qt @bK (A8 aV aJ aK aZ @aC @aE bB aB) ?_;refine goG bM TI ?_;refine aA [0,1] q1 TI (A8 aV aJ aK aZ @aC @aE bB aB) (A8 cG bL bQ @aQ @aR fB cK eT) ?_;refine goG bM TI ?_;refine wG bM (AI ND EX) ?_;refine aA [0,1] q2 TI (A8 aV aJ aK aZ @aC @aE bB aB) (A8 cG bL bQ @aQ @aR fB cK eT) ?_;refine goG bM TI ?_;refine wG bM TI ?_;refine aA [0,1] q5 TI (A8 aV aJ aK aZ @aC @aE bB aB) (A8 cG bL bQ @aQ @aR fB cK eT) ?_;refine goG bM TI ?_;refine wG bM TI ?_;refine aP (rs:=[]) rfl (by first|exact .inl rfl|exact .inr rfl) (finG bM) ?_ rfl (idG (A8 aV aJ aK aZ @aC @aE bB aB))
  all_goals exact wkG (A8 aV aJ aK aZ @aC @aE bB aB)
 by_cases k8:o=8
 ·subst k8
  rw[nd8]at hlen ⊢;obtain⟨B1,hB1⟩: ∃B1,b++lnT k [108,111,111,112,32,123]=B1:=⟨_,rfl⟩
  obtain⟨B2,hB2⟩: ∃B2,B1++lsT l (k+1)=B2:=⟨_,rfl⟩
  have l12:B1.length≤B2.length:=by rw[←hB2,List.length_append];omega
  obtain⟨B5,hB5⟩: ∃B5,B2++lnT k [125]=B5:=⟨_,rfl⟩
  have hR:b++(lnT k [108,111,111,112,32,123]++(lsT l (k+1)++lnT k [125]))=B5:=by
   rw[←hB5,←hB2,←hB1];simp only[List.append_assoc]
  rw[hR]at hlen ⊢;have l25:B2.length≤B5.length:=by rw[←hB5,List.length_append];omega
  have q1:=mK b [108,111,111,112,32,123] B1 k hB1 (by omega)
  have q2:=N1 B1 (by rw[hB2];omega)
  rw[hB2]at q2;have q5:=mK B2 [125] B5 k hB5 hlen;clear hR hB1 hB2 hB5 N1 N2 N3;refine DC.enter 112 Tryz.func153 rfl (by decide) rfl rfl (s:=[(0,.pt 0 0),(1,ndV (.mk 8 w n e l el cs))]) (by rfl) ?_
  simp only[eR];refine wG bM (AI ND EX) ?_;refine aA [0,1] q1 TI (A8 aV aJ aK aZ @aC @aE bB aB) (A8 cG bL bQ @aQ @aR fB cK eT) ?_;refine goG bM TI ?_;refine wG bM (AI ND EX) ?_;refine aA [0,1] q2 TI (A8 aV aJ aK aZ @aC @aE bB aB) (A8 cG bL bQ @aQ @aR fB cK eT) ?_;refine goG bM TI ?_;refine wG bM TI ?_;refine aA [0,1] q5 TI (A8 aV aJ aK aZ @aC @aE bB aB) (A8 cG bL bQ @aQ @aR fB cK eT) ?_;refine goG bM TI ?_;refine wG bM TI ?_;refine aP (rs:=[]) rfl (by first|exact .inl rfl|exact .inr rfl) (finG bM) ?_ rfl (idG (A8 aV aJ aK aZ @aC @aE bB aB))
  all_goals exact wkG (A8 aV aJ aK aZ @aC @aE bB aB)
 by_cases k9:o=9
 ·subst k9
  obtain⟨a,rfl⟩:=xG e2;rw[nd9]at hlen ⊢;have hw1:IntKind.i64.wrap ((k:Int)+1)=((k+1:Nat):Int):=by rw[dL (by omega)];omega
  have hw2:IntKind.i64.wrap (((k+1:Nat):Int)-1)=(k:Int):=by rw[dL (by omega)];omega
  obtain⟨B1,hB1⟩: ∃B1,b++lnT k ([115,119,105,116,99,104,32]++(txE a++[32,123]))=B1:=⟨_,rfl⟩
  obtain⟨Cf,hCf⟩: ∃Cf:Nat→Bs,∀m,Cf m=B1++((cs.zipIdx.take m).map (caS k)).flatten:=⟨_,fun _=>rfl⟩
  have hC0:Cf 0=B1:=by rw[hCf];simp
  have hCE:Cf cs.length=B1++(cs.zipIdx.map (caS k)).flatten:=by rw[hCf,List.take_of_length_le (by simp)]
  obtain⟨B5,hB5⟩: ∃B5,Cf cs.length++lnT k [125]=B5:=⟨_,rfl⟩
  have hR:b++(lnT k ([115,119,105,116,99,104,32]++(txE a++[32,123]))++((cs.zipIdx.map (caS k)).flatten++lnT k [125]))=B5:=by
   rw[←hB5,hCE,←hB1];simp only[List.append_assoc]
  rw[hR]at hlen ⊢
  have hCs: ∀m (h:m<cs.length),Cf (m+1)=Cf m++caS k (cs[m],m):=fun m h=>by
   have hz:m<cs.zipIdx.length:=by simpa using h
   rw[hCf,hCf,List.take_succ_eq_append_getElem hz,List.map_append,List.flatten_append,List.append_assoc];simp
  have hCl: ∀m,(Cf m).length≤(Cf cs.length).length:=fun m=>by
   rw[hCE,hCf,List.length_append,List.length_append]
   have:(cs.zipIdx.map (caS k)).flatten=((cs.zipIdx.take m).map (caS k)).flatten++((cs.zipIdx.drop m).map (caS k)).flatten:=by
    rw[←List.flatten_append,←List.map_append,List.take_append_drop]
   rw[this,List.length_append];omega
  have lCE:(Cf cs.length).length≤B5.length:=by rw[←hB5,List.length_append];omega
  have l1C:B1.length≤(Cf cs.length).length:=by rw[←hC0];exact hCl 0
  have hta:(txE a).length≤B1.length:=by rw[←hB1];unfold lnT;simp only[List.length_append];omega
  have q1:=uV b [115,119,105,116,99,104,32] (txE a) [32,123] B1 k hB1 (by omega)
  have q5:=mK (Cf cs.length) [125] B5 k hB5 hlen;have qt:=wD a (he a (by simp)) (e3 a (by simp)) (by omega)
  have hcl:cs.length≤4194304:=(dR hf).2.2.2.2.2.1;clear hR hB1 hB5 N1 N2 hCE hCf;rw[←hC0]at q1;clear hC0;refine DC.enter 112 Tryz.func153 rfl (by decide) rfl rfl (s:=[(0,.pt 0 0),(1,ndV (.mk 9 w n [a] l el cs))]) (by rfl) ?_
  simp only[eR];refine wG bM (AI ND EX) ?_;refine AR.callP qt @bK (A8 aV aJ aK aZ @aC @aE bB aB) ?_;refine goG bM TI ?_;refine aA [0,1] q1 TI (A8 aV aJ aK aZ @aC @aE bB aB) (A8 cG bL bQ @aQ @aR fB cK eT) ?_;refine goG bM TI ?_;refine wG bM (A4 hw1 ND EX @List.length_map.{0,0}) ?_;refine aW ?_;refine ALp.cutP 3 [(0,.pt 0 0),(3,.pt 2 0),(83,.sl (cs.map nlV) .ro),(84,(.im (.int .i64 (cs.length)))),(85,(.im (.int .i64 ((((0:Nat)):Int)))))] [.box [.nb 0 PQ,.sl (((Cf 0)).map byB) (.mine 1),(.im (.int .i64 (((k+1:Nat):Int))))],.tip 5 1 ((Cf 0)).length,.box [(.im (.int .i64 (9))),.im (.int .i64 w),.im (.string n),.sl [exV a] .ro,.sl (l.map ndV) .ro,.sl (el.map ndV) .ro,.sl (cs.map nlV) .ro]] (A8 aV aJ aK aZ @aC @aE bB aB) ?_;refine ALp.upto cs.length (fun _=>True) (fun m=>⟨dn 112 [(0,.pt 0 0),(3,.pt 2 0),(83,.sl (cs.map nlV) .ro),(84,(.im (.int .i64 (cs.length)))),(85,(.im (.int .i64 ((((m:Nat)):Int)))))],ofl [.box [.nb 0 PQ,.sl (((Cf m)).map byB) (.mine 1),(.im (.int .i64 (((k+1:Nat):Int))))],.tip 5 1 ((Cf m)).length,.box [(.im (.int .i64 (9))),.im (.int .i64 w),.im (.string n),.sl [exV a] .ro,.sl (l.map ndV) .ro,.sl (el.map ndV) .ro,.sl (cs.map nlV) .ro]]⟩) ?_ 0 (Nat.zero_le _) trivial
  intro m hm _ hnext
  by_cases hlt:m<cs.length
  ·have hlt':(m:Int)<(cs.length:Int):=by omega
   have hm1:=aT hlt (by omega)
   have hg:=bJ hlt;have hst:=hCs m hlt;have hle:=hCl (m+1);have hmem:=List.getElem_mem hlt;have qi:=tN (m:Int) (by omega) (by omega)
   generalize cs[m]=c at hg hst hmem;obtain⟨D1,hD1⟩: ∃D1,Cf m++lnT (k+1) ([99,97,115,101,32]++(Lib.itoa (m:Int)++[32,123]))=D1:=⟨_,rfl⟩
   obtain⟨D2,hD2⟩: ∃D2,D1++lsT c (k+1+1)=D2:=⟨_,rfl⟩
   have hD3:D2++lnT (k+1) [125]=Cf (m+1):=by rw[hst,←hD2,←hD1];unfold caS;simp only[List.append_assoc]
   have m1:D2.length≤(Cf (m+1)).length:=by rw[←hD3,List.length_append];omega
   have m2:D1.length≤D2.length:=by rw[←hD2,List.length_append];omega
   have r1:=uV (Cf m) [99,97,115,101,32] (Lib.itoa (m:Int)) [32,123] D1 (k+1) hD1 (by omega)
   have r2:=N3 c hmem D1 (by rw[hD2];omega)
   rw[hD2]at r2;have r3:=mK D2 [125] (Cf (m+1)) (k+1) hD3 (by omega)
   clear hD1 hD2 hD3 hst hCs hCl N3;refine wG bM (A3 hlt' hg ND) ?_;refine AR.callP qi TI (A8 aV aJ aK aZ @aC @aE bB aB) ?_;refine goG bM TI ?_;refine aA [0,1] r1 TI (A8 aV aJ aK aZ @aC @aE bB aB) (A8 cG bL bQ @aQ @aR fB cK eT) ?_;refine goG bM TI ?_;refine wG bM ND ?_;refine aA [0,1] r2 Jo (A8 aV aJ aK aZ @aC @aE bB aB) (A8 cG bL bQ @aQ @aR fB cK eT) ?_;refine goG bM TI ?_;refine wG bM TI ?_;refine aA [0,1] r3 TI (A8 aV aJ aK aZ @aC @aE bB aB) (A8 cG bL bQ @aQ @aR fB cK eT) ?_;refine goG bM TI ?_;refine wG bM hm1 ?_;refine ALp.cutP 3 [(0,.pt 0 0),(3,.pt 2 0),(83,.sl (cs.map nlV) .ro),(84,(.im (.int .i64 (cs.length)))),(85,(.im (.int .i64 ((((m+1:Nat)):Int)))))] [.box [.nb 0 PQ,.sl (((Cf (m+1))).map byB) (.mine 1),(.im (.int .i64 (((k+1:Nat):Int))))],.tip 5 1 ((Cf (m+1))).length,.box [(.im (.int .i64 (9))),.im (.int .i64 w),.im (.string n),.sl [exV a] .ro,.sl (l.map ndV) .ro,.sl (el.map ndV) .ro,.sl (cs.map nlV) .ro]] (A8 aV aJ aK aZ @aC @aE bB aB) ?_;exact hnext (m+1) (by omega) (by omega) trivial
  obtain rfl:m=cs.length:=by omega
  clear hnext hCs hCl N3;refine wG bM (AI @Int.lt_irrefl hw2) ?_;refine aA [0,1] q5 TI (A8 aV aJ aK aZ @aC @aE bB aB) (A8 cG bL bQ @aQ @aR fB cK eT) ?_;refine goG bM TI ?_;refine wG bM TI ?_;refine aP (rs:=[]) rfl (by first|exact .inl rfl|exact .inr rfl) (finG bM) ?_ rfl (idG (A8 aV aJ aK aZ @aC @aE bB aB))
  all_goals exact wkG (A8 aV aJ aK aZ @aC @aE bB aB)
 exact MR (.mk o w n e l el cs) k b hf hs k6 k7 k8 k9 hlen
theorem Dl{f:Fun}(h:prtB f=true):nameT f.name=true∧dep f.body≤64∧(∀v∈f.vars,nameT v.name=true∧chk v.ty=0)∧ ∀q∈allL f.body false,(∀x∈q.1.e,esh x 64=true)∧stT q.1=true:=by
 unfold prtB at h
 simp only[Bool.and_eq_true,decide_eq_true_eq,List.all_eq_true]at h
 obtain⟨h1,h2,h3,h4⟩:=h
 refine⟨h1,h2,fun v hv=> ?_,fun q hq=> ?_⟩
 ·have:=h3 v hv
  unfold QY at this;simpa using this
 ·have:=h4 q hq
  unfold QZ at this;simp only[Bool.and_eq_true,Bool.not_eq_true',List.any_eq_false]at this;refine⟨fun x hx=> ?_,this.2⟩
  have:=this.1 x hx;simpa using this
theorem xP{t:Ty}(h:chk t=0):good t=true:=by unfold good;rw[h];rfl
theorem Vw{f:Fun}(h:prtB f=true): ∀t∈f.body,okT t=true:=fun t ht =>
 RD (lp:=false) fun q hq=>((Dl h).2.2.2 q (List.mem_flatMap.2 ⟨t,ht,hq⟩)).2
theorem WG(f:Fun)(hF:fitFn f)(hp:prtB f=true)(b:Bs)(hl:(b++funT f).length≤140737488355328):DC Tryz.prog 39 [.pt 0 0,fnV f] [.box [.nb 0 PQ,.sl (b.map byB) (.mine 1),(.im (.int .i64 (((0:Nat):Int))))],.tip 5 1 b.length] (.tu []) [.box [.nb 0 PQ,.sl ((b++funT f).map byB) (.mine 1),(.im (.int .i64 (((0:Nat):Int))))],.tip 5 1 (b++funT f).length]:=by
 obtain⟨h1,h2,h3,h4⟩:=Dl hp
 have hbo:=Vw hp
 have hlen:=hl
 unfold funT at hlen ⊢
 simp only[List.length_append]at hlen
 have hv:=Vk f.vars 1 (b++lnT 0 ([102,117,110,99,32]++(f.name.data.toList++[32,123]))) (Nat.le_trans hF.vl (by decide)) hF.vn (fun v hv=>xP (h3 v hv).2) (by simp only[List.length_append];omega)
 have hn:=xX f.body 0 (b++lnT 0 ([102,117,110,99,32]++(f.name.data.toList++[32,123]))++vasT 1 f.vars) hF.bd.1 (by decide) (by simp only[List.length_append,Nat.zero_add];omega) (fun t ht c hc=>TF t (hF.bd.2 t ht) (hbo t ht) 1 c (by have:=mH ht;omega) hc)
 have:=Sh f 0 (by decide) b _ _ _ (b++(lnT 0 ([102,117,110,99,32]++(f.name.data.toList++[32,123]))++(vasT 1 f.vars++(lsT f.body 1++lnT 0 [125])))) rfl (by simp only[List.length_append];omega) hv hn (by simp only[List.append_assoc]) (by simp only[List.length_append];omega)
 exact this
theorem MY(b x y z u v w q s r:Bs)(hr:b++lnT 0 (x++(y++(z++(u++(v++(w++(q++s)))))))=r)(hlen:r.length≤140737488355328):DC Tryz.prog 36 [.pt 0 0,.sl [.im (.string ⟨(x).toArray⟩),.im (.string ⟨(y).toArray⟩),.im (.string ⟨(z).toArray⟩),.im (.string ⟨(u).toArray⟩),.im (.string ⟨(v).toArray⟩),.im (.string ⟨(w).toArray⟩),.im (.string ⟨(q).toArray⟩),.im (.string ⟨(s).toArray⟩)] .full] [.box [.nb 0 PQ,.sl ((b).map byB) (.mine 1),(.im (.int .i64 (0)))],.tip 5 1 (b).length] (.tu []) [.box [.nb 0 PQ,.sl ((r).map byB) (.mine 1),(.im (.int .i64 (0)))],.tip 5 1 (r).length]:=by
 subst hr
 exact yN<|Kh b [x,y,z,u,v,w,q,s] (x++(y++(z++(u++(v++(w++(q++s))))))) (by simp) 0 (by simp) hlen
theorem Ec{α:Type}(g:α→Bs){l:List α}{m:Nat}(h:m<l.length):((l.take (m+1)).map g).flatten=((l.take m).map g).flatten++g l[m]:=by
 rw[List.take_succ_eq_append_getElem h,List.map_append,List.flatten_append]
 simp
theorem Nz{α:Type}(g:α→Bs)(l:List α)(m:Nat):(((l.take m).map g).flatten).length≤((l.map g).flatten).length:=by
 conv=>rhs;rw[←List.take_append_drop m l]
 rw[List.map_append,List.flatten_append,List.length_append]
 exact Nat.le_add_right _ _
theorem PH(p:Nat→Bool)(l:Bs):V.idsL p (l.map fun b=>V.im (.int .u8 b.toNat))=true:=aB p l
theorem WT:(ByteArray.mk #[32,119,114,105,116,101]).size+(ByteArray.mk #[32,101,120,101,99]).size≤9223372036854775807∧(ByteArray.mk #[]).size+(ByteArray.mk #[32,101,120,101,99]).size≤9223372036854775807:=by decide
theorem WU:ByteArray.mk #[32,119,114,105,116,101]++ByteArray.mk #[32,101,120,101,99]=ByteArray.mk (Mw true true).toArray∧ByteArray.mk #[]++ByteArray.mk #[32,101,120,101,99]=ByteArray.mk (Mw false true).toArray :=
 ⟨zU [32,119,114,105,116,101] [32,101,120,101,99],zU [] [32,101,120,101,99]⟩
def cP:=A16 @lM @Ci @vL @pF @Cg @Lp @mQ @vK @yM @Cd @dN @Cb @OF @Ca @lL (A16 @vI @vH @iW @lY @qP @lX @In @vD @Im @vC @Ad @Ac @OB @jT @yH (A9 @sB @nH @sA @Lh @mP @uX @yG @rX @cY))
def gM:=A16 PH aV aJ aK aZ @aC @aE bB aB gQ fU @aN @aO eJ fX (A3 jX nT sX)
def wI:=A14 cG bL bQ @aQ @aR fB cK eT @bE @bD nA oQ Kb Kc
theorem AQ(u:Un)(hu:fitU u)(hA:UnOk u)(hd: ∀d∈u.data,d.data.length≤4194304)(hp: ∀f∈u.funcs,prtB f=true)(hgd: ∀v∈u.globals,good v.ty=true)(h0:unE u=0)(hne:uniT u≠[])(hl:(uniT u).length≤140737488355328):PC Tryz.prog 14 [unV u] (.im (.string ⟨(uniT u).toArray⟩)):=by
 have hc:=tO u hu
 rw[h0]at hc
 obtain⟨Bf,hBf⟩: ∃Bf:Nat→Bs,∀m,Bf m=vasT 0 u.globals++((u.data.take m).map datT).flatten:=⟨_,fun _=>rfl⟩
 obtain⟨Bg,hBg⟩: ∃Bg:Nat→Bs,∀m,Bg m=Bf u.data.length++((u.funcs.take m).map funT).flatten:=⟨_,fun _=>rfl⟩
 have hend:Bg u.funcs.length=uniT u:=by rw[hBg,hBf,List.take_length,List.take_length,List.append_assoc];rfl
 have hbf0:Bf 0=[]++vasT 0 u.globals:=by rw[hBf];simp
 have hbg0:Bg 0=Bf u.data.length:=by rw[hBg];simp
 have hul:=hl
 unfold uniT at hul
 rw[List.length_append,List.length_append]at hul
 have hfl: ∀m,(Bf m).length≤140737488355328:=fun m=>by
  rw[hBf,List.length_append];have:=Nz datT u.data m;omega
 have hgl: ∀m,(Bg m).length≤140737488355328:=fun m=>by
  rw[hBg,hBf,List.length_append,List.length_append,List.take_length];have:=Nz funT u.funcs m;omega
 have hv:=Vk u.globals 0 [] (Nat.le_trans hu.gl (by decide)) hu.gn hgd (by rw[←hbf0];exact hfl 0)
 rw[←hbf0]at hv
 have hs:=AP ⟨(uniT u).toArray⟩ (.im (.int .i64 (0))) (by rw[dE];intro e;exact hne (List.length_eq_zero_iff.1 e))
 rw[Sx,dE]at hs
 have hdl:=hu.dl
 have hfnl:=hu.fl
 rw[kY]at hc ⊢
 refine PC.enter 59 Tryz.func14 rfl (by decide) rfl rfl (s:=[(0,.ag [.sl (u.globals.map vaV) .ro,.sl (u.data.map scV) .ro,.sl (u.funcs.map fnV) .ro])]) (by rfl) ?_
 refine wG cP TI ?_
 refine AR.callP hc TI gM ?_
 refine goG cP TI ?_
 repeat (with_reducible first|refine AWp.seq ?_|refine pV ?_|refine Thn.n ?_|refine kE ?_)
 with_reducible apply jP
 case ht=>rfl
 case hc=>rfl
 repeat (with_reducible first|refine AWp.seq ?_|refine pV ?_|refine Thn.n ?_|refine kE ?_)
 refine AWp.region ?_
 refine AR.one rfl (by simp only[↓iS,↓reduceIte,SA,SB,SC,SD,cP,oN,fpsG,evO,evB,evA,nV,oO,eqF,eqC,jY,gY,slB,slK,gd,St.ev,eV,ofl,wrl,putE,V.ofVal,V.ofCell,bin2,un1,seg,iO,eO,Value.oneCell',Nat.reduceBEq,Nat.reduceLT,Nat.reduceSub,Nat.reduceAdd,Nat.reduceMul,Nat.reduceLeDiff,Nat.reduceEqDiff,reduceCtorEq,Int.reduceLT,Int.reduceLE,Int.reduceEq,Int.reduceNe,Int.reduceBEq,Int.reduceBNe,Int.reduceAdd,Int.reduceSub,Int.reduceMul,Int.reduceToNat];with_reducible exact rfl) (by simp only[↓iS,↓reduceIte,SA,SB,SC,SD,cP,oN,fpsG,evO,evB,evA,nV,oO,eqF,eqC,jY,gY,slB,slK,gd,St.ev,eV,ofl,wrl,putE,V.ofVal,V.ofCell,bin2,un1,seg,iO,eO,Value.oneCell',Nat.reduceBEq,Nat.reduceLT,Nat.reduceSub,Nat.reduceAdd,Nat.reduceMul,Nat.reduceLeDiff,Nat.reduceEqDiff,reduceCtorEq,Int.reduceLT,Int.reduceLE,Int.reduceEq,Int.reduceNe,Int.reduceBEq,Int.reduceBNe,Int.reduceAdd,Int.reduceSub,Int.reduceMul,Int.reduceToNat];with_reducible exact rfl) (by simp only[↓iS,↓reduceIte,SA,SB,SC,SD,cP,oN,fpsG,evO,evB,evA,nV,oO,eqF,eqC,jY,gY,slB,slK,gd,St.ev,eV,ofl,wrl,putE,V.ofVal,V.ofCell,bin2,un1,seg,iO,eO,Value.oneCell',Nat.reduceBEq,Nat.reduceLT,Nat.reduceSub,Nat.reduceAdd,Nat.reduceMul,Nat.reduceLeDiff,Nat.reduceEqDiff,reduceCtorEq,Int.reduceLT,Int.reduceLE,Int.reduceEq,Int.reduceNe,Int.reduceBEq,Int.reduceBNe,Int.reduceAdd,Int.reduceSub,Int.reduceMul,Int.reduceToNat];with_reducible exact rfl) ?_
 refine OK (q:=PQ) WP rfl ?_
 refine goG cP TI ?_
 repeat (with_reducible first|refine AWp.seq ?_|refine pV ?_|refine Thn.n ?_|refine kE ?_)
 refine AWp.ghostB 1 1 [.nb 1 PQ,.sl [] .nl,(.im (.int .i64 (0)))] 5 1 ?_
 simp only[List.set_cons_succ,List.set_cons_zero,List.cons_append,List.nil_append,List.length_cons,List.length_nil,Nat.reduceAdd]
 rw[show(([]:Bs).map byB)=[]from rfl,show([]:Bs).length=0 from rfl,show((0:Nat):Int)=0 from rfl]at hv
 refine wG cP TI ?_
 refine aA [1,2] hv TI gM wI ?_
 refine goG cP TI ?_
 refine wG cP @List.length_map.{0,0} ?_
 refine aW ?_
 refine ALp.cutP 3 [(1,.pt 0 0),(3,.pt 1 0),(19,.sl (u.data.map scV) .ro),(20,(.im (.int .i64 (u.data.length)))),(21,(.im (.int .i64 ((((0:Nat)):Int)))))] [.box [.sl (u.globals.map vaV) .ro,.sl (u.data.map scV) .ro,.sl (u.funcs.map fnV) .ro],.box [.nb 1 PQ,.sl (((Bf 0)).map byB) (.mine 2),(.im (.int .i64 (0)))],.tip 5 1 ((Bf 0)).length] gM ?_
 refine ALp.upto u.data.length (fun _=>True) (fun m=>⟨dn 59 [(1,.pt 0 0),(3,.pt 1 0),(19,.sl (u.data.map scV) .ro),(20,(.im (.int .i64 (u.data.length)))),(21,(.im (.int .i64 ((((m:Nat)):Int)))))],ofl [.box [.sl (u.globals.map vaV) .ro,.sl (u.data.map scV) .ro,.sl (u.funcs.map fnV) .ro],.box [.nb 1 PQ,.sl (((Bf m)).map byB) (.mine 2),(.im (.int .i64 (0)))],.tip 5 1 ((Bf m)).length]⟩) ?_ 0 (Nat.zero_le _) trivial
 intro m hm _ hnext
 by_cases hlt:m<u.data.length
 ·have hlt':(m:Int)<(u.data.length:Int):=by omega
  have hm1:=aT hlt (by omega)
  have hg:=bJ hlt;have hB:Bf m++datT u.data[m]=Bf (m+1):=by rw[hBf,hBf,Ec datT hlt,List.append_assoc]
  have hBl:=hfl (m+1);have hok:=hA.data _ (List.getElem_mem hlt);have hdd:=hd _ (List.getElem_mem hlt);have hnx:=hnext (m+1) (by omega) (by omega) trivial
  clear hnext;generalize u.data[m]=d at hg hB hok hdd;generalize Bf m=b0 at hB;generalize Bf (m+1)=b1 at hB hBl hnx;have hq:PC Tryz.prog 38 [.sl (d.data.map fun b=>V.im (.int .u8 b.toNat)) .ro] (.im (.string ⟨(quoS d.data).toArray⟩)):=MW d.data hdd
  have hn:((d.addr.toNat:Nat):Int)=d.addr:=by have:=hok.addr;omega
  have ha:=Ie d.addr.toNat (by have:=hok.addr;omega)
  rw[hn]at ha;have hline:=MY b0 [100,97,116,97,32] d.name.data.toList [32] (Bc d.addr.toNat) (Mw d.wr d.exe) [32,61,32] (quoS d.data) [59] b1 hB hBl;rw[Pk]at hline;unfold Bc at hline;obtain⟨hr1,hr2⟩:=WU;obtain⟨hz1,hz2⟩:=WT;cases hw:d.wr<;>cases hx:d.exe<;>rw[hw,hx]at hline
  ·rw[show Mw false false=[]from rfl]at hline
   refine wdG cP (A5 hlt' hg SCT hw hx) ?_;refine AR.callP ha TI gM ?_;refine goG cP TI ?_;refine AR.callP hq TI gM ?_;refine goG cP TI ?_;refine aA [1,2] hline TI gM wI ?_;refine goG cP TI ?_;refine wdG cP hm1 ?_;refine ALp.cutP 3 [(1,.pt 0 0),(3,.pt 1 0),(19,.sl (u.data.map scV) .ro),(20,(.im (.int .i64 (u.data.length)))),(21,(.im (.int .i64 ((((m+1:Nat)):Int)))))] [.box [.sl (u.globals.map vaV) .ro,.sl (u.data.map scV) .ro,.sl (u.funcs.map fnV) .ro],.box [.nb 1 PQ,.sl ((b1).map byB) (.mine 2),(.im (.int .i64 (0)))],.tip 5 1 (b1).length] gM ?_;exact hnx
  ·refine wdG cP (A7 hlt' hg SCT hw hx hr2 hz2) ?_
   refine AR.callP ha TI gM ?_;refine goG cP TI ?_;refine AR.callP hq TI gM ?_;refine goG cP TI ?_;refine aA [1,2] hline TI gM wI ?_;refine goG cP TI ?_;refine wdG cP hm1 ?_;refine ALp.cutP 3 [(1,.pt 0 0),(3,.pt 1 0),(19,.sl (u.data.map scV) .ro),(20,(.im (.int .i64 (u.data.length)))),(21,(.im (.int .i64 ((((m+1:Nat)):Int)))))] [.box [.sl (u.globals.map vaV) .ro,.sl (u.data.map scV) .ro,.sl (u.funcs.map fnV) .ro],.box [.nb 1 PQ,.sl ((b1).map byB) (.mine 2),(.im (.int .i64 (0)))],.tip 5 1 (b1).length] gM ?_;exact hnx
  ·rw[show Mw true false=[32,119,114,105,116,101]from rfl]at hline
   refine wdG cP (A5 hlt' hg SCT hw hx) ?_;refine AR.callP ha TI gM ?_;refine goG cP TI ?_;refine AR.callP hq TI gM ?_;refine goG cP TI ?_;refine aA [1,2] hline TI gM wI ?_;refine goG cP TI ?_;refine wdG cP hm1 ?_;refine ALp.cutP 3 [(1,.pt 0 0),(3,.pt 1 0),(19,.sl (u.data.map scV) .ro),(20,(.im (.int .i64 (u.data.length)))),(21,(.im (.int .i64 ((((m+1:Nat)):Int)))))] [.box [.sl (u.globals.map vaV) .ro,.sl (u.data.map scV) .ro,.sl (u.funcs.map fnV) .ro],.box [.nb 1 PQ,.sl ((b1).map byB) (.mine 2),(.im (.int .i64 (0)))],.tip 5 1 (b1).length] gM ?_;exact hnx
  ·refine wdG cP (A7 hlt' hg SCT hw hx hr1 hz1) ?_
   refine AR.callP ha TI gM ?_;refine goG cP TI ?_;refine AR.callP hq TI gM ?_;refine goG cP TI ?_;refine aA [1,2] hline TI gM wI ?_;refine goG cP TI ?_;refine wdG cP hm1 ?_;refine ALp.cutP 3 [(1,.pt 0 0),(3,.pt 1 0),(19,.sl (u.data.map scV) .ro),(20,(.im (.int .i64 (u.data.length)))),(21,(.im (.int .i64 ((((m+1:Nat)):Int)))))] [.box [.sl (u.globals.map vaV) .ro,.sl (u.data.map scV) .ro,.sl (u.funcs.map fnV) .ro],.box [.nb 1 PQ,.sl ((b1).map byB) (.mine 2),(.im (.int .i64 (0)))],.tip 5 1 (b1).length] gM ?_;exact hnx
 obtain rfl:m=u.data.length:=by omega
 clear hnext
 rw[←hbg0]
 refine whG cP @Int.lt_irrefl ?_
 refine Blk'.here (Thn.n ?_)
 refine wG cP @List.length_map.{0,0} ?_
 refine aW ?_
 refine ALp.cutP 3 [(1,.pt 0 0),(3,.pt 1 0),(45,.sl (u.funcs.map fnV) .ro),(46,(.im (.int .i64 (u.funcs.length)))),(47,(.im (.int .i64 ((((0:Nat)):Int)))))] [.box [.sl (u.globals.map vaV) .ro,.sl (u.data.map scV) .ro,.sl (u.funcs.map fnV) .ro],.box [.nb 1 PQ,.sl (((Bg 0)).map byB) (.mine 2),(.im (.int .i64 (0)))],.tip 5 1 ((Bg 0)).length] gM ?_
 refine ALp.upto u.funcs.length (fun _=>True) (fun m=>⟨dn 59 [(1,.pt 0 0),(3,.pt 1 0),(45,.sl (u.funcs.map fnV) .ro),(46,(.im (.int .i64 (u.funcs.length)))),(47,(.im (.int .i64 ((((m:Nat)):Int)))))],ofl [.box [.sl (u.globals.map vaV) .ro,.sl (u.data.map scV) .ro,.sl (u.funcs.map fnV) .ro],.box [.nb 1 PQ,.sl (((Bg m)).map byB) (.mine 2),(.im (.int .i64 (0)))],.tip 5 1 ((Bg m)).length]⟩) ?_ 0 (Nat.zero_le _) trivial
 intro m hm _ hnext
 by_cases hlt:m<u.funcs.length
 ·have hlt':(m:Int)<(u.funcs.length:Int):=by omega
  have hm1:=aT hlt (by omega)
  have hg:=bJ hlt;have hB:Bg m++funT u.funcs[m]=Bg (m+1):=by rw[hBg,hBg,Ec funT hlt,List.append_assoc]
  have hfun:=WG u.funcs[m] (hu.fn _ (List.getElem_mem hlt)) (hp _ (List.getElem_mem hlt)) (Bg m) (by rw[hB];exact hgl (m+1))
  rw[hB]at hfun;have hnx:=hnext (m+1) (by omega) (by omega) trivial
  clear hnext hB;generalize u.funcs[m]=f at hg hfun;generalize Bg m=b0 at hfun;generalize Bg (m+1)=b1 at hfun hnx;rw[tJ,show((0:Nat):Int)=0 from rfl]at hfun
  refine wG cP (A3 hlt' hg FU) ?_;refine aA [1,2] hfun TI gM wI ?_;refine goG cP TI ?_;refine wG cP hm1 ?_;refine ALp.cutP 3 [(1,.pt 0 0),(3,.pt 1 0),(45,.sl (u.funcs.map fnV) .ro),(46,(.im (.int .i64 (u.funcs.length)))),(47,(.im (.int .i64 ((((m+1:Nat)):Int)))))] [.box [.sl (u.globals.map vaV) .ro,.sl (u.data.map scV) .ro,.sl (u.funcs.map fnV) .ro],.box [.nb 1 PQ,.sl ((b1).map byB) (.mine 2),(.im (.int .i64 (0)))],.tip 5 1 (b1).length] gM ?_;exact hnx
 obtain rfl:m=u.funcs.length:=by omega
 clear hnext
 rw[hend]
 generalize uniT u=T at hs
 refine wG cP @Int.lt_irrefl ?_
 refine aA [1,2] hs TI gM wI ?_
 refine goG cP TI ?_
 refine wG cP TI ?_
 refine aI (rs:=[.tmp 2]) rfl (by first|exact .inl rfl|exact .inr rfl) (finG cP) ?_
 all_goals exact wkG gM
def nmX(s:Bs):Ex:= .mk 2 0 ⟨s.toArray⟩ 0 []
def coX(n:Int):Ex:= .mk 1 n ByteArray.empty 0 []
def twX(o:Int)(a b:Ex):Ex:= .mk o 0 ByteArray.empty 0 [a,b]
def s1X:Bs:=[114,48,32,45,32,49,32,45,32,114,49,32,42,32,50]
def s2X:Bs:=[45,114,48,32,42,32,50]
def s3X:Bs:=[114,48,32,43]
def s4X:Bs:=[102,117,110,99,32,109,97,105,110,32,123,32,114,48,32,61,32,49,59,32,104,97,108,116,59,32,125]
def s5X:Bs:=[118,97,114,32,114,48,58,32,117,105,110,116,51,50,59,32,102,117,110,99,32,109,97,105,110,32,123,32,114,48,32,61,32,49,59,32,104,97,108,116,59,32,125]
def s6X:Bs:=[102,117,110,99,32,102,32,123,10,32,32,104,97,108,116,10,125]
theorem e1X:Yv s1X=(twX 4 (twX 4 (nmX [114,48]) (coX 1)) (twX 5 (nmX [114,49]) (coX 2)),0):=by kernel_rfl
theorem e2X:Yv s2X=(twX 5 (mkU 17 0 (nmX [114,48])) (coX 2),0):=by kernel_rfl
theorem e3X:Yv s3X=(ex0,3):=by kernel_rfl
theorem e4X:uniP s4X=(uz0,17):=by kernel_rfl
def v5X:Va:=⟨⟨#[114,48]⟩,.mk 0 2 4 0 [] []⟩
def f5X:Fun:=⟨⟨#[109,97,105,110]⟩,[],[.mk 1 0 ⟨#[114,48]⟩ [coX 1] [] [] [],.mk 15 0 ByteArray.empty [] [] [] []]⟩
theorem e5X:uniP s5X=(⟨[v5X],[],[f5X]⟩,0):=by kernel_rfl
theorem e6X:GN s6X=((3,1),3):=by kernel_rfl
def jG:=A16 @lM @vL @cN @iL @sK @jV @lJ @vH @gT @lY @lX @nN @lW @jT @sB (A6 @nH @cM @sA @iJ @dP @kK)
def wM:=A12 aX bC @aE @aC @aO @aN fX eJ nT jX aJ sX
set_option maxRecDepth 4000 in
set_option maxHeartbeats 4000000 in
theorem WJ:PC Tryz.prog 12 [] (.im (.bool (true))):=by
 have h1:=Sv s1X (by decide)
 have h2:=Sv s2X (by decide)
 have h3:=Sv s3X (by decide)
 have h4:=Kn s4X (by decide)
 have h5:=Kn s5X (by decide)
 have h6:=AT s6X (by decide)
 rw[e1X]at h1
 rw[e2X]at h2
 rw[e3X]at h3
 rw[e4X]at h4
 rw[e5X]at h5
 rw[e6X]at h6
 simp only[twX,nmX,coX,mkU,ex0,gU,List.map_cons,List.map_nil,kY,uz0]at h1 h2 h3 h4 h5 h6
 unfold s1X at h1
 unfold s2X at h2
 unfold s3X at h3
 unfold s4X at h4
 unfold s5X at h5
 unfold s6X at h6
 generalize vaV v5X=va at h5
 generalize fnV f5X=fa at h5
 refine PC.enter 127 Tryz.func12 rfl (by decide) rfl rfl (s:=[]) (by rfl) ?_
 simp only[List.append]
 refine wG jG TI ?_
 refine AR.callP h1 TI wM ?_
 refine goG jG TI ?_
 refine wG jG TI ?_
 refine AR.callP h2 TI wM ?_
 refine goG jG TI ?_
 refine wG jG TI ?_
 refine AR.callP h3 TI wM ?_
 refine goG jG TI ?_
 refine wG jG TI ?_
 refine AR.callP h4 TI wM ?_
 refine goG jG TI ?_
 refine wG jG TI ?_
 refine AR.callP h5 TI wM ?_
 refine goG jG TI ?_
 refine wG jG TI ?_
 refine AR.callP h6 TI wM ?_
 refine goG jG TI ?_
 refine wG jG TI ?_
 refine aI (rs:=[.tmp 0]) rfl (by first|exact .inl rfl|exact .inr rfl) (finG jG) ?_
 all_goals exact wkG wM
theorem KZ: ∀e:Ex,fitE e→n32 e=true:=by
 refine Ex.induct fun o n s w l hl=> ?_
 intro hf
 obtain⟨_,h2⟩:=oT hf
 obtain⟨_,h3,_⟩:=Ob hf
 rw[Jp,Bool.and_eq_true,decide_eq_true_eq,List.all_eq_true]
 exact⟨by omega,fun t ht=>hl t ht (h2 t ht)⟩
end Go.Proofs.YtmbmmckagcdapaaGreatDoor
namespace Go.Proofs.YtmbmmckagcdapaaGreatDoor
theorem Oq{t:Ty}(h:chk t=0):shal t 64=true:=by
 unfold chk at h
 cases q:shal t 64 with
 | true=>rfl
 | false=>rw[q]at h;simp at h
theorem FJ{f:Fun}(h:prtB f=true)(hF:fitFn f):FunOk f:=by
 obtain⟨h1,h2,h3,h4⟩:=Dl h
 have hfit:=Vz f.body hF.bd false
 refine⟨h1,fun v hv=>⟨(h3 v hv).1,Dw (xP (h3 v hv).2),Oq (h3 v hv).2⟩,fun t ht=>⟨Vw h t ht,SH (lp:=false) qE fun q hq=> ?_⟩,h2⟩
 have hm:q∈allL f.body false:=List.mem_flatMap.2 ⟨t,ht,hq⟩
 rw[List.all_eq_true]
 intro x hx
 obtain⟨k1,k2⟩:=h4 q hm
 have hfe:=(dR (hfit q hm)).2.2.1.2 x hx
 have hg:=(VS x ((iF k2).2.2.1 x hx) 63 (k1 x hx)).1
 unfold qE
 rw[KZ x hfe,decide_eq_true hg]
 rfl
theorem lC(k:Nat)(s:Bs):(lnT k s).length=2*k+s.length+1:=by
 have h:(Lib.repeatL ([32,32]:Bs) k).length=2*k:=by rw[Lib.repeatL_length];show k*2=_;omega
 unfold lnT
 rw[List.length_append,List.length_append,h]
 rfl
theorem Ur{α:Type}{f:α→Nat}{x:α}: ∀ {l:List α},x∈l→f x≤(l.map f).sum
 | y::l,h=>by
  rw[List.map_cons,List.sum_cons];rcases List.mem_cons.1 h with rfl|h
  ·omega
  ·have:=Ur (f:=f) h;omega
theorem CB{α:Type}{f:α→Nat}{B:Nat}: ∀ {l:List α},(∀x∈l,f x≤B)→(l.map f).sum≤l.length*B
 | [],_=>by simp
 | x::l,h=>by
  have h1:=h x (by simp)
  have h2:=CB (l:=l) fun y hy=>h y (by simp[hy])
  rw[List.map_cons,List.sum_cons,List.length_cons,Nat.add_mul];omega
theorem GA(l:List Ex)(i:Nat):(Ge l i).length≤(l.map fun x=>(txE x).length).sum:=by
 unfold Ge
 cases h:l[i]? with
 | none=>exact Nat.zero_le _
 | some x=>exact Ur (f:=fun x=>(txE x).length) (List.mem_of_getElem? h)
theorem qJ{α:Type}(f:α→Bs)(l:List α):((l.map f).flatten).length=(l.map fun x=>(f x).length).sum:=by
 rw[List.length_flatten,List.map_map]
 rfl
theorem Vi(k:Nat)(hk:k≤140): ∀(cs:List (List Nd)) (j:Nat),j+cs.length≤1000→(((cs.zipIdx j).map (caS k)).flatten).length≤700*cs.length+(cs.map fun c=>(lsT c (k+2)).length).sum
 | [],j,_=>by simp
 | c::cs,j,h=>by
  rw[List.length_cons]at h;have ih:=Vi k hk cs (j+1) (by omega)
  have hi:=Nq (c:=(j:Int)) (by omega) (by omega)
  have h1:(caS k (c,j)).length≤700+(lsT c (k+2)).length:=by
   unfold caS;simp only[List.length_append,lC,List.length_cons,List.length_nil];omega
  rw[List.zipIdx_cons,List.map_cons,List.flatten_cons,List.length_append,List.map_cons,List.sum_cons,List.length_cons];omega
theorem Mr{t:Nd}(h:stT t=true):t.name.data.toList.length≤32∧t.cs.length≤64:=by
 unfold stT at h
 simp only[Bool.and_eq_true,decide_eq_true_eq,List.all_eq_true]at h
 obtain⟨⟨⟨⟨⟨⟨⟨⟨h1,h2⟩,h3⟩,h4⟩,h5⟩,h6⟩,h7⟩,h8⟩,h9⟩:=h
 constructor
 ·split at h4
  ·have:=(qD h4).2.2.2
   have e:t.name.data.toList.length=t.name.size:=by simp
   omega
  ·rw[uP]at h4
   rw[h4]
   decide
 ·split at h8
  ·simp only[Bool.and_eq_true,decide_eq_true_eq]at h8
   exact h8.2
  ·rw[decide_eq_true_eq]at h8
   omega
theorem KJ{t:Nd}(h:stT t=true):(simT t).length≤100+(t.e.map fun x=>(txE x).length).sum:=by
 obtain⟨hn,_⟩:=Mr h
 have he:=(iF h).2.1
 have h0:=GA t.e 0
 by_cases hk:t.kind=2
 ·rw[hk]at he
  obtain⟨a,b,hab⟩:=BT he;unfold simT;rw[if_neg (by omega),if_pos hk,hab]
  simp only[Ge,wB,List.length_append,List.length_cons,List.length_nil,List.map_cons,List.map_nil,List.sum_cons,List.sum_nil,List.getElem?_cons_zero,List.getElem?_cons_succ];omega
 ·unfold simT
  repeat' split
  all_goals first|omega|(simp only[List.length_append,List.length_cons,List.length_nil];omega)
theorem RJ{t:Nd}(hst:stT t=true){k:Nat}(hk:k≤140):(ndT t k).length≤46800+((t.e.map fun x=>(txE x).length).sum+((lsT t.l (k+1)).length+((lsT t.el (k+1)).length+(t.cs.map fun c=>(lsT c (k+2)).length).sum))):=by
 have hse:=KJ hst
 obtain⟨_,hcl⟩:=Mr hst
 have hinv:=iF hst
 obtain⟨kd,w,nm,e,l,el,cs⟩:=t
 simp only[Nd.e,Nd.l,Nd.el,Nd.cs,Nd.kind]at hse hcl hinv ⊢
 by_cases k6:kd=6
 ·subst k6
  obtain⟨a,rfl⟩:=xG hinv.2.1;rw[nd6];simp only[List.map_cons,List.map_nil,List.sum_cons,List.sum_nil];split<;>simp only[List.length_append,lC,List.length_cons,List.length_nil]<;>omega
 by_cases k7:kd=7
 ·subst k7
  obtain⟨a,rfl⟩:=xG hinv.2.1;rw[nd7];simp only[List.map_cons,List.map_nil,List.sum_cons,List.sum_nil,List.length_append,lC,List.length_cons,List.length_nil];omega
 by_cases k8:kd=8
 ·subst k8
  rw[nd8];simp only[List.length_append,lC,List.length_cons,List.length_nil];omega
 by_cases k9:kd=9
 ·subst k9
  obtain⟨a,rfl⟩:=xG hinv.2.1;rw[nd9];have:=Vi k (by omega) cs 0 (by omega)
  simp only[List.map_cons,List.map_nil,List.sum_cons,List.sum_nil,List.length_append,lC,List.length_cons,List.length_nil];omega
 ·have e1:ndT (.mk kd w nm e l el cs) k=lnT k (simT (.mk kd w nm e l el cs)):=by
   rw[jK];show(if kd=6 then _ else if kd=7 then _ else if kd=8 then _ else if kd=9 then _ else lnT k (simT (.mk kd w nm e l el cs)))=_
   rw[if_neg k6,if_neg k7,if_neg k8,if_neg k9]
  rw[e1,lC];omega
theorem GV{vs:List Va}{fs ls sn:List ByteArray}{p:Nd×Bool}(h:chk1 vs fs ls sn p=0):(p.1.e.all fun x=>esh x 64)=true∧stT p.1=true:=by
 unfold chk1 at h
 rcases aF h with ⟨_,h⟩|⟨h1,h⟩
 ·cases h
 rcases aF h with ⟨_,h⟩|⟨h2,h⟩
 ·cases h
 exact⟨by simpa using h1,by simpa using h2⟩
theorem Mv{vs:List Va}{fs ls:List ByteArray}: ∀ {l:List (Nd×Bool)} {sn:List ByteArray},runS vs fs ls sn l=0→ ∀p∈l,(p.1.e.all fun x=>esh x 64)=true∧stT p.1=true
 | [],_,_,p,hp=>by cases hp
 | q::r,sn,h,p,hp=>by
  rw[uE]at h;rcases aF h with ⟨h1,h⟩|⟨h1,h⟩
  ·rcases List.mem_cons.1 hp with rfl|hp
   ·exact GV h1
   ·exact Mv h p hp
  ·exact absurd h h1
theorem Cn: ∀ {l seen:List Va},vErr seen l=0→ ∀v∈l,nameT v.name=true∧chk v.ty=0
 | [],_,_,v,hv=>by cases hv
 | x::r,seen,h,v,hv=>by
  rw[vErr]at h;rcases aF h with ⟨_,h⟩|⟨h1,h⟩
  ·cases h
  rcases aF h with ⟨_,h⟩|⟨h2,h⟩
  ·cases h
  rcases aF h with ⟨h3,h⟩|⟨h3,h⟩
  ·exact absurd h h3
  rcases List.mem_cons.1 hv with rfl|hv
  ·exact⟨by simpa using h1,Classical.not_not.1 h3⟩
  ·exact Cn h v hv
theorem Om: ∀ {l seen:List Sec},dErr seen l=0→ ∀d∈l,nameT d.name=true∧d.data.length≤65536
 | [],_,_,v,hv=>by cases hv
 | x::r,seen,h,v,hv=>by
  rw[dErr]at h;rcases aF h with ⟨_,h⟩|⟨h1,h⟩
  ·cases h
  rcases aF h with ⟨_,h⟩|⟨h2,h⟩
  ·cases h
  rcases aF h with ⟨_,h⟩|⟨h3,h⟩
  ·cases h
  rcases List.mem_cons.1 hv with rfl|hv
  ·exact⟨by simpa using h1,by omega⟩
  ·exact Om h v hv
theorem Uz: ∀ {l:List Fun} {seen:List ByteArray},fnE seen l=0→ ∀f∈l,nameT f.name=true
 | [],_,_,v,hv=>by cases hv
 | x::r,seen,h,v,hv=>by
  rw[fnE]at h;rcases aF h with ⟨_,h⟩|⟨h1,h⟩
  ·cases h
  rcases aF h with ⟨_,h⟩|⟨h2,h⟩
  ·cases h
  rcases List.mem_cons.1 hv with rfl|hv
  ·simpa using h1
  ·exact Uz h v hv
theorem Vx{gs:List Va}{fs:List ByteArray}: ∀ {l:List Fun},bdE gs fs l=0→ ∀f∈l,bodyE gs f fs=0
 | [],_,v,hv=>by cases hv
 | x::r,h,v,hv=>by
  rw[bdE]at h;rcases aF h with ⟨h1,h⟩|⟨h1,h⟩
  ·rcases List.mem_cons.1 hv with rfl|hv
   ·exact h1
   ·exact Vx h v hv
  ·exact absurd h h1
theorem AU{gs:List Va}{f:Fun}{fs:List ByteArray}(hn:nameT f.name=true)(h:bodyE gs f fs=0):prtB f=true∧f.vars.length≤256∧cnt f.body≤1024:=by
 unfold bodyE at h
 rcases aF h with ⟨_,h⟩|⟨h1,h⟩
 ·cases h
 rcases aF h with ⟨h2,h⟩|⟨h2,h⟩
 ·exact absurd h h2
 rcases aF h with ⟨_,h⟩|⟨h3,h⟩
 ·cases h
 rcases aF h with ⟨_,h⟩|⟨h4,h⟩
 ·cases h
 refine⟨?_,by omega,by omega⟩
 have hv:=Cn (Classical.not_not.1 h2)
 have hr:=Mv h
 unfold prtB QY QZ
 simp only[Bool.and_eq_true,decide_eq_true_eq,List.all_eq_true,Bool.not_eq_true',List.any_eq_false,Bool.not_eq_eq_eq_not,Bool.not_true,Bool.not_eq_false]
 refine⟨hn,by omega,hv,fun q hq=>⟨fun x hx=> ?_,(hr q hq).2⟩⟩
 have:=List.all_eq_true.1 (hr q hq).1 x hx
 simpa using this
theorem JS{u:Un}(hu:fitU u)(hA: ∀d∈u.data,0≤d.addr∧d.addr<4294967296)(h:unE u=0):UnOk u∧(u.globals.length≤256∧u.data.length≤16∧u.funcs.length≤64)∧(∀d∈u.data,d.data.length≤65536)∧(∀f∈u.funcs,prtB f=true∧f.vars.length≤256∧cnt f.body≤1024)∧ ∀v∈u.globals,good v.ty=true:=by
 unfold unE at h
 rcases aF h with ⟨_,h⟩|⟨h1,h⟩
 ·cases h
 rcases aF h with ⟨_,h⟩|⟨h2,h⟩
 ·cases h
 rcases aF h with ⟨h3,h⟩|⟨h3,h⟩
 ·exact absurd h h3
 rcases aF h with ⟨h4,h⟩|⟨h4,h⟩
 ·exact absurd h h4
 rcases aF h with ⟨h5,h⟩|⟨h5,h⟩
 ·exact absurd h h5
 have hv:=Cn (Classical.not_not.1 h3)
 have hd:=Om (Classical.not_not.1 h4)
 have hf:=Uz (Classical.not_not.1 h5)
 have hb: ∀f∈u.funcs,prtB f=true∧f.vars.length≤256∧cnt f.body≤1024:=fun f hm=>AU (hf f hm) (Vx h f hm)
 refine⟨⟨fun v hm=>⟨(hv v hm).1,Dw (xP (hv v hm).2),Oq (hv v hm).2⟩,fun d hm=>⟨(hd d hm).1,hA d hm⟩,fun f hm=>FJ (hb f hm).1 (hu.fn f hm)⟩,by omega,fun d hm=>(hd d hm).2,hb,fun v hm=>xP (hv v hm).2⟩
theorem FD{n:Nat}(h:n<4294967296):(kW n).length≤8:=qI 7 (n+1) n (by omega) (by omega)
theorem MI{d:Sec}(h:SecOk d){D:Nat}(hd:d.data.length≤D):(datT d).length≤4*D+100:=by
 have h1:=(qD h.name).2.2.2
 have e:d.name.data.toList.length=d.name.size:=by simp
 have h2:=FD (n:=d.addr.toNat) (by have:=h.addr;omega)
 have h3:=Ny d.data
 unfold datT Bc Mw quoS
 cases d.wr<;>cases d.exe<;>simp only[if_true,if_false,Bool.false_eq_true,List.length_append,lC,List.length_cons,List.length_nil]<;>omega
end Go.Proofs.YtmbmmckagcdapaaGreatDoor
namespace Go.Proofs.YtmbmmckagcdapaaGreatDoor
open Go.RowKit
def Th:=A16 @aC @aN @aE @aO aV aJ @bU @bW @bV @bX eJ fX jX nT sX (AI aX bC)
def Wa:=A16 @oL @cN @Ce @dN @Qc @jO @Py @pC @mF @wT @wS @Fs @wR @wQ @Pu (A6 @tW @gR @cM @Bx @cY @gV)
theorem Sr(s:Bs)(h:65536<s.length)(hs:s.length≤140737488355328):PC Tryz.prog 28 [.im (.string ⟨(s).toArray⟩)] (.tu [.sl [] .nl,(.im (.int .i64 (6)))]):=by
 have h':(s.length:Int)>65536:=by omega
 refine PC.enter 73 Tryz.func28 rfl (by decide) rfl rfl (s:=[(0,.im (.string ⟨(s).toArray⟩))]) (by rfl) ?_
 refine wG Wa (AI BY h') ?_
 refine aI (rs:=[.tmp 2,.tmp 3]) rfl (by first|exact .inl rfl|exact .inr rfl) (finG Wa) ?_
 all_goals exact wkG Th
theorem Gp{s:Bs}(h:65536<s.length):uniP s=(uz0,6):=by
 have e:scnR s=([],6):=by unfold scnR;rw[if_pos h]
 unfold uniP
 rw[e,if_pos (by decide)]
def Bw:=A9 @pF @Ch @sK @pE @vE @We @nH @By @rY
theorem NJ(s:Bs)(h:65536<s.length)(hs:s.length≤140737488355328):PC Tryz.prog 13 [.im (.string ⟨(s).toArray⟩)] (.tu [unV (uniP s).1,(.im (.int .i64 ((uniP s).2)))]):=by
 have h1:=Sr s h hs
 rw[Gp h]
 refine PC.enter 36 Tryz.func13 rfl (by decide) rfl rfl (s:=[(0,.im (.string ⟨(s).toArray⟩))]) (by rfl) ?_
 refine wG Bw TI ?_
 refine AR.callP h1 TI Th ?_
 refine goG Bw TI ?_
 refine wG Bw TI ?_
 refine aI (rs:=[.cell 2 27,.tmp 3]) rfl (by first|exact .inl rfl|exact .inr rfl) (finG Bw) ?_
 all_goals exact wkG Th
theorem NK(s:Bs)(hs:s.length≤140737488355328):PC Tryz.prog 13 [.im (.string ⟨(s).toArray⟩)] (.tu [unV (uniP s).1,(.im (.int .i64 ((uniP s).2)))]):=by
 by_cases h:65536<s.length
 ·exact NJ s h hs
 ·exact Kn s (by omega)
end Go.Proofs.YtmbmmckagcdapaaGreatDoor
namespace Go.Proofs.YtmbmmckagcdapaaGreatDoor
theorem zG{α β γ δ:Type}{f:α→γ}{f':β→γ}{g:α→δ}{g':β→δ}: ∀ {l:List α} {m:List β},l.map f=m.map f'→(∀x∈l,∀y∈m,f x=f' y→g x=g' y)→l.map g=m.map g'
 | [],[],_,_=>rfl
 | x::l,y::m,h,k=>by
  rw[List.map_cons,List.map_cons,List.cons.injEq]at h;rw[List.map_cons,List.map_cons,k x (by simp) y (by simp) h.1,zG h.2 fun a ha b hb=>k a (by simp[ha]) b (by simp[hb])]
theorem wF{α:Type}{p q:α→Bool}{l m:List α}(h:l.map p=m.map q):l.all p=m.all q:=by
 have e: ∀(r:α→Bool) (l:List α),l.all r=(l.map r).all id:=fun r l=>by rw[List.all_map];rfl
 rw[e p,e q,h]
theorem zH{α β γ:Type}{f:α→γ}{f':β→γ}{l:List α}{m:List β}(h:l.map f=m.map f'):l.length=m.length:=by
 have:=congrArg List.length h
 rwa [List.length_map,List.length_map]at this
theorem JV{a b:Ty}(h:tyV a=tyV b):a.kind=b.kind∧a.size=b.size∧a.count=b.count∧a.elem.map tyV=b.elem.map tyV∧a.fields.map fdV=b.fields.map fdV:=by
 rw[cF,cF]at h
 injection h with h
 injection h with h1 h
 injection h with h2 h
 injection h with h3 h
 injection h with h4 h
 injection h with h5 h
 injection h1 with h1
 injection h1 with _ h1
 injection h2 with h2
 injection h2 with _ h2
 injection h3 with h3
 injection h3 with _ h3
 injection h4 with h4
 injection h5 with h5
 exact⟨h1,h2,h3,h4,h5⟩
theorem Kd{a b:Ty}(h:fdV a=fdV b):a.off=b.off∧tyV a=tyV b:=by
 rw[lS,lS]at h
 rw[cF,cF]
 injection h with h
 injection h with h1 h
 refine⟨?_,by rw[h]⟩
 injection h1 with h1
 injection h1 with _ h1
theorem Zk: ∀a b:Ty,tyV a=tyV b→(∀n,shal a n=shal b n)∧siz a=siz b∧frm a=frm b∧wit a=wit b:=by
 refine Ty.induct fun o k s c es fs hE hF=> ?_
 intro b h
 obtain⟨o',k',s',c',es',fs'⟩:=b
 obtain⟨h1,h2,h3,h4,h5⟩:=JV h
 simp only[Ty.kind,Ty.size,Ty.count,Ty.elem,Ty.fields]at h1 h2 h3 h4 h5
 subst h1 h2 h3
 have le:=zH h4
 have lf:=zH h5
 have off:fs.map Ty.off=fs'.map Ty.off:=zG h5 fun x hx y hy e=>(Kd e).1
 have qe: ∀ {δ:Type} {g:Ty→δ},(∀x∈es,∀y,tyV x=tyV y→g x=g y)→es.map g=es'.map g:=fun hg=>zG h4 fun x hx y hy e=>hg x hx y e
 have qf: ∀ {δ:Type} {g:Ty→δ},(∀x∈fs,∀y,x.off=y.off→tyV x=tyV y→g x=g y)→fs.map g=fs'.map g:=fun hg=>zG h5 fun x hx y hy e=>hg x hx y (Kd e).1 (Kd e).2
 have hs:siz (.mk o k s c es fs)=siz (.mk o' k s c es' fs'):=by
  rw[Cz,Cz,qe (g:=siz) fun x hx y e=>(hE x hx y e).2.1,qf (g:=fun f=>f.off+siz f) fun x hx y e1 e=>by rw[e1,(hF x hx y e).2.1]]
 refine⟨fun n=> ?_,hs,?_,?_⟩
 ·rw[qY,qY,wF (qe (g:=fun t=>shal t (n-1)) fun x hx y e=>(hE x hx y e).1 _),wF (qf (g:=fun t=>shal t (n-1)) fun x hx y _ e=>(hF x hx y e).1 _)]
 ·have ha:asc fs=asc fs':=by
   have hk:fok fs=fok fs':=by funext i;unfold fok;rw[off]
   unfold asc;rw[hk,lf]
  rw[vY,vY,le,lf,ha,wF (qe (g:=frm) fun x hx y e=>(hE x hx y e).2.2.1),wF (qf (g:=frm) fun x hx y _ e=>(hF x hx y e).2.2.1)]
 ·rw[Cm,Cm,lf,hs,wF (qe (g:=wit) fun x hx y e=>(hE x hx y e).2.2.2),wF (qf (g:=wit) fun x hx y _ e=>(hF x hx y e).2.2.2)]
theorem WD{a b:Ty}(h:tyV a=tyV b):chk a=chk b:=by
 obtain⟨h1,_,h3,h4⟩:=Zk a b h
 unfold chk
 rw[h1,h3,h4]
theorem Tu{a b:Va}(h:vaV a=vaV b):a.name=b.name∧tyV a.ty=tyV b.ty:=by
 rw[qR,qR]at h
 rw[cF,cF]
 injection h with h
 injection h with h1 h
 refine⟨?_,by rw[h]⟩
 injection h1 with h1
 injection h1
def nmE(l m:List Va):Prop:=l.map Va.name=m.map Va.name
theorem Rg{l m:List Va}(h:l.map vaV=m.map vaV):nmE l m:=zG h fun x _ y _ e=>(Tu e).1
theorem Uk{a b c d:List Va}(h:nmE a b)(k:nmE c d):nmE (a++c) (b++d):=by unfold nmE at *;rw[List.map_append,List.map_append,h,k]
theorem FE{l m:List Va}(h:nmE l m):has l=has m:=by
 funext s
 have e: ∀l:List Va,has l s=(l.map Va.name).any fun n=>eqS n s:=fun l=>by unfold has;rw[List.any_map];rfl
 rw[e,e,h]
theorem VE{l m:List Va}(h:nmE l m):knw l=knw m:=by
 funext e
 induction e using Ex.induct with
 | h o n s w es ih =>
 rw[Rk,Rk,FE h]
 have:es.all (knw l)=es.all (knw m):=wF (List.map_congr_left ih)
 rw[this]
theorem DQ{l m:List Va}(h:nmE l m)(fs ls:List ByteArray): ∀(q:List (Nd×Bool)) (sn:List ByteArray),runS l fs ls sn q=runS m fs ls sn q
 | [],_=>rfl
 | p::r,sn=>by
  have hc:chk1 l fs ls sn p=chk1 m fs ls sn p:=by unfold chk1 symT;rw[VE h,FE h]
  rw[uE,uE,hc,DQ h fs ls r]
theorem Qi: ∀ {l m s t:List Va},l.map vaV=m.map vaV→nmE s t→vErr s l=vErr t m
 | [],[],s,t,_,_=>by rw[vErr,vErr]
 | x::l,y::m,s,t,h,k=>by
  rw[List.map_cons,List.map_cons,List.cons.injEq]at h;obtain⟨e1,e2⟩:=Tu h.1;have h1:nmE [x] [y]:=by show [x.name]=[y.name];rw[e1]
  rw[vErr,vErr,e1,FE k,WD e2,Qi h.2 (Uk k h1)]
theorem NL{gs gs':List Va}{f g:Fun}(hg:gs.map vaV=gs'.map vaV)(h:fnQ f=fnQ g)(fs:List ByteArray):bodyE gs f fs=bodyE gs' g fs:=by
 unfold fnQ at h
 rw[Prod.mk.injEq,Prod.mk.injEq]at h
 obtain⟨h1,h2,h3⟩:=h
 unfold bodyE
 rw[zH hg,zH h2,Qi h2 (Rg hg),h3,DQ (Uk (Rg hg) (Rg h2))]
theorem FO{f g:Fun}(h:fnQ f=fnQ g):f.name=g.name:=(Prod.mk.inj h).1
theorem OZ: ∀ {l m:List Fun} (s:List ByteArray),l.map fnQ=m.map fnQ→fnE s l=fnE s m
 | [],[],s,_=>rfl
 | x::l,y::m,s,h=>by
  rw[List.map_cons,List.map_cons,List.cons.injEq]at h;rw[fnE,fnE,FO h.1,OZ _ h.2]
theorem PF{gs gs':List Va}(hg:gs.map vaV=gs'.map vaV)(fs:List ByteArray): ∀ {l m:List Fun},l.map fnQ=m.map fnQ→bdE gs fs l=bdE gs' fs m
 | [],[],_=>rfl
 | x::l,y::m,h=>by
  rw[List.map_cons,List.map_cons,List.cons.injEq]at h;rw[bdE,bdE,NL hg h.1,PF hg fs h.2]
theorem UN{u v:Un}(h:unQ u=unQ v):unE u=unE v:=by
 unfold unQ at h
 rw[Prod.mk.injEq,Prod.mk.injEq]at h
 obtain⟨h1,h2,h3⟩:=h
 have h4:u.funcs.map Fun.name=v.funcs.map Fun.name:=zG h3 fun x _ y _ e=>FO e
 unfold unE
 rw[zH h1,h2,zH h3,Qi h1 (s:=[]) (t:=[]) rfl,OZ [] h3,h4,PF h1 _ h3]
end Go.Proofs.YtmbmmckagcdapaaGreatDoor
namespace Go.Proofs.YtmbmmckagcdapaaGreatDoor
open Go.RowKit
theorem PG{u:Un}(h:unE u=0):uniT u≠[]:=by
 intro e
 have hf:u.funcs.length≠0:=fun h0=>by
  unfold unE at h;rcases aF h with ⟨_,h⟩|⟨_,h⟩
  ·cases h
  ·rw[if_pos h0]at h;cases h
 cases hl:u.funcs with
 | nil=>rw[hl]at hf;exact hf rfl
 | cons f r =>
  have e:(uniT u).length=0:=by rw[e];rfl
  unfold uniT at e;rw[hl,List.map_cons,List.flatten_cons]at e;unfold funT at e;simp only[List.length_append,lC]at e;omega
end Go.Proofs.YtmbmmckagcdapaaGreatDoor
namespace Go.Proofs.YtmbmmckagcdapaaGreatDoor
theorem Iw(o n:Int)(s:Bs)(w:Int)(l:List Ex)(r:List Bs):(txN o n s w l r).length≤(tG n.toNat).length+s.length+((r.getD 0 []).length+(r.getD 1 []).length)+20:=by
 have h0:=fun t k=>Uj (opAt l 0) t k
 have h1:=fun t k=>Uj (opAt l 1) t k
 have h2:=(CA o).2
 have a1:=h0 (r.getD 0 []) 9
 have a2:=h0 (r.getD 0 []) (stO o)
 have a3:=h1 (r.getD 1 []) (stO o+1)
 unfold txN
 repeat' split
 all_goals try simp only[List.length_append,List.length_cons,List.length_nil,wB]
 all_goals omega
theorem Tx(o w:Int)(x:Ex):(txE (.mk o 0 ByteArray.empty w [x])).length≤(txE x).length+40:=by
 have h:=Iw o 0 ByteArray.empty.data.toList w [x] ([x].map txE)
 have e1:((([x].map txE).getD 0 []).length)=(txE x).length:=rfl
 have e2:((([x].map txE).getD 1 []).length)=0:=rfl
 have e3:=tF (0:Int).toNat (by decide)
 have e4:ByteArray.empty.data.toList.length=0:=rfl
 rw[mX]
 omega
theorem JY(o w:Int)(x y:Ex):(txE (.mk o 0 ByteArray.empty w [x,y])).length≤(txE x).length+(txE y).length+40:=by
 have h:=Iw o 0 ByteArray.empty.data.toList w [x,y] ([x,y].map txE)
 have e1:((([x,y].map txE).getD 0 []).length)=(txE x).length:=rfl
 have e2:((([x,y].map txE).getD 1 []).length)=(txE y).length:=rfl
 have e3:=tF (0:Int).toNat (by decide)
 have e4:ByteArray.empty.data.toList.length=0:=rfl
 rw[mX]
 omega
section
variable {ts:List Tk}
theorem MF(hok: ∀t∈ts,TkOk t): ∀f,(∀a o x b p,exM ts f .op a o=some (.ok x b p)→(txE x).length+4194400*a≤4194400*b) ∧
  (∀l a o x b p,exM ts f (.ex l) a o=some (.ok x b p)→(txE x).length+4194400*a≤4194400*b) ∧
  (∀l z a o x b p,exM ts f (.lo l z) a o=some (.ok x b p)→(txE x).length+4194400*a≤(txE z).length+4194400*b):=by
 intro f
 induction f with
 | zero=>exact⟨(fun a o x b p h=>by cases h),(fun l a o x b p h=>by cases h),(fun l z a o x b p h=>by cases h)⟩
 | succ f ih =>
  obtain⟨i1,i2,i3⟩:=ih
  have inn_t: ∀(q:Ex→Ex) (C:Nat),(∀x,(txE (q x)).length≤(txE x).length+40)→ ∀a o x b p,inn ts (exM ts f (.ex 1)) q a o=some (.ok x b p)→(txE x).length+4194400*a≤4194400*b:=by
   intro q C hq a o x b p h;obtain⟨_,a1,o1,h1,h⟩:=aG h;obtain⟨y,a2,o2,h2,h⟩:=aG h;obtain⟨_,a3,o3,h3,h⟩:=aG h;cases h
   have e1:=bO h1;have e2:=i2 _ _ _ _ _ _ h2;have e3:=iQ h3;have e4:=hq y;omega
  refine⟨fun a o x b p h=> ?_,fun l a o x b p h=> ?_,fun l z a o x b p h=> ?_⟩
  ·rw[exM]at h
   have hn:=tD hok a;have hl:=Jm hok a;rcases aF h with ⟨_,h⟩|⟨_,h⟩
   ·cases h
    have h1:=Iw 1 (pk ts a).n ByteArray.empty.data.toList 0 [] [];have h2:=tF (pk ts a).n.toNat (by omega)
    have e4:ByteArray.empty.data.toList.length=0:=rfl;rw[mX];simp only[List.map_nil,List.getD_nil,List.length_nil]at h1 ⊢;omega
   rcases aF h with ⟨_,h⟩|⟨_,h⟩
   ·cases h
    have h1:=Iw 2 0 (pk ts a).text 0 [] [];have h2:=tF (0:Int).toNat (by decide)
    rw[mX];simp only[List.map_nil,List.getD_nil,List.length_nil]at h1 ⊢;omega
   rcases aF h with ⟨_,h⟩|⟨_,h⟩
   ·cases hw:accW (pk ts a).text with
    | none=>rw[hw]at h;cases h
    | some q =>
     rw[hw]at h;have:=inn_t (mkU q.1 q.2) 0 (fun x=>Tx _ _ x) _ _ _ _ _ h
     omega
   rcases aF h with ⟨_,h⟩|⟨_,h⟩
   ·rcases aF h with ⟨_,h⟩|⟨_,h⟩
    ·exact inn_t id 0 (fun x=>by show(txE x).length≤_;omega) _ _ _ _ _ h
    rcases aF h with ⟨_,h⟩|⟨_,h⟩
    ·obtain⟨_,a1,o1,h1,h⟩:=aG h
     obtain⟨y,a2,o2,h2,h⟩:=aG h;cases h
     have e1:=bO h1;have e2:=i1 _ _ _ _ _ h2;have e3:=Tx (if(pk ts a).text=[45]then 17 else 16) 0 y
     unfold mkU;omega
    ·cases h
   ·cases h
  ·rw[exM]at h
   obtain⟨y,a1,o1,h1,h⟩:=aG h;have e1:=i1 _ _ _ _ _ h1;have e2:=i3 _ _ _ _ _ _ _ h;omega
  ·rw[exM]at h
   rcases aF h with ⟨_,h⟩|⟨_,h⟩
   ·cases h;omega
   obtain⟨y,a1,o1,h1,h⟩:=aG h;have e1:=i2 _ _ _ _ _ _ h1;have e2:=i3 _ _ _ _ _ _ _ h;have e3:=JY (stR (pk ts a)).1 0 z y;omega
theorem Hm{c:Int}(h0:0≤c)(h1:c<4294967296):(Lib.itoa c).length≤10:=by
 have e:Lib.itoa c=Lib.decDigits c.toNat:=by unfold Lib.itoa;rw[if_neg (by omega)]
 rw[e]
 exact Vf 9 _ (by omega)
def flT(l:List Ty):Nat:=(fldT (l.map fun f=>(f.off,txT f))).length
theorem FT(l:List Ty)(x:Ty)(n:Int)(h0:0≤n)(h1:n<4294967296):flT (l++[x.at_ n])≤flT l+(txT x).length+14:=by
 have hi:=Hm h0 h1
 have e:(x.at_ n).off=n:=by cases x;rfl
 unfold flT
 rw[List.map_append,List.map_singleton,Hs,e,PM]
 unfold pcT
 simp only[List.length_append,List.length_cons,List.length_nil]
 split<;>simp only[List.length_cons,List.length_nil]<;>omega
theorem JW(hok: ∀t∈ts,TkOk t): ∀f,(∀a o x b p,tyM ts f .ty a o=some (.ok x b p)→(txT x).length+4194400*a≤4194400*b) ∧
  (∀l a o x b p,tyM ts f (.fl l) a o=some (.ok x b p)→(txT x).length+4194400*a≤flT l+4194400*b):=by
 intro f
 induction f with
 | zero=>exact⟨(fun a o x b p h=>by cases h),(fun l a o x b p h=>by cases h)⟩
 | succ f ih =>
  obtain⟨i1,i2⟩:=ih;refine⟨fun a o x b p h=> ?_,fun l a o x b p h=> ?_⟩
  ·rw[tyM]at h
   rcases aF h with ⟨_,h⟩|⟨_,h⟩
   ·cases hw:intR (pk ts a).text with
    | none=>rw[hw]at h;cases h
    | some q =>
     obtain⟨k,s⟩:=q;rw[hw]at h;cases h
     have hs:((k,s):Int×Int)∈([(6,0),(1,1),(1,2),(1,4),(2,1),(2,2),(2,4)]:List (Int×Int)):=by
      unfold intR at hw
      repeat' (split at hw)
      all_goals first|(cases hw;decide)|cases hw
     have hb:(txT (.mk 0 k s 0 [] [])).length≤20:=by
      rw[kM];have:=Nq (c:=8*s) (by simp only[List.mem_cons,List.not_mem_nil,or_false,Prod.mk.injEq]at hs;omega) (by simp only[List.mem_cons,List.not_mem_nil,or_false,Prod.mk.injEq]at hs;omega)
      simp only[List.mem_cons,List.not_mem_nil,or_false,Prod.mk.injEq]at hs;have hk:k=6∨k=1∨k=2:=by omega
      rcases hk with rfl|rfl|rfl
      ·rw[if_neg (by decide),if_pos rfl];decide
      ·rw[if_neg (by decide),if_neg (by decide),if_pos rfl];simp only[List.length_append,List.length_cons,List.length_nil];omega
      ·rw[if_neg (by decide),if_neg (by decide),if_neg (by decide),if_pos rfl];simp only[List.length_append,List.length_cons,List.length_nil];omega
     omega
   rcases aF h with ⟨_,h⟩|⟨_,h⟩
   ·cases h
    have:(txT (.mk 0 0 0 0 [] [])).length=1:=by rw[kM,if_pos rfl];rfl
    omega
   rcases aF h with ⟨_,h⟩|⟨_,h⟩
   ·obtain⟨_,a1,o1,h1,h⟩:=aG h
    obtain⟨y,a2,o2,h2,h⟩:=aG h;cases h
    have e1:=bO h1;have e2:=i1 _ _ _ _ _ h2
    have e3:(txT (.mk 0 3 0 0 [y] [])).length=1+(txT y).length:=by
     rw[kM,if_neg (by decide),if_neg (by decide),if_neg (by decide),if_neg (by decide),if_pos rfl,List.length_append]
     rfl
    omega
   rcases aF h with ⟨_,h⟩|⟨_,h⟩
   ·obtain⟨_,a1,o1,h1,h⟩:=aG h
    obtain⟨n,a2,o2,h2,h⟩:=aG h;obtain⟨_,a3,o3,h3,h⟩:=aG h;obtain⟨y,a4,o4,h4,h⟩:=aG h;cases h
    have e1:=bO h1;have e2:=eY h2;have e3:=bH h3;have e4:=i1 _ _ _ _ _ h4;have hn:=tD hok a1;rw[←e2.2.1]at hn;have hi:=Hm hn.1 hn.2
    have e5:(txT (.mk 0 4 0 n.n [y] [])).length=2+(Lib.itoa n.n).length+(txT y).length:=by
     rw[kM,if_neg (by decide),if_neg (by decide),if_neg (by decide),if_neg (by decide),if_neg (by decide),if_pos rfl]
     simp only[List.length_append,List.length_cons,List.length_nil,List.map_cons,List.map_nil,List.headD_cons];omega
    omega
   rcases aF h with ⟨_,h⟩|⟨_,h⟩
   ·obtain⟨_,a1,o1,h1,h⟩:=aG h
    have e1:=bO h1;have e2:=i2 _ _ _ _ _ _ h;have e3:flT []=0:=rfl;omega
   ·cases h
  ·rw[tyM]at h
   rcases aF h with ⟨_,h⟩|⟨_,h⟩
   ·obtain⟨_,a1,o1,h1,h⟩:=aG h
    cases h
    have e1:=iQ h1
    have e3:(txT (.mk 0 5 0 0 [] l)).length=2+flT l:=by
     rw[kM,if_neg (by decide),if_neg (by decide),if_neg (by decide),if_neg (by decide),if_neg (by decide),if_neg (by decide),if_pos rfl]
     simp only[List.length_append,List.length_cons,List.length_nil];unfold flT;omega
    omega
   obtain⟨_,a1,o1,h1,h⟩:=aG h;obtain⟨n,a2,o2,h2,h⟩:=aG h;obtain⟨_,a3,o3,h3,h⟩:=aG h;obtain⟨y,a4,o4,h4,h⟩:=aG h
   have e1:a≤a1:=by
    rcases aF h1 with ⟨_,h1⟩|⟨_,h1⟩
    ·have:=bH h1;omega
    ·cases h1;omega
   have e2:=eY h2;have e3:=bH h3;have e4:=i1 _ _ _ _ _ h4;have e5:=i2 _ _ _ _ _ _ h;have hn:=tD hok a1;rw[←e2.2.1]at hn;have e6:=FT l y n.n hn.1 hn.2;omega
def sE(l:List Ex):Nat:=(l.map fun x=>(txE x).length).sum
def Mg:Nd→Nat:=Nd.para fun t a b c=>sE t.e+(a.sum+(b.sum+(c.map List.sum).sum))
def sumL(l:List Nd):Nat:=(l.map Mg).sum
def sumC(c:List (List Nd)):Nat:=(c.map sumL).sum
theorem Ja(k w:Int)(n:ByteArray)(e:List Ex)(l el:List Nd)(cs:List (List Nd)):Mg (.mk k w n e l el cs)=sE e+(sumL l+(sumL el+sumC cs)):=by
 have h:Mg (.mk k w n e l el cs)=_:=Nd.para_mk _ k w n e l el cs
 rw[h,List.map_map]
 rfl
theorem Xf(c:List (List Nd))(l:List Nd):sumC (c++[l])=sumC c+sumL l:=by unfold sumC;rw[List.map_append,List.sum_append];simp
theorem Xe(l:List Nd)(t:Nd):sumL (l++[t])=sumL l+Mg t:=by unfold sumL;rw[List.map_append,List.sum_append];simp
theorem lO(c:List (List Nd)):sumL (c.headD [])≤sumC c:=by
 cases c with
 | nil=>exact Nat.zero_le _
 | cons l c=>unfold sumC;rw[List.map_cons,List.sum_cons];exact Nat.le_add_right _ _
theorem CC(c:List (List Nd)):Mg (theS c)≤sumC c:=by
 refine Nat.le_trans ?_ (lO c)
 unfold theS
 cases c.headD []with
 | nil=>show Mg nd0≤_;unfold nd0;rw[Ja];exact Nat.zero_le _
 | cons t l=>unfold sumL;rw[List.map_cons,List.sum_cons];exact Nat.le_add_right _ _
theorem iY(k w:Int)(n:ByteArray)(e:List Ex)(l el:List Nd)(cs:List (List Nd)):sumC (oneS (.mk k w n e l el cs))=sE e+(sumL l+(sumL el+sumC cs)):=by
 rw[←Ja k w n e l el cs]
 simp[sumC,sumL,oneS]
theorem KH(hok: ∀t∈ts,TkOk t): ∀f,(∀a o x b p,stM ts f .st a o=some (.ok x b p)→sumC x+4194400*a≤4194400*b) ∧
  (∀l a o x b p,stM ts f (.li l) a o=some (.ok x b p)→sumC x+4194400*a≤sumL l+4194400*b) ∧
  (∀a o x b p,stM ts f .br a o=some (.ok x b p)→sumC x+4194400*a≤4194400*b) ∧
  (∀c a o x b p,stM ts f (.ca c) a o=some (.ok x b p)→sumC x+4194400*a≤sumC c+4194400*b):=by
 intro f
 induction f with
 | zero=>exact⟨(fun a o x b p h=>by cases h),(fun l a o x b p h=>by cases h),(fun a o x b p h=>by cases h),(fun c a o x b p h=>by cases h)⟩
 | succ f ih =>
  obtain⟨i1,i2,i3,i4⟩:=ih;have ex: ∀ {l a o x b p},exM ts f (.ex l) a o=some (.ok x b p)→(txE x).length+4194400*a≤4194400*b:=fun h=>(MF hok f).2.1 _ _ _ _ _ _ h
  have nil0:sE []=0∧sumL []=0∧sumC []=0:=⟨rfl,rfl,rfl⟩;obtain⟨n1,n2,n3⟩:=nil0;have one1: ∀x,sE [x]=(txE x).length:=fun x=>by simp[sE]
  have sim: ∀ {k a o x b p},kS ts k a o=some (.ok x b p)→sumC x+4194400*a≤4194400*b:=fun {k a o x b p} h=>by
   obtain⟨_,a1,o1,h1,h⟩:=aG h;have e1:=bH h1;cases h
   rw[iY,n1,n2,n3];omega
  have nam: ∀ {k a o x b p},(rb (nmM ts a o) fun n a o=>rb (expM ts [59] a o) fun _ a o=>ret (oneS (.mk k 0 n [] [] [] [])) a o)=some (.ok x b p)→sumC x+4194400*a≤4194400*b:=fun {k a o x b p} h=>by
   obtain⟨_,a1,o1,h1,h⟩:=aG h;have e1:=eQ h1;obtain⟨_,a2,o2,h2,h⟩:=aG h;have e2:=bH h2;cases h
   rw[iY,n1,n2,n3];omega
  have sto: ∀ {w a o x b p},kR ts f w a o=some (.ok x b p)→sumC x+4194400*a≤4194400*b:=fun {w a o x b p} h=>by
   obtain⟨_,a1,o1,h1,h⟩:=aG h;obtain⟨x1,a2,o2,h2,h⟩:=aG h;obtain⟨_,a3,o3,h3,h⟩:=aG h;obtain⟨x2,a4,o4,h4,h⟩:=aG h;obtain⟨_,a5,o5,h5,h⟩:=aG h;obtain⟨_,a6,o6,h6,h⟩:=aG h;cases h
   have e1:=bO h1;have e2:=ex h2;have e3:=bH h3;have e4:=ex h4;have e5:=iQ h5;have e6:=bH h6;have e7:sE [x1,x2]=(txE x1).length+(txE x2).length:=by simp[sE]
   rw[iY,e7,n2,n3];omega
  refine⟨fun a o x b p h=> ?_,fun l a o x b p h=> ?_,fun a o x b p h=> ?_,fun c a o x b p h=> ?_⟩
  ·rw[stM]at h
   rcases aF h with ⟨_,h⟩|⟨_,h⟩
   ·obtain⟨n,a1,o1,h1,h⟩:=aG h
    have e1:=eQ h1;rcases aF h with ⟨_,h⟩|⟨_,h⟩
    ·cases h;rw[iY,n1,n2,n3];omega
    obtain⟨_,a2,o2,h2,h⟩:=aG h;have e2:=bH h2;rcases aF h with ⟨_,h⟩|⟨_,h⟩
    ·obtain⟨_,a3,o3,h3,h⟩:=aG h
     have e3:=bH h3;cases h;rw[iY,n1,n2,n3];omega
    obtain⟨x1,a3,o3,h3,h⟩:=aG h;obtain⟨_,a4,o4,h4,h⟩:=aG h;have e3:=ex h3;have e4:=bH h4;cases h
    rw[iY,one1,n2,n3];omega
   rcases aF h with ⟨_,h⟩|⟨_,h⟩
   ·have:=nam h;omega
   rcases aF h with ⟨_,h⟩|⟨_,h⟩
   ·have:=nam h;omega
   rcases aF h with ⟨_,h⟩|⟨_,h⟩
   ·have:=sto h;omega
   rcases aF h with ⟨_,h⟩|⟨_,h⟩
   ·have:=sto h;omega
   rcases aF h with ⟨_,h⟩|⟨_,h⟩
   ·have:=sto h;omega
   rcases aF h with ⟨_,h⟩|⟨_,h⟩
   ·obtain⟨x1,a1,o1,h1,h⟩:=aG h
    obtain⟨_,a2,o2,h2,h⟩:=aG h;have e1:=ex h1;have e2:=bH h2;cases h
    rw[iY,one1,n2,n3];omega
   rcases aF h with ⟨_,h⟩|⟨_,h⟩
   ·obtain⟨x1,a1,o1,h1,h⟩:=aG h
    obtain⟨l,a2,o2,h2,h⟩:=aG h;have e1:=ex h1;have e2:=i3 _ _ _ _ _ h2;have q2:=lO l;rcases aF h with ⟨_,h⟩|⟨_,h⟩
    ·obtain⟨e,a3,o3,h3,h⟩:=aG h
     have e3:=i3 _ _ _ _ _ h3;have q3:=lO e;cases h
     rw[iY,one1,n3];omega
    ·cases h
     rw[iY,one1,n2,n3];omega
   rcases aF h with ⟨_,h⟩|⟨_,h⟩
   ·obtain⟨x1,a1,o1,h1,h⟩:=aG h
    obtain⟨l,a2,o2,h2,h⟩:=aG h;have e1:=ex h1;have e2:=i3 _ _ _ _ _ h2;have q2:=lO l;cases h
    rw[iY,one1,n2,n3];omega
   rcases aF h with ⟨_,h⟩|⟨_,h⟩
   ·obtain⟨l,a2,o2,h2,h⟩:=aG h
    have e2:=i3 _ _ _ _ _ h2;have q2:=lO l;cases h
    rw[iY,n1,n2,n3];omega
   rcases aF h with ⟨_,h⟩|⟨_,h⟩
   ·obtain⟨x1,a1,o1,h1,h⟩:=aG h
    obtain⟨_,a2,o2,h2,h⟩:=aG h;obtain⟨c,a3,o3,h3,h⟩:=aG h;have e1:=ex h1;have e2:=bO h2;have e3:=i4 _ _ _ _ _ _ h3;cases h
    rw[n3]at e3;rw[iY,one1,n2];omega
   rcases aF h with ⟨_,h⟩|⟨_,h⟩
   ·have:=sim h;omega
   rcases aF h with ⟨_,h⟩|⟨_,h⟩
   ·have:=sim h;omega
   rcases aF h with ⟨_,h⟩|⟨_,h⟩
   ·have:=sim h;omega
   rcases aF h with ⟨_,h⟩|⟨_,h⟩
   ·have:=sim h;omega
   ·cases h
  ·rw[stM]at h
   rcases aF h with ⟨_,h⟩|⟨_,h⟩
   ·cases h
    have:sumC [l]=sumL l:=by simp[sumC]
    omega
   obtain⟨s,a1,o1,h1,h⟩:=aG h;have e1:=i1 _ _ _ _ _ h1;have e2:=i2 _ _ _ _ _ _ h;have e3:=Xe l (theS s);have e4:=CC s;omega
  ·rw[stM]at h
   obtain⟨_,a1,o1,h1,h⟩:=aG h;obtain⟨l,a2,o2,h2,h⟩:=aG h;obtain⟨_,a3,o3,h3,h⟩:=aG h;cases h
   have e1:=bO h1;have e2:=i2 _ _ _ _ _ _ h2;have e3:=iQ h3;omega
  ·rw[stM]at h
   rcases aF h with ⟨_,h⟩|⟨_,h⟩
   ·rcases aF h with ⟨_,h⟩|⟨_,h⟩
    ·obtain⟨l,a1,o1,h1,h⟩:=aG h
     have e1:=i3 _ _ _ _ _ h1;have e2:=i4 _ _ _ _ _ _ h;have e3:=Xf c (l.headD []);have e4:=lO l;omega
    ·cases h
   ·obtain⟨_,a1,o1,h1,h⟩:=aG h
    cases h
    have e1:=iQ h1;omega
def wVs(l:List Va):Nat:=(l.map fun v=>(varT 1 v).length).sum
def wFs(l:List Fun):Nat:=(l.map fun f=>wVs f.vars+sumL f.body).sum
def wU(u:Un):Nat:=wVs u.globals+wFs u.funcs
theorem RG{ts:List Tk}(hok: ∀t∈ts,TkOk t){a o:Nat}{n:ByteArray}{b p:Nat}(h:nmM ts a o=some (.ok n b p)):n.data.toList.length≤4194304:=by
 rw[(eQ h).1]
 exact Jm hok a
theorem Lu(hok: ∀t∈ts,TkOk t){f a o:Nat}{v:Va}{b p:Nat}(h:vM ts f a o=some (.ok v b p)):(varT 1 v).length+4194400*a≤4194400*b:=by
 obtain⟨_,a1,o1,h1,h⟩:=aG h
 obtain⟨n,a2,o2,h2,h⟩:=aG h
 obtain⟨_,a3,o3,h3,h⟩:=aG h
 obtain⟨t,a4,o4,h4,h⟩:=aG h
 obtain⟨_,a5,o5,h5,h⟩:=aG h
 cases h
 have e1:=bH h1
 have e2:=eQ h2
 have q2:=RG hok h2
 have e3:=bH h3
 have e4:=(JW hok f).1 _ _ _ _ _ h4
 have e5:=bH h5
 unfold varT
 simp only[List.length_append,lC,List.length_cons,List.length_nil]
 omega
theorem BF(hok: ∀t∈ts,TkOk t): ∀(f:Nat) {l:List Va} {a o:Nat} {v:List Va} {b p:Nat},vasM ts f l a o=some (.ok v b p)→wVs v+4194400*a≤wVs l+4194400*b:=by
 intro f
 induction f with
 | zero=>intro l a o v b p h;cases h
 | succ f ih =>
  intro l a o v b p h;rw[vasM]at h;rcases aF h with ⟨_,h⟩|⟨_,h⟩
  ·obtain⟨x,a1,o1,h1,h⟩:=aG h
   have e1:=Lu hok h1;have e2:=ih h;have e3:wVs (l++[x])=wVs l+(varT 1 x).length:=by unfold wVs;rw[List.map_append,List.sum_append];simp
   omega
  ·cases h;omega
theorem FK(hok: ∀t∈ts,TkOk t){f a o:Nat}{g:Fun}{b p:Nat}(h:funM ts f a o=some (.ok g b p)):(wVs g.vars+sumL g.body)+4194400*a≤4194400*b:=by
 obtain⟨_,a1,o1,h1,h⟩:=aG h
 obtain⟨n,a2,o2,h2,h⟩:=aG h
 obtain⟨_,a3,o3,h3,h⟩:=aG h
 obtain⟨vs,a4,o4,h4,h⟩:=aG h
 obtain⟨l,a5,o5,h5,h⟩:=aG h
 obtain⟨_,a6,o6,h6,h⟩:=aG h
 cases h
 have e1:=bH h1
 have e2:=eQ h2
 have e3:=bO h3
 have e4:=BF hok f h4
 have e5:=(KH hok f).2.1 _ _ _ _ _ _ h5
 have e6:=iQ h6
 have e7:=lO l
 have e8:wVs []=0:=rfl
 have e9:sumL []=0:=rfl
 show(wVs vs+sumL (l.headD []))+4194400*a≤4194400*b
 omega
theorem MJ{a o:Nat}{v:Sec}{b p:Nat}(h:wC ts a o=some (.ok v b p)):a≤b:=by
 have acc: ∀ {s:Bs} {a o:Nat} {w:Bool} {b p:Nat},accM ts s a o=some (.ok w b p)→a≤b:=fun {s a o w b p} h=>by
  rcases aF h with ⟨_,h⟩|⟨_,h⟩<;>cases h<;>omega
 obtain⟨_,a1,o1,h1,h⟩:=aG h
 obtain⟨n,a2,o2,h2,h⟩:=aG h
 obtain⟨d,a3,o3,h3,h⟩:=aG h
 obtain⟨w,a4,o4,h4,h⟩:=aG h
 obtain⟨x,a5,o5,h5,h⟩:=aG h
 obtain⟨_,a6,o6,h6,h⟩:=aG h
 obtain⟨y,a7,o7,h7,h⟩:=aG h
 obtain⟨_,a8,o8,h8,h⟩:=aG h
 cases h
 have e1:=bH h1
 have e2:=eQ h2
 have e3:=eY h3
 have e4:=acc h4
 have e5:=acc h5
 have e6:=bH h6
 have e7:=eY h7
 have e8:=bH h8
 omega
theorem BK(hok: ∀t∈ts,TkOk t): ∀(f:Nat) {u:Un} {a o:Nat} {v:Un} {b p:Nat},uniM ts f u a o=some (.ok v b p)→wU v+4194400*a≤wU u+4194400*b:=by
 intro f
 induction f with
 | zero=>intro u a o v b p h;cases h
 | succ f ih =>
  intro u a o v b p h;rw[uniM]at h;rcases aF h with ⟨_,h⟩|⟨_,h⟩
  ·cases h;omega
  rcases aF h with ⟨_,h⟩|⟨_,h⟩
  ·obtain⟨x,a1,o1,h1,h⟩:=aG h
   have e1:=Lu hok h1;have e2:=ih h;have e3:wU ⟨u.globals++[x],u.data,u.funcs⟩=wU u+(varT 1 x).length:=by unfold wU wVs;rw[List.map_append,List.sum_append];simp;omega
   omega
  rcases aF h with ⟨_,h⟩|⟨_,h⟩
  ·obtain⟨x,a1,o1,h1,h⟩:=aG h
   have e1:=MJ h1;have e2:=ih h;have e3:wU ⟨u.globals,u.data++[x],u.funcs⟩=wU u:=rfl;omega
  rcases aF h with ⟨_,h⟩|⟨_,h⟩
  ·obtain⟨x,a1,o1,h1,h⟩:=aG h
   have e1:=FK hok h1;have e2:=ih h;have e3:wU ⟨u.globals,u.data,u.funcs++[x]⟩=wU u+(wVs x.vars+sumL x.body):=by unfold wU wFs;rw[List.map_append,List.sum_append];simp;omega
   omega
  ·cases h
theorem Zj(hok: ∀t∈ts,TkOk t){a o:Nat}{v:Sec}{b p:Nat}(h:wC ts a o=some (.ok v b p)):0≤v.addr∧v.addr<4294967296:=by
 obtain⟨_,a1,o1,h1,h⟩:=aG h
 obtain⟨n,a2,o2,h2,h⟩:=aG h
 obtain⟨d,a3,o3,h3,h⟩:=aG h
 obtain⟨w,a4,o4,h4,h⟩:=aG h
 obtain⟨x,a5,o5,h5,h⟩:=aG h
 obtain⟨_,a6,o6,h6,h⟩:=aG h
 obtain⟨y,a7,o7,h7,h⟩:=aG h
 obtain⟨_,a8,o8,h8,h⟩:=aG h
 cases h
 show 0≤d.n∧d.n<_
 rw[(eY h3).2.1]
 exact tD hok _
theorem Wt(hok: ∀t∈ts,TkOk t): ∀(f:Nat) {u:Un} {a o:Nat} {v:Un} {b p:Nat},(∀d∈u.data,0≤d.addr∧d.addr<4294967296)→uniM ts f u a o=some (.ok v b p)→ ∀d∈v.data,0≤d.addr∧d.addr<4294967296:=by
 intro f
 induction f with
 | zero=>intro u a o v b p _ h;cases h
 | succ f ih =>
  intro u a o v b p hd h;rw[uniM]at h;rcases aF h with ⟨_,h⟩|⟨_,h⟩
  ·cases h;exact hd
  rcases aF h with ⟨_,h⟩|⟨_,h⟩
  ·obtain⟨x,a1,o1,h1,h⟩:=aG h
   exact ih (u:=⟨u.globals++[x],u.data,u.funcs⟩) hd h
  rcases aF h with ⟨_,h⟩|⟨_,h⟩
  ·obtain⟨x,a1,o1,h1,h⟩:=aG h
   refine ih (u:=⟨u.globals,u.data++[x],u.funcs⟩) (fun y hy=> ?_) h
   rcases List.mem_append.1 hy with hy|hy
   ·exact hd y hy
   ·simp at hy;rw[hy];exact Zj hok h1
  rcases aF h with ⟨_,h⟩|⟨_,h⟩
  ·obtain⟨x,a1,o1,h1,h⟩:=aG h
   exact ih (u:=⟨u.globals,u.data,u.funcs++[x]⟩) hd h
  ·cases h
end
theorem Bk{l:List Nd}{k:Nat}(ih: ∀t∈l,(ndT t k).length≤46800*cntT t+Mg t):(lsT l k).length≤46800*cnt l+sumL l:=by
 unfold lsT cnt sumL
 rw[qJ]
 induction l with
 | nil=>exact Nat.zero_le _
 | cons t l ihl =>
  have h1:=ih t (by simp)
  have h2:=ihl fun x hx=>ih x (by simp[hx])
  rw[List.map_cons,List.map_cons,List.map_cons,List.sum_cons,List.sum_cons,List.sum_cons];omega
theorem RI: ∀t,okT t=true→ ∀k:Nat,(k:Int)+2*depT t≤140→(ndT t k).length≤46800*cntT t+Mg t:=by
 refine Nd.induct fun kd w nm e l el cs h1 h2 h3=> ?_
 intro hok k hk
 rw[zB]at hok
 simp only[Bool.and_eq_true]at hok
 obtain⟨hst,ol,oel,ocs⟩:=hok
 rw[List.all_eq_true]at ol oel ocs
 have hd: ∀c∈subs (.mk kd w nm e l el cs),1+dep c≤depT (.mk kd w nm e l el cs):=fun c hc=>qU hc
 have hp:=Ej (.mk kd w nm e l el cs)
 have s2:=Bk (l:=l) (k:=k+1) fun t ht=>h1 t ht (ol t ht) (k+1) (by have:=hd l (by simp[subs,Nd.l]);have:=mH ht;omega)
 have s3:=Bk (l:=el) (k:=k+1) fun t ht=>h2 t ht (oel t ht) (k+1) (by have:=hd el (by simp[subs,Nd.el]);have:=mH ht;omega)
 have s4:(cs.map fun c=>(lsT c (k+2)).length).sum≤46800*(cs.map cnt).sum+sumC cs:=by
  have key: ∀q:List (List Nd),(∀c∈q,(lsT c (k+2)).length≤46800*cnt c+sumL c)→(q.map fun c=>(lsT c (k+2)).length).sum≤46800*(q.map cnt).sum+sumC q:=by
   intro q
   induction q with
   | nil=>intro _;exact Nat.zero_le _
   | cons c q ihq =>
    intro hq;have a1:=hq c (by simp)
    have a2:=ihq fun x hx=>hq x (by simp[hx])
    unfold sumC at a2 ⊢;rw[List.map_cons,List.map_cons,List.map_cons,List.sum_cons,List.sum_cons,List.sum_cons];omega
  exact key cs fun c hc=>Bk fun t ht=>h3 c hc t ht (List.all_eq_true.1 (ocs c hc) t ht) (k+2) (by have:=hd c (by simp[subs,Nd.cs,hc]);have:=mH ht;omega)
 have hkey:=RJ hst (k:=k) (by omega)
 rw[mJ,Ja]
 unfold sE
 simp only[subs,Nd.e,Nd.l,Nd.el,Nd.cs,List.map_cons,List.sum_cons]at hkey ⊢
 omega
theorem Iz{α:Type}{f g:α→Nat}{C:Nat}: ∀ {l:List α},(∀x∈l,f x≤g x+C)→(l.map f).sum≤(l.map g).sum+l.length*C
 | [],_=>by simp
 | x::l,h=>by
  have h1:=h x (by simp)
  have h2:=Iz (l:=l) fun y hy=>h y (by simp[hy])
  rw[List.map_cons,List.sum_cons,List.map_cons,List.sum_cons,List.length_cons,Nat.add_mul];omega
theorem FI{f:Fun}(h:FunOk f)(hc:cnt f.body≤1024):(funT f).length≤wVs f.vars+sumL f.body+48000000:=by
 have h1:=Bk (l:=f.body) (k:=1) fun t ht=>RI t (h.body t ht).1 1 (by have:=h.dep;have:=mH ht;omega)
 have h4:=(qD h.name).2.2.2
 have e:f.name.data.toList.length=f.name.size:=by simp
 have e2:(vasT 1 f.vars).length=wVs f.vars:=by unfold vasT wVs;rw[qJ]
 unfold funT
 simp only[List.length_append,lC,List.length_cons,List.length_nil]
 omega
theorem BI{u:Un}(h:UnOk u)(hl:u.globals.length≤256∧u.data.length≤16∧u.funcs.length≤64)(hd: ∀d∈u.data,d.data.length≤65536)(hc: ∀f∈u.funcs,cnt f.body≤1024):(uniT u).length≤wU u+3200000000:=by
 have l1:(vasT 0 u.globals).length≤wVs u.globals:=by
  unfold vasT wVs;rw[qJ];have:=Iz (C:=0) (l:=u.globals) (f:=fun v=>(varT 0 v).length) (g:=fun v=>(varT 1 v).length) fun v _=>by unfold varT;simp only[lC];omega
  omega
 have l2:=CB (f:=fun d=>(datT d).length) (B:=262244) (l:=u.data) fun d hm=>MI (h.data d hm) (hd d hm)
 have l3:=Iz (f:=fun f=>(funT f).length) (g:=fun f=>wVs f.vars+sumL f.body) (C:=48000000) (l:=u.funcs) fun f hm=>FI (h.funcs f hm) (hc f hm)
 have m2:u.data.length*262244≤16*262244:=Nat.mul_le_mul_right _ hl.2.1
 have m3:u.funcs.length*48000000≤64*48000000:=Nat.mul_le_mul_right _ hl.2.2
 unfold uniT
 rw[List.length_append,List.length_append,qJ,qJ]
 unfold wU wFs
 omega
theorem JO{s:Bs}(h:(uniP s).2=0):unE (uniP s).1=0∧UnOk (uniP s).1∧(uniT (uniP s).1).length≤300000000000∧(∀f∈(uniP s).1.funcs,prtB f=true)∧ ∀v∈(uniP s).1.globals,good v.ty=true:=by
 obtain⟨hok,hts,_⟩:=xB s
 have hf:=(Lw s).1
 revert h hf
 unfold uniP
 split
 ·rename_i q;intro h;exact absurd h q
 split
 ·rename_i q;intro h;exact absurd h q
 split
 ·rename_i q;intro h;exact absurd h q
 rename_i q0 q1 q2
 intro _ hf
 have hu:=Classical.not_not.1 q2
 rcases uA (scnR s).1 with ⟨b,e,_,hx,he,_⟩|⟨x,b,p,_,hx,hr⟩
 ·rw[hx]at q1
  have q1:e=0:=Classical.not_not.1 q1;omega
 rw[hx]at hf hu ⊢
 have hA:=Wt hok _ (u:=uz0) (by intro d hd;cases hd) hr
 obtain⟨k1,k2,k3,k4,k5⟩:=JS hf hA hu
 have hw:=BK hok _ hr
 have hb:=Tv _ (Nat.zero_le _) hr
 have hl:=BI k1 k2 k3 fun f hm=>(k4 f hm).2.2
 have e0:wU uz0=0:=rfl
 have hl:(uniT x).length≤wU x+3200000000:=hl
 exact⟨hu,k1,(by show(uniT x).length≤300000000000;omega),fun f hm=>(k4 f hm).1,k5⟩
end Go.Proofs.YtmbmmckagcdapaaGreatDoor
namespace Go.Proofs.YtmbmmckagcdapaaGreatDoor
open Go.RowKit
theorem BJ{s:Bs}(h:(uniP s).2≠0):(uniP s).1=uz0:=by
 revert h
 unfold uniP
 split
 ·intro _;rfl
 split
 ·intro _;rfl
 split
 ·intro _;rfl
 ·intro h;exact absurd rfl h
def fE:=A9 @vL @pF @sK @vH @lX @sB @nH @sA @gV
def lH:=A15 @aC @aN @aE @aO aV aJ @bU @bW @bV @bX eJ fX jX nT sX
theorem WM(s:Bs)(hs:s.length≤140737488355328):PC Tryz.prog 3 [.im (.string ⟨(s).toArray⟩)] (.im (.bool (true))):=by
 have qx:=WJ
 by_cases hf:1500<s.length
 ·have hf':(s.length:Int)>1500:=by omega
  refine PC.enter 61 Tryz.func3 rfl (by decide) rfl rfl (s:=[(0,.im (.string ⟨(s).toArray⟩))]) (by rfl) ?_
  refine wG fE (AI BY hf') ?_;refine AR.callP qx TI lH ?_;refine goG fE TI ?_;refine wG fE TI ?_;exact aD
 have hf': ¬(s.length:Int)>1500:=by omega
 have q1:=Kn s (by omega)
 by_cases he:(uniP s).2=0
 case neg =>
  rw[BJ he]at q1;simp only[kY,uz0,List.map_nil]at q1;generalize (uniP s).2=e at he q1;refine PC.enter 61 Tryz.func3 rfl (by decide) rfl rfl (s:=[(0,.im (.string ⟨(s).toArray⟩))]) (by rfl) ?_
  refine wG fE (AI BY hf') ?_;refine AR.callP q1 TI lH ?_;refine goG fE TI ?_;refine wG fE he ?_;refine AR.callP qx TI lH ?_;refine goG fE TI ?_;refine wG fE TI ?_;exact aD
 rw[he]at q1
 obtain⟨hu,hd⟩:=Lw s
 obtain⟨h0,k1,hlen,k4,k5⟩:=JO he
 generalize (uniP s).1=u at q1 hu hd h0 k1 hlen k4 k5
 clear he
 have q2:=tO u hu
 rw[h0]at q2
 have q3:=AQ u hu k1 hd k4 k5 h0 (PG h0) (by omega)
 have hlaw:= @Wq u k1
 have qs:=MT u hu hd
 rw[kY]at q1 q2 q3 qs
 generalize uniT u=t at q3 hlen hlaw
 have q4:=NK t (by omega)
 by_cases hl:65536<t.length
 ·have hl':(t.length:Int)>65536:=by omega
  rw[Gp hl]at q4;simp only[kY,uz0,List.map_nil]at q4;refine PC.enter 61 Tryz.func3 rfl (by decide) rfl rfl (s:=[(0,.im (.string ⟨(s).toArray⟩))]) (by rfl) ?_
  refine wG fE (AI BY hf') ?_;refine AR.callP q1 TI lH ?_;refine goG fE TI ?_;refine wG fE TI ?_;refine AR.callP q3 TI lH ?_;refine goG fE TI ?_;refine wG fE TI ?_;refine AR.callP q4 TI lH ?_;refine goG fE TI ?_;refine wG fE (AI BY hl') ?_;refine AR.callP q2 TI lH ?_;refine goG fE TI ?_;refine AR.callP qx TI lH ?_;refine goG fE TI ?_;refine wG fE TI ?_;exact aD
 have hl': ¬(t.length:Int)>65536:=by omega
 obtain⟨v,hv,e1⟩:=hlaw (by omega)
 have e2:unE v=unE u:=UN hv
 rw[e1,e2,h0,if_neg (by decide)]at q4
 simp only at q4
 rw[UM hv,kY]at q4
 refine PC.enter 61 Tryz.func3 rfl (by decide) rfl rfl (s:=[(0,.im (.string ⟨(s).toArray⟩))]) (by rfl) ?_
 refine wG fE (AI BY hf') ?_
 refine AR.callP q1 TI lH ?_
 refine goG fE TI ?_
 refine wG fE TI ?_
 refine AR.callP q3 TI lH ?_
 refine goG fE TI ?_
 refine wG fE TI ?_
 refine AR.callP q4 TI lH ?_
 refine goG fE TI ?_
 refine wG fE (AI BY hl') ?_
 refine AR.callP q2 TI lH ?_
 refine goG fE TI ?_
 refine AR.callP qs TI lH ?_
 refine goG fE TI ?_
 refine AR.callP qx TI lH ?_
 refine goG fE TI ?_
 refine wG fE TI ?_
 exact aD
end Go.Proofs.YtmbmmckagcdapaaGreatDoor
