import Derived.Test.YtmbmmckagcdapaaGreatDoorQ32
set_option maxHeartbeats 4000000
set_option linter.all false
namespace Go.Proofs.YtmbmmckagcdapaaGreatDoor
open Go.RowKit
theorem rR{α:Type}{f:α→Int→Int}: ∀ {l:List α} {n:Int},0≤pfold f l n→0≤n∧ ∀x∈l,∃m,0≤f x m
 | [],n,h=>⟨h,fun x hx=>by cases hx⟩
 | y::r,n,h=>by
  by_cases hn:0≤n
  ·have h':0≤pfold f r (f y n):=by
    unfold pfold at h ⊢;rw[List.foldl_cons,if_pos hn]at h;exact h
   obtain⟨i1,i2⟩:=rR h';refine⟨hn,fun x hx=> ?_⟩
   rcases List.mem_cons.1 hx with rfl|hx
   ·exact⟨n,i1⟩
   ·exact i2 x hx
  ·rw[jG _ hn]at h
   exact absurd h hn
theorem OX: ∀(t:Ty),FitW t→ ∀most n:Int,0≤tpa t most n→fit t:=by
 refine Ty.induct fun o k s c es fs hT hF=> ?_
 intro hf most n h
 obtain⟨h0,h1,h2,h3,h4⟩:=hf.inv
 rw[Ak]at h
 split at h
 ·omega
 ·rename_i hc
  obtain⟨p1,p2⟩:=rR h;obtain⟨_,q2⟩:=rR p1;refine PB h0 (by omega) (by omega) (fun t ht=> ?_) fun t ht=> ?_
  ·obtain⟨m,hm⟩:=q2 t ht
   exact hT t ht (h3 t ht) _ m hm
  ·obtain⟨m,hm⟩:=p2 t ht
   exact hF t ht (h4 t ht) _ m hm
theorem Us{t:Ty}{most:Int}(h:FitW t)(q:smallT t most=true):fit t:=OX t h most 3000 (by unfold smallT at q;exact of_decide_eq_true q)
theorem PE: ∀(t:Ex),FitEW t→ ∀most n:Int,0≤epa t most n→fitE t:=by
 refine Ex.induct fun o k s w l hE=> ?_
 intro hf most n h
 obtain⟨h0,h1,h2,h3⟩:=hf.inv
 rw[Mu]at h
 split at h
 ·omega
 ·rename_i hc
  refine IR h0 (by omega) h2 fun t ht=> ?_
  obtain⟨m,hm⟩:=(rR h).2 t ht;exact hE t ht (h3 t ht) _ m hm
theorem Dh(s:ByteArray)(l m:Bs)(hs:s=bA m)(hlen:l.length+m.length≤140737488355328):DC Tryz.prog 82 [.pt 0 0,.im (.string s)] [.box [.nb 0 206,.sl (byV (bA (l))) (.mine 1)],.tip 5 1 (bA (l)).size] (.tu [(.im (.int .i64 ((m.length:Int)))),.im Value.nilIface]) [.box [.nb 0 206,.sl (byV (bA ((l++m)))) (.mine 1)],.tip 5 1 (bA ((l++m))).size]:=by
 have h:=Is (bA l) s (by rw[hs,qG,qG];exact hlen)
 rw[hs,Bw,qG m]at h
 rw[hs]
 exact h
theorem VK{s:Int}(h:s=1∨s=2∨s=4):IntKind.i64.wrap (8*s)=8*s:=by rcases h with rfl|rfl|rfl<;>rfl
def jQ:=A7 @cO @tW @yI @rZ @wY @cN @tL
def cM:=A5 @bQ @bS @bR @bT Vw
def jB:=A6 @sT @sF @sS @sE Yu eH
theorem Ha(o k s c:Int)(es fs:List Ty)(hs:s=1∨s=2∨s=4)(l:Bs)(hl:(if k=2 then l++[117]else l).length+(3+(Lib.itoa (8*s)).length)≤140737488355328) :
  DC Tryz.prog 202 [.pt 0 0,tyV (.mk o k s c es fs)] [.box [.nb 0 206,.sl (byV (bA (l))) (.mine 1)],.tip 5 1 (bA (l)).size] (.tu []) [.box [.nb 0 206,.sl (byV (bA ((if k=2 then l++[117]else l)++([105,110,116]++Lib.itoa (8*s))))) (.mine 1)],.tip 5 1 (bA ((if k=2 then l++[117]else l)++([105,110,116]++Lib.itoa (8*s)))).size]:=by
 have hi:=vC (8*s) (by omega) (by omega)
 have hw:=VK hs
 refine dcEnt 20 Tryz.func202 rfl [(0,.pt 0 0),(1,tyV (.mk o k s c es fs))] ?_
 simp only[eE]
 have hz1:((⟨#[105,110,116]⟩:ByteArray)).size+((⟨(Lib.itoa (8*s)).toArray⟩:ByteArray)).size≤9223372036854775807:=by
  show 3+(bA (Lib.itoa (8*s))).size≤_
  rw[qG];split at hl<;>(try simp at hl)<;>omega
 by_cases hk:k=2
 ·rw[if_pos hk]at hl ⊢
  have h1:=Dh ⟨#[117]⟩ l [117] rfl (by simp at hl ⊢;omega)
  have h2:=Dh (⟨#[105,110,116]⟩++⟨(Lib.itoa (8*s)).toArray⟩) (l++[117]) ([105,110,116]++Lib.itoa (8*s)) (Bw [105,110,116] _) (by simp at hl ⊢;omega)
  refine wdG jQ hk ?_;refine aA [0,1] h1 TI cM jB ?_;refine goG jQ TI ?_;refine wdG jQ hw ?_;refine AR.callP hi TI cM ?_;refine goG jQ hz1 ?_;refine aA [0,1] h2 TI cM jB ?_;refine goG jQ TI ?_;refine wdG jQ TI ?_;refine fiGen [] (finG jQ) ?_ rfl (idG cM)
  all_goals exact wkG cM
 ·rw[if_neg hk]at hl ⊢
  have h2:=Dh (⟨#[105,110,116]⟩++⟨(Lib.itoa (8*s)).toArray⟩) l ([105,110,116]++Lib.itoa (8*s)) (Bw [105,110,116] _) (by simp at hl ⊢;omega)
  refine wdG jQ (AI hk hw) ?_;refine AR.callP hi TI cM ?_;refine goG jQ hz1 ?_;refine aA [0,1] h2 TI cM jB ?_;refine goG jQ TI ?_;refine wdG jQ TI ?_;refine fiGen [] (finG jQ) ?_ rfl (idG cM)
  all_goals exact wkG cM
def bG:=A16 @vO @cO @tW @tV @qO @gF @sD @qM @qL @yI @tQ @lL @rZ @wX @mW (A7 @jU @nZ @cN @tL @tK @nM @gD)
theorem JX: ∀(t:Ty),fit t→frm t=true→ ∀(l:Bs),l.length+(txT t).length≤140737488355328→DC Tryz.prog 148 [.pt 0 0,tyV t] [.box [.nb 0 206,.sl (byV (bA (l))) (.mine 1)],.tip 5 1 (bA (l)).size] (.tu []) [.box [.nb 0 206,.sl (byV (bA ((l++txT t)))) (.mine 1)],.tip 5 1 (bA ((l++txT t))).size]:=by
 refine Ty.induct fun o k s c es fs hE hF=> ?_
 intro hfit hfrm l hl
 obtain⟨hl1,hl2,hfE,hfF⟩:=pI hfit
 obtain⟨hb,hof,hfs,hes⟩:=pX hfrm
 rw[sG]at hl ⊢
 refine dcEnt 96 Tryz.func148 rfl [(0,.pt 0 0),(1,tyV (.mk o k s c es fs))] ?_
 simp only[eE]
 rcases mP hb with ⟨hk,h1⟩|⟨hk,hs,h1⟩|⟨rfl,h1⟩|⟨rfl,h0,h1,h2,h3,h4⟩|⟨rfl,h1⟩
 ·rcases hk with rfl|rfl
  ·rw[if_pos rfl]at hl ⊢
   have h:=Dh ⟨#[63]⟩ l [63] rfl hl;refine wG bG TI ?_;refine aA [0,1] h TI cM jB ?_;refine goG bG TI ?_;refine wG bG TI ?_;refine fiGen [] (finG bG) ?_ rfl (idG cM)
   all_goals exact wkG cM
  ·rw[if_neg (by decide),if_pos rfl]at hl ⊢
   have h:=Dh ⟨#[97,110,121]⟩ l [97,110,121] rfl hl;refine wG bG TI ?_;refine aA [0,1] h TI cM jB ?_;refine goG bG TI ?_;refine wG bG TI ?_;refine fiGen [] (finG bG) ?_ rfl (idG cM)
   all_goals exact wkG cM
 ·rcases hk with rfl|rfl
  ·rw[if_neg (by decide),if_neg (by decide),if_pos rfl]at hl ⊢
   have h:=Ha o 1 s c es fs hs l (by rw[if_neg (by decide)];simp at hl;omega)
   rw[if_neg (by decide)]at h
   refine wG bG TI ?_;refine aA [0,1] h @eE cM jB ?_;refine goG bG TI ?_;refine wG bG TI ?_;refine fiGen [] (finG bG) ?_ rfl (idG cM)
   all_goals exact wkG cM
  ·rw[if_neg (by decide),if_neg (by decide),if_neg (by decide),if_pos rfl]at hl ⊢
   have h:=Ha o 2 s c es fs hs l (by rw[if_pos rfl];simp at hl ⊢;omega)
   rw[if_pos rfl,List.append_assoc]at h;refine wG bG TI ?_;refine aA [0,1] h @eE cM jB ?_;refine goG bG TI ?_;refine wG bG TI ?_;refine fiGen [] (finG bG) ?_ rfl (idG cM)
   all_goals exact wkG cM
 ·rw[if_neg (by decide),if_neg (by decide),if_neg (by decide),if_neg (by decide),if_pos rfl]at hl ⊢
  obtain⟨x,rfl⟩:=List.length_eq_one_iff.1 h1.2.2.1;simp only[List.map_cons,List.map_nil,List.headD_cons]at hl ⊢;have h:=Dh ⟨#[42]⟩ l [42] rfl (by simp at hl ⊢;omega)
  have hc:=hE x (by simp) (hfE x (by simp)) (hes x (by simp)) (l++[42]) (by simp at hl ⊢;omega)
  rw[List.append_assoc]at hc;refine wG bG TI ?_;refine aA [0,1] h TI cM jB ?_;refine goG bG TI ?_;refine wG bG BN03 ?_;refine aA [0,1] hc @bM cM jB ?_;refine goG bG TI ?_;refine wG bG TI ?_;refine fiGen [] (finG bG) ?_ rfl (idG cM)
  all_goals exact wkG cM
 ·rw[if_neg (by decide),if_neg (by decide),if_neg (by decide),if_neg (by decide),if_neg (by decide),if_pos rfl]at hl ⊢
  obtain⟨x,rfl⟩:=List.length_eq_one_iff.1 h3;simp only[List.map_cons,List.map_nil,List.headD_cons]at hl ⊢;have hi:=vC c (by omega) (by omega)
  have hz1:((⟨#[91]⟩:ByteArray)).size+((⟨(Lib.itoa c).toArray⟩:ByteArray)).size≤9223372036854775807:=by
   show 1+(bA (Lib.itoa c)).size≤_
   rw[qG];simp at hl;omega
  have hz2:((⟨#[91]⟩++⟨(Lib.itoa c).toArray⟩:ByteArray)).size+((⟨#[93]⟩:ByteArray)).size≤9223372036854775807:=by
   rw[ByteArray.size_append];show 1+(bA (Lib.itoa c)).size+1≤_
   rw[qG];simp at hl;omega
  have he:((⟨#[91]⟩++⟨(Lib.itoa c).toArray⟩)++⟨#[93]⟩:ByteArray)=bA ([91]++Lib.itoa c++[93]):=by rw[←Bw,←Bw];rfl
  obtain⟨m,hm⟩: ∃m,m=[91]++Lib.itoa c++[93]:=⟨_,rfl⟩
  rw[←hm]at he hl ⊢;have h:=Dh _ l m he (by simp at hl ⊢;omega)
  have hc:=hE x (by simp) (hfE x (by simp)) (hes x (by simp)) (l++m) (by simp at hl ⊢;omega)
  rw[List.append_assoc]at hc;refine wdG bG TI ?_;refine AR.callP hi TI cM ?_;refine goG bG (AI hz1 hz2) ?_;refine aA [0,1] h TI cM jB ?_;refine goG bG TI ?_;refine wdG bG BN03 ?_;refine aA [0,1] hc @bM cM jB ?_;refine goG bG TI ?_;refine wdG bG TI ?_;refine fiGen [] (finG bG) ?_ rfl (idG cM)
  all_goals exact wkG cM
 ·rw[if_neg (by decide),if_neg (by decide),if_neg (by decide),if_neg (by decide),if_neg (by decide),if_neg (by decide),if_pos rfl]at hl ⊢
  obtain⟨F,hF0⟩: ∃F:Nat→Bs,F=fun m=>fldT ((fs.take m).map fun f=>(f.off,txT f)):=⟨_,rfl⟩
  have hFs: ∀m (h:m<fs.length),F (m+1)=F m++((if m=0 then []else [44,32])++(Lib.itoa fs[m].off++[58,32]++txT fs[m])):=fun m h=>by rw[hF0];exact Kb fs h
  have hFl: ∀m,m≤fs.length→(F m).length≤(fldT (fs.map fun f=>(f.off,txT f))).length:=fun m h=>by rw[hF0];exact OW fs h
  have hFn:F fs.length=fldT (fs.map fun f=>(f.off,txT f)):=by rw[hF0];simp
  have hF00:F 0=[]:=by rw[hF0];simp[fldT]
  rw[←hFn]at hl ⊢;rw[←hFn]at hFl;have h:=Dh ⟨#[123]⟩ l [123] rfl (by simp at hl ⊢;omega)
  refine wG bG TI ?_;refine aA [0,1] h TI cM jB ?_;refine goG bG TI ?_;refine wG bG @List.length_map.{0,0} ?_;obtain⟨l0,hl0⟩: ∃l0,l0=l++[123]:=⟨_,rfl⟩
  have hll:l0.length=l.length+1:=by rw[hl0];simp
  have hgoal:l++([123]++F fs.length++[125])=l0++F fs.length++[125]:=by rw[hl0];simp
  have hl00:l++[123]=l0++F 0:=by rw[hF00,hl0];simp
  rw[hgoal,hl00];refine aP ?_;refine ALp.cutP 3 [(0,.pt 0 0),(3,.pt 2 0),(4,.fn (.func 148) [] []),(65,.sl (fs.map fdV) .ro),(66,(.im (.int .i64 (fs.length)))),(67,(.im (.int .i64 ((((0:Nat)):Int)))))] [.box [.nb 0 206,.sl (byV (bA ((l0++F 0)))) (.mine 1)],.tip 5 1 (bA ((l0++F 0))).size,.box [(.im (.int .i64 ((5:Int)))),(.im (.int .i64 (s))),(.im (.int .i64 (c))),.sl (es.map tyV) .ro,.sl (fs.map fdV) .ro]] cM ?_;refine aW fs.length (fun _=>True) (fun m=>⟨dn 96 [(0,.pt 0 0),(3,.pt 2 0),(4,.fn (.func 148) [] []),(65,.sl (fs.map fdV) .ro),(66,(.im (.int .i64 (fs.length)))),(67,(.im (.int .i64 ((((m:Nat)):Int)))))],ofl [.box [.nb 0 206,.sl (byV (bA ((l0++F m)))) (.mine 1)],.tip 5 1 (bA ((l0++F m))).size,.box [(.im (.int .i64 ((5:Int)))),(.im (.int .i64 (s))),(.im (.int .i64 (c))),.sl (es.map tyV) .ro,.sl (fs.map fdV) .ro]]⟩) ?_ 0 (Nat.zero_le _) trivial
  intro m hm _ hnext
  by_cases hlt:m<fs.length
  ·have hlt':(m:Int)<(fs.length:Int):=by omega
   have hg:=bB hlt;have hm1:=aK hlt (by omega)
   have hn:=hnext (m+1) (by omega) (by omega) trivial
   clear hnext
   have ho:0≤fs[m].off∧fs[m].off≤9223372036854775807:=by
    have:=hof m hlt;unfold fok at this;simp[hlt]at this;omega
   have hi:=vC fs[m].off ho.1 ho.2;have hle:=hFl (m+1) (by omega)
   rw[hFs m hlt]at hle hn
   have hz1:((⟨(Lib.itoa fs[m].off).toArray⟩:ByteArray)).size+((⟨#[58,32]⟩:ByteArray)).size≤9223372036854775807:=by
    show(bA (Lib.itoa fs[m].off)).size+2≤_
    rw[qG];simp at hl hle;omega
   have he:(⟨(Lib.itoa fs[m].off).toArray⟩++⟨#[58,32]⟩:ByteArray)=bA (Lib.itoa fs[m].off++[58,32]):=by rw[←Bw];rfl
   by_cases h0:m=0
   ·rw[if_pos h0,List.nil_append]at hle hn
    obtain⟨q,hq⟩: ∃q,q=Lib.itoa fs[m].off++[58,32]:=⟨_,rfl⟩
    rw[←hq]at he hle hn;obtain⟨l1,hl1'⟩: ∃l1,l1=l0++F m:=⟨_,rfl⟩
    have h2:=Dh _ l1 q he (by rw[hl1'];simp at hl hle ⊢;omega)
    have hc:=hF fs[m] (List.getElem_mem hlt) (hfF _ (List.getElem_mem hlt)) (hfs _ (List.getElem_mem hlt)) (l1++q) (by rw[hl1'];simp at hl hle ⊢;omega)
    rw[←List.append_assoc,←List.append_assoc,←hl1']at hn;rw[←hl1'];have hg0: ¬((m:Nat):Int)>0:=by omega
    refine wdG bG (A16 @eT @eY @dL @dN @eR @eQ @eS @dM @eB @eA @eX @dO @List.getElem?_map.{0,0} @Int.natCast_nonneg hlt' (AI hg hg0)) ?_;refine AR.callP hi TI cM ?_;refine goG bG hz1 ?_;refine aA [0,1] h2 TI cM jB ?_;refine goG bG TI ?_;refine wdG bG BN03 ?_;refine aA [0,1] hc @bM cM jB ?_;refine goG bG TI ?_;refine wdG bG hm1 ?_;refine ALp.cutP 3 [(0,.pt 0 0),(3,.pt 2 0),(4,.fn (.func 148) [] []),(65,.sl (fs.map fdV) .ro),(66,(.im (.int .i64 (fs.length)))),(67,(.im (.int .i64 ((((m+1:Nat)):Int)))))] [.box [.nb 0 206,.sl (byV (bA ((l1++q++txT fs[m])))) (.mine 1)],.tip 5 1 (bA ((l1++q++txT fs[m]))).size,.box [(.im (.int .i64 ((5:Int)))),(.im (.int .i64 (s))),(.im (.int .i64 (c))),.sl (es.map tyV) .ro,.sl (fs.map fdV) .ro]] cM ?_;exact hn
   ·rw[if_neg h0]at hle hn
    obtain⟨q,hq⟩: ∃q,q=Lib.itoa fs[m].off++[58,32]:=⟨_,rfl⟩
    rw[←hq]at he hle hn;obtain⟨l1,hl1'⟩: ∃l1,l1=l0++F m:=⟨_,rfl⟩
    obtain⟨l2,hl2'⟩: ∃l2,l2=l1++[44,32]:=⟨_,rfl⟩
    have h2:=Dh ⟨#[44,32]⟩ l1 [44,32] rfl (by rw[hl1'];simp at hl hle ⊢;omega)
    rw[←hl2']at h2;have h3:=Dh _ l2 q he (by rw[hl2',hl1'];simp at hl hle ⊢;omega)
    have hc:=hF fs[m] (List.getElem_mem hlt) (hfF _ (List.getElem_mem hlt)) (hfs _ (List.getElem_mem hlt)) (l2++q) (by rw[hl2',hl1'];simp at hl hle ⊢;omega)
    rw[←List.append_assoc,←List.append_assoc,←List.append_assoc,←hl1',←hl2']at hn;rw[←hl1'];have hg0:((m:Nat):Int)>0:=by omega
    refine wdG bG (A16 @eT @eY @dL @dN @eR @eQ @eS @dM @eB @eA @eX @dO @List.getElem?_map.{0,0} @Int.natCast_nonneg hlt' (AI hg hg0)) ?_;refine aA [0,1] h2 TI cM jB ?_;refine goG bG TI ?_;refine wdG bG BN03 ?_;refine AR.callP hi TI cM ?_;refine goG bG hz1 ?_;refine aA [0,1] h3 TI cM jB ?_;refine goG bG TI ?_;refine wdG bG BN03 ?_;refine aA [0,1] hc @bM cM jB ?_;refine goG bG TI ?_;refine wdG bG hm1 ?_;refine ALp.cutP 3 [(0,.pt 0 0),(3,.pt 2 0),(4,.fn (.func 148) [] []),(65,.sl (fs.map fdV) .ro),(66,(.im (.int .i64 (fs.length)))),(67,(.im (.int .i64 ((((m+1:Nat)):Int)))))] [.box [.nb 0 206,.sl (byV (bA ((l2++q++txT fs[m])))) (.mine 1)],.tip 5 1 (bA ((l2++q++txT fs[m]))).size,.box [(.im (.int .i64 ((5:Int)))),(.im (.int .i64 (s))),(.im (.int .i64 (c))),.sl (es.map tyV) .ro,.sl (fs.map fdV) .ro]] cM ?_;exact hn
  ·obtain rfl:m=fs.length:=by omega
   have hlt': ¬(fs.length:Int)<(fs.length:Int):=by omega
   clear hnext;have h2:=Dh ⟨#[125]⟩ (l0++F fs.length) [125] rfl (by simp at hl ⊢;omega)
   refine wG bG hlt' ?_;refine aA [0,1] h2 TI cM jB ?_;refine goG bG TI ?_;refine wG bG TI ?_;refine fiGen [] (finG bG) ?_ rfl (idG cM)
   all_goals exact wkG cM
def iX:=A7 @tW @gF @MI @yI @LW @tL @gD
theorem TF{t:Ty}(h:frm t=true):txT t≠[]:=by
 obtain⟨o,k,s,c,es,fs⟩:=t
 obtain⟨hb,_⟩:=pX h
 rw[sG]
 rcases mP hb with ⟨hk,h1⟩|⟨hk,hs,h1⟩|⟨rfl,h1⟩|⟨rfl,h0,h1,h2,h3,h4⟩|⟨rfl,h1⟩
 ·rcases hk with rfl|rfl<;>simp
 ·rcases hk with rfl|rfl<;>simp
 ·simp
 ·simp
 ·simp
def prT(t:Ty):Bs:=if good t=true then txT t else []
theorem CP(t:Ty)(hfit:fit t)(hl:good t=true→(txT t).length≤140737488355328):PC Tryz.prog 81 [tyV t] (.im (.string (bA (prT t)))):=by
 have hgd:=XE t hfit
 unfold prT
 refine pcEnt 16 Tryz.func81 rfl [(0,tyV t)] ?_
 simp only[bM t]
 cases hg:good t with
 | false =>
  rw[hg]at hgd;rw[if_neg (by decide)]
  refine wG iX TI ?_;refine AR.callP hgd @bM cM ?_;refine goG iX TI ?_;refine wG iX TI ?_;refine fiGenO [.tmp 2] (finG iX) ?_
  skip
  all_goals exact wkG cM
 | true =>
  rw[hg]at hgd;rw[if_pos rfl];have hfrm:=Gf hg;have hl:=hl hg;have hw:=JX t hfit hfrm [] (by simpa using hl)
  rw[List.nil_append]at hw;have hs:=LE (bA (txT t)) (by rw[qG];intro e;exact TF hfrm (List.length_eq_zero_iff.1 e))
  refine wG iX TI ?_;refine AR.callP hgd @bM cM ?_;refine goG iX TI ?_
  repeat (with_reducible first|refine AWp.seq ?_|refine nD ?_|refine Thn.n ?_|refine jE ?_)
  with_reducible apply jP
  case ht=>rfl
  case hc=>rfl
  repeat (with_reducible first|refine AWp.seq ?_|refine nD ?_|refine Thn.n ?_|refine jE ?_)
  refine AWp.region ?_;refine AR.one rfl (by simp only[↓iG,↓reduceIte,SA,SB,SC,SD,iX,oC,fpsG,evO,evB,evA,nT,oE,eqF,eqC,kB,iA,slB,slK,gd,St.ev,eV,ofl,wrl,putE,V.ofVal,V.ofCell,bin2,un1,seg,iL,dT,Value.oneCell',Nat.reduceBEq,Nat.reduceLT,Nat.reduceSub,Nat.reduceAdd,Nat.reduceMul,Nat.reduceLeDiff,Nat.reduceEqDiff,reduceCtorEq,Int.reduceLT,Int.reduceLE,Int.reduceEq,Int.reduceNe,Int.reduceBEq,Int.reduceBNe,Int.reduceAdd,Int.reduceSub,Int.reduceMul,Int.reduceToNat];with_reducible exact rfl) (by simp only[↓iG,↓reduceIte,SA,SB,SC,SD,iX,oC,fpsG,evO,evB,evA,nT,oE,eqF,eqC,kB,iA,slB,slK,gd,St.ev,eV,ofl,wrl,putE,V.ofVal,V.ofCell,bin2,un1,seg,iL,dT,Value.oneCell',Nat.reduceBEq,Nat.reduceLT,Nat.reduceSub,Nat.reduceAdd,Nat.reduceMul,Nat.reduceLeDiff,Nat.reduceEqDiff,reduceCtorEq,Int.reduceLT,Int.reduceLE,Int.reduceEq,Int.reduceNe,Int.reduceBEq,Int.reduceBNe,Int.reduceAdd,Int.reduceSub,Int.reduceMul,Int.reduceToNat];with_reducible exact rfl) (by simp only[↓iG,↓reduceIte,SA,SB,SC,SD,iX,oC,fpsG,evO,evB,evA,nT,oE,eqF,eqC,kB,iA,slB,slK,gd,St.ev,eV,ofl,wrl,putE,V.ofVal,V.ofCell,bin2,un1,seg,iL,dT,Value.oneCell',Nat.reduceBEq,Nat.reduceLT,Nat.reduceSub,Nat.reduceAdd,Nat.reduceMul,Nat.reduceLeDiff,Nat.reduceEqDiff,reduceCtorEq,Int.reduceLT,Int.reduceLE,Int.reduceEq,Int.reduceNe,Int.reduceBEq,Int.reduceBNe,Int.reduceAdd,Int.reduceSub,Int.reduceMul,Int.reduceToNat];with_reducible exact rfl) ?_
  refine RV (by decide) rfl ?_
  refine goG iX TI ?_
  repeat (with_reducible first|refine AWp.seq ?_|refine nD ?_|refine Thn.n ?_|refine jE ?_)
  refine AWp.ghostB 1 1 [.nb 1 206,.sl [] .nl] 5 1 ?_;simp only[List.set_cons_succ,List.set_cons_zero,List.cons_append,List.nil_append,List.length_cons,List.length_nil,Nat.reduceAdd];rw[show byV (bA ([]:Bs))=[]from rfl,show(bA ([]:Bs)).size=0 from rfl]at hw
  refine wG iX TI ?_;refine aA [1,2] hw @bM cM jB ?_;refine goG iX TI ?_;refine wG iX TI ?_;refine aA [1,2] hs TI cM jB ?_;refine goG iX TI ?_;refine wG iX TI ?_;refine fiGenO [.tmp 2] (finG iX) ?_
  skip
  all_goals exact wkG cM
theorem QM(b x y z u v r:Bs)(k:Nat)(hr:b++lnT k (x++(y++(z++(u++v))))=r)(hlen:r.length≤140737488355328):DC Tryz.prog 36 [.pt 0 0,.sl [.im (.string ⟨(x).toArray⟩),.im (.string ⟨(y).toArray⟩),.im (.string ⟨(z).toArray⟩),.im (.string ⟨(u).toArray⟩),.im (.string ⟨(v).toArray⟩)] .full] [.box [.nb 0 PQ,.sl ((b).map byB) (.mine 1),(.im (.int .i64 ((k:Int))))],.tip 5 1 (b).length] (.tu []) [.box [.nb 0 PQ,.sl ((r).map byB) (.mine 1),(.im (.int .i64 ((k:Int))))],.tip 5 1 (r).length]:=by
 subst hr
 exact Ag<|Mw b [x,y,z,u,v] (x++(y++(z++(u++v)))) (by simp) k (by simp) hlen
theorem Zk{l:List Va}{m:Nat}(k:Nat)(h:m<l.length):vasT k (l.take (m+1))=vasT k (l.take m)++varT k l[m]:=by
 unfold vasT
 rw[List.take_succ_eq_append_getElem h,List.map_append,List.flatten_append]
 simp
theorem MN{l:List Va}{m k:Nat}:(vasT k (l.take m)).length≤(vasT k l).length:=by
 conv=>rhs;rw[←List.take_append_drop m l]
 unfold vasT
 rw[List.map_append,List.flatten_append,List.length_append]
 exact Nat.le_add_right _ _
theorem YQ(t:Ty)(hf:fit t)(hg:good t=true)(hl:(txT t).length≤140737488355328):PC Tryz.prog 81 [tyV t] (.im (.string ⟨(txT t).toArray⟩)):=by
 have:=CP t hf fun _=>hl
 rw[prT,if_pos hg]at this
 exact this
def tB:=A12 @dR @gF @Ad @mJ @qN @jZ @jN @rY @mV @dA @gD @jM
def Ce:=A10 @aD @aE aZ aC @aL @aN @bR @bQ @bT @bS
def XU:=A11 @aQ @aR fC cH eH @bE @bD @sE @sF @sS @sT
theorem Yk(l:List Va)(k:Nat)(b:Bs)(hl:l.length≤4194304)(hf:fitVN l)(hg: ∀v∈l,good v.ty=true)(hlen:(b++vasT k l).length≤140737488355328) :
  DC Tryz.prog 35 [.pt 0 0,.sl (l.map vaV) .ro] [.box [.nb 0 PQ,.sl ((b).map byB) (.mine 1),(.im (.int .i64 ((k:Int))))],.tip 5 1 (b).length] (.tu []) [.box [.nb 0 PQ,.sl (((b++vasT k l)).map byB) (.mine 1),(.im (.int .i64 ((k:Int))))],.tip 5 1 ((b++vasT k l)).length]:=by
 obtain⟨Bf,hBf⟩: ∃Bf:Nat→Bs,∀m,Bf m=b++vasT k (l.take m):=⟨_,fun _=>rfl⟩
 have h0:Bf 0=b:=by rw[hBf];simp[vasT]
 have hend:Bf l.length=b++vasT k l:=by rw[hBf,List.take_length]
 rw[←hend,←h0]
 refine dcEnt 21 Tryz.func35 rfl [(0,.pt 0 0),(1,.sl (l.map vaV) .ro)] ?_
 refine wG tB @List.length_map.{0,0} ?_
 refine aP ?_
 refine ALp.cutP 2 [(0,.pt 0 0),(6,.sl (l.map vaV) .ro),(7,(.im (.int .i64 (l.length)))),(8,(.im (.int .i64 ((((0:Nat)):Int)))))] [.box [.nb 0 PQ,.sl (((Bf 0)).map byB) (.mine 1),(.im (.int .i64 ((k:Int))))],.tip 5 1 ((Bf 0)).length] Ce ?_
 refine aW l.length (fun _=>True) (fun m=>⟨dn 21 [(0,.pt 0 0),(6,.sl (l.map vaV) .ro),(7,(.im (.int .i64 (l.length)))),(8,(.im (.int .i64 ((((m:Nat)):Int)))))],ofl [.box [.nb 0 PQ,.sl (((Bf m)).map byB) (.mine 1),(.im (.int .i64 ((k:Int))))],.tip 5 1 ((Bf m)).length]⟩) ?_ 0 (Nat.zero_le _) trivial
 intro m hm _ hnext
 by_cases hlt:m<l.length
 ·have hlt':(m:Int)<(l.length:Int):=by omega
  have hm1:=aK hlt (by omega)
  have hgv:=bB hlt;have hle:=MN (l:=l) (m:=m+1) (k:=k);have hB:Bf m++varT k l[m]=Bf (m+1):=by rw[hBf,hBf,Zk k hlt,List.append_assoc]
  have hBl:(Bf (m+1)).length≤140737488355328:=by
   rw[hBf,List.length_append];rw[List.length_append]at hlen;omega
  have hvl:(varT k l[m]).length≤(Bf (m+1)).length:=by rw[←hB,List.length_append];omega
  have hp:=YQ l[m].ty (hf _ (List.getElem_mem hlt)).1 (hg _ (List.getElem_mem hlt)) (by
   have:(txT l[m].ty).length≤(varT k l[m]).length:=by unfold varT lnT;simp only[List.length_append,List.length_cons,List.length_nil];omega
   omega)
  have hline:=QM (Bf m) [118,97,114,32] l[m].name.data.toList [58,32] (txT l[m].ty) [59] (Bf (m+1)) k hB hBl;rw[Sl]at hline;refine wdG tB (A3 hlt' hgv VA) ?_;refine AR.callP hp @bM Ce ?_;refine goG tB TI ?_;refine aA [0,1] hline TI Ce XU ?_;refine goG tB TI ?_;refine wdG tB hm1 ?_;refine ALp.cutP 2 [(0,.pt 0 0),(6,.sl (l.map vaV) .ro),(7,(.im (.int .i64 (l.length)))),(8,(.im (.int .i64 ((((m+1:Nat)):Int)))))] [.box [.nb 0 PQ,.sl (((Bf (m+1))).map byB) (.mine 1),(.im (.int .i64 ((k:Int))))],.tip 5 1 ((Bf (m+1))).length] Ce ?_;exact hnext (m+1) (by omega) (by omega) trivial
 obtain rfl:m=l.length:=by omega
 clear hnext
 refine wG tB @Int.lt_irrefl ?_
 refine fiGen [] (finG tB) ?_ rfl (idG Ce)
 all_goals exact wkG Ce
def toP{α:Type}(p:α→Bool)(l:List α)(m:Nat):Prop:= ∀j (h:j<l.length),j<m→p l[j]=true
theorem toP.zero{α:Type}(p:α→Bool)(l:List α):toP p l 0:=fun j _ h=>absurd h (Nat.not_lt_zero j)
theorem toP.succ{α:Type}{p:α→Bool}{l:List α}{m:Nat}(h:toP p l m)(h1:m<l.length)(hp:p l[m]=true):toP p l (m+1):=fun j j1 hj=>by
 rcases Nat.lt_succ_iff_lt_or_eq.1 hj with hj|rfl
 ·exact h j j1 hj
 ·exact hp
theorem toP.all{α:Type}{p:α→Bool}{l:List α}(h:toP p l l.length):l.all p=true:=by
 rw[List.all_eq_true]
 intro x hx
 obtain⟨j,hj,rfl⟩:=List.getElem_of_mem hx
 exact h j hj hj
theorem Bx{α:Type}{p:α→Bool}{l:List α}{m:Nat}(h:m<l.length)(hp:p l[m]=false):l.all p=false:=by
 rw[←Bool.not_eq_true,List.all_eq_true]
 intro k
 rw[k _ (List.getElem_mem h)]at hp
 cases hp
def Lw(v:Va):Bool:=nameT v.name&&decide (chk v.ty=0)
def Fq(p:Nd×Bool):Bool:= !(p.1.e.any fun x=> !esh x 64)&&stT p.1
def prtB(f:Fun):Bool:=nameT f.name&&(decide (dep f.body≤64)&&(f.vars.all Lw&&(allL f.body false).all Fq))
def cF:=A16 @iR @Ta @kA @jO @hU @dR @gF @Ad @Ia @qN @Hx @jZ @iD @yJ @xC (A12 @mX @pB @rY @mV @gT @Hq @iZ @iQ @hM @dA @gD @jM)
def jC:=A16 aS aG aH aV @aD @aE aZ aC fI dS @aL @aN @bQ @bR @bS @bT
theorem Rx(f:Fun)(hF:fitFn f)(hA: ∀p∈allL f.body false,fitN p.1):PC Tryz.prog 50 [fnV f] (.im (.bool (prtB f))):=by
 have hf:=hF.bd
 have hc:=hF.ct
 have qn:=xX f.name hF.nm
 have qd:=Yq f.body hf hc
 unfold prtB
 rw[jH]
 cases hn:nameT f.name with
 | false =>
  rw[hn]at qn;refine pcEnt 58 Tryz.func50 rfl [(0,.ag [.im (.string f.name),.sl (f.vars.map vaV) .ro,.sl (f.body.map ndV) .ro])] ?_
  refine wG cF TI ?_;refine AWp.scope ?_;refine wG cF TI ?_;refine AR.callP qn TI jC ?_;refine goG cF TI ?_;refine wG cF TI ?_;exact aB
 | true =>
 rw[hn]at qn
 by_cases hd:dep f.body≤64
 case neg =>
  have hd':dep f.body>64:=by omega
  rw[decide_eq_false hd];refine pcEnt 58 Tryz.func50 rfl [(0,.ag [.im (.string f.name),.sl (f.vars.map vaV) .ro,.sl (f.body.map ndV) .ro])] ?_
  refine wG cF TI ?_;refine AWp.scope ?_;refine wG cF TI ?_;refine AR.callP qn TI jC ?_;refine goG cF TI ?_;refine AR.callP qd TI jC ?_;refine goG cF hd' ?_;refine wG cF TI ?_;exact aB
 have hd': ¬dep f.body>64:=by omega
 rw[decide_eq_true hd,Bool.true_and,Bool.true_and]
 have qa:=SV f.body hf hc false
 have hAl:=Hi f.body false
 generalize allL f.body false=L at qa hA hAl ⊢
 refine pcEnt 58 Tryz.func50 rfl [(0,.ag [.im (.string f.name),.sl (f.vars.map vaV) .ro,.sl (f.body.map ndV) .ro])] ?_
 refine wG cF TI ?_
 refine AWp.scope ?_
 refine wG cF TI ?_
 refine AR.callP qn TI jC ?_
 refine goG cF TI ?_
 refine AR.callP qd TI jC ?_
 refine goG cF hd' ?_
 refine wG cF @List.length_map.{0,0} ?_
 refine aP ?_
 refine ALp.cutP 1 [(1,.pt 0 0),(2,(.im (.bool (false)))),(20,.sl (f.vars.map vaV) .ro),(21,(.im (.int .i64 (f.vars.length)))),(22,(.im (.int .i64 ((((0:Nat)):Int)))))] [.box [.im (.string f.name),.sl (f.vars.map vaV) .ro,.sl (f.body.map ndV) .ro]] jC ?_
 refine aW f.vars.length (toP Lw f.vars) (fun m=>⟨dn 58 [(1,.pt 0 0),(2,(.im (.bool (false)))),(20,.sl (f.vars.map vaV) .ro),(21,(.im (.int .i64 (f.vars.length)))),(22,(.im (.int .i64 ((((m:Nat)):Int)))))],ofl [.box [.im (.string f.name),.sl (f.vars.map vaV) .ro,.sl (f.body.map ndV) .ro]]⟩) ?_ 0 (Nat.zero_le _) (toP.zero _ _)
 intro m hm hI hnext
 by_cases hlt:m<f.vars.length
 ·have hlt':(m:Int)<(f.vars.length:Int):=by omega
  have hm1:=aK hlt (by have:=hF.vl;omega)
  have hg:=bB hlt;obtain⟨hty,hnm⟩:=hF.vn _ (List.getElem_mem hlt);have h1:=xX f.vars[m].name hnm;have h4:=Nc f.vars[m].ty hty;cases b1:nameT f.vars[m].name with
  | false =>
   rw[b1]at h1;rw[Bx hlt (show Lw f.vars[m]=false by unfold Lw;rw[b1];rfl),Bool.false_and]
   refine wG cF (A3 hlt' hg VA) ?_;refine AR.callP h1 TI jC ?_;refine goG cF TI ?_;refine wG cF TI ?_;exact aB
  | true =>
   rw[b1]at h1
   by_cases b3:chk f.vars[m].ty=0
   case neg =>
    rw[Bx hlt (show Lw f.vars[m]=false by unfold Lw;rw[b1,decide_eq_false b3];rfl),Bool.false_and]
    refine wG cF (A3 hlt' hg VA) ?_;refine AR.callP h1 TI jC ?_;refine goG cF TY ?_;refine AR.callP h4 @bM jC ?_;refine goG cF b3 ?_;refine wG cF b3 ?_;exact aB
   case pos =>
    rw[b3]at h4;refine wG cF (A3 hlt' hg VA) ?_;refine AR.callP h1 TI jC ?_;refine goG cF TY ?_;refine AR.callP h4 @bM jC ?_;refine goG cF TI ?_;refine wG cF hm1 ?_;refine ALp.cutP 1 [(1,.pt 0 0),(2,(.im (.bool (false)))),(20,.sl (f.vars.map vaV) .ro),(21,(.im (.int .i64 (f.vars.length)))),(22,(.im (.int .i64 ((((m+1:Nat)):Int)))))] [.box [.im (.string f.name),.sl (f.vars.map vaV) .ro,.sl (f.body.map ndV) .ro]] jC ?_;exact hnext (m+1) (by omega) (by omega) (hI.succ hlt (by unfold Lw;rw[b1,decide_eq_true b3];rfl))
 obtain rfl:m=f.vars.length:=by omega
 rw[hI.all,Bool.true_and]
 clear hnext hI
 refine whG cF @Int.lt_irrefl ?_
 refine Blk'.here (Thn.n ?_)
 refine wG cF TI ?_
 refine EB ?_
 refine Thn.n ?_
 refine wG cF TI ?_
 refine AR.callP qa TI jC ?_
 refine goG cF @List.length_map.{0,0} ?_
 refine wG cF TI ?_
 refine aP ?_
 refine ALp.cutP 1 [(1,.pt 0 0),(2,(.im (.bool (false)))),(5,(.im (.bool (true)))),(39,.sl (L.map plV) .ro),(40,(.im (.int .i64 (L.length)))),(41,(.im (.int .i64 ((((0:Nat)):Int)))))] [.box [.im (.string f.name),.sl (f.vars.map vaV) .ro,.sl (f.body.map ndV) .ro]] jC ?_
 refine aW L.length (toP Fq L) (fun m=>⟨dn 58 [(1,.pt 0 0),(2,(.im (.bool (false)))),(5,(.im (.bool (true)))),(39,.sl (L.map plV) .ro),(40,(.im (.int .i64 (L.length)))),(41,(.im (.int .i64 ((((m:Nat)):Int)))))],ofl [.box [.im (.string f.name),.sl (f.vars.map vaV) .ro,.sl (f.body.map ndV) .ro]]⟩) ?_ 0 (Nat.zero_le _) (toP.zero _ _)
 intro m hm hI hnext
 by_cases hlt:m<L.length
 ·have hlt':(m:Int)<(L.length:Int):=by omega
  have hm1:=aK hlt (by omega)
  have hg:=bB hlt;have p1:=hA L[m] (List.getElem_mem hlt);have hst:Fq L[m]=false→L.all Fq=false:=fun h=>Bx hlt h
  have hsu:Fq L[m]=true→toP Fq L (m+1):=fun h=>hI.succ hlt h
  generalize L[m]=p at hg p1 hst hsu;have hfe:=(dU p1).2.2.1;have qe:=oN (gs:=p.1.e) (F:=102) (fun x=> !esh x 64) hfe.1 (fun x hx=>WZ x (hfe.2 x hx))
  have qs:=Cu p.1 p1;cases b1:(p.1.e.any fun x=> !esh x 64)with
  | true =>
   rw[b1]at qe;rw[hst (by unfold Fq;rw[b1];rfl)]
   refine wG cF (A10 hlt' hg uR rP uP uO uQ rQ @List.getElem?_map.{0,0} @Int.natCast_nonneg) ?_;refine AR.callP qe TI jC ?_;refine goG cF TI ?_;refine wG cF TI ?_;exact aB
  | false =>
   rw[b1]at qe;cases b2:stT p.1 with
   | false =>
    rw[b2]at qs;rw[hst (by unfold Fq;rw[b1,b2];rfl)]
    refine wG cF (A10 hlt' hg uR rP uP uO uQ rQ @List.getElem?_map.{0,0} @Int.natCast_nonneg) ?_;refine AR.callP qe TI jC ?_;refine goG cF TI ?_;refine wG cF TI ?_;refine AR.callP qs eF jC ?_;refine goG cF TI ?_;refine wG cF TI ?_;exact aB
   | true =>
    rw[b2]at qs;refine wG cF (A10 hlt' hg uR rP uP uO uQ rQ @List.getElem?_map.{0,0} @Int.natCast_nonneg) ?_;refine AR.callP qe TI jC ?_;refine goG cF TI ?_;refine wG cF TI ?_;refine AR.callP qs eF jC ?_;refine goG cF TI ?_;refine wG cF hm1 ?_;refine ALp.cutP 1 [(1,.pt 0 0),(2,(.im (.bool (false)))),(5,(.im (.bool (true)))),(39,.sl (L.map plV) .ro),(40,(.im (.int .i64 (L.length)))),(41,(.im (.int .i64 ((((m+1:Nat)):Int)))))] [.box [.im (.string f.name),.sl (f.vars.map vaV) .ro,.sl (f.body.map ndV) .ro]] jC ?_;exact hnext (m+1) (by omega) (by omega) (hsu (by unfold Fq;rw[b1,b2];rfl))
 obtain rfl:m=L.length:=by omega
 rw[hI.all]
 clear hnext hI
 refine wG cF @Int.lt_irrefl ?_
 exact aB
theorem SX:PQ%1000000=73∧PQ/1000000=1:=by decide
def oH:=A7 @nQ @tW @Ol @xA @Oi @lG @tL
theorem Nh(f:Fun)(T:Bs)(hT:T≠[])(hp:PC Tryz.prog 50 [fnV f] (.im (.bool (true))))(hfun:DC Tryz.prog 39 [.pt 0 0,fnV f] [.box [.nb 0 PQ,.sl ((([]:Bs)).map byB) (.mine 1),(.im (.int .i64 (((0:Nat):Int))))],.tip 5 1 (([]:Bs)).length] (.tu []) [.box [.nb 0 PQ,.sl ((T).map byB) (.mine 1),(.im (.int .i64 (((0:Nat):Int))))],.tip 5 1 (T).length]) :
  PC Tryz.prog 18 [fnV f] (.im (.string ⟨(T).toArray⟩)):=by
 have hs:=Kr ⟨T.toArray⟩ (.im (.int .i64 (((0:Nat):Int)))) (by rw[dB];intro e;exact hT (List.length_eq_zero_iff.1 e))
 rw[Nj,dB]at hs
 rw[jH]at hp hfun ⊢
 refine pcEnt 16 Tryz.func18 rfl [(0,.ag [.im (.string f.name),.sl (f.vars.map vaV) .ro,.sl (f.body.map ndV) .ro])] ?_
 refine wG oH TI ?_
 refine AR.callP hp TI (A12 aS aG aH aV @aD @aE aZ aC fI dS @aL @aN) ?_
 refine goG oH TI ?_
 repeat (with_reducible first|refine AWp.seq ?_|refine nD ?_|refine Thn.n ?_|refine jE ?_)
 with_reducible apply jP
 case ht=>rfl
 case hc=>rfl
 repeat (with_reducible first|refine AWp.seq ?_|refine nD ?_|refine Thn.n ?_|refine jE ?_)
 refine AWp.region ?_
 refine AR.one rfl (by simp only[↓iG,↓reduceIte,SA,SB,SC,SD,oH,oC,fpsG,evO,evB,evA,nT,oE,eqF,eqC,kB,iA,slB,slK,gd,St.ev,eV,ofl,wrl,putE,V.ofVal,V.ofCell,bin2,un1,seg,iL,dT,Value.oneCell',Nat.reduceBEq,Nat.reduceLT,Nat.reduceSub,Nat.reduceAdd,Nat.reduceMul,Nat.reduceLeDiff,Nat.reduceEqDiff,reduceCtorEq,Int.reduceLT,Int.reduceLE,Int.reduceEq,Int.reduceNe,Int.reduceBEq,Int.reduceBNe,Int.reduceAdd,Int.reduceSub,Int.reduceMul,Int.reduceToNat];with_reducible exact rfl) (by simp only[↓iG,↓reduceIte,SA,SB,SC,SD,oH,oC,fpsG,evO,evB,evA,nT,oE,eqF,eqC,kB,iA,slB,slK,gd,St.ev,eV,ofl,wrl,putE,V.ofVal,V.ofCell,bin2,un1,seg,iL,dT,Value.oneCell',Nat.reduceBEq,Nat.reduceLT,Nat.reduceSub,Nat.reduceAdd,Nat.reduceMul,Nat.reduceLeDiff,Nat.reduceEqDiff,reduceCtorEq,Int.reduceLT,Int.reduceLE,Int.reduceEq,Int.reduceNe,Int.reduceBEq,Int.reduceBNe,Int.reduceAdd,Int.reduceSub,Int.reduceMul,Int.reduceToNat];with_reducible exact rfl) (by simp only[↓iG,↓reduceIte,SA,SB,SC,SD,oH,oC,fpsG,evO,evB,evA,nT,oE,eqF,eqC,kB,iA,slB,slK,gd,St.ev,eV,ofl,wrl,putE,V.ofVal,V.ofCell,bin2,un1,seg,iL,dT,Value.oneCell',Nat.reduceBEq,Nat.reduceLT,Nat.reduceSub,Nat.reduceAdd,Nat.reduceMul,Nat.reduceLeDiff,Nat.reduceEqDiff,reduceCtorEq,Int.reduceLT,Int.reduceLE,Int.reduceEq,Int.reduceNe,Int.reduceBEq,Int.reduceBNe,Int.reduceAdd,Int.reduceSub,Int.reduceMul,Int.reduceToNat];with_reducible exact rfl) ?_
 refine Zi (q:=PQ) SX rfl ?_
 refine goG oH TI ?_
 repeat (with_reducible first|refine AWp.seq ?_|refine nD ?_|refine Thn.n ?_|refine jE ?_)
 refine AWp.ghostB 1 1 [.nb 1 PQ,.sl [] .nl,(.im (.int .i64 (0)))] 5 1 ?_
 simp only[List.set_cons_succ,List.set_cons_zero,List.cons_append,List.nil_append,List.length_cons,List.length_nil,Nat.reduceAdd]
 rw[show(([]:Bs).map byB)=[]from rfl,show([]:Bs).length=0 from rfl,show((0:Nat):Int)=0 from rfl]at hfun
 rw[show((0:Nat):Int)=0 from rfl]at hs
 refine wG oH TI ?_
 refine aA [1,2] hfun TI (A12 aS aG aH aV @aD @aE aZ aC fI dS @aL @aN) (A10 cC bI bK @aQ @aR fC cH eH @bE @bD) ?_
 refine goG oH TI ?_
 refine wG oH TI ?_
 refine aA [1,2] hs TI (A12 aS aG aH aV @aD @aE aZ aC fI dS @aL @aN) (A10 cC bI bK @aQ @aR fC cH eH @bE @bD) ?_
 refine goG oH TI ?_
 refine wG oH TI ?_
 refine fiGenO [.tmp 2] (finG oH) ?_
 all_goals exact wkG (A12 aS aG aH aV @aD @aE aZ aC fI dS @aL @aN)
def bL:=A16 @oB @iR @cO @jO @hU @fB @mJ @lA @oV @gM @jN @iV @iD @lO @lN (A9 @lM @sB @oA @gT @cN @iQ @hM @dK @dA)
theorem WS: ∀t:Nd,fitN t→okT t=true→ ∀(k:Nat) (b:Bs),(k:Int)+2*depT t≤4194304→(b++ndT t k).length≤140737488355328 →
  DC Tryz.prog 153 [.pt 0 0,ndV t] [.box [.nb 0 PQ,.sl ((b).map byB) (.mine 1),(.im (.int .i64 ((k:Int))))],.tip 5 1 (b).length] (.tu []) [.box [.nb 0 PQ,.sl (((b++ndT t k)).map byB) (.mine 1),(.im (.int .i64 ((k:Int))))],.tip 5 1 ((b++ndT t k)).length]:=by
 refine Nd.induct fun o w n e l el cs h1 h2 h3=> ?_
 intro hf hok k b hd hlen
 rw[Ax]at hok
 simp only[Bool.and_eq_true,List.all_eq_true]at hok
 obtain⟨hs,o1,o2,o3⟩:=hok
 obtain⟨_,e2,e3,_⟩:=iI hs
 obtain⟨_,_,⟨_,he⟩,f1,f2,f3,f4⟩:=dU hf
 simp only[Nd.kind,Nd.e,Nd.l,Nd.el,Nd.cs]at e2 e3 he f1 f2 f3 f4
 have hp:=Rh (.mk o w n e l el cs)
 have d1:=vR (t:= .mk o w n e l el cs) (c:=l) (List.mem_cons_self)
 have d2:=vR (t:= .mk o w n e l el cs) (c:=el) (List.mem_cons_of_mem _ List.mem_cons_self)
 have d3:=fun c hc=>vR (t:= .mk o w n e l el cs) (c:=c) (List.mem_cons_of_mem _ (List.mem_cons_of_mem _ hc))
 generalize hD:depT (.mk o w n e l el cs)=D at hd hp d1 d2 d3
 have N1:=fun(B:Bs) (hB:(B++lsT l (k+1)).length≤140737488355328)=>zP l k B f1.1 (by omega) hB fun t ht c hc=>h1 t ht (f1.2 t ht) (o1 t ht) (k+1) c (by have:=wC ht;omega) hc
 have N2:=fun(B:Bs) (hB:(B++lsT el (k+1)).length≤140737488355328)=>zP el k B f2.1 (by omega) hB fun t ht c hc=>h2 t ht (f2.2 t ht) (o2 t ht) (k+1) c (by have:=wC ht;omega) hc
 have N3:=fun(c:List Nd) (hc:c∈cs) (B:Bs) (hB:(B++lsT c (k+1+1)).length≤140737488355328)=>zP c (k+1) B (f4 c hc).1 (by have:=d3 c hc;have:=sU c;omega) hB fun t ht q hq=>h3 c hc t ht ((f4 c hc).2 t ht) (o3 c hc t ht) (k+1+1) q (by have:=wC ht;have:=d3 c hc;omega) hq
 clear h1 h2 h3 hD
 by_cases k6:o=6
 ·subst k6
  obtain⟨a,rfl⟩:=yZ e2;rw[nd6]at hlen ⊢;have qa:=fun h=>xV a (he a (by simp)) (e3 a (by simp)) h
  obtain⟨B1,hB1⟩: ∃B1,b++lnT k ([105,102,32]++(txE a++[32,123]))=B1:=⟨_,rfl⟩
  obtain⟨B2,hB2⟩: ∃B2,B1++lsT l (k+1)=B2:=⟨_,rfl⟩
  have hta:(txE a).length≤B1.length:=by rw[←hB1];unfold lnT;simp only[List.length_append];omega
  have l12:B1.length≤B2.length:=by rw[←hB2,List.length_append];omega
  by_cases hel:el.length=0
  ·obtain⟨B5,hB5⟩: ∃B5,B2++lnT k [125]=B5:=⟨_,rfl⟩
   have hR:b++(lnT k ([105,102,32]++(txE a++[32,123]))++(lsT l (k+1)++((if el.length=0 then []else lnT k [125,32,101,108,115,101,32,123]++lsT el (k+1))++lnT k [125])))=B5:=by
    rw[if_pos hel,←hB5,←hB2,←hB1];simp only[List.append_assoc,List.nil_append]
   rw[hR]at hlen ⊢;have l25:B2.length≤B5.length:=by rw[←hB5,List.length_append];omega
   have q1:=wV b [105,102,32] (txE a) [32,123] B1 k hB1 (by omega)
   have q2:=N1 B1 (by rw[hB2];omega)
   rw[hB2]at q2;have q5:=nI B2 [125] B5 k hB5 hlen;have qt:=qa (by omega)
   have hel': ¬(el.length:Int)>0:=by omega
   clear hR hB1 hB2 hB5 N1 N2 N3;refine dcEnt 112 Tryz.func153 rfl [(0,.pt 0 0),(1,ndV (.mk 6 w n [a] l el cs))] ?_
   simp only[eW];refine wG bL (AI ND EX) ?_;refine AR.callP qt @bH (A8 aS aG aH aV @aD @aE aZ aC) ?_;refine goG bL TI ?_;refine aA [0,1] q1 TI (A8 aS aG aH aV @aD @aE aZ aC) (A8 cC bI bK @aQ @aR fC cH eH) ?_;refine goG bL TI ?_;refine wG bL (AI ND EX) ?_;refine aA [0,1] q2 TI (A8 aS aG aH aV @aD @aE aZ aC) (A8 cC bI bK @aQ @aR fC cH eH) ?_;refine goG bL TI ?_;refine wG bL (A4 ND EX @List.length_map.{0,0} hel') ?_;refine aA [0,1] q5 TI (A8 aS aG aH aV @aD @aE aZ aC) (A8 cC bI bK @aQ @aR fC cH eH) ?_;refine goG bL TI ?_;refine wG bL TI ?_;refine fiGen [] (finG bL) ?_ rfl (idG (A8 aS aG aH aV @aD @aE aZ aC))
   all_goals exact wkG (A8 aS aG aH aV @aD @aE aZ aC)
  ·obtain⟨B3,hB3⟩: ∃B3,B2++lnT k [125,32,101,108,115,101,32,123]=B3:=⟨_,rfl⟩
   obtain⟨B4,hB4⟩: ∃B4,B3++lsT el (k+1)=B4:=⟨_,rfl⟩
   obtain⟨B5,hB5⟩: ∃B5,B4++lnT k [125]=B5:=⟨_,rfl⟩
   have hR:b++(lnT k ([105,102,32]++(txE a++[32,123]))++(lsT l (k+1)++((if el.length=0 then []else lnT k [125,32,101,108,115,101,32,123]++lsT el (k+1))++lnT k [125])))=B5:=by
    rw[if_neg hel,←hB5,←hB4,←hB3,←hB2,←hB1];simp only[List.append_assoc]
   rw[hR]at hlen ⊢;have l23:B2.length≤B3.length:=by rw[←hB3,List.length_append];omega
   have l34:B3.length≤B4.length:=by rw[←hB4,List.length_append];omega
   have l45:B4.length≤B5.length:=by rw[←hB5,List.length_append];omega
   have q1:=wV b [105,102,32] (txE a) [32,123] B1 k hB1 (by omega)
   have q2:=N1 B1 (by rw[hB2];omega)
   rw[hB2]at q2;have q3:=nI B2 [125,32,101,108,115,101,32,123] B3 k hB3 (by omega)
   have q4:=N2 B3 (by rw[hB4];omega)
   rw[hB4]at q4;have q5:=nI B4 [125] B5 k hB5 hlen;have qt:=qa (by omega)
   have hel':(el.length:Int)>0:=by omega
   clear hR hB1 hB2 hB3 hB4 hB5 N1 N2 N3;refine dcEnt 112 Tryz.func153 rfl [(0,.pt 0 0),(1,ndV (.mk 6 w n [a] l el cs))] ?_
   simp only[eW];refine wG bL (AI ND EX) ?_;refine AR.callP qt @bH (A8 aS aG aH aV @aD @aE aZ aC) ?_;refine goG bL TI ?_;refine aA [0,1] q1 TI (A8 aS aG aH aV @aD @aE aZ aC) (A8 cC bI bK @aQ @aR fC cH eH) ?_;refine goG bL TI ?_;refine wG bL (AI ND EX) ?_;refine aA [0,1] q2 TI (A8 aS aG aH aV @aD @aE aZ aC) (A8 cC bI bK @aQ @aR fC cH eH) ?_;refine goG bL TI ?_;refine wG bL (A4 ND EX @List.length_map.{0,0} hel') ?_;refine aA [0,1] q3 TI (A8 aS aG aH aV @aD @aE aZ aC) (A8 cC bI bK @aQ @aR fC cH eH) ?_;refine goG bL TI ?_;refine wG bL (AI ND EX) ?_;refine aA [0,1] q4 TI (A8 aS aG aH aV @aD @aE aZ aC) (A8 cC bI bK @aQ @aR fC cH eH) ?_;refine goG bL TI ?_;refine wG bL TI ?_;refine aA [0,1] q5 TI (A8 aS aG aH aV @aD @aE aZ aC) (A8 cC bI bK @aQ @aR fC cH eH) ?_;refine goG bL TI ?_;refine wG bL TI ?_;refine fiGen [] (finG bL) ?_ rfl (idG (A8 aS aG aH aV @aD @aE aZ aC))
   all_goals exact wkG (A8 aS aG aH aV @aD @aE aZ aC)
 by_cases k7:o=7
 ·subst k7
  obtain⟨a,rfl⟩:=yZ e2;rw[nd7]at hlen ⊢;obtain⟨B1,hB1⟩: ∃B1,b++lnT k ([119,104,105,108,101,32]++(txE a++[32,123]))=B1:=⟨_,rfl⟩
  obtain⟨B2,hB2⟩: ∃B2,B1++lsT l (k+1)=B2:=⟨_,rfl⟩
  have hta:(txE a).length≤B1.length:=by rw[←hB1];unfold lnT;simp only[List.length_append];omega
  have l12:B1.length≤B2.length:=by rw[←hB2,List.length_append];omega
  obtain⟨B5,hB5⟩: ∃B5,B2++lnT k [125]=B5:=⟨_,rfl⟩
  have hR:b++(lnT k ([119,104,105,108,101,32]++(txE a++[32,123]))++(lsT l (k+1)++lnT k [125]))=B5:=by
   rw[←hB5,←hB2,←hB1];simp only[List.append_assoc]
  rw[hR]at hlen ⊢;have l25:B2.length≤B5.length:=by rw[←hB5,List.length_append];omega
  have q1:=wV b [119,104,105,108,101,32] (txE a) [32,123] B1 k hB1 (by omega)
  have q2:=N1 B1 (by rw[hB2];omega)
  rw[hB2]at q2;have q5:=nI B2 [125] B5 k hB5 hlen;have qt:=xV a (he a (by simp)) (e3 a (by simp)) (by omega)
  clear hR hB1 hB2 hB5 N1 N2 N3;refine dcEnt 112 Tryz.func153 rfl [(0,.pt 0 0),(1,ndV (.mk 7 w n [a] l el cs))] ?_
  simp only[eW];refine wG bL (AI ND EX) ?_;refine AR.callP qt @bH (A8 aS aG aH aV @aD @aE aZ aC) ?_;refine goG bL TI ?_;refine aA [0,1] q1 TI (A8 aS aG aH aV @aD @aE aZ aC) (A8 cC bI bK @aQ @aR fC cH eH) ?_;refine goG bL TI ?_;refine wG bL (AI ND EX) ?_;refine aA [0,1] q2 TI (A8 aS aG aH aV @aD @aE aZ aC) (A8 cC bI bK @aQ @aR fC cH eH) ?_;refine goG bL TI ?_;refine wG bL TI ?_;refine aA [0,1] q5 TI (A8 aS aG aH aV @aD @aE aZ aC) (A8 cC bI bK @aQ @aR fC cH eH) ?_;refine goG bL TI ?_;refine wG bL TI ?_;refine fiGen [] (finG bL) ?_ rfl (idG (A8 aS aG aH aV @aD @aE aZ aC))
  all_goals exact wkG (A8 aS aG aH aV @aD @aE aZ aC)
 by_cases k8:o=8
 ·subst k8
  rw[nd8]at hlen ⊢;obtain⟨B1,hB1⟩: ∃B1,b++lnT k [108,111,111,112,32,123]=B1:=⟨_,rfl⟩
  obtain⟨B2,hB2⟩: ∃B2,B1++lsT l (k+1)=B2:=⟨_,rfl⟩
  have l12:B1.length≤B2.length:=by rw[←hB2,List.length_append];omega
  obtain⟨B5,hB5⟩: ∃B5,B2++lnT k [125]=B5:=⟨_,rfl⟩
  have hR:b++(lnT k [108,111,111,112,32,123]++(lsT l (k+1)++lnT k [125]))=B5:=by
   rw[←hB5,←hB2,←hB1];simp only[List.append_assoc]
  rw[hR]at hlen ⊢;have l25:B2.length≤B5.length:=by rw[←hB5,List.length_append];omega
  have q1:=nI b [108,111,111,112,32,123] B1 k hB1 (by omega)
  have q2:=N1 B1 (by rw[hB2];omega)
  rw[hB2]at q2;have q5:=nI B2 [125] B5 k hB5 hlen;clear hR hB1 hB2 hB5 N1 N2 N3;refine dcEnt 112 Tryz.func153 rfl [(0,.pt 0 0),(1,ndV (.mk 8 w n e l el cs))] ?_
  simp only[eW];refine wG bL (AI ND EX) ?_;refine aA [0,1] q1 TI (A8 aS aG aH aV @aD @aE aZ aC) (A8 cC bI bK @aQ @aR fC cH eH) ?_;refine goG bL TI ?_;refine wG bL (AI ND EX) ?_;refine aA [0,1] q2 TI (A8 aS aG aH aV @aD @aE aZ aC) (A8 cC bI bK @aQ @aR fC cH eH) ?_;refine goG bL TI ?_;refine wG bL TI ?_;refine aA [0,1] q5 TI (A8 aS aG aH aV @aD @aE aZ aC) (A8 cC bI bK @aQ @aR fC cH eH) ?_;refine goG bL TI ?_;refine wG bL TI ?_;refine fiGen [] (finG bL) ?_ rfl (idG (A8 aS aG aH aV @aD @aE aZ aC))
  all_goals exact wkG (A8 aS aG aH aV @aD @aE aZ aC)
 by_cases k9:o=9
 ·subst k9
  obtain⟨a,rfl⟩:=yZ e2;rw[nd9]at hlen ⊢;have hw1:IntKind.i64.wrap ((k:Int)+1)=((k+1:Nat):Int):=by rw[cU (by omega)];omega
  have hw2:IntKind.i64.wrap (((k+1:Nat):Int)-1)=(k:Int):=by rw[cU (by omega)];omega
  obtain⟨B1,hB1⟩: ∃B1,b++lnT k ([115,119,105,116,99,104,32]++(txE a++[32,123]))=B1:=⟨_,rfl⟩
  obtain⟨Cf,hCf⟩: ∃Cf:Nat→Bs,∀m,Cf m=B1++((cs.zipIdx.take m).map (caS k)).flatten:=⟨_,fun _=>rfl⟩
  have hC0:Cf 0=B1:=by rw[hCf];simp
  have hCE:Cf cs.length=B1++(cs.zipIdx.map (caS k)).flatten:=by rw[hCf,List.take_of_length_le (by simp)]
  obtain⟨B5,hB5⟩: ∃B5,Cf cs.length++lnT k [125]=B5:=⟨_,rfl⟩
  have hR:b++(lnT k ([115,119,105,116,99,104,32]++(txE a++[32,123]))++((cs.zipIdx.map (caS k)).flatten++lnT k [125]))=B5:=by
   rw[←hB5,hCE,←hB1];simp only[List.append_assoc]
  rw[hR]at hlen ⊢
  have hCs: ∀m (h:m<cs.length),Cf (m+1)=Cf m++caS k (cs[m],m):=fun m h=>by
   have hz:m<cs.zipIdx.length:=by simpa using h
   rw[hCf,hCf,List.take_succ_eq_append_getElem hz,List.map_append,List.flatten_append,List.append_assoc];simp
  have hCl: ∀m,(Cf m).length≤(Cf cs.length).length:=fun m=>by
   rw[hCE,hCf,List.length_append,List.length_append]
   have:(cs.zipIdx.map (caS k)).flatten=((cs.zipIdx.take m).map (caS k)).flatten++((cs.zipIdx.drop m).map (caS k)).flatten:=by
    rw[←List.flatten_append,←List.map_append,List.take_append_drop]
   rw[this,List.length_append];omega
  have lCE:(Cf cs.length).length≤B5.length:=by rw[←hB5,List.length_append];omega
  have l1C:B1.length≤(Cf cs.length).length:=by rw[←hC0];exact hCl 0
  have hta:(txE a).length≤B1.length:=by rw[←hB1];unfold lnT;simp only[List.length_append];omega
  have q1:=wV b [115,119,105,116,99,104,32] (txE a) [32,123] B1 k hB1 (by omega)
  have q5:=nI (Cf cs.length) [125] B5 k hB5 hlen;have qt:=xV a (he a (by simp)) (e3 a (by simp)) (by omega)
  have hcl:cs.length≤4194304:=(dU hf).2.2.2.2.2.1;clear hR hB1 hB5 N1 N2 hCE hCf;rw[←hC0]at q1;clear hC0;refine dcEnt 112 Tryz.func153 rfl [(0,.pt 0 0),(1,ndV (.mk 9 w n [a] l el cs))] ?_
  simp only[eW];refine wG bL (AI ND EX) ?_;refine AR.callP qt @bH (A8 aS aG aH aV @aD @aE aZ aC) ?_;refine goG bL TI ?_;refine aA [0,1] q1 TI (A8 aS aG aH aV @aD @aE aZ aC) (A8 cC bI bK @aQ @aR fC cH eH) ?_;refine goG bL TI ?_;refine wG bL (A4 hw1 ND EX @List.length_map.{0,0}) ?_;refine aP ?_;refine ALp.cutP 3 [(0,.pt 0 0),(3,.pt 2 0),(83,.sl (cs.map nlV) .ro),(84,(.im (.int .i64 (cs.length)))),(85,(.im (.int .i64 ((((0:Nat)):Int)))))] [.box [.nb 0 PQ,.sl (((Cf 0)).map byB) (.mine 1),(.im (.int .i64 (((k+1:Nat):Int))))],.tip 5 1 ((Cf 0)).length,.box [(.im (.int .i64 (9))),.im (.int .i64 w),.im (.string n),.sl [exV a] .ro,.sl (l.map ndV) .ro,.sl (el.map ndV) .ro,.sl (cs.map nlV) .ro]] (A8 aS aG aH aV @aD @aE aZ aC) ?_;refine aW cs.length (fun _=>True) (fun m=>⟨dn 112 [(0,.pt 0 0),(3,.pt 2 0),(83,.sl (cs.map nlV) .ro),(84,(.im (.int .i64 (cs.length)))),(85,(.im (.int .i64 ((((m:Nat)):Int)))))],ofl [.box [.nb 0 PQ,.sl (((Cf m)).map byB) (.mine 1),(.im (.int .i64 (((k+1:Nat):Int))))],.tip 5 1 ((Cf m)).length,.box [(.im (.int .i64 (9))),.im (.int .i64 w),.im (.string n),.sl [exV a] .ro,.sl (l.map ndV) .ro,.sl (el.map ndV) .ro,.sl (cs.map nlV) .ro]]⟩) ?_ 0 (Nat.zero_le _) trivial
  intro m hm _ hnext
  by_cases hlt:m<cs.length
  ·have hlt':(m:Int)<(cs.length:Int):=by omega
   have hm1:=aK hlt (by omega)
   have hg:=bB hlt;have hst:=hCs m hlt;have hle:=hCl (m+1);have hmem:=List.getElem_mem hlt;have qi:=vC (m:Int) (by omega) (by omega)
   generalize cs[m]=c at hg hst hmem;obtain⟨D1,hD1⟩: ∃D1,Cf m++lnT (k+1) ([99,97,115,101,32]++(Lib.itoa (m:Int)++[32,123]))=D1:=⟨_,rfl⟩
   obtain⟨D2,hD2⟩: ∃D2,D1++lsT c (k+1+1)=D2:=⟨_,rfl⟩
   have hD3:D2++lnT (k+1) [125]=Cf (m+1):=by rw[hst,←hD2,←hD1];unfold caS;simp only[List.append_assoc]
   have m1:D2.length≤(Cf (m+1)).length:=by rw[←hD3,List.length_append];omega
   have m2:D1.length≤D2.length:=by rw[←hD2,List.length_append];omega
   have r1:=wV (Cf m) [99,97,115,101,32] (Lib.itoa (m:Int)) [32,123] D1 (k+1) hD1 (by omega)
   have r2:=N3 c hmem D1 (by rw[hD2];omega)
   rw[hD2]at r2;have r3:=nI D2 [125] (Cf (m+1)) (k+1) hD3 (by omega)
   clear hD1 hD2 hD3 hst hCs hCl N3;refine wG bL (A3 hlt' hg ND) ?_;refine AR.callP qi TI (A8 aS aG aH aV @aD @aE aZ aC) ?_;refine goG bL TI ?_;refine aA [0,1] r1 TI (A8 aS aG aH aV @aD @aE aZ aC) (A8 cC bI bK @aQ @aR fC cH eH) ?_;refine goG bL TI ?_;refine wG bL ND ?_;refine aA [0,1] r2 Ma (A8 aS aG aH aV @aD @aE aZ aC) (A8 cC bI bK @aQ @aR fC cH eH) ?_;refine goG bL TI ?_;refine wG bL TI ?_;refine aA [0,1] r3 TI (A8 aS aG aH aV @aD @aE aZ aC) (A8 cC bI bK @aQ @aR fC cH eH) ?_;refine goG bL TI ?_;refine wG bL hm1 ?_;refine ALp.cutP 3 [(0,.pt 0 0),(3,.pt 2 0),(83,.sl (cs.map nlV) .ro),(84,(.im (.int .i64 (cs.length)))),(85,(.im (.int .i64 ((((m+1:Nat)):Int)))))] [.box [.nb 0 PQ,.sl (((Cf (m+1))).map byB) (.mine 1),(.im (.int .i64 (((k+1:Nat):Int))))],.tip 5 1 ((Cf (m+1))).length,.box [(.im (.int .i64 (9))),.im (.int .i64 w),.im (.string n),.sl [exV a] .ro,.sl (l.map ndV) .ro,.sl (el.map ndV) .ro,.sl (cs.map nlV) .ro]] (A8 aS aG aH aV @aD @aE aZ aC) ?_;exact hnext (m+1) (by omega) (by omega) trivial
  obtain rfl:m=cs.length:=by omega
  clear hnext hCs hCl N3;refine wG bL (AI @Int.lt_irrefl hw2) ?_;refine aA [0,1] q5 TI (A8 aS aG aH aV @aD @aE aZ aC) (A8 cC bI bK @aQ @aR fC cH eH) ?_;refine goG bL TI ?_;refine wG bL TI ?_;refine fiGen [] (finG bL) ?_ rfl (idG (A8 aS aG aH aV @aD @aE aZ aC))
  all_goals exact wkG (A8 aS aG aH aV @aD @aE aZ aC)
 exact QF (.mk o w n e l el cs) k b hf hs k6 k7 k8 k9 hlen
theorem HE{α:Type}{ts:List Tk}{z x:α}{r:Nat→Option (Rs α)}{f0 F b o:Nat}(hm: ∀f,Le (r f) (r (f+1)))(hs:Sm (r f0))(h2: ∀g,F≤g→allM ts (r g)=some (.ok x b o)):rdX ts z (r f0)=(x,0,0):=by
 obtain⟨y,hy⟩:=Sm.all (ts:=ts) hs
 have hy2:=OT (r:=fun f=>allM ts (r f)) (fun f=>Le.rb (hm f) fun _ _ _=>Le.refl _) hy h2
 unfold rdX
 rw[hy,hy2]
theorem Xe{s:Bs}{ts0:List Tk}(hsz:s.length≤65536)(h:Sc s ts0):(scnR s).2=0∧(scnR s).1.map core=ts0.map core:=by
 obtain⟨h1,h2⟩:=Sc.scan h
 unfold scnR
 rw[if_neg (by omega),Jl]
 exact⟨by show(if(scan s).2 then(0:Int)else 3)=0;rw[h1];rfl,h2⟩
theorem RW(g:Nd→Bool): ∀(t:Nd) (lp:Bool),(∀q∈allT t lp,g q.1=true)→Nd.para (fun t a b c=>g t&&(a.all id&&(b.all id&&c.all fun r=>r.all id))) t=true:=by
 refine Nd.induct fun k w n e l el cs h1 h2 h3=> ?_
 intro lp h
 rw[Nd.para_mk]
 simp only[List.all_map,Function.comp_def,id_eq,Bool.and_eq_true,List.all_eq_true]
 rw[Dw]at h
 have hs: ∀c∈subs (.mk k w n e l el cs),∀x∈c,∀q∈allT x (inL (.mk k w n e l el cs) lp),g q.1=true:=fun c hc x hx q hq =>
  h q (List.mem_cons_of_mem _ (List.mem_flatMap.2 ⟨c,hc,List.mem_flatMap.2 ⟨x,hx,hq⟩⟩))
 refine⟨h (_,lp) (List.mem_cons_self ..),fun x hx=>h1 x hx _ (hs l (by simp[subs,Nd.l]) x hx),fun x hx=>h2 x hx _ (hs el (by simp[subs,Nd.el]) x hx),fun c hc x hx=>h3 c hc x hx _ (hs c (by simp[subs,Nd.cs,hc]) x hx)⟩
theorem UW{t:Nd}{lp:Bool}(h: ∀q∈allT t lp,stT q.1=true):okT t=true:=RW stT t lp h
theorem VX{t:Nd}{lp:Bool}(p:Ex→Bool)(h: ∀q∈allT t lp,q.1.e.all p=true):exA p t=true:=RW (fun t=>t.e.all p) t lp h
theorem Ur{f:Fun}(h:FunOk f)(hl:(funT f).length≤65536): ∃g,fnV g=fnV f∧funP (funT f)=(g,0):=by
 have hsc:=GM h Sc.nil
 rw[List.append_nil,List.append_nil]at hsc
 obtain⟨h0,h1⟩:=Xe hl hsc
 obtain⟨g,hg,F,hF⟩:=YN h rfl
 refine⟨g,SM hg,?_⟩
 have e:fnR (scnR (funT f)).1=(g,0,0):=HE (r:=fun f=>funM (scnR (funT _)).1 f 0 0) (Jz _ · _ _) (Bk _ (by unfold fu;omega)) (fun f hf=>by rw[JS h1,JQ h1];exact hF f hf)
 unfold funP
 rw[if_neg (by rw[h0];decide),e,if_neg (show ¬((0:Int)≠0) by decide)]
theorem Zq{u:Un}(h:UnOk u)(hl:(uniT u).length≤65536): ∃v,unQ v=unQ u∧Aj (uniT u)=(if unE v≠0 then uz0 else v,unE v):=by
 have hsc:=TT h Sc.nil
 rw[List.append_nil,List.append_nil]at hsc
 obtain⟨h0,h1⟩:=Xe hl hsc
 obtain⟨g,hg,F,hF⟩:=UJ h rfl
 refine⟨g,hg,?_⟩
 have e:unR (scnR (uniT u)).1=(g,0,0):=HE (r:=fun f=>uniM (scnR (uniT _)).1 f uz0 0 0) (Zr _ · _ _ _) (Iy _ _ _ _ _ (by unfold fu;omega)) (fun f hf=>by rw[JS h1,WJ h1];exact hF f hf)
 unfold Aj
 rw[if_neg (by rw[h0];decide),e,if_neg (show ¬((0:Int)≠0) by decide)]
 by_cases hu:unE g=0
 ·rw[if_neg (by simp[hu]),if_neg (by simp[hu]),hu]
 ·rw[if_pos hu,if_pos hu]
def prF(f:Fun):Bs:=if prtB f=true then funT f else []
theorem Fr{f:Fun}(h:prtB f=true):nameT f.name=true∧dep f.body≤64∧(∀v∈f.vars,nameT v.name=true∧chk v.ty=0)∧ ∀q∈allL f.body false,(∀x∈q.1.e,esh x 64=true)∧stT q.1=true:=by
 unfold prtB at h
 simp only[Bool.and_eq_true,decide_eq_true_eq,List.all_eq_true]at h
 obtain⟨h1,h2,h3,h4⟩:=h
 refine⟨h1,h2,fun v hv=> ?_,fun q hq=> ?_⟩
 ·have:=h3 v hv
  unfold Lw at this;simpa using this
 ·have:=h4 q hq
  unfold Fq at this;simp only[Bool.and_eq_true,Bool.not_eq_true',List.any_eq_false]at this;refine⟨fun x hx=> ?_,this.2⟩
  have:=this.1 x hx;simpa using this
theorem zH{t:Ty}(h:chk t=0):good t=true:=by unfold good;rw[h];rfl
theorem Yv{f:Fun}(h:prtB f=true): ∀t∈f.body,okT t=true:=fun t ht =>
 UW (lp:=false) fun q hq=>((Fr h).2.2.2 q (List.mem_flatMap.2 ⟨t,ht,hq⟩)).2
theorem ST(f:Fun)(hF:fitFn f)(hp:prtB f=true)(b:Bs)(hl:(b++funT f).length≤140737488355328):DC Tryz.prog 39 [.pt 0 0,fnV f] [.box [.nb 0 PQ,.sl (b.map byB) (.mine 1),(.im (.int .i64 (((0:Nat):Int))))],.tip 5 1 b.length] (.tu []) [.box [.nb 0 PQ,.sl ((b++funT f).map byB) (.mine 1),(.im (.int .i64 (((0:Nat):Int))))],.tip 5 1 (b++funT f).length]:=by
 obtain⟨h1,h2,h3,h4⟩:=Fr hp
 have hbo:=Yv hp
 have hlen:=hl
 unfold funT at hlen ⊢
 simp only[List.length_append]at hlen
 have hv:=Yk f.vars 1 (b++lnT 0 ([102,117,110,99,32]++(f.name.data.toList++[32,123]))) (Nat.le_trans hF.vl (by decide)) hF.vn (fun v hv=>zH (h3 v hv).2) (by simp only[List.length_append];omega)
 have hn:=zP f.body 0 (b++lnT 0 ([102,117,110,99,32]++(f.name.data.toList++[32,123]))++vasT 1 f.vars) hF.bd.1 (by decide) (by simp only[List.length_append,Nat.zero_add];omega) (fun t ht c hc=>WS t (hF.bd.2 t ht) (hbo t ht) 1 c (by have:=wC ht;omega) hc)
 have:=Vk f 0 (by decide) b _ _ _ (b++(lnT 0 ([102,117,110,99,32]++(f.name.data.toList++[32,123]))++(vasT 1 f.vars++(lsT f.body 1++lnT 0 [125])))) rfl (by simp only[List.length_append];omega) hv hn (by simp only[List.append_assoc]) (by simp only[List.length_append];omega)
 exact this
def Nv:=A7 @nQ @tW @Ol @xA @Oi @lG @tL
def XY:=A12 aS aG aH aV @aD @aE aZ aC fI dS @aL @aN
theorem LG(f:Fun)(hF:fitFn f)(hl:prtB f=true→(funT f).length≤140737488355328):PC Tryz.prog 18 [fnV f] (.im (.string ⟨(prF f).toArray⟩)):=by
 have hp:=Rx f hF (Nm f.body hF.bd false)
 unfold prF
 cases h:prtB f with
 | true =>
  rw[h]at hp;rw[if_pos rfl];have hf:=ST f hF h [] (by simpa using hl h)
  rw[List.nil_append]at hf;exact Nh f (funT f) (by unfold funT lnT;simp) hp hf
 | false =>
  rw[h]at hp;rw[if_neg (by decide)]
  rw[jH]at hp ⊢;refine pcEnt 16 Tryz.func18 rfl [(0,.ag [.im (.string f.name),.sl (f.vars.map vaV) .ro,.sl (f.body.map ndV) .ro])] ?_
  refine wG Nv TI ?_;refine AR.callP hp TI XY ?_;refine goG Nv TI ?_;refine wG Nv TI ?_;exact aB
def lE:=A7 @hU @fB @kR @gM @lU @hM @dK
def jD:=A4 aX bC @aE @aD
theorem KM: ∀(e:Ex),fitE e→ ∀k:Int, -65536≤k→k≤65536→PC Tryz.prog 60 [exV e,(.im (.int .i64 (k)))] (.im (.bool (esh e k))):=by
 intro e
 induction e using Ex.induct with
 | h o n s w l ih =>
 intro hf k hk1 hk2
 obtain⟨hl,hfl⟩:=pZ hf
 have hw:=cU (n:=k-1) (by omega)
 by_cases h1:k<1
 ·have:esh (.mk o n s w l) k=false:=by rw[Bq];simp;intro h;omega
  rw[this];refine pcEnt 22 Tryz.func60 rfl [(0,exV (.mk o n s w l)),(1,(.im (.int .i64 (k))))] ?_
  rw[gV];refine wG lE h1 ?_;refine fiGenO [.tmp 4] (finG lE) ?_
  all_goals exact wkG jD
 refine pcEnt 22 Tryz.func60 rfl [(0,exV (.mk o n s w l)),(1,(.im (.int .i64 (k))))] ?_
 refine wG lE (AI h1 @gV) ?_
 refine aP ?_
 refine ALp.cutP 0 [(1,(.im (.int .i64 (k)))),(4,(.im (.bool (false)))),(10,.sl (l.map exV) .ro),(11,(.im (.int .i64 (l.length)))),(12,(.im (.int .i64 ((((0:Nat)):Int)))))] [] jD ?_
 refine aW l.length (AllTo (fun t=>esh t (k-1)) l) (fun m=>⟨dn 22 [(1,(.im (.int .i64 (k)))),(4,(.im (.bool (false)))),(10,.sl (l.map exV) .ro),(11,(.im (.int .i64 (l.length)))),(12,(.im (.int .i64 ((((m:Nat)):Int)))))],ofl []⟩) ?_ 0 (Nat.zero_le _) (AllTo.zero _ _)
 intro m hm hI hnext
 by_cases hlt:m<l.length
 ·have hlt':(m:Int)<(l.length:Int):=by omega
  have hm1:=aK hlt (by omega)
  have hg:=bB hlt;have hc:=ih l[m] (List.getElem_mem hlt) (hfl _ (List.getElem_mem hlt)) (k-1) (by omega) (by omega)
  cases b:esh l[m] (k-1)with
  | false =>
   rw[b]at hc;have hr:esh (.mk o n s w l) k=false:=by rw[Bq,pF hlt b,Bool.and_false]
   rw[hr];refine wG lE (A11 hlt' hg @gA @eO @fY @fX @fZ @eP @List.getElem?_map.{0,0} @Int.natCast_nonneg hw) ?_;refine AR.callP hc @bH jD ?_;refine goG lE TI ?_;refine wG lE TI ?_;refine fiGenO [.tmp 4] (finG lE) ?_
   all_goals exact wkG jD
  | true =>
   rw[b]at hc;refine wG lE (A11 hlt' hg @gA @eO @fY @fX @fZ @eP @List.getElem?_map.{0,0} @Int.natCast_nonneg hw) ?_;refine AR.callP hc @bH jD ?_;refine goG lE TI ?_;refine wG lE hm1 ?_;refine ALp.cutP 0 [(1,(.im (.int .i64 (k)))),(4,(.im (.bool (false)))),(10,.sl (l.map exV) .ro),(11,(.im (.int .i64 (l.length)))),(12,(.im (.int .i64 ((((m+1:Nat)):Int)))))] [] jD ?_;exact hnext (m+1) (by omega) (by omega) (hI.succ hlt b)
 obtain rfl:m=l.length:=by omega
 clear hnext
 have hall:l.all (fun t=>esh t (k-1))=true:=List.all_eq_true.2 fun x hx=>by
  obtain⟨j,hj,rfl⟩:=List.getElem_of_mem hx;exact hI j hj hj
 have hr:esh (.mk o n s w l) k=true:=by rw[Bq,hall,Bool.and_true];exact decide_eq_true (by omega)
 rw[hr]
 have hn: ¬(l.length:Int)<(l.length:Int):=by omega
 refine wG lE hn ?_
 refine fiGenO [.tmp 4] (finG lE) ?_
 all_goals exact wkG jD
theorem t3:(3:Int)≠0:=by decide
theorem PT{e:Int}(h:e=3∨e=20):e≠0:=by omega
def eL:=A9 @Ae @fB @kR @nO @sC @zZ @zY @dK @oS
theorem Vv(s:Bs)(hs:s.length≤4194304):PC Tryz.prog 22 [.im (.string ⟨(s).toArray⟩)] (.tu [exV (BZ s).1,(.im (.int .i64 ((BZ s).2)))]):=by
 have h1:=Ng s hs
 obtain⟨hok,hts,hes⟩:=Dm s
 unfold BZ
 generalize scnR s=q at h1 hok hts hes
 obtain⟨ts,e⟩:=q
 simp only at h1 hok hts hes ⊢
 by_cases he:e=0
 case neg =>
  rw[if_pos he];refine pcEnt 33 Tryz.func22 rfl [(0,.im (.string ⟨(s).toArray⟩))] ?_
  refine wG eL TI ?_;refine AR.callP h1 TI jD ?_;refine goG eL TI ?_;refine wG eL he ?_;refine fiGenO [.cell 2 46,.tmp 3] (finG eL) ?_
  all_goals exact wkG jD
 subst he
 rw[if_neg (by decide)]
 rcases CA ts with ⟨b,e,hz,hx,he,hb⟩|⟨x,b,p,hz,hx,hr⟩
 ·have h2:=Ko (by omega) _ _ hz
  change PC _ _ _ (.tu [exV (.mk 0 0 ByteArray.empty 0 []),.ag [(.im (.int .i64 ((b:Nat)))),(.im (.int .i64 (e)))]])at h2;have he: ¬e=0:=PT he;rw[hx,if_pos he];refine pcEnt 33 Tryz.func22 rfl [(0,.im (.string ⟨(s).toArray⟩))] ?_
  refine wG eL TI ?_;refine AR.callP h1 TI jD ?_;refine goG eL TI ?_;refine wG eL TI ?_;refine AR.callP h2 TI jD ?_;refine goG eL BN01 ?_;refine wdG eL he ?_;refine fiGenO [.cell 2 46,.tmp 3] (finG eL) ?_
  all_goals exact wkG jD
 have h2:=Ko (by omega) _ _ hz
 change PC _ _ _ (.tu [exV x,.ag [(.im (.int .i64 (0))),(.im (.int .i64 (0)))]])at h2
 have hf:=(Yc hok _).2.1 _ _ _ _ _ _ hr
 have h3:=KM x hf 64 (by decide) (by decide)
 rw[hx,if_neg (fun h=>h rfl)]
 simp only
 cases hl:esh x 64 with
 | true =>
  rw[hl]at h3;rw[if_pos rfl];refine pcEnt 33 Tryz.func22 rfl [(0,.im (.string ⟨(s).toArray⟩))] ?_
  refine wG eL TI ?_;refine AR.callP h1 TI jD ?_;refine goG eL TI ?_;refine wG eL TI ?_;refine AR.callP h2 TI jD ?_;refine goG eL BN01 ?_;refine wG eL BN01 ?_;refine AR.callP h3 @bH jD ?_;refine goG eL TI ?_;refine wG eL TI ?_;refine fiGenO [.cell 2 46,.tmp 3] (finG eL) ?_
  rw[bH x]
  all_goals exact wkG jD
 | false =>
  rw[hl]at h3;rw[if_neg (by decide)]
  refine pcEnt 33 Tryz.func22 rfl [(0,.im (.string ⟨(s).toArray⟩))] ?_
  refine wG eL TI ?_;refine AR.callP h1 TI jD ?_;refine goG eL TI ?_;refine wG eL TI ?_;refine AR.callP h2 TI jD ?_;refine goG eL BN01 ?_;refine wG eL BN01 ?_;refine AR.callP h3 @bH jD ?_;refine goG eL TI ?_;refine wG eL TI ?_;refine fiGenO [.cell 2 46,.tmp 3] (finG eL) ?_
  all_goals exact wkG jD
theorem zQ(u:Un)(hu:fitU u):PC Tryz.prog 15 [.ag [.sl (u.globals.map vaV) .ro,.sl (u.data.map scV) .ro,.sl (u.funcs.map fnV) .ro]] (.im (.int .i64 (unE u))):=vD u hu
def iY:=A9 @Ae @nQ @tT @nO @sC @Zd @zY @lG @oS
def dY:=A10 aX bC @aN @aL gG eU pH kU aG uI
theorem XK(s:Bs)(hs:s.length≤4194304):PC Tryz.prog 19 [.im (.string ⟨(s).toArray⟩)] (.tu [fnV (funP s).1,(.im (.int .i64 ((funP s).2)))]):=by
 have h1:=Ng s hs
 obtain⟨hok,hts,hes⟩:=Dm s
 unfold funP
 generalize scnR s=q at h1 hok hts hes
 obtain⟨ts,e⟩:=q
 simp only at h1 hok hts hes ⊢
 by_cases he:e=0
 case neg =>
  rw[if_pos he];refine pcEnt 29 Tryz.func19 rfl [(0,.im (.string ⟨(s).toArray⟩))] ?_
  refine wG iY TI ?_;refine AR.callP h1 TI dY ?_;refine goG iY TI ?_;refine wG iY he ?_;refine fiGenO [.cell 2 37,.tmp 3] (finG iY) ?_
  all_goals exact wkG dY
 subst he
 rw[if_neg (by decide)]
 rcases BT ts with ⟨b,e,hz,hx,he,hb⟩|⟨x,b,p,hz,hx,hr⟩
 ·have h2:=Kn (by omega) hok _ _ hz
  change PC _ _ _ (.tu [fnV ⟨ByteArray.empty,[],[]⟩,.ag [(.im (.int .i64 ((b:Nat)))),(.im (.int .i64 (e)))]])at h2;have he: ¬e=0:=PT he;rw[hx,if_pos he];refine pcEnt 29 Tryz.func19 rfl [(0,.im (.string ⟨(s).toArray⟩))] ?_
  refine wG iY TI ?_;refine AR.callP h1 TI dY ?_;refine goG iY TI ?_;refine wG iY TI ?_;refine AR.callP h2 TI dY ?_;refine goG iY FU ?_;refine wdG iY he ?_;refine fiGenO [.cell 2 37,.tmp 3] (finG iY) ?_
  all_goals exact wkG dY
 have h2:=Kn (by omega) hok _ _ hz
 change PC _ _ _ (.tu [fnV x,.ag [(.im (.int .i64 (0))),(.im (.int .i64 (0)))]])at h2
 rw[hx,if_neg (fun h=>h rfl)]
 simp only
 refine pcEnt 29 Tryz.func19 rfl [(0,.im (.string ⟨(s).toArray⟩))] ?_
 refine wG iY TI ?_
 refine AR.callP h1 TI dY ?_
 refine goG iY TI ?_
 refine wG iY TI ?_
 refine AR.callP h2 TI dY ?_
 refine goG iY FU ?_
 refine wG iY FU ?_
 refine fiGenO [.cell 2 37,.tmp 3] (finG iY) ?_
 rw[jH x]
 all_goals exact wkG dY
def eM:=A9 @qP @Ae @tU @nO @sC @Ze @oT @zY @oS
theorem Vs(s:Bs)(hs:s.length≤4194304):PC Tryz.prog 13 [.im (.string ⟨(s).toArray⟩)] (.tu [unV (Aj s).1,(.im (.int .i64 ((Aj s).2)))]):=by
 have h1:=Ng s hs
 obtain⟨hok,hts,hes⟩:=Dm s
 unfold Aj
 generalize scnR s=q at h1 hok hts hes
 obtain⟨ts,e⟩:=q
 simp only at h1 hok hts hes ⊢
 by_cases he:e=0
 case neg =>
  rw[if_pos he];refine pcEnt 36 Tryz.func13 rfl [(0,.im (.string ⟨(s).toArray⟩))] ?_
  refine wG eM TI ?_;refine AR.callP h1 TI dY ?_;refine goG eM TI ?_;refine wG eM he ?_;refine fiGenO [.cell 2 27,.tmp 3] (finG eM) ?_
  all_goals exact wkG dY
 subst he
 rw[if_neg (by decide)]
 rcases Ja ts with ⟨b,e,hz,hx,he,hb⟩|⟨x,b,p,hz,hx,hr⟩
 ·have h2:=wT (by omega) hok _ _ hz
  change PC _ _ _ (.tu [unV ⟨[],[],[]⟩,.ag [(.im (.int .i64 ((b:Nat)))),(.im (.int .i64 (e)))]])at h2;have he: ¬e=0:=PT he;rw[hx,if_pos he];refine pcEnt 36 Tryz.func13 rfl [(0,.im (.string ⟨(s).toArray⟩))] ?_
  refine wG eM TI ?_;refine AR.callP h1 TI dY ?_;refine goG eM TI ?_;refine wG eM TI ?_;refine AR.callP h2 TI dY ?_;refine goG eM UNT ?_;refine wdG eM he ?_;refine fiGenO [.cell 2 27,.tmp 3] (finG eM) ?_
  all_goals exact wkG dY
 have h2:=wT (by omega) hok _ _ hz
 change PC _ _ _ (.tu [unV x,.ag [(.im (.int .i64 (0))),(.im (.int .i64 (0)))]])at h2
 have h3:=zQ x (Iz hok hts hr)
 rw[hx,if_neg (fun h=>h rfl)]
 simp only
 by_cases hu:unE x=0
 case neg =>
  rw[if_pos hu];refine pcEnt 36 Tryz.func13 rfl [(0,.im (.string ⟨(s).toArray⟩))] ?_
  refine wG eM TI ?_;refine AR.callP h1 TI dY ?_;refine goG eM TI ?_;refine wG eM TI ?_;refine AR.callP h2 TI dY ?_;refine goG eM UNT ?_;refine wG eM UNT ?_;refine AR.callP h3 TI dY ?_;refine goG eM TI ?_;refine wG eM hu ?_;refine fiGenO [.cell 2 27,.tmp 3] (finG eM) ?_
  all_goals exact wkG dY
 rw[if_neg (fun h=>h hu)]
 rw[hu]at h3
 refine pcEnt 36 Tryz.func13 rfl [(0,.im (.string ⟨(s).toArray⟩))] ?_
 refine wG eM TI ?_
 refine AR.callP h1 TI dY ?_
 refine goG eM TI ?_
 refine wG eM TI ?_
 refine AR.callP h2 TI dY ?_
 refine goG eM UNT ?_
 refine wG eM UNT ?_
 refine AR.callP h3 TI dY ?_
 refine goG eM TI ?_
 refine wG eM TI ?_
 refine fiGenO [.cell 2 27,.tmp 3] (finG eM) ?_
 rw[kS x]
 all_goals exact wkG dY
def eK:=A13 @qP @Ae @cO @tU @nO @oU @EA @sC @gU @oT @zY @cN @oS
theorem DT(s:Bs)(hs:s.length≤4194304):PC Tryz.prog 25 [.im (.string ⟨(s).toArray⟩)] (.tu [(.im (.int .i64 ((JJ s).1.1))),(.im (.int .i64 ((JJ s).1.2))),(.im (.int .i64 ((JJ s).2)))]):=by
 have h1:=Ng s hs
 obtain⟨hok,hts,hes⟩:=Dm s
 unfold JJ
 generalize scnR s=q at h1 hok hts hes
 obtain⟨ts,e⟩:=q
 simp only at h1 hok hts hes ⊢
 by_cases he3:e=3
 ·subst he3
  rw[if_pos rfl];have hw:=cU (n:=(ts.length:Int)-1) (by omega)
  have h2:=Hf ts ((ts.length:Int)-1) (by omega)
  refine pcEnt 55 Tryz.func25 rfl [(0,.im (.string ⟨(s).toArray⟩))] ?_
  refine wG eK TI ?_;refine AR.callP h1 TI dY ?_;refine goG eK TI ?_;refine wG eK (AI hw @List.length_map.{0,0}) ?_;refine AR.callP h2 TI dY ?_;refine goG eK TI ?_;refine wG eK TI ?_;refine fiGenO [.tmp 2,.tmp 3,.tmp 4] (finG eK) ?_
  all_goals exact wkG dY
 rw[if_neg he3]
 by_cases he:e=0
 case neg =>
  rw[if_pos he];refine pcEnt 55 Tryz.func25 rfl [(0,.im (.string ⟨(s).toArray⟩))] ?_
  refine wG eK TI ?_;refine AR.callP h1 TI dY ?_;refine goG eK TI ?_;refine wG eK (AI he he3) ?_;refine fiGenO [.tmp 2,.tmp 3,.tmp 4] (finG eK) ?_
  all_goals exact wkG dY
 subst he
 rw[if_neg (by decide)]
 rcases Ja ts with ⟨b,e,hz,hx,he,hb⟩|⟨x,b,p,hz,hx,hr⟩
 ·have h2:=wT (by omega) hok _ _ hz
  change PC _ _ _ (.tu [unV ⟨[],[],[]⟩,.ag [(.im (.int .i64 ((b:Nat)))),(.im (.int .i64 (e)))]])at h2;have he: ¬e=0:=PT he;have h3:=Hf ts (b:Int) (by omega)
  rw[hx,if_pos he];refine pcEnt 55 Tryz.func25 rfl [(0,.im (.string ⟨(s).toArray⟩))] ?_
  refine wG eK TI ?_;refine AR.callP h1 TI dY ?_;refine goG eK TI ?_;refine wG eK TI ?_;refine AR.callP h2 TI dY ?_;refine goG eK UNT ?_;refine wG eK he ?_;refine AR.callP h3 TI dY ?_;refine goG eK TI ?_;refine wdG eK TI ?_;refine fiGenO [.tmp 2,.tmp 3,.tmp 4] (finG eK) ?_
  all_goals exact wkG dY
 have h2:=wT (by omega) hok _ _ hz
 change PC _ _ _ (.tu [unV x,.ag [(.im (.int .i64 (0))),(.im (.int .i64 (0)))]])at h2
 have h3:=zQ x (Iz hok hts hr)
 rw[hx,if_neg (fun h=>h rfl)]
 simp only
 refine pcEnt 55 Tryz.func25 rfl [(0,.im (.string ⟨(s).toArray⟩))] ?_
 refine wG eK TI ?_
 refine AR.callP h1 TI dY ?_
 refine goG eK TI ?_
 refine wG eK TI ?_
 refine AR.callP h2 TI dY ?_
 refine goG eK UNT ?_
 refine wG eK UNT ?_
 refine AR.callP h3 TI dY ?_
 refine goG eK TI ?_
 refine wG eK TI ?_
 refine fiGenO [.tmp 2,.tmp 3,.tmp 4] (finG eK) ?_
 all_goals exact wkG dY
def nmX(s:Bs):Ex:= .mk 2 0 ⟨s.toArray⟩ 0 []
def coX(n:Int):Ex:= .mk 1 n ByteArray.empty 0 []
def twX(o:Int)(a b:Ex):Ex:= .mk o 0 ByteArray.empty 0 [a,b]
def s1X:Bs:=[114,48,32,45,32,49,32,45,32,114,49,32,42,32,50]
def s2X:Bs:=[45,114,48,32,42,32,50]
def s3X:Bs:=[114,48,32,43]
def s4X:Bs:=[102,117,110,99,32,109,97,105,110,32,123,32,114,48,32,61,32,49,59,32,104,97,108,116,59,32,125]
def s5X:Bs:=[118,97,114,32,114,48,58,32,117,105,110,116,51,50,59,32,102,117,110,99,32,109,97,105,110,32,123,32,114,48,32,61,32,49,59,32,104,97,108,116,59,32,125]
def s6X:Bs:=[102,117,110,99,32,102,32,123,10,32,32,104,97,108,116,10,125]
theorem e1X:BZ s1X=(twX 4 (twX 4 (nmX [114,48]) (coX 1)) (twX 5 (nmX [114,49]) (coX 2)),0):=by kernel_rfl
theorem e2X:BZ s2X=(twX 5 (mkU 17 0 (nmX [114,48])) (coX 2),0):=by kernel_rfl
theorem e3X:BZ s3X=(ex0,3):=by kernel_rfl
theorem e4X:Aj s4X=(uz0,17):=by kernel_rfl
def v5X:Va:=⟨⟨#[114,48]⟩,.mk 0 2 4 0 [] []⟩
def f5X:Fun:=⟨⟨#[109,97,105,110]⟩,[],[.mk 1 0 ⟨#[114,48]⟩ [coX 1] [] [] [],.mk 15 0 ByteArray.empty [] [] [] []]⟩
theorem e5X:Aj s5X=(⟨[v5X],[],[f5X]⟩,0):=by kernel_rfl
theorem e6X:JJ s6X=((3,1),3):=by kernel_rfl
def jY:=A16 @kA @xE @cO @hU @tU @kR @jZ @xD @gM @lV @mY @pA @lU @iZ @tN (A6 @oT @cN @lG @hM @dK @jM)
def yG:=A12 aX bC @aE @aD @aN @aL gG eU pH kU aG uI
set_option maxRecDepth 4000 in
theorem SU:PC Tryz.prog 12 [] (.im (.bool (true))):=by
 have h1:=Vv s1X (by decide)
 have h2:=Vv s2X (by decide)
 have h3:=Vv s3X (by decide)
 have h4:=Vs s4X (by decide)
 have h5:=Vs s5X (by decide)
 have h6:=DT s6X (by decide)
 rw[e1X]at h1
 rw[e2X]at h2
 rw[e3X]at h3
 rw[e4X]at h4
 rw[e5X]at h5
 rw[e6X]at h6
 simp only[twX,nmX,coX,mkU,ex0,gV,List.map_cons,List.map_nil,kS,uz0]at h1 h2 h3 h4 h5 h6
 unfold s1X at h1
 unfold s2X at h2
 unfold s3X at h3
 unfold s4X at h4
 unfold s5X at h5
 unfold s6X at h6
 generalize vaV v5X=va at h5
 generalize fnV f5X=fa at h5
 refine pcEnt 127 Tryz.func12 rfl [] ?_
 simp only[List.append]
 refine wG jY TI ?_
 refine AR.callP h1 TI yG ?_
 refine goG jY TI ?_
 refine wG jY TI ?_
 refine AR.callP h2 TI yG ?_
 refine goG jY TI ?_
 refine wG jY TI ?_
 refine AR.callP h3 TI yG ?_
 refine goG jY TI ?_
 refine wG jY TI ?_
 refine AR.callP h4 TI yG ?_
 refine goG jY TI ?_
 refine wG jY TI ?_
 refine AR.callP h5 TI yG ?_
 refine goG jY TI ?_
 refine wG jY TI ?_
 refine AR.callP h6 TI yG ?_
 refine goG jY TI ?_
 refine wG jY TI ?_
 refine fiGenO [.tmp 0] (finG jY) ?_
 all_goals exact wkG yG
theorem kG{m n:Nat}{a:Int}(h:(decide ((m:Int)<(n:Int))&&decide (a≥0))=true):m<n∧0≤a:=by
 simp only[Bool.and_eq_true,decide_eq_true_eq]at h
 exact⟨by omega,by omega⟩
theorem kF{α:Type}{f:α→Int→Int}{l:List α}{m:Nat}{n:Int}(hm:m≤l.length)(h:(decide ((m:Int)<(l.length:Int))&&decide (pfold f (l.take m) n≥0))=false):pfold f (l.take m) n=pfold f l n:=by
 simp only[Bool.and_eq_false_iff,decide_eq_false_iff_not]at h
 by_cases hp:0≤pfold f (l.take m) n
 ·obtain rfl:m=l.length:=by rcases h with h|h<;>omega
  rw[List.take_length]
 ·exact(Jp hp).symm
def qI:=A6 @hU @fB @gM @lU @hM @dK
def Wh:=AI @aE @aD
theorem KY: ∀(t:Ex),FitEW t→ ∀most n:Int,0≤most→most≤4194304→0≤n→n≤4194304→PC Tryz.prog 72 [exV t,(.im (.int .i64 (most))),(.im (.int .i64 (n)))] (.im (.int .i64 (epa t most n))):=by
 refine Ex.induct fun o k s w l hE0=> ?_
 intro hfit most n hq hq2 hn hn2
 obtain⟨_,hl1,_,hfE⟩:=hfit.inv
 rw[Mu]
 refine pcEnt 44 Tryz.func72 rfl [(0,exV (.mk o k s w l)),(1,(.im (.int .i64 (most)))),(2,(.im (.int .i64 (n))))] ?_
 simp only[gV]
 refine wG qI TI ?_
 refine cY rfl rfl (fun hE=> ?_) (fun hE=> ?_)
 ·simp only[Bool.or_eq_true,decide_eq_true_eq]at hE
  rw[if_pos (by omega)]
  refine wG qI TI ?_;exact aB
 simp only[Bool.or_eq_false_iff,decide_eq_false_iff_not]at hE
 have hw:IntKind.i64.wrap (n-1)=n-1:=cU (by omega)
 have hv:IntKind.i64.wrap (most-1)=most-1:=cU (by omega)
 rw[if_neg (by omega)]
 refine wG qI hw ?_
 refine aP ?_
 refine ALp.cutP 1 [(1,(.im (.int .i64 (most)))),(3,.pt 0 0),(7,(.im (.int .i64 (pfold (fun x n=>epa x (most-1) n) (l.take (0)) (n-1))))),(8,(.im (.int .i64 ((((0:Nat)):Int)))))] [.box [(.im (.int .i64 (o))),.im (.int .u32 k),.im (.string s),(.im (.int .i64 (w))),.sl (l.map exV) .ro]] Wh ?_
 refine aW l.length (fun _=>True) (fun m=>⟨dn 44 [(1,(.im (.int .i64 (most)))),(3,.pt 0 0),(7,(.im (.int .i64 (pfold (fun x n=>epa x (most-1) n) (l.take (m)) (n-1))))),(8,(.im (.int .i64 ((((m:Nat)):Int)))))],ofl [.box [(.im (.int .i64 (o))),.im (.int .u32 k),.im (.string s),(.im (.int .i64 (w))),.sl (l.map exV) .ro]]⟩) ?_ 0 (Nat.zero_le _) trivial
 intro m hm _ hnext
 refine wG qI @Int.natCast_nonneg ?_
 refine cY rfl rfl (fun hE=> ?_) (fun hE=> ?_)
 ·obtain⟨hlt,hp⟩:=kG hE
  have hlt':(m:Int)<(l.length:Int):=by omega
  have hm1:=aK hlt (by omega)
  have hb:=dQ (f:=fun x n=>epa x (most-1) n) (l:=l.take m) (fun t _ n hn=>mO t _ n hn) (n-1) (by omega)
  have hc:=hE0 l[m] (List.getElem_mem hlt) (hfE _ (List.getElem_mem hlt)) (most-1) _ (by omega) (by omega) hp (by omega)
  rw[←kE (f:=fun x n=>epa x (most-1) n) hlt hp]at hc
  have hg:=bB hlt;refine wG qI (A5 hlt' hg hv @Int.natCast_nonneg BN01) ?_;refine AR.callP hc @bH Wh ?_;refine goG qI BN01 ?_;refine wG qI hm1 ?_;refine ALp.cutP 1 [(1,(.im (.int .i64 (most)))),(3,.pt 0 0),(7,(.im (.int .i64 (pfold (fun x n=>epa x (most-1) n) (l.take (m+1)) (n-1))))),(8,(.im (.int .i64 ((((m+1:Nat)):Int)))))] [.box [(.im (.int .i64 (o))),.im (.int .u32 k),.im (.string s),(.im (.int .i64 (w))),.sl (l.map exV) .ro]] Wh ?_
  exact hnext (m+1) (by omega) (by omega) trivial
 rw[kF hm hE]
 clear hnext hE
 refine wG qI TI ?_
 exact aB
theorem OB: ∀e:Ex,fitE e→n32 e=true:=by
 refine Ex.induct fun o n s w l hl=> ?_
 intro hf
 obtain⟨_,h2⟩:=pZ hf
 obtain⟨_,h3,_⟩:=Qx hf
 rw[Gd,Bool.and_eq_true,decide_eq_true_eq,List.all_eq_true]
 exact⟨by omega,fun t ht=>hl t ht (h2 t ht)⟩
theorem PV: ∀(k u:Nat),u<10^(k+1)→(Lib.decDigits u).length≤k+1:=by
 intro k
 induction k with
 | zero =>
  intro u h;rw[Lib.decDigits,dif_pos (by simpa using h)]
  simp
 | succ k ih =>
  intro u h;rw[Lib.decDigits];split
  ·simp
  ·rw[List.length_append,List.length_singleton]
   have:=ih (u/10) (by rw[Nat.pow_succ]at h;omega)
   omega
theorem uX{c:Int}(h0:0≤c)(h1:c<1000000):(Lib.itoa c).length≤6:=by
 have e:Lib.itoa c=Lib.decDigits c.toNat:=by unfold Lib.itoa;rw[if_neg (by omega)]
 rw[e]
 exact PV 5 _ (by omega)
def tlT(l:List Ty):Bs:=(l.map fun f=>[44,32]++pcT (f.off,txT f)).flatten
theorem BV(f:Ty)(r:List Ty):fldT ((f::r).map fun f=>(f.off,txT f))=pcT (f.off,txT f)++tlT r:=by
 unfold fldT tlT
 rw[List.map_cons]
 simp only[List.map_map]
 rfl
theorem ET(f:Ty)(r:List Ty):tlT (f::r)=[44,32]++(pcT (f.off,txT f)++tlT r):=by
 unfold tlT
 rw[List.map_cons,List.flatten_cons,List.append_assoc]
def sumT(l:List Ty):Nat:=(l.map fun x=>(txT x).length+10).sum
theorem rJ(x:Ty)(l:List Ty):sumT (x::l)=(txT x).length+10+sumT l:=by unfold sumT;simp
theorem Wx: ∀l:List Ty,(∀x∈l,0≤x.off∧x.off<65536)→(tlT l).length≤sumT l
 | [],_=>by simp[tlT,sumT]
 | x::l,h=>by
  have:=Wx l fun y hy=>h y (by simp[hy])
  have hx:=h x (by simp)
  have hi:=uX hx.1 (by omega)
  rw[ET,rJ];simp only[pcT,List.length_append,List.length_cons,List.length_nil];omega
theorem IP(l:List Ty)(h: ∀x∈l,0≤x.off∧x.off<65536):(fldT (l.map fun f=>(f.off,txT f))).length≤sumT l:=by
 cases l with
 | nil=>simp[fldT,sumT]
 | cons x l =>
  have:=Wx l fun y hy=>h y (by simp[hy])
  have hx:=h x (by simp)
  have hi:=uX hx.1 (by omega)
  rw[BV,rJ];simp only[pcT,List.length_append,List.length_cons,List.length_nil];omega
theorem xR{most:Int}: ∀(l:List Ty),(∀x∈l,∀n,0≤tpa x most n→((txT x).length:Int)+10≤40*(n-tpa x most n))→ ∀n,0≤n→0≤pfold (fun x n=>tpa x most n) l n→(sumT l:Int)≤40*(n-pfold (fun x n=>tpa x most n) l n)
 | [],_,n,hn,h=>by simp[pfold,sumT]
 | x::l,hx,n,hn,h=>by
  have e:pfold (fun x n=>tpa x most n) (x::l) n=pfold (fun x n=>tpa x most n) l (tpa x most n):=by unfold pfold;rw[List.foldl_cons,if_pos hn]
  rw[e]at h ⊢
  have h0:0≤tpa x most n:=Int.not_lt.1 fun hneg=>by
   rw[jG _ (by omega)]at h
   omega
  have h1:=hx x (by simp) n h0
  have h2:=xR l (fun y hy=>hx y (by simp[hy])) _ h0 h
  rw[rJ];omega
theorem NB: ∀t:Ty,frm t=true→ ∀most left:Int,0≤left→0≤tpa t most left→((txT t).length:Int)+10≤40*(left-tpa t most left):=by
 refine Ty.induct fun o k s c es fs hE hF=> ?_
 intro hfrm most left hl h
 obtain⟨hb,hof,hfs,hes⟩:=pX hfrm
 rw[Ak]at h ⊢
 split at h
 ·omega
 ·rename_i hn
  rw[if_neg hn]
  have h0:0≤pfold (fun x n=>tpa x (most-1) n) es (left-1):=Int.not_lt.1 fun hneg=>by
   rw[jG _ (by omega)]at h
   omega
  have a1:=xR es (fun x hx n hn=>by
   by_cases hn0:0≤n
   ·exact hE x hx (hes x hx) _ _ hn0 hn
   ·obtain⟨o',k',s',c',es',fs'⟩:=x
    rw[Ak,if_pos (by omega)]at hn
    omega) (left-1) (by omega) h0
  have a2:=xR fs (fun x hx n hn=>by
   by_cases hn0:0≤n
   ·exact hF x hx (hfs x hx) _ _ hn0 hn
   ·obtain⟨o',k',s',c',es',fs'⟩:=x
    rw[Ak,if_pos (by omega)]at hn
    omega) _ h0 h
  have hlen:((txT (.mk o k s c es fs)).length:Int)≤12+sumT es+sumT fs:=by
   rw[sG];rcases mP hb with ⟨hk,h1⟩|⟨hk,hs,h1⟩|⟨rfl,h1⟩|⟨rfl,h0,h1,h2,h3,h4⟩|⟨rfl,h1⟩
   ·rcases hk with rfl|rfl
    ·rw[if_pos rfl];simp;omega
    ·rw[if_neg (by decide),if_pos rfl];simp;omega
   ·have hi:=uX (c:=8*s) (by omega) (by omega)
    rcases hk with rfl|rfl
    ·rw[if_neg (by decide),if_neg (by decide),if_pos rfl];simp only[List.length_append,List.length_cons,List.length_nil];omega
    ·rw[if_neg (by decide),if_neg (by decide),if_neg (by decide),if_pos rfl];simp only[List.length_append,List.length_cons,List.length_nil];omega
   ·rw[if_neg (by decide),if_neg (by decide),if_neg (by decide),if_neg (by decide),if_pos rfl]
    obtain⟨x,rfl⟩:=List.length_eq_one_iff.1 h1.2.2.1;simp only[List.map_cons,List.map_nil,List.headD_cons,List.length_append,List.length_cons,List.length_nil,rJ];omega
   ·rw[if_neg (by decide),if_neg (by decide),if_neg (by decide),if_neg (by decide),if_neg (by decide),if_pos rfl]
    obtain⟨x,rfl⟩:=List.length_eq_one_iff.1 h3;have hi:=uX (c:=c) (by omega) (by omega)
    simp only[List.map_cons,List.map_nil,List.headD_cons,List.length_append,List.length_cons,List.length_nil,rJ];omega
   ·rw[if_neg (by decide),if_neg (by decide),if_neg (by decide),if_neg (by decide),if_neg (by decide),if_neg (by decide),if_pos rfl]
    have:=IP fs fun x hx=>by
     obtain⟨i,hi,rfl⟩:=List.getElem_of_mem hx;have:=hof i hi;unfold fok at this;simp only[Bool.and_eq_true,decide_eq_true_eq]at this;have e:(List.map Ty.off fs).getD i 0=fs[i].off:=by rw[List.getD_eq_getElem?_getD,List.getElem?_map,List.getElem?_eq_getElem hi];rfl
     rw[e]at this;exact this.1
    simp only[List.length_append,List.length_cons,List.length_nil];omega
  omega
theorem Zu{t:Ty}{most:Int}(h:frm t=true)(hs:smallT t most=true):(txT t).length≤120000:=by
 unfold smallT at hs
 have h1:0≤tpa t most 3000:=by simpa using hs
 have:=NB t h most 3000 (by decide) h1
 omega
def iP:=A12 @tV @qO @gF @qM @qL @lL @mW @jU @nZ @tK @nM @gD
def yF:=A4 @bQ @bS @bR @bT
theorem KJ: ∀(t:Ty),FitW t→ ∀most n:Int,0≤most→most≤4194304→0≤n→n≤4194304→PC Tryz.prog 100 [tyV t,(.im (.int .i64 (most))),(.im (.int .i64 (n)))] (.im (.int .i64 (tpa t most n))):=by
 refine Ty.induct fun o k s c es fs hT hF=> ?_
 intro hfit most n hq hq2 hn hn2
 obtain⟨_,hl1,hl2,hfE,hfF⟩:=hfit.inv
 rw[Ak]
 refine pcEnt 72 Tryz.func100 rfl [(0,tyV (.mk o k s c es fs)),(1,(.im (.int .i64 (most)))),(2,(.im (.int .i64 (n))))] ?_
 simp only[eE]
 refine wG iP TI ?_
 refine cY rfl rfl (fun hE=> ?_) (fun hE=> ?_)
 ·simp only[Bool.or_eq_true,decide_eq_true_eq]at hE
  rw[if_pos (by omega)]
  refine wG iP TI ?_;exact aB
 simp only[Bool.or_eq_false_iff,decide_eq_false_iff_not]at hE
 have hw:IntKind.i64.wrap (n-1)=n-1:=cU (by omega)
 have hv:IntKind.i64.wrap (most-1)=most-1:=cU (by omega)
 rw[if_neg (by omega)]
 refine wG iP hw ?_
 refine aP ?_
 refine ALp.cutP 1 [(1,(.im (.int .i64 (most)))),(3,.pt 0 0),(7,(.im (.int .i64 (pfold (fun x n=>tpa x (most-1) n) (es.take (0)) (n-1))))),(8,(.im (.int .i64 ((((0:Nat)):Int)))))] [.box [.im (.int .i64 k),.im (.int .i64 s),.im (.int .i64 c),.sl (es.map tyV) .ro,.sl (fs.map fdV) .ro]] yF ?_
 refine aW es.length (fun _=>True) (fun m=>⟨dn 72 [(1,(.im (.int .i64 (most)))),(3,.pt 0 0),(7,(.im (.int .i64 (pfold (fun x n=>tpa x (most-1) n) (es.take (m)) (n-1))))),(8,(.im (.int .i64 ((((m:Nat)):Int)))))],ofl [.box [.im (.int .i64 k),.im (.int .i64 s),.im (.int .i64 c),.sl (es.map tyV) .ro,.sl (fs.map fdV) .ro]]⟩) ?_ 0 (Nat.zero_le _) trivial
 intro m hm _ hnext
 refine wG iP @Int.natCast_nonneg ?_
 refine cY rfl rfl (fun hE=> ?_) (fun hE=> ?_)
 ·obtain⟨hlt,hp⟩:=kG hE
  have hlt':(m:Int)<(es.length:Int):=by omega
  have hm1:=aK hlt (by omega)
  have hb:=dQ (f:=fun x n=>tpa x (most-1) n) (l:=es.take m) (fun t _ n hn=>Al t _ n hn) (n-1) (by omega)
  have hc:=hT es[m] (List.getElem_mem hlt) (hfE _ (List.getElem_mem hlt)) (most-1) _ (by omega) (by omega) hp (by omega)
  rw[←kE (f:=fun x n=>tpa x (most-1) n) hlt hp]at hc
  have hg:=bB hlt;refine wG iP (A5 hlt' hg hv @Int.natCast_nonneg BN03) ?_;refine AR.callP hc @bM yF ?_;refine goG iP BN03 ?_;refine wG iP hm1 ?_;refine ALp.cutP 1 [(1,(.im (.int .i64 (most)))),(3,.pt 0 0),(7,(.im (.int .i64 (pfold (fun x n=>tpa x (most-1) n) (es.take (m+1)) (n-1))))),(8,(.im (.int .i64 ((((m+1:Nat)):Int)))))] [.box [.im (.int .i64 k),.im (.int .i64 s),.im (.int .i64 c),.sl (es.map tyV) .ro,.sl (fs.map fdV) .ro]] yF ?_
  exact hnext (m+1) (by omega) (by omega) trivial
 rw[kF hm hE]
 clear hnext hE
 generalize hm0:m=m0
 clear hm hm0
 have hb0:=dQ (f:=fun x n=>tpa x (most-1) n) (l:=es) (fun t _ n hn=>Al t _ n hn) (n-1) (by omega)
 refine whG iP TI ?_
 refine Blk'.here (Thn.n ?_)
 refine wG iP TI ?_
 refine aP ?_
 refine ALp.cutP 1 [(1,(.im (.int .i64 (most)))),(3,.pt 0 0),(7,(.im (.int .i64 (pfold (fun x n=>tpa x (most-1) n) (fs.take (0)) (pfold (fun x n=>tpa x (most-1) n) es (n-1)))))),(9,(.im (.int .i64 ((((0:Nat)):Int)))))] [.box [.im (.int .i64 k),.im (.int .i64 s),.im (.int .i64 c),.sl (es.map tyV) .ro,.sl (fs.map fdV) .ro]] yF ?_
 refine aW fs.length (fun _=>True) (fun m=>⟨dn 72 [(1,(.im (.int .i64 (most)))),(3,.pt 0 0),(7,(.im (.int .i64 (pfold (fun x n=>tpa x (most-1) n) (fs.take (m)) (pfold (fun x n=>tpa x (most-1) n) es (n-1)))))),(9,(.im (.int .i64 ((((m:Nat)):Int)))))],ofl [.box [.im (.int .i64 k),.im (.int .i64 s),.im (.int .i64 c),.sl (es.map tyV) .ro,.sl (fs.map fdV) .ro]]⟩) ?_ 0 (Nat.zero_le _) trivial
 intro m hm _ hnext
 refine wG iP @Int.natCast_nonneg ?_
 refine cY rfl rfl (fun hE=> ?_) (fun hE=> ?_)
 ·obtain⟨hlt,hp⟩:=kG hE
  have hlt':(m:Int)<(fs.length:Int):=by omega
  have hm1:=aK hlt (by omega)
  have hb:=dQ (f:=fun x n=>tpa x (most-1) n) (l:=fs.take m) (fun t _ n hn=>Al t _ n hn) (pfold (fun x n=>tpa x (most-1) n) es (n-1)) (by omega)
  have hc:=hF fs[m] (List.getElem_mem hlt) (hfF _ (List.getElem_mem hlt)) (most-1) _ (by omega) (by omega) hp (by omega)
  rw[←kE (f:=fun x n=>tpa x (most-1) n) hlt hp]at hc
  have hg:=bB hlt;refine wG iP (A5 hlt' hg hv @Int.natCast_nonneg BN03) ?_;refine AR.callP hc @bM yF ?_;refine goG iP BN03 ?_;refine wG iP hm1 ?_;refine ALp.cutP 1 [(1,(.im (.int .i64 (most)))),(3,.pt 0 0),(7,(.im (.int .i64 (pfold (fun x n=>tpa x (most-1) n) (fs.take (m+1)) (pfold (fun x n=>tpa x (most-1) n) es (n-1)))))),(9,(.im (.int .i64 ((((m+1:Nat)):Int)))))] [.box [.im (.int .i64 k),.im (.int .i64 s),.im (.int .i64 c),.sl (es.map tyV) .ro,.sl (fs.map fdV) .ro]] yF ?_
  exact hnext (m+1) (by omega) (by omega) trivial
 rw[kF hm hE]
 clear hnext hE
 refine wG iP TI ?_
 exact aB
def Nt:=AI @gF @gD
theorem Ru(t:Ty)(ht:FitW t)(most:Int)(hq:0≤most)(hq2:most≤4194304):PC Tryz.prog 49 [tyV t,(.im (.int .i64 (most)))] (.im (.bool (smallT t most))):=by
 have h:=KJ t ht most 3000 hq hq2 (by omega) (by omega)
 refine pcEnt 9 Tryz.func49 rfl [(0,tyV t),(1,(.im (.int .i64 (most))))] ?_
 rw[bM t]
 refine wG Nt TI ?_
 refine AR.callP h @bM yF ?_
 refine goG Nt BN03 ?_
 refine wG Nt TI ?_
 unfold smallT
 exact aB
end Go.Proofs.YtmbmmckagcdapaaGreatDoor
