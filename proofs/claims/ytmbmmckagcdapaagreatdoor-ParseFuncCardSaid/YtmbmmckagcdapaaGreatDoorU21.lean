import Derived.Test.YtmbmmckagcdapaaGreatDoorU10
import Derived.Test.YtmbmmckagcdapaaGreatDoorU12
import Derived.Test.YtmbmmckagcdapaaGreatDoorU00
set_option linter.all false
namespace Go.Proofs.YtmbmmckagcdapaaGreatDoor
open Go.RowKit
def idx{α:Type}(l:List α)(p:α→Bool):Int:=match l.findIdx? p with
 | some k=>k
 | none=> -1
theorem qZ{α:Type}{l:List α}{p:α→Bool}(h:AllTo (fun x=> !p x) l l.length):idx l p= -1:=by
 unfold idx
 have:l.findIdx? p=none:=by
  rw[List.findIdx?_eq_none_iff];intro x hx;obtain⟨j,hj,rfl⟩:=List.getElem_of_mem hx;simpa using h j hj hj
 rw[this]
theorem qY{α:Type}{l:List α}{p:α→Bool}{m:Nat}(hm:m<l.length)(h:AllTo (fun x=> !p x) l m)(hp:p l[m]=true):idx l p=m:=by
 unfold idx
 have:l.findIdx? p=some m:=by
  rw[List.findIdx?_eq_some_iff_getElem];exact⟨hm,hp,fun j hj=>by simpa using h j (by omega) hj⟩
 rw[this]
theorem uB{α:Type}(l:List α)(p:α→Bool):decide (idx l p≥0)=l.any p:=by
 unfold idx
 cases h:l.findIdx? p with
 | none =>
  rw[List.findIdx?_eq_none_iff]at h;have:l.any p=false:=by simpa using h
  rw[this]
  decide
 | some k =>
  rw[List.findIdx?_eq_some_iff_getElem]at h;obtain⟨hk,hp,_⟩:=h;have:l.any p=true:=List.any_eq_true.2 ⟨_,List.getElem_mem hk,hp⟩;rw[this];simp
def gL:=A3 @eO @fM @dG
theorem Ut{gs:List Ex}{F:FuncId}(p:Ex→Bool)(hl:gs.length≤4194304)(hF: ∀t∈gs,PC Tryz.prog F [exV t] (.im (.bool (p t)))) :
  PC Tryz.prog 165 [.sl (gs.map exV) .ro,.fn (.func F) [] []] (.im (.int .i64 (idx gs p))):=by
 refine PC.enter 19 Tryz.func165 rfl (by decide) rfl rfl (s:=[(0,.sl (gs.map exV) .ro),(1,.fn (.func F) [] [])]) (by rfl) ?_
 refine wG gL TI ?_
 refine bH ?_
 refine ALp.cutP 0 [(0,.sl (gs.map exV) .ro),(1,.fn (.func F) [] []),(7,(.im (.int .i64 (gs.length)))),(8,(.im (.int .i64 ((((0:Nat)):Int)))))] [] (A4 @aD @aU @aE @aX) ?_
 refine ALp.upto gs.length (AllTo (fun x=> !p x) gs) (fun m=>⟨dn 19 [(0,.sl (gs.map exV) .ro),(1,.fn (.func F) [] []),(7,(.im (.int .i64 (gs.length)))),(8,(.im (.int .i64 ((((m:Nat)):Int)))))],ofl []⟩) ?_ 0 (Nat.zero_le _) (AllTo.zero _ _)
 intro m hm hI hnext
 by_cases hlt:m<gs.length
 ·have hlt':(m:Int)<(gs.length:Int):=by omega
  have hg:=cC hlt;have hm1:=bD hlt (by omega)
  have hc:=hF gs[m] (List.getElem_mem hlt);refine wG gL (A16 @dX @dC @dU @dT @dW @dD @sX @qQ @sU @sT @sW @qR @List.getElem?_map.{0,0} @Int.natCast_nonneg hlt' (AI hg hm1)) ?_
  by_cases b:p gs[m]=true
  ·rw[b]at hc
   refine AR.callP hc @cA (A4 @aD @aU @aE @aX) ?_;refine goG gL TI ?_;refine wG gL TI ?_;rw[qY hlt hI b];exact aM
  ·have b:p gs[m]=false:=by simpa using b
   rw[b]at hc;refine AR.callP hc @cA (A4 @aD @aU @aE @aX) ?_;refine goG gL TI ?_;refine wG gL hm1 ?_;refine ALp.cutP 0 [(0,.sl (gs.map exV) .ro),(1,.fn (.func F) [] []),(7,(.im (.int .i64 (gs.length)))),(8,(.im (.int .i64 ((((m+1:Nat)):Int)))))] [] (A4 @aD @aU @aE @aX) ?_;exact hnext (m+1) (by omega) (by omega) (hI.succ hlt (by simp[b]))
 ·obtain rfl:m=gs.length:=by omega
  have hlt': ¬(gs.length:Int)<(gs.length:Int):=by omega
  clear hnext hlt;rw[qZ hI];refine wG gL hlt' ?_;exact aM
theorem rX{gs:List Ex}{F:FuncId}(p:Ex→Bool)(hl:gs.length≤4194304)(hF: ∀t∈gs,PC Tryz.prog F [exV t] (.im (.bool (p t)))) :
  PC Tryz.prog 101 [.sl (gs.map exV) .ro,.fn (.func F) [] []] (.im (.bool (gs.any p))):=by
 have h:=Ut p hl hF
 refine PC.enter 9 Tryz.func101 rfl (by decide) rfl rfl (s:=[(0,.sl (gs.map exV) .ro),(1,.fn (.func F) [] [])]) (by rfl) ?_
 refine wG TI TI ?_
 refine AR.callP h TI (A4 @aD @aU @aE @aX) ?_
 refine goG TI TI ?_
 rw[uB]
 refine wG TI TI ?_
 exact aM
theorem Us{gs:List Ex}{F:FuncId}{cs:List V}(p:Ex→Bool)(hcs:V.idsL (ltB 1) cs=true)(hr:V.renL (gOf [0]) cs=cs)(hl:gs.length≤4194304)(hF: ∀t∈gs,DC Tryz.prog F [exV t,.pt 0 0] [.box cs] (.im (.bool (p t))) [.box cs]) :
  DC Tryz.prog 165 [.sl (gs.map exV) .ro,.fn (.func F) [] [.pt 0 0]] [.box cs] (.im (.int .i64 (idx gs p))) [.box cs]:=by
 refine DC.enter 19 Tryz.func165 rfl (by decide) rfl rfl (s:=[(0,.sl (gs.map exV) .ro),(1,.fn (.func F) [] [.pt 0 0])]) (by rfl) ?_
 refine wG gL TI ?_
 refine bH ?_
 refine ALp.cutP 1 [(0,.sl (gs.map exV) .ro),(1,.fn (.func F) [] [.pt 0 0]),(7,(.im (.int .i64 (gs.length)))),(8,(.im (.int .i64 ((((0:Nat)):Int)))))] [.box cs] (A5 @aD @aU @aE @aX hcs) ?_
 refine ALp.upto gs.length (AllTo (fun x=> !p x) gs) (fun m=>⟨dn 19 [(0,.sl (gs.map exV) .ro),(1,.fn (.func F) [] [.pt 0 0]),(7,(.im (.int .i64 (gs.length)))),(8,(.im (.int .i64 ((((m:Nat)):Int)))))],ofl [.box cs]⟩) ?_ 0 (Nat.zero_le _) (AllTo.zero _ _)
 intro m hm hI hnext
 by_cases hlt:m<gs.length
 ·have hlt':(m:Int)<(gs.length:Int):=by omega
  have hg:=cC hlt;have hm1:=bD hlt (by omega)
  have hc:=hF gs[m] (List.getElem_mem hlt);refine wG gL (A16 @dX @dC @dU @dT @dW @dD @sX @qQ @sU @sT @sW @qR @List.getElem?_map.{0,0} @Int.natCast_nonneg hlt' (AI hg hm1)) ?_
  by_cases b:p gs[m]=true
  ·rw[b]at hc
   refine cO [0] hc @cA (A5 @aD @aU @aE @aX hcs) (A5 @aK @aL @bS @bP hr) ?_;refine goG gL TI ?_;refine wG gL TI ?_;rw[qY hlt hI b];exact cF (A5 @aD @aU @aE @aX hcs)
  ·have b:p gs[m]=false:=by simpa using b
   rw[b]at hc;refine cO [0] hc @cA (A5 @aD @aU @aE @aX hcs) (A5 @aK @aL @bS @bP hr) ?_;refine goG gL TI ?_;refine wG gL hm1 ?_;refine ALp.cutP 1 [(0,.sl (gs.map exV) .ro),(1,.fn (.func F) [] [.pt 0 0]),(7,(.im (.int .i64 (gs.length)))),(8,(.im (.int .i64 ((((m+1:Nat)):Int)))))] [.box cs] (A5 @aD @aU @aE @aX hcs) ?_;exact hnext (m+1) (by omega) (by omega) (hI.succ hlt (by simp[b]))
 ·obtain rfl:m=gs.length:=by omega
  have hlt': ¬(gs.length:Int)<(gs.length:Int):=by omega
  clear hnext hlt;rw[qZ hI];refine wG gL hlt' ?_;exact cF (A5 @aD @aU @aE @aX hcs)
theorem Ih{gs:List Ex}{F:FuncId}{cs:List V}(p:Ex→Bool)(hcs:V.idsL (ltB 1) cs=true)(hr:V.renL (gOf [0]) cs=cs)(hl:gs.length≤4194304)(hF: ∀t∈gs,DC Tryz.prog F [exV t,.pt 0 0] [.box cs] (.im (.bool (p t))) [.box cs]) :
  DC Tryz.prog 101 [.sl (gs.map exV) .ro,.fn (.func F) [] [.pt 0 0]] [.box cs] (.im (.bool (gs.any p))) [.box cs]:=by
 have h:=Us p hcs hr hl hF
 refine DC.enter 9 Tryz.func101 rfl (by decide) rfl rfl (s:=[(0,.sl (gs.map exV) .ro),(1,.fn (.func F) [] [.pt 0 0])]) (by rfl) ?_
 refine wG TI TI ?_
 refine cO [0] h TI (A5 @aD @aU @aE @aX hcs) (A5 @aK @aL @bS @bP hr) ?_
 refine goG TI TI ?_
 rw[uB]
 refine wG TI TI ?_
 exact cF (A5 @aD @aU @aE @aX hcs)
theorem Ur{gs:List Ex}{F:FuncId}{cs ds:List V}(p:Ex→Bool)(hcs:V.idsL (ltB 2) cs=true)(hr:V.renL (gOf [0,1]) cs=cs)(hds:V.idsL (ltB 2) ds=true)(hrs:V.renL (gOf [0,1]) ds=ds)(hl:gs.length≤4194304)(hF: ∀t∈gs,DC Tryz.prog F [exV t,.pt 0 0] [.box cs,.box ds] (.im (.bool (p t))) [.box cs,.box ds]) :
  DC Tryz.prog 165 [.sl (gs.map exV) .ro,.fn (.func F) [] [.pt 0 0]] [.box cs,.box ds] (.im (.int .i64 (idx gs p))) [.box cs,.box ds]:=by
 refine DC.enter 19 Tryz.func165 rfl (by decide) rfl rfl (s:=[(0,.sl (gs.map exV) .ro),(1,.fn (.func F) [] [.pt 0 0])]) (by rfl) ?_
 refine wG gL TI ?_
 refine bH ?_
 refine ALp.cutP 2 [(0,.sl (gs.map exV) .ro),(1,.fn (.func F) [] [.pt 0 0]),(7,(.im (.int .i64 (gs.length)))),(8,(.im (.int .i64 ((((0:Nat)):Int)))))] [.box cs,.box ds] (A6 @aD @aU @aE @aX hcs hds) ?_
 refine ALp.upto gs.length (AllTo (fun x=> !p x) gs) (fun m=>⟨dn 19 [(0,.sl (gs.map exV) .ro),(1,.fn (.func F) [] [.pt 0 0]),(7,(.im (.int .i64 (gs.length)))),(8,(.im (.int .i64 ((((m:Nat)):Int)))))],ofl [.box cs,.box ds]⟩) ?_ 0 (Nat.zero_le _) (AllTo.zero _ _)
 intro m hm hI hnext
 by_cases hlt:m<gs.length
 ·have hlt':(m:Int)<(gs.length:Int):=by omega
  have hg:=cC hlt;have hm1:=bD hlt (by omega)
  have hc:=hF gs[m] (List.getElem_mem hlt);refine wG gL (A16 @dX @dC @dU @dT @dW @dD @sX @qQ @sU @sT @sW @qR @List.getElem?_map.{0,0} @Int.natCast_nonneg hlt' (AI hg hm1)) ?_
  by_cases b:p gs[m]=true
  ·rw[b]at hc
   refine cO [0,1] hc @cA (A6 @aD @aU @aE @aX hcs hds) (A6 @aK @aL @bS @bP hr hrs) ?_;refine goG gL TI ?_;refine wG gL TI ?_;rw[qY hlt hI b];exact cF (A6 @aD @aU @aE @aX hcs hds)
  ·have b:p gs[m]=false:=by simpa using b
   rw[b]at hc;refine cO [0,1] hc @cA (A6 @aD @aU @aE @aX hcs hds) (A6 @aK @aL @bS @bP hr hrs) ?_;refine goG gL TI ?_;refine wG gL hm1 ?_;refine ALp.cutP 2 [(0,.sl (gs.map exV) .ro),(1,.fn (.func F) [] [.pt 0 0]),(7,(.im (.int .i64 (gs.length)))),(8,(.im (.int .i64 ((((m+1:Nat)):Int)))))] [.box cs,.box ds] (A6 @aD @aU @aE @aX hcs hds) ?_;exact hnext (m+1) (by omega) (by omega) (hI.succ hlt (by simp[b]))
 ·obtain rfl:m=gs.length:=by omega
  have hlt': ¬(gs.length:Int)<(gs.length:Int):=by omega
  clear hnext hlt;rw[qZ hI];refine wG gL hlt' ?_;exact cF (A6 @aD @aU @aE @aX hcs hds)
theorem Ig{gs:List Ex}{F:FuncId}{cs ds:List V}(p:Ex→Bool)(hcs:V.idsL (ltB 2) cs=true)(hr:V.renL (gOf [0,1]) cs=cs)(hds:V.idsL (ltB 2) ds=true)(hrs:V.renL (gOf [0,1]) ds=ds)(hl:gs.length≤4194304)(hF: ∀t∈gs,DC Tryz.prog F [exV t,.pt 0 0] [.box cs,.box ds] (.im (.bool (p t))) [.box cs,.box ds]) :
  DC Tryz.prog 101 [.sl (gs.map exV) .ro,.fn (.func F) [] [.pt 0 0]] [.box cs,.box ds] (.im (.bool (gs.any p))) [.box cs,.box ds]:=by
 have h:=Ur p hcs hr hds hrs hl hF
 refine DC.enter 9 Tryz.func101 rfl (by decide) rfl rfl (s:=[(0,.sl (gs.map exV) .ro),(1,.fn (.func F) [] [.pt 0 0])]) (by rfl) ?_
 refine wG TI TI ?_
 refine cO [0,1] h TI (A6 @aD @aU @aE @aX hcs hds) (A6 @aK @aL @bS @bP hr hrs) ?_
 refine goG TI TI ?_
 rw[uB]
 refine wG TI TI ?_
 exact cF (A6 @aD @aU @aE @aX hcs hds)
def sC:=A3 @As @mC @kQ
theorem Up{gs:List Va}{F:FuncId}{cs:List V}(p:Va→Bool)(hcs:V.idsL (ltB 1) cs=true)(hr:V.renL (gOf [0]) cs=cs)(hl:gs.length≤4194304)(hF: ∀t∈gs,DC Tryz.prog F [vaV t,.pt 0 0] [.box cs] (.im (.bool (p t))) [.box cs]) :
  DC Tryz.prog 211 [.sl (gs.map vaV) .ro,.fn (.func F) [] [.pt 0 0]] [.box cs] (.im (.int .i64 (idx gs p))) [.box cs]:=by
 refine DC.enter 19 Tryz.func211 rfl (by decide) rfl rfl (s:=[(0,.sl (gs.map vaV) .ro),(1,.fn (.func F) [] [.pt 0 0])]) (by rfl) ?_
 refine wG sC TI ?_
 refine bH ?_
 refine ALp.cutP 1 [(0,.sl (gs.map vaV) .ro),(1,.fn (.func F) [] [.pt 0 0]),(7,(.im (.int .i64 (gs.length)))),(8,(.im (.int .i64 ((((0:Nat)):Int)))))] [.box cs] (A5 @aD @aU @aE @aX hcs) ?_
 refine ALp.upto gs.length (AllTo (fun x=> !p x) gs) (fun m=>⟨dn 19 [(0,.sl (gs.map vaV) .ro),(1,.fn (.func F) [] [.pt 0 0]),(7,(.im (.int .i64 (gs.length)))),(8,(.im (.int .i64 ((((m:Nat)):Int)))))],ofl [.box cs]⟩) ?_ 0 (Nat.zero_le _) (AllTo.zero _ _)
 intro m hm hI hnext
 by_cases hlt:m<gs.length
 ·have hlt':(m:Int)<(gs.length:Int):=by omega
  have hg:=cC hlt;have hm1:=bD hlt (by omega)
  have hc:=hF gs[m] (List.getElem_mem hlt);refine wG sC (A16 @dX @dC @dU @dT @dW @dD @sX @qQ @sU @sT @sW @qR @List.getElem?_map.{0,0} @Int.natCast_nonneg hlt' (AI hg hm1)) ?_
  by_cases b:p gs[m]=true
  ·rw[b]at hc
   refine cO [0] hc @xR (A5 @aD @aU @aE @aX hcs) (A5 @aK @aL @bS @bP hr) ?_;refine goG sC TI ?_;refine wG sC TI ?_;rw[qY hlt hI b];exact cF (A5 @aD @aU @aE @aX hcs)
  ·have b:p gs[m]=false:=by simpa using b
   rw[b]at hc;refine cO [0] hc @xR (A5 @aD @aU @aE @aX hcs) (A5 @aK @aL @bS @bP hr) ?_;refine goG sC TI ?_;refine wG sC hm1 ?_;refine ALp.cutP 1 [(0,.sl (gs.map vaV) .ro),(1,.fn (.func F) [] [.pt 0 0]),(7,(.im (.int .i64 (gs.length)))),(8,(.im (.int .i64 ((((m+1:Nat)):Int)))))] [.box cs] (A5 @aD @aU @aE @aX hcs) ?_;exact hnext (m+1) (by omega) (by omega) (hI.succ hlt (by simp[b]))
 ·obtain rfl:m=gs.length:=by omega
  have hlt': ¬(gs.length:Int)<(gs.length:Int):=by omega
  clear hnext hlt;rw[qZ hI];refine wG sC hlt' ?_;exact cF (A5 @aD @aU @aE @aX hcs)
theorem Ie{gs:List Va}{F:FuncId}{cs:List V}(p:Va→Bool)(hcs:V.idsL (ltB 1) cs=true)(hr:V.renL (gOf [0]) cs=cs)(hl:gs.length≤4194304)(hF: ∀t∈gs,DC Tryz.prog F [vaV t,.pt 0 0] [.box cs] (.im (.bool (p t))) [.box cs]) :
  DC Tryz.prog 155 [.sl (gs.map vaV) .ro,.fn (.func F) [] [.pt 0 0]] [.box cs] (.im (.bool (gs.any p))) [.box cs]:=by
 have h:=Up p hcs hr hl hF
 refine DC.enter 9 Tryz.func155 rfl (by decide) rfl rfl (s:=[(0,.sl (gs.map vaV) .ro),(1,.fn (.func F) [] [.pt 0 0])]) (by rfl) ?_
 refine wG TI TI ?_
 refine cO [0] h TI (A5 @aD @aU @aE @aX hcs) (A5 @aK @aL @bS @bP hr) ?_
 refine goG TI TI ?_
 rw[uB]
 refine wG TI TI ?_
 exact cF (A5 @aD @aU @aE @aX hcs)
theorem lH{α:Type}(l:List α)(p:α→Bool):(!l.any fun x=> !p x)=l.all p:=by
 induction l with
 | nil=>rfl
 | cons x l ih=>simp only[List.any_cons,List.all_cons,Bool.not_or,Bool.not_not,ih]
def Ix:=A4 @cQ @eO @cN @dG
theorem Mj{x:Ex}{n:Int}(hn:I64 n)(hn1:1≤n){r:Bool}(h:PC Tryz.prog 73 [exV x,(.im (.int .i64 (n-1)))] (.im (.bool (r)))):DC Tryz.prog 140 [exV x,.pt 0 0] [.box [(.im (.int .i64 (n)))]] (.im (.bool (!r))) [.box [(.im (.int .i64 (n)))]]:=by
 unfold I64 at hn
 have hw:IntKind.i64.wrap (n-1)=n-1:=cM (by omega)
 refine DC.enter 9 Tryz.func140 rfl (by decide) rfl rfl (s:=[(0,exV x),(1,.pt 0 0)]) (by rfl) ?_
 simp only[cA]
 refine wG Ix hw ?_
 refine AR.callP h @cA (A4 @aD @aU @aE @aX) ?_
 refine goG Ix TI ?_
 refine wG Ix TI ?_
 exact cF (A4 @aD @aU @aE @aX)
def Ir:=A5 @cQ @kD @mQ @cN @kA
theorem Pj: ∀(t:Ex),fitE t→ ∀(n:Int),I64 n→PC Tryz.prog 73 [exV t,(.im (.int .i64 (n)))] (.im (.bool (esh t n))):=by
 refine Ex.induct fun o k s w l hE=> ?_
 intro hfit n hn
 obtain⟨hl1,hfE⟩:=rR hfit
 have hn':=hn
 unfold I64 at hn'
 refine PC.enter 14 Tryz.func73 rfl (by decide) rfl rfl (s:=[(0,exV (.mk o k s w l)),(1,(.im (.int .i64 (n))))]) (by rfl) ?_
 simp only[jH]
 rw[Cp]
 by_cases h1:n≥1
 ·have e:decide (1≤n)=true:=by simp;omega
  have hc: ∀t∈l,DC Tryz.prog 140 [exV t,.pt 0 0] [.box [(.im (.int .i64 (n)))]] (.im (.bool (!esh t (n-1)))) [.box [(.im (.int .i64 (n)))]]:=fun t ht=>Mj hn (by omega) (hE t ht (hfE t ht) (n-1) (by unfold I64;omega))
  have hcc:=Ih (gs:=l) (F:=140) (cs:=[(.im (.int .i64 (n)))]) (fun t=> !esh t (n-1)) (by simp[V.idsL,V.ids]) (by simp only[SR]) hl1 hc
  rw[e,Bool.true_and];refine wG Ir h1 ?_;refine cO [1] hcc TI (A4 @aD @aU @aE @aX) (A4 @aK @aL @bS @bP) ?_;refine goG Ir TI ?_;rw[lH];refine wG Ir TI ?_;exact aM
 ·have e:decide (1≤n)=false:=by simp;omega
  rw[e,Bool.false_and];refine wG Ir h1 ?_;exact aM
end Go.Proofs.YtmbmmckagcdapaaGreatDoor
