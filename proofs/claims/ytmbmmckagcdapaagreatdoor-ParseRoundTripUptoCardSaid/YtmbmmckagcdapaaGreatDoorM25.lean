import Derived.Test.YtmbmmckagcdapaaGreatDoorM11
import Derived.Test.YtmbmmckagcdapaaGreatDoorM15
import Derived.Test.YtmbmmckagcdapaaGreatDoorM00
set_option linter.all false
namespace Go.Proofs.YtmbmmckagcdapaaGreatDoor
open Go.RowKit
def idx{α:Type}(l:List α)(p:α→Bool):Int:=match l.findIdx? p with
 | some k=>k
 | none=> -1
theorem rC{α:Type}{l:List α}{p:α→Bool}(h:AllTo (fun x=> !p x) l l.length):idx l p= -1:=by
 unfold idx
 have:l.findIdx? p=none:=by
  rw[List.findIdx?_eq_none_iff];intro x hx;obtain⟨j,hj,rfl⟩:=List.getElem_of_mem hx;simpa using h j hj hj
 rw[this]
theorem rB{α:Type}{l:List α}{p:α→Bool}{m:Nat}(hm:m<l.length)(h:AllTo (fun x=> !p x) l m)(hp:p l[m]=true):idx l p=m:=by
 unfold idx
 have:l.findIdx? p=some m:=by
  rw[List.findIdx?_eq_some_iff_getElem];exact⟨hm,hp,fun j hj=>by simpa using h j (by omega) hj⟩
 rw[this]
theorem vH{α:Type}(l:List α)(p:α→Bool):decide (idx l p≥0)=l.any p:=by
 unfold idx
 cases h:l.findIdx? p with
 | none =>
  rw[List.findIdx?_eq_none_iff]at h;have:l.any p=false:=by simpa using h
  rw[this]
  decide
 | some k =>
  rw[List.findIdx?_eq_some_iff_getElem]at h;obtain⟨hk,hp,_⟩:=h;have:l.any p=true:=List.any_eq_true.2 ⟨_,List.getElem_mem hk,hp⟩;rw[this];simp
def fZ:=A3 @fE @gJ @dP
theorem BL{gs:List Ex}{F:FuncId}(p:Ex→Bool)(hl:gs.length≤4194304)(hF: ∀t∈gs,PC Tryz.prog F [exV t] (.im (.bool (p t)))) :
  PC Tryz.prog 165 [.sl (gs.map exV) .ro,.fn (.func F) [] []] (.im (.int .i64 (idx gs p))):=by
 refine PC.enter 19 Tryz.func165 rfl (by decide) rfl rfl (s:=[(0,.sl (gs.map exV) .ro),(1,.fn (.func F) [] [])]) (by rfl) ?_
 refine wG fZ TI ?_
 refine aP ?_
 refine ALp.cutP 0 [(0,.sl (gs.map exV) .ro),(1,.fn (.func F) [] []),(7,(.im (.int .i64 (gs.length)))),(8,(.im (.int .i64 ((((0:Nat)):Int)))))] [] (A4 @aD @aO @aE @aQ) ?_
 refine ALp.upto gs.length (AllTo (fun x=> !p x) gs) (fun m=>⟨dn 19 [(0,.sl (gs.map exV) .ro),(1,.fn (.func F) [] []),(7,(.im (.int .i64 (gs.length)))),(8,(.im (.int .i64 ((((m:Nat)):Int)))))],ofl []⟩) ?_ 0 (Nat.zero_le _) (AllTo.zero _ _)
 intro m hm hI hnext
 by_cases hlt:m<gs.length
 ·have hlt':(m:Int)<(gs.length:Int):=by omega
  have hg:=bB hlt;have hm1:=aL hlt (by omega)
  have hc:=hF gs[m] (List.getElem_mem hlt);refine wG fZ (A16 @fU @eI @fS @fR @fT @eJ @tP @qS @tN @tM @tO @qT @List.getElem?_map.{0,0} @Int.natCast_nonneg hlt' (AI hg hm1)) ?_
  by_cases b:p gs[m]=true
  ·rw[b]at hc
   refine AR.callP hc @bI (A4 @aD @aO @aE @aQ) ?_;refine goG fZ TI ?_;refine wG fZ TI ?_;rw[rB hlt hI b];exact aC
  ·have b:p gs[m]=false:=by simpa using b
   rw[b]at hc;refine AR.callP hc @bI (A4 @aD @aO @aE @aQ) ?_;refine goG fZ TI ?_;refine wG fZ hm1 ?_;refine ALp.cutP 0 [(0,.sl (gs.map exV) .ro),(1,.fn (.func F) [] []),(7,(.im (.int .i64 (gs.length)))),(8,(.im (.int .i64 ((((m+1:Nat)):Int)))))] [] (A4 @aD @aO @aE @aQ) ?_;exact hnext (m+1) (by omega) (by omega) (hI.succ hlt (by simp[b]))
 ·obtain rfl:m=gs.length:=by omega
  have hlt': ¬(gs.length:Int)<(gs.length:Int):=by omega
  clear hnext hlt;rw[rC hI];refine wG fZ hlt' ?_;exact aC
theorem sE{gs:List Ex}{F:FuncId}(p:Ex→Bool)(hl:gs.length≤4194304)(hF: ∀t∈gs,PC Tryz.prog F [exV t] (.im (.bool (p t)))) :
  PC Tryz.prog 101 [.sl (gs.map exV) .ro,.fn (.func F) [] []] (.im (.bool (gs.any p))):=by
 have h:=BL p hl hF
 refine PC.enter 9 Tryz.func101 rfl (by decide) rfl rfl (s:=[(0,.sl (gs.map exV) .ro),(1,.fn (.func F) [] [])]) (by rfl) ?_
 refine wG TI TI ?_
 refine AR.callP h TI (A4 @aD @aO @aE @aQ) ?_
 refine goG TI TI ?_
 rw[vH]
 refine wG TI TI ?_
 exact aC
theorem BK{gs:List Ex}{F:FuncId}{cs:List V}(p:Ex→Bool)(hcs:V.idsL (ltB 1) cs=true)(hr:V.renL (gOf [0]) cs=cs)(hl:gs.length≤4194304)(hF: ∀t∈gs,DC Tryz.prog F [exV t,.pt 0 0] [.box cs] (.im (.bool (p t))) [.box cs]) :
  DC Tryz.prog 165 [.sl (gs.map exV) .ro,.fn (.func F) [] [.pt 0 0]] [.box cs] (.im (.int .i64 (idx gs p))) [.box cs]:=by
 refine DC.enter 19 Tryz.func165 rfl (by decide) rfl rfl (s:=[(0,.sl (gs.map exV) .ro),(1,.fn (.func F) [] [.pt 0 0])]) (by rfl) ?_
 refine wG fZ TI ?_
 refine aP ?_
 refine ALp.cutP 1 [(0,.sl (gs.map exV) .ro),(1,.fn (.func F) [] [.pt 0 0]),(7,(.im (.int .i64 (gs.length)))),(8,(.im (.int .i64 ((((0:Nat)):Int)))))] [.box cs] (A5 @aD @aO @aE @aQ hcs) ?_
 refine ALp.upto gs.length (AllTo (fun x=> !p x) gs) (fun m=>⟨dn 19 [(0,.sl (gs.map exV) .ro),(1,.fn (.func F) [] [.pt 0 0]),(7,(.im (.int .i64 (gs.length)))),(8,(.im (.int .i64 ((((m:Nat)):Int)))))],ofl [.box cs]⟩) ?_ 0 (Nat.zero_le _) (AllTo.zero _ _)
 intro m hm hI hnext
 by_cases hlt:m<gs.length
 ·have hlt':(m:Int)<(gs.length:Int):=by omega
  have hg:=bB hlt;have hm1:=aL hlt (by omega)
  have hc:=hF gs[m] (List.getElem_mem hlt);refine wG fZ (A16 @fU @eI @fS @fR @fT @eJ @tP @qS @tN @tM @tO @qT @List.getElem?_map.{0,0} @Int.natCast_nonneg hlt' (AI hg hm1)) ?_
  by_cases b:p gs[m]=true
  ·rw[b]at hc
   refine cB [0] hc @bI (A5 @aD @aO @aE @aQ hcs) (A5 @aS @aT @bF @bE hr) ?_;refine goG fZ TI ?_;refine wG fZ TI ?_;rw[rB hlt hI b];exact bN (A5 @aD @aO @aE @aQ hcs)
  ·have b:p gs[m]=false:=by simpa using b
   rw[b]at hc;refine cB [0] hc @bI (A5 @aD @aO @aE @aQ hcs) (A5 @aS @aT @bF @bE hr) ?_;refine goG fZ TI ?_;refine wG fZ hm1 ?_;refine ALp.cutP 1 [(0,.sl (gs.map exV) .ro),(1,.fn (.func F) [] [.pt 0 0]),(7,(.im (.int .i64 (gs.length)))),(8,(.im (.int .i64 ((((m+1:Nat)):Int)))))] [.box cs] (A5 @aD @aO @aE @aQ hcs) ?_;exact hnext (m+1) (by omega) (by omega) (hI.succ hlt (by simp[b]))
 ·obtain rfl:m=gs.length:=by omega
  have hlt': ¬(gs.length:Int)<(gs.length:Int):=by omega
  clear hnext hlt;rw[rC hI];refine wG fZ hlt' ?_;exact bN (A5 @aD @aO @aE @aQ hcs)
theorem Lo{gs:List Ex}{F:FuncId}{cs:List V}(p:Ex→Bool)(hcs:V.idsL (ltB 1) cs=true)(hr:V.renL (gOf [0]) cs=cs)(hl:gs.length≤4194304)(hF: ∀t∈gs,DC Tryz.prog F [exV t,.pt 0 0] [.box cs] (.im (.bool (p t))) [.box cs]) :
  DC Tryz.prog 101 [.sl (gs.map exV) .ro,.fn (.func F) [] [.pt 0 0]] [.box cs] (.im (.bool (gs.any p))) [.box cs]:=by
 have h:=BK p hcs hr hl hF
 refine DC.enter 9 Tryz.func101 rfl (by decide) rfl rfl (s:=[(0,.sl (gs.map exV) .ro),(1,.fn (.func F) [] [.pt 0 0])]) (by rfl) ?_
 refine wG TI TI ?_
 refine cB [0] h TI (A5 @aD @aO @aE @aQ hcs) (A5 @aS @aT @bF @bE hr) ?_
 refine goG TI TI ?_
 rw[vH]
 refine wG TI TI ?_
 exact bN (A5 @aD @aO @aE @aQ hcs)
theorem BJ{gs:List Ex}{F:FuncId}{cs ds:List V}(p:Ex→Bool)(hcs:V.idsL (ltB 2) cs=true)(hr:V.renL (gOf [0,1]) cs=cs)(hds:V.idsL (ltB 2) ds=true)(hrs:V.renL (gOf [0,1]) ds=ds)(hl:gs.length≤4194304)(hF: ∀t∈gs,DC Tryz.prog F [exV t,.pt 0 0] [.box cs,.box ds] (.im (.bool (p t))) [.box cs,.box ds]) :
  DC Tryz.prog 165 [.sl (gs.map exV) .ro,.fn (.func F) [] [.pt 0 0]] [.box cs,.box ds] (.im (.int .i64 (idx gs p))) [.box cs,.box ds]:=by
 refine DC.enter 19 Tryz.func165 rfl (by decide) rfl rfl (s:=[(0,.sl (gs.map exV) .ro),(1,.fn (.func F) [] [.pt 0 0])]) (by rfl) ?_
 refine wG fZ TI ?_
 refine aP ?_
 refine ALp.cutP 2 [(0,.sl (gs.map exV) .ro),(1,.fn (.func F) [] [.pt 0 0]),(7,(.im (.int .i64 (gs.length)))),(8,(.im (.int .i64 ((((0:Nat)):Int)))))] [.box cs,.box ds] (A6 @aD @aO @aE @aQ hcs hds) ?_
 refine ALp.upto gs.length (AllTo (fun x=> !p x) gs) (fun m=>⟨dn 19 [(0,.sl (gs.map exV) .ro),(1,.fn (.func F) [] [.pt 0 0]),(7,(.im (.int .i64 (gs.length)))),(8,(.im (.int .i64 ((((m:Nat)):Int)))))],ofl [.box cs,.box ds]⟩) ?_ 0 (Nat.zero_le _) (AllTo.zero _ _)
 intro m hm hI hnext
 by_cases hlt:m<gs.length
 ·have hlt':(m:Int)<(gs.length:Int):=by omega
  have hg:=bB hlt;have hm1:=aL hlt (by omega)
  have hc:=hF gs[m] (List.getElem_mem hlt);refine wG fZ (A16 @fU @eI @fS @fR @fT @eJ @tP @qS @tN @tM @tO @qT @List.getElem?_map.{0,0} @Int.natCast_nonneg hlt' (AI hg hm1)) ?_
  by_cases b:p gs[m]=true
  ·rw[b]at hc
   refine cB [0,1] hc @bI (A6 @aD @aO @aE @aQ hcs hds) (A6 @aS @aT @bF @bE hr hrs) ?_;refine goG fZ TI ?_;refine wG fZ TI ?_;rw[rB hlt hI b];exact bN (A6 @aD @aO @aE @aQ hcs hds)
  ·have b:p gs[m]=false:=by simpa using b
   rw[b]at hc;refine cB [0,1] hc @bI (A6 @aD @aO @aE @aQ hcs hds) (A6 @aS @aT @bF @bE hr hrs) ?_;refine goG fZ TI ?_;refine wG fZ hm1 ?_;refine ALp.cutP 2 [(0,.sl (gs.map exV) .ro),(1,.fn (.func F) [] [.pt 0 0]),(7,(.im (.int .i64 (gs.length)))),(8,(.im (.int .i64 ((((m+1:Nat)):Int)))))] [.box cs,.box ds] (A6 @aD @aO @aE @aQ hcs hds) ?_;exact hnext (m+1) (by omega) (by omega) (hI.succ hlt (by simp[b]))
 ·obtain rfl:m=gs.length:=by omega
  have hlt': ¬(gs.length:Int)<(gs.length:Int):=by omega
  clear hnext hlt;rw[rC hI];refine wG fZ hlt' ?_;exact bN (A6 @aD @aO @aE @aQ hcs hds)
theorem Ln{gs:List Ex}{F:FuncId}{cs ds:List V}(p:Ex→Bool)(hcs:V.idsL (ltB 2) cs=true)(hr:V.renL (gOf [0,1]) cs=cs)(hds:V.idsL (ltB 2) ds=true)(hrs:V.renL (gOf [0,1]) ds=ds)(hl:gs.length≤4194304)(hF: ∀t∈gs,DC Tryz.prog F [exV t,.pt 0 0] [.box cs,.box ds] (.im (.bool (p t))) [.box cs,.box ds]) :
  DC Tryz.prog 101 [.sl (gs.map exV) .ro,.fn (.func F) [] [.pt 0 0]] [.box cs,.box ds] (.im (.bool (gs.any p))) [.box cs,.box ds]:=by
 have h:=BJ p hcs hr hds hrs hl hF
 refine DC.enter 9 Tryz.func101 rfl (by decide) rfl rfl (s:=[(0,.sl (gs.map exV) .ro),(1,.fn (.func F) [] [.pt 0 0])]) (by rfl) ?_
 refine wG TI TI ?_
 refine cB [0,1] h TI (A6 @aD @aO @aE @aQ hcs hds) (A6 @aS @aT @bF @bE hr hrs) ?_
 refine goG TI TI ?_
 rw[vH]
 refine wG TI TI ?_
 exact bN (A6 @aD @aO @aE @aQ hcs hds)
def sL:=A3 @Cz @kG @jO
theorem BH{gs:List Va}{F:FuncId}{cs:List V}(p:Va→Bool)(hcs:V.idsL (ltB 1) cs=true)(hr:V.renL (gOf [0]) cs=cs)(hl:gs.length≤4194304)(hF: ∀t∈gs,DC Tryz.prog F [vaV t,.pt 0 0] [.box cs] (.im (.bool (p t))) [.box cs]) :
  DC Tryz.prog 211 [.sl (gs.map vaV) .ro,.fn (.func F) [] [.pt 0 0]] [.box cs] (.im (.int .i64 (idx gs p))) [.box cs]:=by
 refine DC.enter 19 Tryz.func211 rfl (by decide) rfl rfl (s:=[(0,.sl (gs.map vaV) .ro),(1,.fn (.func F) [] [.pt 0 0])]) (by rfl) ?_
 refine wG sL TI ?_
 refine aP ?_
 refine ALp.cutP 1 [(0,.sl (gs.map vaV) .ro),(1,.fn (.func F) [] [.pt 0 0]),(7,(.im (.int .i64 (gs.length)))),(8,(.im (.int .i64 ((((0:Nat)):Int)))))] [.box cs] (A5 @aD @aO @aE @aQ hcs) ?_
 refine ALp.upto gs.length (AllTo (fun x=> !p x) gs) (fun m=>⟨dn 19 [(0,.sl (gs.map vaV) .ro),(1,.fn (.func F) [] [.pt 0 0]),(7,(.im (.int .i64 (gs.length)))),(8,(.im (.int .i64 ((((m:Nat)):Int)))))],ofl [.box cs]⟩) ?_ 0 (Nat.zero_le _) (AllTo.zero _ _)
 intro m hm hI hnext
 by_cases hlt:m<gs.length
 ·have hlt':(m:Int)<(gs.length:Int):=by omega
  have hg:=bB hlt;have hm1:=aL hlt (by omega)
  have hc:=hF gs[m] (List.getElem_mem hlt);refine wG sL (A16 @fU @eI @fS @fR @fT @eJ @tP @qS @tN @tM @tO @qT @List.getElem?_map.{0,0} @Int.natCast_nonneg hlt' (AI hg hm1)) ?_
  by_cases b:p gs[m]=true
  ·rw[b]at hc
   refine cB [0] hc @qA (A5 @aD @aO @aE @aQ hcs) (A5 @aS @aT @bF @bE hr) ?_;refine goG sL TI ?_;refine wG sL TI ?_;rw[rB hlt hI b];exact bN (A5 @aD @aO @aE @aQ hcs)
  ·have b:p gs[m]=false:=by simpa using b
   rw[b]at hc;refine cB [0] hc @qA (A5 @aD @aO @aE @aQ hcs) (A5 @aS @aT @bF @bE hr) ?_;refine goG sL TI ?_;refine wG sL hm1 ?_;refine ALp.cutP 1 [(0,.sl (gs.map vaV) .ro),(1,.fn (.func F) [] [.pt 0 0]),(7,(.im (.int .i64 (gs.length)))),(8,(.im (.int .i64 ((((m+1:Nat)):Int)))))] [.box cs] (A5 @aD @aO @aE @aQ hcs) ?_;exact hnext (m+1) (by omega) (by omega) (hI.succ hlt (by simp[b]))
 ·obtain rfl:m=gs.length:=by omega
  have hlt': ¬(gs.length:Int)<(gs.length:Int):=by omega
  clear hnext hlt;rw[rC hI];refine wG sL hlt' ?_;exact bN (A5 @aD @aO @aE @aQ hcs)
theorem Ll{gs:List Va}{F:FuncId}{cs:List V}(p:Va→Bool)(hcs:V.idsL (ltB 1) cs=true)(hr:V.renL (gOf [0]) cs=cs)(hl:gs.length≤4194304)(hF: ∀t∈gs,DC Tryz.prog F [vaV t,.pt 0 0] [.box cs] (.im (.bool (p t))) [.box cs]) :
  DC Tryz.prog 155 [.sl (gs.map vaV) .ro,.fn (.func F) [] [.pt 0 0]] [.box cs] (.im (.bool (gs.any p))) [.box cs]:=by
 have h:=BH p hcs hr hl hF
 refine DC.enter 9 Tryz.func155 rfl (by decide) rfl rfl (s:=[(0,.sl (gs.map vaV) .ro),(1,.fn (.func F) [] [.pt 0 0])]) (by rfl) ?_
 refine wG TI TI ?_
 refine cB [0] h TI (A5 @aD @aO @aE @aQ hcs) (A5 @aS @aT @bF @bE hr) ?_
 refine goG TI TI ?_
 rw[vH]
 refine wG TI TI ?_
 exact bN (A5 @aD @aO @aE @aQ hcs)
theorem kW{α:Type}(l:List α)(p:α→Bool):(!l.any fun x=> !p x)=l.all p:=by
 induction l with
 | nil=>rfl
 | cons x l ih=>simp only[List.any_cons,List.all_cons,Bool.not_or,Bool.not_not,ih]
def Mf:=A4 @cO @fE @cN @dP
theorem Qd{x:Ex}{n:Int}(hn:I64 n)(hn1:1≤n){r:Bool}(h:PC Tryz.prog 73 [exV x,(.im (.int .i64 (n-1)))] (.im (.bool (r)))):DC Tryz.prog 140 [exV x,.pt 0 0] [.box [(.im (.int .i64 (n)))]] (.im (.bool (!r))) [.box [(.im (.int .i64 (n)))]]:=by
 unfold I64 at hn
 have hw:IntKind.i64.wrap (n-1)=n-1:=cU (by omega)
 refine DC.enter 9 Tryz.func140 rfl (by decide) rfl rfl (s:=[(0,exV x),(1,.pt 0 0)]) (by rfl) ?_
 simp only[bI]
 refine wG Mf hw ?_
 refine AR.callP h @bI (A4 @aD @aO @aE @aQ) ?_
 refine goG Mf TI ?_
 refine wG Mf TI ?_
 exact bN (A4 @aD @aO @aE @aQ)
def Lx:=A5 @cO @iA @lM @cN @hX
theorem Tq: ∀(t:Ex),fitE t→ ∀(n:Int),I64 n→PC Tryz.prog 73 [exV t,(.im (.int .i64 (n)))] (.im (.bool (esh t n))):=by
 refine Ex.induct fun o k s w l hE=> ?_
 intro hfit n hn
 obtain⟨hl1,hfE⟩:=nS hfit
 have hn':=hn
 unfold I64 at hn'
 refine PC.enter 14 Tryz.func73 rfl (by decide) rfl rfl (s:=[(0,exV (.mk o k s w l)),(1,(.im (.int .i64 (n))))]) (by rfl) ?_
 simp only[gR]
 rw[Aj]
 by_cases h1:n≥1
 ·have e:decide (1≤n)=true:=by simp;omega
  have hc: ∀t∈l,DC Tryz.prog 140 [exV t,.pt 0 0] [.box [(.im (.int .i64 (n)))]] (.im (.bool (!esh t (n-1)))) [.box [(.im (.int .i64 (n)))]]:=fun t ht=>Qd hn (by omega) (hE t ht (hfE t ht) (n-1) (by unfold I64;omega))
  have hcc:=Lo (gs:=l) (F:=140) (cs:=[(.im (.int .i64 (n)))]) (fun t=> !esh t (n-1)) (by simp[V.idsL,V.ids]) (by simp only[SR]) hl1 hc
  rw[e,Bool.true_and];refine wG Lx h1 ?_;refine cB [1] hcc TI (A4 @aD @aO @aE @aQ) (A4 @aS @aT @bF @bE) ?_;refine goG Lx TI ?_;rw[kW];refine wG Lx TI ?_;exact aC
 ·have e:decide (1≤n)=false:=by simp;omega
  rw[e,Bool.false_and];refine wG Lx h1 ?_;exact aC
end Go.Proofs.YtmbmmckagcdapaaGreatDoor
