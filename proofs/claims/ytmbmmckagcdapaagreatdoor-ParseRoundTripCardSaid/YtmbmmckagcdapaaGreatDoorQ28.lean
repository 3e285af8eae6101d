import Derived.Test.YtmbmmckagcdapaaGreatDoorQ21
set_option linter.all false
namespace Go.Proofs.YtmbmmckagcdapaaGreatDoor
open Go.RowKit
def idx{α:Type}(l:List α)(p:α→Bool):Int:=match l.findIdx? p with
 | some k=>k
 | none=> -1
theorem rU{α:Type}{l:List α}{p:α→Bool}(h:AllTo (fun x=> !p x) l l.length):idx l p= -1:=by
 unfold idx
 have:l.findIdx? p=none:=by
  rw[List.findIdx?_eq_none_iff];intro x hx;obtain⟨j,hj,rfl⟩:=List.getElem_of_mem hx;simpa using h j hj hj
 rw[this]
theorem rT{α:Type}{l:List α}{p:α→Bool}{m:Nat}(hm:m<l.length)(h:AllTo (fun x=> !p x) l m)(hp:p l[m]=true):idx l p=m:=by
 unfold idx
 have:l.findIdx? p=some m:=by
  rw[List.findIdx?_eq_some_iff_getElem];exact⟨hm,hp,fun j hj=>by simpa using h j (by omega) hj⟩
 rw[this]
theorem wF{α:Type}(l:List α)(p:α→Bool):decide (idx l p≥0)=l.any p:=by
 unfold idx
 cases h:l.findIdx? p with
 | none =>
  rw[List.findIdx?_eq_none_iff]at h;have:l.any p=false:=by simpa using h
  rw[this]
  decide
 | some k =>
  rw[List.findIdx?_eq_some_iff_getElem]at h;obtain⟨hk,hp,_⟩:=h;have:l.any p=true:=List.any_eq_true.2 ⟨_,List.getElem_mem hk,hp⟩;rw[this];simp
def gC:=A3 @fB @gM @dK
theorem DE{gs:List Ex}{F:FuncId}(p:Ex→Bool)(hl:gs.length≤4194304)(hF: ∀t∈gs,PC Tryz.prog F [exV t] (.im (.bool (p t)))) :
  PC Tryz.prog 165 [.sl (gs.map exV) .ro,.fn (.func F) [] []] (.im (.int .i64 (idx gs p))):=by
 refine pcEnt 19 Tryz.func165 rfl [(0,.sl (gs.map exV) .ro),(1,.fn (.func F) [] [])] ?_
 refine wG gC TI ?_
 refine aP ?_
 refine ALp.cutP 0 [(0,.sl (gs.map exV) .ro),(1,.fn (.func F) [] []),(7,(.im (.int .i64 (gs.length)))),(8,(.im (.int .i64 ((((0:Nat)):Int)))))] [] (A4 @aD @aL @aE @aN) ?_
 refine aW gs.length (AllTo (fun x=> !p x) gs) (fun m=>⟨dn 19 [(0,.sl (gs.map exV) .ro),(1,.fn (.func F) [] []),(7,(.im (.int .i64 (gs.length)))),(8,(.im (.int .i64 ((((m:Nat)):Int)))))],ofl []⟩) ?_ 0 (Nat.zero_le _) (AllTo.zero _ _)
 intro m hm hI hnext
 by_cases hlt:m<gs.length
 ·have hlt':(m:Int)<(gs.length:Int):=by omega
  have hg:=bB hlt;have hm1:=aK hlt (by omega)
  have hc:=hF gs[m] (List.getElem_mem hlt);refine wG gC (A16 @gA @eO @fY @fX @fZ @eP @uH @rH @uF @uE @uG @rI @List.getElem?_map.{0,0} @Int.natCast_nonneg hlt' (AI hg hm1)) ?_
  by_cases b:p gs[m]=true
  ·rw[b]at hc
   refine AR.callP hc @bH (A4 @aD @aL @aE @aN) ?_;refine goG gC TI ?_;refine wG gC TI ?_;rw[rT hlt hI b];exact aB
  ·have b:p gs[m]=false:=by simpa using b
   rw[b]at hc;refine AR.callP hc @bH (A4 @aD @aL @aE @aN) ?_;refine goG gC TI ?_;refine wG gC hm1 ?_;refine ALp.cutP 0 [(0,.sl (gs.map exV) .ro),(1,.fn (.func F) [] []),(7,(.im (.int .i64 (gs.length)))),(8,(.im (.int .i64 ((((m+1:Nat)):Int)))))] [] (A4 @aD @aL @aE @aN) ?_;exact hnext (m+1) (by omega) (by omega) (hI.succ hlt (by simp[b]))
 ·obtain rfl:m=gs.length:=by omega
  have hlt': ¬(gs.length:Int)<(gs.length:Int):=by omega
  clear hnext hlt;rw[rU hI];refine wG gC hlt' ?_;exact aB
theorem oN{gs:List Ex}{F:FuncId}(p:Ex→Bool)(hl:gs.length≤4194304)(hF: ∀t∈gs,PC Tryz.prog F [exV t] (.im (.bool (p t)))) :
  PC Tryz.prog 101 [.sl (gs.map exV) .ro,.fn (.func F) [] []] (.im (.bool (gs.any p))):=by
 have h:=DE p hl hF
 refine pcEnt 9 Tryz.func101 rfl [(0,.sl (gs.map exV) .ro),(1,.fn (.func F) [] [])] ?_
 refine wG TI TI ?_
 refine AR.callP h TI (A4 @aD @aL @aE @aN) ?_
 refine goG TI TI ?_
 rw[wF]
 refine wG TI TI ?_
 exact aB
theorem DD{gs:List Ex}{F:FuncId}{cs:List V}(p:Ex→Bool)(hcs:V.idsL (ltB 1) cs=true)(hr:V.renL (gOf [0]) cs=cs)(hl:gs.length≤4194304)(hF: ∀t∈gs,DC Tryz.prog F [exV t,.pt 0 0] [.box cs] (.im (.bool (p t))) [.box cs]) :
  DC Tryz.prog 165 [.sl (gs.map exV) .ro,.fn (.func F) [] [.pt 0 0]] [.box cs] (.im (.int .i64 (idx gs p))) [.box cs]:=by
 refine dcEnt 19 Tryz.func165 rfl [(0,.sl (gs.map exV) .ro),(1,.fn (.func F) [] [.pt 0 0])] ?_
 refine wG gC TI ?_
 refine aP ?_
 refine ALp.cutP 1 [(0,.sl (gs.map exV) .ro),(1,.fn (.func F) [] [.pt 0 0]),(7,(.im (.int .i64 (gs.length)))),(8,(.im (.int .i64 ((((0:Nat)):Int)))))] [.box cs] (A5 @aD @aL @aE @aN hcs) ?_
 refine aW gs.length (AllTo (fun x=> !p x) gs) (fun m=>⟨dn 19 [(0,.sl (gs.map exV) .ro),(1,.fn (.func F) [] [.pt 0 0]),(7,(.im (.int .i64 (gs.length)))),(8,(.im (.int .i64 ((((m:Nat)):Int)))))],ofl [.box cs]⟩) ?_ 0 (Nat.zero_le _) (AllTo.zero _ _)
 intro m hm hI hnext
 by_cases hlt:m<gs.length
 ·have hlt':(m:Int)<(gs.length:Int):=by omega
  have hg:=bB hlt;have hm1:=aK hlt (by omega)
  have hc:=hF gs[m] (List.getElem_mem hlt);refine wG gC (A16 @gA @eO @fY @fX @fZ @eP @uH @rH @uF @uE @uG @rI @List.getElem?_map.{0,0} @Int.natCast_nonneg hlt' (AI hg hm1)) ?_
  by_cases b:p gs[m]=true
  ·rw[b]at hc
   refine cA [0] hc @bH (A5 @aD @aL @aE @aN hcs) (A5 @aQ @aR @bE @bD hr) ?_;refine goG gC TI ?_;refine wG gC TI ?_;rw[rT hlt hI b];exact bO (A5 @aD @aL @aE @aN hcs)
  ·have b:p gs[m]=false:=by simpa using b
   rw[b]at hc;refine cA [0] hc @bH (A5 @aD @aL @aE @aN hcs) (A5 @aQ @aR @bE @bD hr) ?_;refine goG gC TI ?_;refine wG gC hm1 ?_;refine ALp.cutP 1 [(0,.sl (gs.map exV) .ro),(1,.fn (.func F) [] [.pt 0 0]),(7,(.im (.int .i64 (gs.length)))),(8,(.im (.int .i64 ((((m+1:Nat)):Int)))))] [.box cs] (A5 @aD @aL @aE @aN hcs) ?_;exact hnext (m+1) (by omega) (by omega) (hI.succ hlt (by simp[b]))
 ·obtain rfl:m=gs.length:=by omega
  have hlt': ¬(gs.length:Int)<(gs.length:Int):=by omega
  clear hnext hlt;rw[rU hI];refine wG gC hlt' ?_;exact bO (A5 @aD @aL @aE @aN hcs)
theorem Nb{gs:List Ex}{F:FuncId}{cs:List V}(p:Ex→Bool)(hcs:V.idsL (ltB 1) cs=true)(hr:V.renL (gOf [0]) cs=cs)(hl:gs.length≤4194304)(hF: ∀t∈gs,DC Tryz.prog F [exV t,.pt 0 0] [.box cs] (.im (.bool (p t))) [.box cs]) :
  DC Tryz.prog 101 [.sl (gs.map exV) .ro,.fn (.func F) [] [.pt 0 0]] [.box cs] (.im (.bool (gs.any p))) [.box cs]:=by
 have h:=DD p hcs hr hl hF
 refine dcEnt 9 Tryz.func101 rfl [(0,.sl (gs.map exV) .ro),(1,.fn (.func F) [] [.pt 0 0])] ?_
 refine wG TI TI ?_
 refine cA [0] h TI (A5 @aD @aL @aE @aN hcs) (A5 @aQ @aR @bE @bD hr) ?_
 refine goG TI TI ?_
 rw[wF]
 refine wG TI TI ?_
 exact bO (A5 @aD @aL @aE @aN hcs)
theorem DB{gs:List Ex}{F:FuncId}{cs ds:List V}(p:Ex→Bool)(hcs:V.idsL (ltB 2) cs=true)(hr:V.renL (gOf [0,1]) cs=cs)(hds:V.idsL (ltB 2) ds=true)(hrs:V.renL (gOf [0,1]) ds=ds)(hl:gs.length≤4194304)(hF: ∀t∈gs,DC Tryz.prog F [exV t,.pt 0 0] [.box cs,.box ds] (.im (.bool (p t))) [.box cs,.box ds]) :
  DC Tryz.prog 165 [.sl (gs.map exV) .ro,.fn (.func F) [] [.pt 0 0]] [.box cs,.box ds] (.im (.int .i64 (idx gs p))) [.box cs,.box ds]:=by
 refine dcEnt 19 Tryz.func165 rfl [(0,.sl (gs.map exV) .ro),(1,.fn (.func F) [] [.pt 0 0])] ?_
 refine wG gC TI ?_
 refine aP ?_
 refine ALp.cutP 2 [(0,.sl (gs.map exV) .ro),(1,.fn (.func F) [] [.pt 0 0]),(7,(.im (.int .i64 (gs.length)))),(8,(.im (.int .i64 ((((0:Nat)):Int)))))] [.box cs,.box ds] (A6 @aD @aL @aE @aN hcs hds) ?_
 refine aW gs.length (AllTo (fun x=> !p x) gs) (fun m=>⟨dn 19 [(0,.sl (gs.map exV) .ro),(1,.fn (.func F) [] [.pt 0 0]),(7,(.im (.int .i64 (gs.length)))),(8,(.im (.int .i64 ((((m:Nat)):Int)))))],ofl [.box cs,.box ds]⟩) ?_ 0 (Nat.zero_le _) (AllTo.zero _ _)
 intro m hm hI hnext
 by_cases hlt:m<gs.length
 ·have hlt':(m:Int)<(gs.length:Int):=by omega
  have hg:=bB hlt;have hm1:=aK hlt (by omega)
  have hc:=hF gs[m] (List.getElem_mem hlt);refine wG gC (A16 @gA @eO @fY @fX @fZ @eP @uH @rH @uF @uE @uG @rI @List.getElem?_map.{0,0} @Int.natCast_nonneg hlt' (AI hg hm1)) ?_
  by_cases b:p gs[m]=true
  ·rw[b]at hc
   refine cA [0,1] hc @bH (A6 @aD @aL @aE @aN hcs hds) (A6 @aQ @aR @bE @bD hr hrs) ?_;refine goG gC TI ?_;refine wG gC TI ?_;rw[rT hlt hI b];exact bO (A6 @aD @aL @aE @aN hcs hds)
  ·have b:p gs[m]=false:=by simpa using b
   rw[b]at hc;refine cA [0,1] hc @bH (A6 @aD @aL @aE @aN hcs hds) (A6 @aQ @aR @bE @bD hr hrs) ?_;refine goG gC TI ?_;refine wG gC hm1 ?_;refine ALp.cutP 2 [(0,.sl (gs.map exV) .ro),(1,.fn (.func F) [] [.pt 0 0]),(7,(.im (.int .i64 (gs.length)))),(8,(.im (.int .i64 ((((m+1:Nat)):Int)))))] [.box cs,.box ds] (A6 @aD @aL @aE @aN hcs hds) ?_;exact hnext (m+1) (by omega) (by omega) (hI.succ hlt (by simp[b]))
 ·obtain rfl:m=gs.length:=by omega
  have hlt': ¬(gs.length:Int)<(gs.length:Int):=by omega
  clear hnext hlt;rw[rU hI];refine wG gC hlt' ?_;exact bO (A6 @aD @aL @aE @aN hcs hds)
theorem Na{gs:List Ex}{F:FuncId}{cs ds:List V}(p:Ex→Bool)(hcs:V.idsL (ltB 2) cs=true)(hr:V.renL (gOf [0,1]) cs=cs)(hds:V.idsL (ltB 2) ds=true)(hrs:V.renL (gOf [0,1]) ds=ds)(hl:gs.length≤4194304)(hF: ∀t∈gs,DC Tryz.prog F [exV t,.pt 0 0] [.box cs,.box ds] (.im (.bool (p t))) [.box cs,.box ds]) :
  DC Tryz.prog 101 [.sl (gs.map exV) .ro,.fn (.func F) [] [.pt 0 0]] [.box cs,.box ds] (.im (.bool (gs.any p))) [.box cs,.box ds]:=by
 have h:=DB p hcs hr hds hrs hl hF
 refine dcEnt 9 Tryz.func101 rfl [(0,.sl (gs.map exV) .ro),(1,.fn (.func F) [] [.pt 0 0])] ?_
 refine wG TI TI ?_
 refine cA [0,1] h TI (A6 @aD @aL @aE @aN hcs hds) (A6 @aQ @aR @bE @bD hr hrs) ?_
 refine goG TI TI ?_
 rw[wF]
 refine wG TI TI ?_
 exact bO (A6 @aD @aL @aE @aN hcs hds)
def tE:=A3 @Ad @jZ @jM
theorem CZ{gs:List Va}{F:FuncId}{cs:List V}(p:Va→Bool)(hcs:V.idsL (ltB 1) cs=true)(hr:V.renL (gOf [0]) cs=cs)(hl:gs.length≤4194304)(hF: ∀t∈gs,DC Tryz.prog F [vaV t,.pt 0 0] [.box cs] (.im (.bool (p t))) [.box cs]) :
  DC Tryz.prog 211 [.sl (gs.map vaV) .ro,.fn (.func F) [] [.pt 0 0]] [.box cs] (.im (.int .i64 (idx gs p))) [.box cs]:=by
 refine dcEnt 19 Tryz.func211 rfl [(0,.sl (gs.map vaV) .ro),(1,.fn (.func F) [] [.pt 0 0])] ?_
 refine wG tE TI ?_
 refine aP ?_
 refine ALp.cutP 1 [(0,.sl (gs.map vaV) .ro),(1,.fn (.func F) [] [.pt 0 0]),(7,(.im (.int .i64 (gs.length)))),(8,(.im (.int .i64 ((((0:Nat)):Int)))))] [.box cs] (A5 @aD @aL @aE @aN hcs) ?_
 refine aW gs.length (AllTo (fun x=> !p x) gs) (fun m=>⟨dn 19 [(0,.sl (gs.map vaV) .ro),(1,.fn (.func F) [] [.pt 0 0]),(7,(.im (.int .i64 (gs.length)))),(8,(.im (.int .i64 ((((m:Nat)):Int)))))],ofl [.box cs]⟩) ?_ 0 (Nat.zero_le _) (AllTo.zero _ _)
 intro m hm hI hnext
 by_cases hlt:m<gs.length
 ·have hlt':(m:Int)<(gs.length:Int):=by omega
  have hg:=bB hlt;have hm1:=aK hlt (by omega)
  have hc:=hF gs[m] (List.getElem_mem hlt);refine wG tE (A16 @gA @eO @fY @fX @fZ @eP @uH @rH @uF @uE @uG @rI @List.getElem?_map.{0,0} @Int.natCast_nonneg hlt' (AI hg hm1)) ?_
  by_cases b:p gs[m]=true
  ·rw[b]at hc
   refine cA [0] hc @qR (A5 @aD @aL @aE @aN hcs) (A5 @aQ @aR @bE @bD hr) ?_;refine goG tE TI ?_;refine wG tE TI ?_;rw[rT hlt hI b];exact bO (A5 @aD @aL @aE @aN hcs)
  ·have b:p gs[m]=false:=by simpa using b
   rw[b]at hc;refine cA [0] hc @qR (A5 @aD @aL @aE @aN hcs) (A5 @aQ @aR @bE @bD hr) ?_;refine goG tE TI ?_;refine wG tE hm1 ?_;refine ALp.cutP 1 [(0,.sl (gs.map vaV) .ro),(1,.fn (.func F) [] [.pt 0 0]),(7,(.im (.int .i64 (gs.length)))),(8,(.im (.int .i64 ((((m+1:Nat)):Int)))))] [.box cs] (A5 @aD @aL @aE @aN hcs) ?_;exact hnext (m+1) (by omega) (by omega) (hI.succ hlt (by simp[b]))
 ·obtain rfl:m=gs.length:=by omega
  have hlt': ¬(gs.length:Int)<(gs.length:Int):=by omega
  clear hnext hlt;rw[rU hI];refine wG tE hlt' ?_;exact bO (A5 @aD @aL @aE @aN hcs)
theorem My{gs:List Va}{F:FuncId}{cs:List V}(p:Va→Bool)(hcs:V.idsL (ltB 1) cs=true)(hr:V.renL (gOf [0]) cs=cs)(hl:gs.length≤4194304)(hF: ∀t∈gs,DC Tryz.prog F [vaV t,.pt 0 0] [.box cs] (.im (.bool (p t))) [.box cs]) :
  DC Tryz.prog 155 [.sl (gs.map vaV) .ro,.fn (.func F) [] [.pt 0 0]] [.box cs] (.im (.bool (gs.any p))) [.box cs]:=by
 have h:=CZ p hcs hr hl hF
 refine dcEnt 9 Tryz.func155 rfl [(0,.sl (gs.map vaV) .ro),(1,.fn (.func F) [] [.pt 0 0])] ?_
 refine wG TI TI ?_
 refine cA [0] h TI (A5 @aD @aL @aE @aN hcs) (A5 @aQ @aR @bE @bD hr) ?_
 refine goG TI TI ?_
 rw[wF]
 refine wG TI TI ?_
 exact bO (A5 @aD @aL @aE @aN hcs)
theorem lC{α:Type}(l:List α)(p:α→Bool):(!l.any fun x=> !p x)=l.all p:=by
 induction l with
 | nil=>rfl
 | cons x l ih=>simp only[List.any_cons,List.all_cons,Bool.not_or,Bool.not_not,ih]
def Ob:=A4 @cO @fB @cN @dK
theorem Sb{x:Ex}{n:Int}(hn:I64 n)(hn1:1≤n){r:Bool}(h:PC Tryz.prog 73 [exV x,(.im (.int .i64 (n-1)))] (.im (.bool (r)))):DC Tryz.prog 140 [exV x,.pt 0 0] [.box [(.im (.int .i64 (n)))]] (.im (.bool (!r))) [.box [(.im (.int .i64 (n)))]]:=by
 unfold I64 at hn
 have hw:IntKind.i64.wrap (n-1)=n-1:=cU (by omega)
 refine dcEnt 9 Tryz.func140 rfl [(0,exV x),(1,.pt 0 0)] ?_
 simp only[bH]
 refine wG Ob hw ?_
 refine AR.callP h @bH (A4 @aD @aL @aE @aN) ?_
 refine goG Ob TI ?_
 refine wG Ob TI ?_
 exact bO (A4 @aD @aL @aE @aN)
def Ns:=A5 @cO @hU @lU @cN @hM
theorem Hc: ∀(t:Ex),fitE t→ ∀(n:Int),I64 n→PC Tryz.prog 73 [exV t,(.im (.int .i64 (n)))] (.im (.bool (esh t n))):=by
 refine Ex.induct fun o k s w l hE=> ?_
 intro hfit n hn
 obtain⟨hl1,hfE⟩:=pZ hfit
 have hn':=hn
 unfold I64 at hn'
 refine pcEnt 14 Tryz.func73 rfl [(0,exV (.mk o k s w l)),(1,(.im (.int .i64 (n))))] ?_
 simp only[gV]
 rw[Bq]
 by_cases h1:n≥1
 ·have e:decide (1≤n)=true:=by simp;omega
  have hc: ∀t∈l,DC Tryz.prog 140 [exV t,.pt 0 0] [.box [(.im (.int .i64 (n)))]] (.im (.bool (!esh t (n-1)))) [.box [(.im (.int .i64 (n)))]]:=fun t ht=>Sb hn (by omega) (hE t ht (hfE t ht) (n-1) (by unfold I64;omega))
  have hcc:=Nb (gs:=l) (F:=140) (cs:=[(.im (.int .i64 (n)))]) (fun t=> !esh t (n-1)) (by simp[V.idsL,V.ids]) (by simp only[SR]) hl1 hc
  rw[e,Bool.true_and];refine wG Ns h1 ?_;refine cA [1] hcc TI (A4 @aD @aL @aE @aN) (A4 @aQ @aR @bE @bD) ?_;refine goG Ns TI ?_;rw[lC];refine wG Ns TI ?_;exact aB
 ·have e:decide (1≤n)=false:=by simp;omega
  rw[e,Bool.false_and];refine wG Ns h1 ?_;exact aB
end Go.Proofs.YtmbmmckagcdapaaGreatDoor
