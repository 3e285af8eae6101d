import Derived.Test.YtmbmmckagcdapaaGreatDoorV12
set_option linter.all false
namespace Go.Proofs.YtmbmmckagcdapaaGreatDoor
open Go.RowKit
def idx{α:Type}(l:List α)(p:α→Bool):Int:=match l.findIdx? p with
 | some k=>k
 | none=> -1
theorem tB{α:Type}{l:List α}{p:α→Bool}(h:AllTo (fun x=> !p x) l l.length):idx l p= -1:=by
 unfold idx
 have:l.findIdx? p=none:=by
  rw[List.findIdx?_eq_none_iff];intro x hx;obtain⟨j,hj,rfl⟩:=List.getElem_of_mem hx;simpa using h j hj hj
 rw[this]
theorem tA{α:Type}{l:List α}{p:α→Bool}{m:Nat}(hm:m<l.length)(h:AllTo (fun x=> !p x) l m)(hp:p l[m]=true):idx l p=m:=by
 unfold idx
 have:l.findIdx? p=some m:=by
  rw[List.findIdx?_eq_some_iff_getElem];exact⟨hm,hp,fun j hj=>by simpa using h j (by omega) hj⟩
 rw[this]
theorem wI{α:Type}(l:List α)(p:α→Bool):decide (idx l p≥0)=l.any p:=by
 unfold idx
 cases h:l.findIdx? p with
 | none =>
  rw[List.findIdx?_eq_none_iff]at h;have:l.any p=false:=by simpa using h
  rw[this]
  decide
 | some k =>
  rw[List.findIdx?_eq_some_iff_getElem]at h;obtain⟨hk,hp,_⟩:=h;have:l.any p=true:=List.any_eq_true.2 ⟨_,List.getElem_mem hk,hp⟩;rw[this];simp
def iG:=A3 @fD @fG @eF
theorem Xw{gs:List Ex}{F:FuncId}(p:Ex→Bool)(hl:gs.length≤4194304)(hF: ∀t∈gs,PC Tryz.prog F [exV t] (.im (.bool (p t)))) :
  PC Tryz.prog 165 [.sl (gs.map exV) .ro,.fn (.func F) [] []] (.im (.int .i64 (idx gs p))):=by
 refine pcEnt 19 Tryz.func165 rfl [(0,.sl (gs.map exV) .ro),(1,.fn (.func F) [] [])] ?_
 refine wG iG TI ?_
 refine aT ?_
 refine ALp.cutP 0 [(0,.sl (gs.map exV) .ro),(1,.fn (.func F) [] []),(7,(.im (.int .i64 (gs.length)))),(8,(.im (.int .i64 ((((0:Nat)):Int)))))] [] (A4 @aE @aK @aF @aL) ?_
 refine ALp.upto gs.length (AllTo (fun x=> !p x) gs) (fun m=>⟨dn 19 [(0,.sl (gs.map exV) .ro),(1,.fn (.func F) [] []),(7,(.im (.int .i64 (gs.length)))),(8,(.im (.int .i64 ((((m:Nat)):Int)))))],ofl []⟩) ?_ 0 (Nat.zero_le _) (AllTo.zero _ _)
 intro m hm hI hnext
 by_cases hlt:m<gs.length
 ·have hlt':(m:Int)<(gs.length:Int):=by omega
  have hg:=bJ hlt;have hm1:=aQ hlt (by omega)
  have hc:=hF gs[m] (List.getElem_mem hlt);refine wG iG (A16 @dJ @cQ @dH @dG @dI @cR @jE @gT @jC @jB @jD @gU @List.getElem?_map.{0,0} @Int.natCast_nonneg hlt' (AI hg hm1)) ?_
  by_cases b:p gs[m]=true
  ·rw[b]at hc
   refine AR.callP hc @bW (A4 @aE @aK @aF @aL) ?_;refine goG iG TI ?_;refine wG iG TI ?_;rw[tA hlt hI b];exact aD
  ·have b:p gs[m]=false:=by simpa using b
   rw[b]at hc;refine AR.callP hc @bW (A4 @aE @aK @aF @aL) ?_;refine goG iG TI ?_;refine wG iG hm1 ?_;refine ALp.cutP 0 [(0,.sl (gs.map exV) .ro),(1,.fn (.func F) [] []),(7,(.im (.int .i64 (gs.length)))),(8,(.im (.int .i64 ((((m+1:Nat)):Int)))))] [] (A4 @aE @aK @aF @aL) ?_;exact hnext (m+1) (by omega) (by omega) (hI.succ hlt (by simp[b]))
 ·obtain rfl:m=gs.length:=by omega
  have hlt': ¬(gs.length:Int)<(gs.length:Int):=by omega
  clear hnext hlt;rw[tB hI];refine wG iG hlt' ?_;exact aD
theorem uA{gs:List Ex}{F:FuncId}(p:Ex→Bool)(hl:gs.length≤4194304)(hF: ∀t∈gs,PC Tryz.prog F [exV t] (.im (.bool (p t)))) :
  PC Tryz.prog 101 [.sl (gs.map exV) .ro,.fn (.func F) [] []] (.im (.bool (gs.any p))):=by
 have h:=Xw p hl hF
 refine pcEnt 9 Tryz.func101 rfl [(0,.sl (gs.map exV) .ro),(1,.fn (.func F) [] [])] ?_
 refine wG TI TI ?_
 refine AR.callP h TI (A4 @aE @aK @aF @aL) ?_
 refine goG TI TI ?_
 rw[wI]
 refine wG TI TI ?_
 exact aD
theorem Xv{gs:List Ex}{F:FuncId}{cs:List V}(p:Ex→Bool)(hcs:V.idsL (ltB 1) cs=true)(hr:V.renL (gOf [0]) cs=cs)(hl:gs.length≤4194304)(hF: ∀t∈gs,DC Tryz.prog F [exV t,.pt 0 0] [.box cs] (.im (.bool (p t))) [.box cs]) :
  DC Tryz.prog 165 [.sl (gs.map exV) .ro,.fn (.func F) [] [.pt 0 0]] [.box cs] (.im (.int .i64 (idx gs p))) [.box cs]:=by
 refine dcEnt 19 Tryz.func165 rfl [(0,.sl (gs.map exV) .ro),(1,.fn (.func F) [] [.pt 0 0])] ?_
 refine wG iG TI ?_
 refine aT ?_
 refine ALp.cutP 1 [(0,.sl (gs.map exV) .ro),(1,.fn (.func F) [] [.pt 0 0]),(7,(.im (.int .i64 (gs.length)))),(8,(.im (.int .i64 ((((0:Nat)):Int)))))] [.box cs] (A5 @aE @aK @aF @aL hcs) ?_
 refine ALp.upto gs.length (AllTo (fun x=> !p x) gs) (fun m=>⟨dn 19 [(0,.sl (gs.map exV) .ro),(1,.fn (.func F) [] [.pt 0 0]),(7,(.im (.int .i64 (gs.length)))),(8,(.im (.int .i64 ((((m:Nat)):Int)))))],ofl [.box cs]⟩) ?_ 0 (Nat.zero_le _) (AllTo.zero _ _)
 intro m hm hI hnext
 by_cases hlt:m<gs.length
 ·have hlt':(m:Int)<(gs.length:Int):=by omega
  have hg:=bJ hlt;have hm1:=aQ hlt (by omega)
  have hc:=hF gs[m] (List.getElem_mem hlt);refine wG iG (A16 @dJ @cQ @dH @dG @dI @cR @jE @gT @jC @jB @jD @gU @List.getElem?_map.{0,0} @Int.natCast_nonneg hlt' (AI hg hm1)) ?_
  by_cases b:p gs[m]=true
  ·rw[b]at hc
   refine dB [0] hc @bW (A5 @aE @aK @aF @aL hcs) (A5 @aN @aO @bI @bF hr) ?_;refine goG iG TI ?_;refine wG iG TI ?_;rw[tA hlt hI b];exact cM (A5 @aE @aK @aF @aL hcs)
  ·have b:p gs[m]=false:=by simpa using b
   rw[b]at hc;refine dB [0] hc @bW (A5 @aE @aK @aF @aL hcs) (A5 @aN @aO @bI @bF hr) ?_;refine goG iG TI ?_;refine wG iG hm1 ?_;refine ALp.cutP 1 [(0,.sl (gs.map exV) .ro),(1,.fn (.func F) [] [.pt 0 0]),(7,(.im (.int .i64 (gs.length)))),(8,(.im (.int .i64 ((((m+1:Nat)):Int)))))] [.box cs] (A5 @aE @aK @aF @aL hcs) ?_;exact hnext (m+1) (by omega) (by omega) (hI.succ hlt (by simp[b]))
 ·obtain rfl:m=gs.length:=by omega
  have hlt': ¬(gs.length:Int)<(gs.length:Int):=by omega
  clear hnext hlt;rw[tB hI];refine wG iG hlt' ?_;exact cM (A5 @aE @aK @aF @aL hcs)
theorem Ld{gs:List Ex}{F:FuncId}{cs:List V}(p:Ex→Bool)(hcs:V.idsL (ltB 1) cs=true)(hr:V.renL (gOf [0]) cs=cs)(hl:gs.length≤4194304)(hF: ∀t∈gs,DC Tryz.prog F [exV t,.pt 0 0] [.box cs] (.im (.bool (p t))) [.box cs]) :
  DC Tryz.prog 101 [.sl (gs.map exV) .ro,.fn (.func F) [] [.pt 0 0]] [.box cs] (.im (.bool (gs.any p))) [.box cs]:=by
 have h:=Xv p hcs hr hl hF
 refine dcEnt 9 Tryz.func101 rfl [(0,.sl (gs.map exV) .ro),(1,.fn (.func F) [] [.pt 0 0])] ?_
 refine wG TI TI ?_
 refine dB [0] h TI (A5 @aE @aK @aF @aL hcs) (A5 @aN @aO @bI @bF hr) ?_
 refine goG TI TI ?_
 rw[wI]
 refine wG TI TI ?_
 exact cM (A5 @aE @aK @aF @aL hcs)
theorem Xu{gs:List Ex}{F:FuncId}{cs ds:List V}(p:Ex→Bool)(hcs:V.idsL (ltB 2) cs=true)(hr:V.renL (gOf [0,1]) cs=cs)(hds:V.idsL (ltB 2) ds=true)(hrs:V.renL (gOf [0,1]) ds=ds)(hl:gs.length≤4194304)(hF: ∀t∈gs,DC Tryz.prog F [exV t,.pt 0 0] [.box cs,.box ds] (.im (.bool (p t))) [.box cs,.box ds]) :
  DC Tryz.prog 165 [.sl (gs.map exV) .ro,.fn (.func F) [] [.pt 0 0]] [.box cs,.box ds] (.im (.int .i64 (idx gs p))) [.box cs,.box ds]:=by
 refine dcEnt 19 Tryz.func165 rfl [(0,.sl (gs.map exV) .ro),(1,.fn (.func F) [] [.pt 0 0])] ?_
 refine wG iG TI ?_
 refine aT ?_
 refine ALp.cutP 2 [(0,.sl (gs.map exV) .ro),(1,.fn (.func F) [] [.pt 0 0]),(7,(.im (.int .i64 (gs.length)))),(8,(.im (.int .i64 ((((0:Nat)):Int)))))] [.box cs,.box ds] (A6 @aE @aK @aF @aL hcs hds) ?_
 refine ALp.upto gs.length (AllTo (fun x=> !p x) gs) (fun m=>⟨dn 19 [(0,.sl (gs.map exV) .ro),(1,.fn (.func F) [] [.pt 0 0]),(7,(.im (.int .i64 (gs.length)))),(8,(.im (.int .i64 ((((m:Nat)):Int)))))],ofl [.box cs,.box ds]⟩) ?_ 0 (Nat.zero_le _) (AllTo.zero _ _)
 intro m hm hI hnext
 by_cases hlt:m<gs.length
 ·have hlt':(m:Int)<(gs.length:Int):=by omega
  have hg:=bJ hlt;have hm1:=aQ hlt (by omega)
  have hc:=hF gs[m] (List.getElem_mem hlt);refine wG iG (A16 @dJ @cQ @dH @dG @dI @cR @jE @gT @jC @jB @jD @gU @List.getElem?_map.{0,0} @Int.natCast_nonneg hlt' (AI hg hm1)) ?_
  by_cases b:p gs[m]=true
  ·rw[b]at hc
   refine dB [0,1] hc @bW (A6 @aE @aK @aF @aL hcs hds) (A6 @aN @aO @bI @bF hr hrs) ?_;refine goG iG TI ?_;refine wG iG TI ?_;rw[tA hlt hI b];exact cM (A6 @aE @aK @aF @aL hcs hds)
  ·have b:p gs[m]=false:=by simpa using b
   rw[b]at hc;refine dB [0,1] hc @bW (A6 @aE @aK @aF @aL hcs hds) (A6 @aN @aO @bI @bF hr hrs) ?_;refine goG iG TI ?_;refine wG iG hm1 ?_;refine ALp.cutP 2 [(0,.sl (gs.map exV) .ro),(1,.fn (.func F) [] [.pt 0 0]),(7,(.im (.int .i64 (gs.length)))),(8,(.im (.int .i64 ((((m+1:Nat)):Int)))))] [.box cs,.box ds] (A6 @aE @aK @aF @aL hcs hds) ?_;exact hnext (m+1) (by omega) (by omega) (hI.succ hlt (by simp[b]))
 ·obtain rfl:m=gs.length:=by omega
  have hlt': ¬(gs.length:Int)<(gs.length:Int):=by omega
  clear hnext hlt;rw[tB hI];refine wG iG hlt' ?_;exact cM (A6 @aE @aK @aF @aL hcs hds)
theorem Lc{gs:List Ex}{F:FuncId}{cs ds:List V}(p:Ex→Bool)(hcs:V.idsL (ltB 2) cs=true)(hr:V.renL (gOf [0,1]) cs=cs)(hds:V.idsL (ltB 2) ds=true)(hrs:V.renL (gOf [0,1]) ds=ds)(hl:gs.length≤4194304)(hF: ∀t∈gs,DC Tryz.prog F [exV t,.pt 0 0] [.box cs,.box ds] (.im (.bool (p t))) [.box cs,.box ds]) :
  DC Tryz.prog 101 [.sl (gs.map exV) .ro,.fn (.func F) [] [.pt 0 0]] [.box cs,.box ds] (.im (.bool (gs.any p))) [.box cs,.box ds]:=by
 have h:=Xu p hcs hr hds hrs hl hF
 refine dcEnt 9 Tryz.func101 rfl [(0,.sl (gs.map exV) .ro),(1,.fn (.func F) [] [.pt 0 0])] ?_
 refine wG TI TI ?_
 refine dB [0,1] h TI (A6 @aE @aK @aF @aL hcs hds) (A6 @aN @aO @bI @bF hr hrs) ?_
 refine goG TI TI ?_
 rw[wI]
 refine wG TI TI ?_
 exact cM (A6 @aE @aK @aF @aL hcs hds)
def uG:=A3 @Do @kQ @jS
theorem Xs{gs:List Va}{F:FuncId}{cs:List V}(p:Va→Bool)(hcs:V.idsL (ltB 1) cs=true)(hr:V.renL (gOf [0]) cs=cs)(hl:gs.length≤4194304)(hF: ∀t∈gs,DC Tryz.prog F [vaV t,.pt 0 0] [.box cs] (.im (.bool (p t))) [.box cs]) :
  DC Tryz.prog 211 [.sl (gs.map vaV) .ro,.fn (.func F) [] [.pt 0 0]] [.box cs] (.im (.int .i64 (idx gs p))) [.box cs]:=by
 refine dcEnt 19 Tryz.func211 rfl [(0,.sl (gs.map vaV) .ro),(1,.fn (.func F) [] [.pt 0 0])] ?_
 refine wG uG TI ?_
 refine aT ?_
 refine ALp.cutP 1 [(0,.sl (gs.map vaV) .ro),(1,.fn (.func F) [] [.pt 0 0]),(7,(.im (.int .i64 (gs.length)))),(8,(.im (.int .i64 ((((0:Nat)):Int)))))] [.box cs] (A5 @aE @aK @aF @aL hcs) ?_
 refine ALp.upto gs.length (AllTo (fun x=> !p x) gs) (fun m=>⟨dn 19 [(0,.sl (gs.map vaV) .ro),(1,.fn (.func F) [] [.pt 0 0]),(7,(.im (.int .i64 (gs.length)))),(8,(.im (.int .i64 ((((m:Nat)):Int)))))],ofl [.box cs]⟩) ?_ 0 (Nat.zero_le _) (AllTo.zero _ _)
 intro m hm hI hnext
 by_cases hlt:m<gs.length
 ·have hlt':(m:Int)<(gs.length:Int):=by omega
  have hg:=bJ hlt;have hm1:=aQ hlt (by omega)
  have hc:=hF gs[m] (List.getElem_mem hlt);refine wG uG (A16 @dJ @cQ @dH @dG @dI @cR @jE @gT @jC @jB @jD @gU @List.getElem?_map.{0,0} @Int.natCast_nonneg hlt' (AI hg hm1)) ?_
  by_cases b:p gs[m]=true
  ·rw[b]at hc
   refine dB [0] hc @Ai (A5 @aE @aK @aF @aL hcs) (A5 @aN @aO @bI @bF hr) ?_;refine goG uG TI ?_;refine wG uG TI ?_;rw[tA hlt hI b];exact cM (A5 @aE @aK @aF @aL hcs)
  ·have b:p gs[m]=false:=by simpa using b
   rw[b]at hc;refine dB [0] hc @Ai (A5 @aE @aK @aF @aL hcs) (A5 @aN @aO @bI @bF hr) ?_;refine goG uG TI ?_;refine wG uG hm1 ?_;refine ALp.cutP 1 [(0,.sl (gs.map vaV) .ro),(1,.fn (.func F) [] [.pt 0 0]),(7,(.im (.int .i64 (gs.length)))),(8,(.im (.int .i64 ((((m+1:Nat)):Int)))))] [.box cs] (A5 @aE @aK @aF @aL hcs) ?_;exact hnext (m+1) (by omega) (by omega) (hI.succ hlt (by simp[b]))
 ·obtain rfl:m=gs.length:=by omega
  have hlt': ¬(gs.length:Int)<(gs.length:Int):=by omega
  clear hnext hlt;rw[tB hI];refine wG uG hlt' ?_;exact cM (A5 @aE @aK @aF @aL hcs)
theorem La{gs:List Va}{F:FuncId}{cs:List V}(p:Va→Bool)(hcs:V.idsL (ltB 1) cs=true)(hr:V.renL (gOf [0]) cs=cs)(hl:gs.length≤4194304)(hF: ∀t∈gs,DC Tryz.prog F [vaV t,.pt 0 0] [.box cs] (.im (.bool (p t))) [.box cs]) :
  DC Tryz.prog 155 [.sl (gs.map vaV) .ro,.fn (.func F) [] [.pt 0 0]] [.box cs] (.im (.bool (gs.any p))) [.box cs]:=by
 have h:=Xs p hcs hr hl hF
 refine dcEnt 9 Tryz.func155 rfl [(0,.sl (gs.map vaV) .ro),(1,.fn (.func F) [] [.pt 0 0])] ?_
 refine wG TI TI ?_
 refine dB [0] h TI (A5 @aE @aK @aF @aL hcs) (A5 @aN @aO @bI @bF hr) ?_
 refine goG TI TI ?_
 rw[wI]
 refine wG TI TI ?_
 exact cM (A5 @aE @aK @aF @aL hcs)
theorem mJ{α:Type}(l:List α)(p:α→Bool):(!l.any fun x=> !p x)=l.all p:=by
 induction l with
 | nil=>rfl
 | cons x l ih=>simp only[List.any_cons,List.all_cons,Bool.not_or,Bool.not_not,ih]
def Ls:=A4 @cJ @fD @cH @eF
theorem Pb{x:Ex}{n:Int}(hn:I64 n)(hn1:1≤n){r:Bool}(h:PC Tryz.prog 73 [exV x,(.im (.int .i64 (n-1)))] (.im (.bool (r)))):DC Tryz.prog 140 [exV x,.pt 0 0] [.box [(.im (.int .i64 (n)))]] (.im (.bool (!r))) [.box [(.im (.int .i64 (n)))]]:=by
 unfold I64 at hn
 have hw:IntKind.i64.wrap (n-1)=n-1:=cI (by omega)
 refine dcEnt 9 Tryz.func140 rfl [(0,exV x),(1,.pt 0 0)] ?_
 simp only[bW]
 refine wG Ls hw ?_
 refine AR.callP h @bW (A4 @aE @aK @aF @aL) ?_
 refine goG Ls TI ?_
 refine wG Ls TI ?_
 exact cM (A4 @aE @aK @aF @aL)
def Lm:=A5 @cJ @jV @mR @cH @jT
theorem Sb: ∀(t:Ex),fitE t→ ∀(n:Int),I64 n→PC Tryz.prog 73 [exV t,(.im (.int .i64 (n)))] (.im (.bool (esh t n))):=by
 refine Ex.induct fun o k s w l hE=> ?_
 intro hfit n hn
 obtain⟨hl1,hfE⟩:=pW hfit
 have hn':=hn
 unfold I64 at hn'
 refine pcEnt 14 Tryz.func73 rfl [(0,exV (.mk o k s w l)),(1,(.im (.int .i64 (n))))] ?_
 simp only[jW]
 rw[Fq]
 by_cases h1:n≥1
 ·have e:decide (1≤n)=true:=by simp;omega
  have hc: ∀t∈l,DC Tryz.prog 140 [exV t,.pt 0 0] [.box [(.im (.int .i64 (n)))]] (.im (.bool (!esh t (n-1)))) [.box [(.im (.int .i64 (n)))]]:=fun t ht=>Pb hn (by omega) (hE t ht (hfE t ht) (n-1) (by unfold I64;omega))
  have hcc:=Ld (gs:=l) (F:=140) (cs:=[(.im (.int .i64 (n)))]) (fun t=> !esh t (n-1)) (by simp[V.idsL,V.ids]) (by simp only[SR]) hl1 hc
  rw[e,Bool.true_and];refine wG Lm h1 ?_;refine dB [1] hcc TI (A4 @aE @aK @aF @aL) (A4 @aN @aO @bI @bF) ?_;refine goG Lm TI ?_;rw[mJ];refine wG Lm TI ?_;exact aD
 ·have e:decide (1≤n)=false:=by simp;omega
  rw[e,Bool.false_and];refine wG Lm h1 ?_;exact aD
def rU:=A6 @jV @fD @fG @mR @jT @eF
theorem JI: ∀(t:Ex),fitE t→ ∀(n:Int),I64 n→PC Tryz.prog 231 [exV t,(.im (.int .i64 (n)))] (.im (.bool (!esh t n))):=by
 refine Ex.induct fun o k s w l hE=> ?_
 intro hfit n hn
 obtain⟨hl1,hfE⟩:=pW hfit
 have hn':=hn
 unfold I64 at hn'
 refine pcEnt 23 Tryz.func231 rfl [(0,exV (.mk o k s w l)),(1,(.im (.int .i64 (n))))] ?_
 simp only[jW]
 rw[Fq]
 by_cases h1:n≤0
 ·have e:decide (1≤n)=false:=by simp;omega
  rw[e,Bool.false_and];refine wG rU h1 ?_;exact aD
 have e:decide (1≤n)=true:=by simp;omega
 have hn1:IntKind.i64.wrap (n-1)=n-1:=cI (by omega)
 refine wG rU h1 ?_
 refine aT ?_
 refine ALp.cutP 1 [(1,(.im (.int .i64 (n)))),(2,.pt 0 0),(4,.im (.bool false)),(5,(.im (.int .i64 ((((0:Nat)):Int)))))] [.box [.im (.int .i64 o),.im (.int .u32 k),.im (.string s),.im (.int .i64 w),.sl (l.map exV) .ro]] (A4 @aE @aK @aF @aL) ?_
 refine ALp.upto l.length (AllTo (fun t=>esh t (n-1)) l) (fun m=>⟨dn 23 [(1,(.im (.int .i64 (n)))),(2,.pt 0 0),(4,.im (.bool false)),(5,(.im (.int .i64 ((((m:Nat)):Int)))))],ofl [.box [.im (.int .i64 o),.im (.int .u32 k),.im (.string s),.im (.int .i64 w),.sl (l.map exV) .ro]]⟩) ?_ 0 (Nat.zero_le _) (AllTo.zero _ _)
 intro m hm hI hnext
 by_cases hlt:m<l.length
 ·have hlt':(m:Int)<(l.length:Int):=by omega
  have hg:=bJ hlt;have hm1:=aQ hlt (by omega)
  have hc:=hE l[m] (List.getElem_mem hlt) (hfE _ (List.getElem_mem hlt)) (n-1) (by unfold I64;omega)
  refine wG rU (A16 @dJ @cQ @dH @dG @dI @cR @jE @gT @jC @jB @jD @gU @List.getElem?_map.{0,0} @Int.natCast_nonneg hlt' (A3 hg hn1 hm1)) ?_;refine AR.callP hc @bW (A4 @aE @aK @aF @aL) ?_
  by_cases hsh:esh l[m] (n-1)=true
  ·refine goG rU hsh ?_
   refine wG rU hm1 ?_;refine ALp.cutP 1 [(1,(.im (.int .i64 (n)))),(2,.pt 0 0),(4,.im (.bool false)),(5,(.im (.int .i64 ((((m+1:Nat)):Int)))))] [.box [.im (.int .i64 o),.im (.int .u32 k),.im (.string s),.im (.int .i64 w),.sl (l.map exV) .ro]] (A4 @aE @aK @aF @aL) ?_;exact hnext (m+1) (by omega) (by omega) (hI.succ hlt hsh)
  ·have hsh:esh l[m] (n-1)=false:=by simpa using hsh
   refine goG rU hsh ?_;refine wG rU hm1 ?_;rw[eR hlt hsh,Bool.and_false];exact aD
 ·have hall:=hI.done (by omega)
  have hlt': ¬(m:Int)<(l.length:Int):=by omega
  clear hnext;rw[hall,e];refine wG rU hlt' ?_;exact aD
end Go.Proofs.YtmbmmckagcdapaaGreatDoor
