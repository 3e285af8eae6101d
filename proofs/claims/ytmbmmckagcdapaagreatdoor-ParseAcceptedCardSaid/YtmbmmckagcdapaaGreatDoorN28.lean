import Derived.Test.YtmbmmckagcdapaaGreatDoorN11
import Derived.Test.YtmbmmckagcdapaaGreatDoorN22
import Derived.Test.YtmbmmckagcdapaaGreatDoorN00
set_option linter.all false
namespace Go.Proofs.YtmbmmckagcdapaaGreatDoor
open Go.RowKit
def idx{α:Type}(l:List α)(p:α→Bool):Int:=match l.findIdx? p with
 | some k=>k
 | none=> -1
theorem qH{α:Type}{l:List α}{p:α→Bool}(h:AllTo (fun x=> !p x) l l.length):idx l p= -1:=by
 unfold idx
 have:l.findIdx? p=none:=by
  rw[List.findIdx?_eq_none_iff];intro x hx;obtain⟨j,hj,rfl⟩:=List.getElem_of_mem hx;simpa using h j hj hj
 rw[this]
theorem qG{α:Type}{l:List α}{p:α→Bool}{m:Nat}(hm:m<l.length)(h:AllTo (fun x=> !p x) l m)(hp:p l[m]=true):idx l p=m:=by
 unfold idx
 have:l.findIdx? p=some m:=by
  rw[List.findIdx?_eq_some_iff_getElem];exact⟨hm,hp,fun j hj=>by simpa using h j (by omega) hj⟩
 rw[this]
theorem uJ{α:Type}(l:List α)(p:α→Bool):decide (idx l p≥0)=l.any p:=by
 unfold idx
 cases h:l.findIdx? p with
 | none =>
  rw[List.findIdx?_eq_none_iff]at h;have:l.any p=false:=by simpa using h
  rw[this]
  decide
 | some k =>
  rw[List.findIdx?_eq_some_iff_getElem]at h;obtain⟨hk,hp,_⟩:=h;have:l.any p=true:=List.any_eq_true.2 ⟨_,List.getElem_mem hk,hp⟩;rw[this];simp
def fW:=A3 @fM @gT @dP
theorem AB{gs:List Ex}{F:FuncId}(p:Ex→Bool)(hl:gs.length≤4194304)(hF: ∀t∈gs,PC Tryz.prog F [exV t] (.im (.bool (p t)))) :
  PC Tryz.prog 165 [.sl (gs.map exV) .ro,.fn (.func F) [] []] (.im (.int .i64 (idx gs p))):=by
 refine PC.enter 19 Tryz.func165 rfl (by decide) rfl rfl (s:=[(0,.sl (gs.map exV) .ro),(1,.fn (.func F) [] [])]) (by rfl) ?_
 refine wG fW TI ?_
 refine aW ?_
 refine ALp.cutP 0 [(0,.sl (gs.map exV) .ro),(1,.fn (.func F) [] []),(7,(.im (.int .i64 (gs.length)))),(8,(.im (.int .i64 ((((0:Nat)):Int)))))] [] (A4 @aC @aN @aE @aO) ?_
 refine ALp.upto gs.length (AllTo (fun x=> !p x) gs) (fun m=>⟨dn 19 [(0,.sl (gs.map exV) .ro),(1,.fn (.func F) [] []),(7,(.im (.int .i64 (gs.length)))),(8,(.im (.int .i64 ((((m:Nat)):Int)))))],ofl []⟩) ?_ 0 (Nat.zero_le _) (AllTo.zero _ _)
 intro m hm hI hnext
 by_cases hlt:m<gs.length
 ·have hlt':(m:Int)<(gs.length:Int):=by omega
  have hg:=bJ hlt;have hm1:=aT hlt (by omega)
  have hc:=hF gs[m] (List.getElem_mem hlt);refine wG fW (A16 @fR @eD @fP @fO @fQ @eE @sW @pW @sT @sS @sU @pX @List.getElem?_map.{0,0} @Int.natCast_nonneg hlt' (AI hg hm1)) ?_
  by_cases b:p gs[m]=true
  ·rw[b]at hc
   refine AR.callP hc @bK (A4 @aC @aN @aE @aO) ?_;refine goG fW TI ?_;refine wG fW TI ?_;rw[qG hlt hI b];exact aD
  ·have b:p gs[m]=false:=by simpa using b
   rw[b]at hc;refine AR.callP hc @bK (A4 @aC @aN @aE @aO) ?_;refine goG fW TI ?_;refine wG fW hm1 ?_;refine ALp.cutP 0 [(0,.sl (gs.map exV) .ro),(1,.fn (.func F) [] []),(7,(.im (.int .i64 (gs.length)))),(8,(.im (.int .i64 ((((m+1:Nat)):Int)))))] [] (A4 @aC @aN @aE @aO) ?_;exact hnext (m+1) (by omega) (by omega) (hI.succ hlt (by simp[b]))
 ·obtain rfl:m=gs.length:=by omega
  have hlt': ¬(gs.length:Int)<(gs.length:Int):=by omega
  clear hnext hlt;rw[qH hI];refine wG fW hlt' ?_;exact aD
theorem rK{gs:List Ex}{F:FuncId}(p:Ex→Bool)(hl:gs.length≤4194304)(hF: ∀t∈gs,PC Tryz.prog F [exV t] (.im (.bool (p t)))) :
  PC Tryz.prog 101 [.sl (gs.map exV) .ro,.fn (.func F) [] []] (.im (.bool (gs.any p))):=by
 have h:=AB p hl hF
 refine PC.enter 9 Tryz.func101 rfl (by decide) rfl rfl (s:=[(0,.sl (gs.map exV) .ro),(1,.fn (.func F) [] [])]) (by rfl) ?_
 refine wG TI TI ?_
 refine AR.callP h TI (A4 @aC @aN @aE @aO) ?_
 refine goG TI TI ?_
 rw[uJ]
 refine wG TI TI ?_
 exact aD
theorem AA{gs:List Ex}{F:FuncId}{cs:List V}(p:Ex→Bool)(hcs:V.idsL (ltB 1) cs=true)(hr:V.renL (gOf [0]) cs=cs)(hl:gs.length≤4194304)(hF: ∀t∈gs,DC Tryz.prog F [exV t,.pt 0 0] [.box cs] (.im (.bool (p t))) [.box cs]) :
  DC Tryz.prog 165 [.sl (gs.map exV) .ro,.fn (.func F) [] [.pt 0 0]] [.box cs] (.im (.int .i64 (idx gs p))) [.box cs]:=by
 refine DC.enter 19 Tryz.func165 rfl (by decide) rfl rfl (s:=[(0,.sl (gs.map exV) .ro),(1,.fn (.func F) [] [.pt 0 0])]) (by rfl) ?_
 refine wG fW TI ?_
 refine aW ?_
 refine ALp.cutP 1 [(0,.sl (gs.map exV) .ro),(1,.fn (.func F) [] [.pt 0 0]),(7,(.im (.int .i64 (gs.length)))),(8,(.im (.int .i64 ((((0:Nat)):Int)))))] [.box cs] (A5 @aC @aN @aE @aO hcs) ?_
 refine ALp.upto gs.length (AllTo (fun x=> !p x) gs) (fun m=>⟨dn 19 [(0,.sl (gs.map exV) .ro),(1,.fn (.func F) [] [.pt 0 0]),(7,(.im (.int .i64 (gs.length)))),(8,(.im (.int .i64 ((((m:Nat)):Int)))))],ofl [.box cs]⟩) ?_ 0 (Nat.zero_le _) (AllTo.zero _ _)
 intro m hm hI hnext
 by_cases hlt:m<gs.length
 ·have hlt':(m:Int)<(gs.length:Int):=by omega
  have hg:=bJ hlt;have hm1:=aT hlt (by omega)
  have hc:=hF gs[m] (List.getElem_mem hlt);refine wG fW (A16 @fR @eD @fP @fO @fQ @eE @sW @pW @sT @sS @sU @pX @List.getElem?_map.{0,0} @Int.natCast_nonneg hlt' (AI hg hm1)) ?_
  by_cases b:p gs[m]=true
  ·rw[b]at hc
   refine cC [0] hc @bK (A5 @aC @aN @aE @aO hcs) (A5 @aQ @aR @bE @bD hr) ?_;refine goG fW TI ?_;refine wG fW TI ?_;rw[qG hlt hI b];exact bP (A5 @aC @aN @aE @aO hcs)
  ·have b:p gs[m]=false:=by simpa using b
   rw[b]at hc;refine cC [0] hc @bK (A5 @aC @aN @aE @aO hcs) (A5 @aQ @aR @bE @bD hr) ?_;refine goG fW TI ?_;refine wG fW hm1 ?_;refine ALp.cutP 1 [(0,.sl (gs.map exV) .ro),(1,.fn (.func F) [] [.pt 0 0]),(7,(.im (.int .i64 (gs.length)))),(8,(.im (.int .i64 ((((m+1:Nat)):Int)))))] [.box cs] (A5 @aC @aN @aE @aO hcs) ?_;exact hnext (m+1) (by omega) (by omega) (hI.succ hlt (by simp[b]))
 ·obtain rfl:m=gs.length:=by omega
  have hlt': ¬(gs.length:Int)<(gs.length:Int):=by omega
  clear hnext hlt;rw[qH hI];refine wG fW hlt' ?_;exact bP (A5 @aC @aN @aE @aO hcs)
theorem Km{gs:List Ex}{F:FuncId}{cs:List V}(p:Ex→Bool)(hcs:V.idsL (ltB 1) cs=true)(hr:V.renL (gOf [0]) cs=cs)(hl:gs.length≤4194304)(hF: ∀t∈gs,DC Tryz.prog F [exV t,.pt 0 0] [.box cs] (.im (.bool (p t))) [.box cs]) :
  DC Tryz.prog 101 [.sl (gs.map exV) .ro,.fn (.func F) [] [.pt 0 0]] [.box cs] (.im (.bool (gs.any p))) [.box cs]:=by
 have h:=AA p hcs hr hl hF
 refine DC.enter 9 Tryz.func101 rfl (by decide) rfl rfl (s:=[(0,.sl (gs.map exV) .ro),(1,.fn (.func F) [] [.pt 0 0])]) (by rfl) ?_
 refine wG TI TI ?_
 refine cC [0] h TI (A5 @aC @aN @aE @aO hcs) (A5 @aQ @aR @bE @bD hr) ?_
 refine goG TI TI ?_
 rw[uJ]
 refine wG TI TI ?_
 exact bP (A5 @aC @aN @aE @aO hcs)
theorem Zz{gs:List Ex}{F:FuncId}{cs ds:List V}(p:Ex→Bool)(hcs:V.idsL (ltB 2) cs=true)(hr:V.renL (gOf [0,1]) cs=cs)(hds:V.idsL (ltB 2) ds=true)(hrs:V.renL (gOf [0,1]) ds=ds)(hl:gs.length≤4194304)(hF: ∀t∈gs,DC Tryz.prog F [exV t,.pt 0 0] [.box cs,.box ds] (.im (.bool (p t))) [.box cs,.box ds]) :
  DC Tryz.prog 165 [.sl (gs.map exV) .ro,.fn (.func F) [] [.pt 0 0]] [.box cs,.box ds] (.im (.int .i64 (idx gs p))) [.box cs,.box ds]:=by
 refine DC.enter 19 Tryz.func165 rfl (by decide) rfl rfl (s:=[(0,.sl (gs.map exV) .ro),(1,.fn (.func F) [] [.pt 0 0])]) (by rfl) ?_
 refine wG fW TI ?_
 refine aW ?_
 refine ALp.cutP 2 [(0,.sl (gs.map exV) .ro),(1,.fn (.func F) [] [.pt 0 0]),(7,(.im (.int .i64 (gs.length)))),(8,(.im (.int .i64 ((((0:Nat)):Int)))))] [.box cs,.box ds] (A6 @aC @aN @aE @aO hcs hds) ?_
 refine ALp.upto gs.length (AllTo (fun x=> !p x) gs) (fun m=>⟨dn 19 [(0,.sl (gs.map exV) .ro),(1,.fn (.func F) [] [.pt 0 0]),(7,(.im (.int .i64 (gs.length)))),(8,(.im (.int .i64 ((((m:Nat)):Int)))))],ofl [.box cs,.box ds]⟩) ?_ 0 (Nat.zero_le _) (AllTo.zero _ _)
 intro m hm hI hnext
 by_cases hlt:m<gs.length
 ·have hlt':(m:Int)<(gs.length:Int):=by omega
  have hg:=bJ hlt;have hm1:=aT hlt (by omega)
  have hc:=hF gs[m] (List.getElem_mem hlt);refine wG fW (A16 @fR @eD @fP @fO @fQ @eE @sW @pW @sT @sS @sU @pX @List.getElem?_map.{0,0} @Int.natCast_nonneg hlt' (AI hg hm1)) ?_
  by_cases b:p gs[m]=true
  ·rw[b]at hc
   refine cC [0,1] hc @bK (A6 @aC @aN @aE @aO hcs hds) (A6 @aQ @aR @bE @bD hr hrs) ?_;refine goG fW TI ?_;refine wG fW TI ?_;rw[qG hlt hI b];exact bP (A6 @aC @aN @aE @aO hcs hds)
  ·have b:p gs[m]=false:=by simpa using b
   rw[b]at hc;refine cC [0,1] hc @bK (A6 @aC @aN @aE @aO hcs hds) (A6 @aQ @aR @bE @bD hr hrs) ?_;refine goG fW TI ?_;refine wG fW hm1 ?_;refine ALp.cutP 2 [(0,.sl (gs.map exV) .ro),(1,.fn (.func F) [] [.pt 0 0]),(7,(.im (.int .i64 (gs.length)))),(8,(.im (.int .i64 ((((m+1:Nat)):Int)))))] [.box cs,.box ds] (A6 @aC @aN @aE @aO hcs hds) ?_;exact hnext (m+1) (by omega) (by omega) (hI.succ hlt (by simp[b]))
 ·obtain rfl:m=gs.length:=by omega
  have hlt': ¬(gs.length:Int)<(gs.length:Int):=by omega
  clear hnext hlt;rw[qH hI];refine wG fW hlt' ?_;exact bP (A6 @aC @aN @aE @aO hcs hds)
theorem Kl{gs:List Ex}{F:FuncId}{cs ds:List V}(p:Ex→Bool)(hcs:V.idsL (ltB 2) cs=true)(hr:V.renL (gOf [0,1]) cs=cs)(hds:V.idsL (ltB 2) ds=true)(hrs:V.renL (gOf [0,1]) ds=ds)(hl:gs.length≤4194304)(hF: ∀t∈gs,DC Tryz.prog F [exV t,.pt 0 0] [.box cs,.box ds] (.im (.bool (p t))) [.box cs,.box ds]) :
  DC Tryz.prog 101 [.sl (gs.map exV) .ro,.fn (.func F) [] [.pt 0 0]] [.box cs,.box ds] (.im (.bool (gs.any p))) [.box cs,.box ds]:=by
 have h:=Zz p hcs hr hds hrs hl hF
 refine DC.enter 9 Tryz.func101 rfl (by decide) rfl rfl (s:=[(0,.sl (gs.map exV) .ro),(1,.fn (.func F) [] [.pt 0 0])]) (by rfl) ?_
 refine wG TI TI ?_
 refine cC [0,1] h TI (A6 @aC @aN @aE @aO hcs hds) (A6 @aQ @aR @bE @bD hr hrs) ?_
 refine goG TI TI ?_
 rw[uJ]
 refine wG TI TI ?_
 exact bP (A6 @aC @aN @aE @aO hcs hds)
def rR:=A3 @Cc @lJ @kK
theorem Zx{gs:List Va}{F:FuncId}{cs:List V}(p:Va→Bool)(hcs:V.idsL (ltB 1) cs=true)(hr:V.renL (gOf [0]) cs=cs)(hl:gs.length≤4194304)(hF: ∀t∈gs,DC Tryz.prog F [vaV t,.pt 0 0] [.box cs] (.im (.bool (p t))) [.box cs]) :
  DC Tryz.prog 211 [.sl (gs.map vaV) .ro,.fn (.func F) [] [.pt 0 0]] [.box cs] (.im (.int .i64 (idx gs p))) [.box cs]:=by
 refine DC.enter 19 Tryz.func211 rfl (by decide) rfl rfl (s:=[(0,.sl (gs.map vaV) .ro),(1,.fn (.func F) [] [.pt 0 0])]) (by rfl) ?_
 refine wG rR TI ?_
 refine aW ?_
 refine ALp.cutP 1 [(0,.sl (gs.map vaV) .ro),(1,.fn (.func F) [] [.pt 0 0]),(7,(.im (.int .i64 (gs.length)))),(8,(.im (.int .i64 ((((0:Nat)):Int)))))] [.box cs] (A5 @aC @aN @aE @aO hcs) ?_
 refine ALp.upto gs.length (AllTo (fun x=> !p x) gs) (fun m=>⟨dn 19 [(0,.sl (gs.map vaV) .ro),(1,.fn (.func F) [] [.pt 0 0]),(7,(.im (.int .i64 (gs.length)))),(8,(.im (.int .i64 ((((m:Nat)):Int)))))],ofl [.box cs]⟩) ?_ 0 (Nat.zero_le _) (AllTo.zero _ _)
 intro m hm hI hnext
 by_cases hlt:m<gs.length
 ·have hlt':(m:Int)<(gs.length:Int):=by omega
  have hg:=bJ hlt;have hm1:=aT hlt (by omega)
  have hc:=hF gs[m] (List.getElem_mem hlt);refine wG rR (A16 @fR @eD @fP @fO @fQ @eE @sW @pW @sT @sS @sU @pX @List.getElem?_map.{0,0} @Int.natCast_nonneg hlt' (AI hg hm1)) ?_
  by_cases b:p gs[m]=true
  ·rw[b]at hc
   refine cC [0] hc @qR (A5 @aC @aN @aE @aO hcs) (A5 @aQ @aR @bE @bD hr) ?_;refine goG rR TI ?_;refine wG rR TI ?_;rw[qG hlt hI b];exact bP (A5 @aC @aN @aE @aO hcs)
  ·have b:p gs[m]=false:=by simpa using b
   rw[b]at hc;refine cC [0] hc @qR (A5 @aC @aN @aE @aO hcs) (A5 @aQ @aR @bE @bD hr) ?_;refine goG rR TI ?_;refine wG rR hm1 ?_;refine ALp.cutP 1 [(0,.sl (gs.map vaV) .ro),(1,.fn (.func F) [] [.pt 0 0]),(7,(.im (.int .i64 (gs.length)))),(8,(.im (.int .i64 ((((m+1:Nat)):Int)))))] [.box cs] (A5 @aC @aN @aE @aO hcs) ?_;exact hnext (m+1) (by omega) (by omega) (hI.succ hlt (by simp[b]))
 ·obtain rfl:m=gs.length:=by omega
  have hlt': ¬(gs.length:Int)<(gs.length:Int):=by omega
  clear hnext hlt;rw[qH hI];refine wG rR hlt' ?_;exact bP (A5 @aC @aN @aE @aO hcs)
theorem Kj{gs:List Va}{F:FuncId}{cs:List V}(p:Va→Bool)(hcs:V.idsL (ltB 1) cs=true)(hr:V.renL (gOf [0]) cs=cs)(hl:gs.length≤4194304)(hF: ∀t∈gs,DC Tryz.prog F [vaV t,.pt 0 0] [.box cs] (.im (.bool (p t))) [.box cs]) :
  DC Tryz.prog 155 [.sl (gs.map vaV) .ro,.fn (.func F) [] [.pt 0 0]] [.box cs] (.im (.bool (gs.any p))) [.box cs]:=by
 have h:=Zx p hcs hr hl hF
 refine DC.enter 9 Tryz.func155 rfl (by decide) rfl rfl (s:=[(0,.sl (gs.map vaV) .ro),(1,.fn (.func F) [] [.pt 0 0])]) (by rfl) ?_
 refine wG TI TI ?_
 refine cC [0] h TI (A5 @aC @aN @aE @aO hcs) (A5 @aQ @aR @bE @bD hr) ?_
 refine goG TI TI ?_
 rw[uJ]
 refine wG TI TI ?_
 exact bP (A5 @aC @aN @aE @aO hcs)
theorem kG{α:Type}(l:List α)(p:α→Bool):(!l.any fun x=> !p x)=l.all p:=by
 induction l with
 | nil=>rfl
 | cons x l ih=>simp only[List.any_cons,List.all_cons,Bool.not_or,Bool.not_not,ih]
def Ld:=A4 @cN @fM @cM @dP
theorem Pb{x:Ex}{n:Int}(hn:I64 n)(hn1:1≤n){r:Bool}(h:PC Tryz.prog 73 [exV x,(.im (.int .i64 (n-1)))] (.im (.bool (r)))):DC Tryz.prog 140 [exV x,.pt 0 0] [.box [(.im (.int .i64 (n)))]] (.im (.bool (!r))) [.box [(.im (.int .i64 (n)))]]:=by
 unfold I64 at hn
 have hw:IntKind.i64.wrap (n-1)=n-1:=dL (by omega)
 refine DC.enter 9 Tryz.func140 rfl (by decide) rfl rfl (s:=[(0,exV x),(1,.pt 0 0)]) (by rfl) ?_
 simp only[bK]
 refine wG Ld hw ?_
 refine AR.callP h @bK (A4 @aC @aN @aE @aO) ?_
 refine goG Ld TI ?_
 refine wG Ld TI ?_
 exact bP (A4 @aC @aN @aE @aO)
def Kw:=A5 @cN @iL @lW @cM @iJ
theorem Si: ∀(t:Ex),fitE t→ ∀(n:Int),I64 n→PC Tryz.prog 73 [exV t,(.im (.int .i64 (n)))] (.im (.bool (esh t n))):=by
 refine Ex.induct fun o k s w l hE=> ?_
 intro hfit n hn
 obtain⟨hl1,hfE⟩:=oT hfit
 have hn':=hn
 unfold I64 at hn'
 refine PC.enter 14 Tryz.func73 rfl (by decide) rfl rfl (s:=[(0,exV (.mk o k s w l)),(1,(.im (.int .i64 (n))))]) (by rfl) ?_
 simp only[gU]
 rw[zP]
 by_cases h1:n≥1
 ·have e:decide (1≤n)=true:=by simp;omega
  have hc: ∀t∈l,DC Tryz.prog 140 [exV t,.pt 0 0] [.box [(.im (.int .i64 (n)))]] (.im (.bool (!esh t (n-1)))) [.box [(.im (.int .i64 (n)))]]:=fun t ht=>Pb hn (by omega) (hE t ht (hfE t ht) (n-1) (by unfold I64;omega))
  have hcc:=Km (gs:=l) (F:=140) (cs:=[(.im (.int .i64 (n)))]) (fun t=> !esh t (n-1)) (by simp[V.idsL,V.ids]) (by simp only[SR]) hl1 hc
  rw[e,Bool.true_and];refine wG Kw h1 ?_;refine cC [1] hcc TI (A4 @aC @aN @aE @aO) (A4 @aQ @aR @bE @bD) ?_;refine goG Kw TI ?_;rw[kG];refine wG Kw TI ?_;exact aD
 ·have e:decide (1≤n)=false:=by simp;omega
  rw[e,Bool.false_and];refine wG Kw h1 ?_;exact aD
end Go.Proofs.YtmbmmckagcdapaaGreatDoor
