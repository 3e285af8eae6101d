import Derived.Test.YtmbmmckagcdapaaGreatDoorL13
import Derived.Test.YtmbmmckagcdapaaGreatDoorL32
import Derived.Test.YtmbmmckagcdapaaGreatDoorL15
import Derived.Test.YtmbmmckagcdapaaGreatDoorL18
import Derived.Test.YtmbmmckagcdapaaGreatDoorL31
import Derived.Test.YtmbmmckagcdapaaGreatDoorL21
import Derived.Test.YtmbmmckagcdapaaGreatDoorL04
import Derived.Test.YtmbmmckagcdapaaGreatDoorL02
set_option linter.all false
namespace Go.Proofs.YtmbmmckagcdapaaGreatDoor
open Go.RowKit
theorem jS{m n:Nat}{a:Int}(h:(decide ((m:Int)<(n:Int))&&decide (a≥0))=true):m<n∧0≤a:=by
 simp only[Bool.and_eq_true,decide_eq_true_eq]at h
 exact⟨by omega,by omega⟩
theorem jR{α:Type}{f:α→Int→Int}{l:List α}{m:Nat}{n:Int}(hm:m≤l.length)(h:(decide ((m:Int)<(l.length:Int))&&decide (pfold f (l.take m) n≥0))=false):pfold f (l.take m) n=pfold f l n:=by
 simp only[Bool.and_eq_false_iff,decide_eq_false_iff_not]at h
 by_cases hp:0≤pfold f (l.take m) n
 ·obtain rfl:m=l.length:=by rcases h with h|h<;>omega
  rw[List.take_length]
 ·exact(Gx hp).symm
def pH:=A6 @gV @eU @gG @lH @gU @dG
def Td:=AI @aE @aD
theorem HH: ∀(t:Ex),fitE t→ ∀most n:Int,0≤most→most≤4194304→0≤n→n≤4194304→PC Tryz.prog 72 [exV t,(.im (.int .i64 (most))),(.im (.int .i64 (n)))] (.im (.int .i64 (epa t most n))):=by
 refine Ex.induct fun o k s w l hE0=> ?_
 intro hfit most n hq hq2 hn hn2
 obtain⟨hl1,hfE⟩:=nG hfit
 rw[Rr]
 refine PC.enter 44 Tryz.func72 rfl (by decide) rfl rfl (s:=[(0,exV (.mk o k s w l)),(1,(.im (.int .i64 (most)))),(2,(.im (.int .i64 (n))))]) (by rfl) ?_
 simp only[gQ]
 refine wG pH TI ?_
 refine cX rfl rfl (fun hE=> ?_) (fun hE=> ?_)
 ·simp only[Bool.or_eq_true,decide_eq_true_eq]at hE
  rw[if_pos (by omega)]
  refine wG pH TI ?_;exact aC
 simp only[Bool.or_eq_false_iff,decide_eq_false_iff_not]at hE
 have hw:IntKind.i64.wrap (n-1)=n-1:=cU (by omega)
 have hv:IntKind.i64.wrap (most-1)=most-1:=cU (by omega)
 rw[if_neg (by omega)]
 refine wG pH hw ?_
 refine aV ?_
 refine ALp.cutP 1 [(1,(.im (.int .i64 (most)))),(3,.pt 0 0),(7,(.im (.int .i64 (pfold (fun x n=>epa x (most-1) n) (l.take (0)) (n-1))))),(8,(.im (.int .i64 ((((0:Nat)):Int)))))] [.box [(.im (.int .i64 (o))),.im (.int .u32 k),.im (.string s),(.im (.int .i64 (w))),.sl (l.map exV) .ro]] Td ?_
 refine ALp.upto l.length (fun _=>True) (fun m=>⟨dn 44 [(1,(.im (.int .i64 (most)))),(3,.pt 0 0),(7,(.im (.int .i64 (pfold (fun x n=>epa x (most-1) n) (l.take (m)) (n-1))))),(8,(.im (.int .i64 ((((m:Nat)):Int)))))],ofl [.box [(.im (.int .i64 (o))),.im (.int .u32 k),.im (.string s),(.im (.int .i64 (w))),.sl (l.map exV) .ro]]⟩) ?_ 0 (Nat.zero_le _) trivial
 intro m hm _ hnext
 refine wG pH @Int.natCast_nonneg ?_
 refine cX rfl rfl (fun hE=> ?_) (fun hE=> ?_)
 ·obtain⟨hlt,hp⟩:=jS hE
  have hlt':(m:Int)<(l.length:Int):=by omega
  have hm1:=aP hlt (by omega)
  have hb:=dO (f:=fun x n=>epa x (most-1) n) (l:=l.take m) (fun t _ n hn=>nV t _ n hn) (n-1) (by omega)
  have hc:=hE0 l[m] (List.getElem_mem hlt) (hfE _ (List.getElem_mem hlt)) (most-1) _ (by omega) (by omega) hp (by omega)
  rw[←jQ (f:=fun x n=>epa x (most-1) n) hlt hp]at hc
  have hg:=bE hlt;refine wG pH (A5 hlt' hg hv @Int.natCast_nonneg BN01) ?_;refine AR.callP hc @bI Td ?_;refine goG pH BN01 ?_;refine wG pH hm1 ?_;refine ALp.cutP 1 [(1,(.im (.int .i64 (most)))),(3,.pt 0 0),(7,(.im (.int .i64 (pfold (fun x n=>epa x (most-1) n) (l.take (m+1)) (n-1))))),(8,(.im (.int .i64 ((((m+1:Nat)):Int)))))] [.box [(.im (.int .i64 (o))),.im (.int .u32 k),.im (.string s),(.im (.int .i64 (w))),.sl (l.map exV) .ro]] Td ?_
  exact hnext (m+1) (by omega) (by omega) trivial
 rw[jR hm hE]
 clear hnext hE
 refine wG pH TI ?_
 exact aC
def iH:=A12 @sK @pO @gH @pL @pK @kZ @mC @jH @mT @sG @mN @gF
def wP:=A4 @bR @bT @bS @bU
theorem GT: ∀(t:Ty),fit t→ ∀most n:Int,0≤most→most≤4194304→0≤n→n≤4194304→PC Tryz.prog 100 [tyV t,(.im (.int .i64 (most))),(.im (.int .i64 (n)))] (.im (.int .i64 (tpa t most n))):=by
 refine Ty.induct fun o k s c es fs hT hF=> ?_
 intro hfit most n hq hq2 hn hn2
 obtain⟨hl1,hl2,hfE,hfF⟩:=kF hfit
 rw[Cc]
 refine PC.enter 72 Tryz.func100 rfl (by decide) rfl rfl (s:=[(0,tyV (.mk o k s c es fs)),(1,(.im (.int .i64 (most)))),(2,(.im (.int .i64 (n))))]) (by rfl) ?_
 simp only[dY]
 refine wG iH TI ?_
 refine cX rfl rfl (fun hE=> ?_) (fun hE=> ?_)
 ·simp only[Bool.or_eq_true,decide_eq_true_eq]at hE
  rw[if_pos (by omega)]
  refine wG iH TI ?_;exact aC
 simp only[Bool.or_eq_false_iff,decide_eq_false_iff_not]at hE
 have hw:IntKind.i64.wrap (n-1)=n-1:=cU (by omega)
 have hv:IntKind.i64.wrap (most-1)=most-1:=cU (by omega)
 rw[if_neg (by omega)]
 refine wG iH hw ?_
 refine aV ?_
 refine ALp.cutP 1 [(1,(.im (.int .i64 (most)))),(3,.pt 0 0),(7,(.im (.int .i64 (pfold (fun x n=>tpa x (most-1) n) (es.take (0)) (n-1))))),(8,(.im (.int .i64 ((((0:Nat)):Int)))))] [.box [.im (.int .i64 k),.im (.int .i64 s),.im (.int .i64 c),.sl (es.map tyV) .ro,.sl (fs.map fdV) .ro]] wP ?_
 refine ALp.upto es.length (fun _=>True) (fun m=>⟨dn 72 [(1,(.im (.int .i64 (most)))),(3,.pt 0 0),(7,(.im (.int .i64 (pfold (fun x n=>tpa x (most-1) n) (es.take (m)) (n-1))))),(8,(.im (.int .i64 ((((m:Nat)):Int)))))],ofl [.box [.im (.int .i64 k),.im (.int .i64 s),.im (.int .i64 c),.sl (es.map tyV) .ro,.sl (fs.map fdV) .ro]]⟩) ?_ 0 (Nat.zero_le _) trivial
 intro m hm _ hnext
 refine wG iH @Int.natCast_nonneg ?_
 refine cX rfl rfl (fun hE=> ?_) (fun hE=> ?_)
 ·obtain⟨hlt,hp⟩:=jS hE
  have hlt':(m:Int)<(es.length:Int):=by omega
  have hm1:=aP hlt (by omega)
  have hb:=dO (f:=fun x n=>tpa x (most-1) n) (l:=es.take m) (fun t _ n hn=>yP t _ n hn) (n-1) (by omega)
  have hc:=hT es[m] (List.getElem_mem hlt) (hfE _ (List.getElem_mem hlt)) (most-1) _ (by omega) (by omega) hp (by omega)
  rw[←jQ (f:=fun x n=>tpa x (most-1) n) hlt hp]at hc
  have hg:=bE hlt;refine wG iH (A5 hlt' hg hv @Int.natCast_nonneg BN03) ?_;refine AR.callP hc @bW wP ?_;refine goG iH BN03 ?_;refine wG iH hm1 ?_;refine ALp.cutP 1 [(1,(.im (.int .i64 (most)))),(3,.pt 0 0),(7,(.im (.int .i64 (pfold (fun x n=>tpa x (most-1) n) (es.take (m+1)) (n-1))))),(8,(.im (.int .i64 ((((m+1:Nat)):Int)))))] [.box [.im (.int .i64 k),.im (.int .i64 s),.im (.int .i64 c),.sl (es.map tyV) .ro,.sl (fs.map fdV) .ro]] wP ?_
  exact hnext (m+1) (by omega) (by omega) trivial
 rw[jR hm hE]
 clear hnext hE
 generalize hm0:m=m0
 clear hm hm0
 have hb0:=dO (f:=fun x n=>tpa x (most-1) n) (l:=es) (fun t _ n hn=>yP t _ n hn) (n-1) (by omega)
 refine whG iH TI ?_
 refine Blk'.here (Thn.n ?_)
 refine wG iH TI ?_
 refine aV ?_
 refine ALp.cutP 1 [(1,(.im (.int .i64 (most)))),(3,.pt 0 0),(7,(.im (.int .i64 (pfold (fun x n=>tpa x (most-1) n) (fs.take (0)) (pfold (fun x n=>tpa x (most-1) n) es (n-1)))))),(9,(.im (.int .i64 ((((0:Nat)):Int)))))] [.box [.im (.int .i64 k),.im (.int .i64 s),.im (.int .i64 c),.sl (es.map tyV) .ro,.sl (fs.map fdV) .ro]] wP ?_
 refine ALp.upto fs.length (fun _=>True) (fun m=>⟨dn 72 [(1,(.im (.int .i64 (most)))),(3,.pt 0 0),(7,(.im (.int .i64 (pfold (fun x n=>tpa x (most-1) n) (fs.take (m)) (pfold (fun x n=>tpa x (most-1) n) es (n-1)))))),(9,(.im (.int .i64 ((((m:Nat)):Int)))))],ofl [.box [.im (.int .i64 k),.im (.int .i64 s),.im (.int .i64 c),.sl (es.map tyV) .ro,.sl (fs.map fdV) .ro]]⟩) ?_ 0 (Nat.zero_le _) trivial
 intro m hm _ hnext
 refine wG iH @Int.natCast_nonneg ?_
 refine cX rfl rfl (fun hE=> ?_) (fun hE=> ?_)
 ·obtain⟨hlt,hp⟩:=jS hE
  have hlt':(m:Int)<(fs.length:Int):=by omega
  have hm1:=aP hlt (by omega)
  have hb:=dO (f:=fun x n=>tpa x (most-1) n) (l:=fs.take m) (fun t _ n hn=>yP t _ n hn) (pfold (fun x n=>tpa x (most-1) n) es (n-1)) (by omega)
  have hc:=hF fs[m] (List.getElem_mem hlt) (hfF _ (List.getElem_mem hlt)) (most-1) _ (by omega) (by omega) hp (by omega)
  rw[←jQ (f:=fun x n=>tpa x (most-1) n) hlt hp]at hc
  have hg:=bE hlt;refine wG iH (A5 hlt' hg hv @Int.natCast_nonneg BN03) ?_;refine AR.callP hc @bW wP ?_;refine goG iH BN03 ?_;refine wG iH hm1 ?_;refine ALp.cutP 1 [(1,(.im (.int .i64 (most)))),(3,.pt 0 0),(7,(.im (.int .i64 (pfold (fun x n=>tpa x (most-1) n) (fs.take (m+1)) (pfold (fun x n=>tpa x (most-1) n) es (n-1)))))),(9,(.im (.int .i64 ((((m+1:Nat)):Int)))))] [.box [.im (.int .i64 k),.im (.int .i64 s),.im (.int .i64 c),.sl (es.map tyV) .ro,.sl (fs.map fdV) .ro]] wP ?_
  exact hnext (m+1) (by omega) (by omega) trivial
 rw[jR hm hE]
 clear hnext hE
 refine wG iH TI ?_
 exact aC
def Kr:=AI @gH @gF
theorem GL(t:Ty)(ht:fit t)(most:Int)(hq:0≤most)(hq2:most≤4194304):PC Tryz.prog 49 [tyV t,(.im (.int .i64 (most)))] (.im (.bool (smallT t most))):=by
 have h:=GT t ht most 3000 hq hq2 (by omega) (by omega)
 refine PC.enter 9 Tryz.func49 rfl (by decide) rfl rfl (s:=[(0,tyV t),(1,(.im (.int .i64 (most))))]) (by rfl) ?_
 rw[bW t]
 refine wG Kr TI ?_
 refine AR.callP h @bW wP ?_
 refine goG Kr BN03 ?_
 refine wG Kr TI ?_
 unfold smallT
 exact aC
def cI:=A16 @mV @iJ @jC @gV @eU @jV @kL @nP @gG @gY @lC @lB @lA @mU @gP (A3 @iI @gU @dG)
def jA:=A12 @aD @aL @aE @aO aT aH aI aX @bR @bT @bS @bU
theorem Pa: ∀l:List Nd,fitNL l→ ∀most n:Int,0≤most→most≤4194304→0≤n→n≤4194304→PC Tryz.prog 48 [.sl (l.map ndV) .ro,(.im (.int .i64 (most))),(.im (.int .i64 (n)))] (.im (.int .i64 (lpa l most n))):=by
 refine Nd.listInduct fun l ih=> ?_
 intro hl most n hq hq2 hn hn2
 obtain⟨hll,hf⟩:=hl
 unfold lpa
 refine PC.enter 101 Tryz.func48 rfl (by decide) rfl rfl (s:=[(0,.sl (l.map ndV) .ro),(1,(.im (.int .i64 (most)))),(2,(.im (.int .i64 (n))))]) (by rfl) ?_
 refine wG cI @List.length_map.{0,0} ?_
 refine cX rfl rfl (fun hE=> ?_) (fun hE=> ?_)
 ·simp only[Bool.or_eq_true,decide_eq_true_eq]at hE
  rw[if_pos (by omega)]
  refine wG cI TI ?_;exact aC
 simp only[Bool.or_eq_false_iff,decide_eq_false_iff_not]at hE
 rw[if_neg (by omega)]
 have hv:IntKind.i64.wrap (most-1)=most-1:=cU (by omega)
 refine wG cI TI ?_
 refine aV ?_
 refine ALp.cutP 0 [(0,.sl (l.map ndV) .ro),(1,(.im (.int .i64 (most)))),(7,(.im (.int .i64 (pfold (fun t n=>ndp t most n) (l.take (0)) n)))),(8,(.im (.int .i64 ((((0:Nat)):Int)))))] [] jA ?_
 refine ALp.upto l.length (fun _=>True) (fun m=>⟨dn 101 [(0,.sl (l.map ndV) .ro),(1,(.im (.int .i64 (most)))),(7,(.im (.int .i64 (pfold (fun t n=>ndp t most n) (l.take (m)) n)))),(8,(.im (.int .i64 ((((m:Nat)):Int)))))],ofl []⟩) ?_ 0 (Nat.zero_le _) trivial
 intro m hm _ hnext
 refine wG cI (AI @Int.natCast_nonneg @List.length_map.{0,0}) ?_
 refine cX rfl rfl (fun hE=> ?_) (fun hE=> ?_)
 ·obtain⟨hlt,hp⟩:=jS hE
  have hlt':(m:Int)<(l.length:Int):=by omega
  have hm1:=aP hlt (by omega)
  have hb:=dO (f:=fun t n=>ndp t most n) (l:=l.take m) (fun t _ n hn=>Ha t _ n hn) n (by omega)
  have hg:=bE hlt;have hst:=jQ (f:=fun t n=>ndp t most n) hlt hp
  obtain⟨i1,i2,i3⟩:=ih l[m] (List.getElem_mem hlt);have hfi:=dN (hf _ (List.getElem_mem hlt));have hn3:=hnext (m+1) (by omega) (by omega) trivial
  rw[hst,Dh]at hn3;have hall:pfold (fun t n=>ndp t most n) (l.take m) n=pfold (fun t n=>ndp t most n) (l.take m) n:=rfl
  have hend: ∀r,ndp l[m] most (pfold (fun t n=>ndp t most n) (l.take m) n)=r→ ¬0≤r→pfold (fun t n=>ndp t most n) l n=r:=fun r h1 h2=>by
   rw[←hst]at h1;rw[←h1]at h2 ⊢;exact Gx h2
  rw[Dh]at hend;clear hnext hall hst hE;generalize pfold (fun t n=>ndp t most n) (l.take m) n=n0 at *
  generalize l[m]=t at *;obtain⟨_,hnm,⟨hel,hex⟩,hfl,hfel,hcl,hcx⟩:=hfi;refine wG cI (A3 hlt' hg BN05) ?_;refine cX rfl rfl (fun hE=> ?_) (fun hE=> ?_)
  ·simp only[Bool.or_eq_true,decide_eq_true_eq]at hE
   rw[hend (-1) (by rw[if_pos (by omega)]) (by omega)]
   refine wG cI TI ?_;exact aC
  simp only[Bool.or_eq_false_iff,decide_eq_false_iff_not]at hE;rw[if_neg (by omega)]at hn3
  clear hend;have hw:IntKind.i64.wrap (n0-1)=n0-1:=cU (by omega)
  refine wG cI hw ?_;refine aV ?_;refine ALp.cutP 1 [(0,.sl (l.map ndV) .ro),(1,(.im (.int .i64 (most)))),(7,(.im (.int .i64 (pfold (fun x n=>epa x 70 n) (t.e.take (0)) (n0-1))))),(8,(.im (.int .i64 ((m:Int))))),(9,.pt 0 0),(10,(.im (.int .i64 ((((0:Nat)):Int)))))] [.box [.im (.int .i64 (t).kind),.im (.int .i64 (t).width),.im (.string (t).name),.sl ((t).e.map exV) .ro,.sl ((t).l.map ndV) .ro,.sl ((t).el.map ndV) .ro,.sl ((t).cs.map nlV) .ro]] jA ?_
  refine ALp.upto t.e.length (fun _=>True) (fun j=>⟨dn 101 [(0,.sl (l.map ndV) .ro),(1,(.im (.int .i64 (most)))),(7,(.im (.int .i64 (pfold (fun x n=>epa x 70 n) (t.e.take (j)) (n0-1))))),(8,(.im (.int .i64 ((m:Int))))),(9,.pt 0 0),(10,(.im (.int .i64 ((((j:Nat)):Int)))))],ofl [.box [.im (.int .i64 (t).kind),.im (.int .i64 (t).width),.im (.string (t).name),.sl ((t).e.map exV) .ro,.sl ((t).l.map ndV) .ro,.sl ((t).el.map ndV) .ro,.sl ((t).cs.map nlV) .ro]]⟩) ?_ 0 (Nat.zero_le _) trivial
  intro j hj _ hnext;refine wG cI (AI @Int.natCast_nonneg @List.length_map.{0,0}) ?_;refine cX rfl rfl (fun hE=> ?_) (fun hE=> ?_)
  ·obtain⟨hlj,hpj⟩:=jS hE
   have hlj':(j:Int)<(t.e.length:Int):=by omega
   have hj1:=aP hlj (by omega)
   have hbj:=dO (f:=fun x n=>epa x 70 n) (l:=t.e.take j) (fun x _ n hn=>nV x _ n hn) (n0-1) (by omega)
   have hgj:=bE hlj;have hc:=HH t.e[j] (hex _ (List.getElem_mem hlj)) 70 _ (by decide) (by decide) hpj (by omega)
   rw[←jQ (f:=fun x n=>epa x 70 n) hlj hpj]at hc
   have hnj:=hnext (j+1) (by omega) (by omega) trivial
   clear hnext;refine wG cI (A3 hlj' hgj BN01) ?_;refine AR.callP hc @bI jA ?_;refine goG cI TI ?_;refine wG cI hj1 ?_;refine ALp.cutP 1 [(0,.sl (l.map ndV) .ro),(1,(.im (.int .i64 (most)))),(7,(.im (.int .i64 (pfold (fun x n=>epa x 70 n) (t.e.take (j+1)) (n0-1))))),(8,(.im (.int .i64 ((m:Int))))),(9,.pt 0 0),(10,(.im (.int .i64 ((((j+1:Nat)):Int)))))] [.box [.im (.int .i64 (t).kind),.im (.int .i64 (t).width),.im (.string (t).name),.sl ((t).e.map exV) .ro,.sl ((t).l.map ndV) .ro,.sl ((t).el.map ndV) .ro,.sl ((t).cs.map nlV) .ro]] jA ?_
   exact hnj
  rw[jR hj hE];clear hnext hE;have b1:=dO (f:=fun x n=>epa x 70 n) (l:=t.e) (fun x _ n hn=>nV x _ n hn) (n0-1) (by omega)
  generalize pfold (fun x n=>epa x 70 n) t.e (n0-1)=n1 at *
  refine whG cI TI ?_;refine Blk'.here (Thn.n ?_)
  by_cases k1:0≤n1
  case neg =>
   have e3:nxq (lpa t.el (most-1)) (nxq (lpa t.l (most-1)) n1)=n1:=by unfold nxq;rw[if_neg k1,if_neg k1]
   rw[e3]at hn3;have k1': ¬n1≥0:=by omega
   have b3: -1≤n1∧n1≤4194304:=by omega
   generalize n1=n3 at *;refine wG cI k1' ?_;refine aV ?_;refine ALp.cutP 1 [(0,.sl (l.map ndV) .ro),(1,(.im (.int .i64 (most)))),(7,(.im (.int .i64 (pfold (fun c n=>lpa c (most-1) n) (t.cs.take (0)) n3)))),(8,(.im (.int .i64 ((m:Int))))),(9,.pt 0 0),(11,(.im (.int .i64 ((((0:Nat)):Int)))))] [.box [.im (.int .i64 (t).kind),.im (.int .i64 (t).width),.im (.string (t).name),.sl ((t).e.map exV) .ro,.sl ((t).l.map ndV) .ro,.sl ((t).el.map ndV) .ro,.sl ((t).cs.map nlV) .ro]] jA ?_
   refine ALp.upto t.cs.length (fun _=>True) (fun j=>⟨dn 101 [(0,.sl (l.map ndV) .ro),(1,(.im (.int .i64 (most)))),(7,(.im (.int .i64 (pfold (fun c n=>lpa c (most-1) n) (t.cs.take (j)) n3)))),(8,(.im (.int .i64 ((m:Int))))),(9,.pt 0 0),(11,(.im (.int .i64 ((((j:Nat)):Int)))))],ofl [.box [.im (.int .i64 (t).kind),.im (.int .i64 (t).width),.im (.string (t).name),.sl ((t).e.map exV) .ro,.sl ((t).l.map ndV) .ro,.sl ((t).el.map ndV) .ro,.sl ((t).cs.map nlV) .ro]]⟩) ?_ 0 (Nat.zero_le _) trivial
   intro j hj _ hnext;refine wG cI (AI @Int.natCast_nonneg @List.length_map.{0,0}) ?_;refine cX rfl rfl (fun hE=> ?_) (fun hE=> ?_)
   ·obtain⟨hlj,hpj⟩:=jS hE
    have hlj':(j:Int)<(t.cs.length:Int):=by omega
    have hj1:=aP hlj (by omega)
    have hbj:=dO (f:=fun c n=>lpa c (most-1) n) (l:=t.cs.take j) (fun c _ n hn=>jZ c _ n hn) n3 (by omega)
    have hgj:=bE hlj;have hc:=i3 t.cs[j] (List.getElem_mem hlj) (hcx _ (List.getElem_mem hlj)) (most-1) _ (by omega) (by omega) hpj (by omega)
    rw[←jQ (f:=fun c n=>lpa c (most-1) n) hlj hpj]at hc
    have hnj:=hnext (j+1) (by omega) (by omega) trivial
    clear hnext;refine wG cI (A4 hlj' hgj hv BN05) ?_;refine AR.callP hc TI jA ?_;refine goG cI TI ?_;refine wG cI hj1 ?_;refine ALp.cutP 1 [(0,.sl (l.map ndV) .ro),(1,(.im (.int .i64 (most)))),(7,(.im (.int .i64 (pfold (fun c n=>lpa c (most-1) n) (t.cs.take (j+1)) n3)))),(8,(.im (.int .i64 ((m:Int))))),(9,.pt 0 0),(11,(.im (.int .i64 ((((j+1:Nat)):Int)))))] [.box [.im (.int .i64 (t).kind),.im (.int .i64 (t).width),.im (.string (t).name),.sl ((t).e.map exV) .ro,.sl ((t).l.map ndV) .ro,.sl ((t).el.map ndV) .ro,.sl ((t).cs.map nlV) .ro]] jA ?_
    exact hnj
   rw[jR hj hE];clear hnext hE;refine whG cI TI ?_;refine Blk'.here (Blk'.n (Thn.n ?_));refine wG cI hm1 ?_;refine ALp.cutP 0 [(0,.sl (l.map ndV) .ro),(1,(.im (.int .i64 (most)))),(7,(.im (.int .i64 (pfold (fun c n=>lpa c (most-1) n) t.cs n3)))),(8,(.im (.int .i64 ((((m+1:Nat)):Int)))))] [] jA ?_
   exact hn3
  have c1:=i1 hfl (most-1) n1 (by omega) (by omega) k1 (by omega)
  have b2:=jZ t.l (most-1) n1 k1;have k1':n1≥0:=k1;have e2:nxq (lpa t.l (most-1)) n1=lpa t.l (most-1) n1:=by unfold nxq;rw[if_pos k1]
  rw[e2]at hn3;generalize lpa t.l (most-1) n1=n2 at *
  by_cases k2:0≤n2
  case neg =>
   have e3:nxq (lpa t.el (most-1)) n2=n2:=by unfold nxq;rw[if_neg k2]
   rw[e3]at hn3;have k2': ¬n2≥0:=by omega
   have b3: -1≤n2∧n2≤4194304:=by omega
   generalize n2=n3 at *;refine wG cI (A3 k1' hv BN05) ?_;refine AR.callP c1 TI jA ?_;refine goG cI TI ?_;refine wG cI k2' ?_;refine aV ?_;refine ALp.cutP 1 [(0,.sl (l.map ndV) .ro),(1,(.im (.int .i64 (most)))),(7,(.im (.int .i64 (pfold (fun c n=>lpa c (most-1) n) (t.cs.take (0)) n3)))),(8,(.im (.int .i64 ((m:Int))))),(9,.pt 0 0),(11,(.im (.int .i64 ((((0:Nat)):Int)))))] [.box [.im (.int .i64 (t).kind),.im (.int .i64 (t).width),.im (.string (t).name),.sl ((t).e.map exV) .ro,.sl ((t).l.map ndV) .ro,.sl ((t).el.map ndV) .ro,.sl ((t).cs.map nlV) .ro]] jA ?_
   refine ALp.upto t.cs.length (fun _=>True) (fun j=>⟨dn 101 [(0,.sl (l.map ndV) .ro),(1,(.im (.int .i64 (most)))),(7,(.im (.int .i64 (pfold (fun c n=>lpa c (most-1) n) (t.cs.take (j)) n3)))),(8,(.im (.int .i64 ((m:Int))))),(9,.pt 0 0),(11,(.im (.int .i64 ((((j:Nat)):Int)))))],ofl [.box [.im (.int .i64 (t).kind),.im (.int .i64 (t).width),.im (.string (t).name),.sl ((t).e.map exV) .ro,.sl ((t).l.map ndV) .ro,.sl ((t).el.map ndV) .ro,.sl ((t).cs.map nlV) .ro]]⟩) ?_ 0 (Nat.zero_le _) trivial
   intro j hj _ hnext;refine wG cI (AI @Int.natCast_nonneg @List.length_map.{0,0}) ?_;refine cX rfl rfl (fun hE=> ?_) (fun hE=> ?_)
   ·obtain⟨hlj,hpj⟩:=jS hE
    have hlj':(j:Int)<(t.cs.length:Int):=by omega
    have hj1:=aP hlj (by omega)
    have hbj:=dO (f:=fun c n=>lpa c (most-1) n) (l:=t.cs.take j) (fun c _ n hn=>jZ c _ n hn) n3 (by omega)
    have hgj:=bE hlj;have hc:=i3 t.cs[j] (List.getElem_mem hlj) (hcx _ (List.getElem_mem hlj)) (most-1) _ (by omega) (by omega) hpj (by omega)
    rw[←jQ (f:=fun c n=>lpa c (most-1) n) hlj hpj]at hc
    have hnj:=hnext (j+1) (by omega) (by omega) trivial
    clear hnext;refine wG cI (A4 hlj' hgj hv BN05) ?_;refine AR.callP hc TI jA ?_;refine goG cI TI ?_;refine wG cI hj1 ?_;refine ALp.cutP 1 [(0,.sl (l.map ndV) .ro),(1,(.im (.int .i64 (most)))),(7,(.im (.int .i64 (pfold (fun c n=>lpa c (most-1) n) (t.cs.take (j+1)) n3)))),(8,(.im (.int .i64 ((m:Int))))),(9,.pt 0 0),(11,(.im (.int .i64 ((((j+1:Nat)):Int)))))] [.box [.im (.int .i64 (t).kind),.im (.int .i64 (t).width),.im (.string (t).name),.sl ((t).e.map exV) .ro,.sl ((t).l.map ndV) .ro,.sl ((t).el.map ndV) .ro,.sl ((t).cs.map nlV) .ro]] jA ?_
    exact hnj
   rw[jR hj hE];clear hnext hE;refine whG cI TI ?_;refine Blk'.here (Blk'.n (Thn.n ?_));refine wG cI hm1 ?_;refine ALp.cutP 0 [(0,.sl (l.map ndV) .ro),(1,(.im (.int .i64 (most)))),(7,(.im (.int .i64 (pfold (fun c n=>lpa c (most-1) n) t.cs n3)))),(8,(.im (.int .i64 ((((m+1:Nat)):Int)))))] [] jA ?_
   exact hn3
  have c2:=i2 hfel (most-1) n2 (by omega) (by omega) k2 (by omega)
  have b3:=jZ t.el (most-1) n2 k2;have k2':n2≥0:=k2;have e3:nxq (lpa t.el (most-1)) n2=lpa t.el (most-1) n2:=by unfold nxq;rw[if_pos k2]
  rw[e3]at hn3;generalize lpa t.el (most-1) n2=n3 at *;refine wG cI (A3 k1' hv BN05) ?_;refine AR.callP c1 TI jA ?_;refine goG cI TI ?_;refine wG cI (A3 k2' hv BN05) ?_;refine AR.callP c2 TI jA ?_;refine goG cI TI ?_;refine wG cI TI ?_;refine aV ?_;refine ALp.cutP 1 [(0,.sl (l.map ndV) .ro),(1,(.im (.int .i64 (most)))),(7,(.im (.int .i64 (pfold (fun c n=>lpa c (most-1) n) (t.cs.take (0)) n3)))),(8,(.im (.int .i64 ((m:Int))))),(9,.pt 0 0),(11,(.im (.int .i64 ((((0:Nat)):Int)))))] [.box [.im (.int .i64 (t).kind),.im (.int .i64 (t).width),.im (.string (t).name),.sl ((t).e.map exV) .ro,.sl ((t).l.map ndV) .ro,.sl ((t).el.map ndV) .ro,.sl ((t).cs.map nlV) .ro]] jA ?_
  refine ALp.upto t.cs.length (fun _=>True) (fun j=>⟨dn 101 [(0,.sl (l.map ndV) .ro),(1,(.im (.int .i64 (most)))),(7,(.im (.int .i64 (pfold (fun c n=>lpa c (most-1) n) (t.cs.take (j)) n3)))),(8,(.im (.int .i64 ((m:Int))))),(9,.pt 0 0),(11,(.im (.int .i64 ((((j:Nat)):Int)))))],ofl [.box [.im (.int .i64 (t).kind),.im (.int .i64 (t).width),.im (.string (t).name),.sl ((t).e.map exV) .ro,.sl ((t).l.map ndV) .ro,.sl ((t).el.map ndV) .ro,.sl ((t).cs.map nlV) .ro]]⟩) ?_ 0 (Nat.zero_le _) trivial
  intro j hj _ hnext;refine wG cI (AI @Int.natCast_nonneg @List.length_map.{0,0}) ?_;refine cX rfl rfl (fun hE=> ?_) (fun hE=> ?_)
  ·obtain⟨hlj,hpj⟩:=jS hE
   have hlj':(j:Int)<(t.cs.length:Int):=by omega
   have hj1:=aP hlj (by omega)
   have hbj:=dO (f:=fun c n=>lpa c (most-1) n) (l:=t.cs.take j) (fun c _ n hn=>jZ c _ n hn) n3 (by omega)
   have hgj:=bE hlj;have hc:=i3 t.cs[j] (List.getElem_mem hlj) (hcx _ (List.getElem_mem hlj)) (most-1) _ (by omega) (by omega) hpj (by omega)
   rw[←jQ (f:=fun c n=>lpa c (most-1) n) hlj hpj]at hc
   have hnj:=hnext (j+1) (by omega) (by omega) trivial
   clear hnext;refine wG cI (A4 hlj' hgj hv BN05) ?_;refine AR.callP hc TI jA ?_;refine goG cI TI ?_;refine wG cI hj1 ?_;refine ALp.cutP 1 [(0,.sl (l.map ndV) .ro),(1,(.im (.int .i64 (most)))),(7,(.im (.int .i64 (pfold (fun c n=>lpa c (most-1) n) (t.cs.take (j+1)) n3)))),(8,(.im (.int .i64 ((m:Int))))),(9,.pt 0 0),(11,(.im (.int .i64 ((((j+1:Nat)):Int)))))] [.box [.im (.int .i64 (t).kind),.im (.int .i64 (t).width),.im (.string (t).name),.sl ((t).e.map exV) .ro,.sl ((t).l.map ndV) .ro,.sl ((t).el.map ndV) .ro,.sl ((t).cs.map nlV) .ro]] jA ?_
   exact hnj
  rw[jR hj hE];clear hnext hE;refine whG cI TI ?_;refine Blk'.here (Blk'.n (Thn.n ?_));refine wG cI hm1 ?_;refine ALp.cutP 0 [(0,.sl (l.map ndV) .ro),(1,(.im (.int .i64 (most)))),(7,(.im (.int .i64 (pfold (fun c n=>lpa c (most-1) n) t.cs n3)))),(8,(.im (.int .i64 ((((m+1:Nat)):Int)))))] [] jA ?_
  exact hn3
 rw[jR hm hE]
 clear hnext hE
 refine wG cI TI ?_
 exact aC
theorem MN(b x y z u v r:Bs)(k:Nat)(hr:b++lnT k (x++(y++(z++(u++v))))=r)(hlen:r.length≤140737488355328):DC Tryz.prog 36 [.pt 0 0,.sl [.im (.string ⟨(x).toArray⟩),.im (.string ⟨(y).toArray⟩),.im (.string ⟨(z).toArray⟩),.im (.string ⟨(u).toArray⟩),.im (.string ⟨(v).toArray⟩)] .full] [.box [.nb 0 PQ,.sl ((b).map byB) (.mine 1),(.im (.int .i64 ((k:Int))))],.tip 5 1 (b).length] (.tu []) [.box [.nb 0 PQ,.sl ((r).map byB) (.mine 1),(.im (.int .i64 ((k:Int))))],.tip 5 1 (r).length]:=by
 subst hr
 exact Fi<|Sg b [x,y,z,u,v] (x++(y++(z++(u++v)))) (by simp) k (by simp) hlen
theorem Wg{l:List Va}{m:Nat}(k:Nat)(h:m<l.length):vasT k (l.take (m+1))=vasT k (l.take m)++varT k l[m]:=by
 unfold vasT
 rw[List.take_succ_eq_append_getElem h,List.map_append,List.flatten_append]
 simp
theorem JC{l:List Va}{m k:Nat}:(vasT k (l.take m)).length≤(vasT k l).length:=by
 conv=>rhs;rw[←List.take_append_drop m l]
 unfold vasT
 rw[List.map_append,List.flatten_append,List.length_append]
 exact Nat.le_add_right _ _
theorem TU(t:Ty)(hf:fit t)(hg:good t=true)(hl:(txT t).length≤140737488355328):PC Tryz.prog 81 [tyV t] (.im (.string ⟨(txT t).toArray⟩)):=by
 have:=Zg t hf fun _=>hl
 rw[prT,if_pos hg]at this
 exact this
def rX:=A12 @eC @gH @yL @mG @pN @kC @jN @qV @nY @dD @gF @jM
def zX:=A10 @aD @aE bB aB @aL @aO @bS @bR @bU @bT
def SZ:=A11 @aR @aS fC cF eO @bF @bD @rC @rD @rQ @rR
theorem ME(l:List Va)(k:Nat)(b:Bs)(hl:l.length≤4194304)(hf:xQ l)(hg: ∀v∈l,good v.ty=true)(hlen:(b++vasT k l).length≤140737488355328) :
  DC Tryz.prog 35 [.pt 0 0,.sl (l.map vaV) .ro] [.box [.nb 0 PQ,.sl ((b).map byB) (.mine 1),(.im (.int .i64 ((k:Int))))],.tip 5 1 (b).length] (.tu []) [.box [.nb 0 PQ,.sl (((b++vasT k l)).map byB) (.mine 1),(.im (.int .i64 ((k:Int))))],.tip 5 1 ((b++vasT k l)).length]:=by
 obtain⟨Bf,hBf⟩: ∃Bf:Nat→Bs,∀m,Bf m=b++vasT k (l.take m):=⟨_,fun _=>rfl⟩
 have h0:Bf 0=b:=by rw[hBf];simp[vasT]
 have hend:Bf l.length=b++vasT k l:=by rw[hBf,List.take_length]
 rw[←hend,←h0]
 refine DC.enter 21 Tryz.func35 rfl (by decide) rfl rfl (s:=[(0,.pt 0 0),(1,.sl (l.map vaV) .ro)]) (by rfl) ?_
 refine wG rX @List.length_map.{0,0} ?_
 refine aV ?_
 refine ALp.cutP 2 [(0,.pt 0 0),(6,.sl (l.map vaV) .ro),(7,(.im (.int .i64 (l.length)))),(8,(.im (.int .i64 ((((0:Nat)):Int)))))] [.box [.nb 0 PQ,.sl (((Bf 0)).map byB) (.mine 1),(.im (.int .i64 ((k:Int))))],.tip 5 1 ((Bf 0)).length] zX ?_
 refine ALp.upto l.length (fun _=>True) (fun m=>⟨dn 21 [(0,.pt 0 0),(6,.sl (l.map vaV) .ro),(7,(.im (.int .i64 (l.length)))),(8,(.im (.int .i64 ((((m:Nat)):Int)))))],ofl [.box [.nb 0 PQ,.sl (((Bf m)).map byB) (.mine 1),(.im (.int .i64 ((k:Int))))],.tip 5 1 ((Bf m)).length]⟩) ?_ 0 (Nat.zero_le _) trivial
 intro m hm _ hnext
 by_cases hlt:m<l.length
 ·have hlt':(m:Int)<(l.length:Int):=by omega
  have hm1:=aP hlt (by omega)
  have hgv:=bE hlt;have hle:=JC (l:=l) (m:=m+1) (k:=k);have hB:Bf m++varT k l[m]=Bf (m+1):=by rw[hBf,hBf,Wg k hlt,List.append_assoc]
  have hBl:(Bf (m+1)).length≤140737488355328:=by
   rw[hBf,List.length_append];rw[List.length_append]at hlen;omega
  have hvl:(varT k l[m]).length≤(Bf (m+1)).length:=by rw[←hB,List.length_append];omega
  have hp:=TU l[m].ty (hf _ (List.getElem_mem hlt)).1 (hg _ (List.getElem_mem hlt)) (by
   have:(txT l[m].ty).length≤(varT k l[m]).length:=by unfold varT lnT;simp only[List.length_append,List.length_cons,List.length_nil];omega
   omega)
  have hline:=MN (Bf m) [118,97,114,32] l[m].name.data.toList [58,32] (txT l[m].ty) [59] (Bf (m+1)) k hB hBl;rw[Sy]at hline;refine wdG rX (A3 hlt' hgv VA) ?_;refine AR.callP hp @bW zX ?_;refine goG rX TI ?_;refine aA [0,1] hline TI zX SZ ?_;refine goG rX TI ?_;refine wdG rX hm1 ?_;refine ALp.cutP 2 [(0,.pt 0 0),(6,.sl (l.map vaV) .ro),(7,(.im (.int .i64 (l.length)))),(8,(.im (.int .i64 ((((m+1:Nat)):Int)))))] [.box [.nb 0 PQ,.sl (((Bf (m+1))).map byB) (.mine 1),(.im (.int .i64 ((k:Int))))],.tip 5 1 ((Bf (m+1))).length] zX ?_;exact hnext (m+1) (by omega) (by omega) trivial
 obtain rfl:m=l.length:=by omega
 clear hnext
 refine wG rX @Int.lt_irrefl ?_
 refine aQ (rs:=[]) rfl (by first|exact .inl rfl|exact .inr rfl) (finG rX) ?_ rfl (idG zX)
 all_goals exact wkG zX
def toP{α:Type}(p:α→Bool)(l:List α)(m:Nat):Prop:= ∀j (h:j<l.length),j<m→p l[j]=true
theorem toP.zero{α:Type}(p:α→Bool)(l:List α):toP p l 0:=fun j _ h=>absurd h (Nat.not_lt_zero j)
theorem toP.succ{α:Type}{p:α→Bool}{l:List α}{m:Nat}(h:toP p l m)(h1:m<l.length)(hp:p l[m]=true):toP p l (m+1):=fun j j1 hj=>by
 rcases Nat.lt_succ_iff_lt_or_eq.1 hj with hj|rfl
 ·exact h j j1 hj
 ·exact hp
theorem toP.all{α:Type}{p:α→Bool}{l:List α}(h:toP p l l.length):l.all p=true:=by
 rw[List.all_eq_true]
 intro x hx
 obtain⟨j,hj,rfl⟩:=List.getElem_of_mem hx
 exact h j hj hj
theorem Km{α:Type}{p:α→Bool}{l:List α}{m:Nat}(h:m<l.length)(hp:p l[m]=false):l.all p=false:=by
 rw[←Bool.not_eq_true,List.all_eq_true]
 intro k
 rw[k _ (List.getElem_mem h)]at hp
 cases hp
def Nc(v:Va):Bool:=nameT v.name&&decide (chk v.ty=0)
def Ft(p:Nd×Bool):Bool:= !(p.1.e.any fun x=> !esh x 64)&&stT p.1
def prtB(f:Fun):Bool:=nameT f.name&&(decide (dep f.body≤64)&&(f.vars.all Nc&&(allL f.body false).all Ft))
def cC:=A16 @iJ @Py @lT @jC @gV @eC @gH @yL @Fg @pN @Ff @kC @gY @wT @vO (A12 @mD @oA @qV @nY @gP @Et @kB @iI @gU @dD @gF @jM)
def iS:=A16 aT aH aI aX @aD @aE bB aB fE dQ @aL @aO @bR @bS @bT @bU
theorem Oz(f:Fun)(hF:fitFn f)(hA: ∀p∈allL f.body false,fitN p.1):PC Tryz.prog 50 [fnV f] (.im (.bool (prtB f))):=by
 have hf:=hF.bd
 have hc:=hF.ct
 have qn:=wK f.name hF.nm
 have qd:=Vn f.body hf hc
 unfold prtB
 rw[kU]
 cases hn:nameT f.name with
 | false =>
  rw[hn]at qn;refine PC.enter 58 Tryz.func50 rfl (by decide) rfl rfl (s:=[(0,.ag [.im (.string f.name),.sl (f.vars.map vaV) .ro,.sl (f.body.map ndV) .ro])]) (by rfl) ?_
  refine wG cC TI ?_;refine AWp.scope ?_;refine wG cC TI ?_;refine AR.callP qn TI iS ?_;refine goG cC TI ?_;refine wG cC TI ?_;exact aC
 | true =>
 rw[hn]at qn
 by_cases hd:dep f.body≤64
 case neg =>
  have hd':dep f.body>64:=by omega
  rw[decide_eq_false hd];refine PC.enter 58 Tryz.func50 rfl (by decide) rfl rfl (s:=[(0,.ag [.im (.string f.name),.sl (f.vars.map vaV) .ro,.sl (f.body.map ndV) .ro])]) (by rfl) ?_
  refine wG cC TI ?_;refine AWp.scope ?_;refine wG cC TI ?_;refine AR.callP qn TI iS ?_;refine goG cC TI ?_;refine AR.callP qd TI iS ?_;refine goG cC hd' ?_;refine wG cC TI ?_;exact aC
 have hd': ¬dep f.body>64:=by omega
 rw[decide_eq_true hd,Bool.true_and,Bool.true_and]
 have qa:=OE f.body hf hc false
 have hAl:=Ej f.body false
 generalize allL f.body false=L at qa hA hAl ⊢
 refine PC.enter 58 Tryz.func50 rfl (by decide) rfl rfl (s:=[(0,.ag [.im (.string f.name),.sl (f.vars.map vaV) .ro,.sl (f.body.map ndV) .ro])]) (by rfl) ?_
 refine wG cC TI ?_
 refine AWp.scope ?_
 refine wG cC TI ?_
 refine AR.callP qn TI iS ?_
 refine goG cC TI ?_
 refine AR.callP qd TI iS ?_
 refine goG cC hd' ?_
 refine wG cC @List.length_map.{0,0} ?_
 refine aV ?_
 refine ALp.cutP 1 [(1,.pt 0 0),(2,(.im (.bool (false)))),(20,.sl (f.vars.map vaV) .ro),(21,(.im (.int .i64 (f.vars.length)))),(22,(.im (.int .i64 ((((0:Nat)):Int)))))] [.box [.im (.string f.name),.sl (f.vars.map vaV) .ro,.sl (f.body.map ndV) .ro]] iS ?_
 refine ALp.upto f.vars.length (toP Nc f.vars) (fun m=>⟨dn 58 [(1,.pt 0 0),(2,(.im (.bool (false)))),(20,.sl (f.vars.map vaV) .ro),(21,(.im (.int .i64 (f.vars.length)))),(22,(.im (.int .i64 ((((m:Nat)):Int)))))],ofl [.box [.im (.string f.name),.sl (f.vars.map vaV) .ro,.sl (f.body.map ndV) .ro]]⟩) ?_ 0 (Nat.zero_le _) (toP.zero _ _)
 intro m hm hI hnext
 by_cases hlt:m<f.vars.length
 ·have hlt':(m:Int)<(f.vars.length:Int):=by omega
  have hm1:=aP hlt (by have:=hF.vl;omega)
  have hg:=bE hlt;obtain⟨hty,hnm⟩:=hF.vn _ (List.getElem_mem hlt);have h1:=wK f.vars[m].name hnm;have h4:=Kd f.vars[m].ty hty;cases b1:nameT f.vars[m].name with
  | false =>
   rw[b1]at h1;rw[Km hlt (show Nc f.vars[m]=false by unfold Nc;rw[b1];rfl),Bool.false_and]
   refine wG cC (A3 hlt' hg VA) ?_;refine AR.callP h1 TI iS ?_;refine goG cC TI ?_;refine wG cC TI ?_;exact aC
  | true =>
   rw[b1]at h1
   by_cases b3:chk f.vars[m].ty=0
   case neg =>
    rw[Km hlt (show Nc f.vars[m]=false by unfold Nc;rw[b1,decide_eq_false b3];rfl),Bool.false_and]
    refine wG cC (A3 hlt' hg VA) ?_;refine AR.callP h1 TI iS ?_;refine goG cC TY ?_;refine AR.callP h4 @bW iS ?_;refine goG cC b3 ?_;refine wG cC b3 ?_;exact aC
   case pos =>
    rw[b3]at h4;refine wG cC (A3 hlt' hg VA) ?_;refine AR.callP h1 TI iS ?_;refine goG cC TY ?_;refine AR.callP h4 @bW iS ?_;refine goG cC TI ?_;refine wG cC hm1 ?_;refine ALp.cutP 1 [(1,.pt 0 0),(2,(.im (.bool (false)))),(20,.sl (f.vars.map vaV) .ro),(21,(.im (.int .i64 (f.vars.length)))),(22,(.im (.int .i64 ((((m+1:Nat)):Int)))))] [.box [.im (.string f.name),.sl (f.vars.map vaV) .ro,.sl (f.body.map ndV) .ro]] iS ?_;exact hnext (m+1) (by omega) (by omega) (hI.succ hlt (by unfold Nc;rw[b1,decide_eq_true b3];rfl))
 obtain rfl:m=f.vars.length:=by omega
 rw[hI.all,Bool.true_and]
 clear hnext hI
 refine whG cC @Int.lt_irrefl ?_
 refine Blk'.here (Thn.n ?_)
 refine wG cC TI ?_
 refine AW ?_
 refine Thn.n ?_
 refine wG cC TI ?_
 refine AR.callP qa TI iS ?_
 refine goG cC @List.length_map.{0,0} ?_
 refine wG cC TI ?_
 refine aV ?_
 refine ALp.cutP 1 [(1,.pt 0 0),(2,(.im (.bool (false)))),(5,(.im (.bool (true)))),(39,.sl (L.map plV) .ro),(40,(.im (.int .i64 (L.length)))),(41,(.im (.int .i64 ((((0:Nat)):Int)))))] [.box [.im (.string f.name),.sl (f.vars.map vaV) .ro,.sl (f.body.map ndV) .ro]] iS ?_
 refine ALp.upto L.length (toP Ft L) (fun m=>⟨dn 58 [(1,.pt 0 0),(2,(.im (.bool (false)))),(5,(.im (.bool (true)))),(39,.sl (L.map plV) .ro),(40,(.im (.int .i64 (L.length)))),(41,(.im (.int .i64 ((((m:Nat)):Int)))))],ofl [.box [.im (.string f.name),.sl (f.vars.map vaV) .ro,.sl (f.body.map ndV) .ro]]⟩) ?_ 0 (Nat.zero_le _) (toP.zero _ _)
 intro m hm hI hnext
 by_cases hlt:m<L.length
 ·have hlt':(m:Int)<(L.length:Int):=by omega
  have hm1:=aP hlt (by omega)
  have hg:=bE hlt;have p1:=hA L[m] (List.getElem_mem hlt);have hst:Ft L[m]=false→L.all Ft=false:=fun h=>Km hlt h
  have hsu:Ft L[m]=true→toP Ft L (m+1):=fun h=>hI.succ hlt h
  generalize L[m]=p at hg p1 hst hsu;have hfe:=(dN p1).2.2.1;have qe:=nI (gs:=p.1.e) (F:=102) (fun x=> !esh x 64) hfe.1 (fun x hx=>SF x (hfe.2 x hx))
  have qs:=Al p.1 p1;cases b1:(p.1.e.any fun x=> !esh x 64)with
  | true =>
   rw[b1]at qe;rw[hst (by unfold Ft;rw[b1];rfl)]
   refine wG cC (A10 hlt' hg tJ qO tH tG tI qP @List.getElem?_map.{0,0} @Int.natCast_nonneg) ?_;refine AR.callP qe TI iS ?_;refine goG cC TI ?_;refine wG cC TI ?_;exact aC
  | false =>
   rw[b1]at qe;cases b2:stT p.1 with
   | false =>
    rw[b2]at qs;rw[hst (by unfold Ft;rw[b1,b2];rfl)]
    refine wG cC (A10 hlt' hg tJ qO tH tG tI qP @List.getElem?_map.{0,0} @Int.natCast_nonneg) ?_;refine AR.callP qe TI iS ?_;refine goG cC TI ?_;refine wG cC TI ?_;refine AR.callP qs dZ iS ?_;refine goG cC TI ?_;refine wG cC TI ?_;exact aC
   | true =>
    rw[b2]at qs;refine wG cC (A10 hlt' hg tJ qO tH tG tI qP @List.getElem?_map.{0,0} @Int.natCast_nonneg) ?_;refine AR.callP qe TI iS ?_;refine goG cC TI ?_;refine wG cC TI ?_;refine AR.callP qs dZ iS ?_;refine goG cC TI ?_;refine wG cC hm1 ?_;refine ALp.cutP 1 [(1,.pt 0 0),(2,(.im (.bool (false)))),(5,(.im (.bool (true)))),(39,.sl (L.map plV) .ro),(40,(.im (.int .i64 (L.length)))),(41,(.im (.int .i64 ((((m+1:Nat)):Int)))))] [.box [.im (.string f.name),.sl (f.vars.map vaV) .ro,.sl (f.body.map ndV) .ro]] iS ?_;exact hnext (m+1) (by omega) (by omega) (hsu (by unfold Ft;rw[b1,b2];rfl))
 obtain rfl:m=L.length:=by omega
 rw[hI.all]
 clear hnext hI
 refine wG cC @Int.lt_irrefl ?_
 exact aC
def jJ:=A11 @lT @jC @gH @kC @mD @oA @nY @kB @iI @gF @jM
def zW:=A10 @aD @aL @aE @aO aT aH @bR @bT @bS @bU
theorem GM(f:Fun)(hF:fitFn f):PC Tryz.prog 17 [fnV f] (.im (.bool (smF f))):=by
 have q1:=Pa f.body hF.bd 70 5000 (by decide) (by decide) (by decide) (by decide)
 have hvl:=hF.vl
 unfold smF
 rw[kU]
 by_cases h1:f.vars.length≤300
 case neg =>
  have h1':(f.vars.length:Int)>300:=by omega
  rw[decide_eq_false h1,Bool.false_and];refine PC.enter 29 Tryz.func17 rfl (by decide) rfl rfl (s:=[(0,.ag [.im (.string f.name),.sl (f.vars.map vaV) .ro,.sl (f.body.map ndV) .ro])]) (by rfl) ?_
  refine wG jJ (AI @List.length_map.{0,0} h1') ?_;exact aC
 have h1': ¬(f.vars.length:Int)>300:=by omega
 rw[decide_eq_true h1,Bool.true_and]
 by_cases h2:0≤lpa f.body 70 5000
 case neg =>
  have h2':lpa f.body 70 5000<0:=by omega
  rw[decide_eq_false h2,Bool.false_and];refine PC.enter 29 Tryz.func17 rfl (by decide) rfl rfl (s:=[(0,.ag [.im (.string f.name),.sl (f.vars.map vaV) .ro,.sl (f.body.map ndV) .ro])]) (by rfl) ?_
  refine wG jJ (AI @List.length_map.{0,0} h1') ?_;refine AR.callP q1 TI zW ?_;refine goG jJ h2' ?_;refine wG jJ h2' ?_;exact aC
 have h2': ¬lpa f.body 70 5000<0:=by omega
 rw[decide_eq_true h2,Bool.true_and]
 refine PC.enter 29 Tryz.func17 rfl (by decide) rfl rfl (s:=[(0,.ag [.im (.string f.name),.sl (f.vars.map vaV) .ro,.sl (f.body.map ndV) .ro])]) (by rfl) ?_
 refine wG jJ (AI @List.length_map.{0,0} h1') ?_
 refine AR.callP q1 TI zW ?_
 refine goG jJ h2' ?_
 refine wG jJ h2' ?_
 refine aV ?_
 refine ALp.cutP 1 [(1,.pt 0 0),(3,(.im (.int .i64 ((((0:Nat)):Int)))))] [.box [.im (.string f.name),.sl (f.vars.map vaV) .ro,.sl (f.body.map ndV) .ro]] zW ?_
 refine ALp.upto f.vars.length (toP (fun v=>smallT v.ty 70) f.vars) (fun m=>⟨dn 29 [(1,.pt 0 0),(3,(.im (.int .i64 ((((m:Nat)):Int)))))],ofl [.box [.im (.string f.name),.sl (f.vars.map vaV) .ro,.sl (f.body.map ndV) .ro]]⟩) ?_ 0 (Nat.zero_le _) (toP.zero _ _)
 intro m hm hI hnext
 by_cases hlt:m<f.vars.length
 ·have hlt':(m:Int)<(f.vars.length:Int):=by omega
  have hm1:=aP hlt (by omega)
  have hg:=bE hlt;have hc:=GL f.vars[m].ty (hF.vn _ (List.getElem_mem hlt)).1 70 (by decide) (by decide)
  cases b:smallT f.vars[m].ty 70 with
  | false =>
   rw[b]at hc;rw[Km hlt b];refine wdG jJ (A3 hlt' hg VA) ?_;refine AR.callP hc @bW zW ?_;refine goG jJ TI ?_;refine wdG jJ TI ?_;exact aC
  | true =>
   rw[b]at hc;refine wdG jJ (A3 hlt' hg VA) ?_;refine AR.callP hc @bW zW ?_;refine goG jJ TI ?_;refine wdG jJ hm1 ?_;refine ALp.cutP 1 [(1,.pt 0 0),(3,(.im (.int .i64 ((((m+1:Nat)):Int)))))] [.box [.im (.string f.name),.sl (f.vars.map vaV) .ro,.sl (f.body.map ndV) .ro]] zW ?_;exact hnext (m+1) (by omega) (by omega) (hI.succ hlt b)
 obtain rfl:m=f.vars.length:=by omega
 rw[hI.all]
 clear hnext hI
 refine wG jJ @Int.lt_irrefl ?_
 exact aC
theorem VN:PQ%1000000=73∧PQ/1000000=1:=by decide
def nB:=A7 @sL @vR @Wc @zZ @Vy @nN @vH
theorem Kg(f:Fun)(T:Bs)(hT:T≠[])(hp:PC Tryz.prog 50 [fnV f] (.im (.bool (true))))(hfun:DC Tryz.prog 39 [.pt 0 0,fnV f] [.box [.nb 0 PQ,.sl ((([]:Bs)).map byB) (.mine 1),(.im (.int .i64 (((0:Nat):Int))))],.tip 5 1 (([]:Bs)).length] (.tu []) [.box [.nb 0 PQ,.sl ((T).map byB) (.mine 1),(.im (.int .i64 (((0:Nat):Int))))],.tip 5 1 (T).length]) :
  PC Tryz.prog 18 [fnV f] (.im (.string ⟨(T).toArray⟩)):=by
 have hs:=AJ ⟨T.toArray⟩ (.im (.int .i64 (((0:Nat):Int)))) (by rw[fY];intro e;exact hT (List.length_eq_zero_iff.1 e))
 rw[Su,fY]at hs
 rw[kU]at hp hfun ⊢
 refine PC.enter 16 Tryz.func18 rfl (by decide) rfl rfl (s:=[(0,.ag [.im (.string f.name),.sl (f.vars.map vaV) .ro,.sl (f.body.map ndV) .ro])]) (by rfl) ?_
 refine wG nB TI ?_
 refine AR.callP hp TI (A12 aT aH aI aX @aD @aE bB aB fE dQ @aL @aO) ?_
 refine goG nB TI ?_
 repeat (with_reducible first|refine AWp.seq ?_|refine qF ?_|refine Thn.n ?_|refine kN ?_)
 with_reducible apply jW
 case ht=>rfl
 case hc=>rfl
 repeat (with_reducible first|refine AWp.seq ?_|refine qF ?_|refine Thn.n ?_|refine kN ?_)
 refine AWp.region ?_
 refine AR.one rfl (by simp only[↓iY,↓reduceIte,SA,SB,SC,SD,nB,oR,fpsG,evO,evB,evA,oF,oS,eqF,eqC,kG,iC,slB,slK,gd,St.ev,eW,ofl,wrl,putE,V.ofVal,V.ofCell,bin2,un1,seg,iV,eT,Value.oneCell',Nat.reduceBEq,Nat.reduceLT,Nat.reduceSub,Nat.reduceAdd,Nat.reduceMul,Nat.reduceLeDiff,Nat.reduceEqDiff,reduceCtorEq,Int.reduceLT,Int.reduceLE,Int.reduceEq,Int.reduceNe,Int.reduceBEq,Int.reduceBNe,Int.reduceAdd,Int.reduceSub,Int.reduceMul,Int.reduceToNat];with_reducible exact rfl) (by simp only[↓iY,↓reduceIte,SA,SB,SC,SD,nB,oR,fpsG,evO,evB,evA,oF,oS,eqF,eqC,kG,iC,slB,slK,gd,St.ev,eW,ofl,wrl,putE,V.ofVal,V.ofCell,bin2,un1,seg,iV,eT,Value.oneCell',Nat.reduceBEq,Nat.reduceLT,Nat.reduceSub,Nat.reduceAdd,Nat.reduceMul,Nat.reduceLeDiff,Nat.reduceEqDiff,reduceCtorEq,Int.reduceLT,Int.reduceLE,Int.reduceEq,Int.reduceNe,Int.reduceBEq,Int.reduceBNe,Int.reduceAdd,Int.reduceSub,Int.reduceMul,Int.reduceToNat];with_reducible exact rfl) (by simp only[↓iY,↓reduceIte,SA,SB,SC,SD,nB,oR,fpsG,evO,evB,evA,oF,oS,eqF,eqC,kG,iC,slB,slK,gd,St.ev,eW,ofl,wrl,putE,V.ofVal,V.ofCell,bin2,un1,seg,iV,eT,Value.oneCell',Nat.reduceBEq,Nat.reduceLT,Nat.reduceSub,Nat.reduceAdd,Nat.reduceMul,Nat.reduceLeDiff,Nat.reduceEqDiff,reduceCtorEq,Int.reduceLT,Int.reduceLE,Int.reduceEq,Int.reduceNe,Int.reduceBEq,Int.reduceBNe,Int.reduceAdd,Int.reduceSub,Int.reduceMul,Int.reduceToNat];with_reducible exact rfl) ?_
 refine NO (q:=PQ) VN rfl ?_
 refine goG nB TI ?_
 repeat (with_reducible first|refine AWp.seq ?_|refine qF ?_|refine Thn.n ?_|refine kN ?_)
 refine AWp.ghostB 1 1 [.nb 1 PQ,.sl [] .nl,(.im (.int .i64 (0)))] 5 1 ?_
 simp only[List.set_cons_succ,List.set_cons_zero,List.cons_append,List.nil_append,List.length_cons,List.length_nil,Nat.reduceAdd]
 rw[show(([]:Bs).map byB)=[]from rfl,show([]:Bs).length=0 from rfl,show((0:Nat):Int)=0 from rfl]at hfun
 rw[show((0:Nat):Int)=0 from rfl]at hs
 refine wG nB TI ?_
 refine aA [1,2] hfun TI (A12 aT aH aI aX @aD @aE bB aB fE dQ @aL @aO) (A10 cA bK bM @aR @aS fC cF eO @bF @bD) ?_
 refine goG nB TI ?_
 refine wG nB TI ?_
 refine aA [1,2] hs TI (A12 aT aH aI aX @aD @aE bB aB fE dQ @aL @aO) (A10 cA bK bM @aR @aS fC cF eO @bF @bD) ?_
 refine goG nB TI ?_
 refine wG nB TI ?_
 refine aG (rs:=[.tmp 2]) rfl (by first|exact .inl rfl|exact .inr rfl) (finG nB) ?_
 all_goals exact wkG (A12 aT aH aI aX @aD @aE bB aB fE dQ @aL @aO)
def bL:=A16 @mV @iJ @cL @jC @gV @eU @mG @kL @nP @gG @jN @iN @gY @lC @lB (A9 @lA @qX @mU @gP @cK @iI @gU @dG @dD)
set_option maxHeartbeats 4000000 in
theorem RV: ∀t:Nd,fitN t→okT t=true→ ∀(k:Nat) (b:Bs),(k:Int)+2*depT t≤4194304→(b++ndT t k).length≤140737488355328 →
  DC Tryz.prog 153 [.pt 0 0,ndV t] [.box [.nb 0 PQ,.sl ((b).map byB) (.mine 1),(.im (.int .i64 ((k:Int))))],.tip 5 1 (b).length] (.tu []) [.box [.nb 0 PQ,.sl (((b++ndT t k)).map byB) (.mine 1),(.im (.int .i64 ((k:Int))))],.tip 5 1 ((b++ndT t k)).length]:=by
 refine Nd.induct fun o w n e l el cs h1 h2 h3=> ?_
 intro hf hok k b hd hlen
 rw[zC]at hok
 simp only[Bool.and_eq_true,List.all_eq_true]at hok
 obtain⟨hs,o1,o2,o3⟩:=hok
 obtain⟨_,e2,e3,_⟩:=iA hs
 obtain⟨_,_,⟨_,he⟩,f1,f2,f3,f4⟩:=dN hf
 simp only[Nd.kind,Nd.e,Nd.l,Nd.el,Nd.cs]at e2 e3 he f1 f2 f3 f4
 have hp:=Oq (.mk o w n e l el cs)
 have d1:=uJ (t:= .mk o w n e l el cs) (c:=l) (List.mem_cons_self)
 have d2:=uJ (t:= .mk o w n e l el cs) (c:=el) (List.mem_cons_of_mem _ List.mem_cons_self)
 have d3:=fun c hc=>uJ (t:= .mk o w n e l el cs) (c:=c) (List.mem_cons_of_mem _ (List.mem_cons_of_mem _ hc))
 generalize hD:depT (.mk o w n e l el cs)=D at hd hp d1 d2 d3
 have N1:=fun(B:Bs) (hB:(B++lsT l (k+1)).length≤140737488355328)=>xW l k B f1.1 (by omega) hB fun t ht c hc=>h1 t ht (f1.2 t ht) (o1 t ht) (k+1) c (by have:=uQ ht;omega) hc
 have N2:=fun(B:Bs) (hB:(B++lsT el (k+1)).length≤140737488355328)=>xW el k B f2.1 (by omega) hB fun t ht c hc=>h2 t ht (f2.2 t ht) (o2 t ht) (k+1) c (by have:=uQ ht;omega) hc
 have N3:=fun(c:List Nd) (hc:c∈cs) (B:Bs) (hB:(B++lsT c (k+1+1)).length≤140737488355328)=>xW c (k+1) B (f4 c hc).1 (by have:=d3 c hc;have:=rS c;omega) hB fun t ht q hq=>h3 c hc t ht ((f4 c hc).2 t ht) (o3 c hc t ht) (k+1+1) q (by have:=uQ ht;have:=d3 c hc;omega) hq
 clear h1 h2 h3 hD
 by_cases k6:o=6
 ·subst k6
  obtain⟨a,rfl⟩:=xG e2;rw[nd6]at hlen ⊢;have qa:=fun h=>wI a (he a (by simp)) (e3 a (by simp)) h
  obtain⟨B1,hB1⟩: ∃B1,b++lnT k ([105,102,32]++(txE a++[32,123]))=B1:=⟨_,rfl⟩
  obtain⟨B2,hB2⟩: ∃B2,B1++lsT l (k+1)=B2:=⟨_,rfl⟩
  have hta:(txE a).length≤B1.length:=by rw[←hB1];unfold lnT;simp only[List.length_append];omega
  have l12:B1.length≤B2.length:=by rw[←hB2,List.length_append];omega
  by_cases hel:el.length=0
  ·obtain⟨B5,hB5⟩: ∃B5,B2++lnT k [125]=B5:=⟨_,rfl⟩
   have hR:b++(lnT k ([105,102,32]++(txE a++[32,123]))++(lsT l (k+1)++((if el.length=0 then []else lnT k [125,32,101,108,115,101,32,123]++lsT el (k+1))++lnT k [125])))=B5:=by
    rw[if_pos hel,←hB5,←hB2,←hB1];simp only[List.append_assoc,List.nil_append]
   rw[hR]at hlen ⊢;have l25:B2.length≤B5.length:=by rw[←hB5,List.length_append];omega
   have q1:=vF b [105,102,32] (txE a) [32,123] B1 k hB1 (by omega)
   have q2:=N1 B1 (by rw[hB2];omega)
   rw[hB2]at q2;have q5:=mJ B2 [125] B5 k hB5 hlen;have qt:=qa (by omega)
   have hel': ¬(el.length:Int)>0:=by omega
   clear hR hB1 hB2 hB5 N1 N2 N3;refine DC.enter 112 Tryz.func153 rfl (by decide) rfl rfl (s:=[(0,.pt 0 0),(1,ndV (.mk 6 w n [a] l el cs))]) (by rfl) ?_
   simp only[eN];refine wG bL (AI ND EX) ?_;refine AR.callP qt @bI (A8 aT aH aI aX @aD @aE bB aB) ?_;refine goG bL TI ?_;refine aA [0,1] q1 TI (A8 aT aH aI aX @aD @aE bB aB) (A8 cA bK bM @aR @aS fC cF eO) ?_;refine goG bL TI ?_;refine wG bL (AI ND EX) ?_;refine aA [0,1] q2 TI (A8 aT aH aI aX @aD @aE bB aB) (A8 cA bK bM @aR @aS fC cF eO) ?_;refine goG bL TI ?_;refine wG bL (A4 ND EX @List.length_map.{0,0} hel') ?_;refine aA [0,1] q5 TI (A8 aT aH aI aX @aD @aE bB aB) (A8 cA bK bM @aR @aS fC cF eO) ?_;refine goG bL TI ?_;refine wG bL TI ?_;refine aQ (rs:=[]) rfl (by first|exact .inl rfl|exact .inr rfl) (finG bL) ?_ rfl (idG (A8 aT aH aI aX @aD @aE bB aB))
   all_goals exact wkG (A8 aT aH aI aX @aD @aE bB aB)
  ·obtain⟨B3,hB3⟩: ∃B3,B2++lnT k [125,32,101,108,115,101,32,123]=B3:=⟨_,rfl⟩
   obtain⟨B4,hB4⟩: ∃B4,B3++lsT el (k+1)=B4:=⟨_,rfl⟩
   obtain⟨B5,hB5⟩: ∃B5,B4++lnT k [125]=B5:=⟨_,rfl⟩
   have hR:b++(lnT k ([105,102,32]++(txE a++[32,123]))++(lsT l (k+1)++((if el.length=0 then []else lnT k [125,32,101,108,115,101,32,123]++lsT el (k+1))++lnT k [125])))=B5:=by
    rw[if_neg hel,←hB5,←hB4,←hB3,←hB2,←hB1];simp only[List.append_assoc]
   rw[hR]at hlen ⊢;have l23:B2.length≤B3.length:=by rw[←hB3,List.length_append];omega
   have l34:B3.length≤B4.length:=by rw[←hB4,List.length_append];omega
   have l45:B4.length≤B5.length:=by rw[←hB5,List.length_append];omega
   have q1:=vF b [105,102,32] (txE a) [32,123] B1 k hB1 (by omega)
   have q2:=N1 B1 (by rw[hB2];omega)
   rw[hB2]at q2;have q3:=mJ B2 [125,32,101,108,115,101,32,123] B3 k hB3 (by omega)
   have q4:=N2 B3 (by rw[hB4];omega)
   rw[hB4]at q4;have q5:=mJ B4 [125] B5 k hB5 hlen;have qt:=qa (by omega)
   have hel':(el.length:Int)>0:=by omega
   clear hR hB1 hB2 hB3 hB4 hB5 N1 N2 N3;refine DC.enter 112 Tryz.func153 rfl (by decide) rfl rfl (s:=[(0,.pt 0 0),(1,ndV (.mk 6 w n [a] l el cs))]) (by rfl) ?_
   simp only[eN];refine wG bL (AI ND EX) ?_;refine AR.callP qt @bI (A8 aT aH aI aX @aD @aE bB aB) ?_;refine goG bL TI ?_;refine aA [0,1] q1 TI (A8 aT aH aI aX @aD @aE bB aB) (A8 cA bK bM @aR @aS fC cF eO) ?_;refine goG bL TI ?_;refine wG bL (AI ND EX) ?_;refine aA [0,1] q2 TI (A8 aT aH aI aX @aD @aE bB aB) (A8 cA bK bM @aR @aS fC cF eO) ?_;refine goG bL TI ?_;refine wG bL (A4 ND EX @List.length_map.{0,0} hel') ?_;refine aA [0,1] q3 TI (A8 aT aH aI aX @aD @aE bB aB) (A8 cA bK bM @aR @aS fC cF eO) ?_;refine goG bL TI ?_;refine wG bL (AI ND EX) ?_;refine aA [0,1] q4 TI (A8 aT aH aI aX @aD @aE bB aB) (A8 cA bK bM @aR @aS fC cF eO) ?_;refine goG bL TI ?_;refine wG bL TI ?_;refine aA [0,1] q5 TI (A8 aT aH aI aX @aD @aE bB aB) (A8 cA bK bM @aR @aS fC cF eO) ?_;refine goG bL TI ?_;refine wG bL TI ?_;refine aQ (rs:=[]) rfl (by first|exact .inl rfl|exact .inr rfl) (finG bL) ?_ rfl (idG (A8 aT aH aI aX @aD @aE bB aB))
   all_goals exact wkG (A8 aT aH aI aX @aD @aE bB aB)
 by_cases k7:o=7
 ·subst k7
  obtain⟨a,rfl⟩:=xG e2;rw[nd7]at hlen ⊢;obtain⟨B1,hB1⟩: ∃B1,b++lnT k ([119,104,105,108,101,32]++(txE a++[32,123]))=B1:=⟨_,rfl⟩
  obtain⟨B2,hB2⟩: ∃B2,B1++lsT l (k+1)=B2:=⟨_,rfl⟩
  have hta:(txE a).length≤B1.length:=by rw[←hB1];unfold lnT;simp only[List.length_append];omega
  have l12:B1.length≤B2.length:=by rw[←hB2,List.length_append];omega
  obtain⟨B5,hB5⟩: ∃B5,B2++lnT k [125]=B5:=⟨_,rfl⟩
  have hR:b++(lnT k ([119,104,105,108,101,32]++(txE a++[32,123]))++(lsT l (k+1)++lnT k [125]))=B5:=by
   rw[←hB5,←hB2,←hB1];simp only[List.append_assoc]
  rw[hR]at hlen ⊢;have l25:B2.length≤B5.length:=by rw[←hB5,List.length_append];omega
  have q1:=vF b [119,104,105,108,101,32] (txE a) [32,123] B1 k hB1 (by omega)
  have q2:=N1 B1 (by rw[hB2];omega)
  rw[hB2]at q2;have q5:=mJ B2 [125] B5 k hB5 hlen;have qt:=wI a (he a (by simp)) (e3 a (by simp)) (by omega)
  clear hR hB1 hB2 hB5 N1 N2 N3;refine DC.enter 112 Tryz.func153 rfl (by decide) rfl rfl (s:=[(0,.pt 0 0),(1,ndV (.mk 7 w n [a] l el cs))]) (by rfl) ?_
  simp only[eN];refine wG bL (AI ND EX) ?_;refine AR.callP qt @bI (A8 aT aH aI aX @aD @aE bB aB) ?_;refine goG bL TI ?_;refine aA [0,1] q1 TI (A8 aT aH aI aX @aD @aE bB aB) (A8 cA bK bM @aR @aS fC cF eO) ?_;refine goG bL TI ?_;refine wG bL (AI ND EX) ?_;refine aA [0,1] q2 TI (A8 aT aH aI aX @aD @aE bB aB) (A8 cA bK bM @aR @aS fC cF eO) ?_;refine goG bL TI ?_;refine wG bL TI ?_;refine aA [0,1] q5 TI (A8 aT aH aI aX @aD @aE bB aB) (A8 cA bK bM @aR @aS fC cF eO) ?_;refine goG bL TI ?_;refine wG bL TI ?_;refine aQ (rs:=[]) rfl (by first|exact .inl rfl|exact .inr rfl) (finG bL) ?_ rfl (idG (A8 aT aH aI aX @aD @aE bB aB))
  all_goals exact wkG (A8 aT aH aI aX @aD @aE bB aB)
 by_cases k8:o=8
 ·subst k8
  rw[nd8]at hlen ⊢;obtain⟨B1,hB1⟩: ∃B1,b++lnT k [108,111,111,112,32,123]=B1:=⟨_,rfl⟩
  obtain⟨B2,hB2⟩: ∃B2,B1++lsT l (k+1)=B2:=⟨_,rfl⟩
  have l12:B1.length≤B2.length:=by rw[←hB2,List.length_append];omega
  obtain⟨B5,hB5⟩: ∃B5,B2++lnT k [125]=B5:=⟨_,rfl⟩
  have hR:b++(lnT k [108,111,111,112,32,123]++(lsT l (k+1)++lnT k [125]))=B5:=by
   rw[←hB5,←hB2,←hB1];simp only[List.append_assoc]
  rw[hR]at hlen ⊢;have l25:B2.length≤B5.length:=by rw[←hB5,List.length_append];omega
  have q1:=mJ b [108,111,111,112,32,123] B1 k hB1 (by omega)
  have q2:=N1 B1 (by rw[hB2];omega)
  rw[hB2]at q2;have q5:=mJ B2 [125] B5 k hB5 hlen;clear hR hB1 hB2 hB5 N1 N2 N3;refine DC.enter 112 Tryz.func153 rfl (by decide) rfl rfl (s:=[(0,.pt 0 0),(1,ndV (.mk 8 w n e l el cs))]) (by rfl) ?_
  simp only[eN];refine wG bL (AI ND EX) ?_;refine aA [0,1] q1 TI (A8 aT aH aI aX @aD @aE bB aB) (A8 cA bK bM @aR @aS fC cF eO) ?_;refine goG bL TI ?_;refine wG bL (AI ND EX) ?_;refine aA [0,1] q2 TI (A8 aT aH aI aX @aD @aE bB aB) (A8 cA bK bM @aR @aS fC cF eO) ?_;refine goG bL TI ?_;refine wG bL TI ?_;refine aA [0,1] q5 TI (A8 aT aH aI aX @aD @aE bB aB) (A8 cA bK bM @aR @aS fC cF eO) ?_;refine goG bL TI ?_;refine wG bL TI ?_;refine aQ (rs:=[]) rfl (by first|exact .inl rfl|exact .inr rfl) (finG bL) ?_ rfl (idG (A8 aT aH aI aX @aD @aE bB aB))
  all_goals exact wkG (A8 aT aH aI aX @aD @aE bB aB)
 by_cases k9:o=9
 ·subst k9
  obtain⟨a,rfl⟩:=xG e2;rw[nd9]at hlen ⊢;have hw1:IntKind.i64.wrap ((k:Int)+1)=((k+1:Nat):Int):=by rw[cU (by omega)];omega
  have hw2:IntKind.i64.wrap (((k+1:Nat):Int)-1)=(k:Int):=by rw[cU (by omega)];omega
  obtain⟨B1,hB1⟩: ∃B1,b++lnT k ([115,119,105,116,99,104,32]++(txE a++[32,123]))=B1:=⟨_,rfl⟩
  obtain⟨Cf,hCf⟩: ∃Cf:Nat→Bs,∀m,Cf m=B1++((cs.zipIdx.take m).map (caS k)).flatten:=⟨_,fun _=>rfl⟩
  have hC0:Cf 0=B1:=by rw[hCf];simp
  have hCE:Cf cs.length=B1++(cs.zipIdx.map (caS k)).flatten:=by rw[hCf,List.take_of_length_le (by simp)]
  obtain⟨B5,hB5⟩: ∃B5,Cf cs.length++lnT k [125]=B5:=⟨_,rfl⟩
  have hR:b++(lnT k ([115,119,105,116,99,104,32]++(txE a++[32,123]))++((cs.zipIdx.map (caS k)).flatten++lnT k [125]))=B5:=by
   rw[←hB5,hCE,←hB1];simp only[List.append_assoc]
  rw[hR]at hlen ⊢
  have hCs: ∀m (h:m<cs.length),Cf (m+1)=Cf m++caS k (cs[m],m):=fun m h=>by
   have hz:m<cs.zipIdx.length:=by simpa using h
   rw[hCf,hCf,List.take_succ_eq_append_getElem hz,List.map_append,List.flatten_append,List.append_assoc];simp
  have hCl: ∀m,(Cf m).length≤(Cf cs.length).length:=fun m=>by
   rw[hCE,hCf,List.length_append,List.length_append]
   have:(cs.zipIdx.map (caS k)).flatten=((cs.zipIdx.take m).map (caS k)).flatten++((cs.zipIdx.drop m).map (caS k)).flatten:=by
    rw[←List.flatten_append,←List.map_append,List.take_append_drop]
   rw[this,List.length_append];omega
  have lCE:(Cf cs.length).length≤B5.length:=by rw[←hB5,List.length_append];omega
  have l1C:B1.length≤(Cf cs.length).length:=by rw[←hC0];exact hCl 0
  have hta:(txE a).length≤B1.length:=by rw[←hB1];unfold lnT;simp only[List.length_append];omega
  have q1:=vF b [115,119,105,116,99,104,32] (txE a) [32,123] B1 k hB1 (by omega)
  have q5:=mJ (Cf cs.length) [125] B5 k hB5 hlen;have qt:=wI a (he a (by simp)) (e3 a (by simp)) (by omega)
  have hcl:cs.length≤4194304:=(dN hf).2.2.2.2.2.1;clear hR hB1 hB5 N1 N2 hCE hCf;rw[←hC0]at q1;clear hC0;refine DC.enter 112 Tryz.func153 rfl (by decide) rfl rfl (s:=[(0,.pt 0 0),(1,ndV (.mk 9 w n [a] l el cs))]) (by rfl) ?_
  simp only[eN];refine wG bL (AI ND EX) ?_;refine AR.callP qt @bI (A8 aT aH aI aX @aD @aE bB aB) ?_;refine goG bL TI ?_;refine aA [0,1] q1 TI (A8 aT aH aI aX @aD @aE bB aB) (A8 cA bK bM @aR @aS fC cF eO) ?_;refine goG bL TI ?_;refine wG bL (A4 hw1 ND EX @List.length_map.{0,0}) ?_;refine aV ?_;refine ALp.cutP 3 [(0,.pt 0 0),(3,.pt 2 0),(83,.sl (cs.map nlV) .ro),(84,(.im (.int .i64 (cs.length)))),(85,(.im (.int .i64 ((((0:Nat)):Int)))))] [.box [.nb 0 PQ,.sl (((Cf 0)).map byB) (.mine 1),(.im (.int .i64 (((k+1:Nat):Int))))],.tip 5 1 ((Cf 0)).length,.box [(.im (.int .i64 (9))),.im (.int .i64 w),.im (.string n),.sl [exV a] .ro,.sl (l.map ndV) .ro,.sl (el.map ndV) .ro,.sl (cs.map nlV) .ro]] (A8 aT aH aI aX @aD @aE bB aB) ?_;refine ALp.upto cs.length (fun _=>True) (fun m=>⟨dn 112 [(0,.pt 0 0),(3,.pt 2 0),(83,.sl (cs.map nlV) .ro),(84,(.im (.int .i64 (cs.length)))),(85,(.im (.int .i64 ((((m:Nat)):Int)))))],ofl [.box [.nb 0 PQ,.sl (((Cf m)).map byB) (.mine 1),(.im (.int .i64 (((k+1:Nat):Int))))],.tip 5 1 ((Cf m)).length,.box [(.im (.int .i64 (9))),.im (.int .i64 w),.im (.string n),.sl [exV a] .ro,.sl (l.map ndV) .ro,.sl (el.map ndV) .ro,.sl (cs.map nlV) .ro]]⟩) ?_ 0 (Nat.zero_le _) trivial
  intro m hm _ hnext
  by_cases hlt:m<cs.length
  ·have hlt':(m:Int)<(cs.length:Int):=by omega
   have hm1:=aP hlt (by omega)
   have hg:=bE hlt;have hst:=hCs m hlt;have hle:=hCl (m+1);have hmem:=List.getElem_mem hlt;have qi:=tW (m:Int) (by omega) (by omega)
   generalize cs[m]=c at hg hst hmem;obtain⟨D1,hD1⟩: ∃D1,Cf m++lnT (k+1) ([99,97,115,101,32]++(Lib.itoa (m:Int)++[32,123]))=D1:=⟨_,rfl⟩
   obtain⟨D2,hD2⟩: ∃D2,D1++lsT c (k+1+1)=D2:=⟨_,rfl⟩
   have hD3:D2++lnT (k+1) [125]=Cf (m+1):=by rw[hst,←hD2,←hD1];unfold caS;simp only[List.append_assoc]
   have m1:D2.length≤(Cf (m+1)).length:=by rw[←hD3,List.length_append];omega
   have m2:D1.length≤D2.length:=by rw[←hD2,List.length_append];omega
   have r1:=vF (Cf m) [99,97,115,101,32] (Lib.itoa (m:Int)) [32,123] D1 (k+1) hD1 (by omega)
   have r2:=N3 c hmem D1 (by rw[hD2];omega)
   rw[hD2]at r2;have r3:=mJ D2 [125] (Cf (m+1)) (k+1) hD3 (by omega)
   clear hD1 hD2 hD3 hst hCs hCl N3;refine wG bL (A3 hlt' hg ND) ?_;refine AR.callP qi TI (A8 aT aH aI aX @aD @aE bB aB) ?_;refine goG bL TI ?_;refine aA [0,1] r1 TI (A8 aT aH aI aX @aD @aE bB aB) (A8 cA bK bM @aR @aS fC cF eO) ?_;refine goG bL TI ?_;refine wG bL ND ?_;refine aA [0,1] r2 Jg (A8 aT aH aI aX @aD @aE bB aB) (A8 cA bK bM @aR @aS fC cF eO) ?_;refine goG bL TI ?_;refine wG bL TI ?_;refine aA [0,1] r3 TI (A8 aT aH aI aX @aD @aE bB aB) (A8 cA bK bM @aR @aS fC cF eO) ?_;refine goG bL TI ?_;refine wG bL hm1 ?_;refine ALp.cutP 3 [(0,.pt 0 0),(3,.pt 2 0),(83,.sl (cs.map nlV) .ro),(84,(.im (.int .i64 (cs.length)))),(85,(.im (.int .i64 ((((m+1:Nat)):Int)))))] [.box [.nb 0 PQ,.sl (((Cf (m+1))).map byB) (.mine 1),(.im (.int .i64 (((k+1:Nat):Int))))],.tip 5 1 ((Cf (m+1))).length,.box [(.im (.int .i64 (9))),.im (.int .i64 w),.im (.string n),.sl [exV a] .ro,.sl (l.map ndV) .ro,.sl (el.map ndV) .ro,.sl (cs.map nlV) .ro]] (A8 aT aH aI aX @aD @aE bB aB) ?_;exact hnext (m+1) (by omega) (by omega) trivial
  obtain rfl:m=cs.length:=by omega
  clear hnext hCs hCl N3;refine wG bL (AI @Int.lt_irrefl hw2) ?_;refine aA [0,1] q5 TI (A8 aT aH aI aX @aD @aE bB aB) (A8 cA bK bM @aR @aS fC cF eO) ?_;refine goG bL TI ?_;refine wG bL TI ?_;refine aQ (rs:=[]) rfl (by first|exact .inl rfl|exact .inr rfl) (finG bL) ?_ rfl (idG (A8 aT aH aI aX @aD @aE bB aB))
  all_goals exact wkG (A8 aT aH aI aX @aD @aE bB aB)
 exact MI (.mk o w n e l el cs) k b hf hs k6 k7 k8 k9 hlen
def prF(f:Fun):Bs:=if prtB f=true then funT f else []
theorem Cv{f:Fun}(h:prtB f=true):nameT f.name=true∧dep f.body≤64∧(∀v∈f.vars,nameT v.name=true∧chk v.ty=0)∧ ∀q∈allL f.body false,(∀x∈q.1.e,esh x 64=true)∧stT q.1=true:=by
 unfold prtB at h
 simp only[Bool.and_eq_true,decide_eq_true_eq,List.all_eq_true]at h
 obtain⟨h1,h2,h3,h4⟩:=h
 refine⟨h1,h2,fun v hv=> ?_,fun q hq=> ?_⟩
 ·have:=h3 v hv
  unfold Nc at this;simpa using this
 ·have:=h4 q hq
  unfold Ft at this;simp only[Bool.and_eq_true,Bool.not_eq_true',List.any_eq_false]at this;refine⟨fun x hx=> ?_,this.2⟩
  have:=this.1 x hx;simpa using this
theorem Nv{t:Ty}(h:chk t=0):good t=true:=by unfold good;rw[h];rfl
theorem Vt{f:Fun}(h:prtB f=true): ∀t∈f.body,okT t=true:=fun t ht =>
 PX (lp:=false) fun q hq=>((Cv h).2.2.2 q (List.mem_flatMap.2 ⟨t,ht,hq⟩)).2
theorem VG(f:Fun)(hF:fitFn f)(hp:prtB f=true)(b:Bs)(hl:(b++funT f).length≤140737488355328):DC Tryz.prog 39 [.pt 0 0,fnV f] [.box [.nb 0 PQ,.sl (b.map byB) (.mine 1),(.im (.int .i64 (((0:Nat):Int))))],.tip 5 1 b.length] (.tu []) [.box [.nb 0 PQ,.sl ((b++funT f).map byB) (.mine 1),(.im (.int .i64 (((0:Nat):Int))))],.tip 5 1 (b++funT f).length]:=by
 obtain⟨h1,h2,h3,h4⟩:=Cv hp
 have hbo:=Vt hp
 have hlen:=hl
 unfold funT at hlen ⊢
 simp only[List.length_append]at hlen
 have hv:=ME f.vars 1 (b++lnT 0 ([102,117,110,99,32]++(f.name.data.toList++[32,123]))) (Nat.le_trans hF.vl (by decide)) hF.vn (fun v hv=>Nv (h3 v hv).2) (by simp only[List.length_append];omega)
 have hn:=xW f.body 0 (b++lnT 0 ([102,117,110,99,32]++(f.name.data.toList++[32,123]))++vasT 1 f.vars) hF.bd.1 (by decide) (by simp only[List.length_append,Nat.zero_add];omega) (fun t ht c hc=>RV t (hF.bd.2 t ht) (hbo t ht) 1 c (by have:=uQ ht;omega) hc)
 have:=Sh f 0 (by decide) b _ _ _ (b++(lnT 0 ([102,117,110,99,32]++(f.name.data.toList++[32,123]))++(vasT 1 f.vars++(lsT f.body 1++lnT 0 [125])))) rfl (by simp only[List.length_append];omega) hv hn (by simp only[List.append_assoc]) (by simp only[List.length_append];omega)
 exact this
def Kt:=A7 @sL @vR @Wc @zZ @Vy @nN @vH
def TD:=A12 aT aH aI aX @aD @aE bB aB fE dQ @aL @aO
theorem HQ(f:Fun)(hF:fitFn f)(hl:prtB f=true→(funT f).length≤140737488355328):PC Tryz.prog 18 [fnV f] (.im (.string ⟨(prF f).toArray⟩)):=by
 have hp:=Oz f hF (Kk f.body hF.bd false)
 unfold prF
 cases h:prtB f with
 | true =>
  rw[h]at hp;rw[if_pos rfl];have hf:=VG f hF h [] (by simpa using hl h)
  rw[List.nil_append]at hf;exact Kg f (funT f) (by unfold funT lnT;simp) hp hf
 | false =>
  rw[h]at hp;rw[if_neg (by decide)]
  rw[kU]at hp ⊢;refine PC.enter 16 Tryz.func18 rfl (by decide) rfl rfl (s:=[(0,.ag [.im (.string f.name),.sl (f.vars.map vaV) .ro,.sl (f.body.map ndV) .ro])]) (by rfl) ?_
  refine wG Kt TI ?_;refine AR.callP hp TI TD ?_;refine goG Kt TI ?_;refine wG Kt TI ?_;exact aC
theorem KN: ∀e:Ex,fitE e→n32 e=true:=by
 refine Ex.induct fun o n s w l hl=> ?_
 intro hf
 obtain⟨_,h2⟩:=nG hf
 obtain⟨_,h3,_⟩:=Of hf
 rw[Dj,Bool.and_eq_true,decide_eq_true_eq,List.all_eq_true]
 exact⟨by omega,fun t ht=>hl t ht (h2 t ht)⟩
end Go.Proofs.YtmbmmckagcdapaaGreatDoor
namespace Go.Proofs.YtmbmmckagcdapaaGreatDoor
theorem GD{t:Ty}(h:chk t=0):shal t 64=true:=by
 unfold chk at h
 cases q:shal t 64 with
 | true=>rfl
 | false=>rw[q]at h;simp at h
theorem Dn{f:Fun}(h:prtB f=true)(hF:fitFn f):FunOk f:=by
 obtain⟨h1,h2,h3,h4⟩:=Cv h
 have hfit:=Kk f.body hF.bd false
 refine⟨h1,fun v hv=>⟨(h3 v hv).1,Nt (Nv (h3 v hv).2),GD (h3 v hv).2⟩,fun t ht=>⟨Vt h t ht,QZ (lp:=false) qE fun q hq=> ?_⟩,h2⟩
 have hm:q∈allL f.body false:=List.mem_flatMap.2 ⟨t,ht,hq⟩
 rw[List.all_eq_true]
 intro x hx
 obtain⟨k1,k2⟩:=h4 q hm
 have hfe:=(dN (hfit q hm)).2.2.1.2 x hx
 have hg:=(US x ((iA k2).2.2.1 x hx) 63 (k1 x hx)).1
 unfold qE
 rw[KN x hfe,decide_eq_true hg]
 rfl
theorem LZ: ∀(k u:Nat),u<10^(k+1)→(Lib.decDigits u).length≤k+1:=by
 intro k
 induction k with
 | zero =>
  intro u h;rw[Lib.decDigits,dif_pos (by simpa using h)]
  simp
 | succ k ih =>
  intro u h;rw[Lib.decDigits];split
  ·simp
  ·rw[List.length_append,List.length_singleton]
   have:=ih (u/10) (by rw[Nat.pow_succ]at h;omega)
   omega
theorem tP{c:Int}(h0:0≤c)(h1:c<1000000):(Lib.itoa c).length≤6:=by
 have e:Lib.itoa c=Lib.decDigits c.toNat:=by unfold Lib.itoa;rw[if_neg (by omega)]
 rw[e]
 exact LZ 5 _ (by omega)
def tlT(l:List Ty):Bs:=(l.map fun f=>[44,32]++pcT (f.off,txT f)).flatten
theorem Yp(f:Ty)(r:List Ty):fldT ((f::r).map fun f=>(f.off,txT f))=pcT (f.off,txT f)++tlT r:=by
 unfold fldT tlT
 rw[List.map_cons]
 simp only[List.map_map]
 rfl
theorem BO(f:Ty)(r:List Ty):tlT (f::r)=[44,32]++(pcT (f.off,txT f)++tlT r):=by
 unfold tlT
 rw[List.map_cons,List.flatten_cons,List.append_assoc]
def sumT(l:List Ty):Nat:=(l.map fun x=>(txT x).length+10).sum
theorem qI(x:Ty)(l:List Ty):sumT (x::l)=(txT x).length+10+sumT l:=by unfold sumT;simp
theorem Tr: ∀l:List Ty,(∀x∈l,0≤x.off∧x.off<65536)→(tlT l).length≤sumT l
 | [],_=>by simp[tlT,sumT]
 | x::l,h=>by
  have:=Tr l fun y hy=>h y (by simp[hy])
  have hx:=h x (by simp)
  have hi:=tP hx.1 (by omega)
  rw[BO,qI];simp only[pcT,List.length_append,List.length_cons,List.length_nil];omega
theorem EW(l:List Ty)(h: ∀x∈l,0≤x.off∧x.off<65536):(fldT (l.map fun f=>(f.off,txT f))).length≤sumT l:=by
 cases l with
 | nil=>simp[fldT,sumT]
 | cons x l =>
  have:=Tr l fun y hy=>h y (by simp[hy])
  have hx:=h x (by simp)
  have hi:=tP hx.1 (by omega)
  rw[Yp,qI];simp only[pcT,List.length_append,List.length_cons,List.length_nil];omega
theorem wF{most:Int}: ∀(l:List Ty),(∀x∈l,∀n,0≤tpa x most n→((txT x).length:Int)+10≤40*(n-tpa x most n))→ ∀n,0≤n→0≤pfold (fun x n=>tpa x most n) l n→(sumT l:Int)≤40*(n-pfold (fun x n=>tpa x most n) l n)
 | [],_,n,hn,h=>by simp[pfold,sumT]
 | x::l,hx,n,hn,h=>by
  have e:pfold (fun x n=>tpa x most n) (x::l) n=pfold (fun x n=>tpa x most n) l (tpa x most n):=by unfold pfold;rw[List.foldl_cons,if_pos hn]
  rw[e]at h ⊢
  have h0:0≤tpa x most n:=Int.not_lt.1 fun hneg=>by
   rw[kT _ (by omega)]at h
   omega
  have h1:=hx x (by simp) n h0
  have h2:=wF l (fun y hy=>hx y (by simp[hy])) _ h0 h
  rw[qI];omega
theorem JN: ∀t:Ty,frm t=true→ ∀most left:Int,0≤left→0≤tpa t most left→((txT t).length:Int)+10≤40*(left-tpa t most left):=by
 refine Ty.induct fun o k s c es fs hE hF=> ?_
 intro hfrm most left hl h
 obtain⟨hb,hof,hfs,hes⟩:=oW hfrm
 rw[Cc]at h ⊢
 split at h
 ·omega
 ·rename_i hn
  rw[if_neg hn]
  have h0:0≤pfold (fun x n=>tpa x (most-1) n) es (left-1):=Int.not_lt.1 fun hneg=>by
   rw[kT _ (by omega)]at h
   omega
  have a1:=wF es (fun x hx n hn=>by
   by_cases hn0:0≤n
   ·exact hE x hx (hes x hx) _ _ hn0 hn
   ·obtain⟨o',k',s',c',es',fs'⟩:=x
    rw[Cc,if_pos (by omega)]at hn
    omega) (left-1) (by omega) h0
  have a2:=wF fs (fun x hx n hn=>by
   by_cases hn0:0≤n
   ·exact hF x hx (hfs x hx) _ _ hn0 hn
   ·obtain⟨o',k',s',c',es',fs'⟩:=x
    rw[Cc,if_pos (by omega)]at hn
    omega) _ h0 h
  have hlen:((txT (.mk o k s c es fs)).length:Int)≤12+sumT es+sumT fs:=by
   rw[rE];rcases lX hb with ⟨hk,h1⟩|⟨hk,hs,h1⟩|⟨rfl,h1⟩|⟨rfl,h0,h1,h2,h3,h4⟩|⟨rfl,h1⟩
   ·rcases hk with rfl|rfl
    ·rw[if_pos rfl];simp;omega
    ·rw[if_neg (by decide),if_pos rfl];simp;omega
   ·have hi:=tP (c:=8*s) (by omega) (by omega)
    rcases hk with rfl|rfl
    ·rw[if_neg (by decide),if_neg (by decide),if_pos rfl];simp only[List.length_append,List.length_cons,List.length_nil];omega
    ·rw[if_neg (by decide),if_neg (by decide),if_neg (by decide),if_pos rfl];simp only[List.length_append,List.length_cons,List.length_nil];omega
   ·rw[if_neg (by decide),if_neg (by decide),if_neg (by decide),if_neg (by decide),if_pos rfl]
    obtain⟨x,rfl⟩:=List.length_eq_one_iff.1 h1.2.2.1;simp only[List.map_cons,List.map_nil,List.headD_cons,List.length_append,List.length_cons,List.length_nil,qI];omega
   ·rw[if_neg (by decide),if_neg (by decide),if_neg (by decide),if_neg (by decide),if_neg (by decide),if_pos rfl]
    obtain⟨x,rfl⟩:=List.length_eq_one_iff.1 h3;have hi:=tP (c:=c) (by omega) (by omega)
    simp only[List.map_cons,List.map_nil,List.headD_cons,List.length_append,List.length_cons,List.length_nil,qI];omega
   ·rw[if_neg (by decide),if_neg (by decide),if_neg (by decide),if_neg (by decide),if_neg (by decide),if_neg (by decide),if_pos rfl]
    have:=EW fs fun x hx=>by
     obtain⟨i,hi,rfl⟩:=List.getElem_of_mem hx;have:=hof i hi;unfold fok at this;simp only[Bool.and_eq_true,decide_eq_true_eq]at this;have e:(List.map Ty.off fs).getD i 0=fs[i].off:=by rw[List.getD_eq_getElem?_getD,List.getElem?_map,List.getElem?_eq_getElem hi];rfl
     rw[e]at this;exact this.1
    simp only[List.length_append,List.length_cons,List.length_nil];omega
  omega
theorem Wr{t:Ty}{most:Int}(h:frm t=true)(hs:smallT t most=true):(txT t).length≤120000:=by
 unfold smallT at hs
 have h1:0≤tpa t most 3000:=by simpa using hs
 have:=JN t h most 3000 (by decide) h1
 omega
theorem oU(k:Nat)(s:Bs):(lnT k s).length=2*k+s.length+1:=by
 have h:(Lib.repeatL ([32,32]:Bs) k).length=2*k:=by rw[Lib.repeatL_length];show k*2=_;omega
 unfold lnT
 rw[List.length_append,List.length_append,h]
 rfl
theorem Uk{α:Type}{f:α→Nat}{x:α}: ∀ {l:List α},x∈l→f x≤(l.map f).sum
 | y::l,h=>by
  rw[List.map_cons,List.sum_cons];rcases List.mem_cons.1 h with rfl|h
  ·omega
  ·have:=Uk (f:=f) h;omega
theorem BU{α:Type}{f:α→Nat}{B:Nat}: ∀ {l:List α},(∀x∈l,f x≤B)→(l.map f).sum≤l.length*B
 | [],_=>by simp
 | x::l,h=>by
  have h1:=h x (by simp)
  have h2:=BU (l:=l) fun y hy=>h y (by simp[hy])
  rw[List.map_cons,List.sum_cons,List.length_cons,Nat.add_mul];omega
theorem FH(l:List Ex)(i:Nat):(Fw l i).length≤(l.map fun x=>(txE x).length).sum:=by
 unfold Fw
 cases h:l[i]? with
 | none=>exact Nat.zero_le _
 | some x=>exact Uk (f:=fun x=>(txE x).length) (List.mem_of_getElem? h)
theorem Hq{α:Type}(f:α→Bs)(l:List α):((l.map f).flatten).length=(l.map fun x=>(f x).length).sum:=by
 rw[List.length_flatten,List.map_map]
 rfl
theorem Vh(k:Nat)(hk:k≤140): ∀(cs:List (List Nd)) (j:Nat),j+cs.length≤1000→(((cs.zipIdx j).map (caS k)).flatten).length≤700*cs.length+(cs.map fun c=>(lsT c (k+2)).length).sum
 | [],j,_=>by simp
 | c::cs,j,h=>by
  rw[List.length_cons]at h;have ih:=Vh k hk cs (j+1) (by omega)
  have hi:=tP (c:=(j:Int)) (by omega) (by omega)
  have h1:(caS k (c,j)).length≤700+(lsT c (k+2)).length:=by
   unfold caS;simp only[List.length_append,oU,List.length_cons,List.length_nil];omega
  rw[List.zipIdx_cons,List.map_cons,List.flatten_cons,List.length_append,List.map_cons,List.sum_cons,List.length_cons];omega
theorem Mr{t:Nd}(h:stT t=true):t.name.data.toList.length≤32∧t.cs.length≤64:=by
 unfold stT at h
 simp only[Bool.and_eq_true,decide_eq_true_eq,List.all_eq_true]at h
 obtain⟨⟨⟨⟨⟨⟨⟨⟨h1,h2⟩,h3⟩,h4⟩,h5⟩,h6⟩,h7⟩,h8⟩,h9⟩:=h
 constructor
 ·split at h4
  ·have:=(nU h4).2.2.2
   have e:t.name.data.toList.length=t.name.size:=by simp
   omega
  ·rw[uY]at h4
   rw[h4]
   decide
 ·split at h8
  ·simp only[Bool.and_eq_true,decide_eq_true_eq]at h8
   exact h8.2
  ·rw[decide_eq_true_eq]at h8
   omega
theorem JY{t:Nd}(h:stT t=true):(simT t).length≤100+(t.e.map fun x=>(txE x).length).sum:=by
 obtain⟨hn,_⟩:=Mr h
 have he:=(iA h).2.1
 have h0:=FH t.e 0
 by_cases hk:t.kind=2
 ·rw[hk]at he
  obtain⟨a,b,hab⟩:=BM he;unfold simT;rw[if_neg (by omega),if_pos hk,hab]
  simp only[Fw,wB,List.length_append,List.length_cons,List.length_nil,List.map_cons,List.map_nil,List.sum_cons,List.sum_nil,List.getElem?_cons_zero,List.getElem?_cons_succ];omega
 ·unfold simT
  repeat' split
  all_goals first|omega|(simp only[List.length_append,List.length_cons,List.length_nil];omega)
theorem Ue{f:Int→Int}{n:Int}(h:0≤nxq f n):0≤n∧nxq f n=f n:=by
 unfold nxq at h ⊢
 split at h
 ·rename_i h0;exact⟨h0,if_pos h0⟩
 ·omega
theorem Gw{α:Type}{f:α→Int→Int}{l:List α}{n:Int}(h:0≤pfold f l n):0≤n:=Int.not_lt.1 fun hneg=>by
 rw[kT _ (by omega)]at h
 omega
theorem QD{t:Nd}(hst:stT t=true){k:Nat}(hk:k≤140):(ndT t k).length≤46800+((t.e.map fun x=>(txE x).length).sum+((lsT t.l (k+1)).length+((lsT t.el (k+1)).length+(t.cs.map fun c=>(lsT c (k+2)).length).sum))):=by
 have hse:=JY hst
 obtain⟨_,hcl⟩:=Mr hst
 have hinv:=iA hst
 obtain⟨kd,w,nm,e,l,el,cs⟩:=t
 simp only[Nd.e,Nd.l,Nd.el,Nd.cs,Nd.kind]at hse hcl hinv ⊢
 by_cases k6:kd=6
 ·subst k6
  obtain⟨a,rfl⟩:=xG hinv.2.1;rw[nd6];simp only[List.map_cons,List.map_nil,List.sum_cons,List.sum_nil];split<;>simp only[List.length_append,oU,List.length_cons,List.length_nil]<;>omega
 by_cases k7:kd=7
 ·subst k7
  obtain⟨a,rfl⟩:=xG hinv.2.1;rw[nd7];simp only[List.map_cons,List.map_nil,List.sum_cons,List.sum_nil,List.length_append,oU,List.length_cons,List.length_nil];omega
 by_cases k8:kd=8
 ·subst k8
  rw[nd8];simp only[List.length_append,oU,List.length_cons,List.length_nil];omega
 by_cases k9:kd=9
 ·subst k9
  obtain⟨a,rfl⟩:=xG hinv.2.1;rw[nd9];have:=Vh k (by omega) cs 0 (by omega)
  simp only[List.map_cons,List.map_nil,List.sum_cons,List.sum_nil,List.length_append,oU,List.length_cons,List.length_nil];omega
 ·have e1:ndT (.mk kd w nm e l el cs) k=lnT k (simT (.mk kd w nm e l el cs)):=by
   rw[jT];show(if kd=6 then _ else if kd=7 then _ else if kd=8 then _ else if kd=9 then _ else lnT k (simT (.mk kd w nm e l el cs)))=_
   rw[if_neg k6,if_neg k7,if_neg k8,if_neg k9]
  rw[e1,oU];omega
def NdL(t:Nd):Prop:=okT t=true→exA qE t=true→ ∀(most n:Int) (k:Nat),1≤most→0≤n→(k:Int)+2*most≤141→0≤ndp t most n→((ndT t k).length:Int)≤50000*(n-ndp t most n)
theorem Bb{l:List Nd}(ih: ∀t∈l,NdL t)(ho:l.all okT=true)(hx:l.all (exA qE)=true){most n:Int}{k:Nat}(hn:0≤n)(hk:(k:Int)+2*most≤141)(hp:0≤lpa l most n):((lsT l k).length:Int)≤50000*(n-lpa l most n):=by
 unfold lpa at hp ⊢
 split at hp
 ·omega
 rename_i hc
 rw[if_neg hc]
 unfold lsT
 rw[Hq]
 rw[List.all_eq_true]at ho hx
 exact uL (f:=fun t n=>ndp t most n) (g:=fun t=>(ndT t k).length) (C:=50000) (by decide) (fun t ht n hn=>⟨(Ha t most n hn).2,fun h=>ih t ht (ho t ht) (hx t ht) most n k (by omega) hn hk h⟩) n hn hp
theorem QC: ∀t,NdL t:=by
 refine Nd.induct fun kd w nm e l el cs h1 h2 h3=> ?_
 intro hok hex most n k hm hn hk hp
 rw[zC]at hok
 rw[Jt]at hex
 simp only[Bool.and_eq_true]at hok hex
 obtain⟨hst,ol,oel,ocs⟩:=hok
 obtain⟨xe,xl,xel,xcs⟩:=hex
 rw[List.all_eq_true]at ocs xcs xe
 have hinv:=iA hst
 rw[Dh]at hp ⊢
 split at hp
 ·omega
 rename_i hc
 rw[if_neg hc]
 simp only[Nd.e,Nd.l,Nd.el,Nd.cs,Nd.kind]at hp hinv ⊢
 have p3:=Gw hp
 obtain⟨p2,e3⟩:=Ue p3
 rw[e3]at hp p3 ⊢
 obtain⟨p1,e2⟩:=Ue p2
 rw[e2]at hp p2 p3 ⊢
 have p0:=Gw p1
 have s1:=uL (f:=fun x n=>epa x 70 n) (g:=fun x=>(txE x).length) (C:=40) (by decide) (l:=e) (fun x hx n hn=>⟨(nV x 70 n hn).2,fun h=>by
  have q:=LW x 70 n hn h;have:=JO x (hinv.2.2.1 x hx) (DP x (xe x hx)) (n+1) (by omega)
  omega⟩) (n-1) p0 p1
 have s2:=Bb (k:=k+1) h1 ol xl (n:=pfold (fun x n=>epa x 70 n) e (n-1)) p1 (by omega) p2
 have s3:=Bb (k:=k+1) h2 oel xel (n:=lpa l (most-1) (pfold (fun x n=>epa x 70 n) e (n-1))) p2 (by omega) p3
 have s4:=uL (f:=fun c n=>lpa c (most-1) n) (g:=fun c=>(lsT c (k+2)).length) (C:=50000) (by decide) (l:=cs) (fun c hc n hn=>⟨(jZ c (most-1) n hn).2,fun h=>Bb (h3 c hc) (ocs c hc) (xcs c hc) hn (by omega) h⟩) _ p3 hp
 generalize pfold (fun x n=>epa x 70 n) e (n-1)=q1 at *
 generalize lpa l (most-1) q1=q2 at *
 generalize lpa el (most-1) q2=q3 at *
 generalize pfold (fun c n=>lpa c (most-1) n) cs q3=q4 at *
 have hkey:=QD hst (k:=k) (by omega)
 simp only[Nd.e,Nd.l,Nd.el,Nd.cs]at hkey
 omega
theorem QJ{l:List Nd}(h: ∀t∈l,okT t=true∧exA qE t=true)(hp:0≤lpa l 70 5000):(lsT l 1).length≤250000000:=by
 have:=Bb (l:=l) (k:=1) (fun t _=>QC t) (List.all_eq_true.2 fun t ht=>(h t ht).1) (List.all_eq_true.2 fun t ht=>(h t ht).2) (n:=5000) (by decide) (by decide) hp
 omega
theorem Qv{v:Va}(h:VaOk v)(hs:smallT v.ty 70=true)(k:Nat)(hk:k≤1):(varT k v).length≤121000:=by
 have h1:=Wr h.ty hs
 have h2:=(nU h.name).2.2.2
 have e:v.name.data.toList.length=v.name.size:=by simp
 unfold varT
 simp only[List.length_append,oU,List.length_cons,List.length_nil]
 omega
theorem JB{l:List Va}(h: ∀v∈l,VaOk v)(hs: ∀v∈l,smallT v.ty 70=true)(hl:l.length≤300)(k:Nat)(hk:k≤1):(vasT k l).length≤36300000:=by
 unfold vasT
 rw[Hq]
 have:=BU (f:=fun v=>(varT k v).length) (B:=121000) (l:=l) fun v hv=>Qv (h v hv) (hs v hv) k hk
 omega
theorem Ur{f:Fun}(h:FunOk f)(hs:smF f=true):(funT f).length≤300000000:=by
 unfold smF at hs
 simp only[Bool.and_eq_true,decide_eq_true_eq,List.all_eq_true]at hs
 obtain⟨h1,h2,h3⟩:=hs
 have l1:=JB h.vars h3 h1 1 (by decide)
 have l2:=QJ h.body h2
 have h4:=(nU h.name).2.2.2
 have e:f.name.data.toList.length=f.name.size:=by simp
 unfold funT
 simp only[List.length_append,oU,List.length_cons,List.length_nil]
 omega
end Go.Proofs.YtmbmmckagcdapaaGreatDoor
namespace Go.Proofs.YtmbmmckagcdapaaGreatDoor
open Go.RowKit
def fG:=A4 @sL @vQ @nN @iU
def mB:=A10 @aD @aL @aE @aO aT aH @bR @bT @bS @bU
theorem VH(f:Fun)(hF:fitFn f):PC Tryz.prog 4 [fnV f] (.im (.bool (true))):=by
 have qx:=VK
 have q1:=GM f hF
 rw[kU]at q1 ⊢
 cases pa:smF f with
 | false =>
  rw[pa]at q1;refine PC.enter 35 Tryz.func4 rfl (by decide) rfl rfl (s:=[(0,.ag [.im (.string f.name),.sl (f.vars.map vaV) .ro,.sl (f.body.map ndV) .ro])]) (by rfl) ?_
  refine wG fG TI ?_;refine AR.callP q1 TI mB ?_;refine goG fG TI ?_;refine wG fG TI ?_;refine AR.callP qx TI mB ?_;refine goG fG TI ?_;refine wG fG TI ?_;exact aC
 | true =>
 rw[pa]at q1
 have q3:=HQ f hF (fun hp=>by have:=Ur (Dn hp hF) pa;omega)
 have hlen:(prF f).length≤300000000:=by
  unfold prF;cases hp:prtB f with
  | false=>exact Nat.zero_le _
  | true=>exact Ur (Dn hp hF) pa
 have hlaw:prF f≠[]→(prF f).length≤65536→ ∃g,fnV g=fnV f∧funP (prF f)=(g,0):=by
  intro h1 h2;unfold prF at h1 h2 ⊢;cases hp:prtB f with
  | false=>rw[hp]at h1;exact absurd rfl h1
  | true =>
   rw[hp,if_pos rfl]at h2;rw[if_pos rfl];exact Rl (Dn hp hF) h2
 have qs:=ML f hF
 rw[kU]at q3 qs
 generalize prF f=s at q3 hlen hlaw
 cases hs:(s==[])with
 | true =>
  refine PC.enter 35 Tryz.func4 rfl (by decide) rfl rfl (s:=[(0,.ag [.im (.string f.name),.sl (f.vars.map vaV) .ro,.sl (f.body.map ndV) .ro])]) (by rfl) ?_
  refine wG fG TI ?_;refine AR.callP q1 TI mB ?_;refine goG fG TI ?_;refine wG fG TI ?_;refine AR.callP q3 TI mB ?_;refine goG fG (AI BY hs) ?_;refine wG fG (AI BY hs) ?_;refine AR.callP qx TI mB ?_;refine goG fG TI ?_;refine wG fG TI ?_;exact aC
 | false =>
 have hne:s≠[]:=by intro e;rw[e]at hs;cases hs
 by_cases hl:65536<s.length
 ·have hl':((s.length:Int)>65536):=by omega
  refine PC.enter 35 Tryz.func4 rfl (by decide) rfl rfl (s:=[(0,.ag [.im (.string f.name),.sl (f.vars.map vaV) .ro,.sl (f.body.map ndV) .ro])]) (by rfl) ?_
  refine wG fG TI ?_;refine AR.callP q1 TI mB ?_;refine goG fG TI ?_;refine wG fG TI ?_;refine AR.callP q3 TI mB ?_;refine goG fG (AI BY hs) ?_;refine wG fG (A3 BY hs hl') ?_;refine AR.callP qx TI mB ?_;refine goG fG TI ?_;refine wG fG TI ?_;exact aC
 have hl': ¬((s.length:Int)>65536):=by omega
 obtain⟨g,hg,e1⟩:=hlaw hne (by omega)
 have k1:=SP s (by omega)
 rw[e1]at k1
 simp only at k1
 rw[hg,kU]at k1
 refine PC.enter 35 Tryz.func4 rfl (by decide) rfl rfl (s:=[(0,.ag [.im (.string f.name),.sl (f.vars.map vaV) .ro,.sl (f.body.map ndV) .ro])]) (by rfl) ?_
 refine wG fG TI ?_
 refine AR.callP q1 TI mB ?_
 refine goG fG TI ?_
 refine wG fG TI ?_
 refine AR.callP q3 TI mB ?_
 refine goG fG (AI BY hs) ?_
 refine wG fG (A3 BY hs hl') ?_
 refine AR.callP k1 TI mB ?_
 refine goG fG TI ?_
 refine wdG fG TI ?_
 refine AR.callP qs TI mB ?_
 refine goG fG TI ?_
 refine AR.callP qx TI mB ?_
 refine goG fG TI ?_
 refine wG fG TI ?_
 exact aC
end Go.Proofs.YtmbmmckagcdapaaGreatDoor
