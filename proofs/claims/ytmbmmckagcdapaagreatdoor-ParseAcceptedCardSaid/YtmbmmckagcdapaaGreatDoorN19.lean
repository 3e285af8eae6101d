import Derived.Test.YtmbmmckagcdapaaGreatDoorN11
import Derived.Test.YtmbmmckagcdapaaGreatDoorN14
import Derived.Test.YtmbmmckagcdapaaGreatDoorN15
set_option linter.all false
namespace Go.Proofs.YtmbmmckagcdapaaGreatDoor
open Go.RowKit
def seen(fs:List Ty)(m:Nat):Prop:= ∀j (hj:j<fs.length),j<m→fok fs j=true∧frm fs[j]=true
theorem seen.succ{fs:List Ty}{m:Nat}(h:seen fs m)(hm:m<fs.length)(h1:fok fs m=true)(h2:frm fs[m]=true):seen fs (m+1):=by
 intro j hj hlt
 rcases Nat.lt_succ_iff_lt_or_eq.1 hlt with h3|rfl
 ·exact h j hj h3
 ·exact⟨h1,h2⟩
theorem seen.done{fs:List Ty}(h:seen fs fs.length):(asc fs&&fs.all frm)=true:=by
 simp only[Bool.and_eq_true,asc,List.all_eq_true,List.mem_range]
 refine⟨fun i hi=>(h i hi hi).1,fun t ht=> ?_⟩
 obtain⟨i,hi,rfl⟩:=List.getElem_of_mem ht
 exact(h i hi hi).2
theorem unseen{fs:List Ty}{m:Nat}(hm:m<fs.length)(h: ¬(fok fs m=true∧frm fs[m]=true)):(asc fs&&fs.all frm)=false:=by
 rw[Bool.eq_false_iff]
 intro hn
 simp only[Bool.and_eq_true,asc,List.all_eq_true,List.mem_range]at hn
 exact h ⟨hn.1 m hm,hn.2 _ (List.getElem_mem hm)⟩
theorem FM{fs:List Ty}(hi:0<fs.length):fok fs 0=(decide (0≤fs[0].off)&&decide (fs[0].off<65536)):=by
 unfold fok
 have e:(fs.map Ty.off).getD 0 0=fs[0].off:=by simp[List.getD,hi]
 rw[e]
 simp
theorem FN{fs:List Ty}{j:Nat}(hi:j+1<fs.length):fok fs (j+1)=(decide (0≤fs[j+1].off)&&decide (fs[j+1].off<65536)&&decide (fs[j].off<fs[j+1].off)):=by
 unfold fok
 have hj:j<fs.length:=by omega
 have e:(fs.map Ty.off).getD (j+1) 0=fs[j+1].off:=by simp[List.getD,hi]
 have e2:(fs.map Ty.off).getD (j+1-1) 0=fs[j].off:=by simp[List.getD,hj]
 rw[e,e2]
 simp
theorem LS{fs:List Ty}{m:Nat}(hm:m<fs.length):fok fs m=true↔0≤fs[m].off∧fs[m].off<65536∧(m=0∨(fs[m-1]'(by omega)).off<fs[m].off):=by
 cases m with
 | zero=>rw[FM hm];simp
 | succ j=>rw[FN hm];simp[and_assoc]
theorem nS{o:Int}{fs:List Ty}{m:Nat}(hm:m<fs.length)(h: ¬(fok fs m=true∧frm fs[m]=true)):frm (.mk o 5 0 0 [] fs)=false:=by
 rw[vY]
 have:=unseen hm h
 simp only[Bool.and_eq_false_iff]at this ⊢
 exact .inl (this.elim (fun h=> .inl (.inr h)) .inr)
theorem oS{o k s c:Int}{es fs:List Ty}(h:base k s c es.length fs.length=false):frm (.mk o k s c es fs)=false:=by rw[vY,h];rfl
theorem Jx{o k s c:Int}{es fs:List Ty}(hb:base k s c es.length fs.length=true)(hf:fs=[]):frm (.mk o k s c es fs)=es.all frm:=by
 subst hf
 rw[vY,hb]
 simp[asc]
def cI:=A16 @tY @cN @vJ @sL @iK @qQ @yL @sI @sH @sF @lZ @qM @vB @vA @nM (A7 @jU @Bz @oH @cM @uW @nG @iI)
set_option maxRecDepth 100000 in
set_option maxHeartbeats 2000000 in
theorem formed5{o s c:Int}{es fs:List Ty}(hF: ∀t∈fs,fit t→PC Tryz.prog 158 [tyV t] (.im (.bool (frm t))))(hfit:fit (.mk o 5 s c es fs)):PC Tryz.prog 158 [tyV (.mk o 5 s c es fs)] (.im (.bool (frm (.mk o 5 s c es fs)))):=by
 obtain⟨hl1,hl2,hfE,hfF⟩:=nU hfit
 refine PC.enter 131 Tryz.func158 rfl (by decide) rfl rfl (s:=[(0,tyV (.mk o 5 s c es fs))]) (by rfl) ?_
 simp only[eP]
 refine wdG cI TI ?_
 refine mG rfl rfl (fun h=> ?_) (fun h=> ?_)
 ·rw[oS (by simp[base, -List.length_eq_zero_iff]at h ⊢;omega)]
  refine wG cI TI ?_;exact aD
 ·obtain⟨rfl,rfl,he⟩:s=0∧c=0∧es.length=0:=by simp[-List.length_eq_zero_iff]at h;omega
  obtain rfl:=List.length_eq_zero_iff.1 he;refine wdG cI TI ?_;refine aW ?_;refine ALp.cutP 1 [(0,.ag [.im (.int .i64 5),.im (.int .i64 0),.im (.int .i64 0),.sl [] .ro,.sl (fs.map fdV) .ro]),(1,.pt 0 0),(4,(.im (.int .i64 (0)))),(5,(.im (.bool (true)))),(84,.sl (fs.map fdV) .ro),(85,(.im (.int .i64 (fs.length)))),(86,(.im (.int .i64 (((0:Nat):Int)))))] [.box [.im (.int .i64 5),.im (.int .i64 0),.im (.int .i64 0),.sl [] .ro,.sl (fs.map fdV) .ro]] TI ?_;refine ALp.upto fs.length (fun m=>seen fs m) (fun m=>⟨dn 131 [(0,.ag [.im (.int .i64 5),.im (.int .i64 0),.im (.int .i64 0),.sl [] .ro,.sl (fs.map fdV) .ro]),(1,.pt 0 0),(4,(.im (.int .i64 (0)))),(5,(.im (.bool (true)))),(84,.sl (fs.map fdV) .ro),(85,(.im (.int .i64 (fs.length)))),(86,(.im (.int .i64 (((m:Nat):Int)))))],ofl [.box [.im (.int .i64 5),.im (.int .i64 0),.im (.int .i64 0),.sl [] .ro,.sl (fs.map fdV) .ro]]⟩) ?_ 0 (Nat.zero_le _) (fun j _ hj=>absurd hj (Nat.not_lt_zero _))
  intro m hm hI hnext
  by_cases hlt:m<fs.length
  ·have hlt':(m:Int)<(fs.length:Int):=by omega
   have hg:=bJ hlt;have hm1:=aT hlt (by omega)
   have hk:=LS hlt
   by_cases a1:fs[m].off<0
   ·rw[nS hlt (fun h=>by have:=hk.1 h.1;omega)]
    refine wdG cI (A16 @eI @eL @dG @dI @eG @eF @eH @dH @dT @dS @eK @dJ @List.getElem?_map.{0,0} @Int.natCast_nonneg hlt' (A3 hg hm1 a1)) ?_;exact aD
   by_cases a2:fs[m].off≥65536
   ·rw[nS hlt (fun h=>by have:=hk.1 h.1;omega)]
    refine wdG cI (A16 @eI @eL @dG @dI @eG @eF @eH @dH @dT @dS @eK @dJ @List.getElem?_map.{0,0} @Int.natCast_nonneg hlt' (A4 hg hm1 a1 a2)) ?_;exact aD
   have hc:=hF fs[m] (List.getElem_mem hlt) (hfF _ (List.getElem_mem hlt))
   by_cases a3:(m:Int)>0
   ·have hg2:=bJ (l:=fs) (m:=m-1) (by omega)
    have hp:IntKind.i64.wrap ((m:Int)-1)=((m-1:Nat):Int):=by rw[dL (by omega)];omega
    by_cases a4:fs[m].off≤(fs[m-1]'(by omega)).off
    ·rw[nS hlt (fun h=>by have:=hk.1 h.1;omega)]
     refine wdG cI (A16 @eI @eL @dG @dI @eG @eF @eH @dH @dT @dS @eK @dJ @List.getElem?_map.{0,0} @Int.natCast_nonneg hlt' (A8 hg hm1 a1 a2 a3 hg2 hp a4)) ?_;exact aD
    ·have hk2:fok fs m=true:=hk.2 (by omega)
     refine wdG cI (A16 @eI @eL @dG @dI @eG @eF @eH @dH @dT @dS @eK @dJ @List.getElem?_map.{0,0} @Int.natCast_nonneg hlt' (A8 hg hm1 a1 a2 a3 hg2 hp a4)) ?_
     by_cases b:frm fs[m]=true
     ·rw[b]at hc
      refine AR.callP hc @cF TI ?_;refine goG cI TI ?_;refine wdG cI hm1 ?_;refine ALp.cutP 1 [(0,.ag [.im (.int .i64 5),.im (.int .i64 0),.im (.int .i64 0),.sl [] .ro,.sl (fs.map fdV) .ro]),(1,.pt 0 0),(4,(.im (.int .i64 (0)))),(5,(.im (.bool (true)))),(84,.sl (fs.map fdV) .ro),(85,(.im (.int .i64 (fs.length)))),(86,(.im (.int .i64 (((m+1:Nat):Int)))))] [.box [.im (.int .i64 5),.im (.int .i64 0),.im (.int .i64 0),.sl [] .ro,.sl (fs.map fdV) .ro]] TI ?_;exact hnext (m+1) (by omega) (by omega) (hI.succ hlt hk2 b)
     ·rw[nS hlt (fun h=>b h.2)]
      rw[Bool.eq_false_iff.2 b]at hc;refine AR.callP hc @cF TI ?_;refine goG cI TI ?_;refine wdG cI hm1 ?_;exact aD
   ·have hk2:fok fs m=true:=hk.2 (by omega)
    refine wdG cI (A16 @eI @eL @dG @dI @eG @eF @eH @dH @dT @dS @eK @dJ @List.getElem?_map.{0,0} @Int.natCast_nonneg hlt' (A5 hg hm1 a1 a2 a3)) ?_
    by_cases b:frm fs[m]=true
    ·rw[b]at hc
     refine AR.callP hc @cF TI ?_;refine goG cI TI ?_;refine wdG cI hm1 ?_;refine ALp.cutP 1 [(0,.ag [.im (.int .i64 5),.im (.int .i64 0),.im (.int .i64 0),.sl [] .ro,.sl (fs.map fdV) .ro]),(1,.pt 0 0),(4,(.im (.int .i64 (0)))),(5,(.im (.bool (true)))),(84,.sl (fs.map fdV) .ro),(85,(.im (.int .i64 (fs.length)))),(86,(.im (.int .i64 (((m+1:Nat):Int)))))] [.box [.im (.int .i64 5),.im (.int .i64 0),.im (.int .i64 0),.sl [] .ro,.sl (fs.map fdV) .ro]] TI ?_;exact hnext (m+1) (by omega) (by omega) (hI.succ hlt hk2 b)
    ·rw[nS hlt (fun h=>b h.2)]
     rw[Bool.eq_false_iff.2 b]at hc;refine AR.callP hc @cF TI ?_;refine goG cI TI ?_;refine wdG cI hm1 ?_;exact aD
  ·obtain rfl:m=fs.length:=by omega
   have hlt': ¬(fs.length:Int)<(fs.length:Int):=by omega
   clear hnext
   have e:frm (.mk o 5 0 0 [] fs)=true:=by
    rw[vY,show base 5 0 0 ([]:List Ty).length fs.length=true from by simp[base]]
    simpa using hI.done
   rw[e];refine wdG cI hlt' ?_;exact aD
set_option maxRecDepth 100000 in
set_option maxHeartbeats 2000000 in
theorem HU: ∀(t:Ty),fit t→PC Tryz.prog 158 [tyV t] (.im (.bool (frm t))):=by
 refine Ty.induct fun o k s c es fs hE hF=> ?_
 intro hfit
 obtain⟨hl1,hl2,hfE,hfF⟩:=nU hfit
 by_cases k5:k=5
 ·subst k5
  exact formed5 hF hfit
 refine PC.enter 131 Tryz.func158 rfl (by decide) rfl rfl (s:=[(0,tyV (.mk o k s c es fs))]) (by rfl) ?_
 simp only[eP]
 by_cases k0:k=0∨k=6
 ·rcases k0 with rfl|rfl
  all_goals
   refine wdG cI TI ?_;refine mG rfl rfl (fun h=> ?_) (fun h=> ?_)
   ·rw[oS (by simp[base, -List.length_eq_zero_iff]at h ⊢;omega)]
    refine wG cI TI ?_;exact aD
   ·obtain⟨rfl,rfl,he,hf⟩:s=0∧c=0∧es.length=0∧fs.length=0:=by simp[-List.length_eq_zero_iff]at h;omega
    obtain rfl:=List.length_eq_zero_iff.1 he;obtain rfl:=List.length_eq_zero_iff.1 hf;rw[Jx (by decide) rfl]
    refine wdG cI TI ?_;refine aW (dA ?_);refine wG cI TI ?_;exact aD
 by_cases k1:k=1∨k=2
 ·rcases k1 with rfl|rfl
  all_goals
   refine wdG cI TI ?_;refine mG rfl rfl (fun h=> ?_) (fun h=> ?_)
   ·rw[oS (by simp[base, -List.length_eq_zero_iff]at h ⊢;omega)]
    refine wG cI TI ?_;exact aD
   ·have hs:s=1∨s=2∨s=4:=by simp[-List.length_eq_zero_iff]at h;omega
    refine wdG cI TI ?_;refine mG rfl rfl (fun h=> ?_) (fun h=> ?_)
    ·rw[oS (by simp[base, -List.length_eq_zero_iff]at h ⊢;omega)]
     refine wG cI TI ?_;exact aD
    ·obtain⟨rfl,he,hf⟩:c=0∧es.length=0∧fs.length=0:=by simp[-List.length_eq_zero_iff]at h;omega
     obtain rfl:=List.length_eq_zero_iff.1 he;obtain rfl:=List.length_eq_zero_iff.1 hf;rw[Jx (by simp[base, -List.length_eq_zero_iff];omega) rfl]
     refine wdG cI TI ?_;refine aW (dA ?_);refine wG cI TI ?_;exact aD
 by_cases k3:k=3
 ·subst k3
  refine wdG cI TI ?_;refine mG rfl rfl (fun h=> ?_) (fun h=> ?_)
  ·rw[oS (by simp[base, -List.length_eq_zero_iff]at h ⊢;omega)]
   refine wG cI TI ?_;exact aD
  ·obtain⟨rfl,rfl,he,hf⟩:s=0∧c=0∧es.length=1∧fs.length=0:=by simp[-List.length_eq_zero_iff]at h;omega
   obtain⟨x,rfl⟩:=List.length_eq_one_iff.1 he;obtain rfl:=List.length_eq_zero_iff.1 hf;have hc:=hE x (by simp) (hfE x (by simp))
   rw[Jx (by simp[base]) rfl]
   refine wdG cI TI ?_;refine aW (dA ?_);refine wdG cI BN03 ?_;refine AR.callP hc @cF TI ?_;refine goG cI TI ?_;simp only[List.all_cons,List.all_nil,Bool.and_true];refine wdG cI TI ?_;exact aD
 by_cases k4:k=4
 ·subst k4
  refine wdG cI TI ?_;refine mG rfl rfl (fun h=> ?_) (fun h=> ?_)
  ·rw[oS (by simp[base, -List.length_eq_zero_iff]at h ⊢;omega)]
   refine wG cI TI ?_;exact aD
  ·have hs:1≤c∧c≤65536:=by simp[-List.length_eq_zero_iff]at h;omega
   refine wdG cI TI ?_;refine mG rfl rfl (fun h=> ?_) (fun h=> ?_)
   ·rw[oS (by simp[base, -List.length_eq_zero_iff]at h ⊢;omega)]
    refine wG cI TI ?_;exact aD
   ·obtain⟨rfl,he,hf⟩:s=0∧es.length=1∧fs.length=0:=by simp[-List.length_eq_zero_iff]at h;omega
    obtain⟨x,rfl⟩:=List.length_eq_one_iff.1 he;obtain rfl:=List.length_eq_zero_iff.1 hf;have hc:=hE x (by simp) (hfE x (by simp))
    rw[Jx (by simp[base, -List.length_eq_zero_iff];omega) rfl]
    refine wdG cI TI ?_;refine aW (dA ?_);refine wdG cI BN03 ?_;refine AR.callP hc @cF TI ?_;refine goG cI TI ?_;simp only[List.all_cons,List.all_nil,Bool.and_true];refine wdG cI TI ?_;exact aD
 have k6: ¬k=6:=by omega
 have k2: ¬k=2:=by omega
 replace k0: ¬k=0:=by omega
 replace k1: ¬k=1:=by omega
 rw[oS (by simp[base,k0,k1,k2,k3,k4,k5,k6])]
 refine wdG cI (A7 k0 k1 k2 k3 k4 k5 k6) ?_
 exact aD
theorem uM{α:Type}{l:List (List α)}{m:Nat}(h:m<l.length):(l.take m).flatten.length+l[m].length=(l.take (m+1)).flatten.length:=by
 rw[List.take_succ_eq_append_getElem h,List.flatten_append,List.length_append]
 simp
theorem Ht{α:Type}{l:List (List α)}{m:Nat}(h:m<l.length):(l.take m).flatten++l[m]=(l.take (m+1)).flatten:=by
 rw[List.take_succ_eq_append_getElem h,List.flatten_append]
 simp
theorem Bl{α:Type}{l:List (List α)}(m:Nat):(l.take m).flatten.length≤l.flatten.length:=by
 have:=List.take_append_drop m l
 have h2:l.flatten.length=(l.take m).flatten.length+(l.drop m).flatten.length:=by
  rw[←List.length_append,←List.flatten_append,this]
 omega
theorem Hu{p:Nat→Bool}{l:List (List V)}(h: ∀xs∈l,V.idsL p xs=true)(m:Nat):V.idsL p (l.take m).flatten=true:=by
 refine Jv fun x hx=> ?_
 obtain⟨xs,h1,h2⟩:=List.mem_flatten.1 hx
 obtain⟨i,hi,rfl⟩:=List.getElem_of_mem h2
 exact V.idsL_get (h xs (List.mem_of_mem_take h1)) i hi
def lF:=A7 @oK @Ll @Wg @lK @Pv @oI @jH
theorem AF{xss:List (List V)}(hl:xss.length≤4194304)(hz: ∀xs∈xss,jZ 1 xs=true)(hs: ∀p,∀xs∈xss,V.idsL p xs=true)(hn:xss.flatten.length≤16777216):PC Tryz.prog 213 [.sl (xss.map fun l=>V.sl l .ro) .ro] (.sl xss.flatten .ro):=by
 have hI: ∀p m,V.idsL p (xss.take m).flatten=true:=fun p m=>Hu (hs p) m
 have hK: ∀p,V.idsL p xss.flatten=true:=fun p=>by have:=hI p xss.length;rwa [List.take_length]at this
 have hJ: ∀p,V.idsL p (xss.map fun l=>V.sl l .ro)=true:=fun p=>jC xss fun x hx=>by simp only[V.ids,Bool.and_true];exact hs p x hx
 refine PC.enter 36 Tryz.func213 rfl (by decide) rfl rfl (s:=[(0,.sl (xss.map fun l=>V.sl l .ro) .ro)]) (by rfl) ?_
 refine wG lF @List.length_map.{0,0} ?_
 refine aW ?_
 refine ALp.cutP 0 [(0,.sl (xss.map fun l=>V.sl l .ro) .ro),(3,(.im (.int .i64 ((((xss.take (0)).flatten.length:Nat):Int))))),(9,.sl (xss.map fun l=>V.sl l .ro) .ro),(10,(.im (.int .i64 (xss.length)))),(11,(.im (.int .i64 ((((0:Nat)):Int)))))] [] (A3 hI hJ hK) ?_
 refine ALp.upto xss.length (fun _=>True) (fun m=>⟨dn 36 [(0,.sl (xss.map fun l=>V.sl l .ro) .ro),(3,(.im (.int .i64 ((((xss.take (m)).flatten.length:Nat):Int))))),(9,.sl (xss.map fun l=>V.sl l .ro) .ro),(10,(.im (.int .i64 (xss.length)))),(11,(.im (.int .i64 ((((m:Nat)):Int)))))],ofl []⟩) ?_ 0 (Nat.zero_le _) trivial
 intro m hm _ hnext
 by_cases hlt:m<xss.length
 ·have hlt':(m:Int)<(xss.length:Int):=by omega
  have hm1:=aT hlt (by omega)
  have hg:=bJ hlt;have hln:=uM hlt;have hle:=Bl (l:=xss) (m+1)
  have hw:IntKind.i64.wrap (((xss.take m).flatten.length:Int)+(xss[m].length:Int))=((xss.take (m+1)).flatten.length:Int):=by
   rw[dL (by omega)]
   omega
  have hneg: ¬((xss.take (m+1)).flatten.length:Int)<0:=by omega
  refine wG lF (A7 hlt' hg @List.getElem?_map.{0,0} @Int.natCast_nonneg hw hneg hm1) ?_;refine ALp.cutP 0 [(0,.sl (xss.map fun l=>V.sl l .ro) .ro),(3,(.im (.int .i64 ((((xss.take (m+1)).flatten.length:Nat):Int))))),(9,.sl (xss.map fun l=>V.sl l .ro) .ro),(10,(.im (.int .i64 (xss.length)))),(11,(.im (.int .i64 ((((m+1:Nat)):Int)))))] [] (A3 hI hJ hK) ?_
  exact hnext (m+1) (by omega) (by omega) trivial
 obtain rfl:m=xss.length:=by omega
 clear hnext
 rw[List.take_length]
 refine whG lF @Int.lt_irrefl ?_
 refine Blk'.here (Thn.n ?_)
 refine wG lF TI ?_
 by_cases h0:xss.flatten.length=0
 case' pos =>
  rw[h0];refine AR.callP HT @Int.natCast_zero (A3 hI hJ hK) ?_;refine goG lF @List.length_map.{0,0} ?_;refine wG lF @List.length_map.{0,0} ?_;refine aW ?_;refine ALp.ghost 6 [] .nl 35 1 ?_;refine ALp.cutP 1 [(6,.sl (xss.take (0)).flatten (.own 0)),(25,.sl (xss.map fun l=>V.sl l .ro) .ro),(26,(.im (.int .i64 (xss.length)))),(27,(.im (.int .i64 ((((0:Nat)):Int)))))] [.tip 35 1 (xss.take (0)).flatten.length] (A3 hI hJ hK) ?_
 case' neg =>
  have hg:=NE xss.flatten.length (by omega) (by omega)
  refine aA [0] hg TI (A3 hI hJ hK) TI ?_;refine goG lF @List.length_map.{0,0} ?_;refine wG lF @List.length_map.{0,0} ?_;refine aW ?_;refine ALp.cutP 1 [(6,.sl (xss.take (0)).flatten (.own 0)),(25,.sl (xss.map fun l=>V.sl l .ro) .ro),(26,(.im (.int .i64 (xss.length)))),(27,(.im (.int .i64 ((((0:Nat)):Int)))))] [.tip 35 1 (xss.take (0)).flatten.length] (A3 hI hJ hK) ?_
 all_goals
  refine ALp.upto xss.length (fun _=>True) (fun m=>⟨dn 36 [(6,.sl (xss.take (m)).flatten (.own 0)),(25,.sl (xss.map fun l=>V.sl l .ro) .ro),(26,(.im (.int .i64 (xss.length)))),(27,(.im (.int .i64 ((((m:Nat)):Int)))))],ofl [.tip 35 1 (xss.take (m)).flatten.length]⟩) ?_ 0 (Nat.zero_le _) trivial
  intro m hm _ hnext
  by_cases hlt:m<xss.length
  ·have hlt':(m:Int)<(xss.length:Int):=by omega
   have hm1:=aT hlt (by omega)
   have hg:=bJ hlt;have hln:=uM hlt;have hle:=Bl (l:=xss) (m+1);have hsn:=Ht hlt;have hA:(xss.take (m+1)).flatten.length*24≤140737488355328:=by omega
   have hz':=hz xss[m] (List.getElem_mem hlt);refine wG lF (A9 hlt' hg @List.getElem?_map.{0,0} @Int.natCast_nonneg hA hz' hsn hln hm1) ?_;refine ALp.cutP 1 [(6,.sl (xss.take (m+1)).flatten (.own 0)),(25,.sl (xss.map fun l=>V.sl l .ro) .ro),(26,(.im (.int .i64 (xss.length)))),(27,(.im (.int .i64 ((((m+1:Nat)):Int)))))] [.tip 35 1 (xss.take (m+1)).flatten.length] (A3 hI hJ hK) ?_
   exact hnext (m+1) (by omega) (by omega) trivial
  obtain rfl:m=xss.length:=by omega
  clear hnext;rw[List.take_length];refine wG lF @Int.lt_irrefl ?_;refine aI (rs:=[.tmp 2]) rfl (by first|exact .inl rfl|exact .inr rfl) (finG lF) ?_
  all_goals exact wkG (A3 hI hJ hK)
def oC:=A7 @lM @sJ @yK @Pw @lJ @jT @kK
theorem AE{xss:List (List V)}(hl:xss.length≤4194304)(hz: ∀xs∈xss,jZ 6 xs=true)(hs: ∀p,∀xs∈xss,V.idsL p xs=true)(hn:xss.flatten.length≤16777216):PC Tryz.prog 96 [.sl (xss.map fun l=>V.sl l .ro) .ro] (.sl xss.flatten .ro):=by
 have hI: ∀p m,V.idsL p (xss.take m).flatten=true:=fun p m=>Hu (hs p) m
 have hK: ∀p,V.idsL p xss.flatten=true:=fun p=>by have:=hI p xss.length;rwa [List.take_length]at this
 have hJ: ∀p,V.idsL p (xss.map fun l=>V.sl l .ro)=true:=fun p=>jC xss fun x hx=>by simp only[V.ids,Bool.and_true];exact hs p x hx
 refine PC.enter 36 Tryz.func96 rfl (by decide) rfl rfl (s:=[(0,.sl (xss.map fun l=>V.sl l .ro) .ro)]) (by rfl) ?_
 refine wG oC @List.length_map.{0,0} ?_
 refine aW ?_
 refine ALp.cutP 0 [(0,.sl (xss.map fun l=>V.sl l .ro) .ro),(3,(.im (.int .i64 ((((xss.take (0)).flatten.length:Nat):Int))))),(9,.sl (xss.map fun l=>V.sl l .ro) .ro),(10,(.im (.int .i64 (xss.length)))),(11,(.im (.int .i64 ((((0:Nat)):Int)))))] [] (A3 hI hJ hK) ?_
 refine ALp.upto xss.length (fun _=>True) (fun m=>⟨dn 36 [(0,.sl (xss.map fun l=>V.sl l .ro) .ro),(3,(.im (.int .i64 ((((xss.take (m)).flatten.length:Nat):Int))))),(9,.sl (xss.map fun l=>V.sl l .ro) .ro),(10,(.im (.int .i64 (xss.length)))),(11,(.im (.int .i64 ((((m:Nat)):Int)))))],ofl []⟩) ?_ 0 (Nat.zero_le _) trivial
 intro m hm _ hnext
 by_cases hlt:m<xss.length
 ·have hlt':(m:Int)<(xss.length:Int):=by omega
  have hm1:=aT hlt (by omega)
  have hg:=bJ hlt;have hln:=uM hlt;have hle:=Bl (l:=xss) (m+1)
  have hw:IntKind.i64.wrap (((xss.take m).flatten.length:Int)+(xss[m].length:Int))=((xss.take (m+1)).flatten.length:Int):=by
   rw[dL (by omega)]
   omega
  have hneg: ¬((xss.take (m+1)).flatten.length:Int)<0:=by omega
  refine wG oC (A7 hlt' hg @List.getElem?_map.{0,0} @Int.natCast_nonneg hw hneg hm1) ?_;refine ALp.cutP 0 [(0,.sl (xss.map fun l=>V.sl l .ro) .ro),(3,(.im (.int .i64 ((((xss.take (m+1)).flatten.length:Nat):Int))))),(9,.sl (xss.map fun l=>V.sl l .ro) .ro),(10,(.im (.int .i64 (xss.length)))),(11,(.im (.int .i64 ((((m+1:Nat)):Int)))))] [] (A3 hI hJ hK) ?_
  exact hnext (m+1) (by omega) (by omega) trivial
 obtain rfl:m=xss.length:=by omega
 clear hnext
 rw[List.take_length]
 refine whG oC @Int.lt_irrefl ?_
 refine Blk'.here (Thn.n ?_)
 refine wG oC TI ?_
 by_cases h0:xss.flatten.length=0
 case' pos =>
  rw[h0];refine AR.callP HS @Int.natCast_zero (A3 hI hJ hK) ?_;refine goG oC @List.length_map.{0,0} ?_;refine wG oC @List.length_map.{0,0} ?_;refine aW ?_;refine ALp.ghost 6 [] .nl 96 6 ?_;refine ALp.cutP 1 [(6,.sl (xss.take (0)).flatten (.own 0)),(25,.sl (xss.map fun l=>V.sl l .ro) .ro),(26,(.im (.int .i64 (xss.length)))),(27,(.im (.int .i64 ((((0:Nat)):Int)))))] [.tip 96 6 (xss.take (0)).flatten.length] (A3 hI hJ hK) ?_
 case' neg =>
  have hg:=NC xss.flatten.length (by omega) (by omega)
  refine aA [0] hg TI (A3 hI hJ hK) TI ?_;refine goG oC @List.length_map.{0,0} ?_;refine wG oC @List.length_map.{0,0} ?_;refine aW ?_;refine ALp.cutP 1 [(6,.sl (xss.take (0)).flatten (.own 0)),(25,.sl (xss.map fun l=>V.sl l .ro) .ro),(26,(.im (.int .i64 (xss.length)))),(27,(.im (.int .i64 ((((0:Nat)):Int)))))] [.tip 96 6 (xss.take (0)).flatten.length] (A3 hI hJ hK) ?_
 all_goals
  refine ALp.upto xss.length (fun _=>True) (fun m=>⟨dn 36 [(6,.sl (xss.take (m)).flatten (.own 0)),(25,.sl (xss.map fun l=>V.sl l .ro) .ro),(26,(.im (.int .i64 (xss.length)))),(27,(.im (.int .i64 ((((m:Nat)):Int)))))],ofl [.tip 96 6 (xss.take (m)).flatten.length]⟩) ?_ 0 (Nat.zero_le _) trivial
  intro m hm _ hnext
  by_cases hlt:m<xss.length
  ·have hlt':(m:Int)<(xss.length:Int):=by omega
   have hm1:=aT hlt (by omega)
   have hg:=bJ hlt;have hln:=uM hlt;have hle:=Bl (l:=xss) (m+1);have hsn:=Ht hlt;have hA:(xss.take (m+1)).flatten.length*88≤140737488355328:=by omega
   have hz':=hz xss[m] (List.getElem_mem hlt);refine wG oC (A9 hlt' hg @List.getElem?_map.{0,0} @Int.natCast_nonneg hA hz' hsn hln hm1) ?_;refine ALp.cutP 1 [(6,.sl (xss.take (m+1)).flatten (.own 0)),(25,.sl (xss.map fun l=>V.sl l .ro) .ro),(26,(.im (.int .i64 (xss.length)))),(27,(.im (.int .i64 ((((m+1:Nat)):Int)))))] [.tip 96 6 (xss.take (m+1)).flatten.length] (A3 hI hJ hK) ?_
   exact hnext (m+1) (by omega) (by omega) trivial
  obtain rfl:m=xss.length:=by omega
  clear hnext;rw[List.take_length];refine wG oC @Int.lt_irrefl ?_;refine aI (rs:=[.tmp 2]) rfl (by first|exact .inl rfl|exact .inr rfl) (finG oC) ?_
  all_goals exact wkG (A3 hI hJ hK)
theorem Df(s:Sec):scV s= .ag [.im (.string s.name),.im (.int .u32 s.addr),.sl (s.data.map fun b=> .im (.int .u8 b.toNat)) .ro,.im (.bool s.wr),.im (.bool s.exe)]:=rfl
theorem Dc(v:Sec):(scV v).live=true:=rfl
theorem Db(v:Sec):(scV v).size=5:=rfl
theorem Dd(v:Sec):(scV v).isAg=true:=rfl
theorem De(v:Sec):(scV v).firm=true:=rfl
theorem yT(g:Bool)(v:Sec):strip g (scV v)=scV v:=rfl
theorem yU(s:Sec):(scV s).cells=[.im (.string s.name),.im (.int .u32 s.addr),.sl (s.data.map fun b=> .im (.int .u8 b.toNat)) .ro,.im (.bool s.wr),.im (.bool s.exe)]:=rfl
theorem tP(p:Nat→Bool)(l:List UInt8):V.idsL p (l.map fun b=>V.im (.int .u8 b.toNat))=true:=fY (fun _=>rfl) l
theorem Ko(g:Nat→Nat)(l:List UInt8):V.renL g (l.map fun b=>V.im (.int .u8 b.toNat))=l.map fun b=>V.im (.int .u8 b.toNat):=V.renL_id g _ (tP _ l)
theorem fX(p:Nat→Bool)(v:Sec):(scV v).ids p=true:=by simp[scV,V.ids,V.idsL,tP]
theorem eJ(p:Nat→Bool)(l:List Sec):V.idsL p (l.map scV)=true:=fY (fX p) l
theorem nA(g:Nat→Nat)(t:Sec):V.ren g (scV t)=scV t:=V.ren_id g _ (fX _ t)
theorem oQ(g:Nat→Nat)(l:List Sec):V.renL g (l.map scV)=l.map scV:=V.renL_id g _ (eJ _ l)
theorem Jj(l:List Sec):jZ 5 (l.map scV)=true:=by
 unfold jZ
 rw[List.all_map]
 exact List.all_eq_true.2 fun x _=>rfl
theorem DP(l:List Sec):zW 5 (l.map scV)=true:=by
 unfold zW
 rw[List.all_map]
 exact List.all_eq_true.2 fun x _=>rfl
theorem SCT:type_of%(A8 @De @yT @Dc @Db @Dd @yU @List.getElem?_map.{0,0} @Int.natCast_nonneg) :=
 A8 @De @yT @Dc @Db @Dd @yU @List.getElem?_map.{0,0} @Int.natCast_nonneg
theorem tJ(f:Fun):fnV f= .ag [.im (.string f.name),.sl (f.vars.map vaV) .ro,.sl (f.body.map ndV) .ro]:=rfl
theorem nT(p:Nat→Bool)(f:Fun):(fnV f).ids p=true:=by simp[fnV,V.ids,V.idsL,aN,aJ]
theorem jX(p:Nat→Bool)(l:List Fun):V.idsL p (l.map fnV)=true:=fY (nT p) l
theorem kY(u:Un):unV u= .ag [.sl (u.globals.map vaV) .ro,.sl (u.data.map scV) .ro,.sl (u.funcs.map fnV) .ro]:=rfl
theorem Dz(v:Fun):(fnV v).live=true:=rfl
theorem Dy(v:Fun):(fnV v).size=3:=rfl
theorem Ea(v:Fun):(fnV v).isAg=true:=rfl
theorem Eb(v:Fun):(fnV v).firm=true:=rfl
theorem zK(g:Bool)(v:Fun):strip g (fnV v)=fnV v:=rfl
theorem zL(f:Fun):(fnV f).cells=[.im (.string f.name),.sl (f.vars.map vaV) .ro,.sl (f.body.map ndV) .ro]:=rfl
theorem FU:type_of%(A8 @Eb @zK @Dz @Dy @Ea @zL @List.getElem?_map.{0,0} @Int.natCast_nonneg) :=
 A8 @Eb @zK @Dz @Dy @Ea @zL @List.getElem?_map.{0,0} @Int.natCast_nonneg
theorem sX(p:Nat→Bool)(u:Un):(unV u).ids p=true:=by simp[unV,V.ids,V.idsL,aN,eJ,jX]
theorem Kb(g:Nat→Nat)(t:Fun):V.ren g (fnV t)=fnV t:=V.ren_id g _ (nT _ t)
theorem Kc(g:Nat→Nat)(l:List Fun):V.renL g (l.map fnV)=l.map fnV:=V.renL_id g _ (jX _ l)
theorem Uy(l:List Fun):jZ 3 (l.map fnV)=true:=by
 unfold jZ
 rw[List.all_map]
 exact List.all_eq_true.2 fun x _=>rfl
theorem JR(g:Nat→Nat)(u:Un):V.ren g (unV u)=unV u:=V.ren_id g _ (sX _ u)
theorem BN(u:Un):(unV u).live=true:=rfl
theorem BM(u:Un):(unV u).size=3:=rfl
theorem BO(u:Un):(unV u).isAg=true:=rfl
theorem Wv(u:Un):(unV u).cells=[.sl (u.globals.map vaV) .ro,.sl (u.data.map scV) .ro,.sl (u.funcs.map fnV) .ro]:=rfl
theorem BP(u:Un):(unV u).firm=true:=rfl
theorem Wu(g:Bool)(u:Un):strip g (unV u)=unV u:=rfl
theorem Gv{α β:Type}(f:α→β){l:List α}{m:Nat}(h:m<l.length):(l.take m).map f++[f l[m]]=(l.take (m+1)).map f:=by
 rw[List.take_succ_eq_append_getElem h,List.map_append];rfl
end Go.Proofs.YtmbmmckagcdapaaGreatDoor
