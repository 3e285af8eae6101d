import Derived.Test.YtmbmmckagcdapaaGreatDoorM11
import Derived.Test.YtmbmmckagcdapaaGreatDoorM32
import Derived.Test.YtmbmmckagcdapaaGreatDoorM27
import Derived.Test.YtmbmmckagcdapaaGreatDoorM15
import Derived.Test.YtmbmmckagcdapaaGreatDoorM18
import Derived.Test.YtmbmmckagcdapaaGreatDoorM04
import Derived.Test.YtmbmmckagcdapaaGreatDoorM28
import Derived.Test.YtmbmmckagcdapaaGreatDoorM02
import Derived.Test.YtmbmmckagcdapaaGreatDoorM12
import Derived.Test.YtmbmmckagcdapaaGreatDoorM16
import Derived.Test.YtmbmmckagcdapaaGreatDoorM34
import Derived.Test.YtmbmmckagcdapaaGreatDoorM21
import Derived.Test.YtmbmmckagcdapaaGreatDoorM22
set_option linter.all false
namespace Go.Proofs.YtmbmmckagcdapaaGreatDoor
open Go.RowKit
theorem Bz(s:ByteArray)(l m:Bs)(hs:s=bA m)(hlen:l.length+m.length≤140737488355328):DC Tryz.prog 82 [.pt 0 0,.im (.string s)] [.box [.nb 0 206,.sl (byV (bA (l))) (.mine 1)],.tip 5 1 (bA (l)).size] (.tu [(.im (.int .i64 ((m.length:Int)))),.im Value.nilIface]) [.box [.nb 0 206,.sl (byV (bA ((l++m)))) (.mine 1)],.tip 5 1 (bA ((l++m))).size]:=by
 have h:=Hi (bA l) s (by rw[hs,pO,pO];exact hlen)
 rw[hs,Ao,pO m]at h
 rw[hs]
 exact h
theorem TL{s:Int}(h:s=1∨s=2∨s=4):IntKind.i64.wrap (8*s)=8*s:=by rcases h with rfl|rfl|rfl<;>rfl
def jF:=A7 @cO @zC @xH @rG @vZ @cN @yX
def cM:=A5 @bS @bU @bT @bV Ue
def iT:=A6 @sA @rM @rZ @rL Xe eX
theorem Fv(o k s c:Int)(es fs:List Ty)(hs:s=1∨s=2∨s=4)(l:Bs)(hl:(if k=2 then l++[117]else l).length+(3+(Lib.itoa (8*s)).length)≤140737488355328) :
  DC Tryz.prog 202 [.pt 0 0,tyV (.mk o k s c es fs)] [.box [.nb 0 206,.sl (byV (bA (l))) (.mine 1)],.tip 5 1 (bA (l)).size] (.tu []) [.box [.nb 0 206,.sl (byV (bA ((if k=2 then l++[117]else l)++([105,110,116]++Lib.itoa (8*s))))) (.mine 1)],.tip 5 1 (bA ((if k=2 then l++[117]else l)++([105,110,116]++Lib.itoa (8*s)))).size]:=by
 have hi:=uG (8*s) (by omega) (by omega)
 have hw:=TL hs
 refine DC.enter 20 Tryz.func202 rfl (by decide) rfl rfl (s:=[(0,.pt 0 0),(1,tyV (.mk o k s c es fs))]) (by rfl) ?_
 simp only[eB]
 have hz1:((⟨#[105,110,116]⟩:ByteArray)).size+((⟨(Lib.itoa (8*s)).toArray⟩:ByteArray)).size≤9223372036854775807:=by
  show 3+(bA (Lib.itoa (8*s))).size≤_
  rw[pO];split at hl<;>(try simp at hl)<;>omega
 by_cases hk:k=2
 ·rw[if_pos hk]at hl ⊢
  have h1:=Bz ⟨#[117]⟩ l [117] rfl (by simp at hl ⊢;omega)
  have h2:=Bz (⟨#[105,110,116]⟩++⟨(Lib.itoa (8*s)).toArray⟩) (l++[117]) ([105,110,116]++Lib.itoa (8*s)) (Ao [105,110,116] _) (by simp at hl ⊢;omega)
  refine wdG jF hk ?_;refine aA [0,1] h1 TI cM iT ?_;refine goG jF TI ?_;refine wdG jF hw ?_;refine AR.callP hi TI cM ?_;refine goG jF hz1 ?_;refine aA [0,1] h2 TI cM iT ?_;refine goG jF TI ?_;refine wdG jF TI ?_;refine aR (rs:=[]) rfl (by first|exact .inl rfl|exact .inr rfl) (finG jF) ?_ rfl (idG cM)
  all_goals exact wkG cM
 ·rw[if_neg hk]at hl ⊢
  have h2:=Bz (⟨#[105,110,116]⟩++⟨(Lib.itoa (8*s)).toArray⟩) l ([105,110,116]++Lib.itoa (8*s)) (Ao [105,110,116] _) (by simp at hl ⊢;omega)
  refine wdG jF (AI hk hw) ?_;refine AR.callP hi TI cM ?_;refine goG jF hz1 ?_;refine aA [0,1] h2 TI cM iT ?_;refine goG jF TI ?_;refine wdG jF TI ?_;refine aR (rs:=[]) rfl (by first|exact .inl rfl|exact .inr rfl) (finG jF) ?_ rfl (idG cM)
  all_goals exact wkG cM
def bH:=A16 @uS @cO @zC @tE @pX @gK @rK @pU @pT @xH @sZ @lF @rG @vY @mL (A7 @jJ @nK @cN @yX @sR @mZ @gI)
set_option maxHeartbeats 2000000 in
theorem IF: ∀(t:Ty),fit t→frm t=true→ ∀(l:Bs),l.length+(txT t).length≤140737488355328→DC Tryz.prog 148 [.pt 0 0,tyV t] [.box [.nb 0 206,.sl (byV (bA (l))) (.mine 1)],.tip 5 1 (bA (l)).size] (.tu []) [.box [.nb 0 206,.sl (byV (bA ((l++txT t)))) (.mine 1)],.tip 5 1 (bA ((l++txT t))).size]:=by
 refine Ty.induct fun o k s c es fs hE hF=> ?_
 intro hfit hfrm l hl
 obtain⟨hl1,hl2,hfE,hfF⟩:=kM hfit
 obtain⟨hb,hof,hfs,hes⟩:=pH hfrm
 rw[rN]at hl ⊢
 refine DC.enter 96 Tryz.func148 rfl (by decide) rfl rfl (s:=[(0,.pt 0 0),(1,tyV (.mk o k s c es fs))]) (by rfl) ?_
 simp only[eB]
 rcases mG hb with ⟨hk,h1⟩|⟨hk,hs,h1⟩|⟨rfl,h1⟩|⟨rfl,h0,h1,h2,h3,h4⟩|⟨rfl,h1⟩
 ·rcases hk with rfl|rfl
  ·rw[if_pos rfl]at hl ⊢
   have h:=Bz ⟨#[63]⟩ l [63] rfl hl;refine wG bH TI ?_;refine aA [0,1] h TI cM iT ?_;refine goG bH TI ?_;refine wG bH TI ?_;refine aR (rs:=[]) rfl (by first|exact .inl rfl|exact .inr rfl) (finG bH) ?_ rfl (idG cM)
   all_goals exact wkG cM
  ·rw[if_neg (by decide),if_pos rfl]at hl ⊢
   have h:=Bz ⟨#[97,110,121]⟩ l [97,110,121] rfl hl;refine wG bH TI ?_;refine aA [0,1] h TI cM iT ?_;refine goG bH TI ?_;refine wG bH TI ?_;refine aR (rs:=[]) rfl (by first|exact .inl rfl|exact .inr rfl) (finG bH) ?_ rfl (idG cM)
   all_goals exact wkG cM
 ·rcases hk with rfl|rfl
  ·rw[if_neg (by decide),if_neg (by decide),if_pos rfl]at hl ⊢
   have h:=Fv o 1 s c es fs hs l (by rw[if_neg (by decide)];simp at hl;omega)
   rw[if_neg (by decide)]at h
   refine wG bH TI ?_;refine aA [0,1] h @eB cM iT ?_;refine goG bH TI ?_;refine wG bH TI ?_;refine aR (rs:=[]) rfl (by first|exact .inl rfl|exact .inr rfl) (finG bH) ?_ rfl (idG cM)
   all_goals exact wkG cM
  ·rw[if_neg (by decide),if_neg (by decide),if_neg (by decide),if_pos rfl]at hl ⊢
   have h:=Fv o 2 s c es fs hs l (by rw[if_pos rfl];simp at hl ⊢;omega)
   rw[if_pos rfl,List.append_assoc]at h;refine wG bH TI ?_;refine aA [0,1] h @eB cM iT ?_;refine goG bH TI ?_;refine wG bH TI ?_;refine aR (rs:=[]) rfl (by first|exact .inl rfl|exact .inr rfl) (finG bH) ?_ rfl (idG cM)
   all_goals exact wkG cM
 ·rw[if_neg (by decide),if_neg (by decide),if_neg (by decide),if_neg (by decide),if_pos rfl]at hl ⊢
  obtain⟨x,rfl⟩:=List.length_eq_one_iff.1 h1.2.2.1;simp only[List.map_cons,List.map_nil,List.headD_cons]at hl ⊢;have h:=Bz ⟨#[42]⟩ l [42] rfl (by simp at hl ⊢;omega)
  have hc:=hE x (by simp) (hfE x (by simp)) (hes x (by simp)) (l++[42]) (by simp at hl ⊢;omega)
  rw[List.append_assoc]at hc;refine wG bH TI ?_;refine aA [0,1] h TI cM iT ?_;refine goG bH TI ?_;refine wG bH BN03 ?_;refine aA [0,1] hc @bP cM iT ?_;refine goG bH TI ?_;refine wG bH TI ?_;refine aR (rs:=[]) rfl (by first|exact .inl rfl|exact .inr rfl) (finG bH) ?_ rfl (idG cM)
  all_goals exact wkG cM
 ·rw[if_neg (by decide),if_neg (by decide),if_neg (by decide),if_neg (by decide),if_neg (by decide),if_pos rfl]at hl ⊢
  obtain⟨x,rfl⟩:=List.length_eq_one_iff.1 h3;simp only[List.map_cons,List.map_nil,List.headD_cons]at hl ⊢;have hi:=uG c (by omega) (by omega)
  have hz1:((⟨#[91]⟩:ByteArray)).size+((⟨(Lib.itoa c).toArray⟩:ByteArray)).size≤9223372036854775807:=by
   show 1+(bA (Lib.itoa c)).size≤_
   rw[pO];simp at hl;omega
  have hz2:((⟨#[91]⟩++⟨(Lib.itoa c).toArray⟩:ByteArray)).size+((⟨#[93]⟩:ByteArray)).size≤9223372036854775807:=by
   rw[ByteArray.size_append];show 1+(bA (Lib.itoa c)).size+1≤_
   rw[pO];simp at hl;omega
  have he:((⟨#[91]⟩++⟨(Lib.itoa c).toArray⟩)++⟨#[93]⟩:ByteArray)=bA ([91]++Lib.itoa c++[93]):=by rw[←Ao,←Ao];rfl
  obtain⟨m,hm⟩: ∃m,m=[91]++Lib.itoa c++[93]:=⟨_,rfl⟩
  rw[←hm]at he hl ⊢;have h:=Bz _ l m he (by simp at hl ⊢;omega)
  have hc:=hE x (by simp) (hfE x (by simp)) (hes x (by simp)) (l++m) (by simp at hl ⊢;omega)
  rw[List.append_assoc]at hc;refine wdG bH TI ?_;refine AR.callP hi TI cM ?_;refine goG bH (AI hz1 hz2) ?_;refine aA [0,1] h TI cM iT ?_;refine goG bH TI ?_;refine wdG bH BN03 ?_;refine aA [0,1] hc @bP cM iT ?_;refine goG bH TI ?_;refine wdG bH TI ?_;refine aR (rs:=[]) rfl (by first|exact .inl rfl|exact .inr rfl) (finG bH) ?_ rfl (idG cM)
  all_goals exact wkG cM
 ·rw[if_neg (by decide),if_neg (by decide),if_neg (by decide),if_neg (by decide),if_neg (by decide),if_neg (by decide),if_pos rfl]at hl ⊢
  obtain⟨F,hF0⟩: ∃F:Nat→Bs,F=fun m=>fldT ((fs.take m).map fun f=>(f.off,txT f)):=⟨_,rfl⟩
  have hFs: ∀m (h:m<fs.length),F (m+1)=F m++((if m=0 then []else [44,32])++(Lib.itoa fs[m].off++[58,32]++txT fs[m])):=fun m h=>by rw[hF0];exact It fs h
  have hFl: ∀m,m≤fs.length→(F m).length≤(fldT (fs.map fun f=>(f.off,txT f))).length:=fun m h=>by rw[hF0];exact NI fs h
  have hFn:F fs.length=fldT (fs.map fun f=>(f.off,txT f)):=by rw[hF0];simp
  have hF00:F 0=[]:=by rw[hF0];simp[fldT]
  rw[←hFn]at hl ⊢;rw[←hFn]at hFl;have h:=Bz ⟨#[123]⟩ l [123] rfl (by simp at hl ⊢;omega)
  refine wG bH TI ?_;refine aA [0,1] h TI cM iT ?_;refine goG bH TI ?_;refine wG bH @List.length_map.{0,0} ?_;obtain⟨l0,hl0⟩: ∃l0,l0=l++[123]:=⟨_,rfl⟩
  have hll:l0.length=l.length+1:=by rw[hl0];simp
  have hgoal:l++([123]++F fs.length++[125])=l0++F fs.length++[125]:=by rw[hl0];simp
  have hl00:l++[123]=l0++F 0:=by rw[hF00,hl0];simp
  rw[hgoal,hl00];refine aP ?_;refine ALp.cutP 3 [(0,.pt 0 0),(3,.pt 2 0),(4,.fn (.func 148) [] []),(65,.sl (fs.map fdV) .ro),(66,(.im (.int .i64 (fs.length)))),(67,(.im (.int .i64 ((((0:Nat)):Int)))))] [.box [.nb 0 206,.sl (byV (bA ((l0++F 0)))) (.mine 1)],.tip 5 1 (bA ((l0++F 0))).size,.box [(.im (.int .i64 ((5:Int)))),(.im (.int .i64 (s))),(.im (.int .i64 (c))),.sl (es.map tyV) .ro,.sl (fs.map fdV) .ro]] cM ?_;refine ALp.upto fs.length (fun _=>True) (fun m=>⟨dn 96 [(0,.pt 0 0),(3,.pt 2 0),(4,.fn (.func 148) [] []),(65,.sl (fs.map fdV) .ro),(66,(.im (.int .i64 (fs.length)))),(67,(.im (.int .i64 ((((m:Nat)):Int)))))],ofl [.box [.nb 0 206,.sl (byV (bA ((l0++F m)))) (.mine 1)],.tip 5 1 (bA ((l0++F m))).size,.box [(.im (.int .i64 ((5:Int)))),(.im (.int .i64 (s))),(.im (.int .i64 (c))),.sl (es.map tyV) .ro,.sl (fs.map fdV) .ro]]⟩) ?_ 0 (Nat.zero_le _) trivial
  intro m hm _ hnext
  by_cases hlt:m<fs.length
  ·have hlt':(m:Int)<(fs.length:Int):=by omega
   have hg:=bB hlt;have hm1:=aL hlt (by omega)
   have hn:=hnext (m+1) (by omega) (by omega) trivial
   clear hnext
   have ho:0≤fs[m].off∧fs[m].off≤9223372036854775807:=by
    have:=hof m hlt;unfold fok at this;simp[hlt]at this;omega
   have hi:=uG fs[m].off ho.1 ho.2;have hle:=hFl (m+1) (by omega)
   rw[hFs m hlt]at hle hn
   have hz1:((⟨(Lib.itoa fs[m].off).toArray⟩:ByteArray)).size+((⟨#[58,32]⟩:ByteArray)).size≤9223372036854775807:=by
    show(bA (Lib.itoa fs[m].off)).size+2≤_
    rw[pO];simp at hl hle;omega
   have he:(⟨(Lib.itoa fs[m].off).toArray⟩++⟨#[58,32]⟩:ByteArray)=bA (Lib.itoa fs[m].off++[58,32]):=by rw[←Ao];rfl
   by_cases h0:m=0
   ·rw[if_pos h0,List.nil_append]at hle hn
    obtain⟨q,hq⟩: ∃q,q=Lib.itoa fs[m].off++[58,32]:=⟨_,rfl⟩
    rw[←hq]at he hle hn;obtain⟨l1,hl1'⟩: ∃l1,l1=l0++F m:=⟨_,rfl⟩
    have h2:=Bz _ l1 q he (by rw[hl1'];simp at hl hle ⊢;omega)
    have hc:=hF fs[m] (List.getElem_mem hlt) (hfF _ (List.getElem_mem hlt)) (hfs _ (List.getElem_mem hlt)) (l1++q) (by rw[hl1'];simp at hl hle ⊢;omega)
    rw[←List.append_assoc,←List.append_assoc,←hl1']at hn;rw[←hl1'];have hg0: ¬((m:Nat):Int)>0:=by omega
    refine wdG bH (A16 @eN @eR @dK @dM @eL @eK @eM @dL @dY @dX @eQ @dN @List.getElem?_map.{0,0} @Int.natCast_nonneg hlt' (AI hg hg0)) ?_;refine AR.callP hi TI cM ?_;refine goG bH hz1 ?_;refine aA [0,1] h2 TI cM iT ?_;refine goG bH TI ?_;refine wdG bH BN03 ?_;refine aA [0,1] hc @bP cM iT ?_;refine goG bH TI ?_;refine wdG bH hm1 ?_;refine ALp.cutP 3 [(0,.pt 0 0),(3,.pt 2 0),(4,.fn (.func 148) [] []),(65,.sl (fs.map fdV) .ro),(66,(.im (.int .i64 (fs.length)))),(67,(.im (.int .i64 ((((m+1:Nat)):Int)))))] [.box [.nb 0 206,.sl (byV (bA ((l1++q++txT fs[m])))) (.mine 1)],.tip 5 1 (bA ((l1++q++txT fs[m]))).size,.box [(.im (.int .i64 ((5:Int)))),(.im (.int .i64 (s))),(.im (.int .i64 (c))),.sl (es.map tyV) .ro,.sl (fs.map fdV) .ro]] cM ?_;exact hn
   ·rw[if_neg h0]at hle hn
    obtain⟨q,hq⟩: ∃q,q=Lib.itoa fs[m].off++[58,32]:=⟨_,rfl⟩
    rw[←hq]at he hle hn;obtain⟨l1,hl1'⟩: ∃l1,l1=l0++F m:=⟨_,rfl⟩
    obtain⟨l2,hl2'⟩: ∃l2,l2=l1++[44,32]:=⟨_,rfl⟩
    have h2:=Bz ⟨#[44,32]⟩ l1 [44,32] rfl (by rw[hl1'];simp at hl hle ⊢;omega)
    rw[←hl2']at h2;have h3:=Bz _ l2 q he (by rw[hl2',hl1'];simp at hl hle ⊢;omega)
    have hc:=hF fs[m] (List.getElem_mem hlt) (hfF _ (List.getElem_mem hlt)) (hfs _ (List.getElem_mem hlt)) (l2++q) (by rw[hl2',hl1'];simp at hl hle ⊢;omega)
    rw[←List.append_assoc,←List.append_assoc,←List.append_assoc,←hl1',←hl2']at hn;rw[←hl1'];have hg0:((m:Nat):Int)>0:=by omega
    refine wdG bH (A16 @eN @eR @dK @dM @eL @eK @eM @dL @dY @dX @eQ @dN @List.getElem?_map.{0,0} @Int.natCast_nonneg hlt' (AI hg hg0)) ?_;refine aA [0,1] h2 TI cM iT ?_;refine goG bH TI ?_;refine wdG bH BN03 ?_;refine AR.callP hi TI cM ?_;refine goG bH hz1 ?_;refine aA [0,1] h3 TI cM iT ?_;refine goG bH TI ?_;refine wdG bH BN03 ?_;refine aA [0,1] hc @bP cM iT ?_;refine goG bH TI ?_;refine wdG bH hm1 ?_;refine ALp.cutP 3 [(0,.pt 0 0),(3,.pt 2 0),(4,.fn (.func 148) [] []),(65,.sl (fs.map fdV) .ro),(66,(.im (.int .i64 (fs.length)))),(67,(.im (.int .i64 ((((m+1:Nat)):Int)))))] [.box [.nb 0 206,.sl (byV (bA ((l2++q++txT fs[m])))) (.mine 1)],.tip 5 1 (bA ((l2++q++txT fs[m]))).size,.box [(.im (.int .i64 ((5:Int)))),(.im (.int .i64 (s))),(.im (.int .i64 (c))),.sl (es.map tyV) .ro,.sl (fs.map fdV) .ro]] cM ?_;exact hn
  ·obtain rfl:m=fs.length:=by omega
   have hlt': ¬(fs.length:Int)<(fs.length:Int):=by omega
   clear hnext;have h2:=Bz ⟨#[125]⟩ (l0++F fs.length) [125] rfl (by simp at hl ⊢;omega)
   refine wG bH hlt' ?_;refine aA [0,1] h2 TI cM iT ?_;refine goG bH TI ?_;refine wG bH TI ?_;refine aR (rs:=[]) rfl (by first|exact .inl rfl|exact .inr rfl) (finG bH) ?_ rfl (idG cM)
   all_goals exact wkG cM
def iR:=A7 @zC @gK @KQ @xH @KD @yX @gI
theorem RF{t:Ty}(h:frm t=true):txT t≠[]:=by
 obtain⟨o,k,s,c,es,fs⟩:=t
 obtain⟨hb,_⟩:=pH h
 rw[rN]
 rcases mG hb with ⟨hk,h1⟩|⟨hk,hs,h1⟩|⟨rfl,h1⟩|⟨rfl,h0,h1,h2,h3,h4⟩|⟨rfl,h1⟩
 ·rcases hk with rfl|rfl<;>simp
 ·rcases hk with rfl|rfl<;>simp
 ·simp
 ·simp
 ·simp
def prT(t:Ty):Bs:=if good t=true then txT t else []
theorem AX(t:Ty)(hfit:fit t)(hl:good t=true→(txT t).length≤140737488355328):PC Tryz.prog 81 [tyV t] (.im (.string (bA (prT t)))):=by
 have hgd:=VJ t hfit
 unfold prT
 refine PC.enter 16 Tryz.func81 rfl (by decide) rfl rfl (s:=[(0,tyV t)]) (by rfl) ?_
 simp only[bP t]
 cases hg:good t with
 | false =>
  rw[hg]at hgd;rw[if_neg (by decide)]
  refine wG iR TI ?_;refine AR.callP hgd @bP cM ?_;refine goG iR TI ?_;refine wG iR TI ?_;refine aG (rs:=[.tmp 2]) rfl (by first|exact .inl rfl|exact .inr rfl) (finG iR) ?_
  skip
  all_goals exact wkG cM
 | true =>
  rw[hg]at hgd;rw[if_pos rfl];have hfrm:=Ey hg;have hl:=hl hg;have hw:=IF t hfit hfrm [] (by simpa using hl)
  rw[List.nil_append]at hw;have hs:=JO (bA (txT t)) (by rw[pO];intro e;exact RF hfrm (List.length_eq_zero_iff.1 e))
  refine wG iR TI ?_;refine AR.callP hgd @bP cM ?_;refine goG iR TI ?_
  repeat (with_reducible first|refine AWp.seq ?_|refine qR ?_|refine Thn.n ?_|refine kU ?_)
  with_reducible apply kB
  case ht=>rfl
  case hc=>rfl
  repeat (with_reducible first|refine AWp.seq ?_|refine qR ?_|refine Thn.n ?_|refine kU ?_)
  refine AWp.region ?_;refine AR.one rfl (by simp only[↓iZ,↓reduceIte,SA,SB,SC,SD,iR,pC,fpsG,evO,evB,evA,oP,pD,eqF,eqC,kN,iF,slB,slK,gd,St.ev,eZ,ofl,wrl,putE,V.ofVal,V.ofCell,bin2,un1,seg,iW,eV,Value.oneCell',Nat.reduceBEq,Nat.reduceLT,Nat.reduceSub,Nat.reduceAdd,Nat.reduceMul,Nat.reduceLeDiff,Nat.reduceEqDiff,reduceCtorEq,Int.reduceLT,Int.reduceLE,Int.reduceEq,Int.reduceNe,Int.reduceBEq,Int.reduceBNe,Int.reduceAdd,Int.reduceSub,Int.reduceMul,Int.reduceToNat];with_reducible exact rfl) (by simp only[↓iZ,↓reduceIte,SA,SB,SC,SD,iR,pC,fpsG,evO,evB,evA,oP,pD,eqF,eqC,kN,iF,slB,slK,gd,St.ev,eZ,ofl,wrl,putE,V.ofVal,V.ofCell,bin2,un1,seg,iW,eV,Value.oneCell',Nat.reduceBEq,Nat.reduceLT,Nat.reduceSub,Nat.reduceAdd,Nat.reduceMul,Nat.reduceLeDiff,Nat.reduceEqDiff,reduceCtorEq,Int.reduceLT,Int.reduceLE,Int.reduceEq,Int.reduceNe,Int.reduceBEq,Int.reduceBNe,Int.reduceAdd,Int.reduceSub,Int.reduceMul,Int.reduceToNat];with_reducible exact rfl) (by simp only[↓iZ,↓reduceIte,SA,SB,SC,SD,iR,pC,fpsG,evO,evB,evA,oP,pD,eqF,eqC,kN,iF,slB,slK,gd,St.ev,eZ,ofl,wrl,putE,V.ofVal,V.ofCell,bin2,un1,seg,iW,eV,Value.oneCell',Nat.reduceBEq,Nat.reduceLT,Nat.reduceSub,Nat.reduceAdd,Nat.reduceMul,Nat.reduceLeDiff,Nat.reduceEqDiff,reduceCtorEq,Int.reduceLT,Int.reduceLE,Int.reduceEq,Int.reduceNe,Int.reduceBEq,Int.reduceBNe,Int.reduceAdd,Int.reduceSub,Int.reduceMul,Int.reduceToNat];with_reducible exact rfl) ?_
  refine QD (by decide) rfl ?_
  refine goG iR TI ?_
  repeat (with_reducible first|refine AWp.seq ?_|refine qR ?_|refine Thn.n ?_|refine kU ?_)
  refine AWp.ghostB 1 1 [.nb 1 206,.sl [] .nl] 5 1 ?_;simp only[List.set_cons_succ,List.set_cons_zero,List.cons_append,List.nil_append,List.length_cons,List.length_nil,Nat.reduceAdd];rw[show byV (bA ([]:Bs))=[]from rfl,show(bA ([]:Bs)).size=0 from rfl]at hw
  refine wG iR TI ?_;refine aA [1,2] hw @bP cM iT ?_;refine goG iR TI ?_;refine wG iR TI ?_;refine aA [1,2] hs TI cM iT ?_;refine goG iR TI ?_;refine wG iR TI ?_;refine aG (rs:=[.tmp 2]) rfl (by first|exact .inl rfl|exact .inr rfl) (finG iR) ?_
  skip
  all_goals exact wkG cM
theorem zF{P:Program}{f:FuncId}{x:V}{es:List V}{l l':List Ent}{r:V}(h:DC P f [x,.sl es .ro] l r l'):DC P f [x,.sl es .full] l r l' :=
 ⟨h.1,fun C vs hst hC hsz hR=>h.2 C vs hst hC hsz fun i hi=>match i,hi with
  | 0,_=>hR 0 (by simp)
  | 1,_=>Wk.ro _ _ C _ (hR 1 (by simp))⟩
theorem mU(b x r:Bs)(k:Nat)(hr:b++lnT k x=r)(hlen:r.length≤140737488355328):DC Tryz.prog 36 [.pt 0 0,.sl [.im (.string ⟨(x).toArray⟩)] .full] [.box [.nb 0 PQ,.sl ((b).map byB) (.mine 1),(.im (.int .i64 ((k:Int))))],.tip 5 1 (b).length] (.tu []) [.box [.nb 0 PQ,.sl ((r).map byB) (.mine 1),(.im (.int .i64 ((k:Int))))],.tip 5 1 (r).length]:=by
 subst hr
 exact zF<|Lj b [x] x (by simp) k (by simp) hlen
theorem vV(b x y z r:Bs)(k:Nat)(hr:b++lnT k (x++(y++z))=r)(hlen:r.length≤140737488355328):DC Tryz.prog 36 [.pt 0 0,.sl [.im (.string ⟨(x).toArray⟩),.im (.string ⟨(y).toArray⟩),.im (.string ⟨(z).toArray⟩)] .full] [.box [.nb 0 PQ,.sl ((b).map byB) (.mine 1),(.im (.int .i64 ((k:Int))))],.tip 5 1 (b).length] (.tu []) [.box [.nb 0 PQ,.sl ((r).map byB) (.mine 1),(.im (.int .i64 ((k:Int))))],.tip 5 1 (r).length]:=by
 subst hr
 exact zF<|Lj b [x,y,z] (x++(y++z)) (by simp) k (by simp) hlen
def Ar:=A7 @iV @cO @jZ @nZ @rI @gY @cN
theorem yO(l:List Nd)(k:Nat)(b:Bs)(hl:l.length≤4194304)(hk:k≤4194304)(hlen:(b++lsT l (k+1)).length≤140737488355328)
  (h: ∀t∈l,∀c:Bs,(c++ndT t (k+1)).length≤140737488355328→DC Tryz.prog 153 [.pt 0 0,ndV t] [.box [.nb 0 PQ,.sl ((c).map byB) (.mine 1),(.im (.int .i64 (((k+1:Nat):Int))))],.tip 5 1 (c).length] (.tu []) [.box [.nb 0 PQ,.sl (((c++ndT t (k+1))).map byB) (.mine 1),(.im (.int .i64 (((k+1:Nat):Int))))],.tip 5 1 ((c++ndT t (k+1))).length]) :
  DC Tryz.prog 86 [.pt 0 0,.sl (l.map ndV) .ro] [.box [.nb 0 PQ,.sl ((b).map byB) (.mine 1),(.im (.int .i64 ((k:Int))))],.tip 5 1 (b).length] (.tu []) [.box [.nb 0 PQ,.sl (((b++lsT l (k+1))).map byB) (.mine 1),(.im (.int .i64 ((k:Int))))],.tip 5 1 ((b++lsT l (k+1))).length]:=by
 have hw1:IntKind.i64.wrap ((k:Int)+1)=((k+1:Nat):Int):=by rw[cU (by omega)];omega
 have hw2:IntKind.i64.wrap (((k+1:Nat):Int)-1)=(k:Int):=by rw[cU (by omega)];omega
 obtain⟨Bf,hBf⟩: ∃Bf:Nat→Bs,∀m,Bf m=b++lsT (l.take m) (k+1):=⟨_,fun _=>rfl⟩
 have h0:Bf 0=b:=by rw[hBf];simp[lsT]
 have hend:Bf l.length=b++lsT l (k+1):=by rw[hBf,List.take_length]
 rw[←hend,←h0]
 refine DC.enter 30 Tryz.func86 rfl (by decide) rfl rfl (s:=[(0,.pt 0 0),(1,.sl (l.map ndV) .ro)]) (by rfl) ?_
 refine wG Ar hw1 ?_
 refine aP ?_
 refine ALp.cutP 2 [(0,.pt 0 0),(6,.pt 0 0),(13,.sl (l.map ndV) .ro),(14,(.im (.int .i64 (l.length)))),(15,(.im (.int .i64 ((((0:Nat)):Int)))))] [.box [.nb 0 PQ,.sl (((Bf 0)).map byB) (.mine 1),(.im (.int .i64 (((k+1:Nat):Int))))],.tip 5 1 ((Bf 0)).length] (A8 aW aH aJ aZ @aD @aE bC aB) ?_
 refine ALp.upto l.length (fun _=>True) (fun m=>⟨dn 30 [(0,.pt 0 0),(6,.pt 0 0),(13,.sl (l.map ndV) .ro),(14,(.im (.int .i64 (l.length)))),(15,(.im (.int .i64 ((((m:Nat)):Int)))))],ofl [.box [.nb 0 PQ,.sl (((Bf m)).map byB) (.mine 1),(.im (.int .i64 (((k+1:Nat):Int))))],.tip 5 1 ((Bf m)).length]⟩) ?_ 0 (Nat.zero_le _) trivial
 intro m hm _ hnext
 by_cases hlt:m<l.length
 ·have hlt':(m:Int)<(l.length:Int):=by omega
  have hm1:=aL hlt (by omega)
  have hg:=bB hlt;have hle:=TK (l:=l) (m:=m+1) (k:=k+1)
  have hc:=h l[m] (List.getElem_mem hlt) (b++lsT (l.take m) (k+1)) (by
   rw[List.append_assoc,←Ol hlt,List.length_append];rw[List.length_append]at hlen
   omega)
  rw[List.append_assoc,←Ol hlt,←hBf,←hBf]at hc;refine wG Ar (A3 ND hlt' hg) ?_;refine aA [0,1] hc eW (A8 aW aH aJ aZ @aD @aE bC aB) (A8 cF bK bO @aS @aT fF cK eX) ?_;refine goG Ar TI ?_;refine wG Ar hm1 ?_;refine ALp.cutP 2 [(0,.pt 0 0),(6,.pt 0 0),(13,.sl (l.map ndV) .ro),(14,(.im (.int .i64 (l.length)))),(15,(.im (.int .i64 ((((m+1:Nat)):Int)))))] [.box [.nb 0 PQ,.sl (((Bf (m+1))).map byB) (.mine 1),(.im (.int .i64 (((k+1:Nat):Int))))],.tip 5 1 ((Bf (m+1))).length] (A8 aW aH aJ aZ @aD @aE bC aB) ?_;exact hnext (m+1) (by omega) (by omega) trivial
 obtain rfl:m=l.length:=by omega
 clear hnext h
 refine wG Ar (AI @Int.lt_irrefl hw2) ?_
 refine aR (rs:=[]) rfl (by first|exact .inl rfl|exact .inr rfl) (finG Ar) ?_ rfl (idG (A8 aW aH aJ aZ @aD @aE bC aB))
 all_goals exact wkG (A8 aW aH aJ aZ @aD @aE bC aB)
def yV:=A16 @nM @iV @cO @jP @iA @fE @mB @kT @nZ @gJ @jE @iP @iO @lI @lH (A9 @lG @rI @nL @gY @cN @iS @hX @dP @dC)
theorem OF(t:Nd)(k:Nat)(b:Bs)(hf:fitN t)(hs:stT t=true)(h6:t.kind≠6)(h7:t.kind≠7)(h8:t.kind≠8)(h9:t.kind≠9)(hlen:(b++ndT t k).length≤140737488355328) :
  DC Tryz.prog 153 [.pt 0 0,ndV t] [.box [.nb 0 PQ,.sl ((b).map byB) (.mine 1),(.im (.int .i64 ((k:Int))))],.tip 5 1 (b).length] (.tu []) [.box [.nb 0 PQ,.sl (((b++ndT t k)).map byB) (.mine 1),(.im (.int .i64 ((k:Int))))],.tip 5 1 ((b++ndT t k)).length]:=by
 have he:ndT t k=lnT k (simT t):=by
  obtain⟨o,w,n,e,l,el,cs⟩:=t;rw[jV];unfold ndN;rw[if_neg h6,if_neg h7,if_neg h8,if_neg h9]
 rw[he]at hlen ⊢
 have hl0:=hlen
 unfold lnT at hl0
 simp only[List.length_append]at hl0
 have q:=IN t hf hs ⟨h6,h7,h8,h9⟩ (by omega)
 obtain⟨B,hB⟩: ∃B,B=b++lnT k (simT t):=⟨_,rfl⟩
 rw[←hB]at hlen
 have ql:=mU b (simT t) B k hB.symm hlen
 rw[←hB]
 generalize simT t=s at q ql
 refine DC.enter 112 Tryz.func153 rfl (by decide) rfl rfl (s:=[(0,.pt 0 0),(1,ndV t)]) (by rfl) ?_
 refine wG yV (A5 ND h6 h7 h8 h9) ?_
 refine AR.callP q eW (A8 aW aH aJ aZ @aD @aE bC aB) ?_
 refine goG yV TI ?_
 refine aA [0,1] ql TI (A8 aW aH aJ aZ @aD @aE bC aB) (A8 cF bK bO @aS @aT fF cK eX) ?_
 refine goG yV TI ?_
 refine wG yV TI ?_
 refine aR (rs:=[]) rfl (by first|exact .inl rfl|exact .inr rfl) (finG yV) ?_ rfl (idG (A8 aW aH aJ aZ @aD @aE bC aB))
 all_goals exact wkG (A8 aW aH aJ aZ @aD @aE bC aB)
end Go.Proofs.YtmbmmckagcdapaaGreatDoor
namespace Go.Proofs.YtmbmmckagcdapaaGreatDoor
def varT(k:Nat)(v:Va):Bs:=lnT k ([118,97,114,32]++(v.name.data.toList++([58,32]++(txT v.ty++[59]))))
def vasT(k:Nat)(l:List Va):Bs:=(l.map (varT k)).flatten
def funT(f:Fun):Bs:=lnT 0 ([102,117,110,99,32]++(f.name.data.toList++[32,123]))++(vasT 1 f.vars++(lsT f.body 1++lnT 0 [125]))
def Nw(w x:Bool):Bs:=(if w then [32,119,114,105,116,101]else [])++(if x then [32,101,120,101,99]else [])
def Cb(n:Nat):Bs:=48::120::lP n
def datT(d:Sec):Bs:=lnT 0 ([100,97,116,97,32]++(d.name.data.toList++([32]++(Cb d.addr.toNat++(Nw d.wr d.exe++([32,61,32]++(quoS d.data++[59])))))))
def uniT(u:Un):Bs:=vasT 0 u.globals++((u.data.map datT).flatten++(u.funcs.map funT).flatten)
def Ju(v:Va):List Tk:=kwT [118,97,114]::idT v.name.data.toList::opT [58]::(tyK v.ty++[opT [59]])
def vasK(l:List Va):List Tk:=(l.map Ju).flatten
def funK(f:Fun):List Tk:=kwT [102,117,110,99]::idT f.name.data.toList::opT [123]::(vasK f.vars++(lsK f.body++[opT [125]]))
def RU(w x:Bool):List Tk:=(if w then [kwT [119,114,105,116,101]]else [])++(if x then [kwT [101,120,101,99]]else [])
def datK(d:Sec):List Tk:=kwT [100,97,116,97]::idT d.name.data.toList::nuT d.addr.toNat::(RU d.wr d.exe++[opT [61],Yo d.data,opT [59]])
def LD(u:Un):List Tk:=vasK u.globals++((u.data.map datK).flatten++(u.funcs.map funK).flatten)
structure VaOk (v:Va):Prop where
 name:nameT v.name=true
 ty:frm v.ty=true
 sh:shal v.ty 64=true
structure FunOk (f:Fun):Prop where
 name:nameT f.name=true
 vars: ∀v∈f.vars,VaOk v
 body: ∀t∈f.body,okT t=true∧exA qE t=true
 dep:dep f.body≤64
structure SecOk (d:Sec):Prop where
 name:nameT d.name=true
 addr:0≤d.addr∧d.addr<4294967296
structure UnOk (u:Un):Prop where
 globals: ∀v∈u.globals,VaOk v
 data: ∀d∈u.data,SecOk d
 funcs: ∀f∈u.funcs,FunOk f
theorem FJ(e:Ex)(h:qE e=true):n32 e=true:=(FK h).1
theorem Ce{α:Type}{g:α→Bs}{k:α→List Tk}: ∀(l:List α),(∀x∈l,∀s r,Sc s r→Sc (g x++s) (k x++r))→ ∀s r,Sc s r→Sc ((l.map g).flatten++s) ((l.map k).flatten++r)
 | [],_,s,r,h=>h
 | x::l,hl,s,r,h=>by
  rw[List.map_cons,List.map_cons,List.flatten_cons,List.flatten_cons,List.append_assoc,List.append_assoc];exact hl x (by simp) _ _ (Ce l (fun y hy=>hl y (by simp[hy])) s r h)
theorem RQ{v:Va}(hv:VaOk v)(j:Nat){s:Bs}{r:List Tk}(h:Sc s r):Sc (varT j v++s) (Ju v++r):=by
 unfold varT Ju
 refine Sc.line ?_
 simp only[List.append_assoc,List.cons_append,List.nil_append]
 refine Sc.kw (w:=[118,97,114]) (by decide) rfl (Sc.sp (Sc.name hv.name rfl (Sc.op (by decide) (Sc.sp ?_))))
 exact WJ v.ty hv.ty _ _ rfl (Sc.op (by decide) (Sc.nl h))
theorem EQ{l:List Va}(hl: ∀v∈l,VaOk v)(j:Nat){s:Bs}{r:List Tk}(h:Sc s r):Sc (vasT j l++s) (vasK l++r):=Ce l (fun v hv s r h=>RQ (hl v hv) j h) s r h
theorem RS{f:Fun}(hf:FunOk f){s:Bs}{r:List Tk}(h:Sc s r):Sc (funT f++s) (funK f++r):=by
 unfold funT funK
 simp only[List.append_assoc,List.cons_append,List.nil_append]
 refine Sc.line ?_
 simp only[List.append_assoc,List.cons_append,List.nil_append]
 refine Sc.kw (w:=[102,117,110,99]) (by decide) rfl (Sc.sp (Sc.name hf.name rfl (Sc.sp (Sc.op (by decide) (Sc.nl ?_)))))
 refine EQ hf.vars 1 ?_
 refine Du f.body (fun t ht=>WK t (hf.body t ht).1 (HH FJ t (hf.body t ht).2)) 1 _ _ ?_
 exact Sc.line (Sc.op (by decide) (Sc.nl h))
theorem Ki{n:Nat}(hn:n<4294967296){s:Bs}{l:List Tk}(hs:nW s=true)(h:Sc s l):Sc (Cb n++s) (nuT n::l):=by
 obtain⟨h1,h2,h3⟩:=Al (n+1) n (by omega)
 have h4:=rD 7 (n+1) n (by omega) (by omega)
 have hw: ∀c∈Cb n,isW c=true:=fun c hc=>by
  rcases List.mem_cons.1 hc with rfl|hc
  ·decide
  rcases List.mem_cons.1 hc with rfl|hc
  ·decide
  exact h3 c hc
 have hv:valP (Cb n)=some n:=by
  unfold valP Cb;rw[if_pos (show pre [48,120] (48::120::lP n)=true from Cg [48,120] (lP n))]
  rw[show(48::120::lP n).drop 2=lP n from rfl]
  have h5:=List.length_pos_iff.2 h2;unfold lP;rw[if_pos ⟨h5,h4⟩];exact h1
 have nk:isK (Cb n)=false:=by
  rw[←Bool.not_eq_true,vG];intro hm;have:=(yB _ hm).1;revert this;unfold Cb;show isL 48=true→False
  decide
 refine Sc.word (by unfold Cb;simp) hw hs ?_ h
 unfold namP
 rw[if_neg (by rw[nk];decide),if_neg (by unfold Cb;show ¬isL 48=true;decide),hv]
 rfl
theorem RT{d:Sec}(hd:SecOk d){s:Bs}{r:List Tk}(h:Sc s r):Sc (datT d++s) (datK d++r):=by
 unfold datT datK
 refine Sc.line ?_
 simp only[List.append_assoc,List.cons_append,List.nil_append]
 refine Sc.kw (w:=[100,97,116,97]) (by decide) rfl (Sc.sp (Sc.name hd.name rfl (Sc.sp ?_)))
 have hn:d.addr.toNat<4294967296:=by have:=hd.addr;omega
 have hend:Sc (32::61::32::(quoS d.data++59::10::s)) (opT [61]::Yo d.data::opT [59]::r):=Sc.sp (ES (Sc.str (Sc.op (by decide) (Sc.nl h))))
 unfold Nw RU
 cases d.wr<;>cases d.exe<;>simp only[if_true,if_false,Bool.false_eq_true,List.append_assoc,List.cons_append,List.nil_append]
 ·exact Ki hn rfl hend
 ·exact Ki hn rfl (Sc.sp (Sc.kw (w:=[101,120,101,99]) (by decide) rfl hend))
 ·exact Ki hn rfl (Sc.sp (Sc.kw (w:=[119,114,105,116,101]) (by decide) rfl hend))
 ·exact Ki hn rfl (Sc.sp (Sc.kw (w:=[119,114,105,116,101]) (by decide) rfl (Sc.sp (Sc.kw (w:=[101,120,101,99]) (by decide) rfl hend))))
theorem RR{u:Un}(hu:UnOk u){s:Bs}{r:List Tk}(h:Sc s r):Sc (uniT u++s) (LD u++r):=by
 unfold uniT LD
 rw[List.append_assoc,List.append_assoc,List.append_assoc,List.append_assoc]
 exact EQ hu.globals 0 (Ce u.data (fun d hd s r h=>RT (hu.data d hd) h) _ _ (Ce u.funcs (fun f hf s r h=>RS (hu.funcs f hf) h) s r h))
section
variable {ts:List Tk}
theorem FC{v:Va}(hv:VaOk v){a o:Nat}{rest:List Tk}(hd:ts.drop a=Ju v++rest)(ho:o≤192): ∃v',vaV v'=vaV v∧ ∃F,∀f,F≤f→wN ts f a o=some (.ok v' (a+(Ju v).length) o):=by
 unfold Ju at hd ⊢
 simp only[List.append_assoc,List.cons_append,List.nil_append]at hd
 have d1:=cA hd
 have d2:=cA d1
 have d3:=cA d2
 obtain⟨t',⟨F,hF⟩,ht⟩:=WM (ts:=ts) v.ty hv.ty 64 _ o _ hv.sh (by omega) d3
 have d4:=jX d3
 refine⟨⟨v.name,t'⟩,?_,F,fun f hf=> ?_⟩
 ·rw[bP,bP]at ht
  injection ht with ht
  injection ht with h1 ht
  injection ht with h2 ht
  injection ht with h3 ht
  injection ht with h4 ht
  injection ht with h5 ht
  rw[qA,qA];show V.ag [.im (.string v.name),.im (.int .i64 t'.kind),.im (.int .i64 t'.size),.im (.int .i64 t'.count),.sl (t'.elem.map tyV) .ro,.sl (t'.fields.map fdV) .ro]=_
  rw[h1,h2,h3,h4,h5]
 ·unfold wN
  rw[Ta hd,bX,Bj d1,bX,jW d2,bX,hF f (by omega),bX,jW d4,bX,pE]
  show some _=some _
  congr 2
  simp only[List.length_cons,List.length_append,List.length_nil];omega
theorem FB: ∀(l:List Va),(∀v∈l,VaOk v)→ ∀(acc:List Va) (a o:Nat) (rest:List Tk),ts.drop a=vasK l++rest→sees ts (a+(vasK l).length) [118,97,114]=false→o≤192 →
  ∃l',l'.map vaV=l.map vaV∧ ∃F,∀f,F≤f→vasM ts f acc a o=some (.ok (acc++l') (a+(vasK l).length) o)
 | [],_,acc,a,o,rest,hd,hs,ho=>by
  refine⟨[],rfl,1,fun f hf=> ?_⟩
  cases f with
  | zero=>omega
  | succ f =>
   have hs:sees ts a [118,97,114]=false:=hs;rw[vasM,if_neg (by rw[hs];decide),List.append_nil]
   rfl
 | v::l,hl,acc,a,o,rest,hd,hs,ho=>by
  have e:vasK (v::l)=Ju v++vasK l:=by unfold vasK;rw[List.map_cons,List.flatten_cons]
  rw[e]at hd hs ⊢;rw[List.append_assoc]at hd;rw[List.length_append,←Nat.add_assoc]at hs ⊢;obtain⟨v',hv,F,hF⟩:=FC (hl v (by simp)) hd ho
  obtain⟨l',hl',G,hG⟩:=FB l (fun x hx=>hl x (by simp[hx])) (acc++[v']) _ o rest (jX hd) hs ho
  refine⟨v'::l',by rw[List.map_cons,List.map_cons,hv,hl'],F+G+1,fun f hf=> ?_⟩
  cases f with
  | zero=>omega
  | succ f =>
   have hk:sees ts a [118,97,114]=true:=by
    unfold Ju at hd;rw[List.cons_append]at hd;rw[bY hd];decide
   rw[vasM,if_pos hk,hF f (by omega),bX,hG f (by omega),List.append_assoc]
   rfl
def fnQ(f:Fun):ByteArray×List V×List Nd:=(f.name,f.vars.map vaV,f.body)
def unQ(u:Un):List V×List Sec×List (ByteArray×List V×List Nd):=(u.globals.map vaV,u.data,u.funcs.map fnQ)
theorem XT{f g:Fun}(h:fnQ f=fnQ g):fnV f=fnV g:=by
 unfold fnQ at h
 rw[Prod.mk.injEq,Prod.mk.injEq]at h
 obtain⟨h1,h2,h3⟩:=h
 unfold fnV
 rw[h1,h2,h3]
theorem QR: ∀ {l m:List Fun},l.map fnQ=m.map fnQ→l.map fnV=m.map fnV
 | [],[],_=>rfl
 | f::l,g::m,h=>by
  rw[List.map_cons,List.map_cons,List.cons.injEq]at h;rw[List.map_cons,List.map_cons,XT h.1,QR h.2]
theorem WE{u v:Un}(h:unQ u=unQ v):unV u=unV v:=by
 unfold unQ at h
 rw[Prod.mk.injEq,Prod.mk.injEq]at h
 obtain⟨h1,h2,h3⟩:=h
 unfold unV
 rw[h1,h2,QR h3]
theorem SM{g:Fun}(hg:FunOk g){a o:Nat}{rest:List Tk}(hd:ts.drop a=funK g++rest)(ho:o=0): ∃g',fnQ g'=fnQ g∧ ∃F,∀f,F≤f→funM ts f a o=some (.ok g' (a+(funK g).length) o):=by
 subst ho
 unfold funK at hd ⊢
 simp only[List.append_assoc,List.cons_append,List.nil_append]at hd
 have d1:=cA hd
 have d2:=cA d1
 have d3:=cA d2
 have d4:=jX d3
 have hb: ∀t∈g.body,RdN ts t∧stT t=true:=fun t ht=>⟨WN t (hg.body t ht).1 (hg.body t ht).2,by
  have:=(hg.body t ht).1;obtain⟨k,w,n,e,l,el,cs⟩:=t;rw[zV,Bool.and_eq_true]at this
  exact this.1⟩
 have hs:=(Wa (fun t ht=>(hb t ht).2) d4).2
 obtain⟨l',hl',F,hF⟩:=FB g.vars hg.vars [] _ 1 _ d3 hs (by omega)
 obtain⟨G,hG⟩:=QM g.body hb [] _ 1 _ d4 (by have:=hg.dep;unfold room;omega)
 have d5:=jX d4
 refine⟨⟨g.name,l',g.body⟩,?_,F+G,fun f hf=> ?_⟩
 ·show(g.name,l'.map vaV,g.body)=(g.name,g.vars.map vaV,g.body)
  rw[hl']
 ·unfold funM
  rw[Ta hd,bX,Bj d1,bX,sF d2 (by omega),bX,hF f (by omega),bX,hG f (by omega),bX,Ak d5,bX,pE]
  show some _=some _
  congr 2
  simp only[List.length_cons,List.length_append,List.length_nil];omega
theorem SN{d:Sec}(hd0:SecOk d){a o:Nat}{rest:List Tk}(hd:ts.drop a=datK d++rest):By ts a o=some (.ok d (a+(datK d).length) o):=by
 unfold datK at hd ⊢
 simp only[List.append_assoc,List.cons_append,List.nil_append]at hd
 have d1:=cA hd
 have d2:=cA d1
 have d3:=cA d2
 have hn:((d.addr.toNat:Nat):Int)=d.addr:=by have:=hd0.addr;omega
 have fin: ∀a1,ts.drop a1=opT [61]::Yo d.data::opT [59]::rest→(rb (expM ts [61] a1 o) fun _ a o=>rb (takM ts 4 a o) fun b a o=>rb (expM ts [59] a o) fun _ a o=>ret (Sec.mk d.name ((nuT d.addr.toNat).n) b.text d.wr d.exe) a o)=some (.ok d (a1+3) o):=fun a1 h=>by
  rw[jW h,bX,show takM ts 4 (a1+1) o=_ from DD (t:=Yo d.data) (cA h),bX,jW (cA (cA h)),bX]
  show some (Rs.ok (Sec.mk d.name ((d.addr.toNat:Nat):Int) d.data d.wr d.exe) _ _)=_
  rw[hn]
 have acc: ∀a1 (s:Bs),sees ts a1 s=true→accM ts s a1 o=some (.ok true (a1+1) o):=fun a1 s h=>by unfold accM;rw[if_pos h];rfl
 have acn: ∀a1 (s:Bs),sees ts a1 s=false→accM ts s a1 o=some (.ok false a1 o):=fun a1 s h=>by unfold accM;rw[if_neg (by rw[h];decide)];rfl
 unfold By
 rw[Ta hd,bX,Bj d1,bX,Rw d2,bX,pE]
 unfold RU at d3 ⊢
 cases hw:d.wr<;>cases hx:d.exe<;>rw[hw,hx]at d3 fin<;>simp only[if_true,if_false,Bool.false_eq_true,List.append_assoc,List.cons_append,List.nil_append]at d3 ⊢
 ·rw[acn _ _ (by rw[eD d3];decide),bX,acn _ _ (by rw[eD d3];decide),bX,fin _ d3]
  rfl
 ·rw[acn _ _ (by rw[bY d3];decide),bX,acc _ _ (by rw[bY d3];decide),bX,fin _ (cA d3)]
  rfl
 ·rw[acc _ _ (by rw[bY d3];decide),bX,acn _ _ (by rw[eD (cA d3)];decide),bX,fin _ (cA d3)]
  rfl
 ·rw[acc _ _ (by rw[bY d3];decide),bX,acc _ _ (by rw[bY (cA d3)];decide),bX,fin _ (cA (cA d3))]
  rfl
theorem FE: ∀(l:List Fun),(∀g∈l,FunOk g)→ ∀(u:Un) (a:Nat),ts.drop a=(l.map funK).flatten→ ∃l',l'.map fnQ=l.map fnQ∧ ∃F,∀f,F≤f→uniM ts f u a 0=some (.ok ⟨u.globals,u.data,u.funcs++l'⟩ (a+((l.map funK).flatten).length) 0)
 | [],_,u,a,hd=>by
  refine⟨[],rfl,1,fun f hf=> ?_⟩
  cases f with
  | zero=>omega
  | succ f =>
   have hl:ts.length≤a:=List.drop_eq_nil_iff.1 hd;rw[uniM,if_pos hl,List.append_nil];rfl
 | g::l,hl,u,a,hd=>by
  have e:((g::l).map funK).flatten=funK g++(l.map funK).flatten:=by rw[List.map_cons,List.flatten_cons]
  rw[e]at hd ⊢;obtain⟨g',hg,F,hF⟩:=SM (hl g (by simp)) hd rfl
  obtain⟨l',hl',G,hG⟩:=FE l (fun x hx=>hl x (by simp[hx])) ⟨u.globals,u.data,u.funcs++[g']⟩ _ (jX hd)
  refine⟨g'::l',by rw[List.map_cons,List.map_cons,hg,hl'],F+G+1,fun f hf=> ?_⟩
  cases f with
  | zero=>omega
  | succ f =>
   have hd1: ∃r,ts.drop a=kwT [102,117,110,99]::r:=⟨_,by rw[hd];rfl⟩
   obtain⟨r,hd1⟩:=hd1;have hlt: ¬ts.length≤a:=fun h=>by rw[List.drop_eq_nil_iff.2 h]at hd1;cases hd1
   rw[uniM,if_neg hlt,if_neg (by rw[bY hd1];decide),if_neg (by rw[bY hd1];decide),if_pos (by rw[bY hd1];decide),hF f (by omega),bX,hG f (by omega),List.length_append,←Nat.add_assoc,List.append_assoc]
   rfl
theorem FF: ∀(l:List Sec),(∀d∈l,SecOk d)→ ∀(u:Un) (a:Nat) (rest:List Tk) (z:Rs Un),ts.drop a=(l.map datK).flatten++rest→(∃F,∀f,F≤f→uniM ts f ⟨u.globals,u.data++l,u.funcs⟩ (a+((l.map datK).flatten).length) 0=some z)→ ∃F,∀f,F≤f→uniM ts f u a 0=some z
 | [],_,u,a,rest,z,hd,hz=>by
  rw[List.append_nil]at hz;exact hz
 | d::l,hl,u,a,rest,z,hd,hz=>by
  rw[List.map_cons,List.flatten_cons]at hd hz;rw[List.append_assoc]at hd;rw[List.length_append,←Nat.add_assoc]at hz;obtain⟨G,hG⟩:=FF l (fun x hx=>hl x (by simp[hx])) ⟨u.globals,u.data++[d],u.funcs⟩ _ rest z (jX hd) (by rw[List.append_assoc];exact hz)
  refine⟨G+1,fun f hf=> ?_⟩
  cases f with
  | zero=>omega
  | succ f =>
   have hd1: ∃r,ts.drop a=kwT [100,97,116,97]::r:=⟨_,by rw[hd];rfl⟩
   obtain⟨r,hd1⟩:=hd1;have hlt: ¬ts.length≤a:=fun h=>by rw[List.drop_eq_nil_iff.2 h]at hd1;cases hd1
   rw[uniM,if_neg hlt,if_neg (by rw[bY hd1];decide),if_pos (by rw[bY hd1];decide),SN (hl d (by simp)) hd,bX]
   exact hG f (by omega)
theorem FD: ∀(l:List Va),(∀v∈l,VaOk v)→ ∀(u:Un) (a:Nat) (rest:List Tk),ts.drop a=vasK l++rest →
  ∃l',l'.map vaV=l.map vaV∧ ∀z:Rs Un,(∃F,∀f,F≤f→uniM ts f ⟨u.globals++l',u.data,u.funcs⟩ (a+(vasK l).length) 0=some z)→ ∃F,∀f,F≤f→uniM ts f u a 0=some z
 | [],_,u,a,rest,hd=>⟨[],rfl,fun z hz=>by rw[List.append_nil]at hz;exact hz⟩
 | v::l,hl,u,a,rest,hd=>by
  have e:vasK (v::l)=Ju v++vasK l:=by unfold vasK;rw[List.map_cons,List.flatten_cons]
  rw[e]at hd ⊢;rw[List.append_assoc]at hd;rw[List.length_append,←Nat.add_assoc];obtain⟨v',hv,F,hF⟩:=FC (hl v (by simp)) hd (o:=0) (by omega)
  obtain⟨l',hl',hG⟩:=FD l (fun x hx=>hl x (by simp[hx])) ⟨u.globals++[v'],u.data,u.funcs⟩ _ rest (jX hd)
  refine⟨v'::l',by rw[List.map_cons,List.map_cons,hv,hl'],fun z hz=> ?_⟩
  obtain⟨G,hG⟩:=hG z (by rw[List.append_assoc];exact hz)
  refine⟨F+G+1,fun f hf=> ?_⟩
  cases f with
  | zero=>omega
  | succ f =>
   have hd1: ∃r,ts.drop a=kwT [118,97,114]::r:=⟨_,by rw[hd];rfl⟩
   obtain⟨r,hd1⟩:=hd1;have hlt: ¬ts.length≤a:=fun h=>by rw[List.drop_eq_nil_iff.2 h]at hd1;cases hd1
   rw[uniM,if_neg hlt,if_pos (by rw[bY hd1];decide),hF f (by omega),bX]
   exact hG f (by omega)
def un0:Un:=⟨[],[],[]⟩
theorem SL{u:Un}(hu:UnOk u)(hd:ts=LD u): ∃u',unQ u'=unQ u∧ ∃F,∀f,F≤f→allM ts (uniM ts f un0 0 0)=some (.ok u' ts.length 0):=by
 have h0:ts.drop 0=vasK u.globals++((u.data.map datK).flatten++(u.funcs.map funK).flatten):=by rw[List.drop_zero,hd];rfl
 obtain⟨l',hl',hG⟩:=FD u.globals hu.globals un0 0 _ h0
 have h1:=jX h0
 have h2:=jX h1
 obtain⟨m',hm',hF⟩:=FE u.funcs hu.funcs ⟨l',u.data,[]⟩ _ h2
 have hlen:0+(vasK u.globals).length+((u.data.map datK).flatten).length+((u.funcs.map funK).flatten).length=ts.length:=by rw[hd];unfold LD;simp only[List.length_append];omega
 rw[hlen]at hF
 obtain⟨F,hF⟩:=hG _ (FF u.data hu.data ⟨[]++l',[],[]⟩ _ _ _ h1 hF)
 refine⟨⟨l',u.data,m'⟩,?_,F,fun f hf=> ?_⟩
 ·show(l'.map vaV,u.data,m'.map fnQ)=(u.globals.map vaV,u.data,u.funcs.map fnQ)
  rw[hl',hm']
 ·unfold allM
  rw[hF f hf,bX,if_neg (Nat.lt_irrefl _)];rfl
end
end Go.Proofs.YtmbmmckagcdapaaGreatDoor
namespace Go.Proofs.YtmbmmckagcdapaaGreatDoor
theorem QP{n:Int}(h:0≤n∧n<4294967296):I64 n:=⟨by omega,by omega⟩
theorem Cj{o n:Int}{s:ByteArray}{w:Int}{l:List Ex}(h0:I64 o)(h1:0≤n∧n<4294967296)(h2:I64 w)(h3:l.length≤4194304)(h4:s.size≤9223372036854775807)(h5: ∀t∈l,fitE t):fitE (.mk o n s w l):=by
 have e:fitEB (.mk o n s w l)=_:=Ex.para_mk _ o n s w l
 unfold fitE
 rw[e]
 simp only[Bool.and_eq_true,Ex.op,Ex.n,Ex.width,Ex.name,Ex.l,List.all_map,List.all_eq_true]
 exact⟨⟨⟨decide_eq_true ⟨h0,⟨h1.1,by omega⟩,h2⟩,decide_eq_true h3⟩,decide_eq_true h4⟩,h5⟩
theorem Ah{o k s c:Int}{es fs:List Ty}(h0:I64 o∧I64 k∧I64 s∧I64 c)(h1:es.length≤4194304)(h2:fs.length≤4194304)(hE: ∀t∈es,fit t)(hF: ∀t∈fs,fit t):fit (.mk o k s c es fs):=by
 have e:AE (.mk o k s c es fs)=_:=Ty.para_mk _ o k s c es fs
 unfold fit
 rw[e]
 simp only[Bool.and_eq_true,decide_eq_true_eq,Ty.elem,Ty.fields,Ty.off,Ty.kind,Ty.size,Ty.count,List.all_map,List.all_eq_true]
 exact⟨⟨⟨⟨decide_eq_true h0,decide_eq_true h1⟩,decide_eq_true h2⟩,hE⟩,hF⟩
theorem NJ{t:Ty}(h:fit t){o:Int}(ho:I64 o):fit (t.at_ o):=by
 cases t
 exact Ah ⟨ho,(Wi h).2⟩ (kM h).1 (kM h).2.1 (kM h).2.2.1 (kM h).2.2.2
theorem vM{k w:Int}{n:ByteArray}{e:List Ex}{l el:List Nd}{cs:List (List Nd)}(h0:I64 k∧I64 w)(h1:n.size≤9223372036854775807)(h2:e.length≤4194304)(h3: ∀x∈e,fitE x)(h4:fitNL l)(h5:fitNL el)(h6:cs.length≤4194304)(h7: ∀c∈cs,fitNL c):fitN (.mk k w n e l el cs):=by
 have q:Pb (.mk k w n e l el cs)=_:=Nd.para_mk _ k w n e l el cs
 unfold fitN
 rw[q]
 simp only[Bool.and_eq_true,Nd.kind,Nd.width,Nd.name,Nd.e,Nd.l,Nd.el,Nd.cs,List.all_map,List.all_eq_true]
 refine⟨⟨⟨⟨⟨⟨⟨decide_eq_true h0,decide_eq_true h1⟩,decide_eq_true ⟨h2,h4.1,h5.1,h6⟩⟩,h3⟩,fun c hc=>decide_eq_true (h7 c hc).1⟩,h4.2⟩,h5.2⟩,fun c hc=> ?_⟩
 simp only[Function.comp,List.all_map,List.all_eq_true]
 exact(h7 c hc).2
section
variable {ts:List Tk}
theorem uU(hok: ∀t∈ts,TkOk t)(a:Nat):(strA (pk ts a).text).size≤9223372036854775807:=by
 have:(pk ts a).text.length≤4194304:=by
  by_cases hl:a<ts.length
  ·exact(hok _ (List.mem_of_getElem? (Vq hl))).2
  ·rw[Ig (by omega)];decide
 show(pk ts a).text.toArray.size≤_
 rw[List.size_toArray]
 omega
theorem WZ(s:Bs):I64 (opR s).1:=by
 have key: ∀(c:Prop) [Decidable c] (x y:Int×Nat),I64 x.1→I64 y.1→I64 (if c then x else y).1:=fun c _ x y hx hy=>by by_cases h:c<;>simp[h,hx,hy]
 unfold opR
 repeat (refine key _ _ _ (by decide) ?_)
 decide
theorem WI(t:Tk):I64 (stR t).1:=by
 unfold stR
 split
 ·exact WZ _
 ·decide
theorem JX{s:Bs}{k w:Int}(h:accW s=some (k,w)):I64 k∧I64 w:=by
 unfold accW at h
 rcases aI h with ⟨_,h⟩|⟨_,h⟩
 ·cases h;decide
 rcases aI h with ⟨_,h⟩|⟨_,h⟩
 ·cases h;decide
 rcases aI h with ⟨_,h⟩|⟨_,h⟩
 ·cases h;decide
 rcases aI h with ⟨_,h⟩|⟨_,h⟩
 ·cases h;decide
 rcases aI h with ⟨_,h⟩|⟨_,h⟩
 ·cases h;decide
 ·cases h
theorem GJ{s:Bs}{k w:Int}(h:intR s=some (k,w)):I64 k∧I64 w:=by
 unfold intR at h
 rcases aI h with ⟨_,h⟩|⟨_,h⟩
 ·cases h;decide
 rcases aI h with ⟨_,h⟩|⟨_,h⟩
 ·cases h;decide
 rcases aI h with ⟨_,h⟩|⟨_,h⟩
 ·cases h;decide
 rcases aI h with ⟨_,h⟩|⟨_,h⟩
 ·cases h;decide
 rcases aI h with ⟨_,h⟩|⟨_,h⟩
 ·cases h;decide
 rcases aI h with ⟨_,h⟩|⟨_,h⟩
 ·cases h;decide
 rcases aI h with ⟨_,h⟩|⟨_,h⟩
 ·cases h;decide
 ·cases h
theorem Pc{o w:Int}{x:Ex}(ho:I64 o)(hw:I64 w)(hx:fitE x):fitE (mkU o w x) :=
 Cj ho (by decide) hw (by simp) (by decide) (fun t ht=>by simp at ht;rw[ht];exact hx)
theorem Wl(hok: ∀t∈ts,TkOk t): ∀f,(∀a o x b p,exM ts f .op a o=some (.ok x b p)→fitE x)∧(∀l a o x b p,exM ts f (.ex l) a o=some (.ok x b p)→fitE x)∧(∀l y a o x b p,fitE y→exM ts f (.lo l y) a o=some (.ok x b p)→fitE x):=by
 intro f
 induction f with
 | zero=>exact⟨(fun _ _ _ _ _ h=>by cases h),(fun _ _ _ _ _ _ h=>by cases h),(fun _ _ _ _ _ _ _ _ h=>by cases h)⟩
 | succ f ih =>
  obtain⟨i1,i2,i3⟩:=ih
  have hin: ∀q a o x b p,(∀y,fitE y→fitE (q y))→inn ts (exM ts f (.ex 1)) q a o=some (.ok x b p)→fitE x:=fun q a o x b p hq h=>by
   obtain⟨_,a1,o1,h1,h⟩:=aN h;obtain⟨y,a2,o2,h2,h⟩:=aN h;obtain⟨_,a3,o3,h3,h⟩:=aN h;cases h
   exact hq y (i2 _ _ _ _ _ _ h2)
  refine⟨fun a o x b p h=> ?_,fun l a o x b p h=> ?_,fun l y a o x b p hy h=> ?_⟩
  ·rw[exM]at h
   rcases aI h with ⟨hk,h⟩|⟨_,h⟩
   ·cases h;exact Cj (by decide) (Eg hok a) (by decide) (by simp) (by decide) (by simp)
   rcases aI h with ⟨hk,h⟩|⟨_,h⟩
   ·cases h;exact Cj (by decide) (by decide) (by decide) (by simp) (uU hok a) (by simp)
   rcases aI h with ⟨hk,h⟩|⟨_,h⟩
   ·cases hw:accW (pk ts a).text with
    | none=>rw[hw]at h;cases h
    | some p=>rw[hw]at h;exact hin _ _ _ _ _ _ (fun y hy=>Pc (JX hw).1 (JX hw).2 hy) h
   rcases aI h with ⟨hk,h⟩|⟨_,h⟩
   ·rcases aI h with ⟨_,h⟩|⟨_,h⟩
    ·exact hin _ _ _ _ _ _ (fun y hy=>hy) h
    rcases aI h with ⟨_,h⟩|⟨_,h⟩
    ·obtain⟨_,a1,o1,h1,h⟩:=aN h
     obtain⟨y,a2,o2,h2,h⟩:=aN h;cases h
     exact Pc (by split<;>decide) (by decide) (i1 _ _ _ _ _ h2)
    ·cases h
   ·cases h
  ·rw[exM]at h
   obtain⟨y,a1,o1,h1,h⟩:=aN h;exact i3 _ _ _ _ _ _ _ (i1 _ _ _ _ _ h1) h
  ·rw[exM]at h
   rcases aI h with ⟨_,h⟩|⟨_,h⟩
   ·cases h;exact hy
   ·obtain⟨z,a1,o1,h1,h⟩:=aN h
    refine i3 _ _ _ _ _ _ _ (Cj (WI _) (by decide) (by decide) (by simp) (by decide) fun t ht=> ?_) h
    simp at ht;rcases ht with rfl|rfl
    ·exact hy
    ·exact i2 _ _ _ _ _ _ h1
theorem LJ(hok: ∀t∈ts,TkOk t)(hts:ts.length≤65536): ∀f,(∀a o x b p,tyM ts f .ty a o=some (.ok x b p)→fit x)∧(∀l a o x b p,l.length≤a→a≤ts.length→(∀t∈l,fit t)→tyM ts f (.fl l) a o=some (.ok x b p)→fit x):=by
 intro f
 induction f with
 | zero=>exact⟨(fun _ _ _ _ _ h=>by cases h),(fun _ _ _ _ _ _ _ _ _ h=>by cases h)⟩
 | succ f ih =>
  obtain⟨i1,i2⟩:=ih;refine⟨fun a o x b p h=> ?_,fun l a o x b p hl ha hf h=> ?_⟩
  ·rw[tyM]at h
   rcases aI h with ⟨hk,h⟩|⟨_,h⟩
   ·cases hw:intR (pk ts a).text with
    | none=>rw[hw]at h;cases h
    | some q =>
     rw[hw]at h;cases h
     exact Ah ⟨by decide,(GJ hw).1,(GJ hw).2,by decide⟩ (by simp) (by simp) (by simp) (by simp)
   rcases aI h with ⟨hk,h⟩|⟨_,h⟩
   ·cases h;exact Ah (by decide) (by simp) (by simp) (by simp) (by simp)
   rcases aI h with ⟨hk,h⟩|⟨_,h⟩
   ·obtain⟨_,a1,o1,h1,h⟩:=aN h
    obtain⟨y,a2,o2,h2,h⟩:=aN h;cases h
    exact Ah (by decide) (by simp) (by simp) (fun t ht=>by simp at ht;rw[ht];exact i1 _ _ _ _ _ h2) (by simp)
   rcases aI h with ⟨hk,h⟩|⟨_,h⟩
   ·obtain⟨_,a1,o1,h1,h⟩:=aN h
    obtain⟨n,a2,o2,h2,h⟩:=aN h;obtain⟨_,a3,o3,h3,h⟩:=aN h;obtain⟨y,a4,o4,h4,h⟩:=aN h;obtain⟨_,rfl,_,_⟩:=hM h2;cases h
    exact Ah ⟨by decide,by decide,by decide,QP (Eg hok _)⟩ (by simp) (by simp) (fun t ht=>by simp at ht;rw[ht];exact i1 _ _ _ _ _ h4) (by simp)
   rcases aI h with ⟨hk,h⟩|⟨_,h⟩
   ·obtain⟨_,a1,o1,h1,h⟩:=aN h
    have e1:=cE h1;have:=bJ e1.1;exact i2 _ _ _ _ _ _ (Nat.zero_le _) (by omega) (by simp) h
   ·cases h
  ·rw[tyM]at h
   rcases aI h with ⟨hk,h⟩|⟨_,h⟩
   ·obtain⟨_,a1,o1,h1,h⟩:=aN h
    cases h
    exact Ah (by decide) (by simp) (by omega) (by simp) hf
   ·obtain⟨_,a1,o1,h1,h⟩:=aN h
    obtain⟨n,a2,o2,h2,h⟩:=aN h;obtain⟨_,a3,o3,h3,h⟩:=aN h;obtain⟨y,a4,o4,h4,h⟩:=aN h
    have e0:a≤a1:=by
     rcases aI h1 with ⟨_,h1⟩|⟨_,h1⟩
     ·have:=cJ h1;omega
     ·cases h1;omega
    obtain⟨_,rfl,e2,_⟩:=hM h2;have e3:=cJ h3;have e4:=(kQ ts f).1 _ _ _ _ _ h4;refine i2 _ _ _ _ _ _ (by simp;omega) (by omega) (fun t ht=> ?_) h
    rcases List.mem_append.1 ht with ht|ht
    ·exact hf t ht
    ·simp at ht;rw[ht];exact NJ (i1 _ _ _ _ _ h4) (QP (Eg hok _))
theorem fit0:fitNL []:=⟨by simp,by simp⟩
theorem OA(l:List Nd)(t:Nd):cnt (l++[t])=cnt l+cntT t:=by unfold cnt;rw[List.map_append,List.sum_append];simp
theorem vR:cnt []=0:=rfl
theorem oQ(k w:Int)(n:ByteArray)(e:List Ex):cntT (.mk k w n e [] [] [])=1:=by rw[mT];rfl
theorem mF{k w:Int}{n:ByteArray}{e:List Ex}(hk:I64 k)(hw:I64 w)(hn:n.size≤9223372036854775807)(he:e.length≤4194304)(hx: ∀x∈e,fitE x):fitN (.mk k w n e [] [] []):=vM ⟨hk,hw⟩ hn he hx fit0 fit0 (by simp) (by simp)
theorem LU(hok: ∀t∈ts,TkOk t)(hts:ts.length≤65536): ∀f,(∀a o x b p,stM ts f .st a o=some (.ok x b p)→fitN (theS x)∧cntT (theS x)+a≤b) ∧
  (∀l a o x b p,l.length≤a→(∀t∈l,fitN t)→stM ts f (.li l) a o=some (.ok x b p)→(∀t∈x.headD [],fitN t)∧(x.headD []).length≤b∧cnt (x.headD [])+a≤cnt l+b) ∧
  (∀a o x b p,stM ts f .br a o=some (.ok x b p)→fitNL (x.headD [])∧cnt (x.headD [])+a+2≤b) ∧
  (∀c a o x b p,c.length≤a→(∀l∈c,fitNL l)→stM ts f (.ca c) a o=some (.ok x b p)→(∀l∈x,fitNL l)∧x.length≤b∧(x.map cnt).sum+a≤(c.map cnt).sum+b):=by
 intro f
 induction f with
 | zero=>exact⟨(fun _ _ _ _ _ h=>by cases h),(fun _ _ _ _ _ _ _ _ h=>by cases h),(fun _ _ _ _ _ h=>by cases h),(fun _ _ _ _ _ _ _ _ h=>by cases h)⟩
 | succ f ih =>
  obtain⟨i1,i2,i3,i4⟩:=ih;have ex: ∀l a o x b p,exM ts f (.ex l) a o=some (.ok x b p)→fitE x∧a<b:=fun l a o x b p h=>⟨(Wl hok f).2.1 l a o x b p h,(Ai h).1⟩
  have one: ∀ {x:Ex},fitE x→ ∀y∈[x],fitE y:=fun hx y hy=>by simp at hy;rw[hy];exact hx
  have e0: ∀y∈([]:List Ex),fitE y:=by simp
  have z0:(ByteArray.empty).size≤9223372036854775807:=by decide
  refine⟨fun a o x b p h=> ?_,fun l a o x b p hl hf h=> ?_,fun a o x b p h=> ?_,fun c a o x b p hc hf h=> ?_⟩
  ·rw[stM]at h
   have leafN: ∀(k:Int) (a1 o1:Nat),I64 k→a≤a1→(rb (nmM ts a1 o1) fun n a o=>rb (expM ts [59] a o) fun _ a o=>ret (oneS (.mk k 0 n [] [] [] [])) a o)=some (.ok x b p)→fitN (theS x)∧cntT (theS x)+a≤b:=fun k a1 o1 hk ha h=>by
    obtain⟨n,a2,o2,h2,h⟩:=aN h;obtain⟨_,a3,o3,h3,h⟩:=aN h;have q2:=gM h2;have q3:=cJ h3;cases h
    refine⟨mF hk (by decide) (by rw[q2.1];exact uU hok _) (by simp) e0,?_⟩
    show cntT (.mk k 0 n [] [] [] [])+a≤_
    rw[oQ];omega
   have simp': ∀(k:Int) (a1 o1:Nat),I64 k→a≤a1→lT ts k a1 o1=some (.ok x b p)→fitN (theS x)∧cntT (theS x)+a≤b:=fun k a1 o1 hk ha h=>by
    obtain⟨_,a2,o2,h2,h⟩:=aN h;have q2:=cJ h2;cases h
    refine⟨mF hk (by decide) z0 (by simp) e0,?_⟩
    show cntT (.mk k 0 ByteArray.empty [] [] [] [])+a≤_
    rw[oQ];omega
   have sto: ∀(w:Int) (a1 o1:Nat),I64 w→a≤a1→lS ts f w a1 o1=some (.ok x b p)→fitN (theS x)∧cntT (theS x)+a≤b:=fun w a1 o1 hw ha h=>by
    obtain⟨_,a2,o2,h2,h⟩:=aN h;obtain⟨y,a3,o3,h3,h⟩:=aN h;obtain⟨_,a4,o4,h4,h⟩:=aN h;obtain⟨z,a5,o5,h5,h⟩:=aN h;obtain⟨_,a6,o6,h6,h⟩:=aN h;obtain⟨_,a7,o7,h7,h⟩:=aN h;have q2:=cE h2;have q3:=ex _ _ _ _ _ _ h3;have q4:=cJ h4;have q5:=ex _ _ _ _ _ _ h5;have q6:=nT h6;have q7:=cJ h7;cases h
    refine⟨mF (by decide) hw z0 (by simp) fun t ht=> ?_,?_⟩
    ·simp at ht
     rcases ht with rfl|rfl
     ·exact q3.1
     ·exact q5.1
    ·show cntT (.mk 2 w ByteArray.empty [y,z] [] [] [])+a≤_
     rw[oQ];omega
   rcases aI h with ⟨hk,h⟩|⟨_,h⟩
   ·obtain⟨n,a2,o2,h2,h⟩:=aN h
    have q2:=gM h2;have hn:n.size≤9223372036854775807:=by rw[q2.1];exact uU hok _
    rcases aI h with ⟨hk,h⟩|⟨_,h⟩
    ·cases h
     refine⟨mF (by decide) (by decide) hn (by simp) e0,?_⟩
     show cntT (.mk 13 0 n [] [] [] [])+a≤_
     rw[oQ];omega
    obtain⟨_,a3,o3,h3,h⟩:=aN h;have q3:=cJ h3;rcases aI h with ⟨hk,h⟩|⟨_,h⟩
    ·obtain⟨_,a4,o4,h4,h⟩:=aN h
     have q4:=cJ h4;cases h
     refine⟨mF (by decide) (by decide) hn (by simp) e0,?_⟩
     show cntT (.mk 3 0 n [] [] [] [])+a≤_
     rw[oQ];omega
    obtain⟨y,a4,o4,h4,h⟩:=aN h;obtain⟨_,a5,o5,h5,h⟩:=aN h;have q4:=ex _ _ _ _ _ _ h4;have q5:=cJ h5;cases h
    refine⟨mF (by decide) (by decide) hn (by simp) (one q4.1),?_⟩
    show cntT (.mk 1 0 n [y] [] [] [])+a≤_
    rw[oQ];omega
   rcases aI h with ⟨_,h⟩|⟨_,h⟩
   ·exact leafN 12 _ _ (by decide) (by omega) h
   rcases aI h with ⟨_,h⟩|⟨_,h⟩
   ·exact leafN 5 _ _ (by decide) (by omega) h
   rcases aI h with ⟨_,h⟩|⟨_,h⟩
   ·exact sto 1 _ _ (by decide) (by omega) h
   rcases aI h with ⟨_,h⟩|⟨_,h⟩
   ·exact sto 2 _ _ (by decide) (by omega) h
   rcases aI h with ⟨_,h⟩|⟨_,h⟩
   ·exact sto 4 _ _ (by decide) (by omega) h
   rcases aI h with ⟨_,h⟩|⟨_,h⟩
   ·obtain⟨y,a2,o2,h2,h⟩:=aN h
    obtain⟨_,a3,o3,h3,h⟩:=aN h;have q2:=ex _ _ _ _ _ _ h2;have q3:=cJ h3;cases h
    refine⟨mF (by decide) (by decide) z0 (by simp) (one q2.1),?_⟩
    show cntT (.mk 4 0 ByteArray.empty [y] [] [] [])+a≤_
    rw[oQ];omega
   rcases aI h with ⟨_,h⟩|⟨_,h⟩
   ·obtain⟨y,a2,o2,h2,h⟩:=aN h
    obtain⟨l,a3,o3,h3,h⟩:=aN h;have q2:=ex _ _ _ _ _ _ h2;have q3:=i3 _ _ _ _ _ h3;rcases aI h with ⟨_,h⟩|⟨_,h⟩
    ·obtain⟨e,a4,o4,h4,h⟩:=aN h
     have q4:=i3 _ _ _ _ _ h4;cases h
     refine⟨vM (by decide) z0 (by simp) (one q2.1) q3.1 q4.1 (by simp) (by simp),?_⟩
     show cntT (.mk 6 0 ByteArray.empty [y] (l.headD []) (e.headD []) [])+a≤_
     rw[mT];show 1+([cnt (l.headD []),cnt (e.headD [])]:List Nat).sum+a≤_
     simp only[List.sum_cons,List.sum_nil];omega
    ·cases h
     refine⟨vM (by decide) z0 (by simp) (one q2.1) q3.1 fit0 (by simp) (by simp),?_⟩
     show cntT (.mk 6 0 ByteArray.empty [y] (l.headD []) [] [])+a≤_
     rw[mT];show 1+([cnt (l.headD []),cnt []]:List Nat).sum+a≤_
     simp only[List.sum_cons,List.sum_nil,vR];omega
   rcases aI h with ⟨_,h⟩|⟨_,h⟩
   ·obtain⟨y,a2,o2,h2,h⟩:=aN h
    obtain⟨l,a3,o3,h3,h⟩:=aN h;have q2:=ex _ _ _ _ _ _ h2;have q3:=i3 _ _ _ _ _ h3;cases h
    refine⟨vM (by decide) z0 (by simp) (one q2.1) q3.1 fit0 (by simp) (by simp),?_⟩
    show cntT (.mk 7 0 ByteArray.empty [y] (l.headD []) [] [])+a≤_
    rw[mT];show 1+([cnt (l.headD []),cnt []]:List Nat).sum+a≤_
    simp only[List.sum_cons,List.sum_nil,vR];omega
   rcases aI h with ⟨_,h⟩|⟨_,h⟩
   ·obtain⟨l,a3,o3,h3,h⟩:=aN h
    have q3:=i3 _ _ _ _ _ h3;cases h
    refine⟨vM (by decide) z0 (by simp) e0 q3.1 fit0 (by simp) (by simp),?_⟩
    show cntT (.mk 8 0 ByteArray.empty [] (l.headD []) [] [])+a≤_
    rw[mT];show 1+([cnt (l.headD []),cnt []]:List Nat).sum+a≤_
    simp only[List.sum_cons,List.sum_nil,vR];omega
   rcases aI h with ⟨_,h⟩|⟨_,h⟩
   ·obtain⟨y,a2,o2,h2,h⟩:=aN h
    obtain⟨_,a3,o3,h3,h⟩:=aN h;obtain⟨c,a4,o4,h4,h⟩:=aN h;have q2:=ex _ _ _ _ _ _ h2;have q3:=cE h3;have q4:=i4 _ _ _ _ _ _ (Nat.zero_le _) (by simp) h4
    have q5:=(fQ ts f).2.2.2 _ _ _ _ _ _ h4;cases h
    simp only[List.map_nil,List.sum_nil]at q4;refine⟨vM (by decide) z0 (by simp) (one q2.1) fit0 fit0 (by omega) q4.1,?_⟩
    show cntT (.mk 9 0 ByteArray.empty [y] [] [] c)+a≤_
    rw[mT];show 1+(cnt []::cnt []::c.map cnt).sum+a≤_
    simp only[List.sum_cons,vR];omega
   rcases aI h with ⟨_,h⟩|⟨_,h⟩
   ·exact simp' 10 _ _ (by decide) (by omega) h
   rcases aI h with ⟨_,h⟩|⟨_,h⟩
   ·exact simp' 11 _ _ (by decide) (by omega) h
   rcases aI h with ⟨_,h⟩|⟨_,h⟩
   ·exact simp' 14 _ _ (by decide) (by omega) h
   rcases aI h with ⟨_,h⟩|⟨_,h⟩
   ·exact simp' 15 _ _ (by decide) (by omega) h
   ·cases h
  ·rw[stM]at h
   rcases aI h with ⟨_,h⟩|⟨_,h⟩
   ·cases h
    exact⟨hf,hl,by show cnt l+a≤_;omega⟩
   ·obtain⟨s,a1,o1,h1,h⟩:=aN h
    have q1:=i1 _ _ _ _ _ h1;have q2:=(fQ ts f).1 _ _ _ _ _ h1
    have q3:=i2 _ _ _ _ _ _ (by simp;omega) (fun t ht=>by
     rcases List.mem_append.1 ht with ht|ht
     ·exact hf t ht
     ·simp at ht;rw[ht];exact q1.1) h
    rw[OA]at q3;exact⟨q3.1,q3.2.1,by omega⟩
  ·rw[stM]at h
   obtain⟨_,a1,o1,h1,h⟩:=aN h;obtain⟨l,a2,o2,h2,h⟩:=aN h;obtain⟨_,a3,o3,h3,h⟩:=aN h;have q1:=cE h1;have q2:=i2 _ _ _ _ _ _ (Nat.zero_le _) (by simp) h2
   have q4:=(fQ ts f).2.1 _ _ _ _ _ _ h2;have q3:=nT h3;cases h
   rw[vR]at q2;exact⟨⟨by omega,q2.1⟩,by omega⟩
  ·rw[stM]at h
   rcases aI h with ⟨_,h⟩|⟨_,h⟩
   ·rcases aI h with ⟨_,h⟩|⟨_,h⟩
    ·obtain⟨l,a1,o1,h1,h⟩:=aN h
     have q1:=i3 _ _ _ _ _ h1
     have q3:=i4 _ _ _ _ _ _ (by simp;omega) (fun t ht=>by
      rcases List.mem_append.1 ht with ht|ht
      ·exact hf t ht
      ·rw[List.mem_singleton.1 ht];exact q1.1) h
     rw[List.map_append,List.sum_append]at q3;simp only[List.map_cons,List.map_nil,List.sum_cons,List.sum_nil]at q3;exact⟨q3.1,q3.2.1,by omega⟩
    ·cases h
   ·obtain⟨_,a1,o1,h1,h⟩:=aN h
    have q1:=nT h1;cases h
    exact⟨hf,by omega,by omega⟩
theorem Mv(hok: ∀t∈ts,TkOk t)(hts:ts.length≤65536){f a o:Nat}{v:Va}{b p:Nat}(h:wN ts f a o=some (.ok v b p)):fit v.ty∧v.name.size≤9223372036854775807:=by
 obtain⟨_,a1,o1,h1,h⟩:=aN h
 obtain⟨n,a2,o2,h2,h⟩:=aN h
 obtain⟨_,a3,o3,h3,h⟩:=aN h
 obtain⟨t,a4,o4,h4,h⟩:=aN h
 obtain⟨_,a5,o5,h5,h⟩:=aN h
 have e2:=gM h2
 cases h
 exact⟨(LJ hok hts f).1 _ _ _ _ _ h4,by show n.size≤_;rw[e2.1];exact uU hok _⟩
theorem CO(hok: ∀t∈ts,TkOk t)(hts:ts.length≤65536): ∀(f:Nat) {l:List Va} {a o:Nat} {v:List Va} {b p:Nat},l.length≤a→yI l→vasM ts f l a o=some (.ok v b p)→yI v∧v.length≤b:=by
 intro f
 induction f with
 | zero=>intro l a o v b p _ _ h;cases h
 | succ f ih =>
  intro l a o v b p hl hf h;rw[vasM]at h;rcases aI h with ⟨hk,h⟩|⟨hk,h⟩
  ·obtain⟨x,a1,o1,h1,h⟩:=aN h
   have e1:=lQ h1;refine ih (by simp;omega) (fun y hy=> ?_) h
   rcases List.mem_append.1 hy with hy|hy
   ·exact hf y hy
   ·simp at hy;rw[hy];exact Mv hok hts h1
  ·cases h;exact⟨hf,hl⟩
theorem GT(hok: ∀t∈ts,TkOk t)(hts:ts.length≤65536){f a o:Nat}{v:Fun}{b p:Nat}(h:funM ts f a o=some (.ok v b p)):fitFn v:=by
 obtain⟨_,a1,o1,h1,h⟩:=aN h
 obtain⟨n,a2,o2,h2,h⟩:=aN h
 obtain⟨_,a3,o3,h3,h⟩:=aN h
 obtain⟨l,a4,o4,h4,h⟩:=aN h
 obtain⟨s,a5,o5,h5,h⟩:=aN h
 obtain⟨_,a6,o6,h6,h⟩:=aN h
 have e2:=gM h2
 have e4:=CO hok hts f (Nat.zero_le _) (by intro y hy;cases hy) h4
 have e5:=(LU hok hts f).2.1 _ _ _ _ _ _ (Nat.zero_le _) (by simp) h5
 have e6:=(fQ ts f).2.1 _ _ _ _ _ _ h5
 rw[vR]at e5
 cases h
 exact⟨by show l.length≤_;omega,e4.1,⟨by show(s.headD []).length≤_;omega,e5.1⟩,by show cnt (s.headD [])≤_;omega,by show n.size≤_;rw[e2.1];exact uU hok _⟩
theorem HW(hok: ∀t∈ts,TkOk t){a o:Nat}{v:Sec}{b p:Nat}(h:By ts a o=some (.ok v b p)):v.name.size≤9223372036854775807:=by
 obtain⟨_,a1,o1,h1,h⟩:=aN h
 obtain⟨n,a2,o2,h2,h⟩:=aN h
 obtain⟨_,a3,o3,h3,h⟩:=aN h
 obtain⟨_,a4,o4,h4,h⟩:=aN h
 obtain⟨_,a5,o5,h5,h⟩:=aN h
 obtain⟨_,a6,o6,h6,h⟩:=aN h
 obtain⟨_,a7,o7,h7,h⟩:=aN h
 obtain⟨_,a8,o8,h8,h⟩:=aN h
 have e2:=gM h2
 cases h
 show n.size≤_
 rw[e2.1]
 exact uU hok _
theorem CR(hok: ∀t∈ts,TkOk t)(hts:ts.length≤65536): ∀(f:Nat) {u:Un} {a o:Nat} {v:Un} {b p:Nat},a≤ts.length→u.globals.length≤a→u.data.length≤a→u.funcs.length≤a→fitU u→uniM ts f u a o=some (.ok v b p)→fitU v:=by
 intro f
 induction f with
 | zero=>intro u a o v b p _ _ _ _ _ h;cases h
 | succ f ih =>
  intro u a o v b p ha hg hd hn hf h;rw[uniM]at h;rcases aI h with ⟨hk,h⟩|⟨hk,h⟩
  ·cases h;exact hf
  rcases aI h with ⟨hk,h⟩|⟨hk,h⟩
  ·obtain⟨x,a1,o1,h1,h⟩:=aN h
   have e1:=lQ h1;refine ih (u:=⟨u.globals++[x],u.data,u.funcs⟩) (a:=a1) (by omega) (by simp;omega) (by show u.data.length≤a1;omega) (by show u.funcs.length≤a1;omega) ⟨by simp;omega,fun y hy=> ?_,hf.dl,hf.dn,hf.fl,hf.fn⟩ h
   rcases List.mem_append.1 hy with hy|hy
   ·exact hf.gn y hy
   ·simp at hy;rw[hy];exact Mv hok hts h1
  rcases aI h with ⟨hk,h⟩|⟨hk,h⟩
  ·obtain⟨x,a1,o1,h1,h⟩:=aN h
   have e1:=yL h1;refine ih (u:=⟨u.globals,u.data++[x],u.funcs⟩) (a:=a1) (by omega) (by show u.globals.length≤a1;omega) (by simp;omega) (by show u.funcs.length≤a1;omega) ⟨hf.gl,hf.gn,by simp;omega,fun y hy=> ?_,hf.fl,hf.fn⟩ h
   rcases List.mem_append.1 hy with hy|hy
   ·exact hf.dn y hy
   ·simp at hy;rw[hy];exact HW hok h1
  rcases aI h with ⟨hk,h⟩|⟨hk,h⟩
  ·obtain⟨x,a1,o1,h1,h⟩:=aN h
   have e1:=yG h1;refine ih (u:=⟨u.globals,u.data,u.funcs++[x]⟩) (a:=a1) (by omega) (by show u.globals.length≤a1;omega) (by show u.data.length≤a1;omega) (by simp;omega) ⟨hf.gl,hf.gn,hf.dl,hf.dn,by simp;omega,fun y hy=> ?_⟩ h
   rcases List.mem_append.1 hy with hy|hy
   ·exact hf.fn y hy
   ·simp at hy;rw[hy];exact GT hok hts h1
  ·cases h
theorem Hp(hok: ∀t∈ts,TkOk t)(hts:ts.length≤65536){f:Nat}{v:Un}{b p:Nat}(h:uniM ts f ⟨[],[],[]⟩ 0 0=some (.ok v b p)):fitU v :=
 CR hok hts f (Nat.zero_le _) (Nat.le_refl _) (Nat.le_refl _) (Nat.le_refl _) ⟨by simp,(by intro y hy;cases hy),by simp,(by intro y hy;cases hy),by simp,by simp⟩ h
def Er{α:Type}(n:Nat)(r:Option (Rs α)):Prop:= ∀b e,r=some (.bad b e)→(e=3∨e=20)∧b≤n
theorem Er.rb{α β:Type}{n:Nat}{r:Option (Rs α)}{k:α→Nat→Nat→Option (Rs β)}(h:Er n r)(hk: ∀x a o,r=some (.ok x a o)→Er n (k x a o)):Er n (rb r k):=fun b e q=>by
 rcases SP q with q|⟨x,a,o,h1,q⟩
 ·exact h b e q
 ·exact hk x a o h1 b e q
theorem Er.ite{α:Type}{n:Nat}{c:Prop}[Decidable c]{x y:Option (Rs α)}(hx:c→Er n x)(hy: ¬c→Er n y):Er n (if c then x else y):=by
 by_cases h:c
 ·rw[if_pos h];exact hx h
 ·rw[if_neg h];exact hy h
theorem Er.ret{α:Type}{n:Nat}(x:α)(a o:Nat):Er n (ret x a o):=fun b e q=>by cases q
theorem tG{α:Type}{n a:Nat}(h:a≤n):Er (α:=α) n (some (.bad a 3)):=fun b e q=>by cases q;exact⟨.inl rfl,h⟩
theorem Er.beg{n:Nat}(s:Bs){a:Nat}(o:Nat)(h:a≤n):Er n (begM ts s a o):=fun b e q=>by
 unfold begM at q
 rcases aI (Option.some.inj q)with ⟨_,q⟩|⟨_,q⟩
 ·cases q;exact⟨.inl rfl,h⟩
 rcases aI q with ⟨_,q⟩|⟨_,q⟩
 ·cases q;exact⟨.inr rfl,h⟩
 ·cases q
theorem Er.exp{n:Nat}(s:Bs){a:Nat}(o:Nat)(h:a≤n):Er n (expM ts s a o):=fun b e q=>by
 unfold expM at q
 rcases aI (Option.some.inj q)with ⟨_,q⟩|⟨_,q⟩
 ·cases q;exact⟨.inl rfl,h⟩
 ·cases q
theorem Er.en{n:Nat}(s:Bs){a:Nat}(o:Nat)(h:a≤n):Er n (endM ts s a o):=fun b e q=>by
 unfold endM at q
 rcases aI (Option.some.inj q)with ⟨_,q⟩|⟨_,q⟩
 ·cases q;exact⟨.inl rfl,h⟩
 ·cases q
theorem Er.tak{n:Nat}(k:Int){a:Nat}(o:Nat)(h:a≤n):Er n (takM ts k a o):=fun b e q=>by
 unfold takM at q
 rcases aI (Option.some.inj q)with ⟨_,q⟩|⟨_,q⟩
 ·cases q;exact⟨.inl rfl,h⟩
 ·cases q
theorem Er.nm{n:Nat}{a:Nat}(o:Nat)(h:a≤n):Er n (nmM ts a o):=Er.rb (Er.tak _ _ h) fun _ _ _ _=>Er.ret _ _ _
theorem Tb: ∀f,(∀a o x b p,exM ts f .op a o=some (.ok x b p)→b≤ts.length)∧(∀l a o x b p,exM ts f (.ex l) a o=some (.ok x b p)→b≤ts.length)∧(∀l y a o x b p,a≤ts.length→exM ts f (.lo l y) a o=some (.ok x b p)→b≤ts.length):=by
 intro f
 induction f with
 | zero=>exact⟨(fun _ _ _ _ _ h=>by cases h),(fun _ _ _ _ _ _ h=>by cases h),(fun _ _ _ _ _ _ _ _ h=>by cases h)⟩
 | succ f ih =>
  obtain⟨i1,i2,i3⟩:=ih
  have hin: ∀q a o x b p,inn ts (exM ts f (.ex 1)) q a o=some (.ok x b p)→b≤ts.length:=fun q a o x b p h=>by
   obtain⟨_,a1,o1,h1,h⟩:=aN h;obtain⟨y,a2,o2,h2,h⟩:=aN h;obtain⟨_,a3,o3,h3,h⟩:=aN h;have e3:=uE h3;cases h
   omega
  refine⟨fun a o x b p h=> ?_,fun l a o x b p h=> ?_,fun l y a o x b p ha h=> ?_⟩
  ·rw[exM]at h
   rcases aI h with ⟨hk,h⟩|⟨_,h⟩
   ·have:=eE hk (by decide)
    cases h;omega
   rcases aI h with ⟨hk,h⟩|⟨_,h⟩
   ·have:=eE hk (by decide)
    cases h;omega
   rcases aI h with ⟨hk,h⟩|⟨_,h⟩
   ·cases hw:accW (pk ts a).text with
    | none=>rw[hw]at h;cases h
    | some p=>rw[hw]at h;exact hin _ _ _ _ _ _ h
   rcases aI h with ⟨hk,h⟩|⟨_,h⟩
   ·rcases aI h with ⟨_,h⟩|⟨_,h⟩
    ·exact hin _ _ _ _ _ _ h
    rcases aI h with ⟨_,h⟩|⟨_,h⟩
    ·obtain⟨_,a1,o1,h1,h⟩:=aN h
     obtain⟨y,a2,o2,h2,h⟩:=aN h;have:=i1 _ _ _ _ _ h2;cases h
     exact this
    ·cases h
   ·cases h
  ·rw[exM]at h
   obtain⟨y,a1,o1,h1,h⟩:=aN h;exact i3 _ _ _ _ _ _ _ (i1 _ _ _ _ _ h1) h
  ·rw[exM]at h
   rcases aI h with ⟨_,h⟩|⟨_,h⟩
   ·cases h;exact ha
   ·obtain⟨z,a1,o1,h1,h⟩:=aN h
    exact i3 _ _ _ _ _ _ _ (i2 _ _ _ _ _ _ h1) h
theorem HF: ∀f,(∀a o,a≤ts.length→Er ts.length (exM ts f .op a o))∧(∀l a o,a≤ts.length→Er ts.length (exM ts f (.ex l) a o))∧(∀l x a o,a≤ts.length→Er ts.length (exM ts f (.lo l x) a o)):=by
 intro f
 induction f with
 | zero=>exact⟨(fun _ _ _ _ _ h=>by cases h),(fun _ _ _ _ _ _ h=>by cases h),(fun _ _ _ _ _ _ _ h=>by cases h)⟩
 | succ f ih =>
  obtain⟨i1,i2,i3⟩:=ih;obtain⟨l1,l2,l3⟩:=Tb (ts:=ts) f
  have hin: ∀q a o,a≤ts.length→Er ts.length (inn ts (exM ts f (.ex 1)) q a o):=fun q a o ha=>by
   refine Er.rb (Er.beg _ _ ha) fun _ a1 o1 h1=>Er.rb ?_ fun _ a2 o2 h2=>Er.rb (Er.en _ _ (l2 _ _ _ _ _ _ h2)) fun _ _ _ _=>Er.ret _ _ _
   have e1:=cE h1;have:=bJ e1.1;exact i2 _ _ _ (by omega)
  refine⟨fun a o ha=> ?_,fun l a o ha=> ?_,fun l x a o ha=> ?_⟩
  ·rw[exM]
   refine Er.ite (fun _=>Er.ret _ _ _) fun _=>Er.ite (fun _=>Er.ret _ _ _) fun _=>Er.ite (fun hk=> ?_) fun _=>Er.ite (fun hk=> ?_) fun _=>tG ha
   ·have hl:=eE hk (by decide)
    cases accW (pk ts a).text with
    | none=>exact tG ha
    | some p=>exact hin _ _ _ (by omega)
   ·refine Er.ite (fun _=>hin _ _ _ ha) fun _=>Er.ite (fun _=> ?_) fun _=>tG ha
    refine Er.rb (Er.beg _ _ ha) fun _ a1 o1 h1=>Er.rb ?_ fun _ _ _ _=>Er.ret _ _ _
    have e1:=cE h1;have:=bJ e1.1;exact i1 _ _ (by omega)
  ·rw[exM]
   exact Er.rb (i1 _ _ ha) fun x b p h1=>i3 _ _ _ _ (l1 _ _ _ _ _ h1)
  ·rw[exM]
   refine Er.ite (fun _=>Er.ret _ _ _) fun hk=> ?_
   have hl:=EC (ts:=ts) (a:=a) (fun e=>hk (.inl e))
   exact Er.rb (i2 _ _ _ (by omega)) fun y b p h1=>i3 _ _ _ _ (l2 _ _ _ _ _ _ h1)
theorem RE: ∀f,(∀a o,a≤ts.length→Er ts.length (tyM ts f .ty a o))∧(∀l a o,a≤ts.length→Er ts.length (tyM ts f (.fl l) a o)):=by
 intro f
 induction f with
 | zero=>exact⟨(fun _ _ _ _ _ h=>by cases h),(fun _ _ _ _ _ _ h=>by cases h)⟩
 | succ f ih =>
  obtain⟨i1,i2⟩:=ih;obtain⟨l1,l2⟩:=kQ ts f;refine⟨fun a o ha=> ?_,fun l a o ha=> ?_⟩
  ·rw[tyM]
   refine Er.ite (fun _=> ?_) fun _=>Er.ite (fun _=>Er.ret _ _ _) fun _=>Er.ite (fun hk=> ?_) fun _=>Er.ite (fun hk=> ?_) fun _=>Er.ite (fun hk=> ?_) fun _=>tG ha
   ·cases intR (pk ts a).text with
    | none=>exact tG ha
    | some p=>exact Er.ret _ _ _
   ·have hl:=bJ hk
    refine Er.rb (Er.beg _ _ ha) fun _ a1 o1 h1=>Er.rb (i1 _ _ ?_) fun _ _ _ _=>Er.ret _ _ _
    have:=cE h1;omega
   ·have hl:=bJ hk
    refine Er.rb (Er.beg _ _ ha) fun _ a1 o1 h1=> ?_
    have e1:=cE h1;refine Er.rb (Er.tak _ _ (by omega)) fun _ a2 o2 h2=> ?_
    have e2:=hM h2;have e4:=eE e2.1 (by decide)
    refine Er.rb (Er.exp _ _ (by omega)) fun _ a3 o3 h3=> ?_
    have e3:=fG h3;exact Er.rb (i1 _ _ (by omega)) fun _ _ _ _=>Er.ret _ _ _
   ·have hl:=bJ hk
    refine Er.rb (Er.beg _ _ ha) fun _ a1 o1 h1=>i2 _ _ _ ?_
    have:=cE h1;omega
  ·rw[tyM]
   refine Er.ite (fun _=>Er.rb (Er.en _ _ ha) fun _ _ _ _=>Er.ret _ _ _) fun _=>Er.rb (Er.ite (fun _=>Er.exp _ _ ha) fun _=>Er.ret _ _ _) fun _ a1 o1 h1=> ?_
   have e1:a1≤ts.length:=by
    rcases aI h1 with ⟨_,h1⟩|⟨_,h1⟩
    ·have:=fG h1;omega
    ·cases h1;exact ha
   refine Er.rb (Er.tak _ _ e1) fun _ a2 o2 h2=> ?_
   have e2:=hM h2;have e4:=eE e2.1 (by decide)
   refine Er.rb (Er.exp _ _ (by omega)) fun _ a3 o3 h3=> ?_
   have e3:=fG h3;exact Er.rb (i1 _ _ (by omega)) fun _ a5 o5 h5=>i2 _ _ _ (l1 _ _ _ _ _ h5).2.2
theorem RP: ∀f,(∀a o,a≤ts.length→Er ts.length (stM ts f .st a o))∧(∀l a o,a≤ts.length→Er ts.length (stM ts f (.li l) a o))∧(∀a o,a≤ts.length→Er ts.length (stM ts f .br a o))∧(∀c a o,a≤ts.length→Er ts.length (stM ts f (.ca c) a o)):=by
 intro f
 induction f with
 | zero=>exact⟨(fun _ _ _ _ _ h=>by cases h),(fun _ _ _ _ _ _ h=>by cases h),(fun _ _ _ _ _ h=>by cases h),(fun _ _ _ _ _ _ h=>by cases h)⟩
 | succ f ih =>
  obtain⟨i1,i2,i3,i4⟩:=ih;obtain⟨l1,l2,l3,l4⟩:=fQ ts f;have ex: ∀l a o,a≤ts.length→Er ts.length (exM ts f (.ex l) a o):=(HF f).2.1
  have exl: ∀ {l a o x b p},exM ts f (.ex l) a o=some (.ok x b p)→b≤ts.length:=fun h=>(Tb f).2.1 _ _ _ _ _ _ h
  refine⟨fun a o ha=> ?_,fun l a o ha=> ?_,fun a o ha=> ?_,fun c a o ha=> ?_⟩
  ·rw[stM]
   have sim: ∀k a o,a≤ts.length→Er ts.length (lT ts k a o):=fun k a o ha=>Er.rb (Er.exp _ _ ha) fun _ _ _ _=>Er.ret _ _ _
   have sto: ∀w a o,a≤ts.length→Er ts.length (lS ts f w a o):=fun w a o ha=>by
    refine Er.rb (Er.beg _ _ ha) fun _ a1 o1 h1=> ?_
    have e1:=cE h1;have:=bJ e1.1;refine Er.rb (ex _ _ _ (by omega)) fun _ a2 o2 h2=>Er.rb (Er.exp _ _ (exl h2)) fun _ a3 o3 h3=> ?_
    have e3:=fG h3;refine Er.rb (ex _ _ _ (by omega)) fun _ a4 o4 h4=>Er.rb (Er.en _ _ (exl h4)) fun _ a5 o5 h5=> ?_
    have e5:=uE h5;exact Er.rb (Er.exp _ _ (by omega)) fun _ _ _ _=>Er.ret _ _ _
   have nam: ∀k a o,a≤ts.length→Er ts.length (rb (nmM ts a o) fun n a o=>rb (expM ts [59] a o) fun _ a o=>ret (oneS (.mk k 0 n [] [] [] [])) a o):=fun k a o ha=>by
    refine Er.rb (Er.nm _ ha) fun _ a1 o1 h1=> ?_
    have e1:=gM h1;exact Er.rb (Er.exp _ _ (by omega)) fun _ _ _ _=>Er.ret _ _ _
   refine Er.ite (fun hk=> ?_) fun _=>Er.ite (fun hk=>nam _ _ _ (by have:=bJ hk;omega)) fun _=>Er.ite (fun hk=>nam _ _ _ (by have:=bJ hk;omega)) fun _ =>
    Er.ite (fun hk=>sto _ _ _ (by have:=bJ hk;omega)) fun _=>Er.ite (fun hk=>sto _ _ _ (by have:=bJ hk;omega)) fun _=>Er.ite (fun hk=>sto _ _ _ (by have:=bJ hk;omega)) fun _=>Er.ite (fun hk=> ?_) fun _=>Er.ite (fun hk=> ?_) fun _=>Er.ite (fun hk=> ?_) fun _=>Er.ite (fun hk=> ?_) fun _=>Er.ite (fun hk=> ?_) fun _ =>
    Er.ite (fun hk=>sim _ _ _ (by have:=bJ hk;omega)) fun _=>Er.ite (fun hk=>sim _ _ _ (by have:=bJ hk;omega)) fun _=>Er.ite (fun hk=>sim _ _ _ (by have:=bJ hk;omega)) fun _=>Er.ite (fun hk=>sim _ _ _ (by have:=bJ hk;omega)) fun _=>tG ha
   ·have hl:=eE hk (by decide)
    refine Er.rb (Er.nm _ ha) fun _ a1 o1 h1=> ?_
    have e1:=gM h1;refine Er.ite (fun _=>Er.ret _ _ _) fun _=>Er.rb (Er.exp _ _ (by omega)) fun _ a2 o2 h2=> ?_
    have e2:=fG h2;refine Er.ite (fun hk=>Er.rb (Er.exp _ _ (by have:=bJ hk;omega)) fun _ _ _ _=>Er.ret _ _ _) fun _=> ?_
    exact Er.rb (ex _ _ _ (by omega)) fun _ _ _ h3=>Er.rb (Er.exp _ _ (exl h3)) fun _ _ _ _=>Er.ret _ _ _
   ·have hl:=bJ hk
    exact Er.rb (ex _ _ _ (by omega)) fun _ _ _ h3=>Er.rb (Er.exp _ _ (exl h3)) fun _ _ _ _=>Er.ret _ _ _
   ·have hl:=bJ hk
    refine Er.rb (ex _ _ _ (by omega)) fun _ a1 o1 h1=>Er.rb (i3 _ _ (exl h1)) fun _ a2 o2 h2=>Er.ite (fun hk=> ?_) fun _=>Er.ret _ _ _
    have:=bJ hk;exact Er.rb (i3 _ _ (by omega)) fun _ _ _ _=>Er.ret _ _ _
   ·have hl:=bJ hk
    exact Er.rb (ex _ _ _ (by omega)) fun _ a1 o1 h1=>Er.rb (i3 _ _ (exl h1)) fun _ a2 o2 h2=>Er.ret _ _ _
   ·have hl:=bJ hk
    exact Er.rb (i3 _ _ (by omega)) fun _ a2 o2 h2=>Er.ret _ _ _
   ·have hl:=bJ hk
    refine Er.rb (ex _ _ _ (by omega)) fun _ a1 o1 h1=>Er.rb (Er.beg _ _ (exl h1)) fun _ a2 o2 h2=> ?_
    have e2:=cE h2;have:=bJ e2.1;exact Er.rb (i4 _ _ _ (by omega)) fun _ _ _ _=>Er.ret _ _ _
  ·rw[stM]
   exact Er.ite (fun _=>Er.ret _ _ _) fun _=>Er.rb (i1 _ _ ha) fun _ a1 o1 h1=>i2 _ _ _ (l1 _ _ _ _ _ h1).2.2
  ·rw[stM]
   refine Er.rb (Er.beg _ _ ha) fun _ a1 o1 h1=> ?_
   have e1:=cE h1;have:=bJ e1.1;refine Er.rb (i2 _ _ _ (by omega)) fun _ a2 o2 h2=> ?_
   have e2:=l2 _ _ _ _ _ _ h2;exact Er.rb (Er.en _ _ (by omega)) fun _ _ _ _=>Er.ret _ _ _
  ·rw[stM]
   refine Er.ite (fun hk=>Er.ite (fun hn=> ?_) fun _=>tG (by have:=bJ hk;omega)) fun _=>Er.rb (Er.en _ _ ha) fun _ _ _ _=>Er.ret _ _ _
   have hl:=bJ hk;have hl2:=eE hn.1 (by decide)
   exact Er.rb (i3 _ _ (by omega)) fun _ a1 o1 h1=>i4 _ _ _ (l3 _ _ _ _ _ h1).2.2
theorem Er.acc{n:Nat}(s:Bs)(a o:Nat):Er n (accM ts s a o):=Er.ite (fun _=>Er.ret _ _ _) fun _=>Er.ret _ _ _
theorem JW{s:Bs}{a o:Nat}{w:Bool}{b p:Nat}(h:accM ts s a o=some (.ok w b p))(ha:a≤ts.length):b≤ts.length:=by
 rcases aI h with ⟨hk,h⟩|⟨_,h⟩
 ·have:=bJ hk
  cases h;omega
 ·cases h;exact ha
theorem Ve{f a o:Nat}(ha:a≤ts.length):Er ts.length (wN ts f a o):=by
 refine Er.rb (Er.exp _ _ ha) fun _ a1 o1 h1=> ?_
 have e1:=fG h1
 refine Er.rb (Er.nm _ (by omega)) fun _ a2 o2 h2=> ?_
 have e2:=gM h2
 refine Er.rb (Er.exp _ _ (by omega)) fun _ a3 o3 h3=> ?_
 have e3:=fG h3
 exact Er.rb ((RE f).1 _ _ (by omega)) fun _ a4 o4 h4=>Er.rb (Er.exp _ _ ((kQ ts f).1 _ _ _ _ _ h4).2.2) fun _ _ _ _=>Er.ret _ _ _
theorem NY{a o:Nat}(ha:a≤ts.length):Er ts.length (By ts a o):=by
 refine Er.rb (Er.exp _ _ ha) fun _ a1 o1 h1=> ?_
 have e1:=fG h1
 refine Er.rb (Er.nm _ (by omega)) fun _ a2 o2 h2=> ?_
 have e2:=gM h2
 refine Er.rb (Er.tak _ _ (by omega)) fun _ a3 o3 h3=> ?_
 have e3:=hM h3
 have q3:=eE e3.1 (by decide)
 refine Er.rb (Er.acc _ _ _) fun _ a4 o4 h4=>Er.rb (Er.acc _ _ _) fun _ a5 o5 h5=> ?_
 have e5:=JW h5 (JW h4 (by omega))
 refine Er.rb (Er.exp _ _ e5) fun _ a6 o6 h6=> ?_
 have e6:=fG h6
 refine Er.rb (Er.tak _ _ (by omega)) fun _ a7 o7 h7=> ?_
 have e7:=hM h7
 have q7:=eE e7.1 (by decide)
 exact Er.rb (Er.exp _ _ (by omega)) fun _ _ _ _=>Er.ret _ _ _
theorem KY: ∀(f:Nat) (l:List Va) (a o:Nat),a≤ts.length→Er ts.length (vasM ts f l a o):=by
 intro f
 induction f with
 | zero=>intro l a o _ b e h;cases h
 | succ f ih =>
  intro l a o ha;rw[vasM];exact Er.ite (fun hk=>Er.rb (Ve ha) fun _ a1 o1 h1=>ih _ _ _ (lQ h1).2.2) fun _=>Er.ret _ _ _
theorem KX: ∀(f:Nat) {l:List Va} {a o:Nat} {v:List Va} {b p:Nat},a≤ts.length→vasM ts f l a o=some (.ok v b p)→b≤ts.length:=by
 intro f
 induction f with
 | zero=>intro l a o v b p _ h;cases h
 | succ f ih =>
  intro l a o v b p ha h;rw[vasM]at h;rcases aI h with ⟨hk,h⟩|⟨hk,h⟩
  ·obtain⟨_,a1,o1,h1,h⟩:=aN h
   exact ih (lQ h1).2.2 h
  ·cases h;exact ha
theorem NE{f a o:Nat}(ha:a≤ts.length):Er ts.length (funM ts f a o):=by
 refine Er.rb (Er.exp _ _ ha) fun _ a1 o1 h1=> ?_
 have e1:=fG h1
 refine Er.rb (Er.nm _ (by omega)) fun _ a2 o2 h2=> ?_
 have e2:=gM h2
 refine Er.rb (Er.beg _ _ (by omega)) fun _ a3 o3 h3=> ?_
 have e3:=cE h3
 have q3:=bJ e3.1
 refine Er.rb (KY _ _ _ _ (by omega)) fun _ a4 o4 h4=> ?_
 have e4:=KX f (by omega) h4
 refine Er.rb ((RP f).2.1 _ _ _ e4) fun _ a5 o5 h5=> ?_
 have e5:=(fQ ts f).2.1 _ _ _ _ _ _ h5
 exact Er.rb (Er.en _ _ (by omega)) fun _ _ _ _=>Er.ret _ _ _
theorem LC: ∀(f:Nat) (u:Un) (a o:Nat),a≤ts.length→Er ts.length (uniM ts f u a o):=by
 intro f
 induction f with
 | zero=>intro u a o _ b e h;cases h
 | succ f ih =>
  intro u a o ha;rw[uniM]
  exact Er.ite (fun _=>Er.ret _ _ _) fun _=>Er.ite (fun hk=>Er.rb (Ve ha) fun _ a1 o1 h1=>ih _ _ _ (lQ h1).2.2) fun _=>Er.ite (fun hk=>Er.rb (NY ha) fun _ a1 o1 h1=>ih _ _ _ (yL h1).2.2) fun _ =>
   Er.ite (fun hk=>Er.rb (NE ha) fun _ a1 o1 h1=>ih _ _ _ (yG h1).2.2) fun _=>tG ha
theorem Er.all{α:Type}{r:Option (Rs α)}(h:Er ts.length r)(hl: ∀x a o,r=some (.ok x a o)→a≤ts.length):Er ts.length (allM ts r):=Er.rb h fun x a o h1=>Er.ite (fun _=>tG (hl x a o h1)) fun _=>Er.ret _ _ _
end
end Go.Proofs.YtmbmmckagcdapaaGreatDoor
namespace Go.Proofs.YtmbmmckagcdapaaGreatDoor
def fu(ts:List Tk):Nat:=3*ts.length+10
def rdX{α:Type}(ts:List Tk)(z:α)(r:Option (Rs α)):α×Int×Nat:=match allM ts r with
 | some (.ok x _ _)=>(x,0,0)
 | some (.bad b e)=>(z,e,b)
 | none=>(z,0,0)
def ex0:Ex:= .mk 0 0 ByteArray.empty 0 []
def uz0:Un:=⟨[],[],[]⟩
def exR(ts:List Tk):Ex×Int×Nat:=rdX ts ex0 (exM ts (fu ts) (.ex 1) 0 0)
def unR(ts:List Tk):Un×Int×Nat:=rdX ts uz0 (uniM ts (fu ts) uz0 0 0)
def AF(s:Bs):Ex×Int:=if(scnR s).2≠0 then(ex0,(scnR s).2)else if(exR (scnR s).1).2.1≠0 then(ex0,(exR (scnR s).1).2.1)else if esh (exR (scnR s).1).1 64=true then((exR (scnR s).1).1,0)else(ex0,20)
def zI(s:Bs):Un×Int:=if(scnR s).2≠0 then(uz0,(scnR s).2)else if(unR (scnR s).1).2.1≠0 then(uz0,(unR (scnR s).1).2.1)else if unE (unR (scnR s).1).1≠0 then(uz0,unE (unR (scnR s).1).1)else((unR (scnR s).1).1,0)
def HT(s:Bs):(Int×Int)×Int:=if(scnR s).2=3 then(Kl (scnR s).1 ((scnR s).1.length-1),3)else if(scnR s).2≠0 then((0,0),(scnR s).2)
 else if(unR (scnR s).1).2.1≠0 then(Kl (scnR s).1 (unR (scnR s).1).2.2,(unR (scnR s).1).2.1)else((0,0),unE (unR (scnR s).1).1)
theorem Kh(s:Bs):(∀t∈(scnR s).1,TkOk t)∧(scnR s).1.length≤65536∧((scnR s).2=0∨(scnR s).2=3∨(scnR s).2=6):=by
 unfold scnR
 by_cases h:65536<s.length
 ·rw[if_pos h];exact⟨by simp,by simp,.inr (.inr rfl)⟩
 ·rw[if_neg h,Ib]
  refine⟨MA (by omega),by have:=EP s;show(scan s).1.length≤_;omega,?_⟩
  show(if(scan s).2 then(0:Int)else 3)=0∨(if(scan s).2 then(0:Int)else 3)=3∨_
  cases (scan s).2
  ·exact .inr (.inl rfl)
  ·exact .inl rfl
theorem Id{α:Type}{ts:List Tk}{z:α}{r:Option (Rs α)}(hs:Sm r)(he:Er ts.length r)(hl: ∀x a o,r=some (.ok x a o)→a≤ts.length) :
  (∃b e,allM ts r=some (.bad b e)∧rdX ts z r=(z,e,b)∧(e=3∨e=20)∧b≤ts.length)∨ ∃x b p,allM ts r=some (.ok x b p)∧rdX ts z r=(x,0,0)∧r=some (.ok x b p):=by
 obtain⟨q,hq⟩:=Sm.all (ts:=ts) hs
 cases q with
 | bad b e =>
  obtain⟨h1,h2⟩:=Er.all he hl b e hq;exact .inl ⟨b,e,hq,by unfold rdX;rw[hq],h1,h2⟩
 | ok x b p =>
  refine .inr ⟨x,b,p,hq,by unfold rdX;rw[hq],?_⟩
  obtain⟨y,a,o,h1,h2⟩:=aN hq;rcases aI h2 with ⟨_,h2⟩|⟨_,h2⟩
  ·cases h2
  ·cases h2;exact h1
theorem AG(ts:List Tk):(∃b e,allM ts (exM ts (fu ts) (.ex 1) 0 0)=some (.bad b e)∧exR ts=(ex0,e,b)∧(e=3∨e=20)∧b≤ts.length)∨ ∃x b p,allM ts (exM ts (fu ts) (.ex 1) 0 0)=some (.ok x b p)∧exR ts=(x,0,0)∧exM ts (fu ts) (.ex 1) 0 0=some (.ok x b p) :=
 Id ((Pe ts _).2.1 _ _ _ (by unfold fu;omega)) ((HF _).2.1 _ _ _ (Nat.zero_le _)) fun x a o h=>(Tb _).2.1 _ _ _ _ _ _ h
theorem LB{ts:List Tk}: ∀(f:Nat) {u:Un} {a o:Nat} {v:Un} {b p:Nat},a≤ts.length→uniM ts f u a o=some (.ok v b p)→b≤ts.length:=by
 intro f
 induction f with
 | zero=>intro u a o v b p _ h;cases h
 | succ f ih =>
  intro u a o v b p ha h;rw[uniM]at h;rcases aI h with ⟨hk,h⟩|⟨hk,h⟩
  ·cases h;exact ha
  rcases aI h with ⟨hk,h⟩|⟨hk,h⟩
  ·obtain⟨x,a1,o1,h1,h⟩:=aN h
   exact ih (lQ h1).2.2 h
  rcases aI h with ⟨hk,h⟩|⟨hk,h⟩
  ·obtain⟨x,a1,o1,h1,h⟩:=aN h
   exact ih (yL h1).2.2 h
  rcases aI h with ⟨hk,h⟩|⟨hk,h⟩
  ·obtain⟨x,a1,o1,h1,h⟩:=aN h
   exact ih (yG h1).2.2 h
  ·cases h
theorem Hq(ts:List Tk):(∃b e,allM ts (uniM ts (fu ts) uz0 0 0)=some (.bad b e)∧unR ts=(uz0,e,b)∧(e=3∨e=20)∧b≤ts.length)∨ ∃x b p,allM ts (uniM ts (fu ts) uz0 0 0)=some (.ok x b p)∧unR ts=(x,0,0)∧uniM ts (fu ts) uz0 0 0=some (.ok x b p) :=
 Id (Ho ts _ _ _ _ (by unfold fu;omega)) (LC _ _ _ _ (Nat.zero_le _)) fun x a o h=>LB _ (Nat.zero_le _) h
theorem SO{α:Type}{ts:List Tk}{z x:α}{r:Nat→Option (Rs α)}{f0 F b o:Nat}(hm: ∀f,Le (r f) (r (f+1)))(hs:Sm (r f0))(h2: ∀g,F≤g→allM ts (r g)=some (.ok x b o)):rdX ts z (r f0)=(x,0,0):=by
 obtain⟨y,hy⟩:=Sm.all (ts:=ts) hs
 have hy2:=NF (r:=fun f=>allM ts (r f)) (fun f=>Le.rb (hm f) fun _ _ _=>Le.refl _) hy h2
 unfold rdX
 rw[hy,hy2]
theorem LX{s:Bs}{ts0:List Tk}(hsz:s.length≤65536)(h:Sc s ts0):(scnR s).2=0∧(scnR s).1.map core=ts0.map core:=by
 obtain⟨h1,h2⟩:=Sc.scan h
 unfold scnR
 rw[if_neg (by omega),Ib]
 exact⟨by show(if(scan s).2 then(0:Int)else 3)=0;rw[h1];rfl,h2⟩
theorem QE(g:Nd→Bool): ∀(t:Nd) (lp:Bool),(∀q∈allT t lp,g q.1=true)→Nd.para (fun t a b c=>g t&&(a.all id&&(b.all id&&c.all fun r=>r.all id))) t=true:=by
 refine Nd.induct fun k w n e l el cs h1 h2 h3=> ?_
 intro lp h
 rw[Nd.para_mk]
 simp only[List.all_map,Function.comp_def,id_eq,Bool.and_eq_true,List.all_eq_true]
 rw[Co]at h
 have hs: ∀c∈subs (.mk k w n e l el cs),∀x∈c,∀q∈allT x (inL (.mk k w n e l el cs) lp),g q.1=true:=fun c hc x hx q hq =>
  h q (List.mem_cons_of_mem _ (List.mem_flatMap.2 ⟨c,hc,List.mem_flatMap.2 ⟨x,hx,hq⟩⟩))
 refine⟨h (_,lp) (List.mem_cons_self ..),fun x hx=>h1 x hx _ (hs l (by simp[subs,Nd.l]) x hx),fun x hx=>h2 x hx _ (hs el (by simp[subs,Nd.el]) x hx),fun c hc x hx=>h3 c hc x hx _ (hs c (by simp[subs,Nd.cs,hc]) x hx)⟩
theorem SX{t:Nd}{lp:Bool}(h: ∀q∈allT t lp,stT q.1=true):okT t=true:=QE stT t lp h
theorem UA{t:Nd}{lp:Bool}(p:Ex→Bool)(h: ∀q∈allT t lp,q.1.e.all p=true):exA p t=true:=QE (fun t=>t.e.all p) t lp h
theorem Xz{u:Un}(h:UnOk u)(hl:(uniT u).length≤65536): ∃v,unQ v=unQ u∧zI (uniT u)=(if unE v≠0 then uz0 else v,unE v):=by
 have hsc:=RR h Sc.nil
 rw[List.append_nil,List.append_nil]at hsc
 obtain⟨h0,h1⟩:=LX hl hsc
 obtain⟨g,hg,F,hF⟩:=SL h rfl
 refine⟨g,hg,?_⟩
 have e:unR (scnR (uniT u)).1=(g,0,0):=SO (r:=fun f=>uniM (scnR (uniT _)).1 f uz0 0 0) (Ya _ · _ _ _) (Ho _ _ _ _ _ (by unfold fu;omega)) (fun f hf=>by rw[UU h1,UN h1];exact hF f hf)
 unfold zI
 rw[if_neg (by rw[h0];decide),e,if_neg (show ¬((0:Int)≠0) by decide)]
 by_cases hu:unE g=0
 ·rw[if_neg (by simp[hu]),if_neg (by simp[hu]),hu]
 ·rw[if_pos hu,if_pos hu]
end Go.Proofs.YtmbmmckagcdapaaGreatDoor
namespace Go.Proofs.YtmbmmckagcdapaaGreatDoor
open Go.RowKit
def kY:=A7 @iA @fE @kH @gJ @lM @hX @dP
def iU:=A4 aX bD @aE @aD
theorem IX: ∀(e:Ex),fitE e→ ∀k:Int, -65536≤k→k≤65536→PC Tryz.prog 60 [exV e,(.im (.int .i64 (k)))] (.im (.bool (esh e k))):=by
 intro e
 induction e using Ex.induct with
 | h o n s w l ih =>
 intro hf k hk1 hk2
 obtain⟨hl,hfl⟩:=nS hf
 have hw:=cU (n:=k-1) (by omega)
 by_cases h1:k<1
 ·have:esh (.mk o n s w l) k=false:=by rw[Aj];simp;intro h;omega
  rw[this];refine PC.enter 22 Tryz.func60 rfl (by decide) rfl rfl (s:=[(0,exV (.mk o n s w l)),(1,(.im (.int .i64 (k))))]) (by rfl) ?_
  rw[gR];refine wG kY h1 ?_;refine aG (rs:=[.tmp 4]) rfl (by first|exact .inl rfl|exact .inr rfl) (finG kY) ?_
  all_goals exact wkG iU
 refine PC.enter 22 Tryz.func60 rfl (by decide) rfl rfl (s:=[(0,exV (.mk o n s w l)),(1,(.im (.int .i64 (k))))]) (by rfl) ?_
 refine wG kY (AI h1 @gR) ?_
 refine aP ?_
 refine ALp.cutP 0 [(1,(.im (.int .i64 (k)))),(4,(.im (.bool (false)))),(10,.sl (l.map exV) .ro),(11,(.im (.int .i64 (l.length)))),(12,(.im (.int .i64 ((((0:Nat)):Int)))))] [] iU ?_
 refine ALp.upto l.length (AllTo (fun t=>esh t (k-1)) l) (fun m=>⟨dn 22 [(1,(.im (.int .i64 (k)))),(4,(.im (.bool (false)))),(10,.sl (l.map exV) .ro),(11,(.im (.int .i64 (l.length)))),(12,(.im (.int .i64 ((((m:Nat)):Int)))))],ofl []⟩) ?_ 0 (Nat.zero_le _) (AllTo.zero _ _)
 intro m hm hI hnext
 by_cases hlt:m<l.length
 ·have hlt':(m:Int)<(l.length:Int):=by omega
  have hm1:=aL hlt (by omega)
  have hg:=bB hlt;have hc:=ih l[m] (List.getElem_mem hlt) (hfl _ (List.getElem_mem hlt)) (k-1) (by omega) (by omega)
  cases b:esh l[m] (k-1)with
  | false =>
   rw[b]at hc;have hr:esh (.mk o n s w l) k=false:=by rw[Aj,oL hlt b,Bool.and_false]
   rw[hr];refine wG kY (A11 hlt' hg @fU @eI @fS @fR @fT @eJ @List.getElem?_map.{0,0} @Int.natCast_nonneg hw) ?_;refine AR.callP hc @bI iU ?_;refine goG kY TI ?_;refine wG kY TI ?_;refine aG (rs:=[.tmp 4]) rfl (by first|exact .inl rfl|exact .inr rfl) (finG kY) ?_
   all_goals exact wkG iU
  | true =>
   rw[b]at hc;refine wG kY (A11 hlt' hg @fU @eI @fS @fR @fT @eJ @List.getElem?_map.{0,0} @Int.natCast_nonneg hw) ?_;refine AR.callP hc @bI iU ?_;refine goG kY TI ?_;refine wG kY hm1 ?_;refine ALp.cutP 0 [(1,(.im (.int .i64 (k)))),(4,(.im (.bool (false)))),(10,.sl (l.map exV) .ro),(11,(.im (.int .i64 (l.length)))),(12,(.im (.int .i64 ((((m+1:Nat)):Int)))))] [] iU ?_;exact hnext (m+1) (by omega) (by omega) (hI.succ hlt b)
 obtain rfl:m=l.length:=by omega
 clear hnext
 have hall:l.all (fun t=>esh t (k-1))=true:=List.all_eq_true.2 fun x hx=>by
  obtain⟨j,hj,rfl⟩:=List.getElem_of_mem hx;exact hI j hj hj
 have hr:esh (.mk o n s w l) k=true:=by rw[Aj,hall,Bool.and_true];exact decide_eq_true (by omega)
 rw[hr]
 have hn: ¬(l.length:Int)<(l.length:Int):=by omega
 refine wG kY hn ?_
 refine aG (rs:=[.tmp 4]) rfl (by first|exact .inl rfl|exact .inr rfl) (finG kY) ?_
 all_goals exact wkG iU
theorem t3:(3:Int)≠0:=by decide
theorem UK{e:Int}(h:e=3∨e=20):e≠0:=by omega
def eG:=A9 @Dc @fE @kH @pW @wC @yY @Cv @dP @sT
theorem Ud(s:Bs)(hs:s.length≤4194304):PC Tryz.prog 22 [.im (.string ⟨(s).toArray⟩)] (.tu [exV (AF s).1,(.im (.int .i64 ((AF s).2)))]):=by
 have h1:=Ub s hs
 obtain⟨hok,hts,hes⟩:=Kh s
 unfold AF
 generalize scnR s=q at h1 hok hts hes
 obtain⟨ts,e⟩:=q
 simp only at h1 hok hts hes ⊢
 by_cases he:e=0
 case neg =>
  rw[if_pos he];refine PC.enter 33 Tryz.func22 rfl (by decide) rfl rfl (s:=[(0,.im (.string ⟨(s).toArray⟩))]) (by rfl) ?_
  refine wG eG TI ?_;refine AR.callP h1 TI iU ?_;refine goG eG TI ?_;refine wG eG he ?_;refine aG (rs:=[.cell 2 46,.tmp 3]) rfl (by first|exact .inl rfl|exact .inr rfl) (finG eG) ?_
  all_goals exact wkG iU
 subst he
 rw[if_neg (by decide)]
 rcases AG ts with ⟨b,e,hz,hx,he,hb⟩|⟨x,b,p,hz,hx,hr⟩
 ·have h2:=Jd (by omega) _ _ hz
  change PC _ _ _ (.tu [exV (.mk 0 0 ByteArray.empty 0 []),.ag [(.im (.int .i64 ((b:Nat)))),(.im (.int .i64 (e)))]])at h2;have he: ¬e=0:=UK he;rw[hx,if_pos he];refine PC.enter 33 Tryz.func22 rfl (by decide) rfl rfl (s:=[(0,.im (.string ⟨(s).toArray⟩))]) (by rfl) ?_
  refine wG eG TI ?_;refine AR.callP h1 TI iU ?_;refine goG eG TI ?_;refine wG eG TI ?_;refine AR.callP h2 TI iU ?_;refine goG eG BN01 ?_;refine wdG eG he ?_;refine aG (rs:=[.cell 2 46,.tmp 3]) rfl (by first|exact .inl rfl|exact .inr rfl) (finG eG) ?_
  all_goals exact wkG iU
 have h2:=Jd (by omega) _ _ hz
 change PC _ _ _ (.tu [exV x,.ag [(.im (.int .i64 (0))),(.im (.int .i64 (0)))]])at h2
 have hf:=(Wl hok _).2.1 _ _ _ _ _ _ hr
 have h3:=IX x hf 64 (by decide) (by decide)
 rw[hx,if_neg (fun h=>h rfl)]
 simp only
 cases hl:esh x 64 with
 | true =>
  rw[hl]at h3;rw[if_pos rfl];refine PC.enter 33 Tryz.func22 rfl (by decide) rfl rfl (s:=[(0,.im (.string ⟨(s).toArray⟩))]) (by rfl) ?_
  refine wG eG TI ?_;refine AR.callP h1 TI iU ?_;refine goG eG TI ?_;refine wG eG TI ?_;refine AR.callP h2 TI iU ?_;refine goG eG BN01 ?_;refine wG eG BN01 ?_;refine AR.callP h3 @bI iU ?_;refine goG eG TI ?_;refine wG eG TI ?_;refine aG (rs:=[.cell 2 46,.tmp 3]) rfl (by first|exact .inl rfl|exact .inr rfl) (finG eG) ?_
  rw[bI x]
  all_goals exact wkG iU
 | false =>
  rw[hl]at h3;rw[if_neg (by decide)]
  refine PC.enter 33 Tryz.func22 rfl (by decide) rfl rfl (s:=[(0,.im (.string ⟨(s).toArray⟩))]) (by rfl) ?_
  refine wG eG TI ?_;refine AR.callP h1 TI iU ?_;refine goG eG TI ?_;refine wG eG TI ?_;refine AR.callP h2 TI iU ?_;refine goG eG BN01 ?_;refine wG eG BN01 ?_;refine AR.callP h3 @bI iU ?_;refine goG eG TI ?_;refine wG eG TI ?_;refine aG (rs:=[.cell 2 46,.tmp 3]) rfl (by first|exact .inl rfl|exact .inr rfl) (finG eG) ?_
  all_goals exact wkG iU
theorem yP(u:Un)(hu:fitU u):PC Tryz.prog 15 [.ag [.sl (u.globals.map vaV) .ro,.sl (u.data.map scV) .ro,.sl (u.funcs.map fnV) .ro]] (.im (.int .i64 (unE u))):=uH u hu
def gD:=A10 aX bD @aQ @aO gA eO oN kL aH tQ
def eH:=A9 @pY @Dc @tD @pW @wC @Xo @nY @Cv @sT
theorem Tz(s:Bs)(hs:s.length≤4194304):PC Tryz.prog 13 [.im (.string ⟨(s).toArray⟩)] (.tu [unV (zI s).1,(.im (.int .i64 ((zI s).2)))]):=by
 have h1:=Ub s hs
 obtain⟨hok,hts,hes⟩:=Kh s
 unfold zI
 generalize scnR s=q at h1 hok hts hes
 obtain⟨ts,e⟩:=q
 simp only at h1 hok hts hes ⊢
 by_cases he:e=0
 case neg =>
  rw[if_pos he];refine PC.enter 36 Tryz.func13 rfl (by decide) rfl rfl (s:=[(0,.im (.string ⟨(s).toArray⟩))]) (by rfl) ?_
  refine wG eH TI ?_;refine AR.callP h1 TI gD ?_;refine goG eH TI ?_;refine wG eH he ?_;refine aG (rs:=[.cell 2 27,.tmp 3]) rfl (by first|exact .inl rfl|exact .inr rfl) (finG eH) ?_
  all_goals exact wkG gD
 subst he
 rw[if_neg (by decide)]
 rcases Hq ts with ⟨b,e,hz,hx,he,hb⟩|⟨x,b,p,hz,hx,hr⟩
 ·have h2:=vT (by omega) hok _ _ hz
  change PC _ _ _ (.tu [unV ⟨[],[],[]⟩,.ag [(.im (.int .i64 ((b:Nat)))),(.im (.int .i64 (e)))]])at h2;have he: ¬e=0:=UK he;rw[hx,if_pos he];refine PC.enter 36 Tryz.func13 rfl (by decide) rfl rfl (s:=[(0,.im (.string ⟨(s).toArray⟩))]) (by rfl) ?_
  refine wG eH TI ?_;refine AR.callP h1 TI gD ?_;refine goG eH TI ?_;refine wG eH TI ?_;refine AR.callP h2 TI gD ?_;refine goG eH UNT ?_;refine wdG eH he ?_;refine aG (rs:=[.cell 2 27,.tmp 3]) rfl (by first|exact .inl rfl|exact .inr rfl) (finG eH) ?_
  all_goals exact wkG gD
 have h2:=vT (by omega) hok _ _ hz
 change PC _ _ _ (.tu [unV x,.ag [(.im (.int .i64 (0))),(.im (.int .i64 (0)))]])at h2
 have h3:=yP x (Hp hok hts hr)
 rw[hx,if_neg (fun h=>h rfl)]
 simp only
 by_cases hu:unE x=0
 case neg =>
  rw[if_pos hu];refine PC.enter 36 Tryz.func13 rfl (by decide) rfl rfl (s:=[(0,.im (.string ⟨(s).toArray⟩))]) (by rfl) ?_
  refine wG eH TI ?_;refine AR.callP h1 TI gD ?_;refine goG eH TI ?_;refine wG eH TI ?_;refine AR.callP h2 TI gD ?_;refine goG eH UNT ?_;refine wG eH UNT ?_;refine AR.callP h3 TI gD ?_;refine goG eH TI ?_;refine wG eH hu ?_;refine aG (rs:=[.cell 2 27,.tmp 3]) rfl (by first|exact .inl rfl|exact .inr rfl) (finG eH) ?_
  all_goals exact wkG gD
 rw[if_neg (fun h=>h hu)]
 rw[hu]at h3
 refine PC.enter 36 Tryz.func13 rfl (by decide) rfl rfl (s:=[(0,.im (.string ⟨(s).toArray⟩))]) (by rfl) ?_
 refine wG eH TI ?_
 refine AR.callP h1 TI gD ?_
 refine goG eH TI ?_
 refine wG eH TI ?_
 refine AR.callP h2 TI gD ?_
 refine goG eH UNT ?_
 refine wG eH UNT ?_
 refine AR.callP h3 TI gD ?_
 refine goG eH TI ?_
 refine wG eH TI ?_
 refine aG (rs:=[.cell 2 27,.tmp 3]) rfl (by first|exact .inl rfl|exact .inr rfl) (finG eH) ?_
 rw[kJ x]
 all_goals exact wkG gD
def eF:=A13 @pY @Dc @cO @tD @pW @pV @CJ @wC @gZ @nY @Cv @cN @sT
theorem CC(s:Bs)(hs:s.length≤4194304):PC Tryz.prog 25 [.im (.string ⟨(s).toArray⟩)] (.tu [(.im (.int .i64 ((HT s).1.1))),(.im (.int .i64 ((HT s).1.2))),(.im (.int .i64 ((HT s).2)))]):=by
 have h1:=Ub s hs
 obtain⟨hok,hts,hes⟩:=Kh s
 unfold HT
 generalize scnR s=q at h1 hok hts hes
 obtain⟨ts,e⟩:=q
 simp only at h1 hok hts hes ⊢
 by_cases he3:e=3
 ·subst he3
  rw[if_pos rfl];have hw:=cU (n:=(ts.length:Int)-1) (by omega)
  have h2:=Fz ts ((ts.length:Int)-1) (by omega)
  refine PC.enter 55 Tryz.func25 rfl (by decide) rfl rfl (s:=[(0,.im (.string ⟨(s).toArray⟩))]) (by rfl) ?_
  refine wG eF TI ?_;refine AR.callP h1 TI gD ?_;refine goG eF TI ?_;refine wG eF (AI hw @List.length_map.{0,0}) ?_;refine AR.callP h2 TI gD ?_;refine goG eF TI ?_;refine wG eF TI ?_;refine aG (rs:=[.tmp 2,.tmp 3,.tmp 4]) rfl (by first|exact .inl rfl|exact .inr rfl) (finG eF) ?_
  all_goals exact wkG gD
 rw[if_neg he3]
 by_cases he:e=0
 case neg =>
  rw[if_pos he];refine PC.enter 55 Tryz.func25 rfl (by decide) rfl rfl (s:=[(0,.im (.string ⟨(s).toArray⟩))]) (by rfl) ?_
  refine wG eF TI ?_;refine AR.callP h1 TI gD ?_;refine goG eF TI ?_;refine wG eF (AI he he3) ?_;refine aG (rs:=[.tmp 2,.tmp 3,.tmp 4]) rfl (by first|exact .inl rfl|exact .inr rfl) (finG eF) ?_
  all_goals exact wkG gD
 subst he
 rw[if_neg (by decide)]
 rcases Hq ts with ⟨b,e,hz,hx,he,hb⟩|⟨x,b,p,hz,hx,hr⟩
 ·have h2:=vT (by omega) hok _ _ hz
  change PC _ _ _ (.tu [unV ⟨[],[],[]⟩,.ag [(.im (.int .i64 ((b:Nat)))),(.im (.int .i64 (e)))]])at h2;have he: ¬e=0:=UK he;have h3:=Fz ts (b:Int) (by omega)
  rw[hx,if_pos he];refine PC.enter 55 Tryz.func25 rfl (by decide) rfl rfl (s:=[(0,.im (.string ⟨(s).toArray⟩))]) (by rfl) ?_
  refine wG eF TI ?_;refine AR.callP h1 TI gD ?_;refine goG eF TI ?_;refine wG eF TI ?_;refine AR.callP h2 TI gD ?_;refine goG eF UNT ?_;refine wG eF he ?_;refine AR.callP h3 TI gD ?_;refine goG eF TI ?_;refine wdG eF TI ?_;refine aG (rs:=[.tmp 2,.tmp 3,.tmp 4]) rfl (by first|exact .inl rfl|exact .inr rfl) (finG eF) ?_
  all_goals exact wkG gD
 have h2:=vT (by omega) hok _ _ hz
 change PC _ _ _ (.tu [unV x,.ag [(.im (.int .i64 (0))),(.im (.int .i64 (0)))]])at h2
 have h3:=yP x (Hp hok hts hr)
 rw[hx,if_neg (fun h=>h rfl)]
 simp only
 refine PC.enter 55 Tryz.func25 rfl (by decide) rfl rfl (s:=[(0,.im (.string ⟨(s).toArray⟩))]) (by rfl) ?_
 refine wG eF TI ?_
 refine AR.callP h1 TI gD ?_
 refine goG eF TI ?_
 refine wG eF TI ?_
 refine AR.callP h2 TI gD ?_
 refine goG eF UNT ?_
 refine wG eF UNT ?_
 refine AR.callP h3 TI gD ?_
 refine goG eF TI ?_
 refine wG eF TI ?_
 refine aG (rs:=[.tmp 2,.tmp 3,.tmp 4]) rfl (by first|exact .inl rfl|exact .inr rfl) (finG eF) ?_
 all_goals exact wkG gD
def mW:=A16 @cO @tE @pX @gK @pU @pT @sZ @lF @rG @vZ @vY @mL @jJ @nK @cN (A3 @sR @mZ @gI)
def sO:=A8 @bS @bU @bT @bV @aD @aO @aE @aQ
theorem IP: ∀(a:Ty),fit a→PC Tryz.prog 98 [tyV a,tyV a] (.im (.bool (true))):=by
 refine Ty.induct fun o k s c es fs hT hF=> ?_
 intro hfit
 obtain⟨hl1,hl2,hfE,hfF⟩:=kM hfit
 refine PC.enter 99 Tryz.func98 rfl (by decide) rfl rfl (s:=[(0,tyV (.mk o k s c es fs)),(1,tyV (.mk o k s c es fs))]) (by rfl) ?_
 simp only[eB]
 refine wG mW TI ?_
 refine aP ?_
 refine ALp.cutP 2 [(2,.pt 0 0),(3,.pt 1 0),(5,(.im (.int .i64 ((((0:Nat)):Int)))))] [.box [.im (.int .i64 k),.im (.int .i64 s),.im (.int .i64 c),.sl (es.map tyV) .ro,.sl (fs.map fdV) .ro],.box [.im (.int .i64 k),.im (.int .i64 s),.im (.int .i64 c),.sl (es.map tyV) .ro,.sl (fs.map fdV) .ro]] sO ?_
 refine ALp.upto es.length (fun _=>True) (fun m=>⟨dn 99 [(2,.pt 0 0),(3,.pt 1 0),(5,(.im (.int .i64 ((((m:Nat)):Int)))))],ofl [.box [.im (.int .i64 k),.im (.int .i64 s),.im (.int .i64 c),.sl (es.map tyV) .ro,.sl (fs.map fdV) .ro],.box [.im (.int .i64 k),.im (.int .i64 s),.im (.int .i64 c),.sl (es.map tyV) .ro,.sl (fs.map fdV) .ro]]⟩) ?_ 0 (Nat.zero_le _) trivial
 intro m hm hI hnext
 by_cases hlt:m<es.length
 ·have hlt':(m:Int)<(es.length:Int):=by omega
  have hg:=bB hlt;have hm1:=aL hlt (by omega)
  have hc:=hT es[m] (List.getElem_mem hlt) (hfE _ (List.getElem_mem hlt));refine wdG mW (A3 hlt' hg TY) ?_;refine AR.callP hc @bP sO ?_;refine goG mW TI ?_;refine wdG mW hm1 ?_;refine ALp.cutP 2 [(2,.pt 0 0),(3,.pt 1 0),(5,(.im (.int .i64 ((((m+1:Nat)):Int)))))] [.box [.im (.int .i64 k),.im (.int .i64 s),.im (.int .i64 c),.sl (es.map tyV) .ro,.sl (fs.map fdV) .ro],.box [.im (.int .i64 k),.im (.int .i64 s),.im (.int .i64 c),.sl (es.map tyV) .ro,.sl (fs.map fdV) .ro]] sO ?_;exact hnext (m+1) (by omega) (by omega) trivial
 obtain rfl:m=es.length:=by omega
 clear hnext hI
 refine whG mW @Int.lt_irrefl ?_
 refine Blk'.here (Thn.n ?_)
 refine wG mW TI ?_
 refine aP ?_
 refine ALp.cutP 2 [(2,.pt 0 0),(3,.pt 1 0),(6,(.im (.int .i64 ((((0:Nat)):Int)))))] [.box [.im (.int .i64 k),.im (.int .i64 s),.im (.int .i64 c),.sl (es.map tyV) .ro,.sl (fs.map fdV) .ro],.box [.im (.int .i64 k),.im (.int .i64 s),.im (.int .i64 c),.sl (es.map tyV) .ro,.sl (fs.map fdV) .ro]] sO ?_
 refine ALp.upto fs.length (fun _=>True) (fun m=>⟨dn 99 [(2,.pt 0 0),(3,.pt 1 0),(6,(.im (.int .i64 ((((m:Nat)):Int)))))],ofl [.box [.im (.int .i64 k),.im (.int .i64 s),.im (.int .i64 c),.sl (es.map tyV) .ro,.sl (fs.map fdV) .ro],.box [.im (.int .i64 k),.im (.int .i64 s),.im (.int .i64 c),.sl (es.map tyV) .ro,.sl (fs.map fdV) .ro]]⟩) ?_ 0 (Nat.zero_le _) trivial
 intro m hm hI hnext
 by_cases hlt:m<fs.length
 ·have hlt':(m:Int)<(fs.length:Int):=by omega
  have hg:=bB hlt;have hm1:=aL hlt (by omega)
  have hc:=hF fs[m] (List.getElem_mem hlt) (hfF _ (List.getElem_mem hlt));refine wdG mW (A3 hlt' hg TY) ?_;refine AR.callP hc @bP sO ?_;refine goG mW TI ?_;refine wdG mW hm1 ?_;refine ALp.cutP 2 [(2,.pt 0 0),(3,.pt 1 0),(6,(.im (.int .i64 ((((m+1:Nat)):Int)))))] [.box [.im (.int .i64 k),.im (.int .i64 s),.im (.int .i64 c),.sl (es.map tyV) .ro,.sl (fs.map fdV) .ro],.box [.im (.int .i64 k),.im (.int .i64 s),.im (.int .i64 c),.sl (es.map tyV) .ro,.sl (fs.map fdV) .ro]] sO ?_;exact hnext (m+1) (by omega) (by omega) trivial
 obtain rfl:m=fs.length:=by omega
 clear hnext hI
 refine wG mW @Int.lt_irrefl ?_
 exact aC
def yS:=A8 @dT @gK @kG @vX @oF @dC @gI @jO
theorem Pz(l:List Va)(hl:yI l)(hn:l.length≤4194304):PC Tryz.prog 46 [.sl (l.map vaV) .ro,.sl (l.map vaV) .ro] (.im (.bool (true))):=by
 refine PC.enter 42 Tryz.func46 rfl (by decide) rfl rfl (s:=[(0,.sl (l.map vaV) .ro),(1,.sl (l.map vaV) .ro)]) (by rfl) ?_
 refine wG yS @List.length_map.{0,0} ?_
 refine aP ?_
 refine ALp.cutP 0 [(0,.sl (l.map vaV) .ro),(1,.sl (l.map vaV) .ro),(5,(.im (.int .i64 ((((0:Nat)):Int)))))] [] sO ?_
 refine ALp.upto l.length (fun _=>True) (fun m=>⟨dn 42 [(0,.sl (l.map vaV) .ro),(1,.sl (l.map vaV) .ro),(5,(.im (.int .i64 ((((m:Nat)):Int)))))],ofl []⟩) ?_ 0 (Nat.zero_le _) trivial
 intro m hm hI hnext
 by_cases hlt:m<l.length
 ·have hlt':(m:Int)<(l.length:Int):=by omega
  have hg:=bB hlt;have hm1:=aL hlt (by omega)
  obtain⟨hty,hnm⟩:=hl _ (List.getElem_mem hlt);have hc:=IP l[m].ty hty;refine wdG yS (A3 hlt' hg VA) ?_;refine AR.callP hc @bP sO ?_;refine goG yS TI ?_;refine wdG yS hm1 ?_;refine ALp.cutP 0 [(0,.sl (l.map vaV) .ro),(1,.sl (l.map vaV) .ro),(5,(.im (.int .i64 ((((m+1:Nat)):Int)))))] [] sO ?_;exact hnext (m+1) (by omega) (by omega) trivial
 obtain rfl:m=l.length:=by omega
 clear hnext hI
 refine wG yS @Int.lt_irrefl ?_
 exact aC
def bZ(b:UInt8):V:= .im (.int .u8 b.toNat)
theorem YN(b:UInt8):bZ b= .im (.int .u8 b.toNat):=rfl
theorem PD(b:UInt8):(bZ b).live=true:=rfl
theorem PB(b:UInt8):(bZ b).size=1:=rfl
theorem PE(b:UInt8):(bZ b).isAg=false:=rfl
theorem JT(b:UInt8):(bZ b).cells=[.im (.int .u8 b.toNat)]:=rfl
theorem PF(b:UInt8):(bZ b).firm=true:=rfl
theorem JS(g:Bool)(b:UInt8):strip g (bZ b)=bZ b:=rfl
theorem Uj(p:Nat→Bool)(l:Bs):V.idsL p (l.map bZ)=true:=gB (fun _=>rfl) l
def Lt:=A3 @Mp @lA @qP
theorem IS(l:Bs)(hn:l.length≤4194304):PC Tryz.prog 99 [.sl (l.map bZ) .ro,.sl (l.map bZ) .ro] (.im (.bool (true))):=by
 refine PC.enter 26 Tryz.func99 rfl (by decide) rfl rfl (s:=[(0,.sl (l.map bZ) .ro),(1,.sl (l.map bZ) .ro)]) (by rfl) ?_
 refine wG Lt @List.length_map.{0,0} ?_
 refine aP ?_
 refine ALp.cutP 0 [(0,.sl (l.map bZ) .ro),(1,.sl (l.map bZ) .ro),(5,(.im (.int .i64 ((((0:Nat)):Int)))))] [] Uj ?_
 refine ALp.upto l.length (fun _=>True) (fun m=>⟨dn 26 [(0,.sl (l.map bZ) .ro),(1,.sl (l.map bZ) .ro),(5,(.im (.int .i64 ((((m:Nat)):Int)))))],ofl []⟩) ?_ 0 (Nat.zero_le _) trivial
 intro m hm hI hnext
 by_cases hlt:m<l.length
 ·have hlt':(m:Int)<(l.length:Int):=by omega
  have hg:=bB hlt;have hm1:=aL hlt (by omega)
  refine wdG Lt (A12 hlt' hg hm1 YN PF JS PD PB PE JT @List.getElem?_map.{0,0} @Int.natCast_nonneg) ?_;refine ALp.cutP 0 [(0,.sl (l.map bZ) .ro),(1,.sl (l.map bZ) .ro),(5,(.im (.int .i64 ((((m+1:Nat)):Int)))))] [] Uj ?_;exact hnext (m+1) (by omega) (by omega) trivial
 obtain rfl:m=l.length:=by omega
 clear hnext hI
 refine wG Lt @Int.lt_irrefl ?_
 exact aC
theorem VP(p:Nat→Bool)(l:Bs):V.idsL p (l.map fun b:UInt8=>V.im (.int .u8 b.toNat))=true:=Uj p l
def yR:=A16 @Mq @nB @tF @dT @tB @wA @Jn @rH @Ax @Aw @Mi @nA @sS @pS @dC @WC
def Uq:=A3 gA eO VP
theorem IQ(l:List Sec)(hl: ∀s∈l,s.data.length≤4194304)(hn:l.length≤4194304):PC Tryz.prog 47 [.sl (l.map scV) .ro,.sl (l.map scV) .ro] (.im (.bool (true))):=by
 refine PC.enter 81 Tryz.func47 rfl (by decide) rfl rfl (s:=[(0,.sl (l.map scV) .ro),(1,.sl (l.map scV) .ro)]) (by rfl) ?_
 refine wG yR @List.length_map.{0,0} ?_
 refine aP ?_
 refine ALp.cutP 0 [(0,.sl (l.map scV) .ro),(1,.sl (l.map scV) .ro),(5,(.im (.int .i64 ((((0:Nat)):Int)))))] [] Uq ?_
 refine ALp.upto l.length (fun _=>True) (fun m=>⟨dn 81 [(0,.sl (l.map scV) .ro),(1,.sl (l.map scV) .ro),(5,(.im (.int .i64 ((((m:Nat)):Int)))))],ofl []⟩) ?_ 0 (Nat.zero_le _) trivial
 intro m hm hI hnext
 by_cases hlt:m<l.length
 ·have hlt':(m:Int)<(l.length:Int):=by omega
  have hg:=bB hlt;have hm1:=aL hlt (by omega)
  have hc:PC Tryz.prog 99 [.sl (l[m].data.map fun b:UInt8=>V.im (.int .u8 b.toNat)) .ro,.sl (l[m].data.map fun b:UInt8=>V.im (.int .u8 b.toNat)) .ro] (.im (.bool (true))):=IS l[m].data (hl _ (List.getElem_mem hlt))
  refine wdG yR (A10 hlt' hg Dy zN Dw Dv Dx zO @List.getElem?_map.{0,0} @Int.natCast_nonneg) ?_;refine AR.callP hc Dz Uq ?_;refine goG yR TI ?_;refine wdG yR hm1 ?_;refine ALp.cutP 0 [(0,.sl (l.map scV) .ro),(1,.sl (l.map scV) .ro),(5,(.im (.int .i64 ((((m+1:Nat)):Int)))))] [] Uq ?_;exact hnext (m+1) (by omega) (by omega) trivial
 obtain rfl:m=l.length:=by omega
 clear hnext hI
 refine wG yR @Int.lt_irrefl ?_
 exact aC
end Go.Proofs.YtmbmmckagcdapaaGreatDoor
