import Derived.Test.YtmbmmckagcdapaaGreatDoorQ02
set_option linter.all false
namespace Go.Proofs.YtmbmmckagcdapaaGreatDoor
def subs(s:Nd):List (List Nd):=s.l::s.el::s.cs
def mx(l:List Int):Int:=l.foldl max 0
theorem SJ(l:List Int):0≤mx l:=sQ l 0
theorem HW{l:List Int}{b:Int}(hb:0≤b)(h: ∀x∈l,x≤b):mx l≤b:=Mm l b h 0 hb
theorem Im(l:List Int): ∀(a:Int) (x:Int),x∈l→x≤l.foldl max a:=by
 induction l with
 | nil=>intro a x h;cases h
 | cons y l ih =>
  intro a x h;rcases List.mem_cons.1 h with rfl|h
  ·exact Int.le_trans (Int.le_max_right a x) (sQ l _)
  ·exact ih _ x h
theorem HV{l:List Int}{x:Int}(h:x∈l):x≤mx l:=Im l 0 x h
theorem Xq{α:Type}(f:α→Int){l:List α}{m:Nat}(h:m<l.length):max (mx ((l.take m).map f)) (f l[m])=mx ((l.take (m+1)).map f):=by
 rw[List.take_succ_eq_append_getElem h,List.map_append]
 unfold mx
 rw[List.foldl_append]
 rfl
def depT:Nd→Int:=Nd.para fun _ a b c=>1+mx ((a::b::c).map mx)
def dep(l:List Nd):Int:=mx (l.map depT)
theorem Ds(t:Nd):depT t=1+mx ((subs t).map dep):=by
 obtain⟨k,w,n,e,l,el,cs⟩:=t
 unfold depT
 rw[Nd.para_mk]
 simp only[subs,Nd.l,Nd.el,Nd.cs,List.map_cons,List.map_map]
 rfl
theorem sU(l:List Nd):0≤dep l:=SJ _
def cntT:Nd→Nat:=Nd.para fun _ a b c=>1+((a::b::c).map List.sum).sum
def cnt(l:List Nd):Nat:=(l.map cntT).sum
theorem nH(t:Nd):cntT t=1+((subs t).map cnt).sum:=by
 obtain⟨k,w,n,e,l,el,cs⟩:=t
 unfold cntT
 rw[Nd.para_mk]
 simp only[subs,Nd.l,Nd.el,Nd.cs,List.map_cons,List.map_map]
 rfl
theorem Dk{l:List Nat}{x:Nat}(h:x∈l):x≤l.sum:=by
 induction l with
 | nil=>cases h
 | cons y l ih =>
  rw[List.sum_cons];rcases List.mem_cons.1 h with rfl|h
  ·omega
  ·have:=ih h;omega
theorem Yh{l:List Nd}{t:Nd}(ht:t∈l){c:List Nd}(hc:c∈subs t):1+cnt c≤cnt l:=by
 have h1:cntT t≤cnt l:=Dk (List.mem_map_of_mem ht)
 have h2:cnt c≤((subs t).map cnt).sum:=Dk (List.mem_map_of_mem hc)
 rw[nH]at h1
 omega
theorem nR{R:List Nd→Prop}(h: ∀l,(∀t∈l,∀c∈subs t,R c)→R l): ∀l,R l:=by
 refine Nd.listInduct fun l hl=>h l fun t ht c hc=> ?_
 obtain⟨h1,h2,h3⟩:=hl t ht
 unfold subs at hc
 rcases List.mem_cons.1 hc with rfl|hc
 ·exact h1
 ·rcases List.mem_cons.1 hc with rfl|hc
  ·exact h2
  ·exact h3 c hc
theorem Uz: ∀l:List Nd,dep l≤cnt l:=by
 refine nR fun l hl=> ?_
 refine HW (by omega) fun x hx=> ?_
 obtain⟨t,ht,rfl⟩:=List.mem_map.1 hx
 rw[Ds]
 have h1:cntT t≤cnt l:=Dk (List.mem_map_of_mem ht)
 have h2:mx ((subs t).map dep)≤((subs t).map cnt).sum:=by
  refine HW (by omega) fun y hy=> ?_
  obtain⟨c,hc,rfl⟩:=List.mem_map.1 hy;have h3:=hl t ht c hc;have h4:cnt c≤((subs t).map cnt).sum:=Dk (List.mem_map_of_mem hc);omega
 rw[nH]at h1
 omega
def inL(t:Nd)(lp:Bool):Bool:=lp||t.kind==7||t.kind==8
def allT:Nd→Bool→List (Nd×Bool):=Nd.para fun t a b c lp=>(t,lp)::(a::b::c).flatMap fun r=>r.flatMap fun f=>f (inL t lp)
def allL(l:List Nd)(lp:Bool):List (Nd×Bool):=l.flatMap fun t=>allT t lp
theorem Dw(t:Nd)(lp:Bool):allT t lp=(t,lp)::(subs t).flatMap fun c=>allL c (inL t lp):=by
 obtain⟨k,w,n,e,l,el,cs⟩:=t
 have h:allT (.mk k w n e l el cs) lp=_:=congrFun (Nd.para_mk _ k w n e l el cs) lp
 rw[h]
 simp only[subs,Nd.l,Nd.el,Nd.cs,List.flatMap_cons,List.flatMap_map,allL]
 rfl
theorem Cs{α β:Type}{f:α→List β}{g:α→Nat}{l:List α}(h: ∀x∈l,(f x).length=g x):(l.flatMap f).length=(l.map g).sum:=by
 induction l with
 | nil=>rfl
 | cons x l ih=>rw[List.flatMap_cons,List.length_append,List.map_cons,List.sum_cons,h x (by simp),ih fun y hy=>h y (by simp[hy])]
theorem Hi: ∀(l:List Nd) (lp:Bool),(allL l lp).length=cnt l:=by
 refine nR fun l hl lp=> ?_
 refine Cs fun t ht=> ?_
 rw[Dw,nH,List.length_cons,Cs (g:=cnt) fun c hc=>hl t ht c hc _]
 omega
end Go.Proofs.YtmbmmckagcdapaaGreatDoor
