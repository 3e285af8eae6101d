import Derived.Test.YtmbmmckagcdapaaGreatDoorM04
import Derived.Test.YtmbmmckagcdapaaGreatDoorM10
set_option linter.all false
namespace Go.Proofs.YtmbmmckagcdapaaGreatDoor
def epa:Ex→Int→Int→Int:=Ex.para fun e r most left=>if most<1∨left<1∨4<e.l.length then -1 else pfold (fun r n=>r (most-1) n) r (left-1)
theorem Td(o n:Int)(s:ByteArray)(w:Int)(l:List Ex)(most left:Int):epa (.mk o n s w l) most left=if most<1∨left<1∨4<l.length then -1 else pfold (fun x n=>epa x (most-1) n) l (left-1):=by
 have h:epa (.mk o n s w l) most left=_:=congrFun (congrFun (Ex.para_mk _ o n s w l) most) left
 rw[h]
 simp only[Ex.l,vA]
 rfl
theorem oD: ∀(t:Ex) (most left:Int),0≤left→ -1≤epa t most left∧epa t most left≤left:=by
 intro t
 induction t using Ex.induct with
 | h o n s w l ih =>
 intro most left h
 rw[Td]
 split
 ·omega
 ·rename_i hc
  have:=dQ (f:=fun x n=>epa x (most-1) n) (l:=l) (fun x hx n hn=>ih x hx (most-1) n hn) (left-1) (by omega)
  omega
theorem NU: ∀(t:Ex) (most left:Int),0≤left→0≤epa t most left→exn t (left+1)=epa t most left+1:=by
 intro t
 induction t using Ex.induct with
 | h o n s w l ih =>
 intro most left h h0
 rw[Td]at h0 ⊢
 split at h0
 ·omega
 ·rename_i hc
  rw[if_neg hc,HD]
  have key: ∀(l:List Ex),(∀x∈l,∀left,0≤left→0≤epa x (most-1) left→exn x (left+1)=epa x (most-1) left+1)→ ∀n:Int,0≤n→0≤pfold (fun x n=>epa x (most-1) n) l n→gfold exn l (n+1)=pfold (fun x n=>epa x (most-1) n) l n+1:=by
   intro l
   induction l with
   | nil=>intro _ n _ _;rfl
   | cons x l ihl =>
    intro hl n hn hp
    have e1:pfold (fun x n=>epa x (most-1) n) (x::l) n=pfold (fun x n=>epa x (most-1) n) l (epa x (most-1) n):=by
     unfold pfold;rw[List.foldl_cons,if_pos hn]
    rw[e1]at hp ⊢
    have h1:0≤epa x (most-1) n:=by
     refine Classical.byContradiction fun hc=> ?_
     rw[lB _ hc]at hp;exact hc hp
    have e2:gfold exn (x::l) (n+1)=gfold exn l (exn x (n+1)):=by
     unfold gfold;rw[List.foldl_cons,if_pos (by omega)]
    rw[e2,hl x (by simp) n hn h1]
    exact ihl (fun y hy=>hl y (by simp[hy])) _ h1 hp
  have:=key l (fun x hx left h1 h2=>ih x hx (most-1) left h1 h2) (left-1) (by omega) h0
  rw[show left+1-1=left-1+1 by omega]
  exact this
end Go.Proofs.YtmbmmckagcdapaaGreatDoor
