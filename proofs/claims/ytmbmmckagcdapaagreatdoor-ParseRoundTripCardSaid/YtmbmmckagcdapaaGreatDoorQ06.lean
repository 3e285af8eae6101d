import Derived.Test.YtmbmmckagcdapaaGreatDoorQ03
set_option linter.all false
namespace Go.Proofs.YtmbmmckagcdapaaGreatDoor
theorem So(p:Int×Int)(a b:Bs):advs p (a++b)=advs (advs p a) b:=by unfold advs;rw[List.foldl_append]
theorem GK(s:Bs):(scan s).1.length≤s.length:=by
 have h: ∀(f:Nat) (s:Bs) (p:Int×Int),(qV f s p).1.length≤s.length:=by
  intro f
  induction f with
  | zero=>intro s p;simp[qV]
  | succ f ih =>
   intro s p;have h2:=qU false s;rw[qV];split
   ·simp
   rename_i q;have h3:=List.length_pos_iff.2 q;split
   ·simp;omega
   ·rename_i t n hk
    have h1:=yP hk;have:=ih ((skpG false s).drop n) (advs (skq s p) ((skpG false s).take n));rw[List.length_drop]at this;simp only[List.length_cons];omega
 exact h _ s _
end Go.Proofs.YtmbmmckagcdapaaGreatDoor
