import Derived.Test.YtmbmmckagcdapaaGreatDoorQ35
set_option linter.all false
namespace Go.Proofs.YtmbmmckagcdapaaGreatDoor
open Go.RowKit
def fK:=A4 @nQ @tT @lG @iC
def mU:=A10 @aD @aL @aE @aN aS aG @bQ @bS @bR @bT
theorem ZV(f:Fun)(hF:FitFnW f):PC Tryz.prog 4 [fnV f] (.im (.bool (true))):=by
 have qx:=SU
 have q1:=Rv f hF
 rw[jH]at q1 ⊢
 cases pa:smF f with
 | false =>
  rw[pa]at q1;refine pcEnt 35 Tryz.func4 rfl [(0,.ag [.im (.string f.name),.sl (f.vars.map vaV) .ro,.sl (f.body.map ndV) .ro])] ?_
  refine wG fK TI ?_;refine AR.callP q1 TI mU ?_;refine goG fK TI ?_;refine wG fK TI ?_;refine AR.callP qx TI mU ?_;refine goG fK TI ?_;refine wG fK TI ?_;exact aB
 | true =>
 rw[pa]at q1
 replace hF:=Yb hF pa
 have q3:=LG f hF (fun hp=>by have:=Mi (zI hp hF) pa;omega)
 have hlen:(prF f).length≤300000000:=by
  unfold prF;cases hp:prtB f with
  | false=>exact Nat.zero_le _
  | true=>exact Mi (zI hp hF) pa
 have hlaw:prF f≠[]→(prF f).length≤65536→ ∃g,fnV g=fnV f∧funP (prF f)=(g,0):=by
  intro h1 h2;unfold prF at h1 h2 ⊢;cases hp:prtB f with
  | false=>rw[hp]at h1;exact absurd rfl h1
  | true =>
   rw[hp,if_pos rfl]at h2;rw[if_pos rfl];exact Ur (zI hp hF) h2
 have qs:=Yl f hF
 rw[jH]at q3 qs
 generalize prF f=s at q3 hlen hlaw
 cases hs:(s==[])with
 | true =>
  refine pcEnt 35 Tryz.func4 rfl [(0,.ag [.im (.string f.name),.sl (f.vars.map vaV) .ro,.sl (f.body.map ndV) .ro])] ?_
  refine wG fK TI ?_;refine AR.callP q1 TI mU ?_;refine goG fK TI ?_;refine wG fK TI ?_;refine AR.callP q3 TI mU ?_;refine goG fK (AI BY hs) ?_;refine wG fK (AI BY hs) ?_;refine AR.callP qx TI mU ?_;refine goG fK TI ?_;refine wG fK TI ?_;exact aB
 | false =>
 have hne:s≠[]:=by intro e;rw[e]at hs;cases hs
 by_cases hl:65536<s.length
 ·have hl':((s.length:Int)>65536):=by omega
  refine pcEnt 35 Tryz.func4 rfl [(0,.ag [.im (.string f.name),.sl (f.vars.map vaV) .ro,.sl (f.body.map ndV) .ro])] ?_
  refine wG fK TI ?_;refine AR.callP q1 TI mU ?_;refine goG fK TI ?_;refine wG fK TI ?_;refine AR.callP q3 TI mU ?_;refine goG fK (AI BY hs) ?_;refine wG fK (A3 BY hs hl') ?_;refine AR.callP qx TI mU ?_;refine goG fK TI ?_;refine wG fK TI ?_;exact aB
 have hl': ¬((s.length:Int)>65536):=by omega
 obtain⟨g,hg,e1⟩:=hlaw hne (by omega)
 have k1:=XK s (by omega)
 rw[e1]at k1
 simp only at k1
 rw[hg,jH]at k1
 refine pcEnt 35 Tryz.func4 rfl [(0,.ag [.im (.string f.name),.sl (f.vars.map vaV) .ro,.sl (f.body.map ndV) .ro])] ?_
 refine wG fK TI ?_
 refine AR.callP q1 TI mU ?_
 refine goG fK TI ?_
 refine wG fK TI ?_
 refine AR.callP q3 TI mU ?_
 refine goG fK (AI BY hs) ?_
 refine wG fK (A3 BY hs hl') ?_
 refine AR.callP k1 TI mU ?_
 refine goG fK TI ?_
 refine wdG fK TI ?_
 refine AR.callP qs TI mU ?_
 refine goG fK TI ?_
 refine AR.callP qx TI mU ?_
 refine goG fK TI ?_
 refine wG fK TI ?_
 exact aB
end Go.Proofs.YtmbmmckagcdapaaGreatDoor
