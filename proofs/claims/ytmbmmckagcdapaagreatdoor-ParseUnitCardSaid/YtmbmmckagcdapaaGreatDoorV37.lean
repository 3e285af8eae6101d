import Derived.Test.YtmbmmckagcdapaaGreatDoorV36
set_option maxHeartbeats 8000000
set_option linter.all false
namespace Go.Proofs.YtmbmmckagcdapaaGreatDoor
open Go.RowKit
theorem Qj{ts:List Tk}{a:Nat}{d:UInt8}(h:sees ts a (stW++[d])=true):pP ts a 0 stW=if d=49 then 1 else if d=50 then 2 else if d=51 then 3 else if d=52 then 4 else 0:=by
 have hs: ∀c:UInt8,(isR ts a 0 (stW++[c])=true)=(d=c):=fun c=>by
  rw[fY,bK h,beq_iff_eq];simp
 unfold pP
 simp only[widF,hs]
 rfl
theorem Te{ts:List Tk}{a:Nat}(h: ∀d:UInt8,sees ts a (stW++[d])=false):pP ts a 0 stW=0:=Yv fun d=>by rw[fY];exact h d
theorem Cv{ts:List Tk}{a:Nat}{x:Bs}(h:sees ts a x=true)(hx: ∀d:UInt8,(x==stW++[d])=false):pP ts a 0 stW=0:=Te fun d=>by rw[bK h];exact hx d
theorem LN{ts:List Tk}{a:Nat}(hW:TkW (pk ts a)){d:UInt8}(h:sees ts a (stW++[d])=true):d=49∨d=50∨d=52:=by
 have hk:=GM h
 unfold sees at h
 rw[Bool.and_eq_true]at h
 have ht:=eq_of_beq h.2
 rcases hk with hk|hk
 ·have:=tU.1 (hW.1 hk)
  rw[ht]at this;revert this;unfold stW kwds;simp
 ·have:=hW.2 hk
  rw[ht]at this;cases this
def aY:=A8 @iA @fD @iR @gQ @fG @nB @fH @eF
theorem rP{ts:List Tk}(hts:ts.length≤4194304){a:Nat}{o:Int}{y:Nd}{s':Sr}(hk: ¬(pk ts a).kind=1)(hw:pP ts a 0 stW=0)(h1:sees ts a [105,102]=false)(h2:sees ts a [115,119,105,116,99,104]=false)(h3:sees ts a [119,104,105,108,101]=false)(h4:sees ts a [108,111,111,112]=false)
  (d:DC Tryz.prog 240 [.pt 0 0] [rbx ts ⟨a,o,0⟩] (ndV y) [rbx ts s']):DC Tryz.prog 188 [.pt 0 0] [rbx ts ⟨a,o,0⟩] (ndV y) [rbx ts s']:=by
 have ik:=kP ts a o 0 1 (by decide)
 rw[show decide ((0:Int)=0)=true from rfl,Bool.true_and,decide_eq_false hk]at ik
 have iw:=mW ts a o 0 stW (by decide)
 rw[hw]at iw
 unfold stW at iw
 have t0:=fR ts a o 0 [105,102] hts
 rw[fY,h1,if_neg (by decide)]at t0
 have t1:=fR ts a o 0 [115,119,105,116,99,104] hts
 rw[fY,h2,if_neg (by decide)]at t1
 have t2:=fR ts a o 0 [119,104,105,108,101] hts
 rw[fY,h3,if_neg (by decide)]at t2
 have t3:=fR ts a o 0 [108,111,111,112] hts
 rw[fY,h4,if_neg (by decide)]at t3
 obtain⟨a1,o1,e1⟩:=s'
 simp only[rbx]at d ⊢
 refine dcEnt 40 Tryz.func188 rfl [(0,.pt 0 0)] ?_
 refine wG aY TI ?_
 refine aA [0] ik TI (A12 aB aC @aF @aE aP aG aU aM aV bL aW bT) (A12 aI aJ @aN @aO aX aR aZ cA bC bY cD cE) ?_
 refine goG aY TI ?_
 refine wG aY TI ?_
 refine aA [0] iw TI (A12 aB aC @aF @aE aP aG aU aM aV bL aW bT) (A12 aI aJ @aN @aO aX aR aZ cA bC bY cD cE) ?_
 refine goG aY TI ?_
 refine wG aY TI ?_
 refine aA [0] t0 TI (A12 aB aC @aF @aE aP aG aU aM aV bL aW bT) (A12 aI aJ @aN @aO aX aR aZ cA bC bY cD cE) ?_
 refine goG aY TI ?_
 refine wG aY TI ?_
 refine aA [0] t1 TI (A12 aB aC @aF @aE aP aG aU aM aV bL aW bT) (A12 aI aJ @aN @aO aX aR aZ cA bC bY cD cE) ?_
 refine goG aY TI ?_
 refine wG aY TI ?_
 refine aA [0] t2 TI (A12 aB aC @aF @aE aP aG aU aM aV bL aW bT) (A12 aI aJ @aN @aO aX aR aZ cA bC bY cD cE) ?_
 refine goG aY TI ?_
 refine wG aY TI ?_
 refine aA [0] t3 TI (A12 aB aC @aF @aE aP aG aU aM aV bL aW bT) (A12 aI aJ @aN @aO aX aR aZ cA bC bY cD cE) ?_
 refine goG aY TI ?_
 refine wG aY TI ?_
 refine aA [0] d TI (A12 aB aC @aF @aE aP aG aU aM aV bL aW bT) (A12 aI aJ @aN @aO aX aR aZ cA bC bY cD cE) ?_
 refine goG aY ND ?_
 refine wG aY ND ?_
 refine fiGen [.cell 2 165] (finG aY) ?_ rfl (idG (A12 aB aC @aF @aE aP aG aU aM aV bL aW bT))
 rw[fZ y]
 all_goals exact wkG (A12 aB aC @aF @aE aP aG aU aM aV bL aW bT)
theorem IQ{ts:List Tk}(hts:ts.length≤4194304)(hok: ∀t∈ts,TkOk t)(hW: ∀t∈ts,TkW t){f:Nat}(hE:ExR ts f)(hB: ∀g,g≤f→BrR ts g):StR ts (f+1):=by
 intro a o hlt hp
 obtain⟨o',ho,r,hr⟩:=hp rfl
 have ho:(o:Int)=o':=ho
 obtain rfl:o=o':=by omega
 have hr:stM ts (f+1) .st a o=some r:=hr
 have hwt:=PE hW a
 have hB0:=hB f (Nat.le_refl f)
 by_cases hk:(pk ts a).kind=1
 ·have hM: ∀o,stM ts (f+1) .st a o=Nk ts f a o:=fun o=>by rw[stM,if_pos hk]
  obtain⟨x,s',q,d⟩:=DN hts hE ⟨a,o,0⟩ (Pre.congr (fun _=>funext hM) hp)
  refine⟨x,s',Post.congr (fun _=>funext hM) q,?_⟩
  obtain⟨a1,o1,e1⟩:=s';have ik:=kP ts a o 0 1 (by decide)
  rw[show decide ((0:Int)=0)=true from rfl,Bool.true_and,decide_eq_true hk]at ik
  clear q hM hr hp;simp only[rbx]at d ⊢;refine dcEnt 40 Tryz.func188 rfl [(0,.pt 0 0)] ?_
  refine wG aY TI ?_;refine aA [0] ik TI (A12 aB aC @aF @aE aP aG aU aM aV bL aW bT) (A12 aI aJ @aN @aO aX aR aZ cA bC bY cD cE) ?_;refine goG aY TI ?_;refine wG aY TI ?_;refine aA [0] d TI (A12 aB aC @aF @aE aP aG aU aM aV bL aW bT) (A12 aI aJ @aN @aO aX aR aZ cA bC bY cD cE) ?_;refine goG aY LIT ?_;refine wG aY LIT ?_;refine fiGen [.cell 2 165] (finG aY) ?_ rfl (idG (A12 aB aC @aF @aE aP aG aU aM aV bL aW bT))
  rw[nU x]
  all_goals exact wkG (A12 aB aC @aF @aE aP aG aU aM aV bL aW bT)
 by_cases hs:sees ts a [115,116,111,114,101,49]=true
 ·have hM:=We (f:=f) hk hs
  have hw:pP ts a 0 stW=1:=Qj (d:=49) hs;obtain⟨x,s',q,d⟩:=Fw hts hE 1 a hlt o (fun _=>⟨o,rfl,r,by show storM ts f 1 (a+1) o=some r;rw[←hM];exact hr⟩)
  refine⟨x,s',postShift (fun o=>(hM o).symm) q,?_⟩
  obtain⟨a1,o1,e1⟩:=s';have ik:=kP ts a o 0 1 (by decide)
  rw[show decide ((0:Int)=0)=true from rfl,Bool.true_and,decide_eq_false hk]at ik
  have iw:=mW ts a o 0 stW (by decide)
  rw[hw]at iw;unfold stW at iw;clear q hM hr hp;simp only[rbx]at d ⊢;refine dcEnt 40 Tryz.func188 rfl [(0,.pt 0 0)] ?_
  refine wG aY TI ?_;refine aA [0] ik TI (A12 aB aC @aF @aE aP aG aU aM aV bL aW bT) (A12 aI aJ @aN @aO aX aR aZ cA bC bY cD cE) ?_;refine goG aY TI ?_;refine wG aY TI ?_;refine aA [0] iw TI (A12 aB aC @aF @aE aP aG aU aM aV bL aW bT) (A12 aI aJ @aN @aO aX aR aZ cA bC bY cD cE) ?_;refine goG aY TI ?_;refine wG aY TI ?_;refine aA [0] d TI (A12 aB aC @aF @aE aP aG aU aM aV bL aW bT) (A12 aI aJ @aN @aO aX aR aZ cA bC bY cD cE) ?_;refine goG aY LIT ?_;refine wG aY LIT ?_;refine fiGen [.cell 2 165] (finG aY) ?_ rfl (idG (A12 aB aC @aF @aE aP aG aU aM aV bL aW bT))
  rw[nU x]
  all_goals exact wkG (A12 aB aC @aF @aE aP aG aU aM aV bL aW bT)
 have n49:=hs
 clear hs
 by_cases hs:sees ts a [115,116,111,114,101,50]=true
 ·have hM:=Wc (f:=f) hk hs
  have hw:pP ts a 0 stW=2:=Qj (d:=50) hs;obtain⟨x,s',q,d⟩:=Fw hts hE 2 a hlt o (fun _=>⟨o,rfl,r,by show storM ts f 2 (a+1) o=some r;rw[←hM];exact hr⟩)
  refine⟨x,s',postShift (fun o=>(hM o).symm) q,?_⟩
  obtain⟨a1,o1,e1⟩:=s';have ik:=kP ts a o 0 1 (by decide)
  rw[show decide ((0:Int)=0)=true from rfl,Bool.true_and,decide_eq_false hk]at ik
  have iw:=mW ts a o 0 stW (by decide)
  rw[hw]at iw;unfold stW at iw;clear q hM hr hp;simp only[rbx]at d ⊢;refine dcEnt 40 Tryz.func188 rfl [(0,.pt 0 0)] ?_
  refine wG aY TI ?_;refine aA [0] ik TI (A12 aB aC @aF @aE aP aG aU aM aV bL aW bT) (A12 aI aJ @aN @aO aX aR aZ cA bC bY cD cE) ?_;refine goG aY TI ?_;refine wG aY TI ?_;refine aA [0] iw TI (A12 aB aC @aF @aE aP aG aU aM aV bL aW bT) (A12 aI aJ @aN @aO aX aR aZ cA bC bY cD cE) ?_;refine goG aY TI ?_;refine wG aY TI ?_;refine aA [0] d TI (A12 aB aC @aF @aE aP aG aU aM aV bL aW bT) (A12 aI aJ @aN @aO aX aR aZ cA bC bY cD cE) ?_;refine goG aY LIT ?_;refine wG aY LIT ?_;refine fiGen [.cell 2 165] (finG aY) ?_ rfl (idG (A12 aB aC @aF @aE aP aG aU aM aV bL aW bT))
  rw[nU x]
  all_goals exact wkG (A12 aB aC @aF @aE aP aG aU aM aV bL aW bT)
 have n50:=hs
 clear hs
 by_cases hs:sees ts a [115,116,111,114,101,52]=true
 ·have hM:=Wb (f:=f) hk hs
  have hw:pP ts a 0 stW=4:=Qj (d:=52) hs;obtain⟨x,s',q,d⟩:=Fw hts hE 4 a hlt o (fun _=>⟨o,rfl,r,by show storM ts f 4 (a+1) o=some r;rw[←hM];exact hr⟩)
  refine⟨x,s',postShift (fun o=>(hM o).symm) q,?_⟩
  obtain⟨a1,o1,e1⟩:=s';have ik:=kP ts a o 0 1 (by decide)
  rw[show decide ((0:Int)=0)=true from rfl,Bool.true_and,decide_eq_false hk]at ik
  have iw:=mW ts a o 0 stW (by decide)
  rw[hw]at iw;unfold stW at iw;clear q hM hr hp;simp only[rbx]at d ⊢;refine dcEnt 40 Tryz.func188 rfl [(0,.pt 0 0)] ?_
  refine wG aY TI ?_;refine aA [0] ik TI (A12 aB aC @aF @aE aP aG aU aM aV bL aW bT) (A12 aI aJ @aN @aO aX aR aZ cA bC bY cD cE) ?_;refine goG aY TI ?_;refine wG aY TI ?_;refine aA [0] iw TI (A12 aB aC @aF @aE aP aG aU aM aV bL aW bT) (A12 aI aJ @aN @aO aX aR aZ cA bC bY cD cE) ?_;refine goG aY TI ?_;refine wG aY TI ?_;refine aA [0] d TI (A12 aB aC @aF @aE aP aG aU aM aV bL aW bT) (A12 aI aJ @aN @aO aX aR aZ cA bC bY cD cE) ?_;refine goG aY LIT ?_;refine wG aY LIT ?_;refine fiGen [.cell 2 165] (finG aY) ?_ rfl (idG (A12 aB aC @aF @aE aP aG aU aM aV bL aW bT))
  rw[nU x]
  all_goals exact wkG (A12 aB aC @aF @aE aP aG aU aM aV bL aW bT)
 have n52:=hs
 clear hs
 by_cases hs:sees ts a [105,102]=true
 ·have hM:=OW (f:=f) hk hs
  have hw:pP ts a 0 stW=0:=Cv hs (by intro d;simp[stW])
  have h1:sees ts a [105,102]=true:=hs;obtain⟨x,s',q,d⟩:=JM hts hE hB0 ⟨a+1,o,0⟩ (fun _=>⟨o,rfl,r,by show conM ts f (a+1) o=some r;rw[←hM];exact hr⟩)
  refine⟨x,s',postShift (fun o=>(hM o).symm) q,?_⟩
  obtain⟨a1,o1,e1⟩:=s';have ik:=kP ts a o 0 1 (by decide)
  rw[show decide ((0:Int)=0)=true from rfl,Bool.true_and,decide_eq_false hk]at ik
  have iw:=mW ts a o 0 stW (by decide)
  rw[hw]at iw;unfold stW at iw;have t0:=fR ts a o 0 [105,102] hts;rw[fY,h1,if_pos rfl]at t0;clear q hM hr hp;simp only[rbx]at d ⊢;refine dcEnt 40 Tryz.func188 rfl [(0,.pt 0 0)] ?_
  refine wG aY TI ?_;refine aA [0] ik TI (A12 aB aC @aF @aE aP aG aU aM aV bL aW bT) (A12 aI aJ @aN @aO aX aR aZ cA bC bY cD cE) ?_;refine goG aY TI ?_;refine wG aY TI ?_;refine aA [0] iw TI (A12 aB aC @aF @aE aP aG aU aM aV bL aW bT) (A12 aI aJ @aN @aO aX aR aZ cA bC bY cD cE) ?_;refine goG aY TI ?_;refine wG aY TI ?_;refine aA [0] t0 TI (A12 aB aC @aF @aE aP aG aU aM aV bL aW bT) (A12 aI aJ @aN @aO aX aR aZ cA bC bY cD cE) ?_;refine goG aY TI ?_;refine wG aY TI ?_;refine aA [0] d TI (A12 aB aC @aF @aE aP aG aU aM aV bL aW bT) (A12 aI aJ @aN @aO aX aR aZ cA bC bY cD cE) ?_;refine goG aY LIT ?_;refine wG aY LIT ?_;refine fiGen [.cell 2 165] (finG aY) ?_ rfl (idG (A12 aB aC @aF @aE aP aG aU aM aV bL aW bT))
  rw[nU x]
  all_goals exact wkG (A12 aB aC @aF @aE aP aG aU aM aV bL aW bT)
 have h1:sees ts a [105,102]=false:=by rw[←Bool.not_eq_true];exact hs
 clear hs
 by_cases hs:sees ts a [115,119,105,116,99,104]=true
 ·have hM:=Wa (f:=f) hk hs
  have hw:pP ts a 0 stW=0:=Cv hs (by intro d;simp[stW])
  have h1:sees ts a [105,102]=false:=rI hs (by decide)
  have h2:sees ts a [115,119,105,116,99,104]=true:=hs;obtain⟨x,s',q,d⟩:=OB hts hok hE (fun g hg=>hB g (by omega)) ⟨a+1,o,0⟩ (fun _=>⟨o,rfl,r,by show choM ts f (a+1) o=some r;rw[←hM];exact hr⟩)
  refine⟨x,s',postShift (fun o=>(hM o).symm) q,?_⟩
  obtain⟨a1,o1,e1⟩:=s';have ik:=kP ts a o 0 1 (by decide)
  rw[show decide ((0:Int)=0)=true from rfl,Bool.true_and,decide_eq_false hk]at ik
  have iw:=mW ts a o 0 stW (by decide)
  rw[hw]at iw;unfold stW at iw;have t0:=fR ts a o 0 [105,102] hts;rw[fY,h1,if_neg (by decide)]at t0
  have t1:=fR ts a o 0 [115,119,105,116,99,104] hts;rw[fY,h2,if_pos rfl]at t1;clear q hM hr hp;simp only[rbx]at d ⊢;refine dcEnt 40 Tryz.func188 rfl [(0,.pt 0 0)] ?_
  refine wG aY TI ?_;refine aA [0] ik TI (A12 aB aC @aF @aE aP aG aU aM aV bL aW bT) (A12 aI aJ @aN @aO aX aR aZ cA bC bY cD cE) ?_;refine goG aY TI ?_;refine wG aY TI ?_;refine aA [0] iw TI (A12 aB aC @aF @aE aP aG aU aM aV bL aW bT) (A12 aI aJ @aN @aO aX aR aZ cA bC bY cD cE) ?_;refine goG aY TI ?_;refine wG aY TI ?_;refine aA [0] t0 TI (A12 aB aC @aF @aE aP aG aU aM aV bL aW bT) (A12 aI aJ @aN @aO aX aR aZ cA bC bY cD cE) ?_;refine goG aY TI ?_;refine wG aY TI ?_;refine aA [0] t1 TI (A12 aB aC @aF @aE aP aG aU aM aV bL aW bT) (A12 aI aJ @aN @aO aX aR aZ cA bC bY cD cE) ?_;refine goG aY TI ?_;refine wG aY TI ?_;refine aA [0] d TI (A12 aB aC @aF @aE aP aG aU aM aV bL aW bT) (A12 aI aJ @aN @aO aX aR aZ cA bC bY cD cE) ?_;refine goG aY LIT ?_;refine wG aY LIT ?_;refine fiGen [.cell 2 165] (finG aY) ?_ rfl (idG (A12 aB aC @aF @aE aP aG aU aM aV bL aW bT))
  rw[nU x]
  all_goals exact wkG (A12 aB aC @aF @aE aP aG aU aM aV bL aW bT)
 have h2:sees ts a [115,119,105,116,99,104]=false:=by rw[←Bool.not_eq_true];exact hs
 clear hs
 by_cases hs:sees ts a [119,104,105,108,101]=true
 ·have hM:=Zy (f:=f) hk hs
  have hw:pP ts a 0 stW=0:=Cv hs (by intro d;simp[stW])
  have h1:sees ts a [105,102]=false:=rI hs (by decide)
  have h2:sees ts a [115,119,105,116,99,104]=false:=rI hs (by decide)
  have h3:sees ts a [119,104,105,108,101]=true:=hs;have hp2:Pre (fun a o=>rb (exM ts f (.ex 1) a o) fun x a o=>rb (stM ts f .br a o) fun l a o=>ret (oneS (.mk 7 0 ByteArray.empty [x] (l.headD []) [] [])) a o) ⟨a+1,o,0⟩:=fun _=>⟨o,rfl,r,by rw[←hr,hM]⟩
  obtain⟨x,⟨a1,o1,e1⟩,q1,d1⟩:=hE 1 (by decide) ⟨a+1,o,0⟩ hp2.fst
  have p1:=hp2.snd q1;obtain⟨l,⟨a2,o2,e2⟩,q2,d2⟩:=hB0 ⟨a1,o1,e1⟩ p1.fst;refine⟨oneS (.mk 7 0 ByteArray.empty [x] (l.headD []) [] []),⟨a2,o2,e2⟩,postShift (fun o=>(hM o).symm) (q1.bind (k:=fun x a o=>rb (stM ts f .br a o) fun l a o=>ret (oneS (.mk 7 0 ByteArray.empty [x] (l.headD []) [] [])) a o) (q2.bind (Post.ret (p1.snd q2)))),?_⟩
  rw[Re]at d1;rw[Cy]at d2;generalize l.headD []=l at d2 ⊢;obtain⟨B,hB1⟩: ∃B,B=[x]:=⟨_,rfl⟩
  have hAs:[exV x]=B.map exV:=by rw[hB1];rfl
  have hAs2:[V.ag [(.im (.int .i64 (x.op))),.im (.int .u32 x.n),.im (.string x.name),(.im (.int .i64 (x.width))),.sl (x.l.map exV) .ro]]=B.map exV:=by rw[hB1,List.map_cons,List.map_nil,bW x]
  rw[←hB1];have ik:=kP ts a o 0 1 (by decide)
  rw[show decide ((0:Int)=0)=true from rfl,Bool.true_and,decide_eq_false hk]at ik
  have iw:=mW ts a o 0 stW (by decide)
  rw[hw]at iw;unfold stW at iw;have t0:=fR ts a o 0 [105,102] hts;rw[fY,h1,if_neg (by decide)]at t0
  have t1:=fR ts a o 0 [115,119,105,116,99,104] hts;rw[fY,h2,if_neg (by decide)]at t1
  have t2:=fR ts a o 0 [119,104,105,108,101] hts;rw[fY,h3,if_pos rfl]at t2;clear q1 q2 p1 hp2 hM hr hp;simp only[rbx]at d1 d2 ⊢;refine dcEnt 40 Tryz.func188 rfl [(0,.pt 0 0)] ?_
  refine wG aY TI ?_;refine aA [0] ik TI (A12 aB aC @aF @aE aP aG aU aM aV bL aW bT) (A12 aI aJ @aN @aO aX aR aZ cA bC bY cD cE) ?_;refine goG aY TI ?_;refine wG aY TI ?_;refine aA [0] iw TI (A12 aB aC @aF @aE aP aG aU aM aV bL aW bT) (A12 aI aJ @aN @aO aX aR aZ cA bC bY cD cE) ?_;refine goG aY TI ?_;refine wG aY TI ?_;refine aA [0] t0 TI (A12 aB aC @aF @aE aP aG aU aM aV bL aW bT) (A12 aI aJ @aN @aO aX aR aZ cA bC bY cD cE) ?_;refine goG aY TI ?_;refine wG aY TI ?_;refine aA [0] t1 TI (A12 aB aC @aF @aE aP aG aU aM aV bL aW bT) (A12 aI aJ @aN @aO aX aR aZ cA bC bY cD cE) ?_;refine goG aY TI ?_;refine wG aY TI ?_;refine aA [0] t2 TI (A12 aB aC @aF @aE aP aG aU aM aV bL aW bT) (A12 aI aJ @aN @aO aX aR aZ cA bC bY cD cE) ?_;refine goG aY TI ?_;refine wG aY TI ?_;refine aA [0] d1 TI (A12 aB aC @aF @aE aP aG aU aM aV bL aW bT) (A12 aI aJ @aN @aO aX aR aZ cA bC bY cD cE) ?_;refine goG aY BN01 ?_;refine wdG aY (A10 @dJ @cQ @dH @dG @dI @cR @List.getElem?_map.{0,0} @Int.natCast_nonneg hAs hAs2) ?_;refine aA [0] d2 TI (A12 aB aC @aF @aE aP aG aU aM aV bL aW bT) (A12 aI aJ @aN @aO aX aR aZ cA bC bY cD cE) ?_;refine goG aY (A10 @dJ @cQ @dH @dG @dI @cR @List.getElem?_map.{0,0} @Int.natCast_nonneg hAs hAs2) ?_;refine wdG aY (A10 @dJ @cQ @dH @dG @dI @cR @List.getElem?_map.{0,0} @Int.natCast_nonneg hAs hAs2) ?_;refine fiGen [.cell 2 165] (finG aY) ?_ rfl (idG (A12 aB aC @aF @aE aP aG aU aM aV bL aW bT))
  simp only[iD,gH,List.map_nil]
  all_goals exact wkG (A12 aB aC @aF @aE aP aG aU aM aV bL aW bT)
 have h3:sees ts a [119,104,105,108,101]=false:=by rw[←Bool.not_eq_true];exact hs
 clear hs
 by_cases hs:sees ts a [108,111,111,112]=true
 ·have hM:=GF (f:=f) hk hs
  have hw:pP ts a 0 stW=0:=Cv hs (by intro d;simp[stW])
  have h1:sees ts a [105,102]=false:=rI hs (by decide)
  have h2:sees ts a [115,119,105,116,99,104]=false:=rI hs (by decide)
  have h3:sees ts a [119,104,105,108,101]=false:=rI hs (by decide)
  have h4:sees ts a [108,111,111,112]=true:=hs;have hp2:Pre (fun a o=>rb (stM ts f .br a o) fun l a o=>ret (oneS (.mk 8 0 ByteArray.empty [] (l.headD []) [] [])) a o) ⟨a+1,o,0⟩:=fun _=>⟨o,rfl,r,by rw[←hr,hM]⟩
  obtain⟨l,⟨a2,o2,e2⟩,q2,d2⟩:=hB0 ⟨a+1,o,0⟩ hp2.fst;refine⟨oneS (.mk 8 0 ByteArray.empty [] (l.headD []) [] []),⟨a2,o2,e2⟩,postShift (fun o=>(hM o).symm) (q2.bind (k:=fun l a o=>ret (oneS (.mk 8 0 ByteArray.empty [] (l.headD []) [] [])) a o) (Post.ret (hp2.snd q2))),?_⟩
  rw[Cy]at d2;generalize l.headD []=l at d2 ⊢;have ik:=kP ts a o 0 1 (by decide)
  rw[show decide ((0:Int)=0)=true from rfl,Bool.true_and,decide_eq_false hk]at ik
  have iw:=mW ts a o 0 stW (by decide)
  rw[hw]at iw;unfold stW at iw;have t0:=fR ts a o 0 [105,102] hts;rw[fY,h1,if_neg (by decide)]at t0
  have t1:=fR ts a o 0 [115,119,105,116,99,104] hts;rw[fY,h2,if_neg (by decide)]at t1
  have t2:=fR ts a o 0 [119,104,105,108,101] hts;rw[fY,h3,if_neg (by decide)]at t2
  have t3:=fR ts a o 0 [108,111,111,112] hts;rw[fY,h4,if_pos rfl]at t3;clear q2 hp2 hM hr hp;simp only[rbx]at d2 ⊢;refine dcEnt 40 Tryz.func188 rfl [(0,.pt 0 0)] ?_
  refine wG aY TI ?_;refine aA [0] ik TI (A12 aB aC @aF @aE aP aG aU aM aV bL aW bT) (A12 aI aJ @aN @aO aX aR aZ cA bC bY cD cE) ?_;refine goG aY TI ?_;refine wG aY TI ?_;refine aA [0] iw TI (A12 aB aC @aF @aE aP aG aU aM aV bL aW bT) (A12 aI aJ @aN @aO aX aR aZ cA bC bY cD cE) ?_;refine goG aY TI ?_;refine wG aY TI ?_;refine aA [0] t0 TI (A12 aB aC @aF @aE aP aG aU aM aV bL aW bT) (A12 aI aJ @aN @aO aX aR aZ cA bC bY cD cE) ?_;refine goG aY TI ?_;refine wG aY TI ?_;refine aA [0] t1 TI (A12 aB aC @aF @aE aP aG aU aM aV bL aW bT) (A12 aI aJ @aN @aO aX aR aZ cA bC bY cD cE) ?_;refine goG aY TI ?_;refine wG aY TI ?_;refine aA [0] t2 TI (A12 aB aC @aF @aE aP aG aU aM aV bL aW bT) (A12 aI aJ @aN @aO aX aR aZ cA bC bY cD cE) ?_;refine goG aY TI ?_;refine wG aY TI ?_;refine aA [0] t3 TI (A12 aB aC @aF @aE aP aG aU aM aV bL aW bT) (A12 aI aJ @aN @aO aX aR aZ cA bC bY cD cE) ?_;refine goG aY TI ?_;refine wG aY TI ?_;refine aA [0] d2 TI (A12 aB aC @aF @aE aP aG aU aM aV bL aW bT) (A12 aI aJ @aN @aO aX aR aZ cA bC bY cD cE) ?_;refine goG aY TI ?_;refine wG aY TI ?_;refine fiGen [.cell 2 165] (finG aY) ?_ rfl (idG (A12 aB aC @aF @aE aP aG aU aM aV bL aW bT))
  simp only[iD,gH,List.map_nil]
  all_goals exact wkG (A12 aB aC @aF @aE aP aG aU aM aV bL aW bT)
 have h4:sees ts a [108,111,111,112]=false:=by rw[←Bool.not_eq_true];exact hs
 clear hs
 have hw:pP ts a 0 stW=0:=Te fun d=>by
  rw[←Bool.not_eq_true];intro hh;rcases LN hwt hh with rfl|rfl|rfl
  ·exact n49 hh
  ·exact n50 hh
  ·exact n52 hh
 by_cases hs:sees ts a [98,114,101,97,107]=true
 ·have hM:=Zz (f:=f) hk hs
  have hp2:Pre (fun a o=>rb (expM ts [59] a o) fun _ a o=>ret (oneS (.mk 10 0 ByteArray.empty [] [] [] [])) a o) ⟨a+1,o,0⟩:=fun _=>⟨o,rfl,r,by rw[←hr,hM];rfl⟩
  obtain⟨s',q2,_,d2⟩:=gZ ts hts ⟨a+1,o,0⟩ [59] hp2.fst;exact⟨oneS (.mk 10 0 ByteArray.empty [] [] [] []),s',postShift (fun o=>(hM o).symm) (q2.bind (k:=fun _ a o=>ret (oneS (.mk 10 0 ByteArray.empty [] [] [] [])) a o) (Post.ret (hp2.snd q2))),rP hts hk hw h1 h2 h3 h4 (tX hts 0 rfl rfl hs (.no (by decide) (by decide) (by decide) d2))⟩
 have m0:sees ts a [98,114,101,97,107]=false:=by rw[←Bool.not_eq_true];exact hs
 clear hs
 by_cases hs:sees ts a [99,111,110,116,105,110,117,101]=true
 ·have hM:=Ms (f:=f) hk hs
  have hp2:Pre (fun a o=>rb (expM ts [59] a o) fun _ a o=>ret (oneS (.mk 11 0 ByteArray.empty [] [] [] [])) a o) ⟨a+1,o,0⟩:=fun _=>⟨o,rfl,r,by rw[←hr,hM];rfl⟩
  obtain⟨s',q2,_,d2⟩:=gZ ts hts ⟨a+1,o,0⟩ [59] hp2.fst;exact⟨oneS (.mk 11 0 ByteArray.empty [] [] [] []),s',postShift (fun o=>(hM o).symm) (q2.bind (k:=fun _ a o=>ret (oneS (.mk 11 0 ByteArray.empty [] [] [] [])) a o) (Post.ret (hp2.snd q2))),rP hts hk hw h1 h2 h3 h4 (tX hts 1 rfl rfl hs (.no (by decide) (by decide) (by decide) d2))⟩
 have m1:sees ts a [99,111,110,116,105,110,117,101]=false:=by rw[←Bool.not_eq_true];exact hs
 clear hs
 by_cases hs:sees ts a [114,101,116,117,114,110]=true
 ·have hM:=Wf (f:=f) hk hs
  have hp2:Pre (fun a o=>rb (expM ts [59] a o) fun _ a o=>ret (oneS (.mk 14 0 ByteArray.empty [] [] [] [])) a o) ⟨a+1,o,0⟩:=fun _=>⟨o,rfl,r,by rw[←hr,hM];rfl⟩
  obtain⟨s',q2,_,d2⟩:=gZ ts hts ⟨a+1,o,0⟩ [59] hp2.fst;exact⟨oneS (.mk 14 0 ByteArray.empty [] [] [] []),s',postShift (fun o=>(hM o).symm) (q2.bind (k:=fun _ a o=>ret (oneS (.mk 14 0 ByteArray.empty [] [] [] [])) a o) (Post.ret (hp2.snd q2))),rP hts hk hw h1 h2 h3 h4 (tX hts 2 rfl rfl hs (.no (by decide) (by decide) (by decide) d2))⟩
 have m2:sees ts a [114,101,116,117,114,110]=false:=by rw[←Bool.not_eq_true];exact hs
 clear hs
 by_cases hs:sees ts a [104,97,108,116]=true
 ·have hM:=GG (f:=f) hk hs
  have hp2:Pre (fun a o=>rb (expM ts [59] a o) fun _ a o=>ret (oneS (.mk 15 0 ByteArray.empty [] [] [] [])) a o) ⟨a+1,o,0⟩:=fun _=>⟨o,rfl,r,by rw[←hr,hM];rfl⟩
  obtain⟨s',q2,_,d2⟩:=gZ ts hts ⟨a+1,o,0⟩ [59] hp2.fst;exact⟨oneS (.mk 15 0 ByteArray.empty [] [] [] []),s',postShift (fun o=>(hM o).symm) (q2.bind (k:=fun _ a o=>ret (oneS (.mk 15 0 ByteArray.empty [] [] [] [])) a o) (Post.ret (hp2.snd q2))),rP hts hk hw h1 h2 h3 h4 (tX hts 3 rfl rfl hs (.no (by decide) (by decide) (by decide) d2))⟩
 have m3:sees ts a [104,97,108,116]=false:=by rw[←Bool.not_eq_true];exact hs
 clear hs
 by_cases hs:sees ts a [103,111,116,111]=true
 ·have hM:=GH (f:=f) hk hs
  have hp2:Pre (fun a o=>rb (nmM ts a o) fun n a o=>rb (expM ts [59] a o) fun _ a o=>ret (oneS (.mk 12 0 n [] [] [] [])) a o) ⟨a+1,o,0⟩:=fun _=>⟨o,rfl,r,by rw[←hr,hM]⟩
  obtain⟨n,⟨a1,o1,e1⟩,q1,_,d1⟩:=rQ ts hts ⟨a+1,o,0⟩ hp2.fst;have p1:=hp2.snd q1;obtain⟨s',q2,_,d2⟩:=gZ ts hts ⟨a1,o1,e1⟩ [59] p1.fst;exact⟨oneS (.mk 12 0 n [] [] [] []),s',postShift (fun o=>(hM o).symm) (q1.bind (k:=fun n a o=>rb (expM ts [59] a o) fun _ a o=>ret (oneS (.mk 12 0 n [] [] [] [])) a o) (q2.bind (Post.ret (p1.snd q2)))),rP hts hk hw h1 h2 h3 h4 (tX hts 4 rfl rfl hs (.nm (by decide) d1 d2))⟩
 have m4:sees ts a [103,111,116,111]=false:=by rw[←Bool.not_eq_true];exact hs
 clear hs
 by_cases hs:sees ts a [99,97,108,108]=true
 ·have hM:=GI (f:=f) hk hs
  have hp2:Pre (fun a o=>rb (nmM ts a o) fun n a o=>rb (expM ts [59] a o) fun _ a o=>ret (oneS (.mk 5 0 n [] [] [] [])) a o) ⟨a+1,o,0⟩:=fun _=>⟨o,rfl,r,by rw[←hr,hM]⟩
  obtain⟨n,⟨a1,o1,e1⟩,q1,_,d1⟩:=rQ ts hts ⟨a+1,o,0⟩ hp2.fst;have p1:=hp2.snd q1;obtain⟨s',q2,_,d2⟩:=gZ ts hts ⟨a1,o1,e1⟩ [59] p1.fst;exact⟨oneS (.mk 5 0 n [] [] [] []),s',postShift (fun o=>(hM o).symm) (q1.bind (k:=fun n a o=>rb (expM ts [59] a o) fun _ a o=>ret (oneS (.mk 5 0 n [] [] [] [])) a o) (q2.bind (Post.ret (p1.snd q2)))),rP hts hk hw h1 h2 h3 h4 (tX hts 5 rfl rfl hs (.nm (by decide) d1 d2))⟩
 have m5:sees ts a [99,97,108,108]=false:=by rw[←Bool.not_eq_true];exact hs
 clear hs
 by_cases hs:sees ts a [111,117,116]=true
 ·have hM:=LL (f:=f) hk hs
  have hp2:Pre (fun a o=>rb (exM ts f (.ex 1) a o) fun x a o=>rb (expM ts [59] a o) fun _ a o=>ret (oneS (.mk 4 0 ByteArray.empty [x] [] [] [])) a o) ⟨a+1,o,0⟩:=fun _=>⟨o,rfl,r,by rw[←hr,hM]⟩
  obtain⟨x,⟨a1,o1,e1⟩,q1,d1⟩:=hE 1 (by decide) ⟨a+1,o,0⟩ hp2.fst
  have p1:=hp2.snd q1;obtain⟨s',q2,_,d2⟩:=gZ ts hts ⟨a1,o1,e1⟩ [59] p1.fst;rw[Re]at d1;exact⟨oneS (.mk 4 0 ByteArray.empty [x] [] [] []),s',postShift (fun o=>(hM o).symm) (q1.bind (k:=fun x a o=>rb (expM ts [59] a o) fun _ a o=>ret (oneS (.mk 4 0 ByteArray.empty [x] [] [] [])) a o) (q2.bind (Post.ret (p1.snd q2)))),rP hts hk hw h1 h2 h3 h4 (tX hts 6 rfl rfl hs (.ex d1 d2))⟩
 have m6:sees ts a [111,117,116]=false:=by rw[←Bool.not_eq_true];exact hs
 clear hs
 have hM:=GE (f:=f) hk (fun x hx=>by
  simp only[List.mem_cons,List.not_mem_nil,or_false]at hx;rcases hx with rfl|rfl|rfl|rfl|rfl|rfl|rfl|rfl|rfl|rfl|rfl|rfl|rfl|rfl
  ·exact m4
  ·exact m5
  ·rw[←Bool.not_eq_true];exact n49
  ·rw[←Bool.not_eq_true];exact n50
  ·rw[←Bool.not_eq_true];exact n52
  ·exact m6
  ·exact h1
  ·exact h3
  ·exact h4
  ·exact h2
  ·exact m0
  ·exact m1
  ·exact m2
  ·exact m3)
 exact⟨oneS nd0,⟨a,o,3⟩,Post.of_bad (hM o) (by decide),rP hts hk hw h1 h2 h3 h4 (IU hts fun w hw=>by
  unfold smW at hw;simp only[List.mem_cons,List.not_mem_nil,or_false]at hw
  rcases hw with rfl|rfl|rfl|rfl|rfl|rfl|rfl<;>assumption)⟩
theorem NJ{ts:List Tk}(hts:ts.length≤4194304)(hok: ∀t∈ts,TkOk t)(hW: ∀t∈ts,TkW t): ∀F f,f≤F→StR ts f∧BrR ts f:=by
 intro F
 induction F with
 | zero =>
  intro f hf;obtain rfl:f=0:=by omega
  refine⟨fun a o _ hp=> ?_,fun s hp=> ?_⟩
  ·obtain⟨_,_,r,hr⟩:=hp rfl
   cases hr
  ·by_cases he:s.e=0
   ·obtain⟨o,_,r,hr⟩:=hp he
    cases hr
   ·obtain⟨x,s',h1,h2,d⟩:=Pd ts hts s he
    exact⟨x,s',Post.of_err he h1 h2,d⟩
 | succ F ih =>
  intro f hf
  by_cases hle:f≤F
  ·exact ih f hle
  obtain rfl:f=F+1:=by omega
  exact⟨IQ hts hok hW (QL hts hok hW F) fun g hg=>(ih g hg).2,EI hts F fun g hg=>(ih g (by omega)).1⟩
theorem QF{ts:List Tk}(hts:ts.length≤4194304)(hok: ∀t∈ts,TkOk t)(hW: ∀t∈ts,TkW t)(f:Nat):StR ts f:=(NJ hts hok hW f f (Nat.le_refl _)).1
def lK:=A7 @gR @Do @qD @pH @Vb @gO @jS
theorem CZ{ts:List Tk}{f:Nat}(hts:ts.length≤4194304)(hok: ∀t∈ts,TkOk t)(s:Sr)(hp:Pre (varM ts f) s): ∃x s',Post (varM ts f) s x s'∧DC Tryz.prog 113 [.pt 0 0] [rbx ts s] (vaV x) [rbx ts s']:=by
 unfold varM at hp ⊢
 obtain⟨⟨a1,o1,e1⟩,q1,b1,d1⟩:=gZ ts hts s [118,97,114] hp.fst
 have p1:=hp.snd q1
 obtain⟨n,⟨a2,o2,e2⟩,q2,b2,d2⟩:=rQ ts hts ⟨a1,o1,e1⟩ p1.fst
 have p2:=p1.snd q2
 obtain⟨⟨a3,o3,e3⟩,q3,b3,d3⟩:=gZ ts hts ⟨a2,o2,e2⟩ [58] p2.fst
 have p3:=p2.snd q3
 obtain⟨x,⟨a4,o4,e4⟩,q4,d4⟩:=NH hts hok f ⟨a3,o3,e3⟩ p3.fst
 have p4:=p3.snd q4
 obtain⟨⟨a5,o5,e5⟩,q5,b5,d5⟩:=gZ ts hts ⟨a4,o4,e4⟩ [59] p4.fst
 refine⟨⟨n,x⟩,⟨a5,o5,e5⟩,q1.bind (q2.bind (q3.bind (q4.bind (q5.bind (Post.ret (p4.snd q5)))))),?_⟩
 obtain⟨a,o,e⟩:=s
 clear q1 q2 q3 q4 q5 p1 p2 p3 p4 hp b1 b2 b3 b5
 simp only[rbx]at d1 d2 d3 d4 d5 ⊢
 refine dcEnt 18 Tryz.func113 rfl [(0,.pt 0 0)] ?_
 refine wG lK TI ?_
 refine aA [0] d1 TI (A13 aB aC @bN @bP @bO @bQ @aL @aK aP aG aV eW bM) (A13 aI aJ @eJ @eN @eM @eO @bI @bF aX aR bC fI cP) ?_
 refine goG lK TI ?_
 refine wG lK TI ?_
 refine aA [0] d2 TI (A13 aB aC @bN @bP @bO @bQ @aL @aK aP aG aV eW bM) (A13 aI aJ @eJ @eN @eM @eO @bI @bF aX aR bC fI cP) ?_
 refine goG lK TI ?_
 refine wG lK TI ?_
 refine aA [0] d3 TI (A13 aB aC @bN @bP @bO @bQ @aL @aK aP aG aV eW bM) (A13 aI aJ @eJ @eN @eM @eO @bI @bF aX aR bC fI cP) ?_
 refine goG lK TI ?_
 refine wG lK TI ?_
 refine aA [0] d4 TI (A13 aB aC @bN @bP @bO @bQ @aL @aK aP aG aV eW bM) (A13 aI aJ @eJ @eN @eM @eO @bI @bF aX aR bC fI cP) ?_
 refine goG lK BN07 ?_
 refine wG lK BN07 ?_
 refine aA [0] d5 TI (A13 aB aC @bN @bP @bO @bQ @aL @aK aP aG aV eW bM) (A13 aI aJ @eJ @eN @eM @eO @bI @bF aX aR bC fI cP) ?_
 refine goG lK BN07 ?_
 refine wG lK BN07 ?_
 refine fiGen [.cell 2 96] (finG lK) ?_ rfl (idG (A13 aB aC @bN @bP @bO @bQ @aL @aK aP aG aV eW bM))
 rw[Ai]
 all_goals exact wkG (A13 aB aC @bN @bP @bO @bQ @aL @aK aP aG aV eW bM)
theorem Uw{ts:List Tk}{x:Bs}{s:Sr}(hp:s.e=0→ ∃o:Nat,s.o=o):Post (accM ts x) s (isR ts s.a s.e x) ⟨if isR ts s.a s.e x=true then s.a+1 else s.a,s.o,s.e⟩:=by
 obtain⟨a,o,e⟩:=s
 by_cases he:e=0
 case neg =>
  refine Post.of_err he ?_ rfl;show(if isR ts a e x=true then a+1 else a)=a
  rw[uV he,if_neg (by decide)]
 subst he
 obtain⟨p,hpp⟩:=hp rfl
 have hpp:o=(p:Int):=hpp
 subst hpp
 show Post (accM ts x) ⟨a,p,0⟩ (isR ts a 0 x) ⟨if isR ts a 0 x=true then a+1 else a,p,0⟩
 rw[fY]
 cases hs:sees ts a x with
 | true=>rw[if_pos rfl];exact Post.of_ok (by unfold accM;rw[hs,if_pos rfl];rfl)
 | false=>rw[if_neg (by decide)];exact Post.of_ok (by unfold accM;rw[hs,if_neg (by decide)];rfl)
theorem GC{ts:List Tk}{k:Int}{s:Sr}(hp:s.e=0→ ∃o:Nat,s.o=o):Post (takM ts k) s (if s.e=0∧(pk ts s.a).kind=k then pk ts s.a else tk0) (if s.e=0∧(pk ts s.a).kind=k then⟨s.a+1,s.o,s.e⟩else⟨s.a,s.o,if s.e=0 then 3 else s.e⟩):=by
 obtain⟨a,o,e⟩:=s
 by_cases he:e=0
 case neg =>
  simp only[he,false_and,if_false];exact Post.of_err he rfl rfl
 subst he
 obtain⟨p,hpp⟩:=hp rfl
 have hpp:o=(p:Int):=hpp
 subst hpp
 by_cases hk:(pk ts a).kind=k
 ·simp only[hk,true_and,if_true]
  exact Post.of_ok (by unfold takM;rw[if_neg (by simpa using hk)])
 ·simp only[hk,and_false,if_false,if_true]
  exact Post.of_bad (by unfold takM;rw[if_pos hk]) (by decide)
def dK:=A16 @oO @cJ @Hc @Aa @Dp @dY @zY @lN @pG @lE @gP @uM @tK @Bt @Br (A13 @uL @xS @Vc @oI @kG @cH @Gn @zT @pE @dM @pS @uJ @gI)
theorem OA{ts:List Tk}(hts:ts.length≤4194304)(hok: ∀t∈ts,TkOk t)(s:Sr)(hp:Pre (datM ts) s): ∃x s',Post (datM ts) s x s'∧DC Tryz.prog 114 [.pt 0 0] [rbx ts s] (scV x) [rbx ts s']:=by
 unfold datM at hp ⊢
 obtain⟨⟨a1,o1,e1⟩,q1,b1,d1⟩:=gZ ts hts s [100,97,116,97] hp.fst
 have p1:=hp.snd q1
 obtain⟨n,⟨a2,o2,e2⟩,q2,b2,d2⟩:=rQ ts hts ⟨a1,o1,e1⟩ p1.fst
 have p2:=p1.snd q2
 obtain⟨d,⟨a3,o3,e3⟩,q3,b3,hd,d3⟩:=xM ts hts hok ⟨a2,o2,e2⟩ p2.fst
 have p3:=p2.snd q3
 have q4:=Uw (ts:=ts) (x:=[119,114,105,116,101]) (s:=⟨a3,o3,e3⟩) (fun h=>(p3 h).imp fun _ h=>h.1)
 have d4:=fR ts a3 o3 e3 [119,114,105,116,101] hts
 have p4:=p3.snd q4
 simp only at q4 p4
 generalize hw:isR ts a3 e3 [119,114,105,116,101]=w at q4 d4 p4
 generalize (if w=true then a3+1 else a3)=a4 at q4 d4 p4
 have q5:=Uw (ts:=ts) (x:=[101,120,101,99]) (s:=⟨a4,o3,e3⟩) (fun h=>(p4 h).imp fun _ h=>h.1)
 have d5:=fR ts a4 o3 e3 [101,120,101,99] hts
 have p5:=p4.snd q5
 simp only at q5 p5
 generalize hx:isR ts a4 e3 [101,120,101,99]=x at q5 d5 p5
 generalize (if x=true then a4+1 else a4)=a5 at q5 d5 p5
 obtain⟨⟨a6,o6,e6⟩,q6,b6,d6⟩:=gZ ts hts ⟨a5,o3,e3⟩ [61] p5.fst
 have p6:=p5.snd q6
 have q7:=GC (ts:=ts) (k:=4) (s:=⟨a6,o6,e6⟩) (fun h=>(p6 h).imp fun _ h=>h.1)
 have d7:=kP ts a6 o6 e6 4 (by decide)
 have p7:=p6.snd q7
 simp only at q7 p7
 by_cases h4:e6=0∧(pk ts a6).kind=4
 ·rw[if_pos h4,if_pos h4]at q7
  rw[if_pos h4,if_pos h4]at p7;obtain⟨rfl,hk⟩:=h4;rw[decide_eq_true hk,show decide ((0:Int)=0)=true from rfl,Bool.and_true]at d7
  obtain⟨⟨a8,o8,e8⟩,q8,b8,d8⟩:=gZ ts hts ⟨a6+1,o6,0⟩ [59] p7.fst;refine⟨⟨n,d.n,(pk ts a6).text,w,x⟩,⟨a8,o8,e8⟩,q1.bind (q2.bind (q3.bind (q4.bind (q5.bind (q6.bind (q7.bind (q8.bind (Post.ret (p7.snd q8))))))))),?_⟩;have hlt:=eT hk (by decide)
  obtain⟨hg,g0,gn⟩:=rtake hlt;have hwa:=aQ (m:=a6) (N:=4194304) (by omega) (by decide)
  have hpk:=BC hok a6;generalize pk ts a6=t at hg hpk;have hsz:(ByteArray.mk t.text.toArray).size≤140737488355328:=by show t.text.toArray.size≤_;rw[List.size_toArray];omega
  have hbv:byV (ByteArray.mk t.text.toArray)=t.text.map fun b=>V.im (.int .u8 b.toNat):=rfl
  obtain⟨a,o,e⟩:=s;clear q1 q2 q3 q4 q5 q6 q7 q8 p1 p2 p3 p4 p5 p6 p7 hp b1 b2 b3 b6 b8 hw hx;simp only[rbx]at d1 d2 d3 d6 d8 ⊢;refine dcEnt 46 Tryz.func114 rfl [(0,.pt 0 0)] ?_
  refine wG dK TI ?_;refine aA [0] d1 TI (A13 aB aC @bN @bP @bO @bQ @aL @aK aP aG aV eW bM) (A13 aI aJ @eJ @eN @eM @eO @bI @bF aX aR bC fI cP) ?_;refine goG dK TI ?_;refine wG dK TI ?_;refine aA [0] d2 TI (A13 aB aC @bN @bP @bO @bQ @aL @aK aP aG aV eW bM) (A13 aI aJ @eJ @eN @eM @eO @bI @bF aX aR bC fI cP) ?_;refine goG dK TI ?_;refine aA [0] d3 TI (A13 aB aC @bN @bP @bO @bQ @aL @aK aP aG aV eW bM) (A13 aI aJ @eJ @eN @eM @eO @bI @bF aX aR bC fI cP) ?_;refine goG dK TI ?_;refine wG dK TI ?_;refine aA [0] d4 TI (A13 aB aC @bN @bP @bO @bQ @aL @aK aP aG aV eW bM) (A13 aI aJ @eJ @eN @eM @eO @bI @bF aX aR bC fI cP) ?_;refine goG dK TI ?_;refine wG dK TI ?_;refine aA [0] d5 TI (A13 aB aC @bN @bP @bO @bQ @aL @aK aP aG aV eW bM) (A13 aI aJ @eJ @eN @eM @eO @bI @bF aX aR bC fI cP) ?_;refine goG dK TI ?_;refine wG dK TI ?_;refine aA [0] d6 TI (A13 aB aC @bN @bP @bO @bQ @aL @aK aP aG aV eW bM) (A13 aI aJ @eJ @eN @eM @eO @bI @bF aX aR bC fI cP) ?_;refine goG dK TI ?_;refine wG dK TI ?_;refine aA [0] d7 TI (A13 aB aC @bN @bP @bO @bQ @aL @aK aP aG aV eW bM) (A13 aI aJ @eJ @eN @eM @eO @bI @bF aX aR bC fI cP) ?_;refine goG dK TI ?_;refine wdG dK (A7 TKT hg g0 gn hsz hbv hwa) ?_;refine aA [0] d8 TI (A13 aB aC @bN @bP @bO @bQ @aL @aK aP aG aV eW bM) (A13 aI aJ @eJ @eN @eM @eO @bI @bF aX aR bC fI cP) ?_;refine goG dK TI ?_;refine wG dK TI ?_;refine fiGen [.cell 2 76] (finG dK) ?_ rfl (idG (A13 aB aC @bN @bP @bO @bQ @aL @aK aP aG aV eW bM))
  rw[xG]
  all_goals exact wkG (A13 aB aC @bN @bP @bO @bQ @aL @aK aP aG aV eW bM)
 ·rw[if_neg h4,if_neg h4]at q7
  rw[if_neg h4,if_neg h4]at p7
  have hdk:(decide (e6=0)&&decide ((pk ts a6).kind=4))=false:=by
   rw[Bool.and_eq_false_iff,decide_eq_false_iff_not,decide_eq_false_iff_not];exact Classical.or_iff_not_imp_left.2 fun h h2=>h4 ⟨Classical.not_not.1 h,h2⟩
  rw[hdk]at d7;have df:=tY ts a6 o6 e6;generalize (if e6=0 then(3:Int)else e6)=e7 at q7 p7 df
  obtain⟨⟨a8,o8,e8⟩,q8,b8,d8⟩:=gZ ts hts ⟨a6,o6,e7⟩ [59] p7.fst;refine⟨⟨n,d.n,tk0.text,w,x⟩,⟨a8,o8,e8⟩,q1.bind (q2.bind (q3.bind (q4.bind (q5.bind (q6.bind (q7.bind (q8.bind (Post.ret (p7.snd q8))))))))),?_⟩;obtain⟨a,o,e⟩:=s;clear q1 q2 q3 q4 q5 q6 q7 q8 p1 p2 p3 p4 p5 p6 p7 hp b1 b2 b3 b6 b8 hw hx;simp only[rbx]at d1 d2 d3 d6 d8 ⊢;refine dcEnt 46 Tryz.func114 rfl [(0,.pt 0 0)] ?_
  refine wG dK TI ?_;refine aA [0] d1 TI (A13 aB aC @bN @bP @bO @bQ @aL @aK aP aG aV eW bM) (A13 aI aJ @eJ @eN @eM @eO @bI @bF aX aR bC fI cP) ?_;refine goG dK TI ?_;refine wG dK TI ?_;refine aA [0] d2 TI (A13 aB aC @bN @bP @bO @bQ @aL @aK aP aG aV eW bM) (A13 aI aJ @eJ @eN @eM @eO @bI @bF aX aR bC fI cP) ?_;refine goG dK TI ?_;refine aA [0] d3 TI (A13 aB aC @bN @bP @bO @bQ @aL @aK aP aG aV eW bM) (A13 aI aJ @eJ @eN @eM @eO @bI @bF aX aR bC fI cP) ?_;refine goG dK TI ?_;refine wG dK TI ?_;refine aA [0] d4 TI (A13 aB aC @bN @bP @bO @bQ @aL @aK aP aG aV eW bM) (A13 aI aJ @eJ @eN @eM @eO @bI @bF aX aR bC fI cP) ?_;refine goG dK TI ?_;refine wG dK TI ?_;refine aA [0] d5 TI (A13 aB aC @bN @bP @bO @bQ @aL @aK aP aG aV eW bM) (A13 aI aJ @eJ @eN @eM @eO @bI @bF aX aR bC fI cP) ?_;refine goG dK TI ?_;refine wG dK TI ?_;refine aA [0] d6 TI (A13 aB aC @bN @bP @bO @bQ @aL @aK aP aG aV eW bM) (A13 aI aJ @eJ @eN @eM @eO @bI @bF aX aR bC fI cP) ?_;refine goG dK TI ?_;refine wG dK TI ?_;refine aA [0] d7 TI (A13 aB aC @bN @bP @bO @bQ @aL @aK aP aG aV eW bM) (A13 aI aJ @eJ @eN @eM @eO @bI @bF aX aR bC fI cP) ?_;refine goG dK TI ?_;refine wG dK TI ?_;refine aA [0] df TI (A13 aB aC @bN @bP @bO @bQ @aL @aK aP aG aV eW bM) (A13 aI aJ @eJ @eN @eM @eO @bI @bF aX aR bC fI cP) ?_;refine goG dK TI ?_;refine wG dK TI ?_;refine aA [0] d8 TI (A13 aB aC @bN @bP @bO @bQ @aL @aK aP aG aV eW bM) (A13 aI aJ @eJ @eN @eM @eO @bI @bF aX aR bC fI cP) ?_;refine goG dK TI ?_;refine wG dK TI ?_;refine fiGen [.cell 2 76] (finG dK) ?_ rfl (idG (A13 aB aC @bN @bP @bO @bQ @aL @aK aP aG aV eW bM))
  rw[xG];simp only[tk0,List.map_nil]
  all_goals exact wkG (A13 aB aC @bN @bP @bO @bQ @aL @aK aP aG aV eW bM)
inductive LpV (ts:List Tk):List Va→Sr→List Va→Sr→Prop where
 | stop {l:List Va} {s:Sr} (h:isR ts s.a s.e [118,97,114]=false):LpV ts l s l s
 | step {l l':List Va} {a a1:Nat} {o o1 e1:Int} {x:Va} {s':Sr} (hl:l.length≤4194304) (hs:sees ts a [118,97,114]=true)
   (d:DC Tryz.prog 113 [.pt 0 0] [rbx ts ⟨a,o,0⟩] (vaV x) [rbx ts ⟨a1,o1,e1⟩]) (r:LpV ts (l++[x]) ⟨a1,o1,e1⟩ l' s'):LpV ts l ⟨a,o,0⟩ l' s'
theorem OS{ts:List Tk}(hts:ts.length≤4194304)(hok: ∀t∈ts,TkOk t): ∀(f:Nat) (l:List Va) (s:Sr),Pre (vasM ts f l) s→(s.e=0→l.length≤s.a) →
  ∃l' s',LpV ts l s l' s'∧Post (vasM ts f l) s l' s'∧(s'.e=0→s'.o=s.o):=by
 intro f
 induction f with
 | zero =>
  intro l s hp hb
  by_cases he:s.e=0
  ·obtain⟨o,_,r,hr⟩:=hp he
   cases hr
  ·exact⟨l,s,.stop (uV he),Post.of_err he rfl rfl,fun h=>absurd h he⟩
 | succ f ih =>
  intro l s hp hb
  by_cases he:s.e=0
  case neg=>exact⟨l,s,.stop (uV he),Post.of_err he rfl rfl,fun h=>absurd h he⟩
  obtain⟨a,o',e⟩:=s;cases he
  obtain⟨o,ho,r,hr⟩:=hp rfl;have ho:o'=(o:Int):=ho;subst ho;have hb:=hb rfl;simp only at hb
  by_cases hs:sees ts a [118,97,114]=true
  case neg =>
   refine⟨l,⟨a,o,0⟩,.stop ?_,Post.of_ok (by rw[vasM,if_neg hs];rfl),fun _=>rfl⟩
   show isR ts a 0 _=false
   rw[fY,←Bool.not_eq_true];exact hs
  have hlt:=cB hs;have hM: ∀o,vasM ts (f+1) l a o=rb (varM ts f a o) fun v a o=>vasM ts f (l++[v]) a o:=fun o=>by rw[vasM,if_pos hs]
  have hp2:Pre (fun a o=>rb (varM ts f a o) fun v a o=>vasM ts f (l++[v]) a o) ⟨a,o,0⟩:=Pre.congr (fun _=>funext hM) hp
  obtain⟨x,⟨a1,o1,e1⟩,q,d⟩:=CZ hts hok ⟨a,o,0⟩ hp2.fst
  have hk:e1=0→o1=(o:Int)∧a<a1:=fun h=>by
   obtain⟨_,o2,a2,p2,w1,w2,w3⟩:=q.ok h;have w2:varM ts f a o2=some (.ok x a2 p2):=w2;have:=mE w2;have w4:a1=a2:=congrArg Sr.a w3;have w5:o1=(p2:Int):=congrArg Sr.o w3;have w1:(o:Int)=o2:=w1;omega
  obtain⟨l',s',hL,hq,ho⟩:=ih (l++[x]) ⟨a1,o1,e1⟩ (hp2.snd q) (fun h=>by
   have:=hk h;rw[List.length_append];show l.length+1≤a1
   omega)
  refine⟨l',s',.step (by omega) hs d hL,Post.congr (fun _=>funext hM) (q.bind hq),fun h=> ?_⟩
  rw[ho h];exact(hk (hq.ok h).1).1
def iW:=A14 @mT @lG @Ab @zZ @pH @sC @kQ @qK @tM @Vd @lA @jU @pF @jS
theorem DZ{ts:List Tk}{f:Nat}(hts:ts.length≤4194304)(hok: ∀t∈ts,TkOk t)(hW: ∀t∈ts,TkW t)(s:Sr)(hp:Pre (funM ts f) s): ∃x s',Post (funM ts f) s x s'∧DC Tryz.prog 66 [.pt 0 0] [rbx ts s] (fnV x) [rbx ts s']:=by
 unfold funM at hp ⊢
 obtain⟨⟨a1,o1,e1⟩,q1,b1,d1⟩:=gZ ts hts s [102,117,110,99] hp.fst
 have p1:=hp.snd q1
 obtain⟨n,⟨a2,o2,e2⟩,q2,b2,d2⟩:=rQ ts hts ⟨a1,o1,e1⟩ p1.fst
 have p2:=p1.snd q2
 obtain⟨⟨a3,o3,e3⟩,q3,b3,d3⟩:=mX ts hts ⟨a2,o2,e2⟩ [123] p2.fst
 have p3:=p2.snd q3
 obtain⟨l,⟨a4,o4,e4⟩,hV,q4,b4⟩:=OS hts hok f [] ⟨a3,o3,e3⟩ p3.fst (fun _=>Nat.zero_le _)
 have p4:=p3.snd q4
 obtain⟨b,⟨a5,o5,e5⟩,hL,q5,b5⟩:=KT hts f (fun g _=>QF hts hok hW g) [] ⟨a4,o4,e4⟩ p4.fst (fun _=>Nat.zero_le _)
 have he1:e5=0→e4=0:=fun h=>by
  rcases q5 with q|⟨h0,_⟩
  ·exact(q.ok h).1
  ·exact h0
 have hb2:e5=0→1≤o5∧o5≤256:=fun h=>by
  have h5:=b5 h;have h4:=b4 (he1 h);have h3:=(b3 (q4.ok (he1 h)).1).2;simp only at h3 h4 h5;omega
 have hpe:Pre (endM ts [125]) ⟨a5,o5,e5⟩:=fun h=>by
  have:=hb2 h;exact⟨o5.toNat,by show o5=_;omega,_,rfl⟩
 obtain⟨⟨a6,o6,e6⟩,q6,b6,d6⟩:=tZ ts hts ⟨a5,o5,e5⟩ [125] hb2 hpe
 refine⟨⟨n,l,b⟩,⟨a6,o6,e6⟩,q1.bind (q2.bind (q3.bind (q4.bind (Tp (g:=fun l'=>Fun.mk n l (l'.headD [])) q5 (fun h=>(hpe h).imp fun _ h=>h.1) q6)))),?_⟩
 have d5:=Kx hts hL
 obtain⟨a,o,e⟩:=s
 clear q1 q2 q3 q4 q5 q6 p1 p2 p3 p4 hp hL b1 b2 b3 b4 b5 b6 hb2 hpe he1
 simp only[rbx]at d1 d2 d3 d5 d6 ⊢
 refine dcEnt 26 Tryz.func66 rfl [(0,.pt 0 0)] ?_
 refine wG iW TI ?_
 refine aA [0] d1 TI (A13 aB aC @bN @bP @bO @bQ @aL @aK aP aG aV eW bM) (A13 aI aJ @eJ @eN @eM @eO @bI @bF aX aR bC fI cP) ?_
 refine goG iW TI ?_
 refine wG iW TI ?_
 refine aA [0] d2 TI (A13 aB aC @bN @bP @bO @bQ @aL @aK aP aG aV eW bM) (A13 aI aJ @eJ @eN @eM @eO @bI @bF aX aR bC fI cP) ?_
 refine goG iW TI ?_
 refine wG iW TI ?_
 refine aA [0] d3 TI (A13 aB aC @bN @bP @bO @bQ @aL @aK aP aG aV eW bM) (A13 aI aJ @eJ @eN @eM @eO @bI @bF aX aR bC fI cP) ?_
 refine goG iW TI ?_
 refine wG iW TI ?_
 clear d1 d2 d3
 refine aT ?_
 refine cG ?_
 refine AWp.ghostB 2 1 [.im (.string n),.sl [] .nl,.sl [] .nl] 96 6 ?_
 suffices H: ∀(v:List Va) (s:Sr),LpV ts v s l ⟨a4,o4,e4⟩→AWpK _ _ _ _ _ ⟨dn 26 [(0,.pt 0 0),(2,.pt 1 0),(3,.pt 2 0)],ofl [.box [.sl (ts.map tkV) .ro,(.im (.int .i64 (((s).a:Nat)))),(.im (.int .i64 ((s).o))),(.im (.int .i64 ((s).e)))],.box [.im (.string ByteArray.empty),.sl [] .nl,.sl [] .nl],.box [.im (.string n),.sl ((v).map vaV) (.mine 3),.sl [] .nl],.tip 96 6 (v).length]⟩ by
  refine AWp.cutP 4 [(0,.pt 0 0),(2,.pt 1 0),(3,.pt 2 0)] [.box [.sl (ts.map tkV) .ro,(.im (.int .i64 ((a3:Nat)))),(.im (.int .i64 (o3))),(.im (.int .i64 (e3)))],.box [.im (.string ByteArray.empty),.sl [] .nl,.sl [] .nl],.box [.im (.string n),.sl ((([]:List Va)).map vaV) (.mine 3),.sl [] .nl],.tip 96 6 (([]:List Va)).length] (A13 aB aC @bN @bP @bO @bQ @aL @aK aP aG aV eW bM) ?_;exact H [] ⟨a3,o3,e3⟩ hV
 clear hV
 intro v s hV
 generalize hs4:(⟨a4,o4,e4⟩:Sr)=s4 at hV
 induction hV with
 | @stop v s h =>
  subst hs4;have hs:=nR ts a4 o4 e4 [118,97,114];simp only at h;rw[h]at hs;simp only;refine wG iW TI ?_;refine aA [0] hs TI (A13 aB aC @bN @bP @bO @bQ @aL @aK aP aG aV eW bM) (A13 aI aJ @eJ @eN @eM @eO @bI @bF aX aR bC fI cP) ?_;refine goG iW TI ?_;refine wG iW TI ?_;refine aA [0] d5 TI (A13 aB aC @bN @bP @bO @bQ @aL @aK aP aG aV eW bM) (A13 aI aJ @eJ @eN @eM @eO @bI @bF aX aR bC fI cP) ?_;refine goG iW TI ?_;refine wG iW TI ?_;refine aA [0] d6 TI (A13 aB aC @bN @bP @bO @bQ @aL @aK aP aG aV eW bM) (A13 aI aJ @eJ @eN @eM @eO @bI @bF aX aR bC fI cP) ?_;refine goG iW TI ?_;refine wG iW TI ?_;refine fiGen [.cell 2 37] (finG iW) ?_ rfl (idG (A13 aB aC @bN @bP @bO @bQ @aL @aK aP aG aV eW bM))
  rw[sG]
  all_goals exact wkG (A13 aB aC @bN @bP @bO @bQ @aL @aK aP aG aV eW bM)
 | @step v v' a a1 o o1 e1 x s' hl hs d r ih =>
  have hi:=nR ts a o 0 [118,97,114];rw[fY,hs]at hi;obtain⟨B,hB⟩: ∃B,B=v++[x]:=⟨_,rfl⟩
  have hAs:v.map vaV++[vaV x]=B.map vaV:=by rw[hB,List.map_append];rfl
  have hAl:v.length+1=B.length:=by rw[hB];simp
  have hbl:B.length*88≤140737488355328:=by omega
  have ih:=ih hs4;rw[←hB]at ih;simp only[rbx]at d ih ⊢;refine wG iW TI ?_;refine aA [0] hi TI (A13 aB aC @bN @bP @bO @bQ @aL @aK aP aG aV eW bM) (A13 aI aJ @eJ @eN @eM @eO @bI @bF aX aR bC fI cP) ?_;refine goG iW TI ?_;refine wdG iW TI ?_;refine aA [0] d TI (A13 aB aC @bN @bP @bO @bQ @aL @aK aP aG aV eW bM) (A13 aI aJ @eJ @eN @eM @eO @bI @bF aX aR bC fI cP) ?_;refine goG iW (A6 VA hAs hAl hbl vB @List.length_map.{0,0}) ?_;refine wdG iW (A6 VA hAs hAl hbl vB @List.length_map.{0,0}) ?_;refine cG ?_;refine AWp.cutP 4 [(0,.pt 0 0),(2,.pt 1 0),(3,.pt 2 0)] [.box [.sl (ts.map tkV) .ro,(.im (.int .i64 ((a1:Nat)))),(.im (.int .i64 (o1))),(.im (.int .i64 (e1)))],.box [.im (.string ByteArray.empty),.sl [] .nl,.sl [] .nl],.box [.im (.string n),.sl ((B).map vaV) (.mine 3),.sl [] .nl],.tip 96 6 (B).length] (A13 aB aC @bN @bP @bO @bQ @aL @aK aP aG aV eW bM) ?_;exact ih
inductive LpU (ts:List Tk):Un→Sr→Un→Sr→Prop where
 | stop {u:Un} {s:Sr} (h:s.e≠0∨ts.length≤s.a):LpU ts u s u s
 | var {g:List Va} {dl:List Sec} {fl:List Fun} {u':Un} {a a1:Nat} {o o1 e1:Int} {x:Va} {s':Sr} (hl:g.length≤4194304) (hlt:a<ts.length) (hs:sees ts a [118,97,114]=true)
   (d:DC Tryz.prog 113 [.pt 0 0] [rbx ts ⟨a,o,0⟩] (vaV x) [rbx ts ⟨a1,o1,e1⟩]) (r:LpU ts ⟨g++[x],dl,fl⟩ ⟨a1,o1,e1⟩ u' s'):LpU ts ⟨g,dl,fl⟩ ⟨a,o,0⟩ u' s'
 | dat {g:List Va} {dl:List Sec} {fl:List Fun} {u':Un} {a a1:Nat} {o o1 e1:Int} {x:Sec} {s':Sr} (hl:dl.length≤4194304) (hlt:a<ts.length) (hn:sees ts a [118,97,114]=false) (hs:sees ts a [100,97,116,97]=true)
   (d:DC Tryz.prog 114 [.pt 0 0] [rbx ts ⟨a,o,0⟩] (scV x) [rbx ts ⟨a1,o1,e1⟩]) (r:LpU ts ⟨g,dl++[x],fl⟩ ⟨a1,o1,e1⟩ u' s'):LpU ts ⟨g,dl,fl⟩ ⟨a,o,0⟩ u' s'
 | fn {g:List Va} {dl:List Sec} {fl:List Fun} {u':Un} {a a1:Nat} {o o1 e1:Int} {x:Fun} {s':Sr} (hl:fl.length≤4194304) (hlt:a<ts.length) (hn:sees ts a [118,97,114]=false) (hn2:sees ts a [100,97,116,97]=false)
   (d:DC Tryz.prog 66 [.pt 0 0] [rbx ts ⟨a,o,0⟩] (fnV x) [rbx ts ⟨a1,o1,e1⟩]) (r:LpU ts ⟨g,dl,fl++[x]⟩ ⟨a1,o1,e1⟩ u' s'):LpU ts ⟨g,dl,fl⟩ ⟨a,o,0⟩ u' s'
theorem OT{ts:List Tk}(hts:ts.length≤4194304)(hok: ∀t∈ts,TkOk t)(hW: ∀t∈ts,TkW t): ∀(f:Nat) (g:List Va) (dl:List Sec) (fl:List Fun) (s:Sr),Pre (uniM ts f ⟨g,dl,fl⟩) s→(s.e=0→g.length≤s.a∧dl.length≤s.a∧fl.length≤s.a) →
  ∃u' s',LpU ts ⟨g,dl,fl⟩ s u' s'∧Post (uniM ts f ⟨g,dl,fl⟩) s u' s':=by
 intro f
 induction f with
 | zero =>
  intro g dl fl s hp hb
  by_cases he:s.e=0
  ·obtain⟨o,_,r,hr⟩:=hp he
   cases hr
  ·exact⟨_,s,.stop (.inl he),Post.of_err he rfl rfl⟩
 | succ f ih =>
  intro g dl fl s hp hb
  by_cases he:s.e=0
  case neg=>exact⟨_,s,.stop (.inl he),Post.of_err he rfl rfl⟩
  obtain⟨a,o',e⟩:=s;cases he
  obtain⟨o,ho,r,hr⟩:=hp rfl;have ho:o'=(o:Int):=ho;subst ho;have hb:=hb rfl;simp only at hb
  by_cases hlt:ts.length≤a
  ·exact⟨_,⟨a,o,0⟩,.stop (.inr hlt),Post.of_ok (by rw[uniM,if_pos hlt];rfl)⟩
  by_cases hs:sees ts a [118,97,114]=true
  ·have hM: ∀o,uniM ts (f+1) ⟨g,dl,fl⟩ a o=rb (varM ts f a o) fun v a o=>uniM ts f ⟨g++[v],dl,fl⟩ a o:=fun o=>by rw[uniM,if_neg hlt,if_pos hs]
   have hp2:Pre (fun a o=>rb (varM ts f a o) fun v a o=>uniM ts f ⟨g++[v],dl,fl⟩ a o) ⟨a,o,0⟩:=Pre.congr (fun _=>funext hM) hp
   obtain⟨x,⟨a1,o1,e1⟩,q,d⟩:=CZ hts hok ⟨a,o,0⟩ hp2.fst
   obtain⟨u',s',hL,hq⟩:=ih (g++[x]) dl fl ⟨a1,o1,e1⟩ (hp2.snd q) (fun h=>by
    obtain⟨_,o2,a2,p2,w1,w2,w3⟩:=q.ok h;have w2:varM ts f a o2=some (.ok x a2 p2):=w2;have:=mE w2;have w4:a1=a2:=congrArg Sr.a w3;rw[List.length_append];show g.length+1≤a1∧dl.length≤a1∧fl.length≤a1
    omega)
   exact⟨u',s',.var (by omega) (by omega) hs d hL,Post.congr (fun _=>funext hM) (q.bind hq)⟩
  by_cases hd:sees ts a [100,97,116,97]=true
  ·have hM: ∀o,uniM ts (f+1) ⟨g,dl,fl⟩ a o=rb (datM ts a o) fun v a o=>uniM ts f ⟨g,dl++[v],fl⟩ a o:=fun o=>by rw[uniM,if_neg hlt,if_neg hs,if_pos hd]
   have hp2:Pre (fun a o=>rb (datM ts a o) fun v a o=>uniM ts f ⟨g,dl++[v],fl⟩ a o) ⟨a,o,0⟩:=Pre.congr (fun _=>funext hM) hp
   obtain⟨x,⟨a1,o1,e1⟩,q,d⟩:=OA hts hok ⟨a,o,0⟩ hp2.fst
   obtain⟨u',s',hL,hq⟩:=ih g (dl++[x]) fl ⟨a1,o1,e1⟩ (hp2.snd q) (fun h=>by
    obtain⟨_,o2,a2,p2,w1,w2,w3⟩:=q.ok h;have w2:datM ts a o2=some (.ok x a2 p2):=w2;have:=wM w2;have w4:a1=a2:=congrArg Sr.a w3;rw[List.length_append];show g.length≤a1∧dl.length+1≤a1∧fl.length≤a1
    omega)
   exact⟨u',s',.dat (by omega) (by omega) (Bool.not_eq_true _▸hs) hd d hL,Post.congr (fun _=>funext hM) (q.bind hq)⟩
  by_cases hf:sees ts a [102,117,110,99]=true
  ·have hM: ∀o,uniM ts (f+1) ⟨g,dl,fl⟩ a o=rb (funM ts f a o) fun v a o=>uniM ts f ⟨g,dl,fl++[v]⟩ a o:=fun o=>by rw[uniM,if_neg hlt,if_neg hs,if_neg hd,if_pos hf]
   have hp2:Pre (fun a o=>rb (funM ts f a o) fun v a o=>uniM ts f ⟨g,dl,fl++[v]⟩ a o) ⟨a,o,0⟩:=Pre.congr (fun _=>funext hM) hp
   obtain⟨x,⟨a1,o1,e1⟩,q,d⟩:=DZ hts hok hW ⟨a,o,0⟩ hp2.fst
   obtain⟨u',s',hL,hq⟩:=ih g dl (fl++[x]) ⟨a1,o1,e1⟩ (hp2.snd q) (fun h=>by
    obtain⟨_,o2,a2,p2,w1,w2,w3⟩:=q.ok h;have w2:funM ts f a o2=some (.ok x a2 p2):=w2;have:=wJ w2;have w4:a1=a2:=congrArg Sr.a w3;rw[List.length_append];show g.length≤a1∧dl.length≤a1∧fl.length+1≤a1
    omega)
   exact⟨u',s',.fn (by omega) (by omega) (Bool.not_eq_true _▸hs) (Bool.not_eq_true _▸hd) d hL,Post.congr (fun _=>funext hM) (q.bind hq)⟩
  have hM: ∀o,uniM ts (f+1) ⟨g,dl,fl⟩ a o=some (.bad a 3):=fun o=>by rw[uniM,if_neg hlt,if_neg hs,if_neg hd,if_neg hf]
  have hf:sees ts a [102,117,110,99]=false:=by rw[←Bool.not_eq_true];exact hf
  have hF: ∀o,funM ts f a o=some (.bad a 3):=fun o=>by unfold funM expM;rw[hf,if_pos rfl];rfl
  obtain⟨x,⟨a1,o1,e1⟩,q,d⟩:=DZ (f:=f) hts hok hW ⟨a,o,0⟩ (fun _=>⟨o,rfl,_,hF o⟩)
  obtain⟨o2,w1,q2⟩:=q.2 rfl
  have h3:a1=a∧e1=3:=by
   rcases q2 with ⟨a2,p2,z,_⟩|⟨b2,e2,z,z1,z2,z3⟩
   ·have z:funM ts f a o2=_:=z
    rw[hF]at z;cases z
   ·have z:funM ts f a o2=_:=z
    rw[hF]at z;cases z
    exact⟨z1,z2⟩
  obtain⟨rfl,rfl⟩:=h3;obtain⟨u',s',hL,hq⟩:=ih g dl (fl++[x]) ⟨a1,o1,3⟩ (Pre.err (show(3:Int)≠0 by decide)) (fun h=>by cases h)
  have hz:=hq.1 (show(3:Int)≠0 by decide)
  obtain⟨sa,so,se⟩:=s';obtain⟨z1,z2⟩:=hz;have z1:sa=a1:=z1;have z2:se=3:=z2;subst z1;subst z2;exact⟨u',⟨sa,so,3⟩,.fn (by omega) (by omega) (Bool.not_eq_true _▸hs) (Bool.not_eq_true _▸hd) d hL,Post.of_bad (hM o) (by decide)⟩
def gE:=A16 @oO @mT @Ac @uR @oM @lX @cJ @FM @pI @zZ @zY @pH @Vh @Vg @sC (A16 @lN @kQ @sB @sA @lE @gP @jP @mS @qL @nS @FB @oI @kG @lA @wT (A7 @rX @mP @lW @cH @pF @pE @jS))
theorem Oy{ts:List Tk}(hts:ts.length≤4194304){u:Un}{s1:Sr}(hL:LpU ts ⟨[],[],[]⟩ ⟨0,0,0⟩ u s1):DC Tryz.prog 55 [.sl (ts.map tkV) .ro] [.free,.free] (.tu [unV u,.pt 1 0]) [.box [.sl (u.globals.map vaV) .ro,.sl (u.data.map scV) .ro,.sl (u.funcs.map fnV) .ro],rbx ts s1]:=by
 refine Bx 2 53 Tryz.func55 rfl (by decide) rfl rfl (s:=[(0,.sl (ts.map tkV) .ro)]) (by rfl) ?_
 refine wG gE TI ?_
 refine aT ?_
 refine cG ?_
 refine AWp.ghostB 2 0 [.sl [] .nl,.sl [] .nl,.sl [] .nl] 96 6 ?_
 refine AWp.ghostB 2 1 [.sl [] (.mine 3),.sl [] .nl,.sl [] .nl] 76 5 ?_
 refine AWp.ghostB 2 2 [.sl [] (.mine 3),.sl [] (.mine 4),.sl [] .nl] 37 3 ?_
 suffices H: ∀(v:Un) (s:Sr),LpU ts v s u s1→AWpK _ _ _ _ _ ⟨dn 53 [(0,.sl (ts.map tkV) .ro),(2,.pt 0 0),(3,.im (.pointer none)),(4,.pt 1 0),(5,.pt 2 0)],ofl [.box [.sl [] .nl,.sl [] .nl,.sl [] .nl],.box [.sl (ts.map tkV) .ro,(.im (.int .i64 (((s).a:Nat)))),(.im (.int .i64 ((s).o))),(.im (.int .i64 ((s).e)))],.box [.sl ((v).globals.map vaV) (.mine 3),.sl ((v).data.map scV) (.mine 4),.sl ((v).funcs.map fnV) (.mine 5)],.tip 96 6 (v).globals.length,.tip 76 5 (v).data.length,.tip 37 3 (v).funcs.length]⟩ by
  refine AWp.cutP 6 [(0,.sl (ts.map tkV) .ro),(2,.pt 0 0),(3,.im (.pointer none)),(4,.pt 1 0),(5,.pt 2 0)] [.box [.sl [] .nl,.sl [] .nl,.sl [] .nl],.box [.sl (ts.map tkV) .ro,(.im (.int .i64 (((0:Nat):Int)))),(.im (.int .i64 (0))),(.im (.int .i64 (0)))],.box [.sl (((⟨[],[],[]⟩:Un)).globals.map vaV) (.mine 3),.sl (((⟨[],[],[]⟩:Un)).data.map scV) (.mine 4),.sl (((⟨[],[],[]⟩:Un)).funcs.map fnV) (.mine 5)],.tip 96 6 ((⟨[],[],[]⟩:Un)).globals.length,.tip 76 5 ((⟨[],[],[]⟩:Un)).data.length,.tip 37 3 ((⟨[],[],[]⟩:Un)).funcs.length] (A9 aB aC @aL @aK bM bV dC cC cK) ?_;exact H ⟨[],[],[]⟩ ⟨0,0,0⟩ hL
 clear hL
 intro v s hL
 induction hL with
 | @stop v s h =>
  obtain⟨a,o,e⟩:=s;simp only[rbx]at h ⊢
  by_cases he:e=0
  case neg =>
   refine Af 3 [(0,.sl (ts.map tkV) .ro),(2,.pt 0 0),(3,.im (.pointer none)),(4,.pt 1 0),(5,.pt 2 0)] [.box [.sl [] .nl,.sl [] .nl,.sl [] .nl],.box [.sl (ts.map tkV) .ro,(.im (.int .i64 ((a:Nat)))),(.im (.int .i64 (o))),(.im (.int .i64 (e)))],.box [.sl (v.globals.map vaV) .ro,.sl (v.data.map scV) .ro,.sl (v.funcs.map fnV) .ro]] ?_ (by simp) (by repeat (first|exact WkFA.nil|refine WkFA.cons (by first|exact .of (Wk.refl _) (by first|rfl|simp only[List.length_cons,List.length_nil,Nat.reduceAdd,V.ids,V.idsL,idsA,entOk,List.all_cons,List.all_nil,Bool.and_self,Bool.and_true,Bool.true_and,ltB,noId,Nat.reduceLT,decide_true,Bool.true_eq_false,bN,bP,bO,bQ,aB,aC,aL,aK,bM,bV,dC,cC,cK])|exact .of (Wk.ro _ _) (by simp[V.ids,aK,bV,cC])) ?_)) (by repeat (first|exact WkFE.nil|refine WkFE.box (by repeat (first|exact WkFL.nil|refine WkFL.cons (by first|exact .of (Wk.refl _) (by first|rfl|simp only[List.length_cons,List.length_nil,Nat.reduceAdd,V.ids,V.idsL,idsA,entOk,List.all_cons,List.all_nil,Bool.and_self,Bool.and_true,Bool.true_and,ltB,noId,Nat.reduceLT,decide_true,Bool.true_eq_false,bN,bP,bO,bQ,aB,aC,aL,aK,bM,bV,dC,cC,cK])|exact .of (Wk.ro _ _) (by simp[V.ids,aK,bV,cC])) ?_)) ?_|refine WkFE.same (fun _ e=>by cases e) ?_)) (fun i hi=>by first|exact absurd rfl hi|exact Nat.lt_of_lt_of_le (oQ hi) (by simp))
   refine wdG gE he ?_;refine zS 2 (rs:=[.cell 2 27,.tmp 3]) rfl (by first|exact .inl rfl|exact .inr rfl) (by simp only[Ct,At,↓nK,↓reduceIte,SA,SB,SC,SD,gE,uX,fpsG,evO,evB,evA,tV,uZ,eqF,eqC,oD,lI,slB,slK,gd,St.ev,iI,ofl,wrl,putE,V.ofVal,V.ofCell,bin2,un1,seg,nQ,iE,Value.oneCell',Nat.reduceBEq,Nat.reduceLT,Nat.reduceSub,Nat.reduceAdd,Nat.reduceMul,Nat.reduceLeDiff,Nat.reduceEqDiff,reduceCtorEq,Int.reduceLT,Int.reduceLE,Int.reduceEq,Int.reduceNe,Int.reduceBEq,Int.reduceBNe,Int.reduceAdd,Int.reduceSub,Int.reduceMul,Int.reduceToNat];with_reducible exact rfl) ?_ rfl (by first|rfl|simp only[List.length_cons,List.length_nil,Nat.reduceAdd,V.ids,V.idsL,idsA,entOk,List.all_cons,List.all_nil,Bool.and_self,Bool.and_true,Bool.true_and,ltB,noId,Nat.reduceLT,decide_true,Bool.true_eq_false,bN,bP,bO,bQ,aB,aC,aL,aK,bM,bV,dC,cC,cK])
   repeat (first|exact WkF.of (Wk.refl _) (by first|rfl|simp only[List.length_cons,List.length_nil,Nat.reduceAdd,V.ids,V.idsL,idsA,entOk,List.all_cons,List.all_nil,Bool.and_self,Bool.and_true,Bool.true_and,ltB,noId,Nat.reduceLT,decide_true,Bool.true_eq_false,bN,bP,bO,bQ,aB,aC,aL,aK,bM,bV,dC,cC,cK])|exact WkF.of (Wk.ro _ _) (by first|rfl|simp only[List.length_cons,List.length_nil,Nat.reduceAdd,V.ids,V.idsL,idsA,entOk,List.all_cons,List.all_nil,Bool.and_self,Bool.and_true,Bool.true_and,ltB,noId,Nat.reduceLT,decide_true,Bool.true_eq_false,bN,bP,bO,bQ,aB,aC,aL,aK,bM,bV,dC,cC,cK])|refine Gg ?_|refine Gh ?_|refine WkFL.cons ?_ ?_|exact WkFL.nil)
  subst he
  have hn: ¬(a:Int)<(ts.length:Int):=by
   rcases h with h|h
   ·exact absurd rfl h
   ·omega
  refine Af 3 [(0,.sl (ts.map tkV) .ro),(2,.pt 0 0),(3,.im (.pointer none)),(4,.pt 1 0),(5,.pt 2 0)] [.box [.sl [] .nl,.sl [] .nl,.sl [] .nl],.box [.sl (ts.map tkV) .ro,(.im (.int .i64 ((a:Nat)))),(.im (.int .i64 (o))),(.im (.int .i64 (0)))],.box [.sl (v.globals.map vaV) .ro,.sl (v.data.map scV) .ro,.sl (v.funcs.map fnV) .ro]] ?_ (by simp) (by repeat (first|exact WkFA.nil|refine WkFA.cons (by first|exact .of (Wk.refl _) (by first|rfl|simp only[List.length_cons,List.length_nil,Nat.reduceAdd,V.ids,V.idsL,idsA,entOk,List.all_cons,List.all_nil,Bool.and_self,Bool.and_true,Bool.true_and,ltB,noId,Nat.reduceLT,decide_true,Bool.true_eq_false,bN,bP,bO,bQ,aB,aC,aL,aK,bM,bV,dC,cC,cK])|exact .of (Wk.ro _ _) (by simp[V.ids,aK,bV,cC])) ?_)) (by repeat (first|exact WkFE.nil|refine WkFE.box (by repeat (first|exact WkFL.nil|refine WkFL.cons (by first|exact .of (Wk.refl _) (by first|rfl|simp only[List.length_cons,List.length_nil,Nat.reduceAdd,V.ids,V.idsL,idsA,entOk,List.all_cons,List.all_nil,Bool.and_self,Bool.and_true,Bool.true_and,ltB,noId,Nat.reduceLT,decide_true,Bool.true_eq_false,bN,bP,bO,bQ,aB,aC,aL,aK,bM,bV,dC,cC,cK])|exact .of (Wk.ro _ _) (by simp[V.ids,aK,bV,cC])) ?_)) ?_|refine WkFE.same (fun _ e=>by cases e) ?_)) (fun i hi=>by first|exact absurd rfl hi|exact Nat.lt_of_lt_of_le (oQ hi) (by simp))
  refine wdG gE (AI hn @List.length_map.{0,0}) ?_;refine zS 2 (rs:=[.cell 2 27,.tmp 3]) rfl (by first|exact .inl rfl|exact .inr rfl) (by simp only[Ct,At,↓nK,↓reduceIte,SA,SB,SC,SD,gE,uX,fpsG,evO,evB,evA,tV,uZ,eqF,eqC,oD,lI,slB,slK,gd,St.ev,iI,ofl,wrl,putE,V.ofVal,V.ofCell,bin2,un1,seg,nQ,iE,Value.oneCell',Nat.reduceBEq,Nat.reduceLT,Nat.reduceSub,Nat.reduceAdd,Nat.reduceMul,Nat.reduceLeDiff,Nat.reduceEqDiff,reduceCtorEq,Int.reduceLT,Int.reduceLE,Int.reduceEq,Int.reduceNe,Int.reduceBEq,Int.reduceBNe,Int.reduceAdd,Int.reduceSub,Int.reduceMul,Int.reduceToNat];with_reducible exact rfl) ?_ rfl (by first|rfl|simp only[List.length_cons,List.length_nil,Nat.reduceAdd,V.ids,V.idsL,idsA,entOk,List.all_cons,List.all_nil,Bool.and_self,Bool.and_true,Bool.true_and,ltB,noId,Nat.reduceLT,decide_true,Bool.true_eq_false,bN,bP,bO,bQ,aB,aC,aL,aK,bM,bV,dC,cC,cK])
  repeat (first|exact WkF.of (Wk.refl _) (by first|rfl|simp only[List.length_cons,List.length_nil,Nat.reduceAdd,V.ids,V.idsL,idsA,entOk,List.all_cons,List.all_nil,Bool.and_self,Bool.and_true,Bool.true_and,ltB,noId,Nat.reduceLT,decide_true,Bool.true_eq_false,bN,bP,bO,bQ,aB,aC,aL,aK,bM,bV,dC,cC,cK])|exact WkF.of (Wk.ro _ _) (by first|rfl|simp only[List.length_cons,List.length_nil,Nat.reduceAdd,V.ids,V.idsL,idsA,entOk,List.all_cons,List.all_nil,Bool.and_self,Bool.and_true,Bool.true_and,ltB,noId,Nat.reduceLT,decide_true,Bool.true_eq_false,bN,bP,bO,bQ,aB,aC,aL,aK,bM,bV,dC,cC,cK])|refine Gg ?_|refine Gh ?_|refine WkFL.cons ?_ ?_|exact WkFL.nil)
 | @var g dl fl u' a a1 o o1 e1 x s' hl hlt hs d r ih =>
  have hlt':(a:Int)<(ts.length:Int):=by omega
  have i1:=nR ts a o 0 [118,97,114];rw[fY,hs]at i1;obtain⟨B,hB⟩: ∃B,B=g++[x]:=⟨_,rfl⟩
  have hAs:g.map vaV++[vaV x]=B.map vaV:=by rw[hB,List.map_append];rfl
  have hAl:g.length+1=B.length:=by rw[hB];simp
  have hbl:B.length*88≤140737488355328:=by omega
  rw[←hB]at ih;simp only[rbx]at d ih ⊢;refine wdG gE (AI hlt' @List.length_map.{0,0}) ?_;refine aA [1] i1 TI (A9 aB aC @aL @aK bM bV dC cC cK) (A8 aI aJ @bI @bF cP iT kU kV) ?_;refine goG gE TI ?_;refine wdG gE TI ?_;refine aA [1] d TI (A9 aB aC @aL @aK bM bV dC cC cK) (A8 aI aJ @bI @bF cP iT kU kV) ?_;refine goG gE (A6 VA hAs hAl hbl vB @List.length_map.{0,0}) ?_;refine wdG gE (A6 VA hAs hAl hbl vB @List.length_map.{0,0}) ?_;refine cG ?_;refine AWp.cutP 6 [(0,.sl (ts.map tkV) .ro),(2,.pt 0 0),(3,.im (.pointer none)),(4,.pt 1 0),(5,.pt 2 0)] [.box [.sl [] .nl,.sl [] .nl,.sl [] .nl],.box [.sl (ts.map tkV) .ro,(.im (.int .i64 ((a1:Nat)))),(.im (.int .i64 (o1))),(.im (.int .i64 (e1)))],.box [.sl (((⟨B,dl,fl⟩:Un)).globals.map vaV) (.mine 3),.sl (((⟨B,dl,fl⟩:Un)).data.map scV) (.mine 4),.sl (((⟨B,dl,fl⟩:Un)).funcs.map fnV) (.mine 5)],.tip 96 6 ((⟨B,dl,fl⟩:Un)).globals.length,.tip 76 5 ((⟨B,dl,fl⟩:Un)).data.length,.tip 37 3 ((⟨B,dl,fl⟩:Un)).funcs.length] (A9 aB aC @aL @aK bM bV dC cC cK) ?_;exact ih
 | @dat g dl fl u' a a1 o o1 e1 x s' hl hlt hn hs d r ih =>
  have hlt':(a:Int)<(ts.length:Int):=by omega
  have i1:=nR ts a o 0 [118,97,114];rw[fY,hn]at i1;have i2:=nR ts a o 0 [100,97,116,97];rw[fY,hs]at i2;obtain⟨B,hB⟩: ∃B,B=dl++[x]:=⟨_,rfl⟩
  have hAs:dl.map scV++[scV x]=B.map scV:=by rw[hB,List.map_append];rfl
  have hAl:dl.length+1=B.length:=by rw[hB];simp
  have hbl:B.length*56≤140737488355328:=by omega
  rw[←hB]at ih;simp only[rbx]at d ih ⊢;refine wdG gE (AI hlt' @List.length_map.{0,0}) ?_;refine aA [1] i1 TI (A9 aB aC @aL @aK bM bV dC cC cK) (A8 aI aJ @bI @bF cP iT kU kV) ?_;refine goG gE TI ?_;refine wdG gE TI ?_;refine aA [1] i2 TI (A9 aB aC @aL @aK bM bV dC cC cK) (A8 aI aJ @bI @bF cP iT kU kV) ?_;refine goG gE TI ?_;refine wdG gE TI ?_;refine aA [1] d TI (A9 aB aC @aL @aK bM bV dC cC cK) (A8 aI aJ @bI @bF cP iT kU kV) ?_;refine goG gE (A6 SCT hAs hAl hbl yF @List.length_map.{0,0}) ?_;refine wdG gE (A6 SCT hAs hAl hbl yF @List.length_map.{0,0}) ?_;refine cG ?_;refine AWp.cutP 6 [(0,.sl (ts.map tkV) .ro),(2,.pt 0 0),(3,.im (.pointer none)),(4,.pt 1 0),(5,.pt 2 0)] [.box [.sl [] .nl,.sl [] .nl,.sl [] .nl],.box [.sl (ts.map tkV) .ro,(.im (.int .i64 ((a1:Nat)))),(.im (.int .i64 (o1))),(.im (.int .i64 (e1)))],.box [.sl (((⟨g,B,fl⟩:Un)).globals.map vaV) (.mine 3),.sl (((⟨g,B,fl⟩:Un)).data.map scV) (.mine 4),.sl (((⟨g,B,fl⟩:Un)).funcs.map fnV) (.mine 5)],.tip 96 6 ((⟨g,B,fl⟩:Un)).globals.length,.tip 76 5 ((⟨g,B,fl⟩:Un)).data.length,.tip 37 3 ((⟨g,B,fl⟩:Un)).funcs.length] (A9 aB aC @aL @aK bM bV dC cC cK) ?_;exact ih
 | @fn g dl fl u' a a1 o o1 e1 x s' hl hlt hn hn2 d r ih =>
  have hlt':(a:Int)<(ts.length:Int):=by omega
  have i1:=nR ts a o 0 [118,97,114];rw[fY,hn]at i1;have i2:=nR ts a o 0 [100,97,116,97];rw[fY,hn2]at i2;obtain⟨B,hB⟩: ∃B,B=fl++[x]:=⟨_,rfl⟩
  have hAs:fl.map fnV++[fnV x]=B.map fnV:=by rw[hB,List.map_append];rfl
  have hAl:fl.length+1=B.length:=by rw[hB];simp
  have hbl:B.length*64≤140737488355328:=by omega
  rw[←hB]at ih;simp only[rbx]at d ih ⊢;refine wdG gE (AI hlt' @List.length_map.{0,0}) ?_;refine aA [1] i1 TI (A9 aB aC @aL @aK bM bV dC cC cK) (A8 aI aJ @bI @bF cP iT kU kV) ?_;refine goG gE TI ?_;refine wdG gE TI ?_;refine aA [1] i2 TI (A9 aB aC @aL @aK bM bV dC cC cK) (A8 aI aJ @bI @bF cP iT kU kV) ?_;refine goG gE TI ?_;refine wdG gE TI ?_;refine aA [1] d TI (A9 aB aC @aL @aK bM bV dC cC cK) (A8 aI aJ @bI @bF cP iT kU kV) ?_;refine goG gE (A6 FU hAs hAl hbl Db @List.length_map.{0,0}) ?_;refine wdG gE (A6 FU hAs hAl hbl Db @List.length_map.{0,0}) ?_;refine cG ?_;refine AWp.cutP 6 [(0,.sl (ts.map tkV) .ro),(2,.pt 0 0),(3,.im (.pointer none)),(4,.pt 1 0),(5,.pt 2 0)] [.box [.sl [] .nl,.sl [] .nl,.sl [] .nl],.box [.sl (ts.map tkV) .ro,(.im (.int .i64 ((a1:Nat)))),(.im (.int .i64 (o1))),(.im (.int .i64 (e1)))],.box [.sl (((⟨g,dl,B⟩:Un)).globals.map vaV) (.mine 3),.sl (((⟨g,dl,B⟩:Un)).data.map scV) (.mine 4),.sl (((⟨g,dl,B⟩:Un)).funcs.map fnV) (.mine 5)],.tip 96 6 ((⟨g,dl,B⟩:Un)).globals.length,.tip 76 5 ((⟨g,dl,B⟩:Un)).data.length,.tip 37 3 ((⟨g,dl,B⟩:Un)).funcs.length] (A9 aB aC @aL @aK bM bV dC cC cK) ?_;exact ih
def lv:Ex→Nat:=Ex.para fun _ r=>r.foldl max 0+1
theorem xD(u:Un)(hu:fitU u):PC Tryz.prog 56 [.ag [.sl (u.globals.map vaV) .ro,.sl (u.data.map scV) .ro,.sl (u.funcs.map fnV) .ro]] (.im (.int .i64 (unE u))):=Lf u hu
theorem Za{ts:List Tk}: ∀ {f:Nat} {u:Un} {a o:Nat} {x:Un} {b p:Nat},uniM ts f u a o=some (.ok x b p)→ts.length≤b:=by
 intro f
 induction f with
 | zero=>intro u a o x b p h;cases h
 | succ f ih =>
  intro u a o x b p h;rw[uniM]at h;rcases bA h with ⟨hk,h⟩|⟨_,h⟩
  ·cases h;exact hk
  rcases bA h with ⟨_,h⟩|⟨_,h⟩
  ·obtain⟨_,_,_,_,h⟩:=bB h;exact ih h
  rcases bA h with ⟨_,h⟩|⟨_,h⟩
  ·obtain⟨_,_,_,_,h⟩:=bB h;exact ih h
  rcases bA h with ⟨_,h⟩|⟨_,h⟩
  ·obtain⟨_,_,_,_,h⟩:=bB h;exact ih h
  ·cases h
theorem Fx{ts:List Tk}(hts:ts.length≤65536)(hok: ∀t∈ts,TkOk t)(hW: ∀t∈ts,TkW t): ∃(x:Un) (a:Nat) (o e:Int),
  ((∃b e',allM ts (uniM ts (fu ts) uz0 0 0)=some (.bad b e')∧a=b∧e=e')∨(∃b p,allM ts (uniM ts (fu ts) uz0 0 0)=some (.ok x b p)∧e=0)) ∧
  DC Tryz.prog 55 [.sl (ts.map tkV) .ro] [.free,.free] (.tu [.ag [.sl (x.globals.map vaV) .ro,.sl (x.data.map scV) .ro,.sl (x.funcs.map fnV) .ro],.pt 1 0]) [.box [.sl (x.globals.map vaV) .ro,.sl (x.data.map scV) .ro,.sl (x.funcs.map fnV) .ro],.box [.sl (ts.map tkV) .ro,(.im (.int .i64 ((a:Nat)))),(.im (.int .i64 (o))),(.im (.int .i64 (e)))]]:=by
 obtain⟨r,hr⟩:=Ht ts (fu ts) uz0 0 0 (by unfold fu;omega)
 obtain⟨x,⟨a,o,e⟩,hL,q⟩:=OT (by omega) hok hW (fu ts) [] [] [] ⟨0,0,0⟩ (fun _=>⟨0,rfl,r,hr⟩) (fun _=>⟨Nat.le_refl _,Nat.le_refl _,Nat.le_refl _⟩)
 have d:=Oy (by omega) hL
 refine⟨x,a,o,e,?_,d⟩
 obtain⟨o0,ho,q⟩:=q.2 rfl
 have ho:(0:Int)=o0:=ho
 obtain rfl:o0=0:=by omega
 rcases q with ⟨b,p,z,w⟩|⟨b,e',z,z1,z2,z3⟩
 ·have z:uniM ts (fu ts) uz0 0 0=some (.ok x b p):=z
  have hb:=Za z;refine .inr ⟨b,p,?_,congrArg Sr.e w⟩;rw[z];show(if b<ts.length then _ else _)=_
  rw[if_neg (by omega)]
  rfl
 ·have z:uniM ts (fu ts) uz0 0 0=some (.bad b e'):=z
  refine .inl ⟨b,e',?_,z1,z2⟩;rw[z];rfl
def iL:=A7 @oM @lX @pI @jP @Ve @mP @lW
theorem JR(s:Bs)(hs:s.length≤65536):PC Tryz.prog 21 [.im (.string ⟨(s).toArray⟩)] (.tu [unV (uniP s).1,(.im (.int .i64 ((uniP s).2)))]):=by
 have h1:=Us s hs
 obtain⟨hok,hts,hes⟩:=wB s
 have hW:=AJ s
 unfold uniP
 generalize scnR s=q at h1 hok hts hes hW
 obtain⟨ts,e⟩:=q
 simp only at h1 hok hts hes hW ⊢
 by_cases he:e=0
 case neg =>
  rw[if_pos he];refine pcEnt 35 Tryz.func21 rfl [(0,.im (.string ⟨(s).toArray⟩))] ?_
  refine wG iL TI ?_;refine AR.callP h1 TI (A10 aB aC @aL @aK bM bV dC cC aG cK) ?_;refine goG iL TI ?_;refine wG iL he ?_;refine fiGenO [.cell 2 27,.tmp 3] (finG iL) ?_
  all_goals exact wkG (A10 aB aC @aL @aK bM bV dC cC aG cK)
 subst he
 rw[if_neg (by decide)]
 obtain⟨x,a2,o2,e2,hq,d⟩:=Fx hts hok hW
 rcases sR ts with ⟨b,e,hz,hx,he,hb⟩|⟨y,b,p,hz,hx,hr⟩
 ·have he: ¬e=0:=CP he
  rcases hq with ⟨b',e',w,_,w2⟩|⟨b',p',w,_⟩
  case inr=>rw[hz]at w;cases w
  rw[hz]at w;cases w
  subst w2;rw[hx,if_pos he];refine pcEnt 35 Tryz.func21 rfl [(0,.im (.string ⟨(s).toArray⟩))] ?_
  refine wG iL TI ?_;refine AR.callP h1 TI (A10 aB aC @aL @aK bM bV dC cC aG cK) ?_;refine goG iL TI ?_;refine wG iL TI ?_;refine aA [1,2] d TI (A10 aB aC @aL @aK bM bV dC cC aG cK) (A10 aI aJ @bI @bF cP iT kU kV aR vZ) ?_;refine goG iL UNT ?_;refine wdG iL (AI he UNT) ?_;refine fiGenO [.cell 2 27,.tmp 3] (finG iL) ?_
  all_goals exact wkG (A10 aB aC @aL @aK bM bV dC cC aG cK)
 rcases hq with ⟨b',e',w,_,w2⟩|⟨b',p',w,w2⟩
 ·rw[hz]at w;cases w
 rw[hz]at w
 cases w
 subst w2
 have h3:=xD x (sQ hok hts hr)
 rw[hx,if_neg (fun h=>h rfl)]
 simp only
 by_cases hu:unE x=0
 case neg =>
  rw[if_pos hu];refine pcEnt 35 Tryz.func21 rfl [(0,.im (.string ⟨(s).toArray⟩))] ?_
  refine wG iL TI ?_;refine AR.callP h1 TI (A10 aB aC @aL @aK bM bV dC cC aG cK) ?_;refine goG iL TI ?_;refine wG iL TI ?_;refine aA [1,2] d TI (A10 aB aC @aL @aK bM bV dC cC aG cK) (A10 aI aJ @bI @bF cP iT kU kV aR vZ) ?_;refine goG iL UNT ?_;refine wdG iL UNT ?_;refine AR.callP h3 TI (A10 aB aC @aL @aK bM bV dC cC aG cK) ?_;refine goG iL TI ?_;refine wdG iL hu ?_;refine fiGenO [.cell 2 27,.tmp 3] (finG iL) ?_
  all_goals exact wkG (A10 aB aC @aL @aK bM bV dC cC aG cK)
 rw[if_neg (fun h=>h hu)]
 rw[hu]at h3
 refine pcEnt 35 Tryz.func21 rfl [(0,.im (.string ⟨(s).toArray⟩))] ?_
 refine wG iL TI ?_
 refine AR.callP h1 TI (A10 aB aC @aL @aK bM bV dC cC aG cK) ?_
 refine goG iL TI ?_
 refine wG iL TI ?_
 refine aA [1,2] d TI (A10 aB aC @aL @aK bM bV dC cC aG cK) (A10 aI aJ @bI @bF cP iT kU kV aR vZ) ?_
 refine goG iL UNT ?_
 refine wdG iL UNT ?_
 refine AR.callP h3 TI (A10 aB aC @aL @aK bM bV dC cC aG cK) ?_
 refine goG iL TI ?_
 refine wdG iL UNT ?_
 refine fiGenO [.cell 2 27,.tmp 3] (finG iL) ?_
 rw[kS x]
 all_goals exact wkG (A10 aB aC @aL @aK bM bV dC cC aG cK)
def iK:=A11 @oM @lX @cJ @pI @lN @gP @jP @kG @mP @lW @cH
theorem Sh(s:Bs)(hs:s.length≤65536):PC Tryz.prog 26 [.im (.string ⟨(s).toArray⟩)] (.tu [(.im (.int .i64 ((errP s).1.1))),(.im (.int .i64 ((errP s).1.2))),(.im (.int .i64 ((errP s).2)))]):=by
 have h1:=Us s hs
 obtain⟨hok,hts,hes⟩:=wB s
 have hW:=AJ s
 unfold errP
 generalize scnR s=q at h1 hok hts hes hW
 obtain⟨ts,e⟩:=q
 simp only at h1 hok hts hes hW ⊢
 by_cases he3:e=3
 ·subst he3
  rw[if_pos rfl,←BB];have h2:=Cj ts (ts.length:Int) (by omega)
  refine pcEnt 60 Tryz.func26 rfl [(0,.im (.string ⟨(s).toArray⟩))] ?_
  refine wG iK TI ?_;refine AR.callP h1 TI (A10 aB aC @aL @aK bM bV dC cC aG cK) ?_;refine goG iK TI ?_;refine wG iK @List.length_map.{0,0} ?_;refine AR.callP h2 TI (A10 aB aC @aL @aK bM bV dC cC aG cK) ?_;refine goG iK TI ?_;refine wG iK TI ?_;refine fiGenO [.tmp 2,.tmp 3,.tmp 4] (finG iK) ?_
  all_goals exact wkG (A10 aB aC @aL @aK bM bV dC cC aG cK)
 rw[if_neg he3]
 by_cases he:e=0
 case neg =>
  rw[if_pos he];refine pcEnt 60 Tryz.func26 rfl [(0,.im (.string ⟨(s).toArray⟩))] ?_
  refine wG iK TI ?_;refine AR.callP h1 TI (A10 aB aC @aL @aK bM bV dC cC aG cK) ?_;refine goG iK TI ?_;refine wG iK (AI he he3) ?_;refine fiGenO [.tmp 2,.tmp 3,.tmp 4] (finG iK) ?_
  all_goals exact wkG (A10 aB aC @aL @aK bM bV dC cC aG cK)
 subst he
 rw[if_neg (by decide)]
 obtain⟨x,a2,o2,e2,hq,d⟩:=Fx hts hok hW
 rcases sR ts with ⟨b,e,hz,hx,he,hb⟩|⟨y,b,p,hz,hx,hr⟩
 ·have he: ¬e=0:=CP he
  rcases hq with ⟨b',e',w,w1,w2⟩|⟨b',p',w,_⟩
  case inr=>rw[hz]at w;cases w
  rw[hz]at w;cases w
  subst w1;subst w2;have h3:=Cj ts (a2:Int) (by omega)
  rw[hx,if_pos he];refine pcEnt 60 Tryz.func26 rfl [(0,.im (.string ⟨(s).toArray⟩))] ?_
  refine wG iK TI ?_;refine AR.callP h1 TI (A10 aB aC @aL @aK bM bV dC cC aG cK) ?_;refine goG iK TI ?_;refine wG iK TI ?_;refine aA [0,1] d TI (A10 aB aC @aL @aK bM bV dC cC aG cK) (A10 aI aJ @bI @bF cP iT kU kV aR vZ) ?_;refine goG iK UNT ?_;refine wdG iK he ?_;refine AR.callP h3 TI (A10 aB aC @aL @aK bM bV dC cC aG cK) ?_;refine goG iK TI ?_;refine wdG iK TI ?_;refine fiGenO [.tmp 2,.tmp 3,.tmp 4] (finG iK) ?_
  all_goals exact wkG (A10 aB aC @aL @aK bM bV dC cC aG cK)
 rcases hq with ⟨b',e',w,_,w2⟩|⟨b',p',w,w2⟩
 ·rw[hz]at w;cases w
 rw[hz]at w
 cases w
 subst w2
 have h3:=xD x (sQ hok hts hr)
 rw[hx,if_neg (fun h=>h rfl)]
 simp only
 refine pcEnt 60 Tryz.func26 rfl [(0,.im (.string ⟨(s).toArray⟩))] ?_
 refine wG iK TI ?_
 refine AR.callP h1 TI (A10 aB aC @aL @aK bM bV dC cC aG cK) ?_
 refine goG iK TI ?_
 refine wG iK TI ?_
 refine aA [0,1] d TI (A10 aB aC @aL @aK bM bV dC cC aG cK) (A10 aI aJ @bI @bF cP iT kU kV aR vZ) ?_
 refine goG iK UNT ?_
 refine wdG iK UNT ?_
 refine AR.callP h3 TI (A10 aB aC @aL @aK bM bV dC cC aG cK) ?_
 refine goG iK TI ?_
 refine wdG iK TI ?_
 refine fiGenO [.tmp 2,.tmp 3,.tmp 4] (finG iK) ?_
 all_goals exact wkG (A10 aB aC @aL @aK bM bV dC cC aG cK)
theorem IE(s:Bs):(errP s).2=(uniP s).2:=by
 unfold errP uniP
 by_cases h3:(scnR s).2=3
 ·rw[if_pos h3,if_pos (by omega)];exact h3.symm
 rw[if_neg h3]
 by_cases h0:(scnR s).2≠0
 ·rw[if_pos h0,if_pos h0]
 rw[if_neg h0,if_neg h0]
 by_cases h1:(unR (scnR s).1).2.1≠0
 ·rw[if_pos h1,if_pos h1]
 rw[if_neg h1,if_neg h1]
 by_cases h2:unE (unR (scnR s).1).1≠0
 ·rw[if_pos h2]
 ·rw[if_neg h2];exact Decidable.not_not.1 h2
def vR:=A4 @oM @pI @mP @gI
theorem NT(s:Bs)(hs:s.length≤140737488355328):PC Tryz.prog 5 [.im (.string ⟨(s).toArray⟩)] (.im (.bool (true))):=by
 have qx:=KZ
 by_cases hf:1500<s.length
 ·have hf':(s.length:Int)>1500:=by omega
  refine pcEnt 32 Tryz.func5 rfl [(0,.im (.string ⟨(s).toArray⟩))] ?_
  refine wG vR (AI BY hf') ?_;refine AR.callP qx TI Hp ?_;refine goG vR TI ?_;refine wG vR TI ?_;exact aD
 have hf': ¬(s.length:Int)>1500:=by omega
 have q1:=Le s (by omega)
 have q2:=JR s (by omega)
 obtain⟨hu,hd⟩:=Yy s
 have qs:=IW _ hu hd
 generalize (uniP s).1=u at q1 q2 qs
 generalize (uniP s).2=e at q1 q2
 rw[kS]at q1 q2 qs
 refine pcEnt 32 Tryz.func5 rfl [(0,.im (.string ⟨(s).toArray⟩))] ?_
 refine wG vR (AI BY hf') ?_
 refine AR.callP q1 TI Hp ?_
 refine goG vR TI ?_
 refine wG vR TI ?_
 refine AR.callP q2 TI Hp ?_
 refine goG vR TI ?_
 refine wG vR TI ?_
 refine AR.callP qs TI Hp ?_
 refine goG vR TI ?_
 refine AR.callP qx TI Hp ?_
 refine goG vR TI ?_
 refine wG vR TI ?_
 exact aD
def uW:=A3 @pI @mP @gI
theorem NU(s:Bs)(hs:s.length≤140737488355328):PC Tryz.prog 7 [.im (.string ⟨(s).toArray⟩)] (.im (.bool (true))):=by
 have qx:=KZ
 by_cases hf:1500<s.length
 ·have hf':(s.length:Int)>1500:=by omega
  refine pcEnt 53 Tryz.func7 rfl [(0,.im (.string ⟨(s).toArray⟩))] ?_
  refine wG uW (AI BY hf') ?_;refine AR.callP qx TI Hp ?_;refine goG uW TI ?_;refine wG uW TI ?_;exact aD
 have hf': ¬(s.length:Int)>1500:=by omega
 have q1:=Jj s (by omega)
 have q2:=Sh s (by omega)
 have q3:=Le s (by omega)
 rw[←IE]at q3
 generalize (uniP s).1=u at q3
 generalize (errP s).2=e at q1 q2 q3
 generalize (errP s).1.1=a at q1 q2
 generalize (errP s).1.2=b at q1 q2
 rw[kS]at q3
 refine pcEnt 53 Tryz.func7 rfl [(0,.im (.string ⟨(s).toArray⟩))] ?_
 refine wG uW (AI BY hf') ?_
 refine AR.callP q1 TI Hp ?_
 refine goG uW TI ?_
 refine wG uW TI ?_
 refine AR.callP q2 TI Hp ?_
 refine goG uW TI ?_
 refine wG uW TI ?_
 refine AR.callP q3 TI Hp ?_
 refine goG uW TI ?_
 refine wG uW TI ?_
 refine AR.callP qx TI Hp ?_
 refine goG uW TI ?_
 refine wG uW TI ?_
 exact aD
end Go.Proofs.YtmbmmckagcdapaaGreatDoor
