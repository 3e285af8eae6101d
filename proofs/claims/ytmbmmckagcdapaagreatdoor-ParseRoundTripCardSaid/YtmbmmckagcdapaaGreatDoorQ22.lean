import Derived.Test.YtmbmmckagcdapaaGreatDoorQ19
set_option maxHeartbeats 1000000
set_option linter.all false
namespace Go.Proofs.YtmbmmckagcdapaaGreatDoor
open Go.RowKit
theorem cY{K:Ro→Prop}{P:Program}{st0:Nat→Ent}{Q:Exit→St→Prop}{N t:Nat}{s:List (Nat×V)}{st:Nat→Ent}{x y:Code}{b:Bool}(ht:Nat.blt t N=true)(hc:look s t= .im (.bool b))
  (h1:b=true→AWpK K P st0 x Q ⟨dn N s,st⟩) (h2:b=false→AWpK K P st0 y Q ⟨dn N s,st⟩):AWpK K P st0 (.cond (.tmp t) x y) Q ⟨dn N s,st⟩:=by
 cases b
 ·exact jP ht hc (h2 rfl)
 ·exact pT ht hc (h1 rfl)
def ltr(r:Int):Bool:=decide (r≥97)&&decide (r≤122)||decide (r≥65)&&decide (r≤90)||decide (r=95)||decide (r=46)
def dgt(r:Int):Bool:=decide (r≥48)&&decide (r≤57)
theorem Mb(c:UInt8):ltr c.toNat=isL c:=by
 unfold ltr isL
 rw[Bool.eq_iff_iff,decide_eq_true_eq]
 simp only[Bool.or_eq_true,Bool.and_eq_true,decide_eq_true_eq]
 omega
theorem Yf(c:UInt8):dgt c.toNat=isD c:=by
 unfold dgt isD
 rw[Bool.eq_iff_iff,decide_eq_true_eq]
 simp only[Bool.and_eq_true,decide_eq_true_eq]
 omega
theorem Gz(r:Int):PC Tryz.prog 191 [.im (.int .i32 r)] (.im (.bool (ltr r))):=by
 refine pcEnt 25 Tryz.func191 rfl [(0,.im (.int .i32 r))] ?_
 refine wG TI TI ?_
 exact aB
theorem Yp(r:Int):PC Tryz.prog 192 [.im (.int .i32 r)] (.im (.bool (dgt r))):=by
 refine pcEnt 9 Tryz.func192 rfl [(0,.im (.int .i32 r))] ?_
 refine wG TI TI ?_
 exact aB
theorem Py{p s:Bs}:pre p s=(decide (p.length≤s.length)&&s.take p.length==p):=by
 rw[Bool.eq_iff_iff,jV]
 simp only[Bool.and_eq_true,decide_eq_true_eq,beq_iff_eq]
 constructor
 ·rintro⟨x,rfl⟩
  simp
 ·rintro⟨_,h⟩
  exact⟨s.drop p.length,by conv=>lhs;rw[←List.take_append_drop p.length s,h]⟩
def Yz:= @iC
theorem Kp(s p:Bs):PC Tryz.prog 189 [.im (.string ⟨(s).toArray⟩),.im (.string ⟨(p).toArray⟩)] (.im (.bool (pre p s))):=by
 rw[Py]
 refine pcEnt 18 Tryz.func189 rfl [(0,.im (.string ⟨(s).toArray⟩)),(1,.im (.string ⟨(p).toArray⟩))] ?_
 by_cases h:p.length≤s.length
 ·have h':(s.length:Int)≥(p.length:Int):=by omega
  have h2:(p.length:Int)≤(s.length:Int):=h';refine wG Yz (A4 BY h' h2 GDS) ?_;rw[decide_eq_true h,Bool.true_and];exact aB
 ·have h': ¬(s.length:Int)≥(p.length:Int):=by omega
  refine wG Yz (AI BY h') ?_;rw[decide_eq_false h,Bool.false_and];exact aB
theorem Sa(s p:Bs):PC Tryz.prog 131 [.im (.string ⟨(s).toArray⟩),.im (.string ⟨(p).toArray⟩)] (.im (.bool (pre p s))):=by
 have h:=Kp s p
 refine pcEnt 8 Tryz.func131 rfl [(0,.im (.string ⟨(s).toArray⟩)),(1,.im (.string ⟨(p).toArray⟩))] ?_
 refine wG TI TI ?_
 refine AR.callP h TI TI ?_
 refine goG TI TI ?_
 refine wG TI TI ?_
 exact aB
def cutP(p s:Bs):Bs:=if pre p s then s.drop p.length else s
def tD:= @iC
theorem DG(s p:Bs):PC Tryz.prog 248 [.im (.string ⟨(s).toArray⟩),.im (.string ⟨(p).toArray⟩)] (.tu [.im (.string ⟨(cutP p s).toArray⟩),(.im (.bool (pre p s)))]):=by
 have h:=Kp s p
 unfold cutP
 refine pcEnt 15 Tryz.func248 rfl [(0,.im (.string ⟨(s).toArray⟩)),(1,.im (.string ⟨(p).toArray⟩))] ?_
 refine wG tD TI ?_
 refine AR.callP h TI TI ?_
 cases b:pre p s with
 | false =>
  refine goG tD TI ?_;refine wG tD TI ?_;simp only[Bool.false_eq_true,if_false];refine fiGenO [.tmp 4,.tmp 5] (finG tD) ?_
  all_goals exact wkG TI
 | true =>
  rw[Py,Bool.and_eq_true,decide_eq_true_eq]at b;have h2:(p.length:Int)≤(s.length:Int):=by omega
  have e:(s.drop p.length).take (s.length-p.length)=s.drop p.length:=by rw[List.take_of_length_le (by rw[List.length_drop];omega)]
  refine goG tD TI ?_;refine wG tD (A4 BY h2 e GDS) ?_;simp only[if_true];refine fiGenO [.tmp 4,.tmp 5] (finG tD) ?_
  all_goals exact wkG TI
theorem Sd(s p:Bs):PC Tryz.prog 196 [.im (.string ⟨(s).toArray⟩),.im (.string ⟨(p).toArray⟩)] (.tu [.im (.string ⟨(cutP p s).toArray⟩),(.im (.bool (pre p s)))]):=by
 have h:=DG s p
 refine pcEnt 11 Tryz.func196 rfl [(0,.im (.string ⟨(s).toArray⟩)),(1,.im (.string ⟨(p).toArray⟩))] ?_
 refine wG TI TI ?_
 refine AR.callP h TI TI ?_
 refine goG TI TI ?_
 refine wG TI TI ?_
 refine fiGenO [.tmp 4,.tmp 5] (finG TI) ?_
 all_goals exact wkG TI
theorem Rz(l:Bs)(c:UInt8):PC Tryz.prog 269 [.im (.string ⟨(l).toArray⟩),.im (.int .u8 (c.toNat))] (.im (.int .i64 (Lib.indexByte l c))):=by
 have h:=KS l c
 refine pcEnt 8 Tryz.func269 rfl [(0,.im (.string ⟨(l).toArray⟩)),(1,.im (.int .u8 (c.toNat)))] ?_
 refine wG TI TI ?_
 refine AR.callP h TI TI ?_
 refine goG TI TI ?_
 refine wG TI TI ?_
 exact aB
def hexI(c:UInt8):Int:=match hexv c with
 | some d=>d
 | none=> -1
def hexL(c:UInt8):UInt8:=c|||((32:UInt8)*((c >>> 6)&&&1))
theorem OQ(c:UInt8):IntKind.u8.wrap ↑(BitVec.ofInt IntKind.u8.bits ↑c.toNat|||BitVec.ofInt IntKind.u8.bits (IntKind.u8.wrap (32*IntKind.u8.wrap ↑(BitVec.ofInt IntKind.u8.bits (Int.fdiv (↑c.toNat) (2^min 6 IntKind.u8.bits))&&&BitVec.ofInt IntKind.u8.bits 1).toNat))).toNat=((hexL c).toNat:Int) :=
 of_decide_eq_true (pD (fun c=>decide (IntKind.u8.wrap ↑(BitVec.ofInt IntKind.u8.bits ↑c.toNat|||BitVec.ofInt IntKind.u8.bits (IntKind.u8.wrap (32*IntKind.u8.wrap ↑(BitVec.ofInt IntKind.u8.bits (Int.fdiv (↑c.toNat) (2^min 6 IntKind.u8.bits))&&&BitVec.ofInt IntKind.u8.bits 1).toNat))).toNat=((hexL c).toNat:Int))) (by decide +kernel) c)
theorem Up(c:UInt8):Lib.indexByte [48,49,50,51,52,53,54,55,56,57,97,98,99,100,101,102] (hexL c)=hexI c :=
 of_decide_eq_true (pD (fun c=>decide (Lib.indexByte [48,49,50,51,52,53,54,55,56,57,97,98,99,100,101,102] (hexL c)=hexI c)) (by decide +kernel) c)
theorem Hb(c:UInt8):PC Tryz.prog 247 [.im (.int .u8 (c.toNat))] (.im (.int .i64 (hexI c))):=by
 have h:=Rz [48,49,50,51,52,53,54,55,56,57,97,98,99,100,101,102] (hexL c)
 have hE:=OQ c
 rw[Up]at h
 refine pcEnt 10 Tryz.func247 rfl [(0,.im (.int .u8 (c.toNat)))] ?_
 refine wG TI TI ?_
 refine AR.callP h hE TI ?_
 refine goG TI TI ?_
 refine wG TI TI ?_
 exact aB
theorem Tn{l:Bs}{m:Nat}(hm:m<l.length)(h: ∀j (hj:j<l.length),j<m→isW l[j]=true)(h2:isW l[m]=false):(l.takeWhile isW).length=m:=by
 induction l generalizing m with
 | nil=>cases hm
 | cons c l ih =>
  cases m with
  | zero =>
   rw[List.takeWhile_cons,if_neg (by rw[show isW c=false from h2];decide)]
   rfl
  | succ m =>
   rw[List.takeWhile_cons,if_pos (show isW c=true from h 0 (by simp) (by omega)),List.length_cons,ih (by simpa using hm) (fun j hj hjm=>h (j+1) (by simpa using hj) (by omega)) h2]
theorem To{l:Bs}(h: ∀j (hj:j<l.length),isW l[j]=true):(l.takeWhile isW).length=l.length:=by
 induction l with
 | nil=>rfl
 | cons c l ih =>
  rw[List.takeWhile_cons,if_pos (show isW c=true from h 0 (by simp)),List.length_cons,List.length_cons,ih fun j hj=>h (j+1) (by simpa using hj)]
def nL:=A4 @dR @nB @dA @iC
theorem WQ(l:Bs)(p:Int×Int)(ts:List Tk):DC Tryz.prog 133 [.pt 0 0] [.box [.im (.string ⟨(l).toArray⟩),(.im (.int .i64 (p.1))),(.im (.int .i64 (p.2))),.sl (ts.map tkV) (.mine 1)],.tip 122 5 ts.length] (.im (.int .i64 ((l.takeWhile isW).length))) [.box [.im (.string ⟨(l).toArray⟩),(.im (.int .i64 (p.1))),(.im (.int .i64 (p.2))),.sl (ts.map tkV) (.mine 1)],.tip 122 5 ts.length]:=by
 refine dcEnt 28 Tryz.func133 rfl [(0,.pt 0 0)] ?_
 refine wG nL TI ?_
 refine aP ?_
 refine ALp.cutP 3 [(0,.pt 0 0),(9,.itr 2)] [.box [.im (.string ⟨(l).toArray⟩),(.im (.int .i64 (p.1))),(.im (.int .i64 (p.2))),.sl (ts.map tkV) (.mine 1)],.tip 122 5 ts.length,.iter ⟨l.toArray⟩ 0] (A3 bC aX aC) ?_
 refine aW l.length (AllTo isW l) (fun m=>⟨dn 28 [(0,.pt 0 0),(9,.itr 2)],ofl [.box [.im (.string ⟨(l).toArray⟩),(.im (.int .i64 (p.1))),(.im (.int .i64 (p.2))),.sl (ts.map tkV) (.mine 1)],.tip 122 5 ts.length,.iter ⟨l.toArray⟩ m]⟩) ?_ 0 (Nat.zero_le _) (AllTo.zero _ _)
 intro m hm hI hnext
 have hsz:(⟨l.toArray⟩:ByteArray).size=l.length:=dB l
 by_cases hlt:m<l.length
 case neg =>
  obtain rfl:m=l.length:=by omega
  have hn: ¬l.length<l.length:=by omega
  clear hnext;rw[To fun j hj=>hI j hj hj]
  refine wG nL (A3 dB hn @if_false.{1}) ?_;exact bO (A3 bC aX aC)
 have hlt2:m<(⟨l.toArray⟩:ByteArray).size:=by rw[hsz];exact hlt
 have hget:((⟨l.toArray⟩:ByteArray)[m]'hlt2)=l[m]:=by
  have:=Wb l m;rw[getElem?_pos _ m hlt2,List.getElem?_eq_getElem hlt]at this;exact Option.some.inj this
 obtain⟨r,hr⟩: ∃r:Int,((Utf8.decode ⟨l.toArray⟩ m).1:Int)=r:=⟨_,rfl⟩
 have key:(r=(l[m].toNat:Int)∧(Utf8.decode ⟨l.toArray⟩ m).2=1)∨(128≤r∧128≤l[m].toNat):=by
  by_cases hb:l[m].toNat<128
  ·have hd:=decode_ascii ⟨l.toArray⟩ m hlt2 (by rw[hget];exact hb)
   rw[hd]at hr ⊢;refine .inl ⟨?_,rfl⟩;rw[←hr,hget]
  ·have:=Gt ⟨l.toArray⟩ m hlt2 (by rw[hget];omega)
   exact .inr ⟨by omega,by omega⟩
 have hw:isW l[m]=(ltr r||dgt r):=by
  rcases key with ⟨h1,_⟩|⟨h1,h2⟩
  ·rw[h1,Mb,Yf];rfl
  ·have e1:ltr r=false:=by unfold ltr;simp;omega
   have e2:dgt r=false:=by unfold dgt;simp;omega
   have e3:isL l[m]=false:=by unfold isL;simp;omega
   have e4:isD l[m]=false:=by unfold isD;simp;omega
   rw[e1,e2];unfold isW;rw[e3,e4]
 have q1:=Gz r
 have q2:=Yp r
 refine wG nL (A4 dB hlt hr @if_true.{1}) ?_
 cases b1:ltr r with
 | true =>
  rw[b1]at q1 hw
  have hd2:(Utf8.decode ⟨l.toArray⟩ m).2=1:=by
   rcases key with ⟨_,h⟩|⟨h1,h2⟩
   ·exact h
   ·unfold ltr at b1;simp at b1;omega
  refine AR.callP q1 TI (A3 bC aX aC) ?_;refine goG nL TI ?_;rw[hd2];refine wG nL TI ?_;refine ALp.cutP 3 [(0,.pt 0 0),(9,.itr 2)] [.box [.im (.string ⟨(l).toArray⟩),(.im (.int .i64 (p.1))),(.im (.int .i64 (p.2))),.sl (ts.map tkV) (.mine 1)],.tip 122 5 ts.length,.iter ⟨l.toArray⟩ (m+1)] (A3 bC aX aC) ?_;exact hnext (m+1) (by omega) (by omega) (hI.succ hlt hw)
 | false =>
 rw[b1,Bool.false_or]at hw
 rw[b1]at q1
 refine AR.callP q1 TI (A3 bC aX aC) ?_
 refine goG nL TI ?_
 refine AR.callP q2 TI (A3 bC aX aC) ?_
 cases b2:dgt r with
 | true =>
  rw[b2]at hw
  have hd2:(Utf8.decode ⟨l.toArray⟩ m).2=1:=by
   rcases key with ⟨_,h⟩|⟨h1,h2⟩
   ·exact h
   ·unfold dgt at b2;simp at b2;omega
  refine goG nL TI ?_;rw[hd2];refine wG nL TI ?_;refine ALp.cutP 3 [(0,.pt 0 0),(9,.itr 2)] [.box [.im (.string ⟨(l).toArray⟩),(.im (.int .i64 (p.1))),(.im (.int .i64 (p.2))),.sl (ts.map tkV) (.mine 1)],.tip 122 5 ts.length,.iter ⟨l.toArray⟩ (m+1)] (A3 bC aX aC) ?_;exact hnext (m+1) (by omega) (by omega) (hI.succ hlt hw)
 | false =>
  rw[b2]at hw;rw[Tn hlt (fun j hj hjm=>hI j hj hjm) hw]
  clear hnext;refine goG nL TI ?_;refine wG nL TI ?_;exact bO (A3 bC aX aC)
theorem DZ(p:Int×Int){l:Bs}{m:Nat}(h:m<l.length):advs p (l.take (m+1))=adv (advs p (l.take m)) l[m]:=by
 rw[List.take_succ_eq_append_getElem h,So]
 rfl
theorem sZ(l:Bs): ∀p:Int×Int,0≤p.1→0≤p.2→0≤(advs p l).1∧(advs p l).1≤p.1+l.length∧0≤(advs p l).2∧(advs p l).2≤p.2+l.length+1:=by
 induction l with
 | nil=>intro p h1 h2;exact⟨h1,by simp[advs],h2,by simp[advs];omega⟩
 | cons c l ih =>
  intro p h1 h2;have e:advs p (c::l)=advs (adv p c) l:=rfl;rw[e]
  have hk:0≤(adv p c).1∧(adv p c).1≤p.1+1∧0≤(adv p c).2∧(adv p c).2≤p.2+1:=by
   unfold adv;split<;>simp only<;>omega
  have:=ih (adv p c) hk.1 hk.2.2.1;simp only[List.length_cons];omega
def Hj:=A15 @cO @Oo @dR @lH @nB @yO @yN @tO @yH @cN @rF @dA @rE @tI @iC
theorem KC(l:Bs)(p:Int×Int)(ts:List Tk)(n:Nat)(hn:n≤l.length)(hp1:0≤p.1∧p.1≤4611686018427387904)(hp2:0≤p.2∧p.2≤4611686018427387904)(hl:l.length≤4194304) :
  DC Tryz.prog 69 [.pt 0 0,(.im (.int .i64 (n)))] [.box [.im (.string ⟨(l).toArray⟩),(.im (.int .i64 (p.1))),(.im (.int .i64 (p.2))),.sl (ts.map tkV) (.mine 1)],.tip 122 5 ts.length] (.tu []) [.box [.im (.string ⟨(l.drop n).toArray⟩),(.im (.int .i64 ((advs p (l.take n)).1))),(.im (.int .i64 ((advs p (l.take n)).2))),.sl (ts.map tkV) (.mine 1)],.tip 122 5 ts.length]:=by
 have hn2:(n:Int)≤(l.length:Int):=by omega
 have hA:(l.take n).length≤140737488355328:=by rw[List.length_take];omega
 have hlen:(l.take n).length=n:=by rw[List.length_take];omega
 refine dcEnt 47 Tryz.func69 rfl [(0,.pt 0 0),(1,(.im (.int .i64 (n))))] ?_
 refine wG Hj (A4 BY GDS hn2 hA) ?_
 refine aP ?_
 refine ALp.cutP 2 [(0,.pt 0 0),(1,(.im (.int .i64 (n)))),(12,.sl ((l.take n).map byB) .ro),(13,(.im (.int .i64 ((l.take n).length)))),(14,(.im (.int .i64 ((((0:Nat)):Int)))))] [.box [.im (.string ⟨(l).toArray⟩),(.im (.int .i64 ((advs p (l.take 0)).1))),(.im (.int .i64 ((advs p (l.take 0)).2))),.sl (ts.map tkV) (.mine 1)],.tip 122 5 ts.length] (A3 bC aX aC) ?_
 refine aW n (fun _=>True) (fun m=>⟨dn 47 [(0,.pt 0 0),(1,(.im (.int .i64 (n)))),(12,.sl ((l.take n).map byB) .ro),(13,(.im (.int .i64 ((l.take n).length)))),(14,(.im (.int .i64 ((((m:Nat)):Int)))))],ofl [.box [.im (.string ⟨(l).toArray⟩),(.im (.int .i64 ((advs p (l.take m)).1))),(.im (.int .i64 ((advs p (l.take m)).2))),.sl (ts.map tkV) (.mine 1)],.tip 122 5 ts.length]⟩) ?_ 0 (Nat.zero_le _) trivial
 intro m hm _ hnext
 by_cases hlt:m<n
 case neg =>
  obtain rfl:m=n:=by omega
  clear hnext;have hnn: ¬(m:Int)<((l.take m).length:Int):=by omega
  have e:(l.drop m).take (l.length-m)=l.drop m:=List.take_of_length_le (by rw[List.length_drop];omega)
  generalize advs p (l.take m)=q;refine wG Hj (A5 hnn BY GDS hn2 e) ?_;refine fiGen [] (finG Hj) ?_ rfl (idG (A3 bC aX aC))
  all_goals exact wkG (A3 bC aX aC)
 have hlt':(m:Int)<((l.take n).length:Int):=by omega
 have hml:m<l.length:=by omega
 have hm1:=aK hlt (by omega)
 have hg:(l.take n)[m]? =some l[m]:=by rw[List.getElem?_take,if_pos hlt,List.getElem?_eq_getElem hml]
 have hn3:=hnext (m+1) (by omega) (by omega) trivial
 rw[DZ p hml]at hn3
 clear hnext
 have hb:=sZ (l.take m) p hp1.1 hp2.1
 rw[List.length_take]at hb
 generalize advs p (l.take m)=q at hn3 hb ⊢
 have hw1:IntKind.i64.wrap (q.1+1)=q.1+1:=cU (by omega)
 have hw2:IntKind.i64.wrap (q.2+1)=q.2+1:=cU (by omega)
 by_cases hc:l[m].toNat=10
 ·have hc':((l[m].toNat:Nat):Int)=10:=by omega
  rw[show adv q l[m]=(q.1+1,1) by unfold adv;rw[if_pos hc]]at hn3
  refine wG Hj (A7 hlt' hg BY hw1 hw2 hc' hm1) ?_;refine ALp.cutP 2 [(0,.pt 0 0),(1,(.im (.int .i64 (n)))),(12,.sl ((l.take n).map byB) .ro),(13,(.im (.int .i64 ((l.take n).length)))),(14,(.im (.int .i64 ((((m+1:Nat)):Int)))))] [.box [.im (.string ⟨(l).toArray⟩),(.im (.int .i64 (((q.1+1,(1:Int))).1))),(.im (.int .i64 (((q.1+1,(1:Int))).2))),.sl (ts.map tkV) (.mine 1)],.tip 122 5 ts.length] (A3 bC aX aC) ?_;exact hn3
 ·have hc': ¬((l[m].toNat:Nat):Int)=10:=by omega
  rw[show adv q l[m]=(q.1,q.2+1) by unfold adv;rw[if_neg hc]]at hn3
  refine wG Hj (A7 hlt' hg BY hw1 hw2 hc' hm1) ?_;refine ALp.cutP 2 [(0,.pt 0 0),(1,(.im (.int .i64 (n)))),(12,.sl ((l.take n).map byB) .ro),(13,(.im (.int .i64 ((l.take n).length)))),(14,(.im (.int .i64 ((((m+1:Nat)):Int)))))] [.box [.im (.string ⟨(l).toArray⟩),(.im (.int .i64 (((q.1,q.2+1)).1))),(.im (.int .i64 (((q.1,q.2+1)).2))),.sl (ts.map tkV) (.mine 1)],.tip 122 5 ts.length] (A3 bC aX aC) ?_;exact hn3
theorem Mf(c:UInt8):Lib.contains [32,9,13,10] [c]=isS c :=
 of_decide_eq_true (pD (fun c=>decide (Lib.contains [32,9,13,10] [c]=isS c)) (by decide +kernel) c)
theorem Xu(c:UInt8)(s:Bs):Lib.indexByte (c::s) c=0:=by
 unfold Lib.indexByte
 simp
theorem Ge{c d:UInt8}(s:Bs)(h:c≠d):Lib.indexByte (c::s) d=if Lib.indexByte s d= -1 then -1 else Lib.indexByte s d+1:=by
 have e:(c==d)=false:=by simpa using h
 rw[Lib.indexByte,e]
 by_cases q:Lib.indexByte s d= -1
 ·simp[q]
 ·simp[q]
theorem Bi(l:Bs)(c:UInt8):Lib.indexByte l c= -1∨(0≤Lib.indexByte l c∧Lib.indexByte l c<l.length):=by
 induction l with
 | nil=>exact .inl rfl
 | cons b l ih =>
  by_cases h:b=c
  ·subst h
   rw[Xu];exact .inr ⟨Int.le_refl _,by rw[List.length_cons];omega⟩
  ·rw[Ge l h,List.length_cons]
   split
   ·exact .inl rfl
   ·omega
theorem GE(s:Bs):skpG true s=if Lib.indexByte s 10= -1 then []else skpG false (s.drop (Lib.indexByte s 10).toNat):=by
 induction s with
 | nil=>rfl
 | cons c s ih =>
  rw[skpG]
  by_cases hc:c.toNat=10
  ·obtain rfl:c=10:=toNat_inj hc
   rw[if_pos hc,Xu,if_neg (by decide)]
   show skpG false s=skpG false (10::s)
   rw[skpG,if_pos (by decide)]
  ·have hne:c≠10:=fun e=>hc (by rw[e];rfl)
   rw[if_neg hc,Ge s hne,ih]
   by_cases q:Lib.indexByte s 10= -1
   ·rw[if_pos q,if_pos (by rw[if_pos q])]
   ·have h2:=(Bi s 10).resolve_left q
    rw[if_neg q,if_neg q,if_neg (by omega),show(Lib.indexByte s 10+1).toNat=(Lib.indexByte s 10).toNat+1 by omega,List.drop_succ_cons]
theorem AV{s:Bs}(h:pre [47,47] s=true):skpG false s=skpG true s:=by
 obtain⟨x,rfl⟩:=jV.1 h
 have e1:skpG false (47::47::x)=skpG true (47::x):=by
  conv=>lhs;rw[skpG]
  rw[if_neg (by decide),if_pos ⟨by decide,rfl⟩]
 have e2:skpG true (47::47::x)=skpG true (47::x):=by
  conv=>lhs;rw[skpG]
  rw[if_neg (by decide)]
 exact e1.trans e2.symm
theorem Pr{c:UInt8}{r:Bs}(h1:isS c=false)(h2:pre [47,47] (c::r)=false):skpG false (c::r)=c::r:=by
 rw[skpG,if_neg (by simp[h1]),if_neg]
 rintro⟨h3,h4⟩
 obtain rfl:c=47:=toNat_inj h3
 cases r with
 | nil=>cases h4
 | cons d r =>
  simp only[List.head?_cons,Option.some.injEq]at h4;subst h4;rw[show pre [47,47] (47::47::r)=true from Do [47,47] r]at h2
  cases h2
theorem GC{l:Bs}{m:Nat}(hm:m≤l.length)(h:skpG false l=l.drop m)(p:Int×Int):skq l p=advs p (l.take m):=by
 unfold skq
 rw[h,List.length_drop,show l.length-(l.length-m)=m by omega]
theorem Bz(p:Int×Int)(l:Bs)(m n:Nat):advs (advs p (l.take m)) ((l.drop m).take n)=advs p (l.take (m+n)):=by
 rw[←So,List.take_add]
def fA:=A4 @dR @nB @dA @iC
theorem Ys(l:Bs)(p:Int×Int)(ts:List Tk)(hp1:0≤p.1∧p.1≤2305843009213693952)(hp2:0≤p.2∧p.2≤2305843009213693952)(hl:l.length≤4194304) :
  DC Tryz.prog 67 [.pt 0 0] [.box [.im (.string ⟨(l).toArray⟩),(.im (.int .i64 (p.1))),(.im (.int .i64 (p.2))),.sl (ts.map tkV) (.mine 1)],.tip 122 5 ts.length] (.tu []) [.box [.im (.string ⟨(skpG false l).toArray⟩),(.im (.int .i64 ((skq l p).1))),(.im (.int .i64 ((skq l p).2))),.sl (ts.map tkV) (.mine 1)],.tip 122 5 ts.length]:=by
 refine dcEnt 38 Tryz.func67 rfl [(0,.pt 0 0)] ?_
 refine wG fA TI ?_
 refine aP ?_
 refine ALp.cutP 2 [(0,.pt 0 0)] [.box [.im (.string ⟨(l.drop (0)).toArray⟩),(.im (.int .i64 ((advs p (l.take (0))).1))),(.im (.int .i64 ((advs p (l.take (0))).2))),.sl (ts.map tkV) (.mine 1)],.tip 122 5 ts.length] (A3 bC aX aC) ?_
 refine aW l.length (fun m=>skpG false (l.drop m)=skpG false l) (fun m=>⟨dn 38 [(0,.pt 0 0)],ofl [.box [.im (.string ⟨(l.drop (m)).toArray⟩),(.im (.int .i64 ((advs p (l.take (m))).1))),(.im (.int .i64 ((advs p (l.take (m))).2))),.sl (ts.map tkV) (.mine 1)],.tip 122 5 ts.length]⟩) ?_ 0 (Nat.zero_le _) rfl
 intro m hm hI hnext
 by_cases hlt:m<l.length
 case neg =>
  obtain rfl:m=l.length:=by omega
  clear hnext;have h0:l.drop l.length=[]:=List.drop_length;have hs:=GC (l:=l) (Nat.le_refl _) (by rw[←hI,h0];rfl) p
  rw[←hI,hs,h0];have e0:(([]:Bs)==[])=true:=rfl;generalize advs p (l.take l.length)=q;refine wG fA (AI BY e0) ?_;refine fiGen [] (finG fA) ?_ rfl (idG (A3 bC aX aC))
  all_goals exact wkG (A3 bC aX aC)
 obtain⟨c,r,hcr⟩: ∃c r,l.drop m=c::r:=⟨l[m],l.drop (m+1),List.drop_eq_getElem_cons hlt⟩
 have hr:l.drop (m+1)=r:=by
  have:=congrArg List.tail hcr
  rwa [List.tail_drop]at this
 have hll:(l.drop m).length=l.length-m:=List.length_drop
 have hb:=sZ (l.take m) p hp1.1 hp2.1
 rw[List.length_take]at hb
 have hsk: ∀n,n≤(l.drop m).length→DC Tryz.prog 69 [.pt 0 0,(.im (.int .i64 ((n:Int))))] [.box [.im (.string ⟨(l.drop (m)).toArray⟩),(.im (.int .i64 ((advs p (l.take (m))).1))),(.im (.int .i64 ((advs p (l.take (m))).2))),.sl (ts.map tkV) (.mine 1)],.tip 122 5 ts.length] (.tu []) [.box [.im (.string ⟨(l.drop (m+n)).toArray⟩),(.im (.int .i64 ((advs p (l.take (m+n))).1))),(.im (.int .i64 ((advs p (l.take (m+n))).2))),.sl (ts.map tkV) (.mine 1)],.tip 122 5 ts.length]:=fun n hn=>by
  have h:=KC (l.drop m) (advs p (l.take m)) ts n hn (by omega) (by omega) (by omega)
  rw[Bz,List.drop_drop]at h;exact h
 have q1:=pL ⟨#[32,9,13,10]⟩ ⟨#[c]⟩ (by decide)
 rw[show Lib.contains (ByteArray.mk #[32,9,13,10]).data.toList (ByteArray.mk #[c]).data.toList=isS c from Mf c]at q1
 have hn0:((c::r)==([]:Bs))=false:=rfl
 have h1l:(1:Int)≤((r.length+1:Nat):Int):=by omega
 have ht1:(c::r).take 1=[c]:=rfl
 cases b1:isS c with
 | true =>
  rw[b1]at q1;have hs1:=hsk 1 (by rw[hcr,List.length_cons];omega)
  have hn2:=hnext (m+1) (by omega) (by omega) (by rw[hr,←hI,hcr,skpG,if_pos b1])
  clear hnext hsk hI;rw[hcr,show(((1:Nat)):Int)=1 from rfl]at hs1
  rw[hcr];refine wG fA (A5 BY GDS hn0 h1l ht1) ?_;refine AR.callP q1 TI (A3 bC aX aC) ?_;refine goG fA TI ?_;refine wG fA TI ?_;refine aA [0,1] hs1 TI (A3 bC aX aC) (A3 fE fF cH) ?_;refine goG fA TI ?_;refine wG fA TI ?_;refine ALp.cutP 2 [(0,.pt 0 0)] [.box [.im (.string ⟨(l.drop (m+1)).toArray⟩),(.im (.int .i64 ((advs p (l.take (m+1))).1))),(.im (.int .i64 ((advs p (l.take (m+1))).2))),.sl (ts.map tkV) (.mine 1)],.tip 122 5 ts.length] (A3 bC aX aC) ?_;exact hn2
 | false =>
 rw[b1]at q1
 have q2:=Sa (c::r) [47,47]
 cases b2:pre [47,47] (c::r)with
 | false =>
  rw[b2]at q2;have hs:=GC hm (by rw[←hI,hcr];exact Pr b1 b2) p
  rw[hs,←hI,hcr,Pr b1 b2];clear hnext hsk hI hb;generalize advs p (l.take m)=q;refine wG fA (A5 BY GDS hn0 h1l ht1) ?_;refine AR.callP q1 TI (A3 bC aX aC) ?_;refine goG fA TI ?_;refine wG fA TI ?_;refine AR.callP q2 TI (A3 bC aX aC) ?_;refine goG fA TI ?_;refine wG fA TI ?_;refine fiGen [] (finG fA) ?_ rfl (idG (A3 bC aX aC))
  all_goals exact wkG (A3 bC aX aC)
 | true =>
 rw[b2]at q2
 have q3:=KT (c::r) 10
 have hst:=GE (c::r)
 rw[←AV b2,←hcr,hI]at hst
 have hib:=Bi (c::r) 10
 rw[←hcr]at hib q3
 have h2:2≤(l.drop m).length:=by
  obtain⟨x,hx⟩:=jV.1 b2;rw[hcr,hx];simp
 have h470:Lib.indexByte (l.drop m) 10≠0:=by
  obtain⟨x,hx⟩:=jV.1 b2;rw[hcr,hx];show Lib.indexByte (47::47::x) 10≠0
  rw[Ge (47::x) (by decide)]
  have:=Bi (47::x) 10;split<;>omega
 generalize Lib.indexByte (l.drop m) 10=k at hib hst q3 h470
 by_cases hk:k<0
 ·have hs1:=hsk (l.drop m).length (Nat.le_refl _)
  have hn2:=hnext (m+(l.drop m).length) (by omega) (by omega) (by rw[hst,if_pos (by omega),show m+(l.drop m).length=l.length by omega,List.drop_length];rfl)
  clear hnext hsk hI hst hb hib hm;rw[hcr,List.length_cons]at hs1 hn2;rw[hcr]at q3 ⊢;refine wG fA (A5 BY GDS hn0 h1l ht1) ?_;refine AR.callP q1 TI (A3 bC aX aC) ?_;refine goG fA TI ?_;refine wG fA TI ?_;refine AR.callP q2 TI (A3 bC aX aC) ?_;refine goG fA TI ?_;refine wG fA TI ?_;refine AR.callP q3 TI (A3 bC aX aC) ?_;refine goG fA TI ?_;refine wG fA (AI hk BY) ?_;refine aA [0,1] hs1 TI (A3 bC aX aC) (A3 fE fF cH) ?_;refine goG fA TI ?_;refine wG fA TI ?_;refine ALp.cutP 2 [(0,.pt 0 0)] [.box [.im (.string ⟨(l.drop (m+(r.length+1))).toArray⟩),(.im (.int .i64 ((advs p (l.take (m+(r.length+1)))).1))),(.im (.int .i64 ((advs p (l.take (m+(r.length+1)))).2))),.sl (ts.map tkV) (.mine 1)],.tip 122 5 ts.length] (A3 bC aX aC) ?_;exact hn2
 ·obtain⟨n,rfl⟩: ∃n:Nat,k=n:=⟨k.toNat,by omega⟩
  have hs1:=hsk n (by omega)
  have h47:n≠0:=fun e=>h470 (by omega)
  have hn2:=hnext (m+n) (by omega) (by omega) (by rw[hst,if_neg (by omega),List.drop_drop];rfl)
  clear hnext hsk hI hst hb hib hm;rw[hcr]at hs1 q3 ⊢;refine wG fA (A5 BY GDS hn0 h1l ht1) ?_;refine AR.callP q1 TI (A3 bC aX aC) ?_;refine goG fA TI ?_;refine wG fA TI ?_;refine AR.callP q2 TI (A3 bC aX aC) ?_;refine goG fA TI ?_;refine wG fA TI ?_;refine AR.callP q3 TI (A3 bC aX aC) ?_;refine goG fA TI ?_;refine wG fA (AI hk BY) ?_;refine aA [0,1] hs1 TI (A3 bC aX aC) (A3 fE fF cH) ?_;refine goG fA TI ?_;refine wG fA TI ?_;refine ALp.cutP 2 [(0,.pt 0 0)] [.box [.im (.string ⟨(l.drop (m+n)).toArray⟩),(.im (.int .i64 ((advs p (l.take (m+n))).1))),(.im (.int .i64 ((advs p (l.take (m+n))).2))),.sl (ts.map tkV) (.mine 1)],.tip 122 5 ts.length] (A3 bC aX aC) ?_;exact hn2
end Go.Proofs.YtmbmmckagcdapaaGreatDoor
