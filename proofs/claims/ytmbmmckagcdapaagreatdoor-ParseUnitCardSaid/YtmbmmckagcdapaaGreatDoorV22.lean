import Derived.Test.YtmbmmckagcdapaaGreatDoorV19
set_option maxHeartbeats 4000000
set_option linter.all false
namespace Go.Proofs.YtmbmmckagcdapaaGreatDoor
open Go.RowKit
def rbx(ts:List Tk)(s:Sr):Ent:= .box [.sl (ts.map tkV) .ro,(.im (.int .i64 ((s.a:Nat)))),(.im (.int .i64 (s.o))),(.im (.int .i64 (s.e)))]
def isR(ts:List Tk)(a:Nat)(e:Int)(t:Bs):Bool:=decide (e=0)&&sees ts a t
theorem xJ{ts:List Tk}{a:Nat}{e:Int}{t:Bs}(h:isR ts a e t=true):e=0∧sees ts a t=true∧a<ts.length:=by
 unfold isR at h
 rw[Bool.and_eq_true,decide_eq_true_eq]at h
 exact⟨h.1,h.2,cB h.2⟩
theorem BN{ts:List Tk}{a:Nat}{e:Int}{t:Bs}(h:isR ts a e t=false)(he:e=0):sees ts a t=false:=by
 unfold isR at h
 rwa [decide_eq_true he,Bool.true_and]at h
theorem fY(ts:List Tk)(a:Nat)(t:Bs):isR ts a 0 t=sees ts a t:=rfl
theorem uV{ts:List Tk}{a:Nat}{e:Int}{t:Bs}(he:e≠0):isR ts a e t=false:=by unfold isR;rw[decide_eq_false he];rfl
def mZ:=A15 @oO @lX @cJ @dY @lN @lE @gP @jP @xU @uM @oI @kG @lW @cH @dM
theorem nR(ts:List Tk)(a:Nat)(o e:Int)(t:Bs):DC Tryz.prog 112 [.pt 0 0,.im (.string ⟨(t).toArray⟩)] [.box [.sl (ts.map tkV) .ro,(.im (.int .i64 ((a:Nat)))),(.im (.int .i64 (o))),(.im (.int .i64 (e)))]] (.im (.bool (isR ts a e t))) [.box [.sl (ts.map tkV) .ro,(.im (.int .i64 ((a:Nat)))),(.im (.int .i64 (o))),(.im (.int .i64 (e)))]]:=by
 unfold isR
 by_cases he:e=0
 case neg =>
  rw[decide_eq_false he,Bool.false_and];refine dcEnt 65 Tryz.func112 rfl [(0,.pt 0 0),(1,.im (.string ⟨(t).toArray⟩))] ?_
  refine wdG mZ he ?_;refine fiGen [.tmp 4] (finG mZ) ?_ rfl (idG (AI aB aC))
  all_goals exact wkG (AI aB aC)
 subst he
 rw[show decide ((0:Int)=0)=true from rfl,Bool.true_and]
 unfold sees
 by_cases hlt:a<ts.length
 case neg =>
  have hn: ¬(a:Int)<(ts.length:Int):=by omega
  rw[wZ (by omega)]
  refine dcEnt 65 Tryz.func112 rfl [(0,.pt 0 0),(1,.im (.string ⟨(t).toArray⟩))] ?_
  refine wdG mZ (AI hn @List.length_map.{0,0}) ?_;refine fiGen [.tmp 4] (finG mZ) ?_ rfl (idG (AI aB aC))
  all_goals exact wkG (AI aB aC)
 have hg:=Cb hlt
 have hn:(a:Int)<(ts.length:Int):=by omega
 have h0:(0:Int)≤(a:Int):=by omega
 generalize pk ts a=k at hg
 by_cases h2:k.kind=2
 ·rw[show(k.kind==2)=true from beq_iff_eq.2 h2,Bool.true_or,Bool.true_and]
  refine dcEnt 65 Tryz.func112 rfl [(0,.pt 0 0),(1,.im (.string ⟨(t).toArray⟩))] ?_
  refine wdG mZ (A6 BY TKT hn hg h0 h2) ?_;refine fiGen [.tmp 4] (finG mZ) ?_ rfl (idG (AI aB aC))
  all_goals exact wkG (AI aB aC)
 rw[show(k.kind==2)=false from beq_eq_false_iff_ne.2 h2,Bool.false_or]
 by_cases h5:k.kind=5
 ·rw[show(k.kind==5)=true from beq_iff_eq.2 h5,Bool.true_and]
  refine dcEnt 65 Tryz.func112 rfl [(0,.pt 0 0),(1,.im (.string ⟨(t).toArray⟩))] ?_
  refine wdG mZ (A7 BY TKT hn hg h0 h2 h5) ?_;refine fiGen [.tmp 4] (finG mZ) ?_ rfl (idG (AI aB aC))
  all_goals exact wkG (AI aB aC)
 ·rw[show(k.kind==5)=false from beq_eq_false_iff_ne.2 h5,Bool.false_and]
  refine dcEnt 65 Tryz.func112 rfl [(0,.pt 0 0),(1,.im (.string ⟨(t).toArray⟩))] ?_
  refine wdG mZ (A7 BY TKT hn hg h0 h2 h5) ?_;refine fiGen [.tmp 4] (finG mZ) ?_ rfl (idG (AI aB aC))
  all_goals exact wkG (AI aB aC)
def tF:=A12 @oO @lX @cJ @lN @lE @gP @jP @xU @oI @kG @lW @cH
theorem kP(ts:List Tk)(a:Nat)(o e k:Int)(hk:k≠0):DC Tryz.prog 176 [.pt 0 0,(.im (.int .i64 (k)))] [.box [.sl (ts.map tkV) .ro,(.im (.int .i64 ((a:Nat)))),(.im (.int .i64 (o))),(.im (.int .i64 (e)))]] (.im (.bool (decide (e=0)&&decide ((pk ts a).kind=k)))) [.box [.sl (ts.map tkV) .ro,(.im (.int .i64 ((a:Nat)))),(.im (.int .i64 (o))),(.im (.int .i64 (e)))]]:=by
 by_cases he:e=0
 case neg =>
  rw[decide_eq_false he,Bool.false_and];refine dcEnt 37 Tryz.func176 rfl [(0,.pt 0 0),(1,(.im (.int .i64 (k))))] ?_
  refine wdG tF he ?_;refine fiGen [.tmp 4] (finG tF) ?_ rfl (idG (AI aB aC))
  all_goals exact wkG (AI aB aC)
 subst he
 rw[show decide ((0:Int)=0)=true from rfl,Bool.true_and]
 by_cases hlt:a<ts.length
 case neg =>
  have hn: ¬(a:Int)<(ts.length:Int):=by omega
  rw[wZ (by omega),decide_eq_false (fun h=>hk h.symm)]
  refine dcEnt 37 Tryz.func176 rfl [(0,.pt 0 0),(1,(.im (.int .i64 (k))))] ?_
  refine wdG tF (AI hn @List.length_map.{0,0}) ?_;refine fiGen [.tmp 4] (finG tF) ?_ rfl (idG (AI aB aC))
  all_goals exact wkG (AI aB aC)
 have hg:=Cb hlt
 have hn:(a:Int)<(ts.length:Int):=by omega
 have h0:(0:Int)≤(a:Int):=by omega
 generalize pk ts a=t at hg
 refine dcEnt 37 Tryz.func176 rfl [(0,.pt 0 0),(1,(.im (.int .i64 (k))))] ?_
 refine wdG tF (A4 TKT hn hg h0) ?_
 refine fiGen [.tmp 4] (finG tF) ?_ rfl (idG (AI aB aC))
 all_goals exact wkG (AI aB aC)
def zP:=A3 @lX @jP @lW
theorem tY(ts:List Tk)(a:Nat)(o e:Int):DC Tryz.prog 125 [.pt 0 0] [.box [.sl (ts.map tkV) .ro,(.im (.int .i64 ((a:Nat)))),(.im (.int .i64 (o))),(.im (.int .i64 (e)))]] (.tu []) [.box [.sl (ts.map tkV) .ro,(.im (.int .i64 ((a:Nat)))),(.im (.int .i64 (o))),(.im (.int .i64 (if e=0 then 3 else e)))]]:=by
 by_cases he:e=0
 ·rw[if_pos he]
  refine dcEnt 10 Tryz.func125 rfl [(0,.pt 0 0)] ?_
  refine wG zP he ?_;refine fiGen [] (finG zP) ?_ rfl (idG (AI aB aC))
  all_goals exact wkG (AI aB aC)
 ·rw[if_neg he]
  refine dcEnt 10 Tryz.func125 rfl [(0,.pt 0 0)] ?_
  refine wG zP he ?_;refine fiGen [] (finG zP) ?_ rfl (idG (AI aB aC))
  all_goals exact wkG (AI aB aC)
def pN:=A3 @cJ @gP @cH
theorem fR(ts:List Tk)(a:Nat)(o e:Int)(t:Bs)(hts:ts.length≤4194304):DC Tryz.prog 175 [.pt 0 0,.im (.string ⟨(t).toArray⟩)] [.box [.sl (ts.map tkV) .ro,(.im (.int .i64 ((a:Nat)))),(.im (.int .i64 (o))),(.im (.int .i64 (e)))]] (.im (.bool (isR ts a e t))) [.box [.sl (ts.map tkV) .ro,(.im (.int .i64 (((if isR ts a e t=true then a+1 else a:Nat):Int)))),(.im (.int .i64 (o))),(.im (.int .i64 (e)))]]:=by
 have hp:=nR ts a o e t
 cases hs:isR ts a e t with
 | true =>
  have hlt:=(xJ hs).2.2;have hw:=aQ (m:=a) (N:=4194304) (by omega) (by decide)
  rw[hs]at hp;rw[if_pos rfl];refine dcEnt 15 Tryz.func175 rfl [(0,.pt 0 0),(1,.im (.string ⟨(t).toArray⟩))] ?_
  refine wG pN TI ?_;refine aA [0] hp TI (AI aB aC) (AI aI aJ) ?_;refine goG pN TKT ?_;refine wG pN hw ?_;refine fiGen [.tmp 4] (finG pN) ?_ rfl (idG (AI aB aC))
  all_goals exact wkG (AI aB aC)
 | false =>
  rw[hs]at hp;rw[if_neg (by decide)]
  refine dcEnt 15 Tryz.func175 rfl [(0,.pt 0 0),(1,.im (.string ⟨(t).toArray⟩))] ?_
  refine wG pN TI ?_;refine aA [0] hp TI (AI aB aC) (AI aI aJ) ?_;refine goG pN TKT ?_;refine wG pN TI ?_;refine fiGen [.tmp 4] (finG pN) ?_ rfl (idG (AI aB aC))
  all_goals exact wkG (AI aB aC)
theorem zC(ts:List Tk)(a:Nat)(o e:Int)(t:Bs)(hts:ts.length≤4194304):DC Tryz.prog 126 [.pt 0 0,.im (.string ⟨(t).toArray⟩)] [.box [.sl (ts.map tkV) .ro,(.im (.int .i64 ((a:Nat)))),(.im (.int .i64 (o))),(.im (.int .i64 (e)))]] (.tu []) [.box [.sl (ts.map tkV) .ro,(.im (.int .i64 (((if isR ts a e t=true then a+1 else a:Nat):Int)))),(.im (.int .i64 (o))),(.im (.int .i64 (if isR ts a e t=false∧e=0 then 3 else e)))]]:=by
 have hp:=fR ts a o e t hts
 have hf:=tY ts a o e
 cases hs:isR ts a e t with
 | true =>
  rw[hs,if_pos rfl]at hp;rw[if_pos rfl,if_neg (fun h=>by cases h.1)]
  refine dcEnt 10 Tryz.func126 rfl [(0,.pt 0 0),(1,.im (.string ⟨(t).toArray⟩))] ?_
  refine wG TI TI ?_;refine aA [0] hp TI (AI aB aC) (AI aI aJ) ?_;refine goG TI TI ?_;refine wG TI TI ?_;refine fiGen [] (finG TI) ?_ rfl (idG (AI aB aC))
  all_goals exact wkG (AI aB aC)
 | false =>
  rw[hs,if_neg (by decide)]at hp
  rw[if_neg (by decide)]
  have e1:(if false=false∧e=0 then(3:Int)else e)=if e=0 then 3 else e:=by by_cases h:e=0<;>simp[h]
  rw[e1];refine dcEnt 10 Tryz.func126 rfl [(0,.pt 0 0),(1,.im (.string ⟨(t).toArray⟩))] ?_
  refine wG TI TI ?_;refine aA [0] hp TI (AI aB aC) (AI aI aJ) ?_;refine goG TI TI ?_;refine wG TI TI ?_;refine aA [0] hf TI (AI aB aC) (AI aI aJ) ?_;refine goG TI TI ?_;refine wG TI TI ?_;refine fiGen [] (finG TI) ?_ rfl (idG (AI aB aC))
  all_goals exact wkG (AI aB aC)
theorem gZ(ts:List Tk)(hts:ts.length≤4194304)(s:Sr)(t:Bs)(hp:Pre (expM ts t) s): ∃s',Post (expM ts t) s () s'∧s'.o=s.o∧DC Tryz.prog 126 [.pt 0 0,.im (.string ⟨(t).toArray⟩)] [rbx ts s] (.tu []) [rbx ts s']:=by
 obtain⟨a,o,e⟩:=s
 have h:=zC ts a o e t hts
 by_cases he:e=0
 case neg =>
  rw[uV he,if_neg (by decide),if_neg (fun h=>he h.2)]at h
  exact⟨⟨a,o,e⟩,Post.of_err he rfl rfl,rfl,h⟩
 subst he
 obtain⟨p,rfl,_⟩:=hp rfl
 rw[fY]at h
 cases hs:sees ts a t with
 | true =>
  rw[hs,if_pos rfl,if_neg (fun h=>by cases h.1)]at h
  exact⟨⟨a+1,p,0⟩,Post.of_ok (by unfold expM;rw[hs,if_neg (by decide)]),rfl,h⟩
 | false =>
  rw[hs,if_neg (by decide),if_pos ⟨rfl,rfl⟩]at h
  exact⟨⟨a,p,3⟩,Post.of_bad (by unfold expM;rw[hs,if_pos rfl]) (by decide),rfl,h⟩
def hX:=A6 @lX @cJ @uO @jP @lW @cH
theorem Yc(ts:List Tk)(a:Nat)(o e:Int)(t:Bs)(hts:ts.length≤4194304):DC Tryz.prog 128 [.pt 0 0,.im (.string ⟨(t).toArray⟩)] [.box [.sl (ts.map tkV) .ro,(.im (.int .i64 ((a:Nat)))),(.im (.int .i64 (o))),(.im (.int .i64 (e)))]] (.tu []) [.box [.sl (ts.map tkV) .ro,(.im (.int .i64 (((if isR ts a e t=true∧o<256 then a+1 else a:Nat):Int)))),(.im (.int .i64 (IntKind.i64.wrap (o+1)))),(.im (.int .i64 (if e=0 then(if isR ts a e t=false then 3 else if 256≤o then 20 else 0)else e)))]]:=by
 have hp:=nR ts a o e t
 have hq:=zC ts a o e t hts
 cases hs:isR ts a e t with
 | true =>
  obtain⟨rfl,_,_⟩:=xJ hs;rw[hs]at hp
  by_cases ho:256≤o
  ·have hg:o≥256:=ho
   have hq:=zC ts a o 20 t hts;rw[uV (by decide),if_neg (by decide),if_neg (fun h=>by cases h.2)]at hq
   rw[if_neg (show ¬(true=true∧o<256)from fun h=>by have:=h.2;omega),if_pos rfl,if_neg (show ¬(true=false) by decide),if_pos ho]
   refine dcEnt 27 Tryz.func128 rfl [(0,.pt 0 0),(1,.im (.string ⟨(t).toArray⟩))] ?_
   refine wG hX TI ?_;refine aA [0] hp TI (AI aB aC) (AI aI aJ) ?_;refine goG hX hg ?_;refine wG hX hg ?_;refine aA [0] hq TI (AI aB aC) (AI aI aJ) ?_;refine goG hX TI ?_;refine wG hX TI ?_;refine fiGen [] (finG hX) ?_ rfl (idG (AI aB aC))
   all_goals exact wkG (AI aB aC)
  ·have hg: ¬o≥256:=ho
   rw[hs,if_pos rfl,if_neg (fun h=>by cases h.1)]at hq
   rw[if_pos (show true=true∧o<256 from⟨rfl,by omega⟩),if_pos rfl,if_neg (show ¬(true=false) by decide),if_neg ho]
   refine dcEnt 27 Tryz.func128 rfl [(0,.pt 0 0),(1,.im (.string ⟨(t).toArray⟩))] ?_
   refine wG hX TI ?_;refine aA [0] hp TI (AI aB aC) (AI aI aJ) ?_;refine goG hX hg ?_;refine wG hX hg ?_;refine aA [0] hq TI (AI aB aC) (AI aI aJ) ?_;refine goG hX TI ?_;refine wG hX TI ?_;refine fiGen [] (finG hX) ?_ rfl (idG (AI aB aC))
   all_goals exact wkG (AI aB aC)
 | false =>
  rw[hs]at hp;rw[hs,if_neg (by decide)]at hq
  rw[if_neg (fun h=>by cases h.1),if_pos rfl]
  have e1:(if false=false∧e=0 then(3:Int)else e)=if e=0 then 3 else e:=by by_cases h:e=0<;>simp[h]
  rw[e1]at hq;refine dcEnt 27 Tryz.func128 rfl [(0,.pt 0 0),(1,.im (.string ⟨(t).toArray⟩))] ?_
  refine wG hX TI ?_;refine aA [0] hp TI (AI aB aC) (AI aI aJ) ?_;refine goG hX TI ?_;refine wG hX TI ?_;refine aA [0] hq TI (AI aB aC) (AI aI aJ) ?_;refine goG hX TI ?_;refine wG hX TI ?_;refine fiGen [] (finG hX) ?_ rfl (idG (AI aB aC))
  all_goals exact wkG (AI aB aC)
theorem mX(ts:List Tk)(hts:ts.length≤4194304)(s:Sr)(t:Bs)(hp:Pre (begM ts t) s): ∃s',Post (begM ts t) s () s'∧(s'.e=0→s'.o=s.o+1∧1≤s'.o∧s'.o≤256)∧DC Tryz.prog 128 [.pt 0 0,.im (.string ⟨(t).toArray⟩)] [rbx ts s] (.tu []) [rbx ts s']:=by
 obtain⟨a,o,e⟩:=s
 have h:=Yc ts a o e t hts
 by_cases he:e=0
 case neg =>
  rw[uV he,if_neg (fun h=>by cases h.1),if_neg he]at h
  exact⟨⟨a,IntKind.i64.wrap (o+1),e⟩,Post.of_err he rfl rfl,fun h=>absurd h he,h⟩
 subst he
 obtain⟨p,rfl,_⟩:=hp rfl
 rw[fY,if_pos rfl]at h
 cases hs:sees ts a t with
 | true =>
  rw[hs]at h
  by_cases ho:256≤p
  ·rw[if_neg (show ¬(true=true∧(p:Int)<256)from fun h=>by have:=h.2;omega),if_neg (show ¬(true=false) by decide),if_pos (by omega)]at h
   exact⟨⟨a,_,20⟩,Post.of_bad (by unfold begM;rw[hs,if_neg (by decide),if_pos ho]) (by decide),(fun h=>by cases h),h⟩
  ·rw[if_pos (show true=true∧(p:Int)<256 from⟨rfl,by omega⟩),if_neg (show ¬(true=false) by decide),if_neg (by omega),cI (by omega)]at h
   refine⟨⟨a+1,((p+1:Nat):Int),0⟩,Post.of_ok (by unfold begM;rw[hs,if_neg (by decide),if_neg ho]),fun _=>⟨?_,?_,?_⟩,h⟩
   ·show((p+1:Nat):Int)=(p:Int)+1;omega
   ·show(1:Int)≤((p+1:Nat):Int);omega
   ·show((p+1:Nat):Int)≤256;omega
 | false =>
  rw[hs,if_neg (fun h=>by cases h.1),if_pos rfl]at h
  exact⟨⟨a,_,3⟩,Post.of_bad (by unfold begM;rw[hs,if_pos rfl]) (by decide),(fun h=>by cases h),h⟩
def zO:=A3 @cJ @uO @cH
theorem JH(ts:List Tk)(a:Nat)(o e:Int)(t:Bs)(hts:ts.length≤4194304):DC Tryz.prog 130 [.pt 0 0,.im (.string ⟨(t).toArray⟩)] [.box [.sl (ts.map tkV) .ro,(.im (.int .i64 ((a:Nat)))),(.im (.int .i64 (o))),(.im (.int .i64 (e)))]] (.tu []) [.box [.sl (ts.map tkV) .ro,(.im (.int .i64 (((if isR ts a e t=true then a+1 else a:Nat):Int)))),(.im (.int .i64 (IntKind.i64.wrap (o-1)))),(.im (.int .i64 (if isR ts a e t=false∧e=0 then 3 else e)))]]:=by
 have hp:=zC ts a o e t hts
 generalize (if isR ts a e t=true then a+1 else a)=a1 at hp ⊢
 generalize (if isR ts a e t=false∧e=0 then(3:Int)else e)=e1 at hp ⊢
 refine dcEnt 14 Tryz.func130 rfl [(0,.pt 0 0),(1,.im (.string ⟨(t).toArray⟩))] ?_
 refine wG zO TI ?_
 refine aA [0] hp TI (AI aB aC) (AI aI aJ) ?_
 refine goG zO TI ?_
 refine wG zO TI ?_
 refine fiGen [] (finG zO) ?_ rfl (idG (AI aB aC))
 all_goals exact wkG (AI aB aC)
theorem tZ(ts:List Tk)(hts:ts.length≤4194304)(s:Sr)(t:Bs)(h1:s.e=0→1≤s.o∧s.o≤256)(hp:Pre (endM ts t) s): ∃s',Post (endM ts t) s () s'∧(s'.e=0→s'.o=s.o-1)∧DC Tryz.prog 130 [.pt 0 0,.im (.string ⟨(t).toArray⟩)] [rbx ts s] (.tu []) [rbx ts s']:=by
 obtain⟨a,o,e⟩:=s
 have h:=JH ts a o e t hts
 by_cases he:e=0
 case neg =>
  rw[uV he,if_neg (by decide),if_neg (fun h=>he h.2)]at h
  exact⟨⟨a,IntKind.i64.wrap (o-1),e⟩,Post.of_err he rfl rfl,fun h=>absurd h he,h⟩
 subst he
 obtain⟨p,rfl,_⟩:=hp rfl
 have h1:=h1 rfl
 simp only at h1
 rw[fY,qM (by omega) (by omega)]at h
 cases hs:sees ts a t with
 | true =>
  rw[hs,if_pos rfl,if_neg (fun h=>by cases h.1)]at h
  refine⟨⟨a+1,((p-1:Nat):Int),0⟩,Post.of_ok (by unfold endM;rw[hs,if_neg (by decide)]),fun _=> ?_,h⟩
  show((p-1:Nat):Int)=(p:Int)-1;omega
 | false =>
  rw[hs,if_neg (by decide),if_pos ⟨rfl,rfl⟩]at h
  exact⟨⟨a,_,3⟩,Post.of_bad (by unfold endM;rw[hs,if_pos rfl]) (by decide),(fun h=>by cases h),h⟩
theorem rtake{ts:List Tk}{a:Nat}(hlt:a<ts.length):ts[a]? =some (pk ts a)∧(0:Int)≤(a:Int)∧((a:Int)<(ts.length:Int)):=⟨Cb hlt,by omega,by omega⟩
theorem Hr(a:Nat)(h:a≤4194304):IntKind.i64.wrap (((a+1:Nat):Int)-1)=(a:Int):=by rw[cI (by omega)];omega
def iO:=A11 @oO @cJ @dY @lN @lE @gP @uM @oI @kG @cH @dM
theorem rQ(ts:List Tk)(hts:ts.length≤4194304)(s:Sr)(hp:Pre (nmM ts) s): ∃n s',Post (nmM ts) s n s'∧s'.o=s.o∧DC Tryz.prog 127 [.pt 0 0] [rbx ts s] (.im (.string n)) [rbx ts s']:=by
 obtain⟨a,o,e⟩:=s
 have hk:=kP ts a o e 1 (by decide)
 have hf:=tY ts a o e
 by_cases he:e=0
 case neg =>
  rw[decide_eq_false he,Bool.false_and]at hk;rw[if_neg he]at hf;refine⟨ByteArray.empty,⟨a,o,e⟩,Post.of_err he rfl rfl,rfl,?_⟩;unfold rbx;refine dcEnt 27 Tryz.func127 rfl [(0,.pt 0 0)] ?_
  refine wG iO TI ?_;refine aA [0] hk TI (AI aB aC) (AI aI aJ) ?_;refine goG iO TI ?_;refine wG iO TI ?_;refine aA [0] hf TI (AI aB aC) (AI aI aJ) ?_;refine goG iO TI ?_;refine wG iO TI ?_;refine fiGen [.tmp 2] (finG iO) ?_ rfl (idG (AI aB aC))
  all_goals exact wkG (AI aB aC)
 subst he
 obtain⟨p,rfl,_⟩:=hp rfl
 rw[show decide ((0:Int)=0)=true from rfl,Bool.true_and]at hk
 rw[if_pos rfl]at hf
 by_cases h1:(pk ts a).kind=1
 ·have hlt:=eT h1 (by decide)
  obtain⟨hg,h0,hn⟩:=rtake hlt;have hw:=aQ (m:=a) (N:=4194304) (by omega) (by decide)
  have hb:=Hr a (by omega)
  rw[decide_eq_true h1]at hk;refine⟨strA (pk ts a).text,⟨a+1,p,0⟩,Post.of_ok (by unfold nmM takM;rw[if_neg (by simpa using h1)];rfl),rfl,?_⟩
  unfold rbx;generalize pk ts a=t at hg;refine dcEnt 27 Tryz.func127 rfl [(0,.pt 0 0)] ?_
  refine wG iO TI ?_;refine aA [0] hk TI (AI aB aC) (AI aI aJ) ?_;refine goG iO TI ?_;refine wG iO hw ?_;refine wdG iO (A6 TKT hb hg h0 hn hw) ?_;refine fiGen [.tmp 2] (finG iO) ?_ rfl (idG (AI aB aC))
  all_goals exact wkG (AI aB aC)
 ·rw[decide_eq_false h1]at hk
  refine⟨ByteArray.empty,⟨a,p,3⟩,Post.of_bad (by unfold nmM takM;rw[if_pos h1];rfl) (by decide),rfl,?_⟩
  unfold rbx;refine dcEnt 27 Tryz.func127 rfl [(0,.pt 0 0)] ?_
  refine wG iO TI ?_;refine aA [0] hk TI (AI aB aC) (AI aI aJ) ?_;refine goG iO TI ?_;refine wG iO TI ?_;refine aA [0] hf TI (AI aB aC) (AI aI aJ) ?_;refine goG iO TI ?_;refine wG iO TI ?_;refine fiGen [.tmp 2] (finG iO) ?_ rfl (idG (AI aB aC))
  all_goals exact wkG (AI aB aC)
def iM:=A11 @oO @cJ @oL @lN @lE @gP @Gt @oI @kG @cH @oG
theorem xM(ts:List Tk)(hts:ts.length≤4194304)(hok: ∀t∈ts,TkOk t)(s:Sr)(hp:Pre (takM ts 3) s): ∃n s',Post (takM ts 3) s n s'∧s'.o=s.o∧(0≤n.n∧n.n<4294967296)∧DC Tryz.prog 174 [.pt 0 0] [rbx ts s] (.im (.int .u32 n.n)) [rbx ts s']:=by
 obtain⟨a,o,e⟩:=s
 have hk:=kP ts a o e 3 (by decide)
 have hf:=tY ts a o e
 by_cases he:e=0
 case neg =>
  rw[decide_eq_false he,Bool.false_and]at hk;rw[if_neg he]at hf;refine⟨tk0,⟨a,o,e⟩,Post.of_err he rfl rfl,rfl,by decide,?_⟩
  unfold rbx;refine dcEnt 27 Tryz.func174 rfl [(0,.pt 0 0)] ?_
  refine wG iM TI ?_;refine aA [0] hk TI (AI aB aC) (AI aI aJ) ?_;refine goG iM TI ?_;refine wG iM TI ?_;refine aA [0] hf TI (AI aB aC) (AI aI aJ) ?_;refine goG iM TI ?_;refine wG iM TI ?_;refine fiGen [.tmp 2] (finG iM) ?_ rfl (idG (AI aB aC))
  all_goals exact wkG (AI aB aC)
 subst he
 obtain⟨p,rfl,_⟩:=hp rfl
 rw[show decide ((0:Int)=0)=true from rfl,Bool.true_and]at hk
 rw[if_pos rfl]at hf
 by_cases h1:(pk ts a).kind=3
 ·have hlt:=eT h1 (by decide)
  obtain⟨hg,h0,hn⟩:=rtake hlt;have hw:=aQ (m:=a) (N:=4194304) (by omega) (by decide)
  have hb:=Hr a (by omega)
  rw[decide_eq_true h1]at hk;refine⟨pk ts a,⟨a+1,p,0⟩,Post.of_ok (by unfold takM;rw[if_neg (by simpa using h1)]),rfl,yP hok a,?_⟩
  unfold rbx;generalize pk ts a=t at hg;refine dcEnt 27 Tryz.func174 rfl [(0,.pt 0 0)] ?_
  refine wG iM TI ?_;refine aA [0] hk TI (AI aB aC) (AI aI aJ) ?_;refine goG iM TI ?_;refine wG iM hw ?_;refine wdG iM (A6 TKT hb hg h0 hn hw) ?_;refine fiGen [.tmp 2] (finG iM) ?_ rfl (idG (AI aB aC))
  all_goals exact wkG (AI aB aC)
 ·rw[decide_eq_false h1]at hk
  refine⟨tk0,⟨a,p,3⟩,Post.of_bad (by unfold takM;rw[if_pos h1]) (by decide),rfl,by decide,?_⟩
  unfold rbx;refine dcEnt 27 Tryz.func174 rfl [(0,.pt 0 0)] ?_
  refine wG iM TI ?_;refine aA [0] hk TI (AI aB aC) (AI aI aJ) ?_;refine goG iM TI ?_;refine wG iM TI ?_;refine aA [0] hf TI (AI aB aC) (AI aI aJ) ?_;refine goG iM TI ?_;refine wG iM TI ?_;refine fiGen [.tmp 2] (finG iM) ?_ rfl (idG (AI aB aC))
  all_goals exact wkG (AI aB aC)
theorem bneq{x y:Bs}(h: ¬x=y):(x==y)=false:=beq_eq_false_iff_ne.2 h
theorem beqq{x y:Bs}(h:x=y):(x==y)=true:=beq_iff_eq.2 h
def eH:=A6 @cJ @dY @nN @oW @cH @dM
def nM:=AI aB aC
theorem Ov(t:Tk):PC Tryz.prog 121 [tkV t] (.tu [(.im (.int .i64 ((stR t).1))),(.im (.int .i64 (((stR t).2:Nat))))]):=by
 by_cases hk:t.kind=5
 case neg =>
  rw[show stR t=(0,0)from if_neg hk]
  refine pcEnt 35 Tryz.func121 rfl [(0,tkV t)] ?_
  refine wG eH (AI TKT hk) ?_;refine fiGenO [.tmp 2,.tmp 3] (finG eH) ?_
  all_goals exact wkG nM
 have e:stR t=opR t.text:=if_pos hk
 rw[e]
 clear e
 unfold opR
 by_cases h0:t.text=[124]
 ·rw[if_pos h0]
  have e:=beqq h0;refine pcEnt 35 Tryz.func121 rfl [(0,tkV t)] ?_
  refine wG eH (A4 BY TKT hk e) ?_;refine fiGenO [.tmp 2,.tmp 3] (finG eH) ?_
  all_goals exact wkG nM
 rw[if_neg h0]
 have f0:=bneq h0
 by_cases h1:t.text=[94]
 ·rw[if_pos h1]
  have e:=beqq h1;refine pcEnt 35 Tryz.func121 rfl [(0,tkV t)] ?_
  refine wG eH (A5 BY TKT hk e f0) ?_;refine fiGenO [.tmp 2,.tmp 3] (finG eH) ?_
  all_goals exact wkG nM
 rw[if_neg h1]
 have f1:=bneq h1
 by_cases h2:t.text=[38]
 ·rw[if_pos h2]
  have e:=beqq h2;refine pcEnt 35 Tryz.func121 rfl [(0,tkV t)] ?_
  refine wG eH (A6 BY TKT hk e f0 f1) ?_;refine fiGenO [.tmp 2,.tmp 3] (finG eH) ?_
  all_goals exact wkG nM
 rw[if_neg h2]
 have f2:=bneq h2
 by_cases h3:t.text=[61,61]
 ·rw[if_pos h3]
  have e:=beqq h3;refine pcEnt 35 Tryz.func121 rfl [(0,tkV t)] ?_
  refine wG eH (A7 BY TKT hk e f0 f1 f2) ?_;refine fiGenO [.tmp 2,.tmp 3] (finG eH) ?_
  all_goals exact wkG nM
 rw[if_neg h3]
 have f3:=bneq h3
 by_cases h4:t.text=[33,61]
 ·rw[if_pos h4]
  have e:=beqq h4;refine pcEnt 35 Tryz.func121 rfl [(0,tkV t)] ?_
  refine wG eH (A8 BY TKT hk e f0 f1 f2 f3) ?_;refine fiGenO [.tmp 2,.tmp 3] (finG eH) ?_
  all_goals exact wkG nM
 rw[if_neg h4]
 have f4:=bneq h4
 by_cases h5:t.text=[60]
 ·rw[if_pos h5]
  have e:=beqq h5;refine pcEnt 35 Tryz.func121 rfl [(0,tkV t)] ?_
  refine wG eH (A9 BY TKT hk e f0 f1 f2 f3 f4) ?_;refine fiGenO [.tmp 2,.tmp 3] (finG eH) ?_
  all_goals exact wkG nM
 rw[if_neg h5]
 have f5:=bneq h5
 by_cases h6:t.text=[60,115]
 ·rw[if_pos h6]
  have e:=beqq h6;refine pcEnt 35 Tryz.func121 rfl [(0,tkV t)] ?_
  refine wG eH (A10 BY TKT hk e f0 f1 f2 f3 f4 f5) ?_;refine fiGenO [.tmp 2,.tmp 3] (finG eH) ?_
  all_goals exact wkG nM
 rw[if_neg h6]
 have f6:=bneq h6
 by_cases h7:t.text=[60,60]
 ·rw[if_pos h7]
  have e:=beqq h7;refine pcEnt 35 Tryz.func121 rfl [(0,tkV t)] ?_
  refine wG eH (A11 BY TKT hk e f0 f1 f2 f3 f4 f5 f6) ?_;refine fiGenO [.tmp 2,.tmp 3] (finG eH) ?_
  all_goals exact wkG nM
 rw[if_neg h7]
 have f7:=bneq h7
 by_cases h8:t.text=[62,62]
 ·rw[if_pos h8]
  have e:=beqq h8;refine pcEnt 35 Tryz.func121 rfl [(0,tkV t)] ?_
  refine wG eH (A12 BY TKT hk e f0 f1 f2 f3 f4 f5 f6 f7) ?_;refine fiGenO [.tmp 2,.tmp 3] (finG eH) ?_
  all_goals exact wkG nM
 rw[if_neg h8]
 have f8:=bneq h8
 by_cases h9:t.text=[62,62,115]
 ·rw[if_pos h9]
  have e:=beqq h9;refine pcEnt 35 Tryz.func121 rfl [(0,tkV t)] ?_
  refine wG eH (A13 BY TKT hk e f0 f1 f2 f3 f4 f5 f6 f7 f8) ?_;refine fiGenO [.tmp 2,.tmp 3] (finG eH) ?_
  all_goals exact wkG nM
 rw[if_neg h9]
 have f9:=bneq h9
 by_cases h10:t.text=[43]
 ·rw[if_pos h10]
  have e:=beqq h10;refine pcEnt 35 Tryz.func121 rfl [(0,tkV t)] ?_
  refine wG eH (A14 BY TKT hk e f0 f1 f2 f3 f4 f5 f6 f7 f8 f9) ?_;refine fiGenO [.tmp 2,.tmp 3] (finG eH) ?_
  all_goals exact wkG nM
 rw[if_neg h10]
 have f10:=bneq h10
 by_cases h11:t.text=[45]
 ·rw[if_pos h11]
  have e:=beqq h11;refine pcEnt 35 Tryz.func121 rfl [(0,tkV t)] ?_
  refine wG eH (A15 BY TKT hk e f0 f1 f2 f3 f4 f5 f6 f7 f8 f9 f10) ?_;refine fiGenO [.tmp 2,.tmp 3] (finG eH) ?_
  all_goals exact wkG nM
 rw[if_neg h11]
 have f11:=bneq h11
 by_cases h12:t.text=[42]
 ·rw[if_pos h12]
  have e:=beqq h12;refine pcEnt 35 Tryz.func121 rfl [(0,tkV t)] ?_
  refine wG eH (A16 BY TKT hk e f0 f1 f2 f3 f4 f5 f6 f7 f8 f9 f10 f11) ?_;refine fiGenO [.tmp 2,.tmp 3] (finG eH) ?_
  all_goals exact wkG nM
 rw[if_neg h12]
 have f12:=bneq h12
 refine pcEnt 35 Tryz.func121 rfl [(0,tkV t)] ?_
 refine wG eH (A16 BY TKT hk f0 f1 f2 f3 f4 f5 f6 f7 f8 f9 f10 f11 f12) ?_
 refine fiGenO [.tmp 2,.tmp 3] (finG eH) ?_
 all_goals exact wkG nM
def intV:Option (Int×Int)→V
 | some (k,s)=> .tu [tyV (.mk 0 k s 0 [] []),(.im (.bool (true)))]
 | none=> .tu [tyV (.mk 0 0 0 0 [] []),(.im (.bool (false)))]
def jF:=A4 @gR @qD @uK @gO
def vU:=A6 aB aC @bN @bP @bO @bQ
theorem Xr(s:Bs):PC Tryz.prog 200 [.im (.string ⟨(s).toArray⟩)] (intV (intR s)):=by
 unfold intR
 by_cases h0:s=[97,110,121]
 ·rw[if_pos h0]
  have e:=beqq h0;unfold intV;refine pcEnt 27 Tryz.func200 rfl [(0,.im (.string ⟨(s).toArray⟩))] ?_
  refine wG jF (AI BY e) ?_;refine fiGenO [.cell 2 94,.tmp 3] (finG jF) ?_
  all_goals exact wkG vU
 rw[if_neg h0]
 have f0:=bneq h0
 by_cases h1:s=[105,110,116,56]
 ·rw[if_pos h1]
  have e:=beqq h1;unfold intV;refine pcEnt 27 Tryz.func200 rfl [(0,.im (.string ⟨(s).toArray⟩))] ?_
  refine wG jF (A3 BY e f0) ?_;refine fiGenO [.cell 2 94,.tmp 3] (finG jF) ?_
  all_goals exact wkG vU
 rw[if_neg h1]
 have f1:=bneq h1
 by_cases h2:s=[105,110,116,49,54]
 ·rw[if_pos h2]
  have e:=beqq h2;unfold intV;refine pcEnt 27 Tryz.func200 rfl [(0,.im (.string ⟨(s).toArray⟩))] ?_
  refine wG jF (A4 BY e f0 f1) ?_;refine fiGenO [.cell 2 94,.tmp 3] (finG jF) ?_
  all_goals exact wkG vU
 rw[if_neg h2]
 have f2:=bneq h2
 by_cases h3:s=[105,110,116,51,50]
 ·rw[if_pos h3]
  have e:=beqq h3;unfold intV;refine pcEnt 27 Tryz.func200 rfl [(0,.im (.string ⟨(s).toArray⟩))] ?_
  refine wG jF (A5 BY e f0 f1 f2) ?_;refine fiGenO [.cell 2 94,.tmp 3] (finG jF) ?_
  all_goals exact wkG vU
 rw[if_neg h3]
 have f3:=bneq h3
 by_cases h4:s=[117,105,110,116,56]
 ·rw[if_pos h4]
  have e:=beqq h4;unfold intV;refine pcEnt 27 Tryz.func200 rfl [(0,.im (.string ⟨(s).toArray⟩))] ?_
  refine wG jF (A6 BY e f0 f1 f2 f3) ?_;refine fiGenO [.cell 2 94,.tmp 3] (finG jF) ?_
  all_goals exact wkG vU
 rw[if_neg h4]
 have f4:=bneq h4
 by_cases h5:s=[117,105,110,116,49,54]
 ·rw[if_pos h5]
  have e:=beqq h5;unfold intV;refine pcEnt 27 Tryz.func200 rfl [(0,.im (.string ⟨(s).toArray⟩))] ?_
  refine wG jF (A7 BY e f0 f1 f2 f3 f4) ?_;refine fiGenO [.cell 2 94,.tmp 3] (finG jF) ?_
  all_goals exact wkG vU
 rw[if_neg h5]
 have f5:=bneq h5
 by_cases h6:s=[117,105,110,116,51,50]
 ·rw[if_pos h6]
  have e:=beqq h6;unfold intV;refine pcEnt 27 Tryz.func200 rfl [(0,.im (.string ⟨(s).toArray⟩))] ?_
  refine wG jF (A8 BY e f0 f1 f2 f3 f4 f5) ?_;refine fiGenO [.cell 2 94,.tmp 3] (finG jF) ?_
  all_goals exact wkG vU
 rw[if_neg h6]
 have f6:=bneq h6
 unfold intV
 refine pcEnt 27 Tryz.func200 rfl [(0,.im (.string ⟨(s).toArray⟩))] ?_
 refine wG jF (A8 BY f0 f1 f2 f3 f4 f5 f6) ?_
 refine fiGenO [.cell 2 94,.tmp 3] (finG jF) ?_
 all_goals exact wkG vU
theorem i1:((1:Nat):Int)=1:=rfl
def OpC(ts:List Tk)(f:Nat):Prop:= ∀a o:Nat,o≤256→ ∀r,exM ts f .op a o=some r→XC Tryz.prog 120 [.pt 0 0] ts a o exV r
def ExC(ts:List Tk)(f:Nat):Prop:= ∀l a o:Nat,l≤10→o≤256→ ∀r,exM ts f (.ex l) a o=some r→XC Tryz.prog 59 [.pt 0 0,(.im (.int .i64 ((l:Nat))))] ts a o exV r
def pM:=A8 @cJ @fD @gQ @fG @iC @rY @cH @eF
def vV:=A4 aB aC @aF @aE
def Bp:=A4 aI aJ @aN @aO
theorem EJ{ts:List Tk}{f:Nat}(hE:ExC ts f)(hts:ts.length≤4194304)(k w:Int)(a o:Nat)(ha:a<ts.length)(ho:o≤256)(r:Rs Ex)(h:inn ts (exM ts f (.ex 1)) (mkU k w) (a+1) o=some r):XC Tryz.prog 183 [.pt 0 0,(.im (.int .i64 (k))),(.im (.int .i64 (w)))] ts a o exV r:=by
 have hw:=aQ (m:=a) (N:=4194304) (by omega) (by decide)
 unfold inn at h
 refine xcEnt 26 Tryz.func183 rfl [(0,.pt 0 0),(1,(.im (.int .i64 (k)))),(2,(.im (.int .i64 (w))))] ?_
 refine wG pM hw ?_
 rcases bS h with ⟨b1,e1,h1,rfl⟩|⟨_,a1,o1,h1,h⟩
 ·exact PA.callP [0] ((hG ts (a+1) o [40] hts _ h1).fails) TI vV Bp (fun _=>PFin.i rfl rfl)
 refine aA [0] (((hG ts (a+1) o [40] hts _ h1).good)) TI vV Bp ?_
 refine goG pM TI ?_
 obtain⟨_,ho1,rfl,rfl⟩:=dE h1
 refine wG pM TI ?_
 rcases bS h with ⟨b1,e1,h1,rfl⟩|⟨x,a2,o2,h1,h⟩
 ·exact PA.callP [0] ((hE 1 (a+1+1) (o+1) (by decide) (by omega) _ h1).fails) i1 vV Bp (fun _=>PFin.i rfl rfl)
 refine aA [0] (((hE 1 (a+1+1) (o+1) (by decide) (by omega) _ h1).good)) i1 vV Bp ?_
 refine goG pM BN01 ?_
 obtain⟨rfl,_⟩:=fC ts _ _ _ _ _ _ _ h1
 refine wG pM BN01 ?_
 rcases bS h with ⟨b1,e1,h1,rfl⟩|⟨_,a3,o3,h1,h⟩
 ·exact PA.callP [0] ((rR ts a2 (o+1) [41] hts (by omega) (by omega) _ h1).fails) TI vV Bp (fun _=>PFin.i rfl rfl)
 refine aA [0] (((rR ts a2 (o+1) [41] hts (by omega) (by omega) _ h1).good)) TI vV Bp ?_
 refine goG pM TI ?_
 cases h
 refine wG pM BN01 ?_
 refine fiGen [.cell 6 46] (finG pM) ?_ rfl (idG vV)
 rw[mkU,jW,List.map_cons,List.map_nil,bW x]
 all_goals exact wkG vV
def bE:=A16 @cJ @oL @fD @dY @nC @gQ @fG @nN @oW @rB @iC @uN @rY @kH @cH (A3 @oG @eF @dM)
def cO:=A4 aB aC @aF @aE
def eI:=A4 aI aJ @aN @aO
theorem Rz{ts:List Tk}{f:Nat}(hts:ts.length≤4194304)(hO:OpC ts f)(hE:ExC ts f):OpC ts (f+1):=by
 intro a o ho r h
 have hp:=xL ts a o
 have hf:=qS ts a o 3
 rw[exM]at h
 have hla:=fun k hk hn=>eT (ts:=ts) (a:=a) (k:=k) hk hn
 have hss: ∀s,(pk ts a).kind=5→(pk ts a).text=s→sees ts a s=true:=fun s h1 h2=>by unfold sees;rw[h1,h2];simp
 have hac:=fun k w ha h=>EJ hE hts k w a o ha ho r h
 generalize pk ts a=t at hp h hla hss
 by_cases k3:t.kind=3
 ·rw[if_pos k3]at h
  cases h
  have hlt:=hla 3 k3 (by decide)
  have hw:=aQ (m:=a) (N:=4194304) (by omega) (by decide)
  refine xcEnt 98 Tryz.func120 rfl [(0,.pt 0 0)] ?_
  refine wG bE TI ?_;refine aA [0] hp TI cO eI ?_;refine goG bE TKT ?_;refine wG bE (A3 TKT k3 hw) ?_;refine fiGen [.cell 2 46] (finG bE) ?_ rfl (idG cO)
  rw[jW,List.map_nil]
  all_goals exact wkG cO
 rw[if_neg k3]at h
 by_cases k1:t.kind=1
 ·rw[if_pos k1]at h
  cases h
  have hlt:=hla 1 k1 (by decide)
  have hw:=aQ (m:=a) (N:=4194304) (by omega) (by decide)
  refine xcEnt 98 Tryz.func120 rfl [(0,.pt 0 0)] ?_
  refine wG bE TI ?_;refine aA [0] hp TI cO eI ?_;refine goG bE TKT ?_;refine wG bE (A3 TKT k1 hw) ?_;refine fiGen [.cell 2 46] (finG bE) ?_ rfl (idG cO)
  rw[jW,List.map_nil]
  all_goals exact wkG cO
 rw[if_neg k1]at h
 by_cases k2:t.kind=2
 ·rw[if_pos k2]at h
  have hlt:=hla 2 k2 (by decide)
  unfold accW at h
  by_cases h0:t.text=[108,111,97,100,49]
  ·rw[if_pos h0]at h
   have hc:=hac 18 1 hlt h;have e:=beqq h0;cases r with
   | bad b e1 =>
    refine xcEnt 98 Tryz.func120 rfl [(0,.pt 0 0)] ?_
    refine wG bE TI ?_;refine aA [0] hp TI cO eI ?_;refine goG bE TKT ?_;refine wG bE (A4 BY TKT k2 e) ?_;exact PA.callP [0] hc.fails TI cO eI (fun _=>PFin.i rfl rfl)
   | ok x b p =>
    refine xcEnt 98 Tryz.func120 rfl [(0,.pt 0 0)] ?_
    refine wG bE TI ?_;refine aA [0] hp TI cO eI ?_;refine goG bE TKT ?_;refine wG bE (A4 BY TKT k2 e) ?_;refine aA [0] hc.good TI cO eI ?_;refine goG bE BN01 ?_;refine wG bE BN01 ?_;refine fiGen [.cell 2 46] (finG bE) ?_ rfl (idG cO)
    rw[bW x]
    all_goals exact wkG cO
  rw[if_neg h0]at h;have f0:=bneq h0
  by_cases h1:t.text=[108,111,97,100,50]
  ·rw[if_pos h1]at h
   have hc:=hac 18 2 hlt h;have e:=beqq h1;cases r with
   | bad b e1 =>
    refine xcEnt 98 Tryz.func120 rfl [(0,.pt 0 0)] ?_
    refine wG bE TI ?_;refine aA [0] hp TI cO eI ?_;refine goG bE TKT ?_;refine wG bE (A5 BY TKT k2 e f0) ?_;exact PA.callP [0] hc.fails TI cO eI (fun _=>PFin.i rfl rfl)
   | ok x b p =>
    refine xcEnt 98 Tryz.func120 rfl [(0,.pt 0 0)] ?_
    refine wG bE TI ?_;refine aA [0] hp TI cO eI ?_;refine goG bE TKT ?_;refine wG bE (A5 BY TKT k2 e f0) ?_;refine aA [0] hc.good TI cO eI ?_;refine goG bE BN01 ?_;refine wG bE BN01 ?_;refine fiGen [.cell 2 46] (finG bE) ?_ rfl (idG cO)
    rw[bW x]
    all_goals exact wkG cO
  rw[if_neg h1]at h;have f1:=bneq h1
  by_cases h2:t.text=[108,111,97,100,52]
  ·rw[if_pos h2]at h
   have hc:=hac 18 4 hlt h;have e:=beqq h2;cases r with
   | bad b e1 =>
    refine xcEnt 98 Tryz.func120 rfl [(0,.pt 0 0)] ?_
    refine wG bE TI ?_;refine aA [0] hp TI cO eI ?_;refine goG bE TKT ?_;refine wG bE (A6 BY TKT k2 e f0 f1) ?_;exact PA.callP [0] hc.fails TI cO eI (fun _=>PFin.i rfl rfl)
   | ok x b p =>
    refine xcEnt 98 Tryz.func120 rfl [(0,.pt 0 0)] ?_
    refine wG bE TI ?_;refine aA [0] hp TI cO eI ?_;refine goG bE TKT ?_;refine wG bE (A6 BY TKT k2 e f0 f1) ?_;refine aA [0] hc.good TI cO eI ?_;refine goG bE BN01 ?_;refine wG bE BN01 ?_;refine fiGen [.cell 2 46] (finG bE) ?_ rfl (idG cO)
    rw[bW x]
    all_goals exact wkG cO
  rw[if_neg h2]at h;have f2:=bneq h2
  by_cases h3:t.text=[115,101,120,116,49]
  ·rw[if_pos h3]at h
   have hc:=hac 19 1 hlt h;have e:=beqq h3;cases r with
   | bad b e1 =>
    refine xcEnt 98 Tryz.func120 rfl [(0,.pt 0 0)] ?_
    refine wG bE TI ?_;refine aA [0] hp TI cO eI ?_;refine goG bE TKT ?_;refine wG bE (A7 BY TKT k2 e f0 f1 f2) ?_;exact PA.callP [0] hc.fails TI cO eI (fun _=>PFin.i rfl rfl)
   | ok x b p =>
    refine xcEnt 98 Tryz.func120 rfl [(0,.pt 0 0)] ?_
    refine wG bE TI ?_;refine aA [0] hp TI cO eI ?_;refine goG bE TKT ?_;refine wG bE (A7 BY TKT k2 e f0 f1 f2) ?_;refine aA [0] hc.good TI cO eI ?_;refine goG bE BN01 ?_;refine wG bE BN01 ?_;refine fiGen [.cell 2 46] (finG bE) ?_ rfl (idG cO)
    rw[bW x]
    all_goals exact wkG cO
  rw[if_neg h3]at h;have f3:=bneq h3
  by_cases h4:t.text=[115,101,120,116,50]
  ·rw[if_pos h4]at h
   have hc:=hac 19 2 hlt h;have e:=beqq h4;cases r with
   | bad b e1 =>
    refine xcEnt 98 Tryz.func120 rfl [(0,.pt 0 0)] ?_
    refine wG bE TI ?_;refine aA [0] hp TI cO eI ?_;refine goG bE TKT ?_;refine wG bE (A8 BY TKT k2 e f0 f1 f2 f3) ?_;exact PA.callP [0] hc.fails TI cO eI (fun _=>PFin.i rfl rfl)
   | ok x b p =>
    refine xcEnt 98 Tryz.func120 rfl [(0,.pt 0 0)] ?_
    refine wG bE TI ?_;refine aA [0] hp TI cO eI ?_;refine goG bE TKT ?_;refine wG bE (A8 BY TKT k2 e f0 f1 f2 f3) ?_;refine aA [0] hc.good TI cO eI ?_;refine goG bE BN01 ?_;refine wG bE BN01 ?_;refine fiGen [.cell 2 46] (finG bE) ?_ rfl (idG cO)
    rw[bW x]
    all_goals exact wkG cO
  rw[if_neg h4]at h;have f4:=bneq h4;cases h
  refine xcEnt 98 Tryz.func120 rfl [(0,.pt 0 0)] ?_
  refine wG bE TI ?_;refine aA [0] hp TI cO eI ?_;refine goG bE TKT ?_;refine wG bE (A8 BY TKT k2 f0 f1 f2 f3 f4) ?_;exact PA.callP [0] hf TI cO eI (fun _=>PFin.i rfl rfl)
 rw[if_neg k2]at h
 by_cases k5:t.kind=5
 case neg =>
  rw[if_neg k5]at h;cases h
  refine xcEnt 98 Tryz.func120 rfl [(0,.pt 0 0)] ?_
  refine wG bE TI ?_;refine aA [0] hp TI cO eI ?_;refine goG bE TKT ?_;refine wG bE (A5 TKT k1 k2 k3 k5) ?_;exact PA.callP [0] hf TI cO eI (fun _=>PFin.i rfl rfl)
 rw[if_pos k5]at h
 have hlt:=hla 5 k5 (by decide)
 by_cases h0:t.text=[40]
 ·rw[if_pos h0]at h
  have e:=beqq h0;unfold inn at h;refine xcEnt 98 Tryz.func120 rfl [(0,.pt 0 0)] ?_
  refine wG bE TI ?_;refine aA [0] hp TI cO eI ?_;refine goG bE TKT ?_;refine wG bE (A4 BY TKT k5 e) ?_;rcases bS h with ⟨b1,e1,h1,rfl⟩|⟨_,a1,o1,h1,h⟩
  ·exact PA.callP [0] ((hG ts a o [40] hts _ h1).fails) TI cO eI (fun _=>PFin.i rfl rfl)
  refine aA [0] (((hG ts a o [40] hts _ h1).good)) TI cO eI ?_;refine goG bE TI ?_;obtain⟨_,ho1,rfl,rfl⟩:=dE h1;refine wG bE TI ?_;rcases bS h with ⟨b1,e1,h1,rfl⟩|⟨x,a2,o2,h1,h⟩
  ·exact PA.callP [0] ((hE 1 (a+1) (o+1) (by decide) (by omega) _ h1).fails) i1 cO eI (fun _=>PFin.i rfl rfl)
  refine aA [0] (((hE 1 (a+1) (o+1) (by decide) (by omega) _ h1).good)) i1 cO eI ?_
  refine goG bE BN01 ?_;obtain⟨rfl,_⟩:=fC ts _ _ _ _ _ _ _ h1;refine wG bE BN01 ?_;rcases bS h with ⟨b1,e1,h1,rfl⟩|⟨_,a3,o3,h1,h⟩
  ·exact PA.callP [0] ((rR ts a2 (o+1) [41] hts (by omega) (by omega) _ h1).fails) TI cO eI (fun _=>PFin.i rfl rfl)
  refine aA [0] (((rR ts a2 (o+1) [41] hts (by omega) (by omega) _ h1).good)) TI cO eI ?_
  refine goG bE TI ?_;cases h
  refine wG bE BN01 ?_;refine fiGen [.cell 2 46] (finG bE) ?_ rfl (idG cO)
  rw[id,bW x]
  all_goals exact wkG cO
 rw[if_neg h0]at h
 have f0:=bneq h0
 by_cases h1:t.text=[33]
 ·rw[if_pos (.inl h1)]at h
  have e:=beqq h1;have e2:(t.text==[45])=false:=bneq (by rw[h1];decide)
  have e3: ¬t.text=[45]:=by rw[h1];decide
  refine xcEnt 98 Tryz.func120 rfl [(0,.pt 0 0)] ?_
  refine wG bE TI ?_;refine aA [0] hp TI cO eI ?_;refine goG bE TKT ?_;refine wG bE (A6 BY TKT k5 e f0 e2) ?_;rcases bS h with ⟨b1,e1,h1,rfl⟩|⟨_,a1,o1,h1,h⟩
  ·exact PA.callP [0] ((hG ts a o t.text hts _ h1).fails) TI cO eI (fun _=>PFin.i rfl rfl)
  refine aA [0] (((hG ts a o t.text hts _ h1).good)) TI cO eI ?_;refine goG bE TI ?_;obtain⟨_,ho1,rfl,rfl⟩:=dE h1;refine wG bE TI ?_;rcases bS h with ⟨b1,e1,h1,rfl⟩|⟨x,a2,o2,h1,h⟩
  ·exact PA.callP [0] ((hO (a+1) (o+1) (by omega) _ h1).fails) TI cO eI (fun _=>PFin.i rfl rfl)
  refine aA [0] (((hO (a+1) (o+1) (by omega) _ h1).good)) TI cO eI ?_
  refine goG bE BN01 ?_;obtain⟨rfl,_⟩:=fC ts _ _ _ _ _ _ _ h1;have hwp:=qM (o:=o+1) (by omega) (by omega)
  rw[if_neg e3]at h;cases h
  refine wG bE (A9 @dJ @cQ @dH @dG @dI @cR @List.getElem?_map.{0,0} @Int.natCast_nonneg hwp) ?_;refine fiGen [.cell 2 46] (finG bE) ?_ rfl (idG cO)
  rw[mkU,jW,List.map_cons,List.map_nil,bW x]
  all_goals exact wkG cO
 have f1:=bneq h1
 by_cases h2:t.text=[45]
 ·rw[if_pos (.inr h2)]at h
  have e:=beqq h2;have e2:(t.text==[33])=false:=f1;refine xcEnt 98 Tryz.func120 rfl [(0,.pt 0 0)] ?_
  refine wG bE TI ?_;refine aA [0] hp TI cO eI ?_;refine goG bE TKT ?_;refine wG bE (A6 BY TKT k5 e f0 e2) ?_;rcases bS h with ⟨b1,e1,h1,rfl⟩|⟨_,a1,o1,h1,h⟩
  ·exact PA.callP [0] ((hG ts a o t.text hts _ h1).fails) TI cO eI (fun _=>PFin.i rfl rfl)
  refine aA [0] (((hG ts a o t.text hts _ h1).good)) TI cO eI ?_;refine goG bE TI ?_;obtain⟨_,ho1,rfl,rfl⟩:=dE h1;refine wG bE TI ?_;rcases bS h with ⟨b1,e1,h1,rfl⟩|⟨x,a2,o2,h1,h⟩
  ·exact PA.callP [0] ((hO (a+1) (o+1) (by omega) _ h1).fails) TI cO eI (fun _=>PFin.i rfl rfl)
  refine aA [0] (((hO (a+1) (o+1) (by omega) _ h1).good)) TI cO eI ?_
  refine goG bE BN01 ?_;obtain⟨rfl,_⟩:=fC ts _ _ _ _ _ _ _ h1;have hwp:=qM (o:=o+1) (by omega) (by omega)
  rw[if_pos h2]at h;cases h
  refine wG bE (A9 @dJ @cQ @dH @dG @dI @cR @List.getElem?_map.{0,0} @Int.natCast_nonneg hwp) ?_;refine fiGen [.cell 2 46] (finG bE) ?_ rfl (idG cO)
  rw[mkU,jW,List.map_cons,List.map_nil,bW x]
  all_goals exact wkG cO
 have f2:=bneq h2
 rw[if_neg (by rintro(h|h);exact h1 h;exact h2 h)]at h
 cases h
 refine xcEnt 98 Tryz.func120 rfl [(0,.pt 0 0)] ?_
 refine wG bE TI ?_
 refine aA [0] hp TI cO eI ?_
 refine goG bE TKT ?_
 refine wG bE (A6 BY TKT k5 f0 f1 f2) ?_
 exact PA.callP [0] hf TI cO eI (fun _=>PFin.i rfl rfl)
theorem MJ(s:Bs):(opR s).2≤8:=by
 have key: ∀(c:Prop) [Decidable c] (x y:Int×Nat),x.2≤8→y.2≤8→(if c then x else y).2≤8:=fun c _ x y hx hy=>by by_cases h:c<;>simp[h,hx,hy]
 unfold opR
 repeat (refine key _ _ _ (by decide) ?_)
 decide
theorem LO(t:Tk):(stR t).2≤8:=by
 unfold stR
 split
 ·exact MJ _
 ·decide
theorem GK{t:Tk}(h:(stR t).2≠0):t.kind=5:=by
 unfold stR at h
 split at h
 ·assumption
 ·exact absurd rfl h
def jJ:=A8 @cJ @fD @gQ @fG @iC @rY @cH @eF
def nL:=A4 aB aC @aF @aE
def xO:=A4 aI aJ @aN @aO
theorem NX{ts:List Tk}(hts:ts.length≤4194304)(F:Nat)(hO: ∀f,f<F→OpC ts f)(hE: ∀f,f<F→ExC ts f):ExC ts F:=by
 intro l a0 o0 hl ho0 r h
 cases F with
 | zero=>cases h
 | succ F =>
 rw[exM]at h
 refine xcEnt 39 Tryz.func59 rfl [(0,.pt 0 0),(1,(.im (.int .i64 ((l:Nat)))))] ?_
 refine wG jJ TI ?_
 rcases bS h with ⟨b1,e1,h1,rfl⟩|⟨x,a,o,h1,h⟩
 ·exact PA.callP [0] ((hO F (by omega) a0 o0 ho0 _ h1).fails) TI nL xO (fun _=>PFin.i rfl rfl)
 refine aA [0] (((hO F (by omega) a0 o0 ho0 _ h1).good)) TI nL xO ?_
 refine goG jJ BN01 ?_
 have hoo:=(fC ts _ _ _ _ _ _ _ h1).1
 clear h1
 refine wG jJ BN01 ?_
 refine aT ?_
 refine cG ?_
 suffices H: ∀(f:Nat),f≤F→ ∀(x:Ex) (a:Nat),exM ts f (.lo l x) a o=some r→AWpK _ _ _ _ _ ⟨dn 39 [(0,.pt 0 0),(1,(.im (.int .i64 ((l:Nat))))),(4,.pt 1 0),(5,.pt 2 0)],ofl [.box [.sl (ts.map tkV) .ro,(.im (.int .i64 ((a:Nat)))),(.im (.int .i64 ((o:Nat))))],.box [(.im (.int .i64 (0))),.im (.int .u32 0),.im (.string ByteArray.empty),(.im (.int .i64 (0))),.sl [] .nl],.box [(.im (.int .i64 ((x).op))),.im (.int .u32 (x).n),.im (.string (x).name),(.im (.int .i64 ((x).width))),.sl ((x).l.map exV) .ro]]⟩ by
  refine AWp.cutP 3 [(0,.pt 0 0),(1,(.im (.int .i64 ((l:Nat))))),(4,.pt 1 0),(5,.pt 2 0)] [.box [.sl (ts.map tkV) .ro,(.im (.int .i64 ((a:Nat)))),(.im (.int .i64 ((o:Nat))))],.box [(.im (.int .i64 (0))),.im (.int .u32 0),.im (.string ByteArray.empty),(.im (.int .i64 (0))),.sl [] .nl],.box [(.im (.int .i64 ((x).op))),.im (.int .u32 (x).n),.im (.string (x).name),(.im (.int .i64 ((x).width))),.sl ((x).l.map exV) .ro]] nL ?_;exact H F (Nat.le_refl _) x a h
 clear h
 subst hoo
 intro f
 induction f with
 | zero=>intro _ x a h;cases h
 | succ f ih =>
 intro hf x a h
 rw[exM]at h
 have hp:=xL ts a o
 have hq:=Ov (pk ts a)
 have hle:=LO (pk ts a)
 have hlt:(stR (pk ts a)).2≠0→a<ts.length:=fun hh=>eT (GK hh) (by decide)
 generalize hst:stR (pk ts a)=st at hq hle hlt h
 generalize pk ts a=t at hp hq
 by_cases hz:st.2=0
 ·rw[if_pos (.inl hz)]at h
  cases h
  have hz':((st.2:Nat):Int)=0:=by omega
  refine wG jJ TI ?_;refine aA [0] hp TI nL xO ?_;refine goG jJ TKT ?_;refine AR.callP hq TI nL ?_;refine goG jJ TI ?_;refine wG jJ (AI hz' BN01) ?_;refine fiGen [.cell 4 46] (finG jJ) ?_ rfl (idG nL)
  rw[bW x]
  all_goals exact wkG nL
 by_cases hn:st.2<l
 ·rw[if_pos (.inr hn)]at h
  cases h
  have hz': ¬((st.2:Nat):Int)=0:=by omega
  have hn':((st.2:Nat):Int)<(l:Int):=by omega
  refine wG jJ TI ?_;refine aA [0] hp TI nL xO ?_;refine goG jJ TKT ?_;refine AR.callP hq TI nL ?_;refine goG jJ TI ?_;refine wG jJ (A3 hz' hn' BN01) ?_;refine fiGen [.cell 4 46] (finG jJ) ?_ rfl (idG nL)
  rw[bW x]
  all_goals exact wkG nL
 rw[if_neg (by omega)]at h
 have hz': ¬((st.2:Nat):Int)=0:=by omega
 have hn': ¬((st.2:Nat):Int)<(l:Int):=by omega
 have hlt:=hlt hz
 have hw:=aQ (m:=a) (N:=4194304) (by omega) (by decide)
 have hw2:=aQ (m:=st.2) (N:=4194304) (by omega) (by decide)
 refine wG jJ TI ?_
 refine aA [0] hp TI nL xO ?_
 refine goG jJ TKT ?_
 refine AR.callP hq TI nL ?_
 refine goG jJ TI ?_
 refine wdG jJ (A5 hz' hn' hw hw2 BN01) ?_
 rcases bS h with ⟨b1,e1,h1,rfl⟩|⟨y,a1,o1,h1,hk⟩
 ·exact qZ [0] ((hE f (by omega) (st.2+1) (a+1) o (by omega) ho0 _ h1).fails) TI nL xO (fun _=>PFin.i rfl rfl) ⟨[],_,.nil,by kernel_rfl⟩
 refine aA [0] ((hE f (by omega) (st.2+1) (a+1) o (by omega) ho0 _ h1).good) TI nL xO ?_
 have hoo:=(fC ts _ _ _ _ _ _ _ h1).1
 subst hoo
 obtain⟨B,hB⟩: ∃B,B=[x,y]:=⟨_,rfl⟩
 have hAs:[V.ag [(.im (.int .i64 (x.op))),.im (.int .u32 x.n),.im (.string x.name),(.im (.int .i64 (x.width))),.sl (x.l.map exV) .ro],exV y]=B.map exV:=by rw[hB,List.map_cons,List.map_cons,List.map_nil,bW x]
 have h:exM ts f (.lo l (.mk st.1 0 ByteArray.empty 0 B)) a1 o1=some r:=by rw[hB];exact hk
 refine goG jJ (A9 @dJ @cQ @dH @dG @dI @cR @List.getElem?_map.{0,0} @Int.natCast_nonneg hAs) ?_
 refine wdG jJ (A9 @dJ @cQ @dH @dG @dI @cR @List.getElem?_map.{0,0} @Int.natCast_nonneg hAs) ?_
 refine cG ?_
 refine Af 3 [(0,.pt 0 0),(1,(.im (.int .i64 ((l:Nat))))),(4,.pt 1 0),(5,.pt 2 0)] [.box [.sl (ts.map tkV) .ro,(.im (.int .i64 ((a1:Nat)))),(.im (.int .i64 ((o1:Nat))))],.box [(.im (.int .i64 (0))),.im (.int .u32 0),.im (.string ByteArray.empty),(.im (.int .i64 (0))),.sl [] .nl],.box [(.im (.int .i64 (st.1))),.im (.int .u32 0),.im (.string ByteArray.empty),(.im (.int .i64 (0))),.sl (B.map exV) .ro]] ?_ (by simp) (by repeat (first|exact WkFA.nil|refine WkFA.cons (by first|exact .of (Wk.refl _) (by first|rfl|simp only[List.length_cons,List.length_nil,Nat.reduceAdd,V.ids,V.idsL,idsA,entOk,List.all_cons,List.all_nil,Bool.and_self,Bool.and_true,Bool.true_and,ltB,noId,Nat.reduceLT,decide_true,Bool.true_eq_false,bN,bP,bO,bQ,aB,aC,aF,aE])|exact .of (Wk.ro _ _) (by simp[V.ids,V.idsL,aE])) ?_)) (by repeat (first|exact WkFE.nil|refine WkFE.box (by repeat (first|exact WkFL.nil|refine WkFL.cons (by first|exact .of (Wk.refl _) (by first|rfl|simp only[List.length_cons,List.length_nil,Nat.reduceAdd,V.ids,V.idsL,idsA,entOk,List.all_cons,List.all_nil,Bool.and_self,Bool.and_true,Bool.true_and,ltB,noId,Nat.reduceLT,decide_true,Bool.true_eq_false,bN,bP,bO,bQ,aB,aC,aF,aE])|exact .of (Wk.ro _ _) (by simp[V.ids,V.idsL,aE])) ?_)) ?_|refine WkFE.same (fun _ e=>by cases e) ?_)) (fun i hi=>by first|exact absurd rfl hi|exact Nat.lt_of_lt_of_le (oQ hi) (by simp))
 exact ih (by omega) (.mk st.1 0 ByteArray.empty 0 B) a1 h
theorem QK{ts:List Tk}(hts:ts.length≤4194304): ∀F f,f≤F→OpC ts f∧ExC ts f:=by
 intro F
 induction F with
 | zero =>
  intro f hf;obtain rfl:f=0:=by omega
  exact⟨(fun a o _ r h=>by cases h),(fun l a o _ _ r h=>by cases h)⟩
 | succ F ih =>
  intro f hf
  by_cases hle:f≤F
  ·exact ih f hle
  obtain rfl:f=F+1:=by omega
  exact⟨Rz hts (ih F (Nat.le_refl _)).1 (ih F (Nat.le_refl _)).2,NX hts (F+1) (fun f hf=>(ih f (by omega)).1) (fun f hf=>(ih f (by omega)).2)⟩
theorem wX{ts:List Tk}(hts:ts.length≤4194304)(f:Nat):ExC ts f:=(QK hts f f (Nat.le_refl _)).2
def TyC(ts:List Tk)(f:Nat):Prop:= ∀a o:Nat,o≤256→ ∀r,tyM ts f .ty a o=some r→XC Tryz.prog 144 [.pt 0 0] ts a o tyV r
def FlC(ts:List Tk)(f:Nat):Prop:= ∀a o:Nat,o≤256→ ∀r,rb (begM ts [123] a o) (fun _ a o=>tyM ts f (.fl []) a o)=some r→XC Tryz.prog 201 [.pt 0 0] ts a o tyV r
def eP:=A16 @oL @oK @gR @tN @qD @Pz @nJ @rB @jO @pU @rZ @Pt @uK @lM @oG (A4 @mO @gO @pT @rW)
def iQ:=A6 aB aC @bN @bP @bO @bQ
def kM:=A6 aI aJ @eJ @eN @eM @eO
theorem Ou{ts:List Tk}(hts:ts.length≤4194304)(hok: ∀t∈ts,TkOk t)(F:Nat)(hT: ∀f,f<F→TyC ts f):FlC ts F:=by
 intro a0 o0 ho0 r h
 refine xcEnt 35 Tryz.func201 rfl [(0,.pt 0 0)] ?_
 refine wG eP TI ?_
 rcases bS h with ⟨b1,e1,h1,rfl⟩|⟨_,a,o,h1,h⟩
 ·exact PA.callP [0] ((hG ts a0 o0 [123] hts _ h1).fails) TI iQ kM (fun _=>PFin.i rfl rfl)
 refine aA [0] (((hG ts a0 o0 [123] hts _ h1).good)) TI iQ kM ?_
 refine goG eP TI ?_
 obtain⟨hsee,ho1,rfl,rfl⟩:=dE h1
 have hsee:=cB hsee
 clear h1
 refine wG eP TI ?_
 refine aT ?_
 refine cG ?_
 refine AWp.ghostB 2 4 [(.im (.int .i64 (5))),(.im (.int .i64 (0))),(.im (.int .i64 (0))),.sl [] .nl,.sl [] .nl] 218 6 ?_
 suffices H: ∀(f:Nat),f<F+1→ ∀(l:List Ty) (a:Nat),l.length≤a→a≤ts.length→tyM ts f (.fl l) a (o0+1)=some r→AWpK _ _ _ _ _ ⟨dn 35 [(0,.pt 0 0),(2,.pt 1 0),(3,.pt 2 0)],ofl [.box [.sl (ts.map tkV) .ro,(.im (.int .i64 ((a:Nat)))),(.im (.int .i64 ((o0+1:Nat))))],.box [(.im (.int .i64 (0))),(.im (.int .i64 (0))),(.im (.int .i64 (0))),.sl [] .nl,.sl [] .nl],.box [(.im (.int .i64 (5))),(.im (.int .i64 (0))),(.im (.int .i64 (0))),.sl [] .nl,.sl ((l).map fdV) (.mine 3)],.tip 218 6 (l).length]⟩ by
  refine AWp.cutP 4 [(0,.pt 0 0),(2,.pt 1 0),(3,.pt 2 0)] [.box [.sl (ts.map tkV) .ro,(.im (.int .i64 ((a0+1:Nat)))),(.im (.int .i64 ((o0+1:Nat))))],.box [(.im (.int .i64 (0))),(.im (.int .i64 (0))),(.im (.int .i64 (0))),.sl [] .nl,.sl [] .nl],.box [(.im (.int .i64 (5))),(.im (.int .i64 (0))),(.im (.int .i64 (0))),.sl [] .nl,.sl ((([]:List Ty)).map fdV) (.mine 3)],.tip 218 6 (([]:List Ty)).length] iQ ?_;exact H F (by omega) [] (a0+1) (by simp) (by omega) h
 clear h
 intro f
 induction f with
 | zero=>intro _ l a _ _ h;cases h
 | succ f ih =>
 intro hf l a hla hal h
 rw[tyM]at h
 have hs:=qR ts a (o0+1) [125]
 cases hq:sees ts a [125]with
 | true =>
  rw[hq]at hs;rw[if_pos hq]at h;refine wG eP TI ?_;refine aA [0] hs TI iQ kM ?_;refine goG eP TI ?_;refine wG eP TI ?_;rcases bS h with ⟨b1,e1,h1,rfl⟩|⟨_,a1,o1,h1,h⟩
  ·exact PA.callP [0] ((rR ts a (o0+1) [125] hts (by omega) (by omega) _ h1).fails) TI iQ kM (fun _=>PFin.i rfl rfl)
  refine aA [0] (((rR ts a (o0+1) [125] hts (by omega) (by omega) _ h1).good)) TI iQ kM ?_
  refine goG eP TI ?_;cases h
  refine wG eP TI ?_;refine fiGen [.cell 2 94] (finG eP) ?_ rfl (idG iQ)
  rw[fQ,List.map_nil]
  all_goals exact wkG iQ
 | false =>
  rw[hq]at hs;rw[if_neg (by rw[hq];decide)]at h
  by_cases hp:0<l.length
  ·have hp':(l.length:Int)>0:=by omega
   rw[if_pos hp]at h;refine wG eP TI ?_;refine aA [0] hs TI iQ kM ?_;refine goG eP TI ?_;refine wG eP (AI @List.length_map.{0,0} hp') ?_;rcases bS h with ⟨b1,e1,h1,rfl⟩|⟨_,a1,o1,h1,h⟩
   ·exact PA.callP [0] ((cT ts a (o0+1) [44] hts _ h1).fails) TI iQ kM (fun _=>PFin.i rfl rfl)
   refine aA [0] (((cT ts a (o0+1) [44] hts _ h1).good)) TI iQ kM ?_;refine goG eP TI ?_;obtain⟨hsee,rfl,rfl⟩:=dQ h1;have:=cB hsee;clear h1;refine wG eP TI ?_;rcases bS h with ⟨b1,e1,h1,rfl⟩|⟨nn,a2,o2,h1,h⟩
   ·exact PA.callP [0] ((pR ts (a+1) (o0+1) 3 (by decide) hts _ h1).fails) TI iQ kM (fun _=>PFin.i rfl rfl)
   refine aA [0] (((pR ts (a+1) (o0+1) 3 (by decide) hts _ h1).good)) TI iQ kM ?_
   refine goG eP TKT ?_;obtain⟨hk,rfl,rfl,rfl⟩:=iS h1;have hlt:=eT hk (by decide)
   have hn:=yP hok (a+1);clear h1;generalize pk ts (a+1)=tn at hk hn h;have hwn:=cI (n:=tn.n) (by omega)
   refine wG eP TKT ?_;rcases bS h with ⟨b1,e1,h1,rfl⟩|⟨_,a3,o3,h1,h⟩
   ·exact PA.callP [0] ((cT ts ((a+1)+1) (o0+1) [58] hts _ h1).fails) TI iQ kM (fun _=>PFin.i rfl rfl)
   refine aA [0] (((cT ts ((a+1)+1) (o0+1) [58] hts _ h1).good)) TI iQ kM ?_;refine goG eP TI ?_;obtain⟨_,rfl,rfl⟩:=dQ h1;refine wdG eP (AI hwn BN07) ?_;rcases bS h with ⟨b1,e1,h1,rfl⟩|⟨x,a4,o4,h1,hk2⟩
   ·exact qZ [0] ((hT f (by omega) _ (o0+1) (by omega) _ h1).fails) TI iQ kM (fun _=>PFin.i rfl rfl) ⟨[⟨9,[],⟨_,[]⟩⟩],_,(.cons (wH (i:=9) rfl rfl jO mO (by decide)) .nil),by kernel_rfl⟩
   obtain⟨rfl,hle,hle2⟩:=(lH ts f).1 _ _ _ _ _ h1;obtain⟨B,hB⟩: ∃B,B=l++[x.at_ tn.n]:=⟨_,rfl⟩
   have hAs:l.map fdV++[V.ag [(.im (.int .i64 (tn.n))),(.im (.int .i64 (x.kind))),(.im (.int .i64 (x.size))),(.im (.int .i64 (x.count))),.sl (x.elem.map tyV) .ro,.sl (x.fields.map fdV) .ro]]=B.map fdV:=by rw[hB,List.map_append,List.map_singleton,sH];rfl
   have hAl:l.length+1=B.length:=by rw[hB];simp
   have hbl:B.length*80≤140737488355328:=by omega
   have h4:tyM ts f (.fl B) a4 (o0+1)=some r:=by rw[hB];exact hk2
   refine aA [0] ((hT f (by omega) _ (o0+1) (by omega) _ h1).good) TI iQ kM ?_
   refine goG eP (A16 @dU @dX @cX @cZ @dS @dR @dT @cY @dP @dO @dW @dA @List.getElem?_map.{0,0} @Int.natCast_nonneg hAs (A4 hAl hbl zH @List.length_map.{0,0})) ?_;refine wdG eP (A16 @dU @dX @cX @cZ @dS @dR @dT @cY @dP @dO @dW @dA @List.getElem?_map.{0,0} @Int.natCast_nonneg hAs (A4 hAl hbl zH @List.length_map.{0,0})) ?_;refine cG ?_;refine AWp.cutP 4 [(0,.pt 0 0),(2,.pt 1 0),(3,.pt 2 0)] [.box [.sl (ts.map tkV) .ro,(.im (.int .i64 ((a4:Nat)))),(.im (.int .i64 ((o0+1:Nat))))],.box [(.im (.int .i64 (0))),(.im (.int .i64 (0))),(.im (.int .i64 (0))),.sl [] .nl,.sl [] .nl],.box [(.im (.int .i64 (5))),(.im (.int .i64 (0))),(.im (.int .i64 (0))),.sl [] .nl,.sl ((B).map fdV) (.mine 3)],.tip 218 6 (B).length] iQ ?_;exact ih (by omega) B a4 (by omega) (by omega) h4
  ·have hp': ¬(l.length:Int)>0:=by omega
   rw[if_neg hp]at h;change rb (takM ts 3 a (o0+1)) _=some r at h;refine wG eP TI ?_;refine aA [0] hs TI iQ kM ?_;refine goG eP TI ?_;refine wG eP (AI @List.length_map.{0,0} hp') ?_;rcases bS h with ⟨b1,e1,h1,rfl⟩|⟨nn,a2,o2,h1,h⟩
   ·exact PA.callP [0] ((pR ts a (o0+1) 3 (by decide) hts _ h1).fails) TI iQ kM (fun _=>PFin.i rfl rfl)
   refine aA [0] (((pR ts a (o0+1) 3 (by decide) hts _ h1).good)) TI iQ kM ?_
   refine goG eP TKT ?_;obtain⟨hk,rfl,rfl,rfl⟩:=iS h1;have hlt:=eT hk (by decide)
   have hn:=yP hok a;clear h1;generalize pk ts a=tn at hk hn h;have hwn:=cI (n:=tn.n) (by omega)
   refine wG eP TKT ?_;rcases bS h with ⟨b1,e1,h1,rfl⟩|⟨_,a3,o3,h1,h⟩
   ·exact PA.callP [0] ((cT ts (a+1) (o0+1) [58] hts _ h1).fails) TI iQ kM (fun _=>PFin.i rfl rfl)
   refine aA [0] (((cT ts (a+1) (o0+1) [58] hts _ h1).good)) TI iQ kM ?_;refine goG eP TI ?_;obtain⟨_,rfl,rfl⟩:=dQ h1;refine wdG eP (AI hwn BN07) ?_;rcases bS h with ⟨b1,e1,h1,rfl⟩|⟨x,a4,o4,h1,hk2⟩
   ·exact qZ [0] ((hT f (by omega) _ (o0+1) (by omega) _ h1).fails) TI iQ kM (fun _=>PFin.i rfl rfl) ⟨[⟨9,[],⟨_,[]⟩⟩],_,(.cons (wH (i:=9) rfl rfl jO mO (by decide)) .nil),by kernel_rfl⟩
   obtain⟨rfl,hle,hle2⟩:=(lH ts f).1 _ _ _ _ _ h1;obtain⟨B,hB⟩: ∃B,B=l++[x.at_ tn.n]:=⟨_,rfl⟩
   have hAs:l.map fdV++[V.ag [(.im (.int .i64 (tn.n))),(.im (.int .i64 (x.kind))),(.im (.int .i64 (x.size))),(.im (.int .i64 (x.count))),.sl (x.elem.map tyV) .ro,.sl (x.fields.map fdV) .ro]]=B.map fdV:=by rw[hB,List.map_append,List.map_singleton,sH];rfl
   have hAl:l.length+1=B.length:=by rw[hB];simp
   have hbl:B.length*80≤140737488355328:=by omega
   have h4:tyM ts f (.fl B) a4 (o0+1)=some r:=by rw[hB];exact hk2
   refine aA [0] ((hT f (by omega) _ (o0+1) (by omega) _ h1).good) TI iQ kM ?_
   refine goG eP (A16 @dU @dX @cX @cZ @dS @dR @dT @cY @dP @dO @dW @dA @List.getElem?_map.{0,0} @Int.natCast_nonneg hAs (A4 hAl hbl zH @List.length_map.{0,0})) ?_;refine wdG eP (A16 @dU @dX @cX @cZ @dS @dR @dT @cY @dP @dO @dW @dA @List.getElem?_map.{0,0} @Int.natCast_nonneg hAs (A4 hAl hbl zH @List.length_map.{0,0})) ?_;refine cG ?_;refine AWp.cutP 4 [(0,.pt 0 0),(2,.pt 1 0),(3,.pt 2 0)] [.box [.sl (ts.map tkV) .ro,(.im (.int .i64 ((a4:Nat)))),(.im (.int .i64 ((o0+1:Nat))))],.box [(.im (.int .i64 (0))),(.im (.int .i64 (0))),(.im (.int .i64 (0))),.sl [] .nl,.sl [] .nl],.box [(.im (.int .i64 (5))),(.im (.int .i64 (0))),(.im (.int .i64 (0))),.sl [] .nl,.sl ((B).map fdV) (.mine 3)],.tip 218 6 (B).length] iQ ?_;exact ih (by omega) B a4 (by omega) (by omega) h4
def bG:=A16 @cJ @oL @dY @gR @nC @qD @oJ @nN @oW @rB @iC @uN @pU @rZ @uK (A7 @kH @cH @oG @dM @gO @pT @rW)
def dL:=A6 aB aC @bN @bP @bO @bQ
def eS:=A6 aI aJ @eJ @eN @eM @eO
theorem QD{ts:List Tk}{f:Nat}(hts:ts.length≤4194304)(hok: ∀t∈ts,TkOk t)(hT:TyC ts f)(hS:FlC ts f):TyC ts (f+1):=by
 intro a o ho r h
 have hp:=xL ts a o
 have hf:=qS ts a o 3
 have hq:=fM ts a o [63] hts
 have hs1:=qR ts a o [42]
 have hs2:=qR ts a o [91]
 have hs3:=qR ts a o [123]
 rw[tyM]at h
 by_cases k1:(pk ts a).kind=1
 ·rw[if_pos k1]at h
  have hlt:=eT k1 (by decide)
  have hw:=aQ (m:=a) (N:=4194304) (by omega) (by decide)
  have hi:=Xr (pk ts a).text;generalize pk ts a=t at hp hi h k1;cases hr:intR t.text with
  | none =>
   rw[hr]at hi h;unfold intV at hi;rw[fQ]at hi;cases h
   refine xcEnt 85 Tryz.func144 rfl [(0,.pt 0 0)] ?_
   refine wG bG TI ?_;refine aA [0] hp TI dL eS ?_;refine goG bG TKT ?_;refine wG bG (AI TKT k1) ?_;refine AR.callP hi TI dL ?_;refine goG bG BN07 ?_;refine wG bG BN07 ?_;exact PA.callP [0] hf TI dL eS (fun _=>PFin.i rfl rfl)
  | some p =>
   obtain⟨k,s⟩:=p;rw[hr]at hi h;unfold intV at hi;rw[fQ]at hi;cases h
   refine xcEnt 85 Tryz.func144 rfl [(0,.pt 0 0)] ?_
   refine wG bG TI ?_;refine aA [0] hp TI dL eS ?_;refine goG bG TKT ?_;refine wG bG (AI TKT k1) ?_;refine AR.callP hi TI dL ?_;refine goG bG BN07 ?_;refine wG bG (A15 @dU @dX @cX @cZ @dS @dR @dT @cY @dP @dO @dW @dA @List.getElem?_map.{0,0} @Int.natCast_nonneg hw) ?_;refine fiGen [.cell 2 94] (finG bG) ?_ rfl (idG dL)
   rw[fQ]
   all_goals exact wkG dL
 rw[if_neg k1]at h
 generalize pk ts a=t at hp k1
 by_cases q1:sees ts a [63]=true
 ·rw[if_pos q1]at h
  rw[if_pos q1,q1]at hq;cases h
  refine xcEnt 85 Tryz.func144 rfl [(0,.pt 0 0)] ?_
  refine wG bG TI ?_;refine aA [0] hp TI dL eS ?_;refine goG bG TKT ?_;refine wG bG (AI TKT k1) ?_;refine aA [0] hq TI dL eS ?_;refine goG bG TI ?_;refine wG bG TI ?_;refine fiGen [.cell 2 94] (finG bG) ?_ rfl (idG dL)
  rw[fQ,List.map_nil,List.map_nil]
  all_goals exact wkG dL
 rw[if_neg q1]at h
 rw[if_neg q1]at hq
 rw[Bool.not_eq_true]at q1
 rw[q1]at hq
 by_cases q2:sees ts a [42]=true
 ·rw[if_pos q2]at h
  rw[q2]at hs1;refine xcEnt 85 Tryz.func144 rfl [(0,.pt 0 0)] ?_
  refine wG bG TI ?_;refine aA [0] hp TI dL eS ?_;refine goG bG TKT ?_;refine wG bG (AI TKT k1) ?_;refine aA [0] hq TI dL eS ?_;refine goG bG TI ?_;refine wG bG TI ?_;refine aA [0] hs1 TI dL eS ?_;refine goG bG TI ?_;refine wG bG TI ?_;rcases bS h with ⟨b1,e1,h1,rfl⟩|⟨_,a1,o1,h1,h⟩
  ·exact PA.callP [0] ((hG ts a o [42] hts _ h1).fails) TI dL eS (fun _=>PFin.i rfl rfl)
  refine aA [0] (((hG ts a o [42] hts _ h1).good)) TI dL eS ?_;refine goG bG TI ?_;obtain⟨hsee,ho1,rfl,rfl⟩:=dE h1;refine wG bG TI ?_;rcases bS h with ⟨b1,e1,h1,rfl⟩|⟨x,a2,o2,h1,h⟩
  ·exact PA.callP [0] ((hT (a+1) (o+1) (by omega) _ h1).fails) TI dL eS (fun _=>PFin.i rfl rfl)
  refine aA [0] (((hT (a+1) (o+1) (by omega) _ h1).good)) TI dL eS ?_
  refine goG bG BN07 ?_;obtain⟨rfl,_,_⟩:=(lH ts f).1 _ _ _ _ _ h1;have hwp:=qM (o:=o+1) (by omega) (by omega)
  cases h
  refine wG bG (A15 @dU @dX @cX @cZ @dS @dR @dT @cY @dP @dO @dW @dA @List.getElem?_map.{0,0} @Int.natCast_nonneg hwp) ?_;refine fiGen [.cell 2 94] (finG bG) ?_ rfl (idG dL)
  rw[fQ,List.map_nil,List.map_cons,List.map_nil,cW x]
  all_goals exact wkG dL
 rw[if_neg q2]at h
 rw[Bool.not_eq_true]at q2
 rw[q2]at hs1
 by_cases q3:sees ts a [91]=true
 ·rw[if_pos q3]at h
  rw[q3]at hs2;refine xcEnt 85 Tryz.func144 rfl [(0,.pt 0 0)] ?_
  refine wG bG TI ?_;refine aA [0] hp TI dL eS ?_;refine goG bG TKT ?_;refine wG bG (AI TKT k1) ?_;refine aA [0] hq TI dL eS ?_;refine goG bG TI ?_;refine wG bG TI ?_;refine aA [0] hs1 TI dL eS ?_;refine goG bG TI ?_;refine wG bG TI ?_;refine aA [0] hs2 TI dL eS ?_;refine goG bG TI ?_;refine wG bG TI ?_;rcases bS h with ⟨b1,e1,h1,rfl⟩|⟨_,a1,o1,h1,h⟩
  ·exact PA.callP [0] ((hG ts a o [91] hts _ h1).fails) TI dL eS (fun _=>PFin.i rfl rfl)
  refine aA [0] (((hG ts a o [91] hts _ h1).good)) TI dL eS ?_;refine goG bG TI ?_;obtain⟨hsee,ho1,rfl,rfl⟩:=dE h1;refine wG bG TI ?_;rcases bS h with ⟨b1,e1,h1,rfl⟩|⟨nn,a2,o2,h1,h⟩
  ·exact PA.callP [0] ((pR ts (a+1) (o+1) 3 (by decide) hts _ h1).fails) TI dL eS (fun _=>PFin.i rfl rfl)
  refine aA [0] (((pR ts (a+1) (o+1) 3 (by decide) hts _ h1).good)) TI dL eS ?_
  refine goG bG TKT ?_;obtain⟨hk,rfl,rfl,rfl⟩:=iS h1;have hn:=yP hok (a+1);clear h1;generalize pk ts (a+1)=tn at hk hn h;have hwn:=cI (n:=tn.n) (by omega)
  refine wG bG TKT ?_;rcases bS h with ⟨b1,e1,h1,rfl⟩|⟨_,a3,o3,h1,h⟩
  ·exact PA.callP [0] ((cT ts (a+1+1) (o+1) [93] hts _ h1).fails) TI dL eS (fun _=>PFin.i rfl rfl)
  refine aA [0] (((cT ts (a+1+1) (o+1) [93] hts _ h1).good)) TI dL eS ?_;refine goG bG TI ?_;obtain⟨_,rfl,rfl⟩:=dQ h1;refine wG bG TI ?_;rcases bS h with ⟨b1,e1,h1,rfl⟩|⟨x,a4,o4,h1,h⟩
  ·exact PA.callP [0] ((hT (a+1+1+1) (o+1) (by omega) _ h1).fails) TI dL eS (fun _=>PFin.i rfl rfl)
  refine aA [0] (((hT (a+1+1+1) (o+1) (by omega) _ h1).good)) TI dL eS ?_
  refine goG bG BN07 ?_;obtain⟨rfl,_,_⟩:=(lH ts f).1 _ _ _ _ _ h1;have hwp:=qM (o:=o+1) (by omega) (by omega)
  cases h
  refine wG bG (A16 @dU @dX @cX @cZ @dS @dR @dT @cY @dP @dO @dW @dA @List.getElem?_map.{0,0} @Int.natCast_nonneg hwp hwn) ?_;refine fiGen [.cell 2 94] (finG bG) ?_ rfl (idG dL)
  rw[fQ,List.map_nil,List.map_cons,List.map_nil,cW x]
  all_goals exact wkG dL
 rw[if_neg q3]at h
 rw[Bool.not_eq_true]at q3
 rw[q3]at hs2
 by_cases q4:sees ts a [123]=true
 ·rw[if_pos q4]at h
  rw[q4]at hs3;have hc:=hS a o ho r h;cases r with
  | bad b e1 =>
   refine xcEnt 85 Tryz.func144 rfl [(0,.pt 0 0)] ?_
   refine wG bG TI ?_;refine aA [0] hp TI dL eS ?_;refine goG bG TKT ?_;refine wG bG (AI TKT k1) ?_;refine aA [0] hq TI dL eS ?_;refine goG bG TI ?_;refine wG bG TI ?_;refine aA [0] hs1 TI dL eS ?_;refine goG bG TI ?_;refine wG bG TI ?_;refine aA [0] hs2 TI dL eS ?_;refine goG bG TI ?_;refine wG bG TI ?_;refine aA [0] hs3 TI dL eS ?_;refine goG bG TI ?_;refine wG bG TI ?_;exact PA.callP [0] hc.fails TI dL eS (fun _=>PFin.i rfl rfl)
  | ok x b p =>
   refine xcEnt 85 Tryz.func144 rfl [(0,.pt 0 0)] ?_
   refine wG bG TI ?_;refine aA [0] hp TI dL eS ?_;refine goG bG TKT ?_;refine wG bG (AI TKT k1) ?_;refine aA [0] hq TI dL eS ?_;refine goG bG TI ?_;refine wG bG TI ?_;refine aA [0] hs1 TI dL eS ?_;refine goG bG TI ?_;refine wG bG TI ?_;refine aA [0] hs2 TI dL eS ?_;refine goG bG TI ?_;refine wG bG TI ?_;refine aA [0] hs3 TI dL eS ?_;refine goG bG TI ?_;refine wG bG TI ?_;refine aA [0] hc.good TI dL eS ?_;refine goG bG BN07 ?_;refine wG bG BN07 ?_;refine fiGen [.cell 2 94] (finG bG) ?_ rfl (idG dL)
   rw[cW x]
   all_goals exact wkG dL
 rw[if_neg q4]at h
 rw[Bool.not_eq_true]at q4
 rw[q4]at hs3
 cases h
 refine xcEnt 85 Tryz.func144 rfl [(0,.pt 0 0)] ?_
 refine wG bG TI ?_
 refine aA [0] hp TI dL eS ?_
 refine goG bG TKT ?_
 refine wG bG (AI TKT k1) ?_
 refine aA [0] hq TI dL eS ?_
 refine goG bG TI ?_
 refine wG bG TI ?_
 refine aA [0] hs1 TI dL eS ?_
 refine goG bG TI ?_
 refine wG bG TI ?_
 refine aA [0] hs2 TI dL eS ?_
 refine goG bG TI ?_
 refine wG bG TI ?_
 refine aA [0] hs3 TI dL eS ?_
 refine goG bG TI ?_
 refine wG bG TI ?_
 exact PA.callP [0] hf TI dL eS (fun _=>PFin.i rfl rfl)
theorem KW{ts:List Tk}(hts:ts.length≤4194304)(hok: ∀t∈ts,TkOk t): ∀F f,f≤F→TyC ts f:=by
 intro F
 induction F with
 | zero =>
  intro f hf;obtain rfl:f=0:=by omega
  exact fun a o _ r h=>by cases h
 | succ F ih =>
  intro f hf
  by_cases hle:f≤F
  ·exact ih f hle
  obtain rfl:f=F+1:=by omega
  exact QD hts hok (ih F (Nat.le_refl _)) (Ou hts hok F fun f hf=>ih f (by omega))
end Go.Proofs.YtmbmmckagcdapaaGreatDoor
