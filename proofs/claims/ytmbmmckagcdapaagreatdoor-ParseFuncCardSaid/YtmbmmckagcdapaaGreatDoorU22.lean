import Derived.Test.YtmbmmckagcdapaaGreatDoorU10
import Derived.Test.YtmbmmckagcdapaaGreatDoorU11
import Derived.Test.YtmbmmckagcdapaaGreatDoorU19
set_option linter.all false
namespace Go.Proofs.YtmbmmckagcdapaaGreatDoor
open Go.RowKit
def rbx(ts:List Tk)(s:Sr):Ent:= .box [.sl (ts.map tkV) .ro,(.im (.int .i64 ((s.a:Nat)))),(.im (.int .i64 (s.o))),(.im (.int .i64 (s.e)))]
def isR(ts:List Tk)(a:Nat)(e:Int)(t:Bs):Bool:=decide (e=0)&&sees ts a t
theorem vH{ts:List Tk}{a:Nat}{e:Int}{t:Bs}(h:isR ts a e t=true):e=0∧sees ts a t=true∧a<ts.length:=by
 unfold isR at h
 rw[Bool.and_eq_true,decide_eq_true_eq]at h
 exact⟨h.1,h.2,bX h.2⟩
theorem Yd{ts:List Tk}{a:Nat}{e:Int}{t:Bs}(h:isR ts a e t=false)(he:e=0):sees ts a t=false:=by
 unfold isR at h
 rwa [decide_eq_true he,Bool.true_and]at h
theorem gI(ts:List Tk)(a:Nat)(t:Bs):isR ts a 0 t=sees ts a t:=rfl
theorem tJ{ts:List Tk}{a:Nat}{e:Int}{t:Bs}(he:e≠0):isR ts a e t=false:=by unfold isR;rw[decide_eq_false he];rfl
def lA:=A15 @nJ @kE @cQ @eF @mD @kI @gX @jB @vS @vR @nH @kG @kC @cN @dR
theorem oR(ts:List Tk)(a:Nat)(o e:Int)(t:Bs):DC Tryz.prog 112 [.pt 0 0,.im (.string ⟨(t).toArray⟩)] [.box [.sl (ts.map tkV) .ro,(.im (.int .i64 ((a:Nat)))),(.im (.int .i64 (o))),(.im (.int .i64 (e)))]] (.im (.bool (isR ts a e t))) [.box [.sl (ts.map tkV) .ro,(.im (.int .i64 ((a:Nat)))),(.im (.int .i64 (o))),(.im (.int .i64 (e)))]]:=by
 unfold isR
 by_cases he:e=0
 case neg =>
  rw[decide_eq_false he,Bool.false_and];refine DC.enter 65 Tryz.func112 rfl (by decide) rfl rfl (s:=[(0,.pt 0 0),(1,.im (.string ⟨(t).toArray⟩))]) (by rfl) ?_
  refine wdG lA he ?_;refine aO (rs:=[.tmp 4]) rfl (by first|exact .inl rfl|exact .inr rfl) (finG lA) ?_ rfl (idG (AI aB aC))
  all_goals exact wkG (AI aB aC)
 subst he
 rw[show decide ((0:Int)=0)=true from rfl,Bool.true_and]
 unfold sees
 by_cases hlt:a<ts.length
 case neg =>
  have hn: ¬(a:Int)<(ts.length:Int):=by omega
  rw[uZ (by omega)]
  refine DC.enter 65 Tryz.func112 rfl (by decide) rfl rfl (s:=[(0,.pt 0 0),(1,.im (.string ⟨(t).toArray⟩))]) (by rfl) ?_
  refine wdG lA (AI hn @List.length_map.{0,0}) ?_;refine aO (rs:=[.tmp 4]) rfl (by first|exact .inl rfl|exact .inr rfl) (finG lA) ?_ rfl (idG (AI aB aC))
  all_goals exact wkG (AI aB aC)
 have hg:=zJ hlt
 have hn:(a:Int)<(ts.length:Int):=by omega
 have h0:(0:Int)≤(a:Int):=by omega
 generalize pk ts a=k at hg
 by_cases h2:k.kind=2
 ·rw[show(k.kind==2)=true from beq_iff_eq.2 h2,Bool.true_or,Bool.true_and]
  refine DC.enter 65 Tryz.func112 rfl (by decide) rfl rfl (s:=[(0,.pt 0 0),(1,.im (.string ⟨(t).toArray⟩))]) (by rfl) ?_
  refine wdG lA (A6 BY TKT hn hg h0 h2) ?_;refine aO (rs:=[.tmp 4]) rfl (by first|exact .inl rfl|exact .inr rfl) (finG lA) ?_ rfl (idG (AI aB aC))
  all_goals exact wkG (AI aB aC)
 rw[show(k.kind==2)=false from beq_eq_false_iff_ne.2 h2,Bool.false_or]
 by_cases h5:k.kind=5
 ·rw[show(k.kind==5)=true from beq_iff_eq.2 h5,Bool.true_and]
  refine DC.enter 65 Tryz.func112 rfl (by decide) rfl rfl (s:=[(0,.pt 0 0),(1,.im (.string ⟨(t).toArray⟩))]) (by rfl) ?_
  refine wdG lA (A7 BY TKT hn hg h0 h2 h5) ?_;refine aO (rs:=[.tmp 4]) rfl (by first|exact .inl rfl|exact .inr rfl) (finG lA) ?_ rfl (idG (AI aB aC))
  all_goals exact wkG (AI aB aC)
 ·rw[show(k.kind==5)=false from beq_eq_false_iff_ne.2 h5,Bool.false_and]
  refine DC.enter 65 Tryz.func112 rfl (by decide) rfl rfl (s:=[(0,.pt 0 0),(1,.im (.string ⟨(t).toArray⟩))]) (by rfl) ?_
  refine wdG lA (A7 BY TKT hn hg h0 h2 h5) ?_;refine aO (rs:=[.tmp 4]) rfl (by first|exact .inl rfl|exact .inr rfl) (finG lA) ?_ rfl (idG (AI aB aC))
  all_goals exact wkG (AI aB aC)
def rD:=A12 @nJ @kE @cQ @mD @kI @gX @jB @vS @nH @kG @kC @cN
theorem jM(ts:List Tk)(a:Nat)(o e k:Int)(hk:k≠0):DC Tryz.prog 176 [.pt 0 0,(.im (.int .i64 (k)))] [.box [.sl (ts.map tkV) .ro,(.im (.int .i64 ((a:Nat)))),(.im (.int .i64 (o))),(.im (.int .i64 (e)))]] (.im (.bool (decide (e=0)&&decide ((pk ts a).kind=k)))) [.box [.sl (ts.map tkV) .ro,(.im (.int .i64 ((a:Nat)))),(.im (.int .i64 (o))),(.im (.int .i64 (e)))]]:=by
 by_cases he:e=0
 case neg =>
  rw[decide_eq_false he,Bool.false_and];refine DC.enter 37 Tryz.func176 rfl (by decide) rfl rfl (s:=[(0,.pt 0 0),(1,(.im (.int .i64 (k))))]) (by rfl) ?_
  refine wdG rD he ?_;refine aO (rs:=[.tmp 4]) rfl (by first|exact .inl rfl|exact .inr rfl) (finG rD) ?_ rfl (idG (AI aB aC))
  all_goals exact wkG (AI aB aC)
 subst he
 rw[show decide ((0:Int)=0)=true from rfl,Bool.true_and]
 by_cases hlt:a<ts.length
 case neg =>
  have hn: ¬(a:Int)<(ts.length:Int):=by omega
  rw[uZ (by omega),decide_eq_false (fun h=>hk h.symm)]
  refine DC.enter 37 Tryz.func176 rfl (by decide) rfl rfl (s:=[(0,.pt 0 0),(1,(.im (.int .i64 (k))))]) (by rfl) ?_
  refine wdG rD (AI hn @List.length_map.{0,0}) ?_;refine aO (rs:=[.tmp 4]) rfl (by first|exact .inl rfl|exact .inr rfl) (finG rD) ?_ rfl (idG (AI aB aC))
  all_goals exact wkG (AI aB aC)
 have hg:=zJ hlt
 have hn:(a:Int)<(ts.length:Int):=by omega
 have h0:(0:Int)≤(a:Int):=by omega
 generalize pk ts a=t at hg
 refine DC.enter 37 Tryz.func176 rfl (by decide) rfl rfl (s:=[(0,.pt 0 0),(1,(.im (.int .i64 (k))))]) (by rfl) ?_
 refine wdG rD (A4 TKT hn hg h0) ?_
 refine aO (rs:=[.tmp 4]) rfl (by first|exact .inl rfl|exact .inr rfl) (finG rD) ?_ rfl (idG (AI aB aC))
 all_goals exact wkG (AI aB aC)
def xD:=A3 @kE @jB @kC
theorem rV(ts:List Tk)(a:Nat)(o e:Int):DC Tryz.prog 125 [.pt 0 0] [.box [.sl (ts.map tkV) .ro,(.im (.int .i64 ((a:Nat)))),(.im (.int .i64 (o))),(.im (.int .i64 (e)))]] (.tu []) [.box [.sl (ts.map tkV) .ro,(.im (.int .i64 ((a:Nat)))),(.im (.int .i64 (o))),(.im (.int .i64 (if e=0 then 3 else e)))]]:=by
 by_cases he:e=0
 ·rw[if_pos he]
  refine DC.enter 10 Tryz.func125 rfl (by decide) rfl rfl (s:=[(0,.pt 0 0)]) (by rfl) ?_
  refine wG xD he ?_;refine aO (rs:=[]) rfl (by first|exact .inl rfl|exact .inr rfl) (finG xD) ?_ rfl (idG (AI aB aC))
  all_goals exact wkG (AI aB aC)
 ·rw[if_neg he]
  refine DC.enter 10 Tryz.func125 rfl (by decide) rfl rfl (s:=[(0,.pt 0 0)]) (by rfl) ?_
  refine wG xD he ?_;refine aO (rs:=[]) rfl (by first|exact .inl rfl|exact .inr rfl) (finG xD) ?_ rfl (idG (AI aB aC))
  all_goals exact wkG (AI aB aC)
def nF:=A3 @cQ @gX @cN
theorem fJ(ts:List Tk)(a:Nat)(o e:Int)(t:Bs)(hts:ts.length≤4194304):DC Tryz.prog 175 [.pt 0 0,.im (.string ⟨(t).toArray⟩)] [.box [.sl (ts.map tkV) .ro,(.im (.int .i64 ((a:Nat)))),(.im (.int .i64 (o))),(.im (.int .i64 (e)))]] (.im (.bool (isR ts a e t))) [.box [.sl (ts.map tkV) .ro,(.im (.int .i64 (((if isR ts a e t=true then a+1 else a:Nat):Int)))),(.im (.int .i64 (o))),(.im (.int .i64 (e)))]]:=by
 have hp:=oR ts a o e t
 cases hs:isR ts a e t with
 | true =>
  have hlt:=(vH hs).2.2;have hw:=bD (m:=a) (N:=4194304) (by omega) (by decide)
  rw[hs]at hp;rw[if_pos rfl];refine DC.enter 15 Tryz.func175 rfl (by decide) rfl rfl (s:=[(0,.pt 0 0),(1,.im (.string ⟨(t).toArray⟩))]) (by rfl) ?_
  refine wG nF TI ?_;refine aA [0] hp TI (AI aB aC) (AI aH aI) ?_;refine goG nF TKT ?_;refine wG nF hw ?_;refine aO (rs:=[.tmp 4]) rfl (by first|exact .inl rfl|exact .inr rfl) (finG nF) ?_ rfl (idG (AI aB aC))
  all_goals exact wkG (AI aB aC)
 | false =>
  rw[hs]at hp;rw[if_neg (by decide)]
  refine DC.enter 15 Tryz.func175 rfl (by decide) rfl rfl (s:=[(0,.pt 0 0),(1,.im (.string ⟨(t).toArray⟩))]) (by rfl) ?_
  refine wG nF TI ?_;refine aA [0] hp TI (AI aB aC) (AI aH aI) ?_;refine goG nF TKT ?_;refine wG nF TI ?_;refine aO (rs:=[.tmp 4]) rfl (by first|exact .inl rfl|exact .inr rfl) (finG nF) ?_ rfl (idG (AI aB aC))
  all_goals exact wkG (AI aB aC)
theorem wW(ts:List Tk)(a:Nat)(o e:Int)(t:Bs)(hts:ts.length≤4194304):DC Tryz.prog 126 [.pt 0 0,.im (.string ⟨(t).toArray⟩)] [.box [.sl (ts.map tkV) .ro,(.im (.int .i64 ((a:Nat)))),(.im (.int .i64 (o))),(.im (.int .i64 (e)))]] (.tu []) [.box [.sl (ts.map tkV) .ro,(.im (.int .i64 (((if isR ts a e t=true then a+1 else a:Nat):Int)))),(.im (.int .i64 (o))),(.im (.int .i64 (if isR ts a e t=false∧e=0 then 3 else e)))]]:=by
 have hp:=fJ ts a o e t hts
 have hf:=rV ts a o e
 cases hs:isR ts a e t with
 | true =>
  rw[hs,if_pos rfl]at hp;rw[if_pos rfl,if_neg (fun h=>by cases h.1)]
  refine DC.enter 10 Tryz.func126 rfl (by decide) rfl rfl (s:=[(0,.pt 0 0),(1,.im (.string ⟨(t).toArray⟩))]) (by rfl) ?_
  refine wG TI TI ?_;refine aA [0] hp TI (AI aB aC) (AI aH aI) ?_;refine goG TI TI ?_;refine wG TI TI ?_;refine aO (rs:=[]) rfl (by first|exact .inl rfl|exact .inr rfl) (finG TI) ?_ rfl (idG (AI aB aC))
  all_goals exact wkG (AI aB aC)
 | false =>
  rw[hs,if_neg (by decide)]at hp
  rw[if_neg (by decide)]
  have e1:(if false=false∧e=0 then(3:Int)else e)=if e=0 then 3 else e:=by by_cases h:e=0<;>simp[h]
  rw[e1];refine DC.enter 10 Tryz.func126 rfl (by decide) rfl rfl (s:=[(0,.pt 0 0),(1,.im (.string ⟨(t).toArray⟩))]) (by rfl) ?_
  refine wG TI TI ?_;refine aA [0] hp TI (AI aB aC) (AI aH aI) ?_;refine goG TI TI ?_;refine wG TI TI ?_;refine aA [0] hf TI (AI aB aC) (AI aH aI) ?_;refine goG TI TI ?_;refine wG TI TI ?_;refine aO (rs:=[]) rfl (by first|exact .inl rfl|exact .inr rfl) (finG TI) ?_ rfl (idG (AI aB aC))
  all_goals exact wkG (AI aB aC)
theorem iL(ts:List Tk)(hts:ts.length≤4194304)(s:Sr)(t:Bs)(hp:Pre (expM ts t) s): ∃s',Post (expM ts t) s () s'∧s'.o=s.o∧DC Tryz.prog 126 [.pt 0 0,.im (.string ⟨(t).toArray⟩)] [rbx ts s] (.tu []) [rbx ts s']:=by
 obtain⟨a,o,e⟩:=s
 have h:=wW ts a o e t hts
 by_cases he:e=0
 case neg =>
  rw[tJ he,if_neg (by decide),if_neg (fun h=>he h.2)]at h
  exact⟨⟨a,o,e⟩,Post.of_err he rfl rfl,rfl,h⟩
 subst he
 obtain⟨p,rfl,_⟩:=hp rfl
 rw[gI]at h
 cases hs:sees ts a t with
 | true =>
  rw[hs,if_pos rfl,if_neg (fun h=>by cases h.1)]at h
  exact⟨⟨a+1,p,0⟩,Post.of_ok (by unfold expM;rw[hs,if_neg (by decide)]),rfl,h⟩
 | false =>
  rw[hs,if_neg (by decide),if_pos ⟨rfl,rfl⟩]at h
  exact⟨⟨a,p,3⟩,Post.of_bad (by unfold expM;rw[hs,if_pos rfl]) (by decide),rfl,h⟩
def gG:=A6 @kE @cQ @sH @jB @kC @cN
theorem Uz(ts:List Tk)(a:Nat)(o e:Int)(t:Bs)(hts:ts.length≤4194304):DC Tryz.prog 128 [.pt 0 0,.im (.string ⟨(t).toArray⟩)] [.box [.sl (ts.map tkV) .ro,(.im (.int .i64 ((a:Nat)))),(.im (.int .i64 (o))),(.im (.int .i64 (e)))]] (.tu []) [.box [.sl (ts.map tkV) .ro,(.im (.int .i64 (((if isR ts a e t=true∧o<256 then a+1 else a:Nat):Int)))),(.im (.int .i64 (IntKind.i64.wrap (o+1)))),(.im (.int .i64 (if e=0 then(if isR ts a e t=false then 3 else if 256≤o then 20 else 0)else e)))]]:=by
 have hp:=oR ts a o e t
 have hq:=wW ts a o e t hts
 cases hs:isR ts a e t with
 | true =>
  obtain⟨rfl,_,_⟩:=vH hs;rw[hs]at hp
  by_cases ho:256≤o
  ·have hg:o≥256:=ho
   have hq:=wW ts a o 20 t hts;rw[tJ (by decide),if_neg (by decide),if_neg (fun h=>by cases h.2)]at hq
   rw[if_neg (show ¬(true=true∧o<256)from fun h=>by have:=h.2;omega),if_pos rfl,if_neg (show ¬(true=false) by decide),if_pos ho]
   refine DC.enter 27 Tryz.func128 rfl (by decide) rfl rfl (s:=[(0,.pt 0 0),(1,.im (.string ⟨(t).toArray⟩))]) (by rfl) ?_
   refine wG gG TI ?_;refine aA [0] hp TI (AI aB aC) (AI aH aI) ?_;refine goG gG hg ?_;refine wG gG hg ?_;refine aA [0] hq TI (AI aB aC) (AI aH aI) ?_;refine goG gG TI ?_;refine wG gG TI ?_;refine aO (rs:=[]) rfl (by first|exact .inl rfl|exact .inr rfl) (finG gG) ?_ rfl (idG (AI aB aC))
   all_goals exact wkG (AI aB aC)
  ·have hg: ¬o≥256:=ho
   rw[hs,if_pos rfl,if_neg (fun h=>by cases h.1)]at hq
   rw[if_pos (show true=true∧o<256 from⟨rfl,by omega⟩),if_pos rfl,if_neg (show ¬(true=false) by decide),if_neg ho]
   refine DC.enter 27 Tryz.func128 rfl (by decide) rfl rfl (s:=[(0,.pt 0 0),(1,.im (.string ⟨(t).toArray⟩))]) (by rfl) ?_
   refine wG gG TI ?_;refine aA [0] hp TI (AI aB aC) (AI aH aI) ?_;refine goG gG hg ?_;refine wG gG hg ?_;refine aA [0] hq TI (AI aB aC) (AI aH aI) ?_;refine goG gG TI ?_;refine wG gG TI ?_;refine aO (rs:=[]) rfl (by first|exact .inl rfl|exact .inr rfl) (finG gG) ?_ rfl (idG (AI aB aC))
   all_goals exact wkG (AI aB aC)
 | false =>
  rw[hs]at hp;rw[hs,if_neg (by decide)]at hq
  rw[if_neg (fun h=>by cases h.1),if_pos rfl]
  have e1:(if false=false∧e=0 then(3:Int)else e)=if e=0 then 3 else e:=by by_cases h:e=0<;>simp[h]
  rw[e1]at hq;refine DC.enter 27 Tryz.func128 rfl (by decide) rfl rfl (s:=[(0,.pt 0 0),(1,.im (.string ⟨(t).toArray⟩))]) (by rfl) ?_
  refine wG gG TI ?_;refine aA [0] hp TI (AI aB aC) (AI aH aI) ?_;refine goG gG TI ?_;refine wG gG TI ?_;refine aA [0] hq TI (AI aB aC) (AI aH aI) ?_;refine goG gG TI ?_;refine wG gG TI ?_;refine aO (rs:=[]) rfl (by first|exact .inl rfl|exact .inr rfl) (finG gG) ?_ rfl (idG (AI aB aC))
  all_goals exact wkG (AI aB aC)
theorem kY(ts:List Tk)(hts:ts.length≤4194304)(s:Sr)(t:Bs)(hp:Pre (begM ts t) s): ∃s',Post (begM ts t) s () s'∧(s'.e=0→s'.o=s.o+1∧1≤s'.o∧s'.o≤256)∧DC Tryz.prog 128 [.pt 0 0,.im (.string ⟨(t).toArray⟩)] [rbx ts s] (.tu []) [rbx ts s']:=by
 obtain⟨a,o,e⟩:=s
 have h:=Uz ts a o e t hts
 by_cases he:e=0
 case neg =>
  rw[tJ he,if_neg (fun h=>by cases h.1),if_neg he]at h
  exact⟨⟨a,IntKind.i64.wrap (o+1),e⟩,Post.of_err he rfl rfl,fun h=>absurd h he,h⟩
 subst he
 obtain⟨p,rfl,_⟩:=hp rfl
 rw[gI,if_pos rfl]at h
 cases hs:sees ts a t with
 | true =>
  rw[hs]at h
  by_cases ho:256≤p
  ·rw[if_neg (show ¬(true=true∧(p:Int)<256)from fun h=>by have:=h.2;omega),if_neg (show ¬(true=false) by decide),if_pos (by omega)]at h
   exact⟨⟨a,_,20⟩,Post.of_bad (by unfold begM;rw[hs,if_neg (by decide),if_pos ho]) (by decide),(fun h=>by cases h),h⟩
  ·rw[if_pos (show true=true∧(p:Int)<256 from⟨rfl,by omega⟩),if_neg (show ¬(true=false) by decide),if_neg (by omega),cM (by omega)]at h
   refine⟨⟨a+1,((p+1:Nat):Int),0⟩,Post.of_ok (by unfold begM;rw[hs,if_neg (by decide),if_neg ho]),fun _=>⟨?_,?_,?_⟩,h⟩
   ·show((p+1:Nat):Int)=(p:Int)+1;omega
   ·show(1:Int)≤((p+1:Nat):Int);omega
   ·show((p+1:Nat):Int)≤256;omega
 | false =>
  rw[hs,if_neg (fun h=>by cases h.1),if_pos rfl]at h
  exact⟨⟨a,_,3⟩,Post.of_bad (by unfold begM;rw[hs,if_pos rfl]) (by decide),(fun h=>by cases h),h⟩
def xC:=A3 @cQ @sH @cN
theorem EZ(ts:List Tk)(a:Nat)(o e:Int)(t:Bs)(hts:ts.length≤4194304):DC Tryz.prog 130 [.pt 0 0,.im (.string ⟨(t).toArray⟩)] [.box [.sl (ts.map tkV) .ro,(.im (.int .i64 ((a:Nat)))),(.im (.int .i64 (o))),(.im (.int .i64 (e)))]] (.tu []) [.box [.sl (ts.map tkV) .ro,(.im (.int .i64 (((if isR ts a e t=true then a+1 else a:Nat):Int)))),(.im (.int .i64 (IntKind.i64.wrap (o-1)))),(.im (.int .i64 (if isR ts a e t=false∧e=0 then 3 else e)))]]:=by
 have hp:=wW ts a o e t hts
 generalize (if isR ts a e t=true then a+1 else a)=a1 at hp ⊢
 generalize (if isR ts a e t=false∧e=0 then(3:Int)else e)=e1 at hp ⊢
 refine DC.enter 14 Tryz.func130 rfl (by decide) rfl rfl (s:=[(0,.pt 0 0),(1,.im (.string ⟨(t).toArray⟩))]) (by rfl) ?_
 refine wG xC TI ?_
 refine aA [0] hp TI (AI aB aC) (AI aH aI) ?_
 refine goG xC TI ?_
 refine wG xC TI ?_
 refine aO (rs:=[]) rfl (by first|exact .inl rfl|exact .inr rfl) (finG xC) ?_ rfl (idG (AI aB aC))
 all_goals exact wkG (AI aB aC)
theorem rW(ts:List Tk)(hts:ts.length≤4194304)(s:Sr)(t:Bs)(h1:s.e=0→1≤s.o∧s.o≤256)(hp:Pre (endM ts t) s): ∃s',Post (endM ts t) s () s'∧(s'.e=0→s'.o=s.o-1)∧DC Tryz.prog 130 [.pt 0 0,.im (.string ⟨(t).toArray⟩)] [rbx ts s] (.tu []) [rbx ts s']:=by
 obtain⟨a,o,e⟩:=s
 have h:=EZ ts a o e t hts
 by_cases he:e=0
 case neg =>
  rw[tJ he,if_neg (by decide),if_neg (fun h=>he h.2)]at h
  exact⟨⟨a,IntKind.i64.wrap (o-1),e⟩,Post.of_err he rfl rfl,fun h=>absurd h he,h⟩
 subst he
 obtain⟨p,rfl,_⟩:=hp rfl
 have h1:=h1 rfl
 simp only at h1
 rw[gI,oK (by omega) (by omega)]at h
 cases hs:sees ts a t with
 | true =>
  rw[hs,if_pos rfl,if_neg (fun h=>by cases h.1)]at h
  refine⟨⟨a+1,((p-1:Nat):Int),0⟩,Post.of_ok (by unfold endM;rw[hs,if_neg (by decide)]),fun _=> ?_,h⟩
  show((p-1:Nat):Int)=(p:Int)-1;omega
 | false =>
  rw[hs,if_neg (by decide),if_pos ⟨rfl,rfl⟩]at h
  exact⟨⟨a,_,3⟩,Post.of_bad (by unfold endM;rw[hs,if_pos rfl]) (by decide),(fun h=>by cases h),h⟩
theorem rtake{ts:List Tk}{a:Nat}(hlt:a<ts.length):ts[a]? =some (pk ts a)∧(0:Int)≤(a:Int)∧((a:Int)<(ts.length:Int)):=⟨zJ hlt,by omega,by omega⟩
theorem Eh(a:Nat)(h:a≤4194304):IntKind.i64.wrap (((a+1:Nat):Int)-1)=(a:Int):=by rw[cM (by omega)];omega
def gP:=A11 @nJ @cQ @eF @mD @kI @gX @vR @nH @kG @cN @dR
theorem rU(ts:List Tk)(hts:ts.length≤4194304)(s:Sr)(hp:Pre (nmM ts) s): ∃n s',Post (nmM ts) s n s'∧s'.o=s.o∧DC Tryz.prog 127 [.pt 0 0] [rbx ts s] (.im (.string n)) [rbx ts s']:=by
 obtain⟨a,o,e⟩:=s
 have hk:=jM ts a o e 1 (by decide)
 have hf:=rV ts a o e
 by_cases he:e=0
 case neg =>
  rw[decide_eq_false he,Bool.false_and]at hk;rw[if_neg he]at hf;refine⟨ByteArray.empty,⟨a,o,e⟩,Post.of_err he rfl rfl,rfl,?_⟩;unfold rbx;refine DC.enter 27 Tryz.func127 rfl (by decide) rfl rfl (s:=[(0,.pt 0 0)]) (by rfl) ?_
  refine wG gP TI ?_;refine aA [0] hk TI (AI aB aC) (AI aH aI) ?_;refine goG gP TI ?_;refine wG gP TI ?_;refine aA [0] hf TI (AI aB aC) (AI aH aI) ?_;refine goG gP TI ?_;refine wG gP TI ?_;refine aO (rs:=[.tmp 2]) rfl (by first|exact .inl rfl|exact .inr rfl) (finG gP) ?_ rfl (idG (AI aB aC))
  all_goals exact wkG (AI aB aC)
 subst he
 obtain⟨p,rfl,_⟩:=hp rfl
 rw[show decide ((0:Int)=0)=true from rfl,Bool.true_and]at hk
 rw[if_pos rfl]at hf
 by_cases h1:(pk ts a).kind=1
 ·have hlt:=dQ h1 (by decide)
  obtain⟨hg,h0,hn⟩:=rtake hlt;have hw:=bD (m:=a) (N:=4194304) (by omega) (by decide)
  have hb:=Eh a (by omega)
  rw[decide_eq_true h1]at hk;refine⟨strA (pk ts a).text,⟨a+1,p,0⟩,Post.of_ok (by unfold nmM takM;rw[if_neg (by simpa using h1)];rfl),rfl,?_⟩
  unfold rbx;generalize pk ts a=t at hg;refine DC.enter 27 Tryz.func127 rfl (by decide) rfl rfl (s:=[(0,.pt 0 0)]) (by rfl) ?_
  refine wG gP TI ?_;refine aA [0] hk TI (AI aB aC) (AI aH aI) ?_;refine goG gP TI ?_;refine wG gP hw ?_;refine wdG gP (A6 TKT hb hg h0 hn hw) ?_;refine aO (rs:=[.tmp 2]) rfl (by first|exact .inl rfl|exact .inr rfl) (finG gP) ?_ rfl (idG (AI aB aC))
  all_goals exact wkG (AI aB aC)
 ·rw[decide_eq_false h1]at hk
  refine⟨ByteArray.empty,⟨a,p,3⟩,Post.of_bad (by unfold nmM takM;rw[if_pos h1];rfl) (by decide),rfl,?_⟩
  unfold rbx;refine DC.enter 27 Tryz.func127 rfl (by decide) rfl rfl (s:=[(0,.pt 0 0)]) (by rfl) ?_
  refine wG gP TI ?_;refine aA [0] hk TI (AI aB aC) (AI aH aI) ?_;refine goG gP TI ?_;refine wG gP TI ?_;refine aA [0] hf TI (AI aB aC) (AI aH aI) ?_;refine goG gP TI ?_;refine wG gP TI ?_;refine aO (rs:=[.tmp 2]) rfl (by first|exact .inl rfl|exact .inr rfl) (finG gP) ?_ rfl (idG (AI aB aC))
  all_goals exact wkG (AI aB aC)
def gN:=A11 @nJ @cQ @oE @mD @kI @gX @Dk @nH @kG @cN @nZ
theorem yP(ts:List Tk)(hts:ts.length≤4194304)(hok: ∀t∈ts,TkOk t)(s:Sr)(hp:Pre (takM ts 3) s): ∃n s',Post (takM ts 3) s n s'∧s'.o=s.o∧(0≤n.n∧n.n<4294967296)∧DC Tryz.prog 174 [.pt 0 0] [rbx ts s] (.im (.int .u32 n.n)) [rbx ts s']:=by
 obtain⟨a,o,e⟩:=s
 have hk:=jM ts a o e 3 (by decide)
 have hf:=rV ts a o e
 by_cases he:e=0
 case neg =>
  rw[decide_eq_false he,Bool.false_and]at hk;rw[if_neg he]at hf;refine⟨tk0,⟨a,o,e⟩,Post.of_err he rfl rfl,rfl,by decide,?_⟩
  unfold rbx;refine DC.enter 27 Tryz.func174 rfl (by decide) rfl rfl (s:=[(0,.pt 0 0)]) (by rfl) ?_
  refine wG gN TI ?_;refine aA [0] hk TI (AI aB aC) (AI aH aI) ?_;refine goG gN TI ?_;refine wG gN TI ?_;refine aA [0] hf TI (AI aB aC) (AI aH aI) ?_;refine goG gN TI ?_;refine wG gN TI ?_;refine aO (rs:=[.tmp 2]) rfl (by first|exact .inl rfl|exact .inr rfl) (finG gN) ?_ rfl (idG (AI aB aC))
  all_goals exact wkG (AI aB aC)
 subst he
 obtain⟨p,rfl,_⟩:=hp rfl
 rw[show decide ((0:Int)=0)=true from rfl,Bool.true_and]at hk
 rw[if_pos rfl]at hf
 by_cases h1:(pk ts a).kind=3
 ·have hlt:=dQ h1 (by decide)
  obtain⟨hg,h0,hn⟩:=rtake hlt;have hw:=bD (m:=a) (N:=4194304) (by omega) (by decide)
  have hb:=Eh a (by omega)
  rw[decide_eq_true h1]at hk;refine⟨pk ts a,⟨a+1,p,0⟩,Post.of_ok (by unfold takM;rw[if_neg (by simpa using h1)]),rfl,wJ hok a,?_⟩
  unfold rbx;generalize pk ts a=t at hg;refine DC.enter 27 Tryz.func174 rfl (by decide) rfl rfl (s:=[(0,.pt 0 0)]) (by rfl) ?_
  refine wG gN TI ?_;refine aA [0] hk TI (AI aB aC) (AI aH aI) ?_;refine goG gN TI ?_;refine wG gN hw ?_;refine wdG gN (A6 TKT hb hg h0 hn hw) ?_;refine aO (rs:=[.tmp 2]) rfl (by first|exact .inl rfl|exact .inr rfl) (finG gN) ?_ rfl (idG (AI aB aC))
  all_goals exact wkG (AI aB aC)
 ·rw[decide_eq_false h1]at hk
  refine⟨tk0,⟨a,p,3⟩,Post.of_bad (by unfold takM;rw[if_pos h1]) (by decide),rfl,by decide,?_⟩
  unfold rbx;refine DC.enter 27 Tryz.func174 rfl (by decide) rfl rfl (s:=[(0,.pt 0 0)]) (by rfl) ?_
  refine wG gN TI ?_;refine aA [0] hk TI (AI aB aC) (AI aH aI) ?_;refine goG gN TI ?_;refine wG gN TI ?_;refine aA [0] hf TI (AI aB aC) (AI aH aI) ?_;refine goG gN TI ?_;refine wG gN TI ?_;refine aO (rs:=[.tmp 2]) rfl (by first|exact .inl rfl|exact .inr rfl) (finG gN) ?_ rfl (idG (AI aB aC))
  all_goals exact wkG (AI aB aC)
theorem bneq{x y:Bs}(h: ¬x=y):(x==y)=false:=beq_eq_false_iff_ne.2 h
theorem beqq{x y:Bs}(h:x=y):(x==y)=true:=beq_iff_eq.2 h
def dA:=A6 @cQ @eF @lO @mS @cN @dR
def lM:=AI aB aC
set_option maxHeartbeats 2000000 in
theorem Mf(t:Tk):PC Tryz.prog 121 [tkV t] (.tu [(.im (.int .i64 ((stR t).1))),(.im (.int .i64 (((stR t).2:Nat))))]):=by
 by_cases hk:t.kind=5
 case neg =>
  rw[show stR t=(0,0)from if_neg hk]
  refine PC.enter 35 Tryz.func121 rfl (by decide) rfl rfl (s:=[(0,tkV t)]) (by rfl) ?_
  refine wG dA (AI TKT hk) ?_;refine aJ (rs:=[.tmp 2,.tmp 3]) rfl (by first|exact .inl rfl|exact .inr rfl) (finG dA) ?_
  all_goals exact wkG lM
 have e:stR t=opR t.text:=if_pos hk
 rw[e]
 clear e
 unfold opR
 by_cases h0:t.text=[124]
 ·rw[if_pos h0]
  have e:=beqq h0;refine PC.enter 35 Tryz.func121 rfl (by decide) rfl rfl (s:=[(0,tkV t)]) (by rfl) ?_
  refine wG dA (A4 BY TKT hk e) ?_;refine aJ (rs:=[.tmp 2,.tmp 3]) rfl (by first|exact .inl rfl|exact .inr rfl) (finG dA) ?_
  all_goals exact wkG lM
 rw[if_neg h0]
 have f0:=bneq h0
 by_cases h1:t.text=[94]
 ·rw[if_pos h1]
  have e:=beqq h1;refine PC.enter 35 Tryz.func121 rfl (by decide) rfl rfl (s:=[(0,tkV t)]) (by rfl) ?_
  refine wG dA (A5 BY TKT hk e f0) ?_;refine aJ (rs:=[.tmp 2,.tmp 3]) rfl (by first|exact .inl rfl|exact .inr rfl) (finG dA) ?_
  all_goals exact wkG lM
 rw[if_neg h1]
 have f1:=bneq h1
 by_cases h2:t.text=[38]
 ·rw[if_pos h2]
  have e:=beqq h2;refine PC.enter 35 Tryz.func121 rfl (by decide) rfl rfl (s:=[(0,tkV t)]) (by rfl) ?_
  refine wG dA (A6 BY TKT hk e f0 f1) ?_;refine aJ (rs:=[.tmp 2,.tmp 3]) rfl (by first|exact .inl rfl|exact .inr rfl) (finG dA) ?_
  all_goals exact wkG lM
 rw[if_neg h2]
 have f2:=bneq h2
 by_cases h3:t.text=[61,61]
 ·rw[if_pos h3]
  have e:=beqq h3;refine PC.enter 35 Tryz.func121 rfl (by decide) rfl rfl (s:=[(0,tkV t)]) (by rfl) ?_
  refine wG dA (A7 BY TKT hk e f0 f1 f2) ?_;refine aJ (rs:=[.tmp 2,.tmp 3]) rfl (by first|exact .inl rfl|exact .inr rfl) (finG dA) ?_
  all_goals exact wkG lM
 rw[if_neg h3]
 have f3:=bneq h3
 by_cases h4:t.text=[33,61]
 ·rw[if_pos h4]
  have e:=beqq h4;refine PC.enter 35 Tryz.func121 rfl (by decide) rfl rfl (s:=[(0,tkV t)]) (by rfl) ?_
  refine wG dA (A8 BY TKT hk e f0 f1 f2 f3) ?_;refine aJ (rs:=[.tmp 2,.tmp 3]) rfl (by first|exact .inl rfl|exact .inr rfl) (finG dA) ?_
  all_goals exact wkG lM
 rw[if_neg h4]
 have f4:=bneq h4
 by_cases h5:t.text=[60]
 ·rw[if_pos h5]
  have e:=beqq h5;refine PC.enter 35 Tryz.func121 rfl (by decide) rfl rfl (s:=[(0,tkV t)]) (by rfl) ?_
  refine wG dA (A9 BY TKT hk e f0 f1 f2 f3 f4) ?_;refine aJ (rs:=[.tmp 2,.tmp 3]) rfl (by first|exact .inl rfl|exact .inr rfl) (finG dA) ?_
  all_goals exact wkG lM
 rw[if_neg h5]
 have f5:=bneq h5
 by_cases h6:t.text=[60,115]
 ·rw[if_pos h6]
  have e:=beqq h6;refine PC.enter 35 Tryz.func121 rfl (by decide) rfl rfl (s:=[(0,tkV t)]) (by rfl) ?_
  refine wG dA (A10 BY TKT hk e f0 f1 f2 f3 f4 f5) ?_;refine aJ (rs:=[.tmp 2,.tmp 3]) rfl (by first|exact .inl rfl|exact .inr rfl) (finG dA) ?_
  all_goals exact wkG lM
 rw[if_neg h6]
 have f6:=bneq h6
 by_cases h7:t.text=[60,60]
 ·rw[if_pos h7]
  have e:=beqq h7;refine PC.enter 35 Tryz.func121 rfl (by decide) rfl rfl (s:=[(0,tkV t)]) (by rfl) ?_
  refine wG dA (A11 BY TKT hk e f0 f1 f2 f3 f4 f5 f6) ?_;refine aJ (rs:=[.tmp 2,.tmp 3]) rfl (by first|exact .inl rfl|exact .inr rfl) (finG dA) ?_
  all_goals exact wkG lM
 rw[if_neg h7]
 have f7:=bneq h7
 by_cases h8:t.text=[62,62]
 ·rw[if_pos h8]
  have e:=beqq h8;refine PC.enter 35 Tryz.func121 rfl (by decide) rfl rfl (s:=[(0,tkV t)]) (by rfl) ?_
  refine wG dA (A12 BY TKT hk e f0 f1 f2 f3 f4 f5 f6 f7) ?_;refine aJ (rs:=[.tmp 2,.tmp 3]) rfl (by first|exact .inl rfl|exact .inr rfl) (finG dA) ?_
  all_goals exact wkG lM
 rw[if_neg h8]
 have f8:=bneq h8
 by_cases h9:t.text=[62,62,115]
 ·rw[if_pos h9]
  have e:=beqq h9;refine PC.enter 35 Tryz.func121 rfl (by decide) rfl rfl (s:=[(0,tkV t)]) (by rfl) ?_
  refine wG dA (A13 BY TKT hk e f0 f1 f2 f3 f4 f5 f6 f7 f8) ?_;refine aJ (rs:=[.tmp 2,.tmp 3]) rfl (by first|exact .inl rfl|exact .inr rfl) (finG dA) ?_
  all_goals exact wkG lM
 rw[if_neg h9]
 have f9:=bneq h9
 by_cases h10:t.text=[43]
 ·rw[if_pos h10]
  have e:=beqq h10;refine PC.enter 35 Tryz.func121 rfl (by decide) rfl rfl (s:=[(0,tkV t)]) (by rfl) ?_
  refine wG dA (A14 BY TKT hk e f0 f1 f2 f3 f4 f5 f6 f7 f8 f9) ?_;refine aJ (rs:=[.tmp 2,.tmp 3]) rfl (by first|exact .inl rfl|exact .inr rfl) (finG dA) ?_
  all_goals exact wkG lM
 rw[if_neg h10]
 have f10:=bneq h10
 by_cases h11:t.text=[45]
 ·rw[if_pos h11]
  have e:=beqq h11;refine PC.enter 35 Tryz.func121 rfl (by decide) rfl rfl (s:=[(0,tkV t)]) (by rfl) ?_
  refine wG dA (A15 BY TKT hk e f0 f1 f2 f3 f4 f5 f6 f7 f8 f9 f10) ?_;refine aJ (rs:=[.tmp 2,.tmp 3]) rfl (by first|exact .inl rfl|exact .inr rfl) (finG dA) ?_
  all_goals exact wkG lM
 rw[if_neg h11]
 have f11:=bneq h11
 by_cases h12:t.text=[42]
 ·rw[if_pos h12]
  have e:=beqq h12;refine PC.enter 35 Tryz.func121 rfl (by decide) rfl rfl (s:=[(0,tkV t)]) (by rfl) ?_
  refine wG dA (A16 BY TKT hk e f0 f1 f2 f3 f4 f5 f6 f7 f8 f9 f10 f11) ?_;refine aJ (rs:=[.tmp 2,.tmp 3]) rfl (by first|exact .inl rfl|exact .inr rfl) (finG dA) ?_
  all_goals exact wkG lM
 rw[if_neg h12]
 have f12:=bneq h12
 refine PC.enter 35 Tryz.func121 rfl (by decide) rfl rfl (s:=[(0,tkV t)]) (by rfl) ?_
 refine wG dA (A16 BY TKT hk f0 f1 f2 f3 f4 f5 f6 f7 f8 f9 f10 f11 f12) ?_
 refine aJ (rs:=[.tmp 2,.tmp 3]) rfl (by first|exact .inl rfl|exact .inr rfl) (finG dA) ?_
 all_goals exact wkG lM
def intV:Option (Int×Int)→V
 | some (k,s)=> .tu [tyV (.mk 0 k s 0 [] []),(.im (.bool (true)))]
 | none=> .tu [tyV (.mk 0 0 0 0 [] []),(.im (.bool (false)))]
def gZ:=A4 @jG @oC @sF @jF
def tT:=A6 aB aC @bT @bV @bU @bW
set_option maxHeartbeats 2000000 in
theorem Uo(s:Bs):PC Tryz.prog 200 [.im (.string ⟨(s).toArray⟩)] (intV (intR s)):=by
 unfold intR
 by_cases h0:s=[97,110,121]
 ·rw[if_pos h0]
  have e:=beqq h0;unfold intV;refine PC.enter 27 Tryz.func200 rfl (by decide) rfl rfl (s:=[(0,.im (.string ⟨(s).toArray⟩))]) (by rfl) ?_
  refine wG gZ (AI BY e) ?_;refine aJ (rs:=[.cell 2 94,.tmp 3]) rfl (by first|exact .inl rfl|exact .inr rfl) (finG gZ) ?_
  all_goals exact wkG tT
 rw[if_neg h0]
 have f0:=bneq h0
 by_cases h1:s=[105,110,116,56]
 ·rw[if_pos h1]
  have e:=beqq h1;unfold intV;refine PC.enter 27 Tryz.func200 rfl (by decide) rfl rfl (s:=[(0,.im (.string ⟨(s).toArray⟩))]) (by rfl) ?_
  refine wG gZ (A3 BY e f0) ?_;refine aJ (rs:=[.cell 2 94,.tmp 3]) rfl (by first|exact .inl rfl|exact .inr rfl) (finG gZ) ?_
  all_goals exact wkG tT
 rw[if_neg h1]
 have f1:=bneq h1
 by_cases h2:s=[105,110,116,49,54]
 ·rw[if_pos h2]
  have e:=beqq h2;unfold intV;refine PC.enter 27 Tryz.func200 rfl (by decide) rfl rfl (s:=[(0,.im (.string ⟨(s).toArray⟩))]) (by rfl) ?_
  refine wG gZ (A4 BY e f0 f1) ?_;refine aJ (rs:=[.cell 2 94,.tmp 3]) rfl (by first|exact .inl rfl|exact .inr rfl) (finG gZ) ?_
  all_goals exact wkG tT
 rw[if_neg h2]
 have f2:=bneq h2
 by_cases h3:s=[105,110,116,51,50]
 ·rw[if_pos h3]
  have e:=beqq h3;unfold intV;refine PC.enter 27 Tryz.func200 rfl (by decide) rfl rfl (s:=[(0,.im (.string ⟨(s).toArray⟩))]) (by rfl) ?_
  refine wG gZ (A5 BY e f0 f1 f2) ?_;refine aJ (rs:=[.cell 2 94,.tmp 3]) rfl (by first|exact .inl rfl|exact .inr rfl) (finG gZ) ?_
  all_goals exact wkG tT
 rw[if_neg h3]
 have f3:=bneq h3
 by_cases h4:s=[117,105,110,116,56]
 ·rw[if_pos h4]
  have e:=beqq h4;unfold intV;refine PC.enter 27 Tryz.func200 rfl (by decide) rfl rfl (s:=[(0,.im (.string ⟨(s).toArray⟩))]) (by rfl) ?_
  refine wG gZ (A6 BY e f0 f1 f2 f3) ?_;refine aJ (rs:=[.cell 2 94,.tmp 3]) rfl (by first|exact .inl rfl|exact .inr rfl) (finG gZ) ?_
  all_goals exact wkG tT
 rw[if_neg h4]
 have f4:=bneq h4
 by_cases h5:s=[117,105,110,116,49,54]
 ·rw[if_pos h5]
  have e:=beqq h5;unfold intV;refine PC.enter 27 Tryz.func200 rfl (by decide) rfl rfl (s:=[(0,.im (.string ⟨(s).toArray⟩))]) (by rfl) ?_
  refine wG gZ (A7 BY e f0 f1 f2 f3 f4) ?_;refine aJ (rs:=[.cell 2 94,.tmp 3]) rfl (by first|exact .inl rfl|exact .inr rfl) (finG gZ) ?_
  all_goals exact wkG tT
 rw[if_neg h5]
 have f5:=bneq h5
 by_cases h6:s=[117,105,110,116,51,50]
 ·rw[if_pos h6]
  have e:=beqq h6;unfold intV;refine PC.enter 27 Tryz.func200 rfl (by decide) rfl rfl (s:=[(0,.im (.string ⟨(s).toArray⟩))]) (by rfl) ?_
  refine wG gZ (A8 BY e f0 f1 f2 f3 f4 f5) ?_;refine aJ (rs:=[.cell 2 94,.tmp 3]) rfl (by first|exact .inl rfl|exact .inr rfl) (finG gZ) ?_
  all_goals exact wkG tT
 rw[if_neg h6]
 have f6:=bneq h6
 unfold intV
 refine PC.enter 27 Tryz.func200 rfl (by decide) rfl rfl (s:=[(0,.im (.string ⟨(s).toArray⟩))]) (by rfl) ?_
 refine wG gZ (A8 BY f0 f1 f2 f3 f4 f5 f6) ?_
 refine aJ (rs:=[.cell 2 94,.tmp 3]) rfl (by first|exact .inl rfl|exact .inr rfl) (finG gZ) ?_
 all_goals exact wkG tT
theorem i1:((1:Nat):Int)=1:=rfl
def OpC(ts:List Tk)(f:Nat):Prop:= ∀a o:Nat,o≤256→ ∀r,exM ts f .op a o=some r→XC Tryz.prog 120 [.pt 0 0] ts a o exV r
def ExC(ts:List Tk)(f:Nat):Prop:= ∀l a o:Nat,l≤10→o≤256→ ∀r,exM ts f (.ex l) a o=some r→XC Tryz.prog 59 [.pt 0 0,(.im (.int .i64 ((l:Nat))))] ts a o exV r
def nD:=A8 @cQ @eO @fG @fM @fU @oB @cN @dG
def tU:=A4 aB aC @aE @aD
def yW:=A4 aH aI @aK @aL
theorem AS{ts:List Tk}{f:Nat}(hE:ExC ts f)(hts:ts.length≤4194304)(k w:Int)(a o:Nat)(ha:a<ts.length)(ho:o≤256)(r:Rs Ex)(h:inn ts (exM ts f (.ex 1)) (mkU k w) (a+1) o=some r):XC Tryz.prog 183 [.pt 0 0,(.im (.int .i64 (k))),(.im (.int .i64 (w)))] ts a o exV r:=by
 have hw:=bD (m:=a) (N:=4194304) (by omega) (by decide)
 unfold inn at h
 refine XC.enter 26 Tryz.func183 rfl (by decide) rfl rfl (s:=[(0,.pt 0 0),(1,(.im (.int .i64 (k)))),(2,(.im (.int .i64 (w))))]) (by rfl) ?_
 refine wG nD hw ?_
 rcases bM h with ⟨b1,e1,h1,rfl⟩|⟨_,a1,o1,h1,h⟩
 ·exact PA.callP [0] ((gD ts (a+1) o [40] hts _ h1).fails) TI tU yW (fun _=>PFin.i rfl rfl)
 refine aA [0] (((gD ts (a+1) o [40] hts _ h1).good)) TI tU yW ?_
 refine goG nD TI ?_
 obtain⟨_,ho1,rfl,rfl⟩:=cK h1
 refine wG nD TI ?_
 rcases bM h with ⟨b1,e1,h1,rfl⟩|⟨x,a2,o2,h1,h⟩
 ·exact PA.callP [0] ((hE 1 (a+1+1) (o+1) (by decide) (by omega) _ h1).fails) i1 tU yW (fun _=>PFin.i rfl rfl)
 refine aA [0] (((hE 1 (a+1+1) (o+1) (by decide) (by omega) _ h1).good)) i1 tU yW ?_
 refine goG nD BN01 ?_
 obtain⟨rfl,_⟩:=dH ts _ _ _ _ _ _ _ h1
 refine wG nD BN01 ?_
 rcases bM h with ⟨b1,e1,h1,rfl⟩|⟨_,a3,o3,h1,h⟩
 ·exact PA.callP [0] ((pU ts a2 (o+1) [41] hts (by omega) (by omega) _ h1).fails) TI tU yW (fun _=>PFin.i rfl rfl)
 refine aA [0] (((pU ts a2 (o+1) [41] hts (by omega) (by omega) _ h1).good)) TI tU yW ?_
 refine goG nD TI ?_
 cases h
 refine wG nD BN01 ?_
 refine aO (rs:=[.cell 6 46]) rfl (by first|exact .inl rfl|exact .inr rfl) (finG nD) ?_ rfl (idG tU)
 rw[mkU,jH,List.map_cons,List.map_nil,cA x]
 all_goals exact wkG tU
def bB:=A16 @cQ @oE @eO @eF @lD @fG @fM @lO @mS @pF @fU @sG @oB @iI @cN (A3 @nZ @dG @dR)
def cG:=A4 aB aC @aE @aD
def dB:=A4 aH aI @aK @aL
set_option maxHeartbeats 4000000 in
theorem Pi{ts:List Tk}{f:Nat}(hts:ts.length≤4194304)(hO:OpC ts f)(hE:ExC ts f):OpC ts (f+1):=by
 intro a o ho r h
 have hp:=vJ ts a o
 have hf:=nN ts a o 3
 rw[exM]at h
 have hla:=fun k hk hn=>dQ (ts:=ts) (a:=a) (k:=k) hk hn
 have hss: ∀s,(pk ts a).kind=5→(pk ts a).text=s→sees ts a s=true:=fun s h1 h2=>by unfold sees;rw[h1,h2];simp
 have hac:=fun k w ha h=>AS hE hts k w a o ha ho r h
 generalize pk ts a=t at hp h hla hss
 by_cases k3:t.kind=3
 ·rw[if_pos k3]at h
  cases h
  have hlt:=hla 3 k3 (by decide)
  have hw:=bD (m:=a) (N:=4194304) (by omega) (by decide)
  refine XC.enter 98 Tryz.func120 rfl (by decide) rfl rfl (s:=[(0,.pt 0 0)]) (by rfl) ?_
  refine wG bB TI ?_;refine aA [0] hp TI cG dB ?_;refine goG bB TKT ?_;refine wG bB (A3 TKT k3 hw) ?_;refine aO (rs:=[.cell 2 46]) rfl (by first|exact .inl rfl|exact .inr rfl) (finG bB) ?_ rfl (idG cG)
  rw[jH,List.map_nil]
  all_goals exact wkG cG
 rw[if_neg k3]at h
 by_cases k1:t.kind=1
 ·rw[if_pos k1]at h
  cases h
  have hlt:=hla 1 k1 (by decide)
  have hw:=bD (m:=a) (N:=4194304) (by omega) (by decide)
  refine XC.enter 98 Tryz.func120 rfl (by decide) rfl rfl (s:=[(0,.pt 0 0)]) (by rfl) ?_
  refine wG bB TI ?_;refine aA [0] hp TI cG dB ?_;refine goG bB TKT ?_;refine wG bB (A3 TKT k1 hw) ?_;refine aO (rs:=[.cell 2 46]) rfl (by first|exact .inl rfl|exact .inr rfl) (finG bB) ?_ rfl (idG cG)
  rw[jH,List.map_nil]
  all_goals exact wkG cG
 rw[if_neg k1]at h
 by_cases k2:t.kind=2
 ·rw[if_pos k2]at h
  have hlt:=hla 2 k2 (by decide)
  unfold accW at h
  by_cases h0:t.text=[108,111,97,100,49]
  ·rw[if_pos h0]at h
   have hc:=hac 18 1 hlt h;have e:=beqq h0;cases r with
   | bad b e1 =>
    refine XC.enter 98 Tryz.func120 rfl (by decide) rfl rfl (s:=[(0,.pt 0 0)]) (by rfl) ?_
    refine wG bB TI ?_;refine aA [0] hp TI cG dB ?_;refine goG bB TKT ?_;refine wG bB (A4 BY TKT k2 e) ?_;exact PA.callP [0] hc.fails TI cG dB (fun _=>PFin.i rfl rfl)
   | ok x b p =>
    refine XC.enter 98 Tryz.func120 rfl (by decide) rfl rfl (s:=[(0,.pt 0 0)]) (by rfl) ?_
    refine wG bB TI ?_;refine aA [0] hp TI cG dB ?_;refine goG bB TKT ?_;refine wG bB (A4 BY TKT k2 e) ?_;refine aA [0] hc.good TI cG dB ?_;refine goG bB BN01 ?_;refine wG bB BN01 ?_;refine aO (rs:=[.cell 2 46]) rfl (by first|exact .inl rfl|exact .inr rfl) (finG bB) ?_ rfl (idG cG)
    rw[cA x]
    all_goals exact wkG cG
  rw[if_neg h0]at h;have f0:=bneq h0
  by_cases h1:t.text=[108,111,97,100,50]
  ·rw[if_pos h1]at h
   have hc:=hac 18 2 hlt h;have e:=beqq h1;cases r with
   | bad b e1 =>
    refine XC.enter 98 Tryz.func120 rfl (by decide) rfl rfl (s:=[(0,.pt 0 0)]) (by rfl) ?_
    refine wG bB TI ?_;refine aA [0] hp TI cG dB ?_;refine goG bB TKT ?_;refine wG bB (A5 BY TKT k2 e f0) ?_;exact PA.callP [0] hc.fails TI cG dB (fun _=>PFin.i rfl rfl)
   | ok x b p =>
    refine XC.enter 98 Tryz.func120 rfl (by decide) rfl rfl (s:=[(0,.pt 0 0)]) (by rfl) ?_
    refine wG bB TI ?_;refine aA [0] hp TI cG dB ?_;refine goG bB TKT ?_;refine wG bB (A5 BY TKT k2 e f0) ?_;refine aA [0] hc.good TI cG dB ?_;refine goG bB BN01 ?_;refine wG bB BN01 ?_;refine aO (rs:=[.cell 2 46]) rfl (by first|exact .inl rfl|exact .inr rfl) (finG bB) ?_ rfl (idG cG)
    rw[cA x]
    all_goals exact wkG cG
  rw[if_neg h1]at h;have f1:=bneq h1
  by_cases h2:t.text=[108,111,97,100,52]
  ·rw[if_pos h2]at h
   have hc:=hac 18 4 hlt h;have e:=beqq h2;cases r with
   | bad b e1 =>
    refine XC.enter 98 Tryz.func120 rfl (by decide) rfl rfl (s:=[(0,.pt 0 0)]) (by rfl) ?_
    refine wG bB TI ?_;refine aA [0] hp TI cG dB ?_;refine goG bB TKT ?_;refine wG bB (A6 BY TKT k2 e f0 f1) ?_;exact PA.callP [0] hc.fails TI cG dB (fun _=>PFin.i rfl rfl)
   | ok x b p =>
    refine XC.enter 98 Tryz.func120 rfl (by decide) rfl rfl (s:=[(0,.pt 0 0)]) (by rfl) ?_
    refine wG bB TI ?_;refine aA [0] hp TI cG dB ?_;refine goG bB TKT ?_;refine wG bB (A6 BY TKT k2 e f0 f1) ?_;refine aA [0] hc.good TI cG dB ?_;refine goG bB BN01 ?_;refine wG bB BN01 ?_;refine aO (rs:=[.cell 2 46]) rfl (by first|exact .inl rfl|exact .inr rfl) (finG bB) ?_ rfl (idG cG)
    rw[cA x]
    all_goals exact wkG cG
  rw[if_neg h2]at h;have f2:=bneq h2
  by_cases h3:t.text=[115,101,120,116,49]
  ·rw[if_pos h3]at h
   have hc:=hac 19 1 hlt h;have e:=beqq h3;cases r with
   | bad b e1 =>
    refine XC.enter 98 Tryz.func120 rfl (by decide) rfl rfl (s:=[(0,.pt 0 0)]) (by rfl) ?_
    refine wG bB TI ?_;refine aA [0] hp TI cG dB ?_;refine goG bB TKT ?_;refine wG bB (A7 BY TKT k2 e f0 f1 f2) ?_;exact PA.callP [0] hc.fails TI cG dB (fun _=>PFin.i rfl rfl)
   | ok x b p =>
    refine XC.enter 98 Tryz.func120 rfl (by decide) rfl rfl (s:=[(0,.pt 0 0)]) (by rfl) ?_
    refine wG bB TI ?_;refine aA [0] hp TI cG dB ?_;refine goG bB TKT ?_;refine wG bB (A7 BY TKT k2 e f0 f1 f2) ?_;refine aA [0] hc.good TI cG dB ?_;refine goG bB BN01 ?_;refine wG bB BN01 ?_;refine aO (rs:=[.cell 2 46]) rfl (by first|exact .inl rfl|exact .inr rfl) (finG bB) ?_ rfl (idG cG)
    rw[cA x]
    all_goals exact wkG cG
  rw[if_neg h3]at h;have f3:=bneq h3
  by_cases h4:t.text=[115,101,120,116,50]
  ·rw[if_pos h4]at h
   have hc:=hac 19 2 hlt h;have e:=beqq h4;cases r with
   | bad b e1 =>
    refine XC.enter 98 Tryz.func120 rfl (by decide) rfl rfl (s:=[(0,.pt 0 0)]) (by rfl) ?_
    refine wG bB TI ?_;refine aA [0] hp TI cG dB ?_;refine goG bB TKT ?_;refine wG bB (A8 BY TKT k2 e f0 f1 f2 f3) ?_;exact PA.callP [0] hc.fails TI cG dB (fun _=>PFin.i rfl rfl)
   | ok x b p =>
    refine XC.enter 98 Tryz.func120 rfl (by decide) rfl rfl (s:=[(0,.pt 0 0)]) (by rfl) ?_
    refine wG bB TI ?_;refine aA [0] hp TI cG dB ?_;refine goG bB TKT ?_;refine wG bB (A8 BY TKT k2 e f0 f1 f2 f3) ?_;refine aA [0] hc.good TI cG dB ?_;refine goG bB BN01 ?_;refine wG bB BN01 ?_;refine aO (rs:=[.cell 2 46]) rfl (by first|exact .inl rfl|exact .inr rfl) (finG bB) ?_ rfl (idG cG)
    rw[cA x]
    all_goals exact wkG cG
  rw[if_neg h4]at h;have f4:=bneq h4;cases h
  refine XC.enter 98 Tryz.func120 rfl (by decide) rfl rfl (s:=[(0,.pt 0 0)]) (by rfl) ?_
  refine wG bB TI ?_;refine aA [0] hp TI cG dB ?_;refine goG bB TKT ?_;refine wG bB (A8 BY TKT k2 f0 f1 f2 f3 f4) ?_;exact PA.callP [0] hf TI cG dB (fun _=>PFin.i rfl rfl)
 rw[if_neg k2]at h
 by_cases k5:t.kind=5
 case neg =>
  rw[if_neg k5]at h;cases h
  refine XC.enter 98 Tryz.func120 rfl (by decide) rfl rfl (s:=[(0,.pt 0 0)]) (by rfl) ?_
  refine wG bB TI ?_;refine aA [0] hp TI cG dB ?_;refine goG bB TKT ?_;refine wG bB (A5 TKT k1 k2 k3 k5) ?_;exact PA.callP [0] hf TI cG dB (fun _=>PFin.i rfl rfl)
 rw[if_pos k5]at h
 have hlt:=hla 5 k5 (by decide)
 by_cases h0:t.text=[40]
 ·rw[if_pos h0]at h
  have e:=beqq h0;unfold inn at h;refine XC.enter 98 Tryz.func120 rfl (by decide) rfl rfl (s:=[(0,.pt 0 0)]) (by rfl) ?_
  refine wG bB TI ?_;refine aA [0] hp TI cG dB ?_;refine goG bB TKT ?_;refine wG bB (A4 BY TKT k5 e) ?_;rcases bM h with ⟨b1,e1,h1,rfl⟩|⟨_,a1,o1,h1,h⟩
  ·exact PA.callP [0] ((gD ts a o [40] hts _ h1).fails) TI cG dB (fun _=>PFin.i rfl rfl)
  refine aA [0] (((gD ts a o [40] hts _ h1).good)) TI cG dB ?_;refine goG bB TI ?_;obtain⟨_,ho1,rfl,rfl⟩:=cK h1;refine wG bB TI ?_;rcases bM h with ⟨b1,e1,h1,rfl⟩|⟨x,a2,o2,h1,h⟩
  ·exact PA.callP [0] ((hE 1 (a+1) (o+1) (by decide) (by omega) _ h1).fails) i1 cG dB (fun _=>PFin.i rfl rfl)
  refine aA [0] (((hE 1 (a+1) (o+1) (by decide) (by omega) _ h1).good)) i1 cG dB ?_
  refine goG bB BN01 ?_;obtain⟨rfl,_⟩:=dH ts _ _ _ _ _ _ _ h1;refine wG bB BN01 ?_;rcases bM h with ⟨b1,e1,h1,rfl⟩|⟨_,a3,o3,h1,h⟩
  ·exact PA.callP [0] ((pU ts a2 (o+1) [41] hts (by omega) (by omega) _ h1).fails) TI cG dB (fun _=>PFin.i rfl rfl)
  refine aA [0] (((pU ts a2 (o+1) [41] hts (by omega) (by omega) _ h1).good)) TI cG dB ?_
  refine goG bB TI ?_;cases h
  refine wG bB BN01 ?_;refine aO (rs:=[.cell 2 46]) rfl (by first|exact .inl rfl|exact .inr rfl) (finG bB) ?_ rfl (idG cG)
  rw[id,cA x]
  all_goals exact wkG cG
 rw[if_neg h0]at h
 have f0:=bneq h0
 by_cases h1:t.text=[33]
 ·rw[if_pos (.inl h1)]at h
  have e:=beqq h1;have e2:(t.text==[45])=false:=bneq (by rw[h1];decide)
  have e3: ¬t.text=[45]:=by rw[h1];decide
  refine XC.enter 98 Tryz.func120 rfl (by decide) rfl rfl (s:=[(0,.pt 0 0)]) (by rfl) ?_
  refine wG bB TI ?_;refine aA [0] hp TI cG dB ?_;refine goG bB TKT ?_;refine wG bB (A6 BY TKT k5 e f0 e2) ?_;rcases bM h with ⟨b1,e1,h1,rfl⟩|⟨_,a1,o1,h1,h⟩
  ·exact PA.callP [0] ((gD ts a o t.text hts _ h1).fails) TI cG dB (fun _=>PFin.i rfl rfl)
  refine aA [0] (((gD ts a o t.text hts _ h1).good)) TI cG dB ?_;refine goG bB TI ?_;obtain⟨_,ho1,rfl,rfl⟩:=cK h1;refine wG bB TI ?_;rcases bM h with ⟨b1,e1,h1,rfl⟩|⟨x,a2,o2,h1,h⟩
  ·exact PA.callP [0] ((hO (a+1) (o+1) (by omega) _ h1).fails) TI cG dB (fun _=>PFin.i rfl rfl)
  refine aA [0] (((hO (a+1) (o+1) (by omega) _ h1).good)) TI cG dB ?_
  refine goG bB BN01 ?_;obtain⟨rfl,_⟩:=dH ts _ _ _ _ _ _ _ h1;have hwp:=oK (o:=o+1) (by omega) (by omega)
  rw[if_neg e3]at h;cases h
  refine wG bB (A9 @dX @dC @dU @dT @dW @dD @List.getElem?_map.{0,0} @Int.natCast_nonneg hwp) ?_;refine aO (rs:=[.cell 2 46]) rfl (by first|exact .inl rfl|exact .inr rfl) (finG bB) ?_ rfl (idG cG)
  rw[mkU,jH,List.map_cons,List.map_nil,cA x]
  all_goals exact wkG cG
 have f1:=bneq h1
 by_cases h2:t.text=[45]
 ·rw[if_pos (.inr h2)]at h
  have e:=beqq h2;have e2:(t.text==[33])=false:=f1;refine XC.enter 98 Tryz.func120 rfl (by decide) rfl rfl (s:=[(0,.pt 0 0)]) (by rfl) ?_
  refine wG bB TI ?_;refine aA [0] hp TI cG dB ?_;refine goG bB TKT ?_;refine wG bB (A6 BY TKT k5 e f0 e2) ?_;rcases bM h with ⟨b1,e1,h1,rfl⟩|⟨_,a1,o1,h1,h⟩
  ·exact PA.callP [0] ((gD ts a o t.text hts _ h1).fails) TI cG dB (fun _=>PFin.i rfl rfl)
  refine aA [0] (((gD ts a o t.text hts _ h1).good)) TI cG dB ?_;refine goG bB TI ?_;obtain⟨_,ho1,rfl,rfl⟩:=cK h1;refine wG bB TI ?_;rcases bM h with ⟨b1,e1,h1,rfl⟩|⟨x,a2,o2,h1,h⟩
  ·exact PA.callP [0] ((hO (a+1) (o+1) (by omega) _ h1).fails) TI cG dB (fun _=>PFin.i rfl rfl)
  refine aA [0] (((hO (a+1) (o+1) (by omega) _ h1).good)) TI cG dB ?_
  refine goG bB BN01 ?_;obtain⟨rfl,_⟩:=dH ts _ _ _ _ _ _ _ h1;have hwp:=oK (o:=o+1) (by omega) (by omega)
  rw[if_pos h2]at h;cases h
  refine wG bB (A9 @dX @dC @dU @dT @dW @dD @List.getElem?_map.{0,0} @Int.natCast_nonneg hwp) ?_;refine aO (rs:=[.cell 2 46]) rfl (by first|exact .inl rfl|exact .inr rfl) (finG bB) ?_ rfl (idG cG)
  rw[mkU,jH,List.map_cons,List.map_nil,cA x]
  all_goals exact wkG cG
 have f2:=bneq h2
 rw[if_neg (by rintro(h|h);exact h1 h;exact h2 h)]at h
 cases h
 refine XC.enter 98 Tryz.func120 rfl (by decide) rfl rfl (s:=[(0,.pt 0 0)]) (by rfl) ?_
 refine wG bB TI ?_
 refine aA [0] hp TI cG dB ?_
 refine goG bB TKT ?_
 refine wG bB (A6 BY TKT k5 f0 f1 f2) ?_
 exact PA.callP [0] hf TI cG dB (fun _=>PFin.i rfl rfl)
theorem IB(s:Bs):(opR s).2≤8:=by
 have key: ∀(c:Prop) [Decidable c] (x y:Int×Nat),x.2≤8→y.2≤8→(if c then x else y).2≤8:=fun c _ x y hx hy=>by by_cases h:c<;>simp[h,hx,hy]
 unfold opR
 repeat (refine key _ _ _ (by decide) ?_)
 decide
theorem HF(t:Tk):(stR t).2≤8:=by
 unfold stR
 split
 ·exact IB _
 ·decide
theorem CK{t:Tk}(h:(stR t).2≠0):t.kind=5:=by
 unfold stR at h
 split at h
 ·assumption
 ·exact absurd rfl h
def iG:=A8 @cQ @eO @fG @fM @fU @oB @cN @dG
def lL:=A4 aB aC @aE @aD
def vM:=A4 aH aI @aK @aL
set_option maxHeartbeats 4000000 in
theorem JV{ts:List Tk}(hts:ts.length≤4194304)(F:Nat)(hO: ∀f,f<F→OpC ts f)(hE: ∀f,f<F→ExC ts f):ExC ts F:=by
 intro l a0 o0 hl ho0 r h
 cases F with
 | zero=>cases h
 | succ F =>
 rw[exM]at h
 refine XC.enter 39 Tryz.func59 rfl (by decide) rfl rfl (s:=[(0,.pt 0 0),(1,(.im (.int .i64 ((l:Nat)))))]) (by rfl) ?_
 refine wG iG TI ?_
 rcases bM h with ⟨b1,e1,h1,rfl⟩|⟨x,a,o,h1,h⟩
 ·exact PA.callP [0] ((hO F (by omega) a0 o0 ho0 _ h1).fails) TI lL vM (fun _=>PFin.i rfl rfl)
 refine aA [0] (((hO F (by omega) a0 o0 ho0 _ h1).good)) TI lL vM ?_
 refine goG iG BN01 ?_
 have hoo:=(dH ts _ _ _ _ _ _ _ h1).1
 clear h1
 refine wG iG BN01 ?_
 refine bH ?_
 refine cD ?_
 suffices H: ∀(f:Nat),f≤F→ ∀(x:Ex) (a:Nat),exM ts f (.lo l x) a o=some r→AWpK _ _ _ _ _ ⟨dn 39 [(0,.pt 0 0),(1,(.im (.int .i64 ((l:Nat))))),(4,.pt 1 0),(5,.pt 2 0)],ofl [.box [.sl (ts.map tkV) .ro,(.im (.int .i64 ((a:Nat)))),(.im (.int .i64 ((o:Nat))))],.box [(.im (.int .i64 (0))),.im (.int .u32 0),.im (.string ByteArray.empty),(.im (.int .i64 (0))),.sl [] .nl],.box [(.im (.int .i64 ((x).op))),.im (.int .u32 (x).n),.im (.string (x).name),(.im (.int .i64 ((x).width))),.sl ((x).l.map exV) .ro]]⟩ by
  refine AWp.cutP 3 [(0,.pt 0 0),(1,(.im (.int .i64 ((l:Nat))))),(4,.pt 1 0),(5,.pt 2 0)] [.box [.sl (ts.map tkV) .ro,(.im (.int .i64 ((a:Nat)))),(.im (.int .i64 ((o:Nat))))],.box [(.im (.int .i64 (0))),.im (.int .u32 0),.im (.string ByteArray.empty),(.im (.int .i64 (0))),.sl [] .nl],.box [(.im (.int .i64 ((x).op))),.im (.int .u32 (x).n),.im (.string (x).name),(.im (.int .i64 ((x).width))),.sl ((x).l.map exV) .ro]] lL ?_;exact H F (Nat.le_refl _) x a h
 clear h
 subst hoo
 intro f
 induction f with
 | zero=>intro _ x a h;cases h
 | succ f ih =>
 intro hf x a h
 rw[exM]at h
 have hp:=vJ ts a o
 have hq:=Mf (pk ts a)
 have hle:=HF (pk ts a)
 have hlt:(stR (pk ts a)).2≠0→a<ts.length:=fun hh=>dQ (CK hh) (by decide)
 generalize hst:stR (pk ts a)=st at hq hle hlt h
 generalize pk ts a=t at hp hq
 by_cases hz:st.2=0
 ·rw[if_pos (.inl hz)]at h
  cases h
  have hz':((st.2:Nat):Int)=0:=by omega
  refine wG iG TI ?_;refine aA [0] hp TI lL vM ?_;refine goG iG TKT ?_;refine AR.callP hq TI lL ?_;refine goG iG TI ?_;refine wG iG (AI hz' BN01) ?_;refine aO (rs:=[.cell 4 46]) rfl (by first|exact .inl rfl|exact .inr rfl) (finG iG) ?_ rfl (idG lL)
  rw[cA x]
  all_goals exact wkG lL
 by_cases hn:st.2<l
 ·rw[if_pos (.inr hn)]at h
  cases h
  have hz': ¬((st.2:Nat):Int)=0:=by omega
  have hn':((st.2:Nat):Int)<(l:Int):=by omega
  refine wG iG TI ?_;refine aA [0] hp TI lL vM ?_;refine goG iG TKT ?_;refine AR.callP hq TI lL ?_;refine goG iG TI ?_;refine wG iG (A3 hz' hn' BN01) ?_;refine aO (rs:=[.cell 4 46]) rfl (by first|exact .inl rfl|exact .inr rfl) (finG iG) ?_ rfl (idG lL)
  rw[cA x]
  all_goals exact wkG lL
 rw[if_neg (by omega)]at h
 have hz': ¬((st.2:Nat):Int)=0:=by omega
 have hn': ¬((st.2:Nat):Int)<(l:Int):=by omega
 have hlt:=hlt hz
 have hw:=bD (m:=a) (N:=4194304) (by omega) (by decide)
 have hw2:=bD (m:=st.2) (N:=4194304) (by omega) (by decide)
 refine wG iG TI ?_
 refine aA [0] hp TI lL vM ?_
 refine goG iG TKT ?_
 refine AR.callP hq TI lL ?_
 refine goG iG TI ?_
 refine wdG iG (A5 hz' hn' hw hw2 BN01) ?_
 rcases bM h with ⟨b1,e1,h1,rfl⟩|⟨y,a1,o1,h1,hk⟩
 ·exact oY [0] ((hE f (by omega) (st.2+1) (a+1) o (by omega) ho0 _ h1).fails) TI lL vM (fun _=>PFin.i rfl rfl) ⟨[],_,.nil,by kernel_rfl⟩
 refine aA [0] ((hE f (by omega) (st.2+1) (a+1) o (by omega) ho0 _ h1).good) TI lL vM ?_
 have hoo:=(dH ts _ _ _ _ _ _ _ h1).1
 subst hoo
 obtain⟨B,hB⟩: ∃B,B=[x,y]:=⟨_,rfl⟩
 have hAs:[V.ag [(.im (.int .i64 (x.op))),.im (.int .u32 x.n),.im (.string x.name),(.im (.int .i64 (x.width))),.sl (x.l.map exV) .ro],exV y]=B.map exV:=by rw[hB,List.map_cons,List.map_cons,List.map_nil,cA x]
 have h:exM ts f (.lo l (.mk st.1 0 ByteArray.empty 0 B)) a1 o1=some r:=by rw[hB];exact hk
 refine goG iG (A9 @dX @dC @dU @dT @dW @dD @List.getElem?_map.{0,0} @Int.natCast_nonneg hAs) ?_
 refine wdG iG (A9 @dX @dC @dU @dT @dW @dD @List.getElem?_map.{0,0} @Int.natCast_nonneg hAs) ?_
 refine cD ?_
 refine Jl 3 [(0,.pt 0 0),(1,(.im (.int .i64 ((l:Nat))))),(4,.pt 1 0),(5,.pt 2 0)] [.box [.sl (ts.map tkV) .ro,(.im (.int .i64 ((a1:Nat)))),(.im (.int .i64 ((o1:Nat))))],.box [(.im (.int .i64 (0))),.im (.int .u32 0),.im (.string ByteArray.empty),(.im (.int .i64 (0))),.sl [] .nl],.box [(.im (.int .i64 (st.1))),.im (.int .u32 0),.im (.string ByteArray.empty),(.im (.int .i64 (0))),.sl (B.map exV) .ro]] ?_ (by simp) (by repeat (first|exact WkFA.nil|refine WkFA.cons (by first|exact .of (Wk.refl _) (by first|rfl|simp only[List.length_cons,List.length_nil,Nat.reduceAdd,V.ids,V.idsL,idsA,entOk,List.all_cons,List.all_nil,Bool.and_self,Bool.and_true,Bool.true_and,ltB,noId,Nat.reduceLT,decide_true,Bool.true_eq_false,bT,bV,bU,bW,aB,aC,aE,aD])|exact .of (Wk.ro _ _) (by simp[V.ids,V.idsL,aD])) ?_)) (by repeat (first|exact WkFE.nil|refine WkFE.box (by repeat (first|exact WkFL.nil|refine WkFL.cons (by first|exact .of (Wk.refl _) (by first|rfl|simp only[List.length_cons,List.length_nil,Nat.reduceAdd,V.ids,V.idsL,idsA,entOk,List.all_cons,List.all_nil,Bool.and_self,Bool.and_true,Bool.true_and,ltB,noId,Nat.reduceLT,decide_true,Bool.true_eq_false,bT,bV,bU,bW,aB,aC,aE,aD])|exact .of (Wk.ro _ _) (by simp[V.ids,V.idsL,aD])) ?_)) ?_|refine WkFE.same (fun _ e=>by cases e) ?_)) (fun i hi=>by first|exact absurd rfl hi|exact Nat.lt_of_lt_of_le (oM hi) (by simp))
 exact ih (by omega) (.mk st.1 0 ByteArray.empty 0 B) a1 h
theorem MF{ts:List Tk}(hts:ts.length≤4194304): ∀F f,f≤F→OpC ts f∧ExC ts f:=by
 intro F
 induction F with
 | zero =>
  intro f hf;obtain rfl:f=0:=by omega
  exact⟨(fun a o _ r h=>by cases h),(fun l a o _ _ r h=>by cases h)⟩
 | succ F ih =>
  intro f hf
  by_cases hle:f≤F
  ·exact ih f hle
  obtain rfl:f=F+1:=by omega
  exact⟨Pi hts (ih F (Nat.le_refl _)).1 (ih F (Nat.le_refl _)).2,JV hts (F+1) (fun f hf=>(ih f (by omega)).1) (fun f hf=>(ih f (by omega)).2)⟩
theorem uX{ts:List Tk}(hts:ts.length≤4194304)(f:Nat):ExC ts f:=(MF hts f f (Nat.le_refl _)).2
def TyC(ts:List Tk)(f:Nat):Prop:= ∀a o:Nat,o≤256→ ∀r,tyM ts f .ty a o=some r→XC Tryz.prog 144 [.pt 0 0] ts a o tyV r
def FlC(ts:List Tk)(f:Nat):Prop:= ∀a o:Nat,o≤256→ ∀r,rb (begM ts [123] a o) (fun _ a o=>tyM ts f (.fl []) a o)=some r→XC Tryz.prog 201 [.pt 0 0] ts a o tyV r
def dE:=A16 @oE @sM @jG @rI @oC @Nj @sI @pF @kR @nQ @pZ @Nb @sF @pA @nZ (A4 @nY @jF @nP @pX)
def gQ:=A6 aB aC @bT @bV @bU @bW
def jA:=A6 aH aI @hH @iC @hU @iD
set_option maxHeartbeats 4000000 in
theorem Me{ts:List Tk}(hts:ts.length≤4194304)(hok: ∀t∈ts,TkOk t)(F:Nat)(hT: ∀f,f<F→TyC ts f):FlC ts F:=by
 intro a0 o0 ho0 r h
 refine XC.enter 35 Tryz.func201 rfl (by decide) rfl rfl (s:=[(0,.pt 0 0)]) (by rfl) ?_
 refine wG dE TI ?_
 rcases bM h with ⟨b1,e1,h1,rfl⟩|⟨_,a,o,h1,h⟩
 ·exact PA.callP [0] ((gD ts a0 o0 [123] hts _ h1).fails) TI gQ jA (fun _=>PFin.i rfl rfl)
 refine aA [0] (((gD ts a0 o0 [123] hts _ h1).good)) TI gQ jA ?_
 refine goG dE TI ?_
 obtain⟨hsee,ho1,rfl,rfl⟩:=cK h1
 have hsee:=bX hsee
 clear h1
 refine wG dE TI ?_
 refine bH ?_
 refine cD ?_
 refine AWp.ghostB 2 4 [(.im (.int .i64 (5))),(.im (.int .i64 (0))),(.im (.int .i64 (0))),.sl [] .nl,.sl [] .nl] 218 6 ?_
 suffices H: ∀(f:Nat),f<F+1→ ∀(l:List Ty) (a:Nat),l.length≤a→a≤ts.length→tyM ts f (.fl l) a (o0+1)=some r→AWpK _ _ _ _ _ ⟨dn 35 [(0,.pt 0 0),(2,.pt 1 0),(3,.pt 2 0)],ofl [.box [.sl (ts.map tkV) .ro,(.im (.int .i64 ((a:Nat)))),(.im (.int .i64 ((o0+1:Nat))))],.box [(.im (.int .i64 (0))),(.im (.int .i64 (0))),(.im (.int .i64 (0))),.sl [] .nl,.sl [] .nl],.box [(.im (.int .i64 (5))),(.im (.int .i64 (0))),(.im (.int .i64 (0))),.sl [] .nl,.sl ((l).map fdV) (.mine 3)],.tip 218 6 (l).length]⟩ by
  refine AWp.cutP 4 [(0,.pt 0 0),(2,.pt 1 0),(3,.pt 2 0)] [.box [.sl (ts.map tkV) .ro,(.im (.int .i64 ((a0+1:Nat)))),(.im (.int .i64 ((o0+1:Nat))))],.box [(.im (.int .i64 (0))),(.im (.int .i64 (0))),(.im (.int .i64 (0))),.sl [] .nl,.sl [] .nl],.box [(.im (.int .i64 (5))),(.im (.int .i64 (0))),(.im (.int .i64 (0))),.sl [] .nl,.sl ((([]:List Ty)).map fdV) (.mine 3)],.tip 218 6 (([]:List Ty)).length] gQ ?_;exact H F (by omega) [] (a0+1) (by simp) (by omega) h
 clear h
 intro f
 induction f with
 | zero=>intro _ l a _ _ h;cases h
 | succ f ih =>
 intro hf l a hla hal h
 rw[tyM]at h
 have hs:=oQ ts a (o0+1) [125]
 cases hq:sees ts a [125]with
 | true =>
  rw[hq]at hs;rw[if_pos hq]at h;refine wG dE TI ?_;refine aA [0] hs TI gQ jA ?_;refine goG dE TI ?_;refine wG dE TI ?_;rcases bM h with ⟨b1,e1,h1,rfl⟩|⟨_,a1,o1,h1,h⟩
  ·exact PA.callP [0] ((pU ts a (o0+1) [125] hts (by omega) (by omega) _ h1).fails) TI gQ jA (fun _=>PFin.i rfl rfl)
  refine aA [0] (((pU ts a (o0+1) [125] hts (by omega) (by omega) _ h1).good)) TI gQ jA ?_
  refine goG dE TI ?_;cases h
  refine wG dE TI ?_;refine aO (rs:=[.cell 2 94]) rfl (by first|exact .inl rfl|exact .inr rfl) (finG dE) ?_ rfl (idG gQ)
  rw[fY,List.map_nil]
  all_goals exact wkG gQ
 | false =>
  rw[hq]at hs;rw[if_neg (by rw[hq];decide)]at h
  by_cases hp:0<l.length
  ·have hp':(l.length:Int)>0:=by omega
   rw[if_pos hp]at h;refine wG dE TI ?_;refine aA [0] hs TI gQ jA ?_;refine goG dE TI ?_;refine wG dE (AI @List.length_map.{0,0} hp') ?_;rcases bM h with ⟨b1,e1,h1,rfl⟩|⟨_,a1,o1,h1,h⟩
   ·exact PA.callP [0] ((cI ts a (o0+1) [44] hts _ h1).fails) TI gQ jA (fun _=>PFin.i rfl rfl)
   refine aA [0] (((cI ts a (o0+1) [44] hts _ h1).good)) TI gQ jA ?_;refine goG dE TI ?_;obtain⟨hsee,rfl,rfl⟩:=cV h1;have:=bX hsee;clear h1;refine wG dE TI ?_;rcases bM h with ⟨b1,e1,h1,rfl⟩|⟨nn,a2,o2,h1,h⟩
   ·exact PA.callP [0] ((nM ts (a+1) (o0+1) 3 (by decide) hts _ h1).fails) TI gQ jA (fun _=>PFin.i rfl rfl)
   refine aA [0] (((nM ts (a+1) (o0+1) 3 (by decide) hts _ h1).good)) TI gQ jA ?_
   refine goG dE TKT ?_;obtain⟨hk,rfl,rfl,rfl⟩:=hX h1;have hlt:=dQ hk (by decide)
   have hn:=wJ hok (a+1);clear h1;generalize pk ts (a+1)=tn at hk hn h;have hwn:=cM (n:=tn.n) (by omega)
   refine wG dE TKT ?_;rcases bM h with ⟨b1,e1,h1,rfl⟩|⟨_,a3,o3,h1,h⟩
   ·exact PA.callP [0] ((cI ts ((a+1)+1) (o0+1) [58] hts _ h1).fails) TI gQ jA (fun _=>PFin.i rfl rfl)
   refine aA [0] (((cI ts ((a+1)+1) (o0+1) [58] hts _ h1).good)) TI gQ jA ?_;refine goG dE TI ?_;obtain⟨_,rfl,rfl⟩:=cV h1;refine wdG dE (AI hwn BN07) ?_;rcases bM h with ⟨b1,e1,h1,rfl⟩|⟨x,a4,o4,h1,hk2⟩
   ·exact oY [0] ((hT f (by omega) _ (o0+1) (by omega) _ h1).fails) TI gQ jA (fun _=>PFin.i rfl rfl) ⟨[⟨9,[],⟨_,[]⟩⟩],_,(.cons (uA (i:=9) rfl rfl kR nY (by decide)) .nil),by kernel_rfl⟩
   obtain⟨rfl,hle,hle2⟩:=(jP ts f).1 _ _ _ _ _ h1;obtain⟨B,hB⟩: ∃B,B=l++[x.at_ tn.n]:=⟨_,rfl⟩
   have hAs:l.map fdV++[V.ag [(.im (.int .i64 (tn.n))),(.im (.int .i64 (x.kind))),(.im (.int .i64 (x.size))),(.im (.int .i64 (x.count))),.sl (x.elem.map tyV) .ro,.sl (x.fields.map fdV) .ro]]=B.map fdV:=by rw[hB,List.map_append,List.map_singleton,qI];rfl
   have hAl:l.length+1=B.length:=by rw[hB];simp
   have hbl:B.length*80≤140737488355328:=by omega
   have h4:tyM ts f (.fl B) a4 (o0+1)=some r:=by rw[hB];exact hk2
   refine aA [0] ((hT f (by omega) _ (o0+1) (by omega) _ h1).good) TI gQ jA ?_
   refine goG dE (A16 @eS @eU @dK @dN @eQ @eP @eR @dL @eH @eG @eT @dO @List.getElem?_map.{0,0} @Int.natCast_nonneg hAs (A4 hAl hbl wY @List.length_map.{0,0})) ?_;refine wdG dE (A16 @eS @eU @dK @dN @eQ @eP @eR @dL @eH @eG @eT @dO @List.getElem?_map.{0,0} @Int.natCast_nonneg hAs (A4 hAl hbl wY @List.length_map.{0,0})) ?_;refine cD ?_;refine AWp.cutP 4 [(0,.pt 0 0),(2,.pt 1 0),(3,.pt 2 0)] [.box [.sl (ts.map tkV) .ro,(.im (.int .i64 ((a4:Nat)))),(.im (.int .i64 ((o0+1:Nat))))],.box [(.im (.int .i64 (0))),(.im (.int .i64 (0))),(.im (.int .i64 (0))),.sl [] .nl,.sl [] .nl],.box [(.im (.int .i64 (5))),(.im (.int .i64 (0))),(.im (.int .i64 (0))),.sl [] .nl,.sl ((B).map fdV) (.mine 3)],.tip 218 6 (B).length] gQ ?_;exact ih (by omega) B a4 (by omega) (by omega) h4
  ·have hp': ¬(l.length:Int)>0:=by omega
   rw[if_neg hp]at h;change rb (takM ts 3 a (o0+1)) _=some r at h;refine wG dE TI ?_;refine aA [0] hs TI gQ jA ?_;refine goG dE TI ?_;refine wG dE (AI @List.length_map.{0,0} hp') ?_;rcases bM h with ⟨b1,e1,h1,rfl⟩|⟨nn,a2,o2,h1,h⟩
   ·exact PA.callP [0] ((nM ts a (o0+1) 3 (by decide) hts _ h1).fails) TI gQ jA (fun _=>PFin.i rfl rfl)
   refine aA [0] (((nM ts a (o0+1) 3 (by decide) hts _ h1).good)) TI gQ jA ?_
   refine goG dE TKT ?_;obtain⟨hk,rfl,rfl,rfl⟩:=hX h1;have hlt:=dQ hk (by decide)
   have hn:=wJ hok a;clear h1;generalize pk ts a=tn at hk hn h;have hwn:=cM (n:=tn.n) (by omega)
   refine wG dE TKT ?_;rcases bM h with ⟨b1,e1,h1,rfl⟩|⟨_,a3,o3,h1,h⟩
   ·exact PA.callP [0] ((cI ts (a+1) (o0+1) [58] hts _ h1).fails) TI gQ jA (fun _=>PFin.i rfl rfl)
   refine aA [0] (((cI ts (a+1) (o0+1) [58] hts _ h1).good)) TI gQ jA ?_;refine goG dE TI ?_;obtain⟨_,rfl,rfl⟩:=cV h1;refine wdG dE (AI hwn BN07) ?_;rcases bM h with ⟨b1,e1,h1,rfl⟩|⟨x,a4,o4,h1,hk2⟩
   ·exact oY [0] ((hT f (by omega) _ (o0+1) (by omega) _ h1).fails) TI gQ jA (fun _=>PFin.i rfl rfl) ⟨[⟨9,[],⟨_,[]⟩⟩],_,(.cons (uA (i:=9) rfl rfl kR nY (by decide)) .nil),by kernel_rfl⟩
   obtain⟨rfl,hle,hle2⟩:=(jP ts f).1 _ _ _ _ _ h1;obtain⟨B,hB⟩: ∃B,B=l++[x.at_ tn.n]:=⟨_,rfl⟩
   have hAs:l.map fdV++[V.ag [(.im (.int .i64 (tn.n))),(.im (.int .i64 (x.kind))),(.im (.int .i64 (x.size))),(.im (.int .i64 (x.count))),.sl (x.elem.map tyV) .ro,.sl (x.fields.map fdV) .ro]]=B.map fdV:=by rw[hB,List.map_append,List.map_singleton,qI];rfl
   have hAl:l.length+1=B.length:=by rw[hB];simp
   have hbl:B.length*80≤140737488355328:=by omega
   have h4:tyM ts f (.fl B) a4 (o0+1)=some r:=by rw[hB];exact hk2
   refine aA [0] ((hT f (by omega) _ (o0+1) (by omega) _ h1).good) TI gQ jA ?_
   refine goG dE (A16 @eS @eU @dK @dN @eQ @eP @eR @dL @eH @eG @eT @dO @List.getElem?_map.{0,0} @Int.natCast_nonneg hAs (A4 hAl hbl wY @List.length_map.{0,0})) ?_;refine wdG dE (A16 @eS @eU @dK @dN @eQ @eP @eR @dL @eH @eG @eT @dO @List.getElem?_map.{0,0} @Int.natCast_nonneg hAs (A4 hAl hbl wY @List.length_map.{0,0})) ?_;refine cD ?_;refine AWp.cutP 4 [(0,.pt 0 0),(2,.pt 1 0),(3,.pt 2 0)] [.box [.sl (ts.map tkV) .ro,(.im (.int .i64 ((a4:Nat)))),(.im (.int .i64 ((o0+1:Nat))))],.box [(.im (.int .i64 (0))),(.im (.int .i64 (0))),(.im (.int .i64 (0))),.sl [] .nl,.sl [] .nl],.box [(.im (.int .i64 (5))),(.im (.int .i64 (0))),(.im (.int .i64 (0))),.sl [] .nl,.sl ((B).map fdV) (.mine 3)],.tip 218 6 (B).length] gQ ?_;exact ih (by omega) B a4 (by omega) (by omega) h4
def bF:=A16 @cQ @oE @eF @jG @lD @oC @sJ @lO @mS @pF @fU @sG @nQ @pZ @sF (A7 @iI @cN @nZ @dR @jF @nP @pX)
def cT:=A6 aB aC @bT @bV @bU @bW
def dI:=A6 aH aI @hH @iC @hU @iD
set_option maxHeartbeats 4000000 in
theorem LY{ts:List Tk}{f:Nat}(hts:ts.length≤4194304)(hok: ∀t∈ts,TkOk t)(hT:TyC ts f)(hS:FlC ts f):TyC ts (f+1):=by
 intro a o ho r h
 have hp:=vJ ts a o
 have hf:=nN ts a o 3
 have hq:=eV ts a o [63] hts
 have hs1:=oQ ts a o [42]
 have hs2:=oQ ts a o [91]
 have hs3:=oQ ts a o [123]
 rw[tyM]at h
 by_cases k1:(pk ts a).kind=1
 ·rw[if_pos k1]at h
  have hlt:=dQ k1 (by decide)
  have hw:=bD (m:=a) (N:=4194304) (by omega) (by decide)
  have hi:=Uo (pk ts a).text;generalize pk ts a=t at hp hi h k1;cases hr:intR t.text with
  | none =>
   rw[hr]at hi h;unfold intV at hi;rw[fY]at hi;cases h
   refine XC.enter 85 Tryz.func144 rfl (by decide) rfl rfl (s:=[(0,.pt 0 0)]) (by rfl) ?_
   refine wG bF TI ?_;refine aA [0] hp TI cT dI ?_;refine goG bF TKT ?_;refine wG bF (AI TKT k1) ?_;refine AR.callP hi TI cT ?_;refine goG bF BN07 ?_;refine wG bF BN07 ?_;exact PA.callP [0] hf TI cT dI (fun _=>PFin.i rfl rfl)
  | some p =>
   obtain⟨k,s⟩:=p;rw[hr]at hi h;unfold intV at hi;rw[fY]at hi;cases h
   refine XC.enter 85 Tryz.func144 rfl (by decide) rfl rfl (s:=[(0,.pt 0 0)]) (by rfl) ?_
   refine wG bF TI ?_;refine aA [0] hp TI cT dI ?_;refine goG bF TKT ?_;refine wG bF (AI TKT k1) ?_;refine AR.callP hi TI cT ?_;refine goG bF BN07 ?_;refine wG bF (A15 @eS @eU @dK @dN @eQ @eP @eR @dL @eH @eG @eT @dO @List.getElem?_map.{0,0} @Int.natCast_nonneg hw) ?_;refine aO (rs:=[.cell 2 94]) rfl (by first|exact .inl rfl|exact .inr rfl) (finG bF) ?_ rfl (idG cT)
   rw[fY]
   all_goals exact wkG cT
 rw[if_neg k1]at h
 generalize pk ts a=t at hp k1
 by_cases q1:sees ts a [63]=true
 ·rw[if_pos q1]at h
  rw[if_pos q1,q1]at hq;cases h
  refine XC.enter 85 Tryz.func144 rfl (by decide) rfl rfl (s:=[(0,.pt 0 0)]) (by rfl) ?_
  refine wG bF TI ?_;refine aA [0] hp TI cT dI ?_;refine goG bF TKT ?_;refine wG bF (AI TKT k1) ?_;refine aA [0] hq TI cT dI ?_;refine goG bF TI ?_;refine wG bF TI ?_;refine aO (rs:=[.cell 2 94]) rfl (by first|exact .inl rfl|exact .inr rfl) (finG bF) ?_ rfl (idG cT)
  rw[fY,List.map_nil,List.map_nil]
  all_goals exact wkG cT
 rw[if_neg q1]at h
 rw[if_neg q1]at hq
 rw[Bool.not_eq_true]at q1
 rw[q1]at hq
 by_cases q2:sees ts a [42]=true
 ·rw[if_pos q2]at h
  rw[q2]at hs1;refine XC.enter 85 Tryz.func144 rfl (by decide) rfl rfl (s:=[(0,.pt 0 0)]) (by rfl) ?_
  refine wG bF TI ?_;refine aA [0] hp TI cT dI ?_;refine goG bF TKT ?_;refine wG bF (AI TKT k1) ?_;refine aA [0] hq TI cT dI ?_;refine goG bF TI ?_;refine wG bF TI ?_;refine aA [0] hs1 TI cT dI ?_;refine goG bF TI ?_;refine wG bF TI ?_;rcases bM h with ⟨b1,e1,h1,rfl⟩|⟨_,a1,o1,h1,h⟩
  ·exact PA.callP [0] ((gD ts a o [42] hts _ h1).fails) TI cT dI (fun _=>PFin.i rfl rfl)
  refine aA [0] (((gD ts a o [42] hts _ h1).good)) TI cT dI ?_;refine goG bF TI ?_;obtain⟨hsee,ho1,rfl,rfl⟩:=cK h1;refine wG bF TI ?_;rcases bM h with ⟨b1,e1,h1,rfl⟩|⟨x,a2,o2,h1,h⟩
  ·exact PA.callP [0] ((hT (a+1) (o+1) (by omega) _ h1).fails) TI cT dI (fun _=>PFin.i rfl rfl)
  refine aA [0] (((hT (a+1) (o+1) (by omega) _ h1).good)) TI cT dI ?_
  refine goG bF BN07 ?_;obtain⟨rfl,_,_⟩:=(jP ts f).1 _ _ _ _ _ h1;have hwp:=oK (o:=o+1) (by omega) (by omega)
  cases h
  refine wG bF (A15 @eS @eU @dK @dN @eQ @eP @eR @dL @eH @eG @eT @dO @List.getElem?_map.{0,0} @Int.natCast_nonneg hwp) ?_;refine aO (rs:=[.cell 2 94]) rfl (by first|exact .inl rfl|exact .inr rfl) (finG bF) ?_ rfl (idG cT)
  rw[fY,List.map_nil,List.map_cons,List.map_nil,dS x]
  all_goals exact wkG cT
 rw[if_neg q2]at h
 rw[Bool.not_eq_true]at q2
 rw[q2]at hs1
 by_cases q3:sees ts a [91]=true
 ·rw[if_pos q3]at h
  rw[q3]at hs2;refine XC.enter 85 Tryz.func144 rfl (by decide) rfl rfl (s:=[(0,.pt 0 0)]) (by rfl) ?_
  refine wG bF TI ?_;refine aA [0] hp TI cT dI ?_;refine goG bF TKT ?_;refine wG bF (AI TKT k1) ?_;refine aA [0] hq TI cT dI ?_;refine goG bF TI ?_;refine wG bF TI ?_;refine aA [0] hs1 TI cT dI ?_;refine goG bF TI ?_;refine wG bF TI ?_;refine aA [0] hs2 TI cT dI ?_;refine goG bF TI ?_;refine wG bF TI ?_;rcases bM h with ⟨b1,e1,h1,rfl⟩|⟨_,a1,o1,h1,h⟩
  ·exact PA.callP [0] ((gD ts a o [91] hts _ h1).fails) TI cT dI (fun _=>PFin.i rfl rfl)
  refine aA [0] (((gD ts a o [91] hts _ h1).good)) TI cT dI ?_;refine goG bF TI ?_;obtain⟨hsee,ho1,rfl,rfl⟩:=cK h1;refine wG bF TI ?_;rcases bM h with ⟨b1,e1,h1,rfl⟩|⟨nn,a2,o2,h1,h⟩
  ·exact PA.callP [0] ((nM ts (a+1) (o+1) 3 (by decide) hts _ h1).fails) TI cT dI (fun _=>PFin.i rfl rfl)
  refine aA [0] (((nM ts (a+1) (o+1) 3 (by decide) hts _ h1).good)) TI cT dI ?_
  refine goG bF TKT ?_;obtain⟨hk,rfl,rfl,rfl⟩:=hX h1;have hn:=wJ hok (a+1);clear h1;generalize pk ts (a+1)=tn at hk hn h;have hwn:=cM (n:=tn.n) (by omega)
  refine wG bF TKT ?_;rcases bM h with ⟨b1,e1,h1,rfl⟩|⟨_,a3,o3,h1,h⟩
  ·exact PA.callP [0] ((cI ts (a+1+1) (o+1) [93] hts _ h1).fails) TI cT dI (fun _=>PFin.i rfl rfl)
  refine aA [0] (((cI ts (a+1+1) (o+1) [93] hts _ h1).good)) TI cT dI ?_;refine goG bF TI ?_;obtain⟨_,rfl,rfl⟩:=cV h1;refine wG bF TI ?_;rcases bM h with ⟨b1,e1,h1,rfl⟩|⟨x,a4,o4,h1,h⟩
  ·exact PA.callP [0] ((hT (a+1+1+1) (o+1) (by omega) _ h1).fails) TI cT dI (fun _=>PFin.i rfl rfl)
  refine aA [0] (((hT (a+1+1+1) (o+1) (by omega) _ h1).good)) TI cT dI ?_
  refine goG bF BN07 ?_;obtain⟨rfl,_,_⟩:=(jP ts f).1 _ _ _ _ _ h1;have hwp:=oK (o:=o+1) (by omega) (by omega)
  cases h
  refine wG bF (A16 @eS @eU @dK @dN @eQ @eP @eR @dL @eH @eG @eT @dO @List.getElem?_map.{0,0} @Int.natCast_nonneg hwp hwn) ?_;refine aO (rs:=[.cell 2 94]) rfl (by first|exact .inl rfl|exact .inr rfl) (finG bF) ?_ rfl (idG cT)
  rw[fY,List.map_nil,List.map_cons,List.map_nil,dS x]
  all_goals exact wkG cT
 rw[if_neg q3]at h
 rw[Bool.not_eq_true]at q3
 rw[q3]at hs2
 by_cases q4:sees ts a [123]=true
 ·rw[if_pos q4]at h
  rw[q4]at hs3;have hc:=hS a o ho r h;cases r with
  | bad b e1 =>
   refine XC.enter 85 Tryz.func144 rfl (by decide) rfl rfl (s:=[(0,.pt 0 0)]) (by rfl) ?_
   refine wG bF TI ?_;refine aA [0] hp TI cT dI ?_;refine goG bF TKT ?_;refine wG bF (AI TKT k1) ?_;refine aA [0] hq TI cT dI ?_;refine goG bF TI ?_;refine wG bF TI ?_;refine aA [0] hs1 TI cT dI ?_;refine goG bF TI ?_;refine wG bF TI ?_;refine aA [0] hs2 TI cT dI ?_;refine goG bF TI ?_;refine wG bF TI ?_;refine aA [0] hs3 TI cT dI ?_;refine goG bF TI ?_;refine wG bF TI ?_;exact PA.callP [0] hc.fails TI cT dI (fun _=>PFin.i rfl rfl)
  | ok x b p =>
   refine XC.enter 85 Tryz.func144 rfl (by decide) rfl rfl (s:=[(0,.pt 0 0)]) (by rfl) ?_
   refine wG bF TI ?_;refine aA [0] hp TI cT dI ?_;refine goG bF TKT ?_;refine wG bF (AI TKT k1) ?_;refine aA [0] hq TI cT dI ?_;refine goG bF TI ?_;refine wG bF TI ?_;refine aA [0] hs1 TI cT dI ?_;refine goG bF TI ?_;refine wG bF TI ?_;refine aA [0] hs2 TI cT dI ?_;refine goG bF TI ?_;refine wG bF TI ?_;refine aA [0] hs3 TI cT dI ?_;refine goG bF TI ?_;refine wG bF TI ?_;refine aA [0] hc.good TI cT dI ?_;refine goG bF BN07 ?_;refine wG bF BN07 ?_;refine aO (rs:=[.cell 2 94]) rfl (by first|exact .inl rfl|exact .inr rfl) (finG bF) ?_ rfl (idG cT)
   rw[dS x]
   all_goals exact wkG cT
 rw[if_neg q4]at h
 rw[Bool.not_eq_true]at q4
 rw[q4]at hs3
 cases h
 refine XC.enter 85 Tryz.func144 rfl (by decide) rfl rfl (s:=[(0,.pt 0 0)]) (by rfl) ?_
 refine wG bF TI ?_
 refine aA [0] hp TI cT dI ?_
 refine goG bF TKT ?_
 refine wG bF (AI TKT k1) ?_
 refine aA [0] hq TI cT dI ?_
 refine goG bF TI ?_
 refine wG bF TI ?_
 refine aA [0] hs1 TI cT dI ?_
 refine goG bF TI ?_
 refine wG bF TI ?_
 refine aA [0] hs2 TI cT dI ?_
 refine goG bF TI ?_
 refine wG bF TI ?_
 refine aA [0] hs3 TI cT dI ?_
 refine goG bF TI ?_
 refine wG bF TI ?_
 exact PA.callP [0] hf TI cT dI (fun _=>PFin.i rfl rfl)
theorem GM{ts:List Tk}(hts:ts.length≤4194304)(hok: ∀t∈ts,TkOk t): ∀F f,f≤F→TyC ts f:=by
 intro F
 induction F with
 | zero =>
  intro f hf;obtain rfl:f=0:=by omega
  exact fun a o _ r h=>by cases h
 | succ F ih =>
  intro f hf
  by_cases hle:f≤F
  ·exact ih f hle
  obtain rfl:f=F+1:=by omega
  exact LY hts hok (ih F (Nat.le_refl _)) (Me hts hok F fun f hf=>ih f (by omega))
end Go.Proofs.YtmbmmckagcdapaaGreatDoor
