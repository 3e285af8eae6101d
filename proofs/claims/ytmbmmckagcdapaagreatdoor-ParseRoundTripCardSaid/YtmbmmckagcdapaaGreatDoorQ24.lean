import Derived.Test.YtmbmmckagcdapaaGreatDoorQ18
set_option linter.all false
namespace Go.Proofs.YtmbmmckagcdapaaGreatDoor
section
variable {ts:List Tk}
theorem cJ{a:Nat}{t:Tk}{l:List Tk}(h:ts.drop a=t::l):pk ts a=t:=by
 unfold pk List.getD
 have:ts[a]? =(ts.drop a)[0]? :=by simp
 rw[this,h];rfl
theorem bY{a:Nat}{t:Tk}{l:List Tk}(h:ts.drop a=t::l):ts.drop (a+1)=l:=by
 have:ts.drop (a+1)=(ts.drop a).drop 1:=by rw[List.drop_drop]
 rw[this,h];rfl
theorem kJ{a:Nat}{k l:List Tk}(h:ts.drop a=k++l):ts.drop (a+k.length)=l:=by
 have:ts.drop (a+k.length)=(ts.drop a).drop k.length:=by rw[List.drop_drop]
 rw[this,h,List.drop_left]
theorem eI{a:Nat}{s:Bs}{l:List Tk}(h:ts.drop a=opT s::l)(u:Bs):sees ts a u=(s==u):=by
 unfold sees;rw[cJ h];rfl
theorem bX{a:Nat}{s:Bs}{l:List Tk}(h:ts.drop a=kwT s::l)(u:Bs):sees ts a u=(s==u):=by
 unfold sees;rw[cJ h];rfl
theorem Dl{a:Nat}{s:Bs}{l:List Tk}(h:ts.drop a=idT s::l)(u:Bs):sees ts a u=false:=by
 unfold sees;rw[cJ h];rfl
theorem sY{a o:Nat}{s:Bs}{l:List Tk}(h:ts.drop a=opT s::l)(ho:o<256):begM ts s a o=some (.ok () (a+1) (o+1)):=by
 unfold begM;rw[eI h,beq_self_eq_true,if_neg (by decide),if_neg (by omega)]
theorem kI{a o:Nat}{s:Bs}{l:List Tk}(h:ts.drop a=opT s::l):expM ts s a o=some (.ok () (a+1) o):=by
 unfold expM;rw[eI h,beq_self_eq_true,if_neg (by decide)]
theorem Uw{a o:Nat}{s:Bs}{l:List Tk}(h:ts.drop a=kwT s::l):expM ts s a o=some (.ok () (a+1) o):=by
 unfold expM;rw[bX h,beq_self_eq_true,if_neg (by decide)]
theorem Br{a o:Nat}{s:Bs}{l:List Tk}(h:ts.drop a=opT s::l):endM ts s a o=some (.ok () (a+1) (o-1)):=by
 unfold endM;rw[eI h,beq_self_eq_true,if_neg (by decide)]
theorem Cq{a o:Nat}{s:Bs}{l:List Tk}(h:ts.drop a=idT s::l):nmM ts a o=some (.ok (strA s) (a+1) o):=by
 unfold nmM takM;rw[cJ h,if_neg (fun e=>e rfl)];rfl
theorem EU{a o:Nat}{t:Tk}{l:List Tk}(h:ts.drop a=t::l):takM ts t.kind a o=some (.ok t (a+1) o):=by
 unfold takM;rw[cJ h,if_neg (by simp)]
def EvX(ts:List Tk)(m:Md4)(a o:Nat)(z:Rs Ex):Prop:= ∃F,∀f,F≤f→exM ts f m a o=some z
theorem IA{x:Ex}{q:Ex→Ex}{a b o:Nat}{l l':List Tk}(h:ts.drop a=opT [40]::l)(hx:EvX ts (.ex 1) (a+1) (o+1) (.ok x b (o+1)))(h':ts.drop b=opT [41]::l')(ho:o<256) :
  ∃F,∀f,F≤f→inn ts (exM ts f (.ex 1)) q a o=some (.ok (q x) (b+1) o):=by
 obtain⟨F,hF⟩:=hx
 refine⟨F,fun f hf=> ?_⟩
 unfold inn
 rw[sY h ho]
 show rb (exM ts f (.ex 1) (a+1) (o+1)) _=_
 rw[hF f hf]
 show rb (endM ts [41] b (o+1)) _=_
 rw[Br h']
 rfl
theorem IZ{x:Ex}{a b o:Nat}{l l':List Tk}(h:ts.drop a=opT [40]::l)(hx:EvX ts (.ex 1) (a+1) (o+1) (.ok x b (o+1)))(h':ts.drop b=opT [41]::l')(ho:o<256):EvX ts .op a o (.ok x (b+1) o):=by
 obtain⟨F,hF⟩:=IA (q:=id) h hx h' ho
 refine⟨F+1,fun f hf=> ?_⟩
 cases f with
 | zero=>omega
 | succ f =>
  rw[exM,cJ h];exact hF f (by omega)
theorem WA{x:Ex}{a b o:Nat}{w:Bs}{k v:Int}{l l':List Tk}(h0:ts.drop a=kwT w::opT [40]::l)(hw:accW w=some (k,v))(hx:EvX ts (.ex 1) (a+2) (o+1) (.ok x b (o+1)))(h':ts.drop b=opT [41]::l')(ho:o<256):EvX ts .op a o (.ok (mkU k v x) (b+1) o):=by
 obtain⟨F,hF⟩:=IA (q:=mkU k v) (bY h0) hx h' ho
 refine⟨F+1,fun f hf=> ?_⟩
 cases f with
 | zero=>omega
 | succ f =>
  rw[exM,cJ h0];show(match accW w with|some (k,w)=>inn ts (exM ts f (.ex 1)) (mkU k w) (a+1) o|none=>some (.bad a 3))=_
  rw[hw];exact hF f (by omega)
theorem VZ{x:Ex}{a b o:Nat}{s:Bs}{l:List Tk}(h:ts.drop a=opT s::l)(hs:s=[33]∨s=[45])(hx:EvX ts .op (a+1) (o+1) (.ok x b (o+1)))(ho:o<256):EvX ts .op a o (.ok (mkU (if s=[45]then 17 else 16) 0 x) b o):=by
 obtain⟨F,hF⟩:=hx
 refine⟨F+1,fun f hf=> ?_⟩
 cases f with
 | zero=>omega
 | succ f =>
  rw[exM,cJ h];have h40:s≠[40]:=by rcases hs with rfl|rfl<;>decide
  show(if s=[40]then _ else if s=[33]∨s=[45]then rb (begM ts s a o) _ else _)=_
  rw[if_neg h40,if_pos hs,sY h ho];show rb (exM ts f .op (a+1) (o+1)) _=_
  rw[hF f (by omega)]
  rfl
theorem ZJ{a o n:Nat}{l:List Tk}(h:ts.drop a=nuT n::l):EvX ts .op a o (.ok (.mk 1 n ByteArray.empty 0 []) (a+1) o):=by
 refine⟨1,fun f hf=> ?_⟩
 cases f with
 | zero=>omega
 | succ f=>rw[exM,cJ h];rfl
theorem ZK{a o:Nat}{s:Bs}{l:List Tk}(h:ts.drop a=idT s::l):EvX ts .op a o (.ok (.mk 2 0 ⟨s.toArray⟩ 0 []) (a+1) o):=by
 refine⟨1,fun f hf=> ?_⟩
 cases f with
 | zero=>omega
 | succ f=>rw[exM,cJ h];rfl
theorem IY{l a o b p:Nat}{x:Ex}{z:Rs Ex}(h:EvX ts .op a o (.ok x b p))(k:EvX ts (.lo l x) b p z):EvX ts (.ex l) a o z:=by
 obtain⟨F,hF⟩:=h
 obtain⟨G,hG⟩:=k
 refine⟨F+G+1,fun f hf=> ?_⟩
 cases f with
 | zero=>omega
 | succ f =>
  rw[exM,hF f (by omega)]
  exact hG f (by omega)
theorem VY{l a o b p:Nat}{x y:Ex}{s:Bs}{r:List Tk}{z:Rs Ex}(hd:ts.drop a=opT s::r)(h0:(opR s).2≠0)(hl:l≤(opR s).2)(h:EvX ts (.ex ((opR s).2+1)) (a+1) o (.ok y b p))(k:EvX ts (.lo l (.mk (opR s).1 0 ByteArray.empty 0 [x,y])) b p z):EvX ts (.lo l x) a o z:=by
 obtain⟨F,hF⟩:=h
 obtain⟨G,hG⟩:=k
 refine⟨F+G+1,fun f hf=> ?_⟩
 cases f with
 | zero=>omega
 | succ f =>
  have e:stR (pk ts a)=opR s:=by rw[cJ hd];rfl
  rw[exM,e,if_neg (by omega),hF f (by omega)]
  exact hG f (by omega)
def stp(l:Nat)(t:Tk):Prop:=(stR t).2=0∨(stR t).2<l
theorem stp.mono{l m:Nat}{t:Tk}(h:stp l t)(hm:l≤m):stp m t:=by unfold stp at *;omega
theorem Gr{l a o:Nat}{x:Ex}(h:stp l (pk ts a)):EvX ts (.lo l x) a o (.ok x a o):=by
 refine⟨1,fun f hf=> ?_⟩
 cases f with
 | zero=>omega
 | succ f =>
  have h:(stR (pk ts a)).2=0∨(stR (pk ts a)).2<l:=h;rw[exM,if_pos h];rfl
theorem TM{o:Int}(h:3≤o∧o≤15):opR (oJ o)=(o,stO o):=by
 obtain⟨n,rfl⟩: ∃n:Nat,o=n:=⟨o.toNat,by omega⟩
 have key: ∀n:Nat,n<16→3≤n→opR (oJ (n:Int))=((n:Int),stO (n:Int)):=by decide
 exact key n (by omega) (by omega)
theorem XP{w:Int}(h:w=1∨w=2∨w=4):accW ([108,111,97,100]++wB w)=some (18,w):=by rcases h with rfl|rfl|rfl<;>decide
theorem XO{w:Int}(h:w=1∨w=2):accW ([115,101,120,116]++wB w)=some (19,w):=by rcases h with rfl|rfl<;>decide
def gO(o:Int)(g need:Nat):Nat:=if strE o<need then 1+g else g
def gN(o:Int)(l:List Ex)(r:List Nat):Nat :=
 if o=1∨o=2 then 0 else if o=16∨o=17 then 1+gO (Fu l 0) (r.getD 0 0) 9 else if o=18∨o=19 then 1+r.getD 0 0
 else max (gO (Fu l 0) (r.getD 0 0) (stO o)) (gO (Fu l 1) (r.getD 1 0) (stO o+1))
def gE:Ex→Nat:=Ex.para fun e r=>gN e.op e.l r
theorem SL(o n:Int)(s:ByteArray)(w:Int)(l:List Ex):gE (.mk o n s w l)=gN o l (l.map gE):=by
 unfold gE
 rw[Ex.para_mk]
 rfl
def RdE(ts:List Tk)(e:Ex):Prop:= ∀(a o:Nat) (rest:List Tk),ts.drop a=tkE e++rest→o+gE e≤256 →
  (9≤strE e.op→EvX ts .op a o (.ok e (a+(tkE e).length) o)) ∧
  ∀l z,stp (strE e.op+1) (pk ts (a+(tkE e).length))→l≤strE e.op→EvX ts (.lo l e) (a+(tkE e).length) o z→EvX ts (.ex l) a o z
theorem FK{a l:Nat}{r:List Tk}(h:ts.drop a=opT [41]::r):stp l (pk ts a):=by rw[cJ h];exact .inl (by decide)
theorem Ug{x:Ex}(hx:RdE ts x){a o:Nat}{rest:List Tk}(hd:ts.drop a=opT [40]::(tkE x++opT [41]::rest))(ho:o+(1+gE x)≤256):EvX ts (.ex 1) (a+1) (o+1) (.ok x (a+1+(tkE x).length) (o+1))∧ts.drop (a+1+(tkE x).length)=opT [41]::rest:=by
 have h1:=bY hd
 have h2:=kJ h1
 exact⟨((hx _ (o+1) _ h1 (by omega)).2) 1 _ (FK h2) (Ph _) (Gr (FK h2)),h2⟩
theorem HP{x:Ex}(hx:RdE ts x){need l a o:Nat}{rest:List Tk}{z:Rs Ex}(hd:ts.drop a=mD x.op (tkE x) need++rest)(ho:o+gO x.op (gE x) need≤256)(hs:stp (need+1) (pk ts (a+(mD x.op (tkE x) need).length)))(hl:l≤need)
  (k:EvX ts (.lo l x) (a+(mD x.op (tkE x) need).length) o z):EvX ts (.ex l) a o z:=by
 unfold mD at hd hs k
 unfold gO at ho
 by_cases hc:strE x.op<need
 ·rw[if_pos hc]at hd hs k ho
  rw[List.cons_append,List.append_assoc]at hd;obtain⟨h1,h2⟩:=Ug hx hd ho;refine IY (IZ hd h1 h2 (by omega)) ?_
  have e:a+(opT [40]::(tkE x++[opT [41]])).length=a+1+(tkE x).length+1:=by simp only[List.length_cons,List.length_append,List.length_nil];omega
  rw[e]at k;exact k
 ·rw[if_neg hc]at hd hs k ho
  exact(hx a o rest hd ho).2 l z (hs.mono (by omega)) (by omega) k
theorem YO: ∀e:Ex,efm e=true→n32 e=true→RdE ts e:=by
 intro e
 induction e using Ex.induct with
 | h o n s w l ih =>
 intro hf hn
 rw[vB,Bool.and_eq_true]at hf
 rw[Gd,Bool.and_eq_true,decide_eq_true_eq]at hn
 obtain⟨hb,hl⟩:=hf
 obtain⟨hn,hln⟩:=hn
 have IH:=fun t ht=>ih t ht (List.all_eq_true.1 hl t ht) (List.all_eq_true.1 hln t ht)
 clear ih hl hln
 intro a p rest hd hg
 rw[SL]at hg
 show(9≤strE o→_)∧ ∀l' z,stp (strE o+1) _→l'≤strE o→_
 have fromA:EvX ts .op a p (.ok (.mk o n s w l) (a+(tkE (.mk o n s w l)).length) p)→(9≤strE o→EvX ts .op a p (.ok (.mk o n s w l) (a+(tkE (.mk o n s w l)).length) p)) ∧
   ∀l' z,stp (strE o+1) (pk ts (a+(tkE (.mk o n s w l)).length))→l'≤strE o→EvX ts (.lo l' (.mk o n s w l)) (a+(tkE (.mk o n s w l)).length) p z→EvX ts (.ex l') a p z :=
  fun h=>⟨fun _=>h,fun l' z _ _ hk=>IY h hk⟩
 have hfm:=Uh hb
 generalize raw (.mk o n s w l)=rw0 at hfm
 cases hfm with
 | num h hs hw hl0 =>
  subst h hs hw hl0;refine fromA ?_;rw[kC]at hd ⊢;have hd:ts.drop a=nuT n.toNat::rest:=hd;have:=ZJ (o:=p) hd;rw[Int.toNat_of_nonneg hn.1]at this;exact this
 | nam h hs hn0 hw hl0 =>
  subst h hn0 hw hl0;refine fromA ?_;rw[kC]at hd ⊢;have hd:ts.drop a=idT s.data.toList::rest:=hd;exact ZK hd
 | bin h hn0 hs hw x y hl0 =>
  subst hn0 hs hw hl0;have hstr:strE o=stO o:=if_pos h;have hpos:=Xb o;have h8:stO o≤8:=(Lk h).2.2.1;have hR:=TM h
  have e1:tkE (.mk o 0 ByteArray.empty 0 [x,y])=mD x.op (tkE x) (stO o)++opT (oJ o)::mD y.op (tkE y) (stO o+1):=by
   rw[kC];unfold tkN;rw[if_neg (by omega),if_neg (by omega),if_neg (by omega),if_neg (by omega),if_neg (by omega),if_neg (by omega)]
   rfl
  have e2:gN o [x,y] ([x,y].map gE)=max (gO x.op (gE x) (stO o)) (gO y.op (gE y) (stO o+1)):=by
   unfold gN;rw[if_neg (by omega),if_neg (by omega),if_neg (by omega)]
   rfl
  rw[e2]at hg;rw[e1]at hd ⊢;rw[List.append_assoc,List.cons_append]at hd;rw[hstr];have hd1:=kJ hd;have hd2:=bY hd1
  have hlen:a+(mD x.op (tkE x) (stO o)++opT (oJ o)::mD y.op (tkE y) (stO o+1)).length=a+(mD x.op (tkE x) (stO o)).length+1+(mD y.op (tkE y) (stO o+1)).length:=by
   simp only[List.length_cons,List.length_append];omega
  rw[hlen];refine⟨fun h9=>by omega,fun l' z hs hl' hk=> ?_⟩
  have hp1:stR (pk ts (a+(mD x.op (tkE x) (stO o)).length))=(o,stO o):=by rw[cJ hd1];exact hR
  refine HP (IH x (by simp)) hd (by omega) (.inr (by rw[hp1];exact Nat.lt_succ_self _)) hl' ?_
  refine VY hd1 (by rw[hR];show stO o≠0;omega) (by rw[hR];exact hl') (y:=y) (b:=a+(mD x.op (tkE x) (stO o)).length+1+(mD y.op (tkE y) (stO o+1)).length) (p:=p) ?_ (by rw[hR];exact hk)
  rw[hR];exact HP (IH y (by simp)) hd2 (by omega) (hs.mono (by omega)) (Nat.le_refl _) (Gr hs)
 | un c h hn0 hs hw x hl0 =>
  subst hn0 hs hw hl0
  have e1:tkE (.mk o 0 ByteArray.empty 0 [x])=opT [c]::mD x.op (tkE x) 9:=by
   rw[kC];rcases h with ⟨rfl,rfl⟩|⟨rfl,rfl⟩<;>rfl
  have e2:gN o [x] ([x].map gE)=1+gO x.op (gE x) 9:=by
   unfold gN;rw[if_neg (by omega),if_pos (by omega)]
   rfl
  have hstr:strE o=9:=by rcases h with ⟨rfl,_⟩|⟨rfl,_⟩<;>decide
  rw[e2]at hg;rw[e1]at hd fromA ⊢;refine fromA ?_;rw[List.cons_append]at hd;have hd1:=bY hd
  have hx:EvX ts .op (a+1) (p+1) (.ok x (a+1+(mD x.op (tkE x) 9).length) (p+1)):=by
   unfold gO at hg;unfold mD at hd1 ⊢
   by_cases hc:strE x.op<9
   ·rw[if_pos hc]at hd1 hg ⊢
    rw[List.cons_append,List.append_assoc]at hd1;obtain⟨k1,k2⟩:=Ug (IH x (by simp)) (o:=p+1) hd1 (by omega)
    have:=IZ hd1 k1 k2 (by omega)
    have e:a+1+(opT [40]::(tkE x++[opT [41]])).length=a+1+1+(tkE x).length+1:=by simp only[List.length_cons,List.length_append,List.length_nil];omega
    rw[e];exact this
   ·rw[if_neg hc]at hd1 hg ⊢
    exact((IH x (by simp)) _ _ _ hd1 (by omega)).1 (by omega)
  have:=VZ hd (by rcases h with ⟨_,rfl⟩|⟨_,rfl⟩<;>simp) hx (by omega)
  have e3:mkU (if [c]=[45]then 17 else 16) 0 x= .mk o 0 ByteArray.empty 0 [x]:=by
   rcases h with ⟨rfl,rfl⟩|⟨rfl,rfl⟩<;>rfl
  rw[e3]at this;have e:a+(opT [c]::mD x.op (tkE x) 9).length=a+1+(mD x.op (tkE x) 9).length:=by rw[List.length_cons];omega
  rw[e];exact this
 | call q h hn0 hs hw x hl0 =>
  subst hn0 hs hl0;have hw2:o=19→w=1∨w=2:=fun e=>Rc (by rw[e]at hb;exact hb)
  obtain⟨u,hu,e1⟩: ∃u,accW u=some (o,w)∧tkE (.mk o 0 ByteArray.empty w [x])=kwT u::opT [40]::(tkE x++[opT [41]]):=by
   rw[kC];rcases h with ⟨rfl,_⟩|⟨rfl,_⟩
   ·exact⟨_,XP hw,by show kwT _::opT [40]::(([x].map tkE).flatten++_)=_;simp⟩
   ·exact⟨_,XO (hw2 rfl),by show kwT _::opT [40]::(([x].map tkE).flatten++_)=_;simp⟩
  have e2:gN o [x] ([x].map gE)=1+gE x:=by
   unfold gN;rw[if_neg (by omega),if_neg (by omega),if_pos (by omega)]
   rfl
  rw[e2]at hg;rw[e1]at hd fromA ⊢;refine fromA ?_;rw[List.cons_append,List.cons_append,List.append_assoc]at hd;obtain⟨k1,k2⟩:=Ug (IH x (by simp)) (o:=p) (bY hd) (by omega)
  have:=WA hd hu k1 k2 (by omega)
  have e:a+(kwT u::opT [40]::(tkE x++[opT [41]])).length=a+1+1+(tkE x).length+1:=by simp only[List.length_cons,List.length_append,List.length_nil];omega
  rw[e];exact this
theorem ZI: ∀e:Ex,efm e=true→ ∀d:Nat,esh e ((d:Int)+1)=true→gE e≤d∧(strE e.op<9→gE e+1≤d):=by
 intro e
 induction e using Ex.induct with
 | h o n s w l ih =>
 intro hf d hd
 rw[vB,Bool.and_eq_true]at hf
 obtain⟨hb,hl⟩:=hf
 rw[Bq,Bool.and_eq_true,List.all_eq_true]at hd
 have hd:=hd.2
 have IH: ∀t∈l,∃d',d=d'+1∧gE t≤d'∧ ∀need,need≤9→gO t.op (gE t) need≤d':=fun t ht=>by
  have h1:=hd t ht;rw[show(d:Int)+1-1=(d:Int) by omega]at h1
  cases d with
  | zero =>
   cases t with
   | mk o n s w l=>rw[Bq]at h1;simp at h1
  | succ d =>
   have:=ih t ht (List.all_eq_true.1 hl t ht) d (by rw[Int.natCast_add]at h1;exact h1)
   refine⟨d,rfl,this.1,fun need hn=> ?_⟩
   unfold gO;split
   ·have:=this.2 (by omega);omega
   ·exact this.1
 clear ih hd
 rw[SL]
 show _∧(strE o<9→_)
 have hfm:=Uh hb
 generalize raw (.mk o n s w l)=rw0 at hfm
 cases hfm with
 | num h hs hw hl0=>subst h;exact⟨Nat.zero_le _,fun h=>absurd h (by decide)⟩
 | nam h hs hn0 hw hl0=>subst h;exact⟨Nat.zero_le _,fun h=>absurd h (by decide)⟩
 | bin h hn0 hs hw x y hl0 =>
  subst hl0;have h8:stO o≤8:=(Lk h).2.2.1
  have e2:gN o [x,y] ([x,y].map gE)=max (gO x.op (gE x) (stO o)) (gO y.op (gE y) (stO o+1)):=by
   unfold gN;rw[if_neg (by omega),if_neg (by omega),if_neg (by omega)]
   rfl
  rw[e2];obtain⟨d1,q1,_,q2⟩:=IH x (by simp)
  obtain⟨d2,q3,_,q4⟩:=IH y (by simp)
  have:=q2 (stO o) (by omega)
  have:=q4 (stO o+1) (by omega)
  constructor<;>omega
 | un c h hn0 hs hw x hl0 =>
  subst hl0
  have e2:gN o [x] ([x].map gE)=1+gO x.op (gE x) 9:=by
   unfold gN;rw[if_neg (by omega),if_pos (by omega)]
   rfl
  rw[e2];obtain⟨d1,q1,_,q2⟩:=IH x (by simp)
  have:=q2 9 (by omega)
  have hstr:strE o=9:=by rcases h with ⟨rfl,_⟩|⟨rfl,_⟩<;>decide
  constructor<;>omega
 | call q h hn0 hs hw x hl0 =>
  subst hl0
  have e2:gN o [x] ([x].map gE)=1+gE x:=by
   unfold gN;rw[if_neg (by omega),if_neg (by omega),if_pos (by omega)]
   rfl
  rw[e2];obtain⟨d1,q1,q2,_⟩:=IH x (by simp)
  have hstr:strE o=10:=by rcases h with ⟨rfl,_⟩|⟨rfl,_⟩<;>decide
  constructor<;>omega
end
def Le{α:Type}(r r':Option (Rs α)):Prop:= ∀z,r=some z→r'=some z
theorem Le.refl{α:Type}(r:Option (Rs α)):Le r r:=fun _ h=>h
theorem Le.rb{α β:Type}{r r':Option (Rs α)}{k k':α→Nat→Nat→Option (Rs β)}(h:Le r r')(hk: ∀x a o,Le (k x a o) (k' x a o)):Le (rb r k) (rb r' k'):=fun z q=>by
 match r,h,q with
 | some (.bad b e),h,q=>rw[h _ rfl];exact q
 | some (.ok x a o),h,q=>rw[h _ rfl];exact hk x a o z q
theorem Le.ite{α:Type}{c:Prop}[Decidable c]{x y x' y':Option (Rs α)}(hx:c→Le x x')(hy: ¬c→Le y y'):Le (if c then x else y) (if c then x' else y'):=by
 by_cases h:c
 ·rw[if_pos h,if_pos h];exact hx h
 ·rw[if_neg h,if_neg h];exact hy h
section
variable (ts:List Tk)
theorem IU: ∀f m a o,Le (exM ts f m a o) (exM ts (f+1) m a o):=by
 intro f
 induction f with
 | zero=>intro m a o z h;cases m<;>cases h
 | succ f ih =>
  have hin: ∀q a o,Le (inn ts (exM ts f (.ex 1)) q a o) (inn ts (exM ts (f+1) (.ex 1)) q a o):=fun q a o =>
   Le.rb (Le.refl _) fun _ a o=>Le.rb (ih _ _ _) fun _ _ _=>Le.refl _
  intro m a o;cases m with
  | op =>
   rw[exM,exM];refine Le.ite (fun _=>Le.refl _) fun _=>Le.ite (fun _=>Le.refl _) fun _=>Le.ite (fun _=> ?_) fun _=>Le.ite (fun _=>Le.ite (fun _=>hin _ _ _) fun _=>Le.ite (fun _=>Le.rb (Le.refl _) fun _ a o=>Le.rb (ih _ _ _) fun _ _ _=>Le.refl _) fun _=>Le.refl _) fun _=>Le.refl _
   cases accW (pk ts a).text with
   | none=>exact Le.refl _
   | some p=>exact hin _ _ _
  | ex l=>rw[exM,exM];exact Le.rb (ih _ _ _) fun _ _ _=>ih _ _ _
  | lo l x=>rw[exM,exM];exact Le.ite (fun _=>Le.refl _) fun _=>Le.rb (ih _ _ _) fun _ _ _=>ih _ _ _
theorem EQ: ∀f m a o,Le (tyM ts f m a o) (tyM ts (f+1) m a o):=by
 intro f
 induction f with
 | zero=>intro m a o z h;cases m<;>cases h
 | succ f ih =>
  intro m a o;cases m with
  | ty =>
   rw[tyM,tyM];refine Le.ite (fun _=>Le.refl _) fun _=>Le.ite (fun _=>Le.refl _) fun _=>Le.ite (fun _=>Le.rb (Le.refl _) fun _ _ _=>Le.rb (ih _ _ _) fun _ _ _=>Le.refl _) fun _=>Le.ite (fun _=> ?_) fun _=>Le.ite (fun _=>Le.rb (Le.refl _) fun _ _ _=>ih _ _ _) fun _=>Le.refl _
   exact Le.rb (Le.refl _) fun _ _ _=>Le.rb (Le.refl _) fun _ _ _=>Le.rb (Le.refl _) fun _ _ _=>Le.rb (ih _ _ _) fun _ _ _=>Le.refl _
  | fl l =>
   rw[tyM,tyM];exact Le.ite (fun _=>Le.refl _) fun _=>Le.rb (Le.refl _) fun _ _ _=>Le.rb (Le.refl _) fun _ _ _=>Le.rb (Le.refl _) fun _ _ _=>Le.rb (ih _ _ _) fun _ _ _=>ih _ _ _
theorem GA: ∀f m a o,Le (stM ts f m a o) (stM ts (f+1) m a o):=by
 intro f
 induction f with
 | zero=>intro m a o z h;cases m<;>cases h
 | succ f ih =>
  have ex:=IU ts f
  have sto: ∀w a o,Le (mA ts f w a o) (mA ts (f+1) w a o):=fun w a o =>
   Le.rb (Le.refl _) fun _ _ _=>Le.rb (ex _ _ _) fun _ _ _=>Le.rb (Le.refl _) fun _ _ _=>Le.rb (ex _ _ _) fun _ _ _=>Le.refl _
  have nam: ∀a o,Le (Bc ts f a o) (Bc ts (f+1) a o):=fun a o =>
   Le.rb (Le.refl _) fun _ _ _=>Le.ite (fun _=>Le.refl _) fun _=>Le.rb (Le.refl _) fun _ _ _=>Le.ite (fun _=>Le.refl _) fun _=>Le.rb (ex _ _ _) fun _ _ _=>Le.refl _
  intro m a o;cases m with
  | st =>
   rw[stM,stM]
   refine Le.ite (fun _=>nam _ _) fun _=>Le.ite (fun _=>Le.refl _) fun _=>Le.ite (fun _=>Le.refl _) fun _=>Le.ite (fun _=>sto _ _ _) fun _=>Le.ite (fun _=>sto _ _ _) fun _=>Le.ite (fun _=>sto _ _ _) fun _=>Le.ite (fun _=>Le.rb (ex _ _ _) fun _ _ _=>Le.refl _) fun _ =>
    Le.ite (fun _=> ?_) fun _=>Le.ite (fun _=>Le.rb (ex _ _ _) fun _ _ _=>Le.rb (ih _ _ _) fun _ _ _=>Le.refl _) fun _=>Le.ite (fun _=>Le.rb (ih _ _ _) fun _ _ _=>Le.refl _) fun _ =>
    Le.ite (fun _=>Le.rb (ex _ _ _) fun _ _ _=>Le.rb (Le.refl _) fun _ _ _=>Le.rb (ih _ _ _) fun _ _ _=>Le.refl _) fun _=>Le.refl _
   exact Le.rb (ex _ _ _) fun _ _ _=>Le.rb (ih _ _ _) fun _ _ _=>Le.ite (fun _=>Le.rb (ih _ _ _) fun _ _ _=>Le.refl _) fun _=>Le.refl _
  | li l=>rw[stM,stM];exact Le.ite (fun _=>Le.refl _) fun _=>Le.rb (ih _ _ _) fun _ _ _=>ih _ _ _
  | br=>rw[stM,stM];exact Le.rb (Le.refl _) fun _ _ _=>Le.rb (ih _ _ _) fun _ _ _=>Le.refl _
  | ca c=>rw[stM,stM];exact Le.ite (fun _=>Le.ite (fun _=>Le.rb (ih _ _ _) fun _ _ _=>ih _ _ _) fun _=>Le.refl _) fun _=>Le.refl _
theorem Iw(f a o:Nat):Le (xL ts f a o) (xL ts (f+1) a o) :=
 Le.rb (Le.refl _) fun _ _ _=>Le.rb (Le.refl _) fun _ _ _=>Le.rb (Le.refl _) fun _ _ _=>Le.rb (EQ ts _ _ _ _) fun _ _ _=>Le.refl _
theorem Zm: ∀f l a o,Le (vasM ts f l a o) (vasM ts (f+1) l a o):=by
 intro f
 induction f with
 | zero=>intro l a o z h;cases h
 | succ f ih=>intro l a o;rw[vasM,vasM];exact Le.ite (fun _=>Le.rb (Iw ts _ _ _) fun _ _ _=>ih _ _ _) fun _=>Le.refl _
theorem Jz(f a o:Nat):Le (funM ts f a o) (funM ts (f+1) a o) :=
 Le.rb (Le.refl _) fun _ _ _=>Le.rb (Le.refl _) fun _ _ _=>Le.rb (Le.refl _) fun _ _ _=>Le.rb (Zm ts _ _ _ _) fun _ _ _=>Le.rb (GA ts _ _ _ _) fun _ _ _=>Le.refl _
theorem Zr: ∀f u a o,Le (uniM ts f u a o) (uniM ts (f+1) u a o):=by
 intro f
 induction f with
 | zero=>intro u a o z h;cases h
 | succ f ih =>
  intro u a o;rw[uniM,uniM];exact Le.ite (fun _=>Le.refl _) fun _=>Le.ite (fun _=>Le.rb (Iw ts _ _ _) fun _ _ _=>ih _ _ _) fun _=>Le.ite (fun _=>Le.rb (Le.refl _) fun _ _ _=>ih _ _ _) fun _=>Le.ite (fun _=>Le.rb (Jz ts _ _ _) fun _ _ _=>ih _ _ _) fun _=>Le.refl _
theorem OT{α:Type}{r:Nat→Option (Rs α)}(hm: ∀f,Le (r f) (r (f+1))){f F:Nat}{y z:Rs α}(h1:r f=some y)(h2: ∀g,F≤g→r g=some z):y=z:=by
 have up: ∀d,r (f+d)=some y:=by
  intro d
  induction d with
  | zero=>exact h1
  | succ d ih=>exact hm _ _ ih
 have e1:=up F
 have e2:=h2 (f+F) (by omega)
 rw[e1]at e2
 exact Option.some.inj e2
end
end Go.Proofs.YtmbmmckagcdapaaGreatDoor
