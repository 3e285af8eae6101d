import Derived.Test.YtmbmmckagcdapaaGreatDoorQ24
set_option linter.all false
namespace Go.Proofs.YtmbmmckagcdapaaGreatDoor
inductive StF:Nd→Prop
 | asg (n:ByteArray) (a:Ex) (hn:nameT n=true) (ha:efm a=true):StF (.mk 1 0 n [a] [] [] [])
 | sto (w:Int) (a b:Ex) (hw:w=1∨w=2∨w=4) (ha:efm a=true) (hb:efm b=true):StF (.mk 2 w ByteArray.empty [a,b] [] [] [])
 | inp (n:ByteArray) (hn:nameT n=true):StF (.mk 3 0 n [] [] [] [])
 | out (a:Ex) (ha:efm a=true):StF (.mk 4 0 ByteArray.empty [a] [] [] [])
 | nam (k:Int) (n:ByteArray) (hk:k=5∨k=12) (hn:nameT n=true):StF (.mk k 0 n [] [] [] [])
 | lab (n:ByteArray) (hn:nameT n=true):StF (.mk 13 0 n [] [] [] [])
 | smp (k:Int) (hk:k=10∨k=11∨k=14∨k=15):StF (.mk k 0 ByteArray.empty [] [] [] [])
 | iff (a:Ex) (l el:List Nd) (ha:efm a=true):StF (.mk 6 0 ByteArray.empty [a] l el [])
 | whl (a:Ex) (l:List Nd) (ha:efm a=true):StF (.mk 7 0 ByteArray.empty [a] l [] [])
 | lop (l:List Nd):StF (.mk 8 0 ByteArray.empty [] l [] [])
 | swi (a:Ex) (cs:List (List Nd)) (ha:efm a=true) (h1:1≤cs.length) (h2:cs.length≤64):StF (.mk 9 0 ByteArray.empty [a] [] [] cs)
theorem Qb{l:List Ex}(h:(l.length:Int)=1): ∃a,l=[a]:=yZ h
theorem YF{l:List Ex}(h:(l.length:Int)=2): ∃a b,l=[a,b]:=ER h
theorem Ez{t:Nd}(h:stT t=true):StF t:=by
 unfold stT at h
 simp only[Bool.and_eq_true,decide_eq_true_eq,List.all_eq_true]at h
 obtain⟨⟨⟨⟨⟨⟨⟨⟨h1,h2⟩,h3⟩,h4⟩,h5⟩,h6⟩,h7⟩,h8⟩,h9⟩:=h
 obtain⟨k,w,n,e,l,el,cs⟩:=t
 simp only[Nd.kind,Nd.e,Nd.l,Nd.el,Nd.cs,Nd.width,Nd.name]at h1 h2 h3 h4 h5 h6 h7 h8 h9
 have hk:k=1∨k=2∨k=3∨k=4∨k=5∨k=6∨k=7∨k=8∨k=9∨k=10∨k=11∨k=12∨k=13∨k=14∨k=15:=by omega
 rcases hk with rfl|rfl|rfl|rfl|rfl|rfl|rfl|rfl|rfl|rfl|rfl|rfl|rfl|rfl|rfl<;>simp[nE,nmd,lst,wO]at h3 h4 h5 h6 h7 h8
 ·obtain⟨a,rfl⟩:=Qb h3
  subst h5 h6 h7 h8;exact .asg _ _ h4 (h9 a (by simp))
 ·obtain⟨a,b,rfl⟩:=YF h3
  subst h4;subst h5 h6 h8;exact .sto _ _ _ (by omega) (h9 a (by simp)) (h9 b (by simp))
 ·subst h3 h5 h6 h7 h8
  exact .inp _ h4
 ·obtain⟨a,rfl⟩:=Qb h3
  subst h4;subst h5 h6 h7 h8;exact .out _ (h9 a (by simp))
 ·subst h3 h5 h6 h7 h8
  exact .nam 5 _ (by simp) h4
 ·obtain⟨a,rfl⟩:=Qb h3
  subst h4;subst h7 h8;exact .iff _ _ _ (h9 a (by simp))
 ·obtain⟨a,rfl⟩:=Qb h3
  subst h4;subst h6 h7 h8;exact .whl _ _ (h9 a (by simp))
 ·subst h4
  subst h3 h6 h7 h8;exact .lop _
 ·obtain⟨a,rfl⟩:=Qb h3
  subst h4;subst h5 h6 h7;exact .swi _ _ (h9 a (by simp)) (of_decide_eq_true h8.1) (of_decide_eq_true h8.2)
 ·subst h4
  subst h3 h5 h6 h7 h8;exact .smp 10 (by simp)
 ·subst h4
  subst h3 h5 h6 h7 h8;exact .smp 11 (by simp)
 ·subst h3 h5 h6 h7 h8
  exact .nam 12 _ (by simp) h4
 ·subst h3 h5 h6 h7 h8
  exact .lab _ h4
 ·subst h4
  subst h3 h5 h6 h7 h8;exact .smp 14 (by simp)
 ·subst h4
  subst h3 h5 h6 h7 h8;exact .smp 15 (by simp)
theorem Ri: ∀n:Nat,digV 10 0 (Lib.decDigits n)=some n∧Lib.decDigits n≠[]∧(∀c∈Lib.decDigits n,isD c=true)∧(1≤n→(Lib.decDigits n).head? ≠some 48):=by
 have k1: ∀d<10,digV 10 0 [UInt8.ofNat (48+d)]=some d∧isD (UInt8.ofNat (48+d))=true∧(1≤d→UInt8.ofNat (48+d)≠48)∧hexv (UInt8.ofNat (48+d))=some d:=by decide
 intro n
 induction n using Nat.strongRecOn with
 | _ n ih =>
 rw[Lib.decDigits]
 by_cases h:n<10
 ·rw[dif_pos h]
  obtain⟨q1,q2,q3,_⟩:=k1 n h;exact⟨q1,by simp,fun c hc=>by rw[List.mem_singleton]at hc;rw[hc];exact q2,fun hn e=>q3 hn (by simpa using e)⟩
 ·rw[dif_neg h]
  obtain⟨i1,i2,i3,i4⟩:=ih (n/10) (by omega)
  obtain⟨q1,q2,q3,q4⟩:=k1 (n%10) (by omega)
  refine⟨?_,by simp,fun c hc=> ?_,fun hn=> ?_⟩
  ·rw[Rf,i1]
   show digV 10 (n/10) [UInt8.ofNat (48+n%10)]=_
   rw[digV,q4];show(if n%10<10 then digV 10 (n/10*10+n%10) []else none)=_
   rw[if_pos (by omega)]
   show some _=_
   congr 1
   omega
  ·rcases List.mem_append.1 hc with hc|hc
   ·exact i3 c hc
   ·rw[List.mem_singleton]at hc;rw[hc];exact q2
  ·cases hd:Lib.decDigits (n/10)with
   | nil=>exact absurd hd i2
   | cons c r =>
    rw[hd]at i4;exact i4 (by omega)
theorem YV{c:UInt8}(h:isD c=true):isW c=true:=by unfold isW;rw[h,Bool.or_true]
theorem YW: ∀c:UInt8,isD c=true→isL c=false:=fun c h=>by
 unfold isD at h
 unfold isL
 rw[decide_eq_true_eq]at h
 rw[decide_eq_false_iff_not]
 omega
theorem EH{n:Nat}(hn:n<4294967296):valP (Lib.decDigits n)=some n:=by
 obtain⟨i1,i2,i3,i4⟩:=Ri n
 unfold valP
 rw[if_neg ?_,if_neg ?_,i1]
 ·show(if n<4294967296 then some n else none)=_
  rw[if_pos hn]
 ·rintro(h|⟨h1,h2⟩)
  ·exact i2 (List.length_eq_zero_iff.1 h)
  ·by_cases h3:n<10
   ·rw[Lib.decDigits,dif_pos h3]at h1
    simp at h1
   ·exact i4 (by omega) h2
 ·intro h
  obtain⟨x,hx⟩:=jV.1 h;have:=i3 120 (by rw[hx];simp)
  revert this
  decide
theorem Sc.itoa{n:Nat}{s:Bs}{l:List Tk}(hn:n<4294967296)(hs:nW s=true)(h:Sc s l):Sc (Lib.itoa (n:Int)++s) (nuT n::l):=by
 obtain⟨i1,i2,i3,i4⟩:=Ri n
 have e:Lib.itoa (n:Int)=Lib.decDigits n:=by
  unfold Lib.itoa;rw[if_neg (by omega),Int.toNat_natCast]
 rw[e]
 have hh:(Lib.decDigits n).head?.elim false isL=false:=by
  cases hd:Lib.decDigits n with
  | nil=>exact absurd hd i2
  | cons c r=>exact YW c (i3 c (by rw[hd];simp))
 have nk:isK (Lib.decDigits n)=false:=by
  rw[←Bool.not_eq_true,wE];intro hm;rw[(zD _ hm).1]at hh;cases hh
 refine Sc.word i2 (fun c hc=>YV (i3 c hc)) hs ?_ h
 unfold namP
 rw[if_neg (by rw[nk];decide),if_neg (by rw[hh];decide),EH hn]
 rfl
def exK(l:List Ex)(i:Nat):List Tk:=match l[i]? with
 | some x=>tkE x
 | none=>[]
def simK(t:Nd):List Tk :=
 if t.kind=1 then idT t.name.data.toList::opT [61]::(exK t.e 0++[opT [59]])
 else if t.kind=2 then kwT ([115,116,111,114,101]++wB t.width)::opT [40]::(exK t.e 0++opT [44]::(exK t.e 1++[opT [41],opT [59]]))
 else if t.kind=3 then [idT t.name.data.toList,opT [61],kwT [105,110],opT [59]]
 else if t.kind=4 then kwT [111,117,116]::(exK t.e 0++[opT [59]])
 else if t.kind=5 then [kwT [99,97,108,108],idT t.name.data.toList,opT [59]]
 else if t.kind=12 then [kwT [103,111,116,111],idT t.name.data.toList,opT [59]]
 else if t.kind=13 then [idT t.name.data.toList,opT [58]]
 else if t.kind=10 then [kwT [98,114,101,97,107],opT [59]]
 else if t.kind=11 then [kwT [99,111,110,116,105,110,117,101],opT [59]]
 else if t.kind=14 then [kwT [114,101,116,117,114,110],opT [59]]
 else [kwT [104,97,108,116],opT [59]]
def brK(r:List Tk):List Tk:=opT [123]::(r++[opT [125]])
def caK(p:List Tk×Nat):List Tk:=kwT [99,97,115,101]::nuT p.2::brK p.1
def YT(t:Nd)(r1 r2:List (List Tk))(r3:List (List (List Tk))):List Tk :=
 if t.kind=6 then kwT [105,102]::(exK t.e 0++brK r1.flatten++(if r2.length=0 then []else kwT [101,108,115,101]::brK r2.flatten))
 else if t.kind=7 then kwT [119,104,105,108,101]::(exK t.e 0++brK r1.flatten)
 else if t.kind=8 then kwT [108,111,111,112]::brK r1.flatten
 else if t.kind=9 then kwT [115,119,105,116,99,104]::(exK t.e 0++brK (((r3.map List.flatten).zipIdx.map caK).flatten))
 else simK t
def ndK:Nd→List Tk:=Nd.para YT
theorem eG(k w:Int)(n:ByteArray)(e:List Ex)(l el:List Nd)(cs:List (List Nd)):ndK (.mk k w n e l el cs)=YT (.mk k w n e l el cs) (l.map ndK) (el.map ndK) (cs.map (List.map ndK)):=by
 unfold ndK
 rw[Nd.para_mk]
def lsK(l:List Nd):List Tk:=(l.map ndK).flatten
def csK(cs:List (List Nd))(i:Nat):List Tk:=((cs.zipIdx i).map fun p=>caK (lsK p.1,p.2)).flatten
theorem PY(i:Nat):csK [] i=[]:=rfl
theorem Gx(c:List Nd)(cs:List (List Nd))(i:Nat):csK (c::cs) i=caK (lsK c,i)++csK cs (i+1):=by
 unfold csK
 rw[List.zipIdx_cons,List.map_cons,List.flatten_cons]
theorem Mc:lsK []=[]:=rfl
theorem zC(t:Nd)(l:List Nd):lsK (t::l)=ndK t++lsK l:=by unfold lsK;rw[List.map_cons,List.flatten_cons]
theorem VG(a:Ex)(l el:List Nd):ndK (.mk 6 0 ByteArray.empty [a] l el [])=kwT [105,102]::(tkE a++brK (lsK l)++(if el.length=0 then []else kwT [101,108,115,101]::brK (lsK el))):=by
 have hl:(el.map ndK).length=el.length:=List.length_map _
 rw[eG,←hl];rfl
theorem VF(a:Ex)(l:List Nd):ndK (.mk 7 0 ByteArray.empty [a] l [] [])=kwT [119,104,105,108,101]::(tkE a++brK (lsK l)):=by rw[eG];rfl
theorem VE(l:List Nd):ndK (.mk 8 0 ByteArray.empty [] l [] [])=kwT [108,111,111,112]::brK (lsK l):=by rw[eG];rfl
theorem VD(a:Ex)(cs:List (List Nd)):ndK (.mk 9 0 ByteArray.empty [a] [] [] cs)=kwT [115,119,105,116,99,104]::(tkE a++brK (csK cs 0)):=by
 rw[eG]
 have:(((cs.map (List.map ndK)).map List.flatten).zipIdx.map caK).flatten=csK cs 0:=by
  unfold csK;rw[List.map_map,List.zipIdx_map,List.map_map];rfl
 rw[←this];rfl
theorem Jm: ∀k,∀c∈Lib.repeatL [32,32] k,isS c=true
 | 0,c,h=>by cases h
 | k+1,c,h=>by
  rcases List.mem_append.1 h with h|h
  ·simp at h;rw[h];decide
  ·exact Jm k c h
theorem Sc.line{k:Nat}{x s:Bs}{l:List Tk}(h:Sc (x++10::s) l):Sc (lnT k x++s) l:=by
 unfold lnT
 rw[List.append_assoc,List.append_assoc]
 exact Sc.blanks _ (Jm k) h
theorem Sc.nl{s:Bs}{l:List Tk}(h:Sc s l):Sc (10::s) l:=Sc.blank (by decide) h
theorem Sc.sp{s:Bs}{l:List Tk}(h:Sc s l):Sc (32::s) l:=Sc.blank (by decide) h
theorem Ud{a:Ex}(ha:efm a=true)(hn:n32 a=true){s:Bs}{l:List Tk}(hs:nW s=true)(h:Sc s l):Sc (txE a++s) (tkE a++l):=(YJ a ha hn).2 s l hs h
theorem GO{s:Bs}{l:List Tk}(h:Sc s l):Sc (61::32::s) (opT [61]::l):=Sc.opS (op:=[61]) (by decide) (Sc.sp h)
theorem Wz{w:Int}(h:w=1∨w=2∨w=4):isK ([115,116,111,114,101]++wB w)=true:=by rcases h with rfl|rfl|rfl<;>decide
def exA(p:Ex→Bool):Nd→Bool:=Nd.para fun t a b c=>t.e.all p&&(a.all id&&(b.all id&&c.all fun r=>r.all id))
theorem Mr(p:Ex→Bool)(k w:Int)(n:ByteArray)(e:List Ex)(l el:List Nd)(cs:List (List Nd)):exA p (.mk k w n e l el cs)=(e.all p&&(l.all (exA p)&&(el.all (exA p)&&cs.all fun c=>c.all (exA p)))):=by
 have h:exA p (.mk k w n e l el cs)=_:=Nd.para_mk _ k w n e l el cs
 rw[h]
 simp only[List.all_map,Function.comp_def,id_eq]
 rfl
theorem IX{p q:Ex→Bool}(h: ∀e,p e=true→q e=true): ∀t,exA p t=true→exA q t=true:=by
 refine Nd.induct fun k w n e l el cs i1 i2 i3=> ?_
 intro hp
 rw[Mr]at hp ⊢
 simp only[Bool.and_eq_true,List.all_eq_true]at hp ⊢
 obtain⟨h0,h1,h2,h3⟩:=hp
 exact⟨fun x hx=>h x (h0 x hx),fun t ht=>i1 t ht (h1 t ht),fun t ht=>i2 t ht (h2 t ht),fun c hc t ht=>i3 c hc t ht (h3 c hc t ht)⟩
def n32T:Nd→Bool:=exA n32
theorem OC(k w:Int)(n:ByteArray)(e:List Ex)(l el:List Nd)(cs:List (List Nd)):n32T (.mk k w n e l el cs)=(e.all n32&&(l.all n32T&&(el.all n32T&&cs.all fun c=>c.all n32T))):=Mr n32 k w n e l el cs
def ScN(t:Nd):Prop:= ∀k s l,Sc s l→Sc (ndT t k++s) (ndK t++l)
theorem Fd: ∀(l:List Nd),(∀t∈l,ScN t)→ ∀k s r,Sc s r→Sc (lsT l k++s) (lsK l++r)
 | [],_,k,s,r,h=>h
 | t::l,hl,k,s,r,h=>by
  have e1:lsT (t::l) k++s=ndT t k++(lsT l k++s):=by unfold lsT;rw[List.map_cons,List.flatten_cons,List.append_assoc]
  rw[e1,zC,List.append_assoc];exact hl t (by simp) k _ _ (Fd l (fun x hx=>hl x (by simp[hx])) k s r h)
theorem SG: ∀(cs:List (List Nd)) (i k:Nat),(∀c∈cs,∀t∈c,ScN t)→i+cs.length≤65536→ ∀s r,Sc s r→Sc (((cs.zipIdx i).map (caS k)).flatten++s) (csK cs i++r)
 | [],i,k,_,_,s,r,h=>h
 | c::cs,i,k,hc,hi,s,r,h=>by
  rw[List.length_cons]at hi;rw[List.zipIdx_cons,List.map_cons,List.flatten_cons,List.append_assoc,Gx,List.append_assoc];have ih:=SG cs (i+1) k (fun x hx=>hc x (by simp[hx])) (by omega) s r h
  generalize ((cs.zipIdx (i+1)).map (caS k)).flatten++s=S at ih ⊢;unfold caS caK brK;simp only[List.append_assoc,List.cons_append,List.nil_append];refine Sc.line ?_;simp only[List.append_assoc,List.cons_append,List.nil_append];refine Sc.kw (w:=[99,97,115,101]) (by decide) rfl (Sc.sp ?_)
  refine Sc.itoa (by omega) rfl (Sc.sp (Sc.op (by decide) (Sc.nl ?_)))
  refine Fd c (hc c (by simp)) (k+2) _ _ ?_
  exact Sc.line (Sc.op (by decide) (Sc.nl ih))
theorem YI: ∀t:Nd,okT t=true→n32T t=true→ScN t:=by
 refine Nd.induct fun k w n e l el cs i1 i2 i3=> ?_
 intro hok hn j s r h
 rw[Ax]at hok
 rw[OC]at hn
 simp only[Bool.and_eq_true,List.all_eq_true]at hok hn
 obtain⟨hs,o1,o2,o3⟩:=hok
 obtain⟨n0,n1,n2,n3⟩:=hn
 have j1: ∀t∈l,ScN t:=fun t ht=>i1 t ht (o1 t ht) (n1 t ht)
 have j2: ∀t∈el,ScN t:=fun t ht=>i2 t ht (o2 t ht) (n2 t ht)
 have j3: ∀c∈cs,∀t∈c,ScN t:=fun c hc t ht=>i3 c hc t ht (o3 c hc t ht) (n3 c hc t ht)
 clear i1 i2 i3 o1 o2 o3 n1 n2 n3
 have hv:=Ez hs
 clear hs
 generalize hT:Nd.mk k w n e l el cs=T at hv
 have sim:ndT T=(fun j=>lnT j (simT T))→ndK T=simK T→Sc (simT T++10::s) (simK T++r)→Sc (ndT T j++s) (ndK T++r):=fun e1 e2 h=>by rw[e1,e2];exact Sc.line h
 cases hv with
 | asg n a h1 ha =>
  cases hT
  refine sim (by rw[kH];rfl) (by rw[eG];rfl) ?_
  show Sc ((n.data.toList++([32,61,32]++(txE a++[59])))++10::s) ((idT n.data.toList::opT [61]::(tkE a++[opT [59]]))++r)
  simp only[List.append_assoc,List.cons_append,List.nil_append];exact Sc.name h1 rfl (Sc.sp (GO (Ud ha (n0 a (by simp)) rfl (Sc.op (by decide) (Sc.nl h)))))
 | sto w a b hw ha hb =>
  cases hT
  refine sim (by rw[kH];rfl) (by rw[eG];rfl) ?_
  show Sc (([115,116,111,114,101]++(wB w++([40]++(txE a++([44,32]++(txE b++[41,59]))))))++10::s) ((kwT ([115,116,111,114,101]++wB w)::opT [40]::(tkE a++opT [44]::(tkE b++[opT [41],opT [59]])))++r)
  have:=Sc.kw (Wz hw) (s:=40::(txE a++44::32::(txE b++41::59::10::s))) rfl (Sc.op (by decide) (Ud ha (n0 a (by simp)) rfl (Sc.op (by decide) (Sc.sp (Ud hb (n0 b (by simp)) rfl (Sc.op (by decide) (Sc.op (by decide) (Sc.nl h))))))))
  simp only[List.append_assoc,List.cons_append,List.nil_append]at this ⊢;exact this
 | inp n h1 =>
  cases hT
  refine sim (by rw[kH];rfl) (by rw[eG];rfl) ?_
  show Sc ((n.data.toList++[32,61,32,105,110,59])++10::s) ([idT n.data.toList,opT [61],kwT [105,110],opT [59]]++r)
  simp only[List.append_assoc,List.cons_append,List.nil_append];exact Sc.name h1 rfl (Sc.sp (GO (Sc.kw (w:=[105,110]) (by decide) rfl (Sc.op (by decide) (Sc.nl h)))))
 | out a ha =>
  cases hT
  refine sim (by rw[kH];rfl) (by rw[eG];rfl) ?_
  show Sc (([111,117,116,32]++(txE a++[59]))++10::s) ((kwT [111,117,116]::(tkE a++[opT [59]]))++r)
  simp only[List.append_assoc,List.cons_append,List.nil_append];exact Sc.kw (w:=[111,117,116]) (by decide) rfl (Sc.sp (Ud ha (n0 a (by simp)) rfl (Sc.op (by decide) (Sc.nl h))))
 | nam k n hk h1 =>
  cases hT
  rcases hk with rfl|rfl
  ·refine sim (by rw[kH];rfl) (by rw[eG];rfl) ?_
   show Sc (([99,97,108,108,32]++(n.data.toList++[59]))++10::s) ([kwT [99,97,108,108],idT n.data.toList,opT [59]]++r)
   simp only[List.append_assoc,List.cons_append,List.nil_append];exact Sc.kw (w:=[99,97,108,108]) (by decide) rfl (Sc.sp (Sc.name h1 rfl (Sc.op (by decide) (Sc.nl h))))
  ·refine sim (by rw[kH];rfl) (by rw[eG];rfl) ?_
   show Sc (([103,111,116,111,32]++(n.data.toList++[59]))++10::s) ([kwT [103,111,116,111],idT n.data.toList,opT [59]]++r)
   simp only[List.append_assoc,List.cons_append,List.nil_append];exact Sc.kw (w:=[103,111,116,111]) (by decide) rfl (Sc.sp (Sc.name h1 rfl (Sc.op (by decide) (Sc.nl h))))
 | lab n h1 =>
  cases hT
  refine sim (by rw[kH];rfl) (by rw[eG];rfl) ?_
  show Sc ((n.data.toList++[58])++10::s) ([idT n.data.toList,opT [58]]++r)
  simp only[List.append_assoc,List.cons_append,List.nil_append];exact Sc.name h1 rfl (Sc.op (by decide) (Sc.nl h))
 | smp k hk =>
  cases hT
  rcases hk with rfl|rfl|rfl|rfl
  ·refine sim (by rw[kH];rfl) (by rw[eG];rfl) ?_
   exact Sc.kw (w:=[98,114,101,97,107]) (s:=59::10::s) (by decide) rfl (Sc.op (by decide) (Sc.nl h))
  ·refine sim (by rw[kH];rfl) (by rw[eG];rfl) ?_
   exact Sc.kw (w:=[99,111,110,116,105,110,117,101]) (s:=59::10::s) (by decide) rfl (Sc.op (by decide) (Sc.nl h))
  ·refine sim (by rw[kH];rfl) (by rw[eG];rfl) ?_
   exact Sc.kw (w:=[114,101,116,117,114,110]) (s:=59::10::s) (by decide) rfl (Sc.op (by decide) (Sc.nl h))
  ·refine sim (by rw[kH];rfl) (by rw[eG];rfl) ?_
   exact Sc.kw (w:=[104,97,108,116]) (s:=59::10::s) (by decide) rfl (Sc.op (by decide) (Sc.nl h))
 | iff a l el ha =>
  cases hT
  rw[nd6,VG];unfold brK;simp only[List.append_assoc,List.cons_append,List.nil_append];refine Sc.line ?_;simp only[List.append_assoc,List.cons_append,List.nil_append];refine Sc.kw (w:=[105,102]) (by decide) rfl (Sc.sp (Ud ha (n0 a (by simp)) rfl (Sc.sp (Sc.op (by decide) (Sc.nl ?_)))))
  refine Fd l j1 (j+1) _ _ ?_
  by_cases h0:el.length=0
  ·rw[if_pos h0,if_pos h0]
   exact Sc.line (Sc.op (by decide) (Sc.nl h))
  ·rw[if_neg h0,if_neg h0]
   simp only[List.append_assoc,List.cons_append,List.nil_append];refine Sc.line (Sc.op (c:=125) (s:=32::101::108::115::101::32::123::10::_) (by decide) (Sc.sp ?_))
   refine Sc.kw (w:=[101,108,115,101]) (by decide) rfl (Sc.sp (Sc.op (by decide) (Sc.nl ?_)))
   refine Fd el j2 (j+1) _ _ ?_;exact Sc.line (Sc.op (by decide) (Sc.nl h))
 | whl a l ha =>
  cases hT
  rw[nd7,VF];unfold brK;simp only[List.append_assoc,List.cons_append,List.nil_append];refine Sc.line ?_;simp only[List.append_assoc,List.cons_append,List.nil_append];refine Sc.kw (w:=[119,104,105,108,101]) (by decide) rfl (Sc.sp (Ud ha (n0 a (by simp)) rfl (Sc.sp (Sc.op (by decide) (Sc.nl ?_)))))
  refine Fd l j1 (j+1) _ _ ?_;exact Sc.line (Sc.op (by decide) (Sc.nl h))
 | lop l =>
  cases hT
  rw[nd8,VE];unfold brK;simp only[List.append_assoc,List.cons_append,List.nil_append];refine Sc.line ?_;refine Sc.kw (w:=[108,111,111,112]) (by decide) rfl (Sc.sp (Sc.op (by decide) (Sc.nl ?_)))
  refine Fd l j1 (j+1) _ _ ?_;exact Sc.line (Sc.op (by decide) (Sc.nl h))
 | swi a cs ha h1 h2 =>
  cases hT
  rw[nd9,VD];unfold brK;simp only[List.append_assoc,List.cons_append,List.nil_append];refine Sc.line ?_;simp only[List.append_assoc,List.cons_append,List.nil_append];refine Sc.kw (w:=[115,119,105,116,99,104]) (by decide) rfl (Sc.sp (Ud ha (n0 a (by simp)) rfl (Sc.sp (Sc.op (by decide) (Sc.nl ?_)))))
  refine SG cs 0 j j3 (by omega) _ _ ?_
  exact Sc.line (Sc.op (by decide) (Sc.nl h))
theorem bW{α β:Type}(x:α)(a o:Nat)(k:α→Nat→Nat→Option (Rs β)):rb (some (.ok x a o)) k=k x a o:=rfl
section
variable {ts:List Tk}
def EvS(ts:List Tk)(m:Md6)(a o:Nat)(z:Rs (List (List Nd))):Prop:= ∃F,∀f,F≤f→stM ts f m a o=some z
theorem Gq{e:Ex}(he:efm e=true)(hn:n32 e=true){a o:Nat}{s:Bs}{rest:List Tk}(hd:ts.drop a=tkE e++opT s::rest)(h0:(opR s).2=0)(ho:o+gE e≤256) :
  (∃F,∀f,F≤f→exM ts f (.ex 1) a o=some (.ok e (a+(tkE e).length) o))∧ts.drop (a+(tkE e).length)=opT s::rest:=by
 have h1:=kJ hd
 have hs: ∀l,stp l (pk ts (a+(tkE e).length)):=fun l=>by rw[cJ h1];exact .inl h0
 exact⟨((YO e he hn) a o _ hd ho).2 1 _ (hs _) (Ph _) (Gr (hs 1)),h1⟩
theorem NI{f a o:Nat}{r:List Tk}(h:ts.drop a=kwT [103,111,116,111]::r):stM ts (f+1) .st a o=(rb (nmM ts (a+1) o) fun n a o=>rb (expM ts [59] a o) fun _ a o=>ret (oneS (.mk 12 0 n [] [] [] [])) a o):=by
 rw[stM,if_neg (by rw[cJ h];decide)]
 rw[if_pos (by rw[bX h];decide)]
theorem NJ{f a o:Nat}{r:List Tk}(h:ts.drop a=kwT [99,97,108,108]::r):stM ts (f+1) .st a o=(rb (nmM ts (a+1) o) fun n a o=>rb (expM ts [59] a o) fun _ a o=>ret (oneS (.mk 5 0 n [] [] [] [])) a o):=by
 rw[stM,if_neg (by rw[cJ h];decide)]
 iterate 1 rw[if_neg (by rw[bX h];decide)]
 rw[if_pos (by rw[bX h];decide)]
theorem AS{f a o:Nat}{r:List Tk}(h:ts.drop a=kwT [115,116,111,114,101,49]::r):stM ts (f+1) .st a o=(mA ts f 1 (a+1) o):=by
 rw[stM,if_neg (by rw[cJ h];decide)]
 iterate 2 rw[if_neg (by rw[bX h];decide)]
 rw[if_pos (by rw[bX h];decide)]
theorem AQ{f a o:Nat}{r:List Tk}(h:ts.drop a=kwT [115,116,111,114,101,50]::r):stM ts (f+1) .st a o=(mA ts f 2 (a+1) o):=by
 rw[stM,if_neg (by rw[cJ h];decide)]
 iterate 3 rw[if_neg (by rw[bX h];decide)]
 rw[if_pos (by rw[bX h];decide)]
theorem AP{f a o:Nat}{r:List Tk}(h:ts.drop a=kwT [115,116,111,114,101,52]::r):stM ts (f+1) .st a o=(mA ts f 4 (a+1) o):=by
 rw[stM,if_neg (by rw[cJ h];decide)]
 iterate 4 rw[if_neg (by rw[bX h];decide)]
 rw[if_pos (by rw[bX h];decide)]
theorem TO{f a o:Nat}{r:List Tk}(h:ts.drop a=kwT [111,117,116]::r):stM ts (f+1) .st a o=(rb (exM ts f (.ex 1) (a+1) o) fun x a o=>rb (expM ts [59] a o) fun _ a o=>ret (oneS (.mk 4 0 ByteArray.empty [x] [] [] [])) a o):=by
 rw[stM,if_neg (by rw[cJ h];decide)]
 iterate 5 rw[if_neg (by rw[bX h];decide)]
 rw[if_pos (by rw[bX h];decide)]
theorem RZ{f a o:Nat}{r:List Tk}(h:ts.drop a=kwT [105,102]::r):stM ts (f+1) .st a o=(rb (exM ts f (.ex 1) (a+1) o) fun x a o=>rb (stM ts f .br a o) fun l a o=>if sees ts a [101,108,115,101]=true then rb (stM ts f .br (a+1) o) fun e a o=>ret (oneS (.mk 6 0 ByteArray.empty [x] (l.headD []) (e.headD []) [])) a o else ret (oneS (.mk 6 0 ByteArray.empty [x] (l.headD []) [] [])) a o):=by
 rw[stM,if_neg (by rw[cJ h];decide)]
 iterate 6 rw[if_neg (by rw[bX h];decide)]
 rw[if_pos (by rw[bX h];decide)]
theorem FV{f a o:Nat}{r:List Tk}(h:ts.drop a=kwT [119,104,105,108,101]::r):stM ts (f+1) .st a o=(rb (exM ts f (.ex 1) (a+1) o) fun x a o=>rb (stM ts f .br a o) fun l a o=>ret (oneS (.mk 7 0 ByteArray.empty [x] (l.headD []) [] [])) a o):=by
 rw[stM,if_neg (by rw[cJ h];decide)]
 iterate 7 rw[if_neg (by rw[bX h];decide)]
 rw[if_pos (by rw[bX h];decide)]
theorem NG{f a o:Nat}{r:List Tk}(h:ts.drop a=kwT [108,111,111,112]::r):stM ts (f+1) .st a o=(rb (stM ts f .br (a+1) o) fun l a o=>ret (oneS (.mk 8 0 ByteArray.empty [] (l.headD []) [] [])) a o):=by
 rw[stM,if_neg (by rw[cJ h];decide)]
 iterate 8 rw[if_neg (by rw[bX h];decide)]
 rw[if_pos (by rw[bX h];decide)]
theorem AO{f a o:Nat}{r:List Tk}(h:ts.drop a=kwT [115,119,105,116,99,104]::r):stM ts (f+1) .st a o=(rb (exM ts f (.ex 1) (a+1) o) fun x a o=>rb (begM ts [123] a o) fun _ a o=>rb (stM ts f (.ca []) a o) fun c a o=>ret (oneS (.mk 9 0 ByteArray.empty [x] [] [] c)) a o):=by
 rw[stM,if_neg (by rw[cJ h];decide)]
 iterate 9 rw[if_neg (by rw[bX h];decide)]
 rw[if_pos (by rw[bX h];decide)]
theorem FW{f a o:Nat}{r:List Tk}(h:ts.drop a=kwT [98,114,101,97,107]::r):stM ts (f+1) .st a o=(mB ts 10 (a+1) o):=by
 rw[stM,if_neg (by rw[cJ h];decide)]
 iterate 10 rw[if_neg (by rw[bX h];decide)]
 rw[if_pos (by rw[bX h];decide)]
theorem Pm{f a o:Nat}{r:List Tk}(h:ts.drop a=kwT [99,111,110,116,105,110,117,101]::r):stM ts (f+1) .st a o=(mB ts 11 (a+1) o):=by
 rw[stM,if_neg (by rw[cJ h];decide)]
 iterate 11 rw[if_neg (by rw[bX h];decide)]
 rw[if_pos (by rw[bX h];decide)]
theorem AT{f a o:Nat}{r:List Tk}(h:ts.drop a=kwT [114,101,116,117,114,110]::r):stM ts (f+1) .st a o=(mB ts 14 (a+1) o):=by
 rw[stM,if_neg (by rw[cJ h];decide)]
 iterate 12 rw[if_neg (by rw[bX h];decide)]
 rw[if_pos (by rw[bX h];decide)]
theorem NH{f a o:Nat}{r:List Tk}(h:ts.drop a=kwT [104,97,108,116]::r):stM ts (f+1) .st a o=(mB ts 15 (a+1) o):=by
 rw[stM,if_neg (by rw[cJ h];decide)]
 iterate 13 rw[if_neg (by rw[bX h];decide)]
 rw[if_pos (by rw[bX h];decide)]
theorem Lq{f a o:Nat}{s:Bs}{r:List Tk}(h:ts.drop a=idT s::r):stM ts (f+1) .st a o=Bc ts f a o:=by rw[stM,if_pos (by rw[cJ h];rfl)]
theorem Lr{a o:Nat}{k:Int}{r:List Tk}(h:ts.drop a=opT [59]::r):mB ts k a o=some (.ok (oneS (.mk k 0 ByteArray.empty [] [] [] [])) (a+1) o):=by
 unfold mB;rw[kI h,bW];rfl
theorem pU(n:ByteArray):strA n.data.toList=n:=rfl
def qE(e:Ex):Bool:=n32 e&&decide (gE e≤63)
theorem HJ{e:Ex}(h:qE e=true):n32 e=true∧gE e≤63:=by
 unfold qE at h;simpa using h
def room(o:Nat)(d:Int):Prop:=(o:Int)+2*d+62≤256
def RdN(ts:List Tk)(t:Nd):Prop:= ∀(a o:Nat) (rest:List Tk),ts.drop a=ndK t++rest→sees ts (a+(ndK t).length) [101,108,115,101]=false→room o (depT t)→EvS ts .st a o (.ok (oneS t) (a+(ndK t).length) o)
theorem TN{w:Int}(h:w=1∨w=2∨w=4):[115,116,111,114,101]++wB w≠[101,108,115,101]∧[115,116,111,114,101]++wB w≠[118,97,114]:=by rcases h with rfl|rfl|rfl<;>decide
theorem HT{t:Nd}(h:stT t=true): ∃x r,ndK t=x::r∧((∃w,x=kwT w∧isK w=true∧w≠[101,108,115,101]∧w≠[118,97,114])∨ ∃w,x=idT w):=by
 cases Ez h with
 | asg n a h1 ha=>rw[eG];exact⟨_,_,rfl,.inr ⟨_,rfl⟩⟩
 | sto w a b hw ha hb=>rw[eG];exact⟨_,_,rfl,.inl ⟨_,rfl,Wz hw,TN hw⟩⟩
 | inp n h1=>rw[eG];exact⟨_,_,rfl,.inr ⟨_,rfl⟩⟩
 | out a ha=>rw[eG];exact⟨_,_,rfl,.inl ⟨_,rfl,by decide,by decide,by decide⟩⟩
 | nam k n hk h1=>rcases hk with rfl|rfl<;>(rw[eG];exact⟨_,_,rfl,.inl ⟨_,rfl,by decide,by decide,by decide⟩⟩)
 | lab n h1=>rw[eG];exact⟨_,_,rfl,.inr ⟨_,rfl⟩⟩
 | smp k hk=>rcases hk with rfl|rfl|rfl|rfl<;>(rw[eG];exact⟨_,_,rfl,.inl ⟨_,rfl,by decide,by decide,by decide⟩⟩)
 | iff a l el ha=>rw[VG];exact⟨_,_,rfl,.inl ⟨_,rfl,by decide,by decide,by decide⟩⟩
 | whl a l ha=>rw[VF];exact⟨_,_,rfl,.inl ⟨_,rfl,by decide,by decide,by decide⟩⟩
 | lop l=>rw[VE];exact⟨_,_,rfl,.inl ⟨_,rfl,by decide,by decide,by decide⟩⟩
 | swi a cs ha h1 h2=>rw[VD];exact⟨_,_,rfl,.inl ⟨_,rfl,by decide,by decide,by decide⟩⟩
theorem Xo{t:Nd}(h:stT t=true){a:Nat}{rest:List Tk}(hd:ts.drop a=ndK t++rest):sees ts a [125]=false∧sees ts a [101,108,115,101]=false∧sees ts a [118,97,114]=false:=by
 obtain⟨x,r,hx,hc⟩:=HT h
 rw[hx,List.cons_append]at hd
 rcases hc with ⟨w,rfl,hk,hw,hv⟩|⟨w,rfl⟩
 ·rw[bX hd,bX hd,bX hd]
  refine⟨beq_eq_false_iff_ne.2 fun e=> ?_,beq_eq_false_iff_ne.2 hw,beq_eq_false_iff_ne.2 hv⟩
  rw[e]at hk;revert hk;decide
 ·exact⟨Dl hd _,Dl hd _,Dl hd _⟩
theorem Xs{l:List Nd}(hl: ∀t∈l,stT t=true){a:Nat}{rest:List Tk}(hd:ts.drop a=lsK l++opT [125]::rest):sees ts a [101,108,115,101]=false∧sees ts a [118,97,114]=false:=by
 cases l with
 | nil=>rw[eI (l:=rest) (by rw[hd,Mc];rfl),eI (l:=rest) (by rw[hd,Mc];rfl)];decide
 | cons t l =>
  rw[zC,List.append_assoc]at hd;exact(Xo (hl t (by simp)) hd).2
theorem SI: ∀(l:List Nd),(∀t∈l,RdN ts t∧stT t=true)→ ∀(acc:List Nd) (a o:Nat) (rest:List Tk),ts.drop a=lsK l++opT [125]::rest→room o (dep l)→EvS ts (.li acc) a o (.ok [acc++l] (a+(lsK l).length) o):=by
 intro l
 induction l with
 | nil =>
  intro _ acc a o rest hd _;refine⟨1,fun f hf=> ?_⟩
  cases f with
  | zero=>omega
  | succ f =>
   rw[stM,if_pos (by rw[eI (by rw[hd,Mc];rfl)];decide),List.append_nil]
   rfl
 | cons t l ih =>
  intro hl acc a o rest hd hr;rw[zC,List.append_assoc]at hd;obtain⟨h1,h2⟩:=hl t (by simp)
  have hd2:=kJ hd;have hdt:depT t≤dep (t::l):=wC (by simp)
  have hdl:dep l≤dep (t::l):=HW (sU _) fun x hx=>by
   obtain⟨y,hy,rfl⟩:=List.mem_map.1 hx;exact wC (by simp[hy])
  obtain⟨F,hF⟩:=h1 a o _ hd (Xs (fun t ht=>(hl t (by simp[ht])).2) hd2).1 (by unfold room at *;omega)
  obtain⟨G,hG⟩:=ih (fun t ht=>hl t (by simp[ht])) (acc++[t]) _ o rest hd2 (by unfold room at *;omega)
  refine⟨F+G+1,fun f hf=> ?_⟩
  cases f with
  | zero=>omega
  | succ f =>
   rw[stM,if_neg (by rw[(Xo h2 hd).1];decide),hF f (by omega),bW]
   show stM ts f (.li (acc++[t])) _ _=_
   rw[hG f (by omega),zC,List.length_append,List.append_assoc]
   congr 2
   omega
theorem Pw{l:List Nd}(hl: ∀t∈l,RdN ts t∧stT t=true){a o:Nat}{rest:List Tk}(hd:ts.drop a=brK (lsK l)++rest)(hr:room (o+1) (dep l)):EvS ts .br a o (.ok [l] (a+(brK (lsK l)).length) o)∧ts.drop (a+(brK (lsK l)).length)=rest:=by
 refine⟨?_,kJ hd⟩
 unfold brK at hd ⊢
 rw[List.cons_append,List.append_assoc]at hd
 have h1:=bY hd
 have h2:=kJ h1
 have:=sU l
 obtain⟨F,hF⟩:=SI l hl [] (a+1) (o+1) rest h1 hr
 refine⟨F+1,fun f hf=> ?_⟩
 cases f with
 | zero=>omega
 | succ f =>
  rw[stM,sY hd (by unfold room at hr;omega),bW,hF f (by omega),bW,Br h2,bW]
  show some (Rs.ok [[]++l] _ _)=_
  rw[List.nil_append]
  congr 2
  simp only[List.length_cons,List.length_append,List.length_nil];omega
theorem YP: ∀(cs:List (List Nd)),(∀c∈cs,∀t∈c,RdN ts t∧stT t=true)→ ∀(acc:List (List Nd)) (a o:Nat) (rest:List Tk),ts.drop a=csK cs acc.length++opT [125]::rest→(∀c∈cs,room (o+1) (dep c)) →
  EvS ts (.ca acc) a o (.ok (acc++cs) (a+(csK cs acc.length).length+1) (o-1)):=by
 intro cs
 induction cs with
 | nil =>
  intro _ acc a o rest hd _;refine⟨1,fun f hf=> ?_⟩
  cases f with
  | zero=>omega
  | succ f =>
   have hd:ts.drop a=opT [125]::rest:=by rw[hd,PY];rfl
   rw[stM,if_neg (by rw[eI hd];decide),Br hd,bW,List.append_nil]
   rfl
 | cons c cs ih =>
  intro hc acc a o rest hd hr;rw[Gx,List.append_assoc]at hd;have hd3:=kJ hd;unfold caK at hd;rw[List.cons_append,List.cons_append]at hd;have h1:=bY hd;have h2:=bY h1;obtain⟨⟨F,hF⟩,h3⟩:=Pw (hc c (by simp)) h2 (hr c (by simp))
  have hl:(acc++[c]).length=acc.length+1:=by simp
  have hd4:ts.drop (a+1+1+(brK (lsK c)).length)=csK cs (acc++[c]).length++opT [125]::rest:=by rw[h3,hl]
  obtain⟨G,hG⟩:=ih (fun x hx=>hc x (by simp[hx])) (acc++[c]) _ o rest hd4 (fun x hx=>hr x (by simp[hx]))
  refine⟨F+G+1,fun f hf=> ?_⟩
  cases f with
  | zero=>omega
  | succ f =>
   rw[stM,if_pos (by rw[bX hd];decide),if_pos (by rw[cJ h1];exact⟨rfl,rfl⟩),hF f (by omega),bW]
   show stM ts f (.ca (acc++[c])) _ _=_
   rw[hG f (by omega),Gx,hl,List.append_assoc]
   congr 2
   simp only[caK,List.length_cons,List.length_append];omega
theorem GN: ∀e:Ex,efm e=true→n32 e=true→ ∃x r,tkE e=x::r∧((∃s,x=idT s)∨(∃s,x=kwT s∧s≠[105,110])∨(∃s,x=opT s∧s≠[105,110])∨ ∃m,x=nuT m):=by
 intro e
 induction e using Ex.induct with
 | h o n s w l ih =>
 intro hf hn
 rw[vB,Bool.and_eq_true]at hf
 rw[Gd,Bool.and_eq_true,decide_eq_true_eq]at hn
 obtain⟨hb,hl⟩:=hf
 have hfm:=Uh hb
 generalize raw (.mk o n s w l)=rw0 at hfm
 cases hfm with
 | num h hs hw hl0=>subst h;rw[kC];exact⟨_,_,rfl,.inr (.inr (.inr ⟨_,rfl⟩))⟩
 | nam h hs hn0 hw hl0=>subst h;rw[kC];exact⟨_,_,rfl,.inl ⟨_,rfl⟩⟩
 | bin h hn0 hs hw x y hl0 =>
  subst hl0
  have e1:tkE (.mk o n s w [x,y])=mD x.op (tkE x) (stO o)++opT (oJ o)::mD y.op (tkE y) (stO o+1):=by
   rw[kC];unfold tkN;rw[if_neg (by omega),if_neg (by omega),if_neg (by omega),if_neg (by omega),if_neg (by omega),if_neg (by omega)]
   rfl
  rw[e1];unfold mD
  by_cases hc:strE x.op<stO o
  ·rw[if_pos hc];exact⟨_,_,rfl,.inr (.inr (.inl ⟨_,rfl,by decide⟩))⟩
  ·rw[if_neg hc]
   obtain⟨z,r,hz,h2⟩:=ih x (by simp) (List.all_eq_true.1 hl x (by simp)) (List.all_eq_true.1 hn.2 x (by simp))
   rw[hz];exact⟨z,_,rfl,h2⟩
 | un c h hn0 hs hw x hl0 =>
  subst hl0;rw[kC];rcases h with ⟨rfl,rfl⟩|⟨rfl,rfl⟩<;>exact⟨_,_,rfl,.inr (.inr (.inl ⟨_,rfl,by decide⟩))⟩
 | call q h hn0 hs hw x hl0 =>
  subst hl0;rw[kC];rcases h with ⟨rfl,rfl⟩|⟨rfl,rfl⟩<;>exact⟨_,_,rfl,.inr (.inl ⟨_,rfl,by rcases hw with rfl|rfl|rfl<;>decide⟩)⟩
theorem YL: ∀t:Nd,okT t=true→exA qE t=true→RdN ts t:=by
 refine Nd.induct fun k w n e l el cs i1 i2 i3=> ?_
 intro hok hn a o rest hd hel hr
 rw[Ax]at hok
 rw[Mr]at hn
 simp only[Bool.and_eq_true,List.all_eq_true]at hok hn
 obtain⟨hs,o1,o2,o3⟩:=hok
 obtain⟨n0,n1,n2,n3⟩:=hn
 have okS: ∀ {t:Nd},okT t=true→stT t=true:=fun {t} h=>by
  obtain⟨k,w,n,e,l,el,cs⟩:=t;rw[Ax,Bool.and_eq_true]at h;exact h.1
 have j1: ∀t∈l,RdN ts t∧stT t=true:=fun t ht=>⟨i1 t ht (o1 t ht) (n1 t ht),okS (o1 t ht)⟩
 have j2: ∀t∈el,RdN ts t∧stT t=true:=fun t ht=>⟨i2 t ht (o2 t ht) (n2 t ht),okS (o2 t ht)⟩
 have j3: ∀c∈cs,∀t∈c,RdN ts t∧stT t=true:=fun c hc t ht=>⟨i3 c hc t ht (o3 c hc t ht) (n3 c hc t ht),okS (o3 c hc t ht)⟩
 have d0:=Rh (.mk k w n e l el cs)
 have d1:1+dep l≤depT (.mk k w n e l el cs):=vR (t:= .mk k w n e l el cs) (by simp[subs,Nd.l])
 have d2:1+dep el≤depT (.mk k w n e l el cs):=vR (t:= .mk k w n e l el cs) (by simp[subs,Nd.el])
 have d3: ∀c∈cs,1+dep c≤depT (.mk k w n e l el cs):=fun c hc=>vR (t:= .mk k w n e l el cs) (by simp[subs,Nd.cs,hc])
 have hq:=fun x hx=>HJ (n0 x hx)
 unfold room at hr
 generalize depT (.mk k w n e l el cs)=D at hr d0 d1 d2 d3
 clear i1 i2 i3 o1 o2 o3 n0 n1 n2 n3
 have hv:=Ez hs
 clear hs
 generalize hT:Nd.mk k w n e l el cs=T at hv hd hel ⊢
 cases hv with
 | asg n x h1 ha =>
  cases hT
  obtain⟨q1,q2⟩:=hq x (by simp)
  have hk:ndK (.mk 1 0 n [x] [] [] [])=idT n.data.toList::opT [61]::(tkE x++[opT [59]]):=by rw[eG];rfl
  rw[hk]at hd ⊢;simp only[List.append_assoc,List.cons_append,List.nil_append]at hd;have h2:=bY hd;have h3:=bY h2;obtain⟨⟨F,hF⟩,h4⟩:=Gq ha q1 h3 (by decide) (o:=o) (by omega)
  refine⟨F+1,fun f hf=> ?_⟩
  cases f with
  | zero=>omega
  | succ f =>
   rw[Lq hd];unfold Bc;rw[Cq hd,bW,if_neg (by rw[eI h2];decide),kI h2,bW,if_neg ?_,hF f (by omega),bW,kI h4,bW,pU]
   ·show some _=some _
    congr 2
    simp only[List.length_cons,List.length_append,List.length_nil];omega
   ·have:sees ts (a+1+1) [105,110]=false:=by
     have hg:=(GN x ha q1);obtain⟨y,r,hy,hc⟩:=hg;rw[hy,List.cons_append]at h3;rcases hc with ⟨s,rfl⟩|⟨s,rfl,hs⟩|⟨s,rfl,hs⟩|⟨m,rfl⟩
     ·exact Dl h3 _
     ·rw[bX h3];exact beq_eq_false_iff_ne.2 hs
     ·rw[eI h3];exact beq_eq_false_iff_ne.2 hs
     ·unfold sees;rw[cJ h3];rfl
    rw[this];decide
 | sto w x y hw ha hb =>
  cases hT
  obtain⟨q1,q2⟩:=hq x (by simp)
  obtain⟨q3,q4⟩:=hq y (by simp)
  have hk:ndK (.mk 2 w ByteArray.empty [x,y] [] [] [])=kwT ([115,116,111,114,101]++wB w)::opT [40]::(tkE x++opT [44]::(tkE y++[opT [41],opT [59]])):=by rw[eG];rfl
  rw[hk]at hd ⊢;simp only[List.append_assoc,List.cons_append,List.nil_append]at hd;have h2:=bY hd;have h3:=bY h2;obtain⟨⟨F,hF⟩,h4⟩:=Gq ha q1 h3 (by decide) (o:=o+1) (by omega)
  have h5:=bY h4;obtain⟨⟨G,hG⟩,h6⟩:=Gq hb q3 h5 (by decide) (o:=o+1) (by omega)
  have h7:=bY h6
  have key: ∀f,F+G≤f→mA ts f w (a+1) o=some (.ok (oneS (.mk 2 w ByteArray.empty [x,y] [] [] [])) (a+(kwT ([115,116,111,114,101]++wB w)::opT [40]::(tkE x++opT [44]::(tkE y++[opT [41],opT [59]]))).length) o):=fun f hf=>by
   unfold mA;rw[sY h2 (by omega),bW,hF f (by omega),bW,kI h4,bW,hG f (by omega),bW,Br h6,bW,kI h7,bW]
   show some _=some _
   congr 2
   simp only[List.length_cons,List.length_append,List.length_nil];omega
  refine⟨F+G+1,fun f hf=> ?_⟩
  cases f with
  | zero=>omega
  | succ f =>
   rcases hw with rfl|rfl|rfl
   ·rw[AS hd];exact key f (by omega)
   ·rw[AQ hd];exact key f (by omega)
   ·rw[AP hd];exact key f (by omega)
 | inp n h1 =>
  cases hT
  have hk:ndK (.mk 3 0 n [] [] [] [])=[idT n.data.toList,opT [61],kwT [105,110],opT [59]]:=by rw[eG];rfl
  rw[hk]at hd ⊢;simp only[List.append_assoc,List.cons_append,List.nil_append]at hd;have h2:=bY hd;have h3:=bY h2;have h4:=bY h3;refine⟨1,fun f hf=> ?_⟩
  cases f with
  | zero=>omega
  | succ f =>
   rw[Lq hd];unfold Bc;rw[Cq hd,bW,if_neg (by rw[eI h2];decide),kI h2,bW,if_pos (by rw[bX h3];decide),kI h4,bW,pU]
   rfl
 | out x ha =>
  cases hT
  obtain⟨q1,q2⟩:=hq x (by simp)
  have hk:ndK (.mk 4 0 ByteArray.empty [x] [] [] [])=kwT [111,117,116]::(tkE x++[opT [59]]):=by rw[eG];rfl
  rw[hk]at hd ⊢;simp only[List.append_assoc,List.cons_append,List.nil_append]at hd;have h2:=bY hd;obtain⟨⟨F,hF⟩,h4⟩:=Gq ha q1 h2 (by decide) (o:=o) (by omega)
  refine⟨F+1,fun f hf=> ?_⟩
  cases f with
  | zero=>omega
  | succ f =>
   rw[TO hd,hF f (by omega),bW,kI h4,bW]
   show some _=some _
   congr 2
   simp only[List.length_cons,List.length_append,List.length_nil];omega
 | nam k n hk h1 =>
  cases hT
  rcases hk with rfl|rfl
  ·have hk:ndK (.mk 5 0 n [] [] [] [])=[kwT [99,97,108,108],idT n.data.toList,opT [59]]:=by rw[eG];rfl
   rw[hk]at hd ⊢;simp only[List.append_assoc,List.cons_append,List.nil_append]at hd;have h2:=bY hd;have h3:=bY h2;refine⟨1,fun f hf=> ?_⟩
   cases f with
   | zero=>omega
   | succ f =>
    rw[NJ hd,Cq h2,bW,kI h3,bW,pU];rfl
  ·have hk:ndK (.mk 12 0 n [] [] [] [])=[kwT [103,111,116,111],idT n.data.toList,opT [59]]:=by rw[eG];rfl
   rw[hk]at hd ⊢;simp only[List.append_assoc,List.cons_append,List.nil_append]at hd;have h2:=bY hd;have h3:=bY h2;refine⟨1,fun f hf=> ?_⟩
   cases f with
   | zero=>omega
   | succ f =>
    rw[NI hd,Cq h2,bW,kI h3,bW,pU];rfl
 | lab n h1 =>
  cases hT
  have hk:ndK (.mk 13 0 n [] [] [] [])=[idT n.data.toList,opT [58]]:=by rw[eG];rfl
  rw[hk]at hd ⊢;simp only[List.append_assoc,List.cons_append,List.nil_append]at hd;have h2:=bY hd;refine⟨1,fun f hf=> ?_⟩
  cases f with
  | zero=>omega
  | succ f =>
   rw[Lq hd];unfold Bc;rw[Cq hd,bW,if_pos (by rw[eI h2];decide),pU]
   rfl
 | smp k hk =>
  cases hT
  rcases hk with rfl|rfl|rfl|rfl
  ·have hk:ndK (.mk 10 0 ByteArray.empty [] [] [] [])=[kwT [98,114,101,97,107],opT [59]]:=by rw[eG];rfl
   rw[hk]at hd ⊢;simp only[List.append_assoc,List.cons_append,List.nil_append]at hd;have h2:=bY hd;refine⟨1,fun f hf=> ?_⟩
   cases f with
   | zero=>omega
   | succ f =>
    rw[FW hd,Lr h2];rfl
  ·have hk:ndK (.mk 11 0 ByteArray.empty [] [] [] [])=[kwT [99,111,110,116,105,110,117,101],opT [59]]:=by rw[eG];rfl
   rw[hk]at hd ⊢;simp only[List.append_assoc,List.cons_append,List.nil_append]at hd;have h2:=bY hd;refine⟨1,fun f hf=> ?_⟩
   cases f with
   | zero=>omega
   | succ f =>
    rw[Pm hd,Lr h2];rfl
  ·have hk:ndK (.mk 14 0 ByteArray.empty [] [] [] [])=[kwT [114,101,116,117,114,110],opT [59]]:=by rw[eG];rfl
   rw[hk]at hd ⊢;simp only[List.append_assoc,List.cons_append,List.nil_append]at hd;have h2:=bY hd;refine⟨1,fun f hf=> ?_⟩
   cases f with
   | zero=>omega
   | succ f =>
    rw[AT hd,Lr h2];rfl
  ·have hk:ndK (.mk 15 0 ByteArray.empty [] [] [] [])=[kwT [104,97,108,116],opT [59]]:=by rw[eG];rfl
   rw[hk]at hd ⊢;simp only[List.append_assoc,List.cons_append,List.nil_append]at hd;have h2:=bY hd;refine⟨1,fun f hf=> ?_⟩
   cases f with
   | zero=>omega
   | succ f =>
    rw[NH hd,Lr h2];rfl
 | iff x l el ha =>
  cases hT
  obtain⟨q1,q2⟩:=hq x (by simp)
  rw[VG]at hd hel ⊢;rw[List.cons_append,List.append_assoc,List.append_assoc]at hd;have h2:=bY hd;have h2':ts.drop (a+1)=tkE x++opT [123]::((lsK l++[opT [125]])++((if el.length=0 then []else kwT [101,108,115,101]::brK (lsK el))++rest)):=by rw[h2];rfl
  obtain⟨⟨F,hF⟩,h4⟩:=Gq ha q1 h2' (by decide) (o:=o) (by omega)
  obtain⟨⟨G,hG⟩,h5⟩:=Pw j1 (a:=a+1+(tkE x).length) (o:=o) (rest:=(if el.length=0 then []else kwT [101,108,115,101]::brK (lsK el))++rest) (by rw[h4];rfl) (by unfold room;omega)
  by_cases h0:el.length=0
  ·have he:el=[]:=List.length_eq_zero_iff.1 h0
   subst he;rw[if_pos h0,List.append_nil]at hel ⊢;rw[if_pos h0,List.nil_append]at h5;have hpos:a+(kwT [105,102]::(tkE x++brK (lsK l))).length=a+1+(tkE x).length+(brK (lsK l)).length:=by simp only[List.length_cons,List.length_append];omega
   rw[hpos]at hel ⊢;refine⟨F+G+1,fun f hf=> ?_⟩
   cases f with
   | zero=>omega
   | succ f =>
    rw[RZ hd,hF f (by omega),bW,hG f (by omega),bW,if_neg (by rw[hel];decide)]
    rfl
  ·rw[if_neg h0]at h5 hel ⊢
   rw[List.cons_append]at h5;have h6:=bY h5;obtain⟨⟨H,hH⟩,h7⟩:=Pw j2 (o:=o) h6 (by unfold room;omega)
   refine⟨F+G+H+1,fun f hf=> ?_⟩
   cases f with
   | zero=>omega
   | succ f =>
    rw[RZ hd,hF f (by omega),bW,hG f (by omega),bW,if_pos (by rw[bX h5];decide),hH f (by omega),bW]
    show some _=some _
    congr 2
    simp only[List.length_cons,List.length_append];omega
 | whl x l ha =>
  cases hT
  obtain⟨q1,q2⟩:=hq x (by simp)
  rw[VF]at hd ⊢;rw[List.cons_append,List.append_assoc]at hd;have h2:=bY hd;have h2':ts.drop (a+1)=tkE x++opT [123]::((lsK l++[opT [125]])++rest):=by rw[h2];rfl
  obtain⟨⟨F,hF⟩,h4⟩:=Gq ha q1 h2' (by decide) (o:=o) (by omega)
  obtain⟨⟨G,hG⟩,h5⟩:=Pw j1 (a:=a+1+(tkE x).length) (o:=o) (rest:=rest) (by rw[h4];rfl) (by unfold room;omega)
  refine⟨F+G+1,fun f hf=> ?_⟩
  cases f with
  | zero=>omega
  | succ f =>
   rw[FV hd,hF f (by omega),bW,hG f (by omega),bW]
   show some _=some _
   congr 2
   simp only[List.length_cons,List.length_append];omega
 | lop l =>
  cases hT
  rw[VE]at hd ⊢;rw[List.cons_append]at hd;have h2:=bY hd;obtain⟨⟨G,hG⟩,h5⟩:=Pw j1 (o:=o) h2 (by unfold room;omega)
  refine⟨G+1,fun f hf=> ?_⟩
  cases f with
  | zero=>omega
  | succ f =>
   rw[NG hd,hG f (by omega),bW]
   show some _=some _
   congr 2
   simp only[List.length_cons];omega
 | swi x cs ha h1 h2 =>
  cases hT
  obtain⟨q1,q2⟩:=hq x (by simp)
  rw[VD]at hd ⊢;unfold brK at hd ⊢;simp only[List.append_assoc,List.cons_append,List.nil_append]at hd;have h3:=bY hd;obtain⟨⟨F,hF⟩,h4⟩:=Gq ha q1 h3 (by decide) (o:=o) (by omega)
  have h5:=bY h4;obtain⟨G,hG⟩:=YP cs j3 [] _ (o+1) rest h5 (fun c hc=>by have:=d3 c hc;unfold room;omega)
  refine⟨F+G+1,fun f hf=> ?_⟩
  cases f with
  | zero=>omega
  | succ f =>
   rw[AO hd,hF f (by omega),bW,sY h4 (by omega),bW,hG f (by omega),bW]
   show some _=some _
   congr 2
   simp only[List.length_cons,List.length_append,List.length_nil];omega
end
end Go.Proofs.YtmbmmckagcdapaaGreatDoor
