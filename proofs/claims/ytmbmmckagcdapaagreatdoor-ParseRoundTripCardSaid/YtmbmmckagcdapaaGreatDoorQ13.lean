import Derived.Test.YtmbmmckagcdapaaGreatDoorQ11
import Derived.Deep.Slices
import Derived.Test.YtmbmmckagcdapaaGreatDoorRows
import Derived.ProofKit
import Derived.Below
import Derived.Carry
import Derived.WideShapes
import Derived.WideKeyArgs
import Derived.Deep.DeepHandedRow
import Derived.Shelf.Vars
import Derived.Test.YtmbmmckagcdapaaGreatDoorCards
import Derived.Test.YtmbmmckagcdapaaGreatDoorTie
import Derived.Lib.LaidTab
import Derived.Stop.LaidErr
import Derived.LaidLaws
import Derived.WideLaws
set_option linter.all false
namespace Go.Proofs.YtmbmmckagcdapaaGreatDoor
open Go.RowKit
mutual
def tyV:Ty→V
 | .mk _ k s c es fs=> .ag [.im (.int .i64 k),.im (.int .i64 s),.im (.int .i64 c),.sl (tyL es) .ro,.sl (fdL fs) .ro]
def fdV:Ty→V
 | .mk o k s c es fs=> .ag [.im (.int .i64 o),.im (.int .i64 k),.im (.int .i64 s),.im (.int .i64 c),.sl (tyL es) .ro,.sl (fdL fs) .ro]
def tyL:List Ty→List V
 | []=>[]
 | t::r=>tyV t::tyL r
def fdL:List Ty→List V
 | []=>[]
 | t::r=>fdV t::fdL r
end
theorem Ti: ∀l,tyL l=l.map tyV
 | []=>by simp[tyL]
 | t::r=>by simp[tyL,Ti r]
theorem Uv: ∀l,fdL l=l.map fdV
 | []=>by simp[fdL]
 | t::r=>by simp[fdL,Uv r]
theorem bM(t:Ty):tyV t= .ag [.im (.int .i64 t.kind),.im (.int .i64 t.size),.im (.int .i64 t.count),.sl (t.elem.map tyV) .ro,.sl (t.fields.map fdV) .ro]:=by
 cases t;simp[tyV,Ti,Uv,Ty.kind,Ty.size,Ty.count,Ty.elem,Ty.fields]
theorem mF(t:Ty):fdV t= .ag [.im (.int .i64 t.off),.im (.int .i64 t.kind),.im (.int .i64 t.size),.im (.int .i64 t.count),.sl (t.elem.map tyV) .ro,.sl (t.fields.map fdV) .ro]:=by
 cases t;simp[fdV,Ti,Uv,Ty.kind,Ty.size,Ty.count,Ty.elem,Ty.fields,Ty.off]
theorem eE(o k s c:Int)(es fs:List Ty):tyV (.mk o k s c es fs)= .ag [.im (.int .i64 k),.im (.int .i64 s),.im (.int .i64 c),.sl (es.map tyV) .ro,.sl (fs.map fdV) .ro]:=bM _
theorem VV(o k s c:Int)(es fs:List Ty):fdV (.mk o k s c es fs)= .ag [.im (.int .i64 o),.im (.int .i64 k),.im (.int .i64 s),.im (.int .i64 c),.sl (es.map tyV) .ro,.sl (fs.map fdV) .ro]:=mF _
theorem eS(t:Ty):(tyV t).isAg=true:=by rw[bM];rfl
theorem eX(t:Ty):(fdV t).isAg=true:=by rw[mF];rfl
theorem eR(t:Ty):(tyV t).live=true:=by rw[bM];rfl
theorem eB(t:Ty):(fdV t).live=true:=by rw[mF];rfl
theorem eT(t:Ty):(tyV t).firm=true:=by rw[bM];rfl
theorem eY(t:Ty):(fdV t).firm=true:=by rw[mF];rfl
theorem dL(g:Bool)(t:Ty):strip g (tyV t)=tyV t:=by rw[bM];rfl
theorem dN(g:Bool)(t:Ty):strip g (fdV t)=fdV t:=by rw[mF];rfl
theorem eQ(t:Ty):(tyV t).size=5:=by rw[bM];rfl
theorem eA(t:Ty):(fdV t).size=6:=by rw[mF];rfl
theorem dM(t:Ty):(tyV t).cells=[.im (.int .i64 t.kind),.im (.int .i64 t.size),.im (.int .i64 t.count),.sl (t.elem.map tyV) .ro,.sl (t.fields.map fdV) .ro]:=by rw[bM];rfl
theorem dO(t:Ty):(fdV t).cells=[.im (.int .i64 t.off),.im (.int .i64 t.kind),.im (.int .i64 t.size),.im (.int .i64 t.count),.sl (t.elem.map tyV) .ro,.sl (t.fields.map fdV) .ro]:=by rw[mF];rfl
theorem gH{α:Type}{p:Nat→Bool}{f:α→V}(h: ∀x,(f x).ids p=true): ∀l:List α,V.idsL p (l.map f)=true
 | []=>rfl
 | x::l=>by simp[V.idsL,h x,gH h l]
theorem jS{α:Type}{p:Nat→Bool}{f:α→V}: ∀l:List α,(∀x∈l,(f x).ids p=true)→V.idsL p (l.map f)=true
 | [],_=>rfl
 | x::l,h=>by simp[V.idsL,h x (by simp),jS l (fun y hy=>h y (by simp[hy]))]
theorem Ww(p:Nat→Bool): ∀t:Ty,(tyV t).ids p=true∧(fdV t).ids p=true:=by
 refine Ty.induct fun o k s c es fs hE hF=> ?_
 rw[eE,VV]
 simp[V.ids,V.idsL,jS es (fun x hx=>(hE x hx).1),jS fs (fun x hx=>(hF x hx).2)]
theorem bQ(p:Nat→Bool)(t:Ty):(tyV t).ids p=true:=(Ww p t).1
theorem bS(p:Nat→Bool)(t:Ty):(fdV t).ids p=true:=(Ww p t).2
theorem bR(p:Nat→Bool)(l:List Ty):V.idsL p (l.map tyV)=true:=gH (bQ p) l
theorem bT(p:Nat→Bool)(l:List Ty):V.idsL p (l.map fdV)=true:=gH (bS p) l
def I64(n:Int):Prop:= -9223372036854775808≤n∧n≤9223372036854775807
instance (n:Int):Decidable (I64 n):=by unfold I64;infer_instance
def AllTo{α:Type}(f:α→Bool)(l:List α)(m:Nat):Prop:= ∀j (hj:j<l.length),j<m→f l[j]=true
theorem AllTo.zero{α:Type}(f:α→Bool)(l:List α):AllTo f l 0:=fun _ _ h=>absurd h (Nat.not_lt_zero _)
theorem AllTo.succ{α:Type}{f:α→Bool}{l:List α}{m:Nat}(h:AllTo f l m)(hm:m<l.length)(hn:f l[m]=true):AllTo f l (m+1):=by
 intro j hj hlt
 rcases Nat.lt_succ_iff_lt_or_eq.1 hlt with h1|rfl
 ·exact h j hj h1
 ·exact hn
theorem AllTo.done{α:Type}{f:α→Bool}{l:List α}{m:Nat}(h:AllTo f l m)(hm:l.length≤m):l.all f=true:=by
 rw[List.all_eq_true]
 intro x hx
 obtain⟨j,hj,rfl⟩:=List.getElem_of_mem hx
 exact h j hj (Nat.lt_of_lt_of_le hj hm)
theorem pF{α:Type}{l:List α}{f:α→Bool}{j:Nat}(hj:j<l.length)(h:f l[j]=false):l.all f=false:=by
 rw[List.all_eq_false]
 exact⟨_,List.getElem_mem hj,by simp[h]⟩
theorem bB{α:Type}{l:List α}{m:Nat}(h:m<l.length):l[m]? =some l[m]:=List.getElem?_eq_getElem h
def BX:Ty→Bool:=Ty.para fun t re rf=>decide (I64 t.off∧I64 t.kind∧I64 t.size∧I64 t.count)&&decide (t.elem.length≤4194304)&&decide (t.fields.length≤4194304)&&re.all id&&rf.all id
def fit(t:Ty):Prop:=BX t=true
theorem pI{o k s c:Int}{es fs:List Ty}(h:fit (.mk o k s c es fs)):es.length≤4194304∧fs.length≤4194304∧(∀t∈es,fit t)∧ ∀t∈fs,fit t:=by
 have e:BX (.mk o k s c es fs)=_:=Ty.para_mk _ o k s c es fs
 unfold fit at h
 rw[e]at h
 simp only[Bool.and_eq_true,decide_eq_true_eq,Ty.elem,Ty.fields,List.all_map,List.all_eq_true]at h
 exact⟨of_decide_eq_true h.1.1.1.2,of_decide_eq_true h.1.1.2,h.1.2,h.2⟩
theorem OZ{o k s c:Int}{es fs:List Ty}(h:fit (.mk o k s c es fs)):I64 o∧I64 k∧I64 s∧I64 c:=by
 have e:BX (.mk o k s c es fs)=_:=Ty.para_mk _ o k s c es fs
 unfold fit at h
 rw[e]at h
 simp only[Bool.and_eq_true]at h
 exact of_decide_eq_true h.1.1.1.1
theorem qW{l:List Ent}{i:Nat}(h:ofl l i≠ .free):i<l.length:=by
 refine Nat.lt_of_not_le fun hle=>h ?_
 simp[ofl,List.getD,List.getElem?_eq_none hle]
theorem DC.enter{P:Program}{f:FuncId}{fn:Func}{c:Code}{xs:List V}{s:List (Nat×V)}{l0 l1:List Ent}{r:V}(N:Nat)(hf:P.funcs[f]? =some fn)(hb:fn.body=some c)(hn:fn.name≠ "runtime.NumGoroutine")(hN:fn.ntmps=N)(hx:Nat.ble xs.length N=true)(hs:enum 0 xs=s)
  (h:AWp P (ofl l0) c (Fin P fn (ofl l0) fun z st=>z=r∧st=ofl l1) ⟨dn N s,ofl l0⟩):DC P f xs l0 r l1:=by
 subst hs hN
 rw[←zL (by simpa using hx)]at h
 exact ACalls.enter hf hb hn h
theorem dcEnt{P:Program}{f:FuncId}{fn:Func}{c:Code}{xs:List V}{l0 l1:List Ent}{r:V}(N:Nat)(hf:P.funcs[f]? =some fn)(hb:fn.body=some c)(s:List (Nat×V))
  (h:AWp P (ofl l0) c (Fin P fn (ofl l0) fun z st=>z=r∧st=ofl l1) ⟨dn N s,ofl l0⟩) (hn:fn.name≠ "runtime.NumGoroutine" :=by decide) (hN:fn.ntmps=N:=by rfl) (hx:Nat.ble xs.length N=true:=by rfl) (hs:enum 0 xs=s:=by rfl):DC P f xs l0 r l1:=DC.enter N hf hb hn hN hx hs h
theorem Fv(l:List Ent)(n:Nat):(fun i=>if ltB n i then ofl l i else .free)=ofl (l.take n):=by
 funext i
 unfold ofl ltB
 by_cases hi:i<n
 ·simp[hi,List.getD,List.getElem?_take]
 ·simp[hi,List.getD,List.getElem?_take]
theorem Nn{l:List Ent}{n:Nat}(hb:(l.take n).all (entOk (ltB n))=true)(i:Nat)(cs:List V)(h1:ofl l i= .box cs)(h2:ltB n i=true):V.idsL (ltB n) cs=true:=by
 have hi:i<n:=by simpa[ltB]using h2
 have hil:i<l.length:=qW (by rw[h1];simp)
 have he:l[i]= .box cs:=by simpa[ofl,List.getD,hil]using h1
 have:=List.all_eq_true.1 hb l[i] (by
  refine List.mem_iff_getElem?.2 ⟨i,?_⟩
  simp[List.getElem?_take,hi,hil])
 rw[he]at this
 exact this
theorem LS{P:Program}{fn:Func}{N t:Nat}{s:List (Nat×V)}{l l0 l1:List Ent}{e:Exit}{x:V}(hr:fn.results= #[.tmp t])(ht:Nat.blt t N=true)(he:e= .normal∨e= .ret)(hw:Wk (look s t) x)(hl:l.take l0.length=l1)(hi:x.ids (ltB l0.length)=true)(hb:l1.all (entOk (ltB l0.length))=true) :
  Fin P fn (ofl l0) (fun z st=>z=x∧st=ofl l1) e ⟨dn N s,ofl l⟩ :=
 ⟨he,look s t,x,ltB l0.length,.inl ⟨_,hr,(St.ev_dn ht).symm⟩,.of hw hi,fun i h=>by simpa[ltB]using qW h,Nn (hl▸hb),rfl,by rw[←hl];exact Fv l _⟩
theorem Ou{st:Nat→Ent}: ∀(ps:List (Nat×Ent)),(∀p∈ps,st p.1=p.2)→wrs st ps=st
 | [],_=>rfl
 | p::ps,h=>by
  rw[wrs]
  have:upd st p.1 p.2=st:=by
   funext j
   unfold upd;split
   ·rename_i e;rw[e];exact(h p (by simp)).symm
   ·rfl
  rw[this];exact Ou ps fun q hq=>h q (by simp[hq])
section
variable {P:Program} {o:Oper} {ev:Operand→V}
theorem Tu{c:Operand}{args:Array Operand}{tys:Array TypeId}{f:FuncId}{us vs xs:List V}{r:V}{l0:List Ent}(js:List Nat)(ho:o.op= .call {callee:= .value c,args:=args,argTypes:=tys})(hc:ev c= .fn (.func f) us vs)(h:DC P f xs l0 r l0)
  (hw:WkL (us++args.toList.map ev++vs) (V.renL (gOf js) xs)) (hi:V.idsL (ltB js.length) xs=true) (hnd:js.Nodup) (h0:l0.length=js.length) (he:l0.all (entOk (ltB js.length))=true) :
  Step P o ev (fQ js 0 l0) ⟨V.ren (gOf js) r,[]⟩:=by
 intro C ρ hC hR hfp
 have h1:=Ew js ho hc h hw hi hnd h0 h0 he C ρ hC hR hfp
 have e:wrs C.st (fQ js 0 l0)=C.st:=Ou _ hfp
 simp only[e]at h1
 exact h1
end
theorem AR.callS{P:Program}{N:Nat}{ops:Array Oper}{dr:Bool}{Q:Exit→St→Prop}{d:Option Tmp}{c:Operand}{args:Array Operand}{tys:Array TypeId}{ty:TypeId}{pos:String}{af:Array Edge}{g:Option (Nat×Bool)}{os:List Oper}{k:Nat}{s:List (Nat×V)}{l l':List Ent}
  {acc:List (Nat×List Nat×List Nat)} {f:FuncId} {us vs xs xs':List V} {r r':V} {l0 l1:List Ent} (js:List Nat) (h:DC P f xs l0 r l1) (hg:gd ops ⟨d,.call {callee:= .value c,args:=args,argTypes:=tys},ty,pos,af,g⟩ ⟨dn N s,ofl l⟩=some true) (hc:St.ev ⟨dn N s,ofl l⟩ c= .fn (.func f) us vs)
  (hx:V.renL (gOf js) xs=xs') (hr:V.ren (gOf js) r=r') (hw:WkL (us++args.toList.map (St.ev ⟨dn N s,ofl l⟩)++vs) xs') (hi:V.idsL (ltB js.length) xs=true) (hnd:decide js.Nodup=true) (h0:l0.length=js.length) (h1:l1.length=js.length) (he:l0.all (entOk (ltB js.length))=true)
  (hl: ∀p∈fQ js 0 l0,ofl l p.1=p.2) (hl':wrl l (fQ js 0 l1)=l')
  (hn:AR P ops dr Q os (k+1) ⟨dn N (eV s d r'),ofl l'⟩ ((k,(fQ js 0 l0).map Prod.fst,(fQ js 0 l1).map Prod.fst)::acc)) :
  AR P ops dr Q (⟨d,.call {callee:= .value c,args:=args,argTypes:=tys},ty,pos,af,g⟩::os) k ⟨dn N s,ofl l⟩ acc:=by
 subst hx hr hl'
 refine .inr (.inl ⟨hg,_,_,Ew js rfl hc h hw hi (of_decide_eq_true hnd) h0 h1 he,hl,?_⟩)
 rw[sN,←kT N s (ofl l)]at hn
 exact hn
theorem Td{P:Program}{N:Nat}{ops:Array Oper}{dr:Bool}{Q:Exit→St→Prop}{d:Option Tmp}{c:Operand}{args:Array Operand}{tys:Array TypeId}{ty:TypeId}{pos:String}{af:Array Edge}{g:Option (Nat×Bool)}{os:List Oper}{k:Nat}{s:List (Nat×V)}{l:List Ent}
  {acc:List (Nat×List Nat×List Nat)} {f:FuncId} {us vs xs xs':List V} {r r':V} {l0:List Ent} (js:List Nat) (h:DC P f xs l0 r l0) (hg:gd ops ⟨d,.call {callee:= .value c,args:=args,argTypes:=tys},ty,pos,af,g⟩ ⟨dn N s,ofl l⟩=some true) (hc:St.ev ⟨dn N s,ofl l⟩ c= .fn (.func f) us vs)
  (hx:V.renL (gOf js) xs=xs') (hr:V.ren (gOf js) r=r') (hw:WkL (us++args.toList.map (St.ev ⟨dn N s,ofl l⟩)++vs) xs') (hi:V.idsL (ltB js.length) xs=true) (hnd:decide js.Nodup=true) (h0:l0.length=js.length) (he:l0.all (entOk (ltB js.length))=true)
  (hl: ∀p∈fQ js 0 l0,ofl l p.1=p.2)
  (hn:AR P ops dr Q os (k+1) ⟨dn N (eV s d r'),ofl l⟩ ((k,(fQ js 0 l0).map Prod.fst,[])::acc)) :
  AR P ops dr Q (⟨d,.call {callee:= .value c,args:=args,argTypes:=tys},ty,pos,af,g⟩::os) k ⟨dn N s,ofl l⟩ acc:=by
 subst hx hr
 refine .inr (.inl ⟨hg,_,_,Tu js rfl hc h hw hi (of_decide_eq_true hnd) h0 he,hl,?_⟩)
 show AR P ops dr Q os (k+1) ⟨(St.put ⟨dn N s,ofl l⟩ d (V.ren (gOf js) r)).s,ofl l⟩ _
 rw[kT]
 exact hn
theorem UE(g:Nat→Nat)(v:Value):V.ren g (.im v)= .im v:=by rw[V.ren]
theorem UI(g:Nat→Nat)(v:List V):V.ren g (.ag v)= .ag (V.renL g v):=by rw[V.ren]
theorem TX(g:Nat→Nat)(v:List V):V.ren g (.tu v)= .tu (V.renL g v):=by rw[V.ren]
theorem TZ(g:Nat→Nat)(v:List V):V.ren g (.sl v .ro)= .sl (V.renL g v) .ro:=by
 rw[V.ren]<;>(intro id h;cases h)
theorem GT(g:Nat→Nat)(v:List V):V.ren g (.sl v .full)= .sl (V.renL g v) .full:=by
 rw[V.ren]<;>(intro id h;cases h)
theorem UD(g:Nat→Nat)(v:List V):V.ren g (.sl v .nl)= .sl (V.renL g v) .nl:=by
 rw[V.ren]<;>(intro id h;cases h)
theorem UC(g:Nat→Nat)(v:List V):V.ren g (.sl v .nn)= .sl (V.renL g v) .nn:=by
 rw[V.ren]<;>(intro id h;cases h)
theorem UB(g:Nat→Nat)(v:List V):V.ren g (.sl v .nz)= .sl (V.renL g v) .nz:=by
 rw[V.ren]<;>(intro id h;cases h)
theorem NT(g:Nat→Nat)(v:List V)(i:Nat):V.ren g (.sl v (.own i))= .sl (V.renL g v) (.own (g i)):=by rw[V.ren]
theorem GS(g:Nat→Nat)(v:List V)(i:Nat):V.ren g (.sl v (.mine i))= .sl (V.renL g v) (.mine (g i)):=by rw[V.ren]
theorem UA(g:Nat→Nat)(i o:Nat):V.ren g (.pt i o)= .pt (g i) o:=by rw[V.ren]
theorem UH(g:Nat→Nat)(i n:Nat):V.ren g (.bs i n)= .bs (g i) n:=by rw[V.ren]
theorem UG(g:Nat→Nat)(x:V)(o:Nat):V.ren g (.ep x o)= .ep (V.ren g x) o:=by rw[V.ren]
theorem UF(g:Nat→Nat)(f:Fn)(v w:List V):V.ren g (.fn f v w)= .fn f (V.renL g v) (V.renL g w):=by rw[V.ren]
theorem GU(g:Nat→Nat):V.ren g .dead= .dead:=by rw[V.ren]
theorem GV(g:Nat→Nat):V.renL g []=[]:=by rw[V.renL]
theorem AZ(g:Nat→Nat)(x:V)(l:List V):V.renL g (x::l)=V.ren g x::V.renL g l:=by rw[V.renL]
theorem II(j:Nat)(js:List Nat):gOf (j::js) 0=j:=rfl
theorem ZH(j i:Nat)(js:List Nat):gOf (j::js) (i+1)=gOf js i:=rfl
theorem sE(g:Nat→Nat)(t:Ty):V.ren g (tyV t)=tyV t:=V.ren_id g _ (bQ _ t)
theorem sS(g:Nat→Nat)(t:Ty):V.ren g (fdV t)=fdV t:=V.ren_id g _ (bS _ t)
theorem sF(g:Nat→Nat)(l:List Ty):V.renL g (l.map tyV)=l.map tyV:=V.renL_id g _ (bR _ l)
theorem sT(g:Nat→Nat)(l:List Ty):V.renL g (l.map fdV)=l.map fdV:=V.renL_id g _ (bT _ l)
def SR:=A16 @UE @UI @TX @TZ @GT @UD @UB @UC @NT @GS @UH @UA @UG @UF @GU (A8 @GV @AZ @II @ZH @sE @sS @sF @sT)
mutual
def exV:Ex→V
 | .mk o n s w l=> .ag [.im (.int .i64 o),.im (.int .u32 n),.im (.string s),.im (.int .i64 w),.sl (exL l) .ro]
def exL:List Ex→List V
 | []=>[]
 | t::r=>exV t::exL r
end
theorem Uy: ∀l,exL l=l.map exV
 | []=>by simp[exL]
 | t::r=>by simp[exL,Uy r]
theorem bH(t:Ex):exV t= .ag [.im (.int .i64 t.op),.im (.int .u32 t.n),.im (.string t.name),.im (.int .i64 t.width),.sl (t.l.map exV) .ro]:=by
 cases t;simp[exV,Uy,Ex.op,Ex.n,Ex.name,Ex.width,Ex.l]
theorem gV(o n:Int)(s:ByteArray)(w:Int)(l:List Ex):exV (.mk o n s w l)= .ag [.im (.int .i64 o),.im (.int .u32 n),.im (.string s),.im (.int .i64 w),.sl (l.map exV) .ro]:=bH _
theorem fZ(t:Ex):(exV t).isAg=true:=by rw[bH];rfl
theorem fY(t:Ex):(exV t).live=true:=by rw[bH];rfl
theorem gA(t:Ex):(exV t).firm=true:=by rw[bH];rfl
theorem eO(g:Bool)(t:Ex):strip g (exV t)=exV t:=by rw[bH];rfl
theorem fX(t:Ex):(exV t).size=5:=by rw[bH];rfl
theorem eP(t:Ex):(exV t).cells=[.im (.int .i64 t.op),.im (.int .u32 t.n),.im (.string t.name),.im (.int .i64 t.width),.sl (t.l.map exV) .ro]:=by rw[bH];rfl
theorem aE(p:Nat→Bool): ∀t:Ex,(exV t).ids p=true:=by
 refine Ex.induct fun o n s w l h=> ?_
 rw[gV]
 simp[V.ids,V.idsL,jS l h]
theorem aD(p:Nat→Bool)(l:List Ex):V.idsL p (l.map exV)=true:=gH (aE p) l
def vaV(v:Va):V:= .ag [.im (.string v.name),.im (.int .i64 v.ty.kind),.im (.int .i64 v.ty.size),.im (.int .i64 v.ty.count),.sl (v.ty.elem.map tyV) .ro,.sl (v.ty.fields.map fdV) .ro]
theorem qR(v:Va):vaV v= .ag [.im (.string v.name),.im (.int .i64 v.ty.kind),.im (.int .i64 v.ty.size),.im (.int .i64 v.ty.count),.sl (v.ty.elem.map tyV) .ro,.sl (v.ty.fields.map fdV) .ro]:=rfl
theorem uG(v:Va):(vaV v).isAg=true:=rfl
theorem uF(v:Va):(vaV v).live=true:=rfl
theorem uH(v:Va):(vaV v).firm=true:=rfl
theorem rH(g:Bool)(v:Va):strip g (vaV v)=vaV v:=rfl
theorem uE(v:Va):(vaV v).size=6:=rfl
theorem rI(v:Va):(vaV v).cells=[.im (.string v.name),.im (.int .i64 v.ty.kind),.im (.int .i64 v.ty.size),.im (.int .i64 v.ty.count),.sl (v.ty.elem.map tyV) .ro,.sl (v.ty.fields.map fdV) .ro]:=rfl
theorem aN(p:Nat→Bool)(v:Va):(vaV v).ids p=true:=by simp[vaV,V.ids,V.idsL,bR,bT]
theorem aL(p:Nat→Bool)(l:List Va):V.idsL p (l.map vaV)=true:=gH (aN p) l
theorem aQ(g:Nat→Nat)(t:Ex):V.ren g (exV t)=exV t:=V.ren_id g _ (aE _ t)
theorem aR(g:Nat→Nat)(l:List Ex):V.renL g (l.map exV)=l.map exV:=V.renL_id g _ (aD _ l)
theorem bE(g:Nat→Nat)(v:Va):V.ren g (vaV v)=vaV v:=V.ren_id g _ (aN _ v)
theorem bD(g:Nat→Nat)(l:List Va):V.renL g (l.map vaV)=l.map vaV:=V.renL_id g _ (aL _ l)
def fitEB:Ex→Bool:=Ex.para fun t r=>decide (I64 t.op∧(0≤t.n∧t.n≤4294967295)∧I64 t.width)&&decide (t.l.length≤4194304)&&decide (t.name.size≤9223372036854775807)&&r.all id
def fitE(t:Ex):Prop:=fitEB t=true
theorem pZ{o n:Int}{s:ByteArray}{w:Int}{l:List Ex}(h:fitE (.mk o n s w l)):l.length≤4194304∧ ∀t∈l,fitE t:=by
 have e:fitEB (.mk o n s w l)=_:=Ex.para_mk _ o n s w l
 unfold fitE at h
 rw[e]at h
 simp only[Bool.and_eq_true,Ex.l,List.all_map,List.all_eq_true]at h
 exact⟨of_decide_eq_true h.1.1.2,h.2⟩
theorem BW{o n:Int}{s:ByteArray}{w:Int}{l:List Ex}(h:fitE (.mk o n s w l)):s.size≤9223372036854775807:=by
 have e:fitEB (.mk o n s w l)=_:=Ex.para_mk _ o n s w l
 unfold fitE at h
 rw[e]at h
 simp only[Bool.and_eq_true]at h
 exact of_decide_eq_true h.1.2
theorem Qx{o n:Int}{s:ByteArray}{w:Int}{l:List Ex}(h:fitE (.mk o n s w l)):I64 o∧(0≤n∧n≤4294967295)∧I64 w:=by
 have e:fitEB (.mk o n s w l)=_:=Ex.para_mk _ o n s w l
 unfold fitE at h
 rw[e]at h
 simp only[Bool.and_eq_true]at h
 exact of_decide_eq_true h.1.1.1
inductive WkFL (st:Nat→Ent) (kp:Nat→Bool):List V→List V→Prop
 | nil:WkFL st kp [] []
 | cons {x y:V} {l m:List V} (h:WkF st kp x y) (hl:WkFL st kp l m):WkFL st kp (x::l) (y::m)
theorem WkFL.length{st:Nat→Ent}{kp:Nat→Bool}{l m:List V}(h:WkFL st kp l m):l.length=m.length:=by
 induction h with
 | nil=>rfl
 | cons _ _ ih=>simp[ih]
theorem WkFL.get{st:Nat→Ent}{kp:Nat→Bool}{l m:List V}(h:WkFL st kp l m): ∀i (h1:i<l.length) (h2:i<m.length),WkF st kp l[i] m[i]:=by
 induction h with
 | nil=>intro i h1;cases h1
 | cons h _ ih =>
  intro i h1 h2;cases i with
  | zero=>exact h
  | succ i=>exact ih i (by simpa using h1) (by simpa using h2)
theorem We{st:Nat→Ent}{kp:Nat→Bool}{cs ds:List V}(h:WkFL st kp cs ds):WkF st kp (.ag cs) (.ag ds):=fun C v hst hC hR=>by
 have hl:=h.length
 cases hR with
 | ag hn h1 h0=>exact .ag (hn.trans hl) (fun i hi=>h1 i (by omega)) (fun i hi=>h.get i (by omega) hi C _ hst hC (h0 i (by omega)))
theorem Wd{st:Nat→Ent}{kp:Nat→Bool}{cs ds:List V}(h:WkFL st kp cs ds):WkF st kp (.tu cs) (.tu ds):=fun C v hst hC hR=>by
 have hl:=h.length
 cases hR with
 | tu hn h0=>exact .tu (hn.trans hl) (fun i hi=>h.get i (by omega) hi C _ hst hC (h0 i (by omega)))
def Fl(P:Program)(A:St):ResultVar→Option V
 | .tmp t=>some (A.ev (.tmp t))
 | .cell t ty=>match A.ev (.tmp t)with
  | .pt id off=>match A.st id with
   | .box cs=>if off=0 then match gW P ty with
     | some true=>match szOf P ty with
      | some z=>if cs.length=z then some (.ag cs)else none
      | none=>none
     | some false=>cs[0]?
     | none=>none
    else none
   | _=>none
  | _=>none
theorem mK{P:Program}{A:St}{r:ResultVar}{x:V}(h:Fl P A r=some x):GR P A r x:=by
 cases r with
 | tmp t=>cases h;exact rfl
 | cell t ty =>
  unfold Fl at h;simp only at h;split at h
  ·rename_i id off he
   split at h
   ·rename_i cs hs
    split at h
    ·rename_i h0
     subst h0;split at h
     ·rename_i ha
      split at h
      ·rename_i z hz
       split at h
       ·rename_i hl
        cases h
        unfold szOf at hz;cases hi:P.info? ty with
        | none=>rw[hi]at hz;cases hz
        | some i =>
         rw[hi]at hz;simp only[Option.map_some,Option.some.injEq]at hz;exact⟨id,cs,he,hs,.inl ⟨i,hi,ha,by rw[hl,hz],rfl⟩⟩
       ·cases h
      ·cases h
     ·rename_i ha
      exact⟨id,cs,he,hs,.inr ⟨ha,h⟩⟩
     ·cases h
    ·cases h
   ·cases h
  ·cases h
def Ik(P:Program)(rs:List ResultVar)(A:St):Option V :=
 match rs with
 | []=>some (.tu [])
 | [r]=>Fl P A r
 | [r,q]=>match Fl P A r,Fl P A q with
  | some x,some y=>some (.tu [x,y])
  | _,_=>none
 | [r,q,s]=>match Fl P A r,Fl P A q,Fl P A s with
  | some x,some y,some z=>some (.tu [x,y,z])
  | _,_,_=>none
 | _=>none
theorem xP{P:Program}{fn:Func}{rs:List ResultVar}{A:St}{x:V}(hr:fn.results=rs.toArray)(h:Ik P rs A=some x):TW P fn A x:=by
 unfold Ik at h
 split at h
 ·cases h
  exact .inr ⟨by simp[hr],[],rfl,by simp[hr],fun i hi=>by simp[hr]at hi⟩
 ·exact .inl ⟨_,hr,mK h⟩
 ·split at h
  ·rename_i h1 h2
   cases h
   refine .inr ⟨by simp[hr],_,rfl,by simp[hr],fun i hi hi'=> ?_⟩
   simp only[hr]
   match i,hi' with
   | 0,_=>exact mK h1
   | 1,_=>exact mK h2
  ·cases h
 ·split at h
  ·rename_i h1 h2 h3
   cases h
   refine .inr ⟨by simp[hr],_,rfl,by simp[hr],fun i hi hi'=> ?_⟩
   simp only[hr]
   match i,hi' with
   | 0,_=>exact mK h1
   | 1,_=>exact mK h2
   | 2,_=>exact mK h3
  ·cases h
 ·cases h
theorem RL{P:Program}{fn:Func}{N:Nat}{s:List (Nat×V)}{l l0 l1:List Ent}{e:Exit}{x y:V}{rs:List ResultVar}(hr:fn.results=rs.toArray)(he:e= .normal∨e= .ret)(hx:Ik P rs ⟨dn N s,ofl l⟩=some x)
  (hw:WkF (ofl l) (ltB l0.length) x y) (hl:l.take l0.length=l1) (hb:l1.all (entOk (ltB l0.length))=true):Fin P fn (ofl l0) (fun z st=>z=y∧st=ofl l1) e ⟨dn N s,ofl l⟩ :=
 ⟨he,x,y,ltB l0.length,xP hr hx,hw,fun i h=>by simpa[ltB]using qW h,Nn (hl▸hb),rfl,by rw[←hl];exact Fv l _⟩
theorem fiGen{P:Program}{fn:Func}{N:Nat}{s:List (Nat×V)}{l l0 l1:List Ent}{e:Exit}{x y:V}(rs:List ResultVar)(hx:Ik P rs ⟨dn N s,ofl l⟩=some x)
  (hw:WkF (ofl l) (ltB l0.length) x y) (hl:l.take l0.length=l1) (hb:l1.all (entOk (ltB l0.length))=true) (hr:fn.results=rs.toArray:=by rfl) (he:e= .normal∨e= .ret:=by first|exact .inl rfl|exact .inr rfl):Fin P fn (ofl l0) (fun z st=>z=y∧st=ofl l1) e ⟨dn N s,ofl l⟩:=RL hr he hx hw hl hb
theorem LT{P:Program}{fn:Func}{N:Nat}{s:List (Nat×V)}{l:List Ent}{e:Exit}{x y:V}{rs:List ResultVar}(hr:fn.results=rs.toArray)(he:e= .normal∨e= .ret)(hx:Ik P rs ⟨dn N s,ofl l⟩=some x)
  (hw:WkF (ofl l) noId x y):Fin P fn stF (fun z st=>z=y∧st=stF) e ⟨dn N s,ofl l⟩ :=
 ⟨he,x,y,noId,xP hr hx,hw,fun i h=>absurd rfl h,fun i cs _ h=>(by cases h),rfl,rfl⟩
theorem fiGenO{P:Program}{fn:Func}{N:Nat}{s:List (Nat×V)}{l:List Ent}{e:Exit}{x y:V}(rs:List ResultVar)(hx:Ik P rs ⟨dn N s,ofl l⟩=some x)
  (hw:WkF (ofl l) noId x y) (hr:fn.results=rs.toArray:=by rfl) (he:e= .normal∨e= .ret:=by first|exact .inl rfl|exact .inr rfl):Fin P fn stF (fun z st=>z=y∧st=stF) e ⟨dn N s,ofl l⟩:=LT hr he hx hw
theorem Sr{P:Program}{fn:Func}{N:Nat}{s:List (Nat×V)}{l l1:List Ent}{e:Exit}{x y:V}{rs:List ResultVar}(n:Nat)(hr:fn.results=rs.toArray)(he:e= .normal∨e= .ret)(hx:Ik P rs ⟨dn N s,ofl l⟩=some x)
  (hw:WkF (ofl l) (ltB n) x y) (hl:l.take n=l1) (hb:l1.all (entOk (ltB n))=true):Fin P fn (ofl []) (fun z st=>z=y∧st=ofl l1) e ⟨dn N s,ofl l⟩ :=
 ⟨he,x,y,ltB n,xP hr hx,hw,fun i h=>absurd rfl h,Nn (hl▸hb),rfl,by rw[←hl];exact Fv l _⟩
theorem BF(n:Nat):ofl (List.replicate n .free)=ofl []:=by
 funext i
 simp only[ofl,List.getD,List.getElem?_replicate]
 split<;>rfl
theorem Lb{P:Program}{f:FuncId}{fn:Func}{c:Code}{xs:List V}{s:List (Nat×V)}{l1:List Ent}{r:V}(n:Nat)(N:Nat)(hf:P.funcs[f]? =some fn)(hb:fn.body=some c)(hn:fn.name≠ "runtime.NumGoroutine")(hN:fn.ntmps=N)(hx:Nat.ble xs.length N=true)(hs:enum 0 xs=s)
  (h:AWp P (ofl []) c (Fin P fn (ofl []) fun z st=>z=r∧st=ofl l1) ⟨dn N s,ofl []⟩):DC P f xs (List.replicate n .free) r l1:=by
 have:=DC.enter (l0:=[]) N hf hb hn hN hx hs h
 unfold DC at this ⊢
 rw[BF]
 exact this
theorem AR.one{P:Program}{N:Nat}{ops:Array Oper}{Q:Exit→St→Prop}{o:Oper}{os:List Oper}{k:Nat}{s:List (Nat×V)}{l:List Ent}{acc:List (Nat×List Nat×List Nat)}{v:V}{fp wr:List (Nat×Ent)}{s':List (Nat×V)}{l':List Ent}(hg:gd ops o ⟨dn N s,ofl l⟩=some true)(he:evO P true o (St.ev ⟨dn N s,ofl l⟩) l=some (v,fp,wr))
  (hs:eV s o.dst v=s') (hl:wrl l wr=l') (hn:AR P ops false Q os (k+1) ⟨dn N s',ofl l'⟩ acc):AR P ops false Q (o::os) k ⟨dn N s,ofl l⟩ acc:=by
 subst hs hl
 obtain⟨h1,h2⟩:=wN rfl he
 refine .inr (.inl ⟨hg,fp,⟨v,wr⟩,h1,h2,AR.acc (acc:=acc) ?_⟩)
 rw[sN,←kT N s (ofl l)]at hn
 exact hn
theorem ACalls.nil1{P:Program}{f:FuncId}{es:List V}{k:Slk}{xs:List V}{st:Nat→Ent}{Q:V→(Nat→Ent)→Prop}(h1:ACalls P f (.sl es .nz::xs) st Q)(h2:ACalls P f (.sl es .nn::xs) st Q):ACalls P f (.sl es k::xs) st Q:=by
 refine⟨h1.1,fun C vs hst hC hsz hR=> ?_⟩
 have h0:=hR 0 (by simp)
 simp only[List.getElem_cons_zero]at h0
 generalize hv:vs.getD 0 undef=v at h0
 cases h0 with
 | @sl _ _ a cap z u hc hm hz h0 hr hk =>
  by_cases ha:a=none
  ·refine h1.2 C vs hst hC hsz fun i hi=> ?_
   cases i with
   | zero=>rw[hv];exact .sl hc hm hz h0 hr ha
   | succ i=>exact hR (i+1) hi
  ·refine h2.2 C vs hst hC hsz fun i hi=> ?_
   cases i with
   | zero=>rw[hv];exact .sl hc hm hz h0 hr ha
   | succ i=>exact hR (i+1) hi
theorem Dv(l:List Ty):kV 6 (l.map fdV)=true:=by
 unfold kV
 rw[List.all_map,List.all_eq_true]
 intro x _
 simp[eB,eA]
def Kin(st st':Nat→Ent):Prop:= ∀i,st' i=st i∨ ∃cs cs',st i= .box cs∧st' i= .box cs'
def Cf.wst(C:Cf)(st:Nat→Ent):Cf:={C with st:=st}
theorem Cf.wst_fix{C:Cf}{st:Nat→Ent}(h:Kin C.st st){b o:Nat}(hf:C.fix b o):(C.wst st).fix b o:=by
 refine⟨hf.1,fun i hi=> ?_⟩
 show st i= .free∨_
 rcases h i with h1|⟨cs,cs',h1,h2⟩
 ·rw[h1]
  rcases hf.2 i hi with h3|⟨e,z,n,h3,h4⟩
  ·exact .inl h3
  ·exact .inr ⟨e,z,n,h1.trans h3,h4⟩
 ·rcases hf.2 i hi with h3|⟨e,z,n,h3,_⟩<;>rw[h1]at h3<;>cases h3
theorem R.wst{C:Cf}{st:Nat→Ent}(h:Kin C.st st){x:V}{v:Value}(hR:R C x v):R (C.wst st) x v:=by
 have rd: ∀ {a:Addr} {v:Value},C.rd a v→(C.wst st).rd a v:=fun k=>⟨k.1,Cf.wst_fix h k.2⟩
 induction hR with
 | im h=>exact .im h
 | ag hn h1 _ ih=>exact .ag hn h1 ih
 | tu hn _ ih=>exact .tu hn ih
 | @sl es k a cap z u hc hm hz _ hr hk ih =>
  refine .sl hc hm hz ih (fun i hi=> ?_) ?_
  ·obtain⟨ad,h1,h2⟩:=hr i hi
   exact⟨ad,h1,fun j c hj=>rd (h2 j c hj)⟩
  ·cases k with
   | own id =>
    obtain⟨e,n,h1,h2⟩:=hk;refine⟨e,n,?_,h2⟩;rcases h id with h3|⟨cs,cs',h3,_⟩
    ·exact h3.trans h1
    ·rw[h3]at h1;cases h1
   | mine id =>
    obtain⟨e,n,h1,h2⟩:=hk;refine⟨e,n,?_,h2⟩;rcases h id with h3|⟨cs,cs',h3,_⟩
    ·exact h3.trans h1
    ·rw[h3]at h1;cases h1
   | _=>exact hk
 | @pt id off g cs hs hb =>
  rcases h id with h3|⟨_,cs',_,h3⟩
  ·exact .pt hs (h3.trans hb)
  ·exact .pt hs h3
 | @nb id g cs bs t v hs hb h3 h4 hv =>
  rcases h id with h5|⟨_,cs',_,h5⟩
  ·exact .nb hs (h5.trans hb) h3 h4 hv
  ·exact .nb hs h5 h3 h4 hv
 | @itr id g s p hs hb =>
  rcases h id with h3|⟨cs,cs',h3,_⟩
  ·exact .itr hs (h3.trans hb)
  ·rw[h3]at hb;cases hb
 | @bs id n g cap cs hs hb hc hm =>
  rcases h id with h3|⟨_,cs',_,h3⟩
  ·exact .bs hs (h3.trans hb) hc hm
  ·exact .bs hs h3 hc hm
 | ep _ hz hr ih=>exact .ep ih hz fun j c hj=>rd (hr j c hj)
 | fn h1 h2 _ _ ih1 ih2=>exact .fn h1 h2 ih1 ih2
 | gi _ h0 ih=>exact .gi ih h0
 | ifc=>exact .ifc
 | dead=>exact .dead
inductive WkFE (st:Nat→Ent) (kp:Nat→Bool):List Ent→List Ent→Prop
 | nil:WkFE st kp [] []
 | same {e:Ent} {l m:List Ent} (h: ∀cs,e≠ .box cs) (hl:WkFE st kp l m):WkFE st kp (e::l) (e::m)
 | box {cs ds:List V} {l m:List Ent} (h:WkFL st kp cs ds) (hl:WkFE st kp l m):WkFE st kp (.box cs::l) (.box ds::m)
theorem WkFE.length{st:Nat→Ent}{kp:Nat→Bool}{l m:List Ent}(h:WkFE st kp l m):l.length=m.length:=by
 induction h with
 | nil=>rfl
 | same _ _ ih=>simp[ih]
 | box _ _ ih=>simp[ih]
theorem WkFE.get{st:Nat→Ent}{kp:Nat→Bool}{l m:List Ent}(h:WkFE st kp l m): ∀i,(ofl m i=ofl l i∧ ∀cs,ofl l i≠ .box cs)∨ ∃cs ds,ofl l i= .box cs∧ofl m i= .box ds∧WkFL st kp cs ds:=by
 induction h with
 | nil=>intro i;exact .inl ⟨rfl,fun cs e=>by simp[ofl]at e⟩
 | same h _ ih =>
  intro i;cases i with
  | zero=>exact .inl ⟨rfl,h⟩
  | succ i=>exact ih i
 | box h _ ih =>
  intro i;cases i with
  | zero=>exact .inr ⟨_,_,rfl,rfl,h⟩
  | succ i=>exact ih i
inductive WkFA (st:Nat→Ent) (kp:Nat→Bool) (s:List (Nat×V)):List (Nat×V)→Prop
 | nil:WkFA st kp s []
 | cons {i:Nat} {y:V} {l:List (Nat×V)} (h:WkF st kp (look s i) y) (hl:WkFA st kp s l):WkFA st kp s ((i,y)::l)
theorem WkFA.look{st:Nat→Ent}{kp:Nat→Bool}{s l:List (Nat×V)}(h:WkFA st kp s l)(t:Nat):WkF st kp (look s t) (look l t):=by
 induction h with
 | nil=>exact .of (.dead _) rfl
 | @cons i y l h _ ih =>
  rw[dE];split
  ·rename_i e;exact e▸h
  ·exact ih
theorem yQ{l:List Ent}{n i:Nat}(h:i<n):ofl (l.take n) i=ofl l i:=by simp[ofl,List.getD,List.getElem?_take,h]
theorem Zh{K:Ro→Prop}{P:Program}{st0:Nat→Ent}{Q:Exit→St→Prop}{c:Code}{N:Nat}{s:List (Nat×V)}{l:List Ent}(n:Nat)(s':List (Nat×V))(l':List Ent)(h:AWpK K P st0 c Q ⟨dn N s',ofl l'⟩)(hn:n≤l.length)(hs:WkFA (ofl l) (ltB n) s s')
  (hb:WkFE (ofl l) (ltB n) (l.take n) l') (h0: ∀i,st0 i≠ .free→i<n):AWpK K P st0 c Q ⟨dn N s,ofl l⟩:=by
 intro C0 C a ro m hK h0' hE hS
 have hlen:l'.length=n:=by rw[←hb.length];simp;omega
 have hst:C.st=ofl l:=hS.st
 have hkin:Kin (C.only (ltB n)).st (ofl l'):=fun i=>by
  show ofl l' i=(if ltB n i then C.st i else .free)∨ ∃cs cs',(if ltB n i then C.st i else .free)= .box cs∧ofl l' i= .box cs'
  by_cases hi:i<n
  ·have h1:ltB n i=true:=by simpa[ltB]using hi
   rw[h1,if_pos rfl,hst,←yQ (l:=l) hi];rcases hb.get i with ⟨h2,_⟩|⟨cs,ds,h2,h3,_⟩
   ·exact .inl h2
   ·exact .inr ⟨cs,ds,h2,h3⟩
  ·have h1:ltB n i=false:=by simpa[ltB]using hi
   rw[h1];left;have:l'[i]? =none:=List.getElem?_eq_none (by omega)
   simp[ofl,List.getD,this]
 have hk0: ∀i,C0.st i≠ .free→ltB n i=true:=fun i hi=>by rw[h0']at hi;simpa[ltB]using h0 i hi
 have hR: ∀ {x y:V} {v:Value},WkF (ofl l) (ltB n) x y→R C x v→R ((C.only (ltB n)).wst (ofl l')) y v:=fun hw hR=>(hw C _ hst hS.ok hR).wst hkin
 have hR0: ∀ {x:V} {v:Value},R (C.only (ltB n)) x v→R ((C.only (ltB n)).wst (ofl l')) x v:=fun hR=>hR.wst hkin
 have hof: ∀ {i:Nat} {e:Ent},ofl l' i=e→e≠ .free→i<n∧ltB n i=true:=fun {i e} he hne=>by
  have:i<l'.length:=qW (by rw[he];exact hne)
  exact⟨by omega,by simp[ltB];omega⟩
 have hnb: ∀ {i:Nat} {e:Ent},ofl l' i=e→e≠ .free→(∀cs,e≠ .box cs)→C.st i=e:=fun {i e} he hne hbx=>by
  obtain⟨hi,_⟩:=hof he hne;rw[hst,←yQ (l:=l) hi];rcases hb.get i with ⟨h2,_⟩|⟨cs,ds,h2,h3,_⟩
  ·rw[←h2];exact he
  ·rw[he]at h3;exact absurd h3 (hbx ds)
 have hok:Ok ((C.only (ltB n)).wst (ofl l')):=by
  refine⟨fun i ds h=> ?_,fun i e z k g h h'=> ?_,fun i t p h=> ?_,fun i j g h1 h2 h3 h4=> ?_,hS.ok.avl,fun i ds g o h h'=> ?_,?_⟩
  ·have h:ofl l' i= .box ds:=h
   obtain⟨hi,_⟩:=hof h (by simp)
   rcases hb.get i with ⟨h2,h3⟩|⟨cs,ds',h2,h3,h4⟩
   ·rw[←h2]at h3;exact absurd h (h3 ds)
   ·rw[h]at h3
    cases h3
    have hcb:C.st i= .box cs:=by rw[hst,←yQ (l:=l) hi];exact h2
    obtain⟨g,bs,t,k1,k2,k3,k4,k5⟩:=hS.ok.box i cs hcb;have hl:=h4.length;exact⟨g,bs,t,k1,k2,by omega,fun j hj=>k4 j (by omega),fun j hj=>hR (h4.get j (by omega) hj) (k5 j (by omega))⟩
  ·exact hS.ok.tip i e z k g (hnb h (by simp) (fun _ e=>by cases e)) h'
  ·exact hS.ok.iter i t p (hnb h (by simp) (fun _ e=>by cases e))
  ·have key: ∀i,((C.only (ltB n)).wst (ofl l')).st i≠ .free→C.st i≠ .free:=fun i hi=>by
    have hi:ofl l' i≠ .free:=hi;obtain⟨q1,q2⟩:=hof rfl hi;rcases hkin i with q3|⟨cs,_,q3,_⟩
    ·rw[q3]at hi
     intro e;apply hi;show(if ltB n i then C.st i else .free)= .free
     rw[q2,if_pos rfl,e]
    ·have q3:(if ltB n i then C.st i else .free)= .box cs:=q3
     rw[q2,if_pos rfl]at q3;rw[q3];simp
   exact hS.ok.inj i j g (key i h1) (key j h2) h3 h4
  ·have h:ofl l' i= .box ds:=h
   obtain⟨hi,_⟩:=hof h (by simp)
   rcases hb.get i with ⟨h2,h3⟩|⟨cs,ds',h2,h3,h4⟩
   ·rw[←h2]at h3;exact absurd h (h3 ds)
   ·exact hS.ok.bav i cs g o (by rw[hst,←yQ (l:=l) hi];exact h2) h'
  ·refine⟨fun a ha=> ?_,fun a ha i hi=> ?_,hS.ok.gl.2.2⟩
   ·obtain⟨q,q1,q2⟩:=hS.ok.gl.1 a ha
    exact⟨q,⟨q1.1,Cf.wst_fix hkin (Cf.only_fix q1.2)⟩,q2⟩
   ·have h1:C.st i= .free:=hS.ok.gl.2.1 a ha i hi
    refine Classical.byContradiction fun hne=> ?_
    obtain⟨q1,q2⟩:=hof (i:=i) rfl hne;rcases hkin i with q3|⟨cs,_,q3,_⟩
    ·apply hne
     show ofl l' i= .free
     rw[q3];show(if ltB n i then C.st i else .free)= .free
     rw[q2,if_pos rfl,h1]
    ·have q3:(if ltB n i then C.st i else .free)= .box cs:=q3
     rw[q2,if_pos rfl,h1]at q3;cases q3
 have hE':Ev C0 ((C.only (ltB n)).wst (ofl l')):=by
  have hE1:=hE.only (kp:=ltB n) hk0;refine⟨hE1.os,hE1.tape,hE1.output,hE1.size,hE1.av,fun a v h=>⟨(hE1.rd a v h).1,Cf.wst_fix hkin (hE1.rd a v h).2⟩,fun i cs h=> ?_,fun i e z k h=> ?_,fun i t p h=> ?_,hE1.keep,fun i b h h'=> ?_,hE1.shp⟩
  ·obtain⟨q1,cs',q2⟩:=hE1.box i cs h
   rcases hkin i with q3|⟨_,cs'',_,q3⟩
   ·exact⟨q1,cs',q3.trans q2⟩
   ·exact⟨q1,cs'',q3⟩
  ·obtain⟨k',q1,q2,q3⟩:=hE1.tip i e z k h
   rcases hkin i with q4|⟨_,cs'',q4,_⟩
   ·exact⟨k',q4.trans q1,q2,q3⟩
   ·rw[q4]at q1;cases q1
  ·obtain⟨q1,s',p',q2⟩:=hE1.itr i t p h
   rcases hkin i with q4|⟨_,cs'',q4,_⟩
   ·exact⟨q1,s',p',q4.trans q2⟩
   ·rw[q4]at q2;cases q2
  ·refine hE1.fresh i b (fun e=>h ?_) h'
   rcases hkin i with q4|⟨_,cs'',q4,_⟩
   ·exact q4.trans e
   ·rw[q4]at e;cases e
 refine h C0 ((C.only (ltB n)).wst (ofl l')) a ro m hK h0' hE' ⟨rfl,hok,?_,?_,fun t ht=> ?_⟩
 ·obtain⟨bs,d1,d2,d3⟩:=hS.defers
  refine⟨bs,d1,d2,fun b hbm=> ?_⟩
  obtain⟨e1,e2,d4⟩:=d3 b hbm;refine⟨e1,e2,fun i hi=> ?_⟩
  refine Classical.byContradiction fun hne=> ?_
  obtain⟨q1,q2⟩:=hof (i:=i) rfl hne;have hf:=d4 i hi;rcases hkin i with q3|⟨cs,_,q3,_⟩
  ·apply hne
   show ofl l' i= .free
   rw[q3];show(if ltB n i then C.st i else .free)= .free
   rw[q2,if_pos rfl,hf]
  ·have q3:(if ltB n i then C.st i else .free)= .box cs:=q3
   rw[q2,if_pos rfl,hf]at q3;cases q3
 ·rw[hS.size]
  simp[jT]
 ·have ht':t<N:=by simpa[jT]using ht
  have h1:=hS.slot t (by simpa[jT]using ht')
  rw[fT,if_pos ht']at h1 ⊢;exact hR (hs.look t) h1
theorem AR.callP{P:Program}{N:Nat}{ops:Array Oper}{dr:Bool}{Q:Exit→St→Prop}{d:Option Tmp}{c:Operand}{args:Array Operand}{tys:Array TypeId}{ty:TypeId}{pos:String}{af:Array Edge}{g:Option (Nat×Bool)}{os:List Oper}{k:Nat}{s:List (Nat×V)}{l:List Ent}
  {acc:List (Nat×List Nat×List Nat)} {f:FuncId} {us vs xs:List V} {r:V} {F E:Prop} (h:PC P f xs r) (fa:F) (fi:E) (n:AR P ops dr Q os (k+1) ⟨dn N (eV s d r),ofl l⟩ ((k,[],[])::acc)) (hg:gd ops ⟨d,.call {callee:= .value c,args:=args,argTypes:=tys},ty,pos,af,g⟩ ⟨dn N s,ofl l⟩=some true:=by rfl) (hc:St.ev ⟨dn N s,ofl l⟩ c= .fn (.func f) us vs:=by rfl)
  (hw:F→WkL (us++args.toList.map (St.ev ⟨dn N s,ofl l⟩)++vs) xs:=by intro f;exact iH (by simp only[St.ev,V.ofVal,V.ofCell,V.size_im,fT,dE,iJ,Nat.reduceLT,Nat.reduceEqDiff,reduceIte,if_true,if_false,List.map_cons,List.map_nil,List.nil_append,List.cons_append,List.append_nil,f])) (hi:E→V.idsL noId xs=true:=by intro f;first|rfl|simp only[List.length_cons,List.length_nil,Nat.reduceAdd,V.ids,V.idsL,idsA,entOk,List.all_cons,List.all_nil,Bool.and_self,Bool.and_true,Bool.true_and,ltB,noId,Nat.reduceLT,decide_true,Bool.true_eq_false,bQ,bS,bR,bT,f]) :
  AR P ops dr Q (⟨d,.call {callee:= .value c,args:=args,argTypes:=tys},ty,pos,af,g⟩::os) k ⟨dn N s,ofl l⟩ acc:=Ej h hg hc (hw fa) (hi fi) n
theorem cA{P:Program}{N:Nat}{ops:Array Oper}{dr:Bool}{Q:Exit→St→Prop}{d:Option Tmp}{c:Operand}{args:Array Operand}{tys:Array TypeId}{ty:TypeId}{pos:String}{af:Array Edge}{g:Option (Nat×Bool)}{os:List Oper}{k:Nat}{s:List (Nat×V)}{l:List Ent}
  {acc:List (Nat×List Nat×List Nat)} {f:FuncId} {us vs xs xs':List V} {r r':V} {l0:List Ent} {F E M:Prop} (js:List Nat) (h:DC P f xs l0 r l0) (fa:F) (fi:E) (fr:M)
  (n:AR P ops dr Q os (k+1) ⟨dn N (eV s d r'),ofl l⟩ ((k,(fQ js 0 l0).map Prod.fst,[])::acc)) (hg:gd ops ⟨d,.call {callee:= .value c,args:=args,argTypes:=tys},ty,pos,af,g⟩ ⟨dn N s,ofl l⟩=some true:=by rfl) (hc:St.ev ⟨dn N s,ofl l⟩ c= .fn (.func f) us vs:=by rfl)
  (hx:M→V.renL (gOf js) xs=xs':=by intro f;first|(simp only[SR,f];done)|(simp only[SR,f];with_reducible exact rfl)) (hr:M→V.ren (gOf js) r=r':=by intro f;first|(simp only[SR,f];done)|(simp only[SR,f];with_reducible exact rfl))
  (hw:F→WkL (us++args.toList.map (St.ev ⟨dn N s,ofl l⟩)++vs) xs':=by intro f;exact iH (by simp only[St.ev,V.ofVal,V.ofCell,V.size_im,fT,dE,iJ,Nat.reduceLT,Nat.reduceEqDiff,reduceIte,if_true,if_false,List.map_cons,List.map_nil,List.nil_append,List.cons_append,List.append_nil,f])) (hi:E→V.idsL (ltB js.length) xs=true:=by intro f;first|rfl|simp only[List.length_cons,List.length_nil,Nat.reduceAdd,V.ids,V.idsL,idsA,entOk,List.all_cons,List.all_nil,Bool.and_self,Bool.and_true,Bool.true_and,ltB,noId,Nat.reduceLT,decide_true,Bool.true_eq_false,bQ,bS,bR,bT,f])
  (hnd:decide js.Nodup=true:=by rfl) (h0:l0.length=js.length:=by rfl) (he:E→l0.all (entOk (ltB js.length))=true:=by intro f;first|rfl|simp only[List.length_cons,List.length_nil,Nat.reduceAdd,V.ids,V.idsL,idsA,entOk,List.all_cons,List.all_nil,Bool.and_self,Bool.and_true,Bool.true_and,ltB,noId,Nat.reduceLT,decide_true,Bool.true_eq_false,bQ,bS,bR,bT,f])
  (hl:M→ ∀p∈fQ js 0 l0,ofl l p.1=p.2:=by intro f p hp;simp only[fQ,SR,Ent.ren,List.mem_cons,List.not_mem_nil,or_false,f]at hp;first|(rcases hp with rfl<;>rfl)|(rcases hp with rfl|rfl<;>rfl)|(rcases hp with rfl|rfl|rfl<;>rfl)) :
  AR P ops dr Q (⟨d,.call {callee:= .value c,args:=args,argTypes:=tys},ty,pos,af,g⟩::os) k ⟨dn N s,ofl l⟩ acc:=Td js h hg hc (hx fr) (hr fr) (hw fa) (hi fi) hnd h0 (he fi) (hl fr) n
section
variable {K:Ro→Prop} {P:Program} {st0:Nat→Ent} {Q:Exit→St→Prop}
theorem ALp.cutP{c:Code}{N:Nat}{s:List (Nat×V)}{l:List Ent}{E:Prop}(n:Nat)(s':List (Nat×V))(l':List Ent)(fi:E)(h:ALp K P st0 c Q ⟨dn N s',ofl l'⟩)(hl:l.take n=l':=by rfl)
  (hw:WkA s s':=by repeat (first|exact WkA.nil|refine WkA.cons (Wk.refl _) ?_)) (h0: ∀i,st0 i≠ .free→i<n:=by exact fun i hi=>by first|exact absurd rfl hi|exact Nat.lt_of_lt_of_le (qW hi) (by simp))
  (hs:E→idsA (ltB n) s'=true:=by intro f;first|rfl|simp only[List.length_cons,List.length_nil,Nat.reduceAdd,V.ids,V.idsL,idsA,entOk,List.all_cons,List.all_nil,Bool.and_self,Bool.and_true,Bool.true_and,ltB,noId,Nat.reduceLT,decide_true,Bool.true_eq_false,bQ,bS,bR,bT,f]) (hb:E→l'.all (entOk (ltB n))=true:=by intro f;first|rfl|simp only[List.length_cons,List.length_nil,Nat.reduceAdd,V.ids,V.idsL,idsA,entOk,List.all_cons,List.all_nil,Bool.and_self,Bool.and_true,Bool.true_and,ltB,noId,Nat.reduceLT,decide_true,Bool.true_eq_false,bQ,bS,bR,bT,f]):ALp K P st0 c Q ⟨dn N s,ofl l⟩ :=
 ALp.cut n s' l' h hl hw h0 (hs fi) (hb fi)
end
theorem aB{P:Program}{fn:Func}{N t:Nat}{s:List (Nat×V)}{st:Nat→Ent}{e:Exit}{x:V}(hr:fn.results= #[.tmp t]:=by rfl)(ht:Nat.blt t N=true:=by rfl)(he:e= .normal∨e= .ret:=by first|exact .inl rfl|exact .inr rfl)
  (hw:Wk (look s t) x:=by exact Wk.refl _) (hi:x.ids noId=true:=by first|rfl|simp only[List.length_cons,List.length_nil,Nat.reduceAdd,V.ids,V.idsL,idsA,entOk,List.all_cons,List.all_nil,Bool.and_self,Bool.and_true,Bool.true_and,ltB,noId,Nat.reduceLT,decide_true,Bool.true_eq_false,bQ,bS,bR,bT]):Fin P fn stF (fun z st=>z=x∧st=stF) e ⟨dn N s,st⟩:=Fin.one hr ht he hw hi
theorem bO{P:Program}{fn:Func}{N t:Nat}{s:List (Nat×V)}{l l0 l1:List Ent}{e:Exit}{x:V}{E:Prop}(fi:E)(hr:fn.results= #[.tmp t]:=by rfl)(ht:Nat.blt t N=true:=by rfl)(he:e= .normal∨e= .ret:=by first|exact .inl rfl|exact .inr rfl)
  (hw:Wk (look s t) x:=by exact Wk.refl _) (hl:l.take l0.length=l1:=by rfl) (hi:E→x.ids (ltB l0.length)=true:=by intro f;first|rfl|simp only[List.length_cons,List.length_nil,Nat.reduceAdd,V.ids,V.idsL,idsA,entOk,List.all_cons,List.all_nil,Bool.and_self,Bool.and_true,Bool.true_and,ltB,noId,Nat.reduceLT,decide_true,Bool.true_eq_false,bQ,bS,bR,bT,f]) (hb:E→l1.all (entOk (ltB l0.length))=true:=by intro f;first|rfl|simp only[List.length_cons,List.length_nil,Nat.reduceAdd,V.ids,V.idsL,idsA,entOk,List.all_cons,List.all_nil,Bool.and_self,Bool.and_true,Bool.true_and,ltB,noId,Nat.reduceLT,decide_true,Bool.true_eq_false,bQ,bS,bR,bT,f]) :
  Fin P fn (ofl l0) (fun z st=>z=x∧st=ofl l1) e ⟨dn N s,ofl l⟩:=LS hr ht he hw hl (hi fi) (hb fi)
theorem vY(l:List Ent):ofl l l.length= .free:=by simp[ofl,List.getD]
theorem uT(l:List Ent)(x:Ent):upd (ofl l) l.length x=ofl (l++[x]):=by
 rw[←Qc]
 simp[putE]
theorem Sim.ghost{B:Bd}{C:Cf}{a:Act}{N:Nat}{s:List (Nat×V)}{l:List Ent}{t:Nat}{es:List V}{kk:Slk}{e:TypeId}{z:Nat}(hS:Sim B C ⟨dn N s,ofl l⟩ a)
  (hk:kk= .full∨kk= .nl) (ht:look s t= .sl es kk) (hz:By z es=true):Sim B (C.ghost l.length e z es.length) ⟨dn N (eV s (some t) (.sl es (.own l.length))),ofl (l++[.tip e z es.length])⟩ a:=by
 have hf:C.st l.length= .free:=by rw[hS.st];exact vY l
 refine⟨?_,hS.ok.ghost hf,hS.defers.mono (Ev.ghost hf),?_,fun t' ht'=> ?_⟩
 ·show upd C.st l.length (.tip e z es.length)=_
  rw[hS.st];exact uT l _
 ·rw[hS.size];simp[jT]
 ·have hlt:t'<N:=by simpa[jT]using ht'
  have h1:=hS.slot t' (by simpa[jT]using hlt)
  simp only at h1;rw[fT,if_pos hlt]at h1 ⊢
  by_cases he:t=t'
  ·subst he
   rw[ht]at h1;have h2: ∀x∈es,x.size=z:=fun x hx=>by simpa using List.all_eq_true.1 hz x hx
   have h3:=R.ghost (id:=l.length) (e:=e) hk hf h1 h2;simpa[eV,dE]using h3
  ·simp only[eV,dE,if_neg he]
   exact h1.mono (Ev.ghost hf)
theorem ALp.ghost{K:Ro→Prop}{P:Program}{st0:Nat→Ent}{Q:Exit→St→Prop}{c:Code}{N:Nat}{s:List (Nat×V)}{l:List Ent}(t:Nat)(es:List V)(kk:Slk)(e:TypeId)(z:Nat)
  (h:ALp K P st0 c Q ⟨dn N (eV s (some t) (.sl es (.own l.length))),ofl (l++[.tip e z es.length])⟩) (ht:look s t= .sl es kk:=by rfl) (hk:kk= .full∨kk= .nl:=by first|exact .inl rfl|exact .inr rfl) (hz:By z es=true:=by rfl):ALp K P st0 c Q ⟨dn N s,ofl l⟩:=by
 intro C0 C a ro n hK h0 hE hS
 have hf:C.st l.length= .free:=by rw[hS.st];exact vY l
 exact h C0 (C.ghost l.length e z es.length) a ro n hK h0 (hE.trans (Ev.ghost hf)) (hS.ghost hk ht hz)
theorem Wk.agL{cs ds:List V}(h:WkL cs ds):Wk (.ag cs) (.ag ds):=Wk.ag h.length h.get
def WkS(es fs:List V):Prop:=es.length=fs.length∧ ∀i (h1:i<es.length) (h2:i<fs.length),Wk es[i] fs[i]∧fs[i].size=es[i].size
theorem WkS.nil:WkS [] []:=⟨rfl,fun i h=>absurd h (Nat.not_lt_zero i)⟩
theorem WkS.cons{x y:V}{l m:List V}(h:Wk x y)(hz:y.size=x.size)(k:WkS l m):WkS (x::l) (y::m):=by
 refine⟨by simp[k.1],fun i h1 h2=> ?_⟩
 cases i with
 | zero=>exact⟨h,hz⟩
 | succ i=>exact k.2 i (by simpa using h1) (by simpa using h2)
theorem Wk.slL{es fs:List V}{k:Slk}(h:WkS es fs):Wk (.sl es k) (.sl fs .ro):=(Wk.sl h.1 h.2).trans (Wk.ro _ _)
theorem dI{P:Program}{N:Nat}{ops:Array Oper}{dr:Bool}{Q:Exit→St→Prop}{d:Option Tmp}{c:Operand}{args:Array Operand}{tys:Array TypeId}{ty:TypeId}{pos:String}{af:Array Edge}{g:Option (Nat×Bool)}{os:List Oper}{k:Nat}{s:List (Nat×V)}{l:List Ent}
  {acc:List (Nat×List Nat×List Nat)} {f:FuncId} {us vs xs:List V} {r:V} {F E:Prop} (h:PC P f xs r) (fa:F) (fi:E) (n:AR P ops dr Q os (k+1) ⟨dn N (eV s d r),ofl l⟩ ((k,[],[])::acc)) (hg:gd ops ⟨d,.call {callee:= .value c,args:=args,argTypes:=tys},ty,pos,af,g⟩ ⟨dn N s,ofl l⟩=some true:=by rfl) (hc:St.ev ⟨dn N s,ofl l⟩ c= .fn (.func f) us vs:=by rfl)
  (hw:F→WkL (us++args.toList.map (St.ev ⟨dn N s,ofl l⟩)++vs) xs:=by intro f;simp only[St.ev,V.ofVal,V.ofCell,V.size_im,fT,dE,iJ,Nat.reduceLT,Nat.reduceEqDiff,reduceIte,if_true,if_false,List.map_cons,List.map_nil,List.nil_append,List.cons_append,List.append_nil,f];repeat (first|exact Wk.refl _|exact Wk.ro _ _|exact WkL.nil|exact WkS.nil|refine WkL.cons ?_ ?_|refine WkS.cons ?_ rfl ?_|refine Wk.agL ?_|refine Wk.slL ?_)) (hi:E→V.idsL noId xs=true:=by intro f;first|rfl|simp only[List.length_cons,List.length_nil,Nat.reduceAdd,V.ids,V.idsL,idsA,entOk,List.all_cons,List.all_nil,Bool.and_self,Bool.and_true,Bool.true_and,ltB,noId,Nat.reduceLT,decide_true,Bool.true_eq_false,bQ,bS,bR,bT,f]) :
  AR P ops dr Q (⟨d,.call {callee:= .value c,args:=args,argTypes:=tys},ty,pos,af,g⟩::os) k ⟨dn N s,ofl l⟩ acc:=Ej h hg hc (hw fa) (hi fi) n
def BN01:=A8 @gA @eO @fY @fX @fZ @eP @List.getElem?_map.{0,0} @Int.natCast_nonneg
def BN03:=A14 @eT @eY @dL @dN @eR @eQ @eS @dM @eB @eA @eX @dO @List.getElem?_map.{0,0} @Int.natCast_nonneg
variable {H:Type}
mutual
def dV:DataW H→V
 | .lit (.bool b)=> .im (.bool b)
 | .lit (.int k n)=> .im (.int k n)
 | .lit (.string s)=> .im (.string ⟨s.toArray⟩)
 | .slice es _=> .sl (dVL es) .ro
 | .agg ps=> .ag (dVF ps)
 | .nil=> .sl [] .ro
 | _=> .dead
def dVL:List (DataW H)→List V
 | []=>[]
 | x::l=>dV x::dVL l
def dVF:List (DataW H)→List V
 | []=>[]
 | x::l=>(dV x).cells++dVF l
end
theorem JN: ∀l:List (DataW H),dVL l=l.map dV
 | []=>by simp[dVL]
 | x::l=>by simp[dVL,JN l]
inductive Rd (P:Program):TypeId→DataW H→Prop
 | bool {t:TypeId} {b:Bool} (ht:P.underlying t=some .bool):Rd P t (.lit (.bool b))
 | int {t:TypeId} {k:IntKind} {n:Int} (ht:P.underlying t=some (.int k)) (hw:(Lit.int k n).wf=true):Rd P t (.lit (.int k n))
 | string {t:TypeId} {s:ByteArray} (ht:P.underlying t=some .string) (hs:s.size≤maxLen):Rd P t (.lit (.string s.data.toList))
 | nil {t e:TypeId} (ht:P.underlying t=some (.slice e)):Rd P t .nil
 | slice {t e:TypeId} {es sp:List (DataW H)} (ht:P.underlying t=some (.slice e)) (h: ∀x∈es,Rd P e x):Rd P t (.slice es sp)
 | agg {t:TypeId} {fs:Array Field} {ps:List (DataW H)} (ht:P.underlying t=some (.struct fs)) (hl:ps.length=fs.size) (h: ∀(i:Nat) (f:Field) (x:DataW H),fs[i]? =some f→ps[i]? =some x→Rd P f.type x):Rd P t (.agg ps)
def contig(P:Program):List Field→Nat→Nat→Bool
 | [],o,n=>o==n
 | f::fs,o,n=>f.offset==o&&contig P fs (o+P.cellsOf f.type) n
def BE(P:Program)(L:List TypeId):Bool:=L.all fun t=>match P.underlying t with
 | some .bool=>P.cellsOf t==1
 | some (.int _)=>P.cellsOf t==1
 | some .string=>P.cellsOf t==1
 | some (.slice e)=>P.cellsOf t==1&&L.contains e
 | some (.struct fs)=>contig P fs.toList 0 (P.cellsOf t)&&fs.toList.all fun f=>L.contains f.type
 | _=>false
def Cf.raw(W:World):Cf:=⟨fun _=>none,fun _=> .free,fun _ _=>False,W⟩
theorem Fp{W:World}{a:Addr}{v:Value}(h:W.cell? a=some v):(Cf.raw W).rd a v:=⟨h,fun h=>h,fun _ h=>by cases h⟩
def asV(d:DataW H)(cs:List Value):Value:=match d with
 | .agg _=> .agg cs.toArray
 | _=>cs.headD undef
theorem BD{v:Value}(h:v.oneCell'=true):v.cells= #[v]:=by
 cases v<;>first|rfl|simp[Value.oneCell']at h
def Cl(C:Cf)(d:DataW H)(cs:List Value):Prop:=(dV d).cells.length=cs.length∧ ∀(j:Nat) (v:Value),cs[j]? =some v→v.oneCell'=true∧ ∃x,(dV d).cells[j]? =some x∧R C x v
theorem Cl.R{P:Program}{C:Cf}{t:TypeId}{d:DataW H}{cs:List Value}(hd:Rd P t d)(h:Cl C d cs):R C (dV d) (asV d cs)∧(asV d cs).cells.toList=cs∧(dV d).size=cs.length:=by
 refine⟨?_,?_,h.1⟩
 all_goals
  obtain⟨h1,h2⟩:=h;cases hd with
  | agg ht hl hf =>
   first
    |(refine .ag ?_ (fun i hi=> ?_) (fun i hi=> ?_)
      ·simpa[dV,V.cells]using h1.symm
      ·have hi':i<cs.length:=by rw[←h1];simpa[dV,V.cells]using hi
       have:=(h2 i cs[i] (by simp[hi'])).1
       simpa[hi']using this
      ·have hi':i<cs.length:=by rw[←h1];simpa[dV,V.cells]using hi
       obtain⟨_,x,hx,hR⟩:=h2 i cs[i] (by simp[hi'])
       have e:x=(dVF _)[i]:=(Option.some.inj ((by rw[dV,V.cells];exact List.getElem?_eq_getElem hi:(dV (DataW.agg _)).cells[i]? =_).symm.trans hx)).symm
       rw[←e]
       simpa[hi']using hR)
    | simp[asV,Value.cells]
  | _ =>
   simp only[dV,V.cells,List.length_singleton,List.length_cons,List.length_nil]at h1 h2 ⊢
   match cs,h1 with
   | [v],_ =>
    obtain⟨k1,x,hx,hR⟩:=h2 0 v rfl
    first
     |(simp only[List.getElem?_cons_zero,Option.some.injEq]at hx;subst hx;exact hR)
     | simp[asV,BD k1]
section
variable {enc:TypeId×Value→H} {P:Program} {W:World} {base:Nat} {spare:Nat→Bool} {held:Bool}
theorem Cp{C:Cf}{L:List TypeId}{n:Nat}{cs:List Value}(hn: ∀t cs' x,t∈L→DataW.trod enc P W base spare held n t cs'=some x→Rd P t x.1∧cs'.length=P.cellsOf t∧Cl C x.1 cs') :
  ∀(fs:List Field) (o m:Nat) (xs:List (DataW H×List MemPlace)),(∀f∈fs,f.type∈L)→contig P fs o m=true→xs.length=fs.length→o≤cs.length →
   (∀(i:Nat) (f:Field),fs[i]? =some f→DataW.trod enc P W base spare held n f.type ((cs.drop f.offset).take (P.cellsOf f.type))=xs[i]?) →
   (∀(i:Nat) (f:Field) x,fs[i]? =some f→xs[i]? =some x→Rd P f.type x.1)∧m≤cs.length∧o+(dVF (xs.map (·.1))).length=m ∧
   ∀(j:Nat) (v:Value),j<(dVF (xs.map (·.1))).length→cs[o+j]? =some v→v.oneCell'=true∧ ∃x,(dVF (xs.map (·.1)))[j]? =some x∧R C x v
 | [],o,m,[],_,hc,_,ho,_=>by
  simp only[contig,beq_iff_eq]at hc;refine⟨fun i f x h=>by simp at h,by omega,by simpa[dVF]using hc,fun j v hj=>by simp[dVF]at hj⟩
 | f::fs,o,m,x::xs,hfL,hc,hl,ho,h=>by
  simp only[contig,Bool.and_eq_true,beq_iff_eq]at hc;obtain⟨rfl,hc⟩:=hc;have h0:=h 0 f rfl;obtain⟨k1,k2,k3,k4⟩:=hn f.type _ x (hfL f (by simp)) h0
  have hz:f.offset+P.cellsOf f.type≤cs.length:=by
   rw[List.length_take,List.length_drop]at k2;omega
  obtain⟨i1,i2,i3,i4⟩:=Cp hn fs _ m xs (fun g hg=>hfL g (by simp[hg])) hc (by simpa using hl) hz (fun i g hg=>by simpa using h (i+1) g (by simpa using hg))
  rw[k2]at k3;refine⟨fun i g y hg hy=> ?_,i2,?_,fun j v hj hv=> ?_⟩
  ·cases i with
   | zero=>cases hg;cases hy;exact k1
   | succ i=>exact i1 i g y (by simpa using hg) (by simpa using hy)
  ·simp only[List.map_cons,dVF,List.length_append,k3]
   omega
  ·simp only[List.map_cons,dVF,List.length_append,k3]at hj ⊢
   by_cases hjz:j<P.cellsOf f.type
   ·obtain⟨q1,y,q2,q3⟩:=k4 j v (by rw[List.getElem?_take,if_pos hjz,List.getElem?_drop];exact hv)
    refine⟨q1,y,?_,q3⟩;rw[List.getElem?_append_left (by omega)]
    exact q2
   ·obtain⟨q1,y,q2,q3⟩:=i4 (j-P.cellsOf f.type) v (by omega) (by rw[←hv];congr 1;omega)
    refine⟨q1,y,?_,q3⟩;rw[List.getElem?_append_right (by omega),k3]
    exact q2
theorem NX{L:List TypeId}(hL:BE P L=true): ∀(fuel:Nat) (t:TypeId) (cs:List Value) (x:DataW H×List MemPlace),t∈L→DataW.trod enc P W base spare held fuel t cs=some x→Rd P t x.1∧cs.length=P.cellsOf t∧Cl (Cf.raw W) x.1 cs:=by
 intro fuel
 induction fuel with
 | zero=>intro t cs x _ h;simp[DataW.trod]at h
 | succ n ih =>
  intro t cs x ht h;have hk:=List.all_eq_true.1 hL t ht;split at hk
  ·rename_i hu
   obtain⟨b,rfl,rfl⟩:=DataW.trod_bool hu h;refine⟨.bool hu,by simpa using (beq_iff_eq.1 hk).symm,rfl,fun j v hj=> ?_⟩
   match j,hj with
   | 0,hj=>cases hj;exact⟨rfl,_,rfl,.im rfl⟩
  ·rename_i k hu
   obtain⟨b,rfl,rfl,hw⟩:=DataW.trod_int hu h;refine⟨.int hu hw,by simpa using (beq_iff_eq.1 hk).symm,rfl,fun j v hj=> ?_⟩
   match j,hj with
   | 0,hj=>cases hj;exact⟨rfl,_,rfl,.im rfl⟩
  ·rename_i hu
   obtain⟨s,rfl,rfl,hw⟩:=DataW.trod_string hu h;refine⟨.string hu hw,by simpa using (beq_iff_eq.1 hk).symm,rfl,fun j v hj=> ?_⟩
   match j,hj with
   | 0,hj=>cases hj;exact⟨rfl,_,rfl,.im rfl⟩
  ·rename_i e hu
   simp only[Bool.and_eq_true,beq_iff_eq,List.contains_iff_mem]at hk;rcases DataW.trod_slice hu h with ⟨rfl,rfl⟩|⟨a,len,cap,elems,rest,n',en,rfl,rfl,hb,hl,hm,hlen,hel,_,_⟩
   ·refine⟨.nil hu,by simpa using hk.1.symm,rfl,fun j v hj=> ?_⟩
    match j,hj with
    | 0,hj =>
     cases hj
     exact⟨rfl,_,rfl,.sl (z:=0) (u:=fun _=>undef) (Nat.le_refl _) (by decide) (fun i hi=>absurd hi (Nat.not_lt_zero _)) (fun i hi=>absurd hi (Nat.not_lt_zero _)) (fun i hi=>absurd hi (Nat.not_lt_zero _)) trivial⟩
   ·obtain rfl:n=n':=by omega
    obtain⟨csf,hcsf⟩:=Go.Deep.choose_lt (α:=List Value) (n:=len) (p:=fun i cs'=>W.cells? base (a.add (i*P.cellsOf e)) (P.cellsOf e)=some cs'∧ ∃hi:i<elems.length,DataW.trod enc P W base spare held n e cs'=some elems[i]) (fun i hi=>by
     have h1:=hel i hi;have hi':i<elems.length:=by omega
     rw[List.getElem?_eq_getElem hi']at h1;obtain⟨cs',h2,h3⟩:=Option.bind_eq_some_iff.1 h1
     exact⟨cs',h2,hi',h3⟩)
    have hI: ∀i (hi:i<elems.length),Rd P e elems[i].1∧(csf i).length=P.cellsOf e∧Cl (Cf.raw W) elems[i].1 (csf i):=fun i hi=>by
     obtain⟨_,_,h3⟩:=hcsf i (by omega)
     exact ih e _ _ hk.2 h3
    have hes:dVL (elems.map (·.1))=elems.map fun p=>dV p.1:=by rw[JN,List.map_map];rfl
    refine⟨.slice hu fun x hx=> ?_,by simpa using hk.1.symm,rfl,fun j v hj=> ?_⟩
    ·obtain⟨p,hp,rfl⟩:=List.mem_map.1 hx
     obtain⟨i,hi,rfl⟩:=List.getElem_of_mem hp;exact(hI i hi).1
    ·match j,hj with
     | 0,hj =>
      cases hj
      refine⟨rfl,_,rfl,?_⟩;simp only[dV,hes];have hlen':(elems.map fun p=>dV p.1).length=len:=by simpa using hlen
      refine R.cast_len hlen' (.sl (z:=P.cellsOf e) (u:=fun i=>asV (elems.getD i (.nil,[])).1 (csf i)) (by omega) hm (fun i hi=> ?_) (fun i hi=> ?_) (fun i hi=> ?_) trivial)
      all_goals
       have hi':i<elems.length:=by simpa using hi
       obtain⟨k1,k2,k3⟩:=hI i hi';obtain⟨q1,q2,q3⟩:=k3.R k1;have eg:elems.getD i (.nil,[])=elems[i]:=by simp[List.getD,hi']
       simp only[eg]
      ·refine⟨by simpa using q3.trans k2,?_⟩
       rw[←Array.length_toList,q2,k2]
      ·simpa using q1
      ·refine⟨a,rfl,fun j c hj=>Fp ?_⟩
       rw[←Array.getElem?_toList,q2]at hj;obtain⟨h2,_⟩:=hcsf i (by omega)
       obtain⟨_,_,h3⟩:=World.cells?_some h2;rw[h3 j (by have:=(List.getElem?_eq_some_iff.1 hj).1;omega)]
       exact hj
  ·rename_i fs hu
   simp only[Bool.and_eq_true,List.all_eq_true,List.contains_iff_mem]at hk;obtain⟨xs,n',e,rfl,hlen,hxl,hf⟩:=DataW.trod_struct hu h;obtain rfl:n=n':=by omega
   obtain⟨k1,k2,k3,k4⟩:=Cp (C:=Cf.raw W) ih fs.toList 0 (P.cellsOf t) xs (fun f hf=>hk.2 f hf) hk.1 (by simpa using hxl) (Nat.zero_le _) (fun i f hf'=>hf i f (by simpa using hf'))
   rw[Nat.zero_add]at k3;refine⟨.agg hu (by simpa using hxl) fun i f x hf' hx=> ?_,hlen,?_,fun j v hj=> ?_⟩
   ·obtain⟨p,hp,rfl⟩: ∃p,xs[i]? =some p∧p.1=x:=by simpa using hx
    exact k1 i f p (by simpa using hf') hp
   ·simpa[dV,V.cells,hlen]using k3
   ·have hj':=(List.getElem?_eq_some_iff.1 hj).1
    exact k4 j v (by omega) (by simpa using hj)
  ·cases hk
end
variable {H:Type} {P:Program}
def Df(P:Program)(t:TypeId):Option (List TypeId):=match P.underlying t with
 | some (.struct fs)=>some (fs.toList.map (·.type))
 | _=>none
def RdL(P:Program):List TypeId→List (DataW H)→Prop
 | [],[]=>True
 | t::ts,x::xs=>Rd P t x∧RdL P ts xs
 | _,_=>False
theorem LR: ∀ {ts:List TypeId} {ps:List (DataW H)},ps.length=ts.length→(∀(i:Nat) t x,ts[i]? =some t→ps[i]? =some x→Rd P t x)→RdL P ts ps
 | [],[],_,_=>trivial
 | t::ts,x::xs,hl,h=>⟨h 0 t x rfl rfl,LR (by simpa using hl) fun i t y h1 h2=>h (i+1) t y (by simpa using h1) (by simpa using h2)⟩
theorem Rd.agg_inv{t:TypeId}{d:DataW H}{ts:List TypeId}(h:Rd P t d)(ht:Df P t=some ts): ∃ps,d= .agg ps∧RdL P ts ps:=by
 unfold Df at ht
 cases h with
 | agg hu hl hf =>
  rw[hu]at ht;cases ht
  refine⟨_,rfl,LR (by simpa using hl) fun i t x h1 h2=> ?_⟩
  rw[List.getElem?_map]at h1;obtain⟨f,h3,rfl⟩:=Option.map_eq_some_iff.1 h1;exact hf i f x (by simpa using h3) h2
 | bool hu=>rw[hu]at ht;cases ht
 | int hu=>rw[hu]at ht;cases ht
 | string hu=>rw[hu]at ht;cases ht
 | nil hu=>rw[hu]at ht;cases ht
 | slice hu=>rw[hu]at ht;cases ht
theorem Rd.int_inv{t:TypeId}{d:DataW H}{k:IntKind}(h:Rd P t d)(ht:sP P t=some k): ∃n,d= .lit (.int k n)∧k.min≤n∧n≤k.max:=by
 unfold sP at ht
 cases h with
 | int hu hw =>
  rw[hu]at ht;cases ht
  simp only[Lit.wf,Bool.and_eq_true,decide_eq_true_eq]at hw;exact⟨_,rfl,hw⟩
 | bool hu=>rw[hu]at ht;cases ht
 | agg hu=>rw[hu]at ht;cases ht
 | string hu=>rw[hu]at ht;cases ht
 | nil hu=>rw[hu]at ht;cases ht
 | slice hu=>rw[hu]at ht;cases ht
theorem Rd.string_inv{t:TypeId}{d:DataW H}(h:Rd P t d)(ht:P.underlying t=some .string): ∃s:ByteArray,d= .lit (.string s.data.toList)∧s.size≤maxLen:=by
 cases h with
 | string hu hs=>exact⟨_,rfl,hs⟩
 | int hu=>rw[hu]at ht;cases ht
 | bool hu=>rw[hu]at ht;cases ht
 | agg hu=>rw[hu]at ht;cases ht
 | nil hu=>rw[hu]at ht;cases ht
 | slice hu=>rw[hu]at ht;cases ht
theorem Rd.slice_inv{t e:TypeId}{d:DataW H}(h:Rd P t d)(ht:eN P t=some e):d= .nil∨ ∃es sp,d= .slice es sp∧ ∀x∈es,Rd P e x:=by
 unfold eN at ht
 cases h with
 | nil hu=>exact .inl rfl
 | slice hu hs =>
  rw[hu]at ht;cases ht
  exact .inr ⟨_,_,rfl,hs⟩
 | int hu=>rw[hu]at ht;cases ht
 | bool hu=>rw[hu]at ht;cases ht
 | string hu=>rw[hu]at ht;cases ht
 | agg hu=>rw[hu]at ht;cases ht
theorem LH{d:DataW H}{l:List (DataW H)}(h:d∈l):Rows.uptoBulk d≤Rows.uptoBulkAll l:=by
 induction l with
 | nil=>cases h
 | cons x r ih =>
  simp only[Rows.uptoBulkAll];cases List.mem_cons.1 h with
  | inl e=>subst e;omega
  | inr e=>have:=ih e;omega
theorem QW(es sp:List (DataW H)):Rows.uptoBulkAll es+1≤Rows.uptoBulk (.slice es sp):=by
 simp only[Rows.uptoBulk]
 omega
theorem OH{α:Type}{G:α→V}{Q:α→Prop}{es:List (DataW H)}(h: ∀x∈es,∃a,dV x=G a∧Q a): ∃l:List α,dVL es=l.map G∧l.length=es.length∧ ∀a∈l,Q a:=by
 induction es with
 | nil=>exact⟨[],by simp[dVL],rfl,fun a ha=>by cases ha⟩
 | cons x r ih =>
  obtain⟨a,h1,h2⟩:=h x (by simp)
  obtain⟨l,h3,h4,h5⟩:=ih fun y hy=>h y (by simp[hy])
  refine⟨a::l,by simp[dVL,h1,h3],by simp[h4],fun b hb=> ?_⟩
  rcases List.mem_cons.1 hb with rfl|hb
  ·exact h2
  ·exact h5 b hb
end Go.Proofs.YtmbmmckagcdapaaGreatDoor
namespace Go.Proofs.YtmbmmckagcdapaaGreatDoor
open Go.RowKit Go.ChangeShapes Go.WideShapes Go.WideMaps Go.WideElems
theorem US{W:World}(h:(Cf.raw W).known):Ok (Cf.raw W)where
 box:=fun i cs hb=>by cases hb
 tip:=fun i e z n g hb=>by cases hb
 iter:=fun i s p hb=>by cases hb
 inj:=fun i j g hi=>absurd rfl hi
 avl:=fun b o h=>h.elim
 bav:=fun i cs g o hb=>by cases hb
 gl:=h
theorem BA{W:World}{D:Cf}(h:Ev (Cf.raw W) D):Below W.heap.size W D.w :=
 ⟨h.os,h.tape,h.output,h.size,fun k hk=>h.keep k hk fun _ hi=>by cases hi⟩
section
variable {H:Type} {enc:TypeId×Value→H} {P:Program} {W:World}
theorem XN{L:List TypeId}(hL:BE P L=true){t:TypeId}{v:Value}{d:DataW H}{p:List MemPlace}{base b:Nat}(ht:t∈L)(hv:Value.okWide P W .any b t v)
  (h:DataW.Trod enc P W base (fun _=>true) true t v d p):Rd P t d∧R (Cf.raw W) (dV d) v:=by
 obtain⟨fuel,hf⟩:=h
 obtain⟨h1,h2,h3⟩:=NX hL fuel t _ _ ht hf
 obtain⟨k1,k2,_⟩:=h3.R h1
 refine⟨h1,?_⟩
 have e:asV d v.cells.toList=v:=by
  cases h1 with
  | agg hu=>obtain⟨cs,rfl,_⟩:=okWide_struct hu hv;simp[asV,Value.cells]
  | int hu=>obtain⟨n,rfl⟩:=okWide_int hu hv;rfl
  | bool hu=>obtain⟨n,rfl⟩:=okWide_bool hu hv;rfl
  | string hu=>obtain⟨n,rfl⟩:=okWide_string hu hv;rfl
  | nil hu=>obtain⟨a,n,m,rfl⟩:=okWide_slice hu hv;rfl
  | slice hu=>obtain⟨a,n,m,rfl⟩:=okWide_slice hu hv;rfl
 rw[e]at k1
 exact k1
theorem Yx{L:List TypeId}(hL:BE P L=true){b:Nat}: ∀(ts:List TypeId) (vs:List Value) (ds:List (DataW H)) (ps:List MemPlace),(∀t∈ts,t∈L) →
  (∀(j:Nat) t v,ts[j]? =some t→vs[j]? =some v→Value.okWide P W .any b t v)→DataW.TrodAll enc P W 0 (fun _=>true) true ts vs ds ps →
  RdL P ts ds∧vs.length=(ds.map dV).length∧ ∀i (h:i<(ds.map dV).length),R (Cf.raw W) (ds.map dV)[i] (vs.getD i undef)
 | [],[],[],_,_,_,_=>⟨trivial,rfl,fun i h=>absurd h (Nat.not_lt_zero _)⟩
 | t::ts,v::vs,d::ds,ps,hl,hv,h=>by
  obtain⟨p,q,h1,h2,_⟩:=h;obtain⟨k1,k2⟩:=XN hL (hl t (by simp)) (hv 0 t v rfl rfl) h1
  obtain⟨i1,i2,i3⟩:=Yx hL ts vs ds q (fun t' ht=>hl t' (by simp[ht])) (fun j t' v' h3 h4=>hv (j+1) t' v' (by simpa using h3) (by simpa using h4)) h2
  refine⟨⟨k1,i1⟩,by simpa using i2,fun i hi=> ?_⟩
  cases i with
  | zero=>simpa using k2
  | succ i=>exact i3 i (by simpa using hi)
 | [],[],_::_,_,_,_,h=>h.elim
 | [],_::_,_,_,_,_,h=>h.elim
 | _::_,[],_,_,_,_,h=>h.elim
 | _::_,_::_,[],_,_,_,h=>h.elim
theorem Kw(hl:laidOutB P=true){W':World}(hb:Below W.heap.size W W'): ∀(ts:List TypeId) (vs:List Value) (ds:List (DataW H)) (ps:List MemPlace),(∀t∈ts,P.readableRec t=true∧t<P.types.size) →
  (∀x∈ps,x.block<W.heap.size)→DataW.TrodAll enc P W 0 (fun _=>true) true ts vs ds ps→DataW.TrodAll enc P W' 0 (fun b=>decide (b<W.heap.size)) true ts vs ds ps
 | [],[],[],_,_,_,h=>h
 | t::ts,v::vs,d::ds,ps,hr,hlt,h=>by
  obtain⟨p,q,h1,h2,rfl⟩:=h;exact⟨p,q,Below.trod hl (hr t (by simp)).1 (hr t (by simp)).2 h1 hb (fun x hx=>hlt x (by simp[hx])),Kw hl hb ts vs ds q (fun t' ht=>hr t' (by simp[ht])) (fun x hx=>hlt x (by simp[hx])) h2,rfl⟩
 | [],[],_::_,_,_,_,h=>h.elim
 | [],_::_,_,_,_,_,h=>h.elim
 | _::_,[],_,_,_,_,h=>h.elim
 | _::_,_::_,[],_,_,_,h=>h.elim
end
end Go.Proofs.YtmbmmckagcdapaaGreatDoor
namespace Go.Proofs.YtmbmmckagcdapaaGreatDoor
open Go.RowKit Go.ChangeShapes Go.WideShapes Go.WideMaps Go.WideElems
theorem Am{W:World}{g:Nat}{k:IntKind}{l:List Int}{name:String}(hg:Tryz.prog.globalNamed name=some g)(h:Lib.TabIs Tryz.prog W name k l): ∀a∈glT g k l,∃v:Value,(Cf.raw W).rd a.1 v∧a.2 v:=fun a ha=>by
 unfold glT at ha
 obtain⟨i,hi,rfl⟩:=List.mem_map.1 ha
 exact⟨_,Fp (h.cell hg i (List.mem_range.1 hi)),rfl⟩
theorem Cr{P:Program}{W:World}{n nm:String}{d:DataW Unit}{r:List (String×DataW Unit)}{g:Nat}{ti:TypeId}{ms:Array (String×TypeId)}(h:laidMet P ((n,.iface nm d)::r) W)
  (hg:P.globalNamed n=some g) (ht:(P.globals[g]?).map (·.type)=some ti) (hi:P.underlying ti=some (.interface ms)): ∃t x,W.cell? ⟨g,0,none⟩=some (.iface t x):=by
 obtain⟨ps,⟨g',t',cs,fuel,p,q,hg',ht',hvar,hd,_,_⟩,_⟩:=h
 obtain rfl:=Option.some.inj (hg.symm.trans hg')
 obtain rfl:=Option.some.inj (ht.symm.trans ht')
 obtain⟨l⟩:=cs
 obtain⟨f1,u,v,hl,_,_⟩:=iface_of_trod hi hd
 have hl:l=[.iface u v]:=hl
 subst hl
 exact⟨u,v,by simpa using World.var?_cell hg hvar 0⟩
def lay:List (String×DataW Unit):=[("math/bits.deBruijn32tab",Rows.laid_math_bits_deBruijn32tab),("math/bits.deBruijn64tab",Rows.laid_math_bits_deBruijn64tab),("internal/strconv.uint64pow10",Rows.laid_internal_strconv_uint64pow10),("strconv.ErrRange",Rows.laid_strconv_ErrRange),("strconv.ErrSyntax",Rows.laid_strconv_ErrSyntax)]
theorem Xt{W:World}(h:laidMetH Tryz.prog lay W):laidMet Tryz.prog lay W:=h
theorem gn32:Tryz.prog.globalNamed "math/bits.deBruijn32tab" =some 2:=by kernel_rfl
theorem gn64:Tryz.prog.globalNamed "math/bits.deBruijn64tab" =some 3:=by kernel_rfl
theorem gn10:Tryz.prog.globalNamed "internal/strconv.uint64pow10" =some 1:=by kernel_rfl
theorem gnR:Tryz.prog.globalNamed "strconv.ErrRange" =some 5:=by kernel_rfl
theorem gnS:Tryz.prog.globalNamed "strconv.ErrSyntax" =some 4:=by kernel_rfl
theorem gt32:(Tryz.prog.globals[2]?).map (·.type)=some 301:=by kernel_rfl
theorem gt64:(Tryz.prog.globals[3]?).map (·.type)=some 302:=by kernel_rfl
theorem gt10:(Tryz.prog.globals[1]?).map (·.type)=some 280:=by kernel_rfl
theorem gtR:(Tryz.prog.globals[5]?).map (·.type)=some 139:=by kernel_rfl
theorem gtS:(Tryz.prog.globals[4]?).map (·.type)=some 139:=by kernel_rfl
theorem Ql{W:World}(hsh:W.ShapedOpen Tryz.prog)(hL:laidMetH Tryz.prog lay W):(Cf.raw W).known:=by
 refine⟨fun a ha=> ?_,fun a ha i hi=>(by cases hi),fun p hp=> ?_⟩
 rotate_left
 ·obtain rfl:=List.mem_singleton.1 hp
  have h2:=((Xt hL).tail).tail;have:=Lib.tabIs_of_head (zs:=tab10) gn10 gt10 Tryz.underlying280 Tryz.underlying145 (by kernel_rfl) (by kernel_rfl) h2
  unfold Lib.TabIs World.var? at this;rw[gn10]at this;have this:(match W.heap[1]? with|some (Obj.cells cs _ _)=>some cs|_=>none)=some (tab10.map fun z=>Value.int .u64 z).toArray:=this
  split at this
  ·rename_i cs t fz hh
   cases this
   exact⟨_,t,fz,hh,rfl⟩
  ·cases this
 have h0:=Xt hL
 have h1:=h0.tail
 have h2:=h1.tail
 have h3:=h2.tail
 have h4:=h3.tail
 unfold glL at ha
 rcases List.mem_append.1 ha with ha|ha
 ·simp only[List.mem_cons,List.not_mem_nil,or_false]at ha
  rcases ha with rfl|rfl|rfl
  ·obtain⟨m,hm⟩:=cell_of_shapedOpen_int (zero:= #[.int .i64 0]) (t:=3) hsh (of_decide_eq_true (by kernel_rfl)) (by kernel_rfl) rfl (by kernel_rfl) (by kernel_rfl) Tryz.underlying3
   exact⟨_,Fp hm,m,rfl⟩
  ·obtain⟨t,x,h⟩:=Cr h4 gnS gtS Tryz.underlying139
   exact⟨_,Fp h,t,x,rfl⟩
  ·obtain⟨t,x,h⟩:=Cr h3 gnR gtR Tryz.underlying139
   exact⟨_,Fp h,t,x,rfl⟩
 rcases List.mem_append.1 ha with ha|ha
 ·exact Am gn64 (Lib.tabIs_of_head (zs:=tab64) gn64 gt64 Tryz.underlying302 Tryz.underlying5 (by kernel_rfl) (by kernel_rfl) h1) a ha
 rcases List.mem_append.1 ha with ha|ha
 ·exact Am gn32 (Lib.tabIs_of_head (zs:=tab32) gn32 gt32 Tryz.underlying301 Tryz.underlying5 (by kernel_rfl) (by kernel_rfl) h0) a ha
 ·exact Am gn10 (Lib.tabIs_of_head (zs:=tab10) gn10 gt10 Tryz.underlying280 Tryz.underlying145 (by kernel_rfl) (by kernel_rfl) h2) a ha
noncomputable def low:Nat:=(World.holding Tryz.prog default ⟨#[],#[],[]⟩).heap.size
noncomputable def setG (g:Nat) (cs:Array Value) (h:Array Obj):Array Obj:=h.modify g fun
 | .cells _ t frozen=> .cells cs t frozen
 | o=>o
noncomputable def laidWorld (os:Os):World :=
 let w0:=World.holding Tryz.prog os ⟨#[.cells #[.string ⟨#[118,97,108,117,101,32,111,117,116,32,111,102,32,114,97,110,103,101]⟩] 309,.cells #[.string ⟨#[105,110,118,97,108,105,100,32,115,121,110,116,97,120]⟩] 309],#[],[]⟩
 {w0 with heap:=setG 2 (tab32.map fun n=>Value.int .u8 n).toArray (setG 3 (tab64.map fun n=>Value.int .u8 n).toArray (setG 1 (tab10.map fun n=>Value.int .u64 n).toArray
   (setG 5 #[.iface 307 (.pointer (some ⟨low,0,none⟩))] (setG 4 #[.iface 307 (.pointer (some ⟨low+1,0,none⟩))] w0.heap))))}
theorem Qj(os:Os)(args:Array Value):laidMet Tryz.prog lay ((laidWorld os).forCall (fun _ _=>0) ⟨#[],args,[]⟩).memory :=
 laidMet_of_run' 8 (by kernel_rfl) (by kernel_rfl)
variable {H:Type}
theorem PB{o k s c:Int}{es fs:List Ty}(h0:I64 o∧I64 k∧I64 s∧I64 c)(h1:es.length≤4194304)(h2:fs.length≤4194304)(h3: ∀t∈es,fit t)(h4: ∀t∈fs,fit t):fit (.mk o k s c es fs):=by
 have e:BX (.mk o k s c es fs)=_:=Ty.para_mk _ o k s c es fs
 show BX (.mk o k s c es fs)=true
 rw[e]
 simp only[Bool.and_eq_true,decide_eq_true_eq,Ty.off,Ty.kind,Ty.size,Ty.count,Ty.elem,Ty.fields,List.all_map,List.all_eq_true]
 exact⟨⟨⟨⟨decide_eq_true h0,decide_eq_true h1⟩,decide_eq_true h2⟩,h3⟩,h4⟩
theorem C3:Df Tryz.prog 94=some [3,3,3,91,92]:=by kernel_rfl
theorem D3:Df Tryz.prog 218=some [3,94]:=by kernel_rfl
theorem C2:eN Tryz.prog 91=some 94:=by kernel_rfl
theorem D0:eN Tryz.prog 92=some 218:=by kernel_rfl
theorem Cw:sP Tryz.prog 3=some .i64:=by kernel_rfl
theorem vI{n:Int}(h:IntKind.i64.min≤n∧n≤IntKind.i64.max):I64 n:=h
theorem D4:Df Tryz.prog 46=some [3,43,9,3,44]:=by kernel_rfl
theorem B9:Df Tryz.prog 96=some [9,94]:=by kernel_rfl
theorem TA:eN Tryz.prog 44=some 46:=by kernel_rfl
theorem B8:eN Tryz.prog 23=some 96:=by kernel_rfl
theorem SY:sP Tryz.prog 43=some .u32:=by kernel_rfl
theorem LQ{n:Int}(h:IntKind.u32.min≤n∧n≤IntKind.u32.max):0≤n∧n≤4294967295:=h
theorem IR{o n:Int}{s:ByteArray}{w:Int}{l:List Ex}(h0:I64 o∧(0≤n∧n≤4294967295)∧I64 w)(h1:l.length≤4194304)(h2:s.size≤9223372036854775807)(h3: ∀t∈l,fitE t):fitE (.mk o n s w l):=by
 have e:fitEB (.mk o n s w l)=_:=Ex.para_mk _ o n s w l
 show fitEB (.mk o n s w l)=true
 rw[e]
 simp only[Bool.and_eq_true,Ex.op,Ex.n,Ex.name,Ex.width,Ex.l,List.all_map,List.all_eq_true]
 exact⟨⟨⟨decide_eq_true h0,decide_eq_true h1⟩,decide_eq_true h2⟩,h3⟩
end Go.Proofs.YtmbmmckagcdapaaGreatDoor
namespace Go.Proofs.YtmbmmckagcdapaaGreatDoor
open Go.RowKit
theorem wnG{T F H G:Prop}(t:T)(f:F)(n:H)(step:T→F→H→G:=by
 intro t f h
 repeat (first
  |(with_reducible first|refine AWp.seq ?_|refine nD ?_|refine Thn.n ?_|refine Thn.r ?_|refine Thn.x ?_|refine Blk'.n ?_|refine Blk'.r ?_|refine Blk'.here ?_|refine Rnd.n ?_|refine Rnd.r ?_|refine Rnd.x ?_|refine Blk'.past (by decide) ?_|refine jE ?_|refine AWp.ret ?_|refine Ah ?_)
  |((with_reducible apply pT);(case ht=>rfl);(case hc=>rfl))
  |((with_reducible apply jP);(case ht=>rfl);(case hc=>rfl))
  |((with_reducible apply qQ);(case h=>(simp only[↓iG,↓reduceIte,SA,SB,SC,SD,t,oC,fpsG,evO,evB,evA,nT,oE,eqF,eqC,kB,iA,slB,slK,gd,St.ev,eV,ofl,wrl,putE,V.ofVal,V.ofCell,bin2,un1,seg,iL,dT,Value.oneCell',Nat.reduceBEq,Nat.reduceLT,Nat.reduceSub,Nat.reduceAdd,Nat.reduceMul,Nat.reduceLeDiff,Nat.reduceEqDiff,reduceCtorEq,Int.reduceLT,Int.reduceLE,Int.reduceEq,Int.reduceNe,Int.reduceBEq,Int.reduceBNe,Int.reduceAdd,Int.reduceSub,Int.reduceMul,Int.reduceToNat,f];with_reducible exact rfl)))
  |((with_reducible apply oW);(case h=>(simp only[↓iG,↓reduceIte,SA,SB,SC,SD,t,oC,fpsG,evO,evB,evA,nT,oE,eqF,eqC,kB,iA,slB,slK,gd,St.ev,eV,ofl,wrl,putE,V.ofVal,V.ofCell,bin2,un1,seg,iL,dT,Value.oneCell',Nat.reduceBEq,Nat.reduceLT,Nat.reduceSub,Nat.reduceAdd,Nat.reduceMul,Nat.reduceLeDiff,Nat.reduceEqDiff,reduceCtorEq,Int.reduceLT,Int.reduceLE,Int.reduceEq,Int.reduceNe,Int.reduceBEq,Int.reduceBNe,Int.reduceAdd,Int.reduceSub,Int.reduceMul,Int.reduceToNat,f];with_reducible exact rfl))))
 exact h):G:=step t f n
theorem wG{T F H G:Prop}(t:T)(f:F)(n:H)(step:T→F→H→G:=by
 intro t f h
 repeat (first
  |(with_reducible first|refine AWp.seq ?_|refine nD ?_|refine Thn.n ?_|refine Thn.r ?_|refine Thn.x ?_|refine Blk'.n ?_|refine Blk'.r ?_|refine Blk'.here ?_|refine Rnd.n ?_|refine Rnd.r ?_|refine Rnd.x ?_|refine Blk'.past (by decide) ?_|refine AWp.block ?_|refine jE ?_|refine AWp.ret ?_|refine Ah ?_)
  |((with_reducible apply pT);(case ht=>rfl);(case hc=>rfl))
  |((with_reducible apply jP);(case ht=>rfl);(case hc=>rfl))
  |((with_reducible apply qQ);(case h=>(simp only[↓iG,↓reduceIte,SA,SB,SC,SD,t,oC,fpsG,evO,evB,evA,nT,oE,eqF,eqC,kB,iA,slB,slK,gd,St.ev,eV,ofl,wrl,putE,V.ofVal,V.ofCell,bin2,un1,seg,iL,dT,Value.oneCell',Nat.reduceBEq,Nat.reduceLT,Nat.reduceSub,Nat.reduceAdd,Nat.reduceMul,Nat.reduceLeDiff,Nat.reduceEqDiff,reduceCtorEq,Int.reduceLT,Int.reduceLE,Int.reduceEq,Int.reduceNe,Int.reduceBEq,Int.reduceBNe,Int.reduceAdd,Int.reduceSub,Int.reduceMul,Int.reduceToNat,f];with_reducible exact rfl)))
  |((with_reducible apply oW);(case h=>(simp only[↓iG,↓reduceIte,SA,SB,SC,SD,t,oC,fpsG,evO,evB,evA,nT,oE,eqF,eqC,kB,iA,slB,slK,gd,St.ev,eV,ofl,wrl,putE,V.ofVal,V.ofCell,bin2,un1,seg,iL,dT,Value.oneCell',Nat.reduceBEq,Nat.reduceLT,Nat.reduceSub,Nat.reduceAdd,Nat.reduceMul,Nat.reduceLeDiff,Nat.reduceEqDiff,reduceCtorEq,Int.reduceLT,Int.reduceLE,Int.reduceEq,Int.reduceNe,Int.reduceBEq,Int.reduceBNe,Int.reduceAdd,Int.reduceSub,Int.reduceMul,Int.reduceToNat,f];with_reducible exact rfl))))
 exact h):G:=step t f n
theorem wdG{T F H G:Prop}(t:T)(f:F)(n:H)(step:T→F→H→G:=by
 intro t f h
 repeat (first
  |(with_reducible first|refine AWp.seq ?_|refine nD ?_|refine Thn.n ?_|refine Thn.r ?_|refine Thn.x ?_|refine Blk'.n ?_|refine Blk'.r ?_|refine Blk'.here ?_|refine Rnd.n ?_|refine Rnd.r ?_|refine Rnd.x ?_|refine Blk'.past (by decide) ?_|refine AWp.block ?_|refine jE ?_|refine AWp.ret ?_|refine Ah ?_)
  |((with_reducible apply pT);(case ht=>rfl);(case hc=>rfl))
  |((with_reducible apply jP);(case ht=>rfl);(case hc=>rfl))
  |((first|(with_reducible apply qQ)|((with_reducible apply Ot);(case hm=>kernel_rfl)));(case h=>(simp only[↓iG,↓reduceIte,SA,SB,SC,SD,t,oC,fpsG,evO,evB,evA,nT,oE,eqF,eqC,kB,iA,slB,slK,gd,St.ev,eV,ofl,wrl,putE,V.ofVal,V.ofCell,bin2,un1,seg,iL,dT,Value.oneCell',Nat.reduceBEq,Nat.reduceLT,Nat.reduceSub,Nat.reduceAdd,Nat.reduceMul,Nat.reduceLeDiff,Nat.reduceEqDiff,reduceCtorEq,Int.reduceLT,Int.reduceLE,Int.reduceEq,Int.reduceNe,Int.reduceBEq,Int.reduceBNe,Int.reduceAdd,Int.reduceSub,Int.reduceMul,Int.reduceToNat,f];with_reducible exact rfl)))
  |((first|(with_reducible apply oW)|((with_reducible apply It);(case hm=>kernel_rfl)));(case h=>(simp only[↓iG,↓reduceIte,SA,SB,SC,SD,t,oC,fpsG,evO,evB,evA,nT,oE,eqF,eqC,kB,iA,slB,slK,gd,St.ev,eV,ofl,wrl,putE,V.ofVal,V.ofCell,bin2,un1,seg,iL,dT,Value.oneCell',Nat.reduceBEq,Nat.reduceLT,Nat.reduceSub,Nat.reduceAdd,Nat.reduceMul,Nat.reduceLeDiff,Nat.reduceEqDiff,reduceCtorEq,Int.reduceLT,Int.reduceLE,Int.reduceEq,Int.reduceNe,Int.reduceBEq,Int.reduceBNe,Int.reduceAdd,Int.reduceSub,Int.reduceMul,Int.reduceToNat,f];with_reducible exact rfl)))
  |((with_reducible apply RU);(case hc=>kernel_rfl)))
 exact h):G:=step t f n
theorem whG{T F H G:Prop}(t:T)(f:F)(n:H)(step:T→F→H→G:=by
 intro t f h
 repeat (first
  |(with_reducible first|refine AWp.seq ?_|refine nD ?_|refine Thn.n ?_|refine Thn.r ?_|refine Thn.x ?_|refine Blk'.n ?_|refine Blk'.r ?_|refine Rnd.n ?_|refine Rnd.r ?_|refine Rnd.x ?_|refine Blk'.past (by decide) ?_|refine AWp.block ?_|refine jE ?_|refine AWp.ret ?_|refine Ah ?_)
  |((with_reducible apply pT);(case ht=>rfl);(case hc=>rfl))
  |((with_reducible apply jP);(case ht=>rfl);(case hc=>rfl))
  |((with_reducible apply qQ);(case h=>(simp only[↓iG,↓reduceIte,SA,SB,SC,SD,t,oC,fpsG,evO,evB,evA,nT,oE,eqF,eqC,kB,iA,slB,slK,gd,St.ev,eV,ofl,wrl,putE,V.ofVal,V.ofCell,bin2,un1,seg,iL,dT,Value.oneCell',Nat.reduceBEq,Nat.reduceLT,Nat.reduceSub,Nat.reduceAdd,Nat.reduceMul,Nat.reduceLeDiff,Nat.reduceEqDiff,reduceCtorEq,Int.reduceLT,Int.reduceLE,Int.reduceEq,Int.reduceNe,Int.reduceBEq,Int.reduceBNe,Int.reduceAdd,Int.reduceSub,Int.reduceMul,Int.reduceToNat,f];with_reducible exact rfl)))
  |((with_reducible apply oW);(case h=>(simp only[↓iG,↓reduceIte,SA,SB,SC,SD,t,oC,fpsG,evO,evB,evA,nT,oE,eqF,eqC,kB,iA,slB,slK,gd,St.ev,eV,ofl,wrl,putE,V.ofVal,V.ofCell,bin2,un1,seg,iL,dT,Value.oneCell',Nat.reduceBEq,Nat.reduceLT,Nat.reduceSub,Nat.reduceAdd,Nat.reduceMul,Nat.reduceLeDiff,Nat.reduceEqDiff,reduceCtorEq,Int.reduceLT,Int.reduceLE,Int.reduceEq,Int.reduceNe,Int.reduceBEq,Int.reduceBNe,Int.reduceAdd,Int.reduceSub,Int.reduceMul,Int.reduceToNat,f];with_reducible exact rfl))))
 exact h):G:=step t f n
theorem goG{T F H G:Prop}(t:T)(f:F)(n:H)(step:T→F→H→G:=by
 intro t f h
 (first|((with_reducible apply AR.go);(case h=>(simp only[↓iG,↓reduceIte,SA,SB,SC,SD,t,oC,fpsG,evO,evB,evA,nT,oE,eqF,eqC,kB,iA,slB,slK,gd,St.ev,eV,ofl,wrl,putE,V.ofVal,V.ofCell,bin2,un1,seg,iL,dT,Value.oneCell',Nat.reduceBEq,Nat.reduceLT,Nat.reduceSub,Nat.reduceAdd,Nat.reduceMul,Nat.reduceLeDiff,Nat.reduceEqDiff,reduceCtorEq,Int.reduceLT,Int.reduceLE,Int.reduceEq,Int.reduceNe,Int.reduceBEq,Int.reduceBNe,Int.reduceAdd,Int.reduceSub,Int.reduceMul,Int.reduceToNat,f];with_reducible exact rfl)))|((with_reducible apply YB);(case h=>(simp only[↓iG,↓reduceIte,SA,SB,SC,SD,t,oC,fpsG,evO,evB,evA,nT,oE,eqF,eqC,kB,iA,slB,slK,gd,St.ev,eV,ofl,wrl,putE,V.ofVal,V.ofCell,bin2,un1,seg,iL,dT,Value.oneCell',Nat.reduceBEq,Nat.reduceLT,Nat.reduceSub,Nat.reduceAdd,Nat.reduceMul,Nat.reduceLeDiff,Nat.reduceEqDiff,reduceCtorEq,Int.reduceLT,Int.reduceLE,Int.reduceEq,Int.reduceNe,Int.reduceBEq,Int.reduceBNe,Int.reduceAdd,Int.reduceSub,Int.reduceMul,Int.reduceToNat,f];with_reducible exact rfl))))
 exact h):G:=step t f n
theorem aA{P:Program}{N:Nat}{ops:Array Oper}{dr:Bool}{Q:Exit→St→Prop}{d:Option Tmp}{c:Operand}{args:Array Operand}{tys:Array TypeId}{ty:TypeId}{pos:String}{af:Array Edge}{g:Option (Nat×Bool)}{os:List Oper}{k:Nat}{s:List (Nat×V)}{l:List Ent}
  {acc:List (Nat×List Nat×List Nat)} {f:FuncId} {us vs xs xs':List V} {r r':V} {l0 l1 l':List Ent} {F E M:Prop} (js:List Nat) (h:DC P f xs l0 r l1) (fa:F) (fi:E) (fr:M)
  (n:AR P ops dr Q os (k+1) ⟨dn N (eV s d r'),ofl l'⟩ ((k,(fQ js 0 l0).map Prod.fst,(fQ js 0 l1).map Prod.fst)::acc)) (hg:gd ops ⟨d,.call {callee:= .value c,args:=args,argTypes:=tys},ty,pos,af,g⟩ ⟨dn N s,ofl l⟩=some true:=by rfl) (hc:St.ev ⟨dn N s,ofl l⟩ c= .fn (.func f) us vs:=by rfl)
  (hx:M→V.renL (gOf js) xs=xs':=by intro f;first|(simp only[SR,f];done)|(simp only[SR,f];with_reducible exact rfl)) (hr:M→V.ren (gOf js) r=r':=by intro f;first|(simp only[SR,f];done)|(simp only[SR,f];with_reducible exact rfl))
  (hw:F→WkL (us++args.toList.map (St.ev ⟨dn N s,ofl l⟩)++vs) xs':=by intro f;exact iH (by simp only[St.ev,V.ofVal,V.ofCell,V.size_im,fT,dE,iJ,Nat.reduceLT,Nat.reduceEqDiff,reduceIte,if_true,if_false,List.map_cons,List.map_nil,List.nil_append,List.cons_append,List.append_nil,f])) (hi:E→V.idsL (ltB js.length) xs=true:=by intro f;first|rfl|simp only[List.length_cons,List.length_nil,Nat.reduceAdd,V.ids,V.idsL,idsA,entOk,List.all_cons,List.all_nil,Bool.and_self,Bool.and_true,Bool.true_and,ltB,noId,Nat.reduceLT,decide_true,Bool.true_eq_false,bQ,bS,bR,bT,f])
  (hnd:decide js.Nodup=true:=by rfl) (h0:l0.length=js.length:=by rfl) (h1:l1.length=js.length:=by rfl) (he:E→l0.all (entOk (ltB js.length))=true:=by intro f;first|rfl|simp only[List.length_cons,List.length_nil,Nat.reduceAdd,V.ids,V.idsL,idsA,entOk,List.all_cons,List.all_nil,Bool.and_self,Bool.and_true,Bool.true_and,ltB,noId,Nat.reduceLT,decide_true,Bool.true_eq_false,bQ,bS,bR,bT,f])
  (hl:M→ ∀p∈fQ js 0 l0,ofl l p.1=p.2:=by intro f p hp;simp only[fQ,SR,Ent.ren,List.mem_cons,List.not_mem_nil,or_false,f]at hp;first|(rcases hp with rfl<;>rfl)|(rcases hp with rfl|rfl<;>rfl)|(rcases hp with rfl|rfl|rfl<;>rfl))
  (hl':M→wrl l (fQ js 0 l1)=l':=by intro f;simp only[fQ,Ent.ren,SR,f,wrl,putE,SC,SD,Nat.reduceBEq,Nat.reduceLT,Nat.reduceSub,Nat.reduceAdd,Nat.reduceMul,Nat.reduceLeDiff,Nat.reduceEqDiff,reduceCtorEq,Int.reduceLT,Int.reduceLE,Int.reduceEq,Int.reduceNe,Int.reduceBEq,Int.reduceBNe,Int.reduceAdd,Int.reduceSub,Int.reduceMul,Int.reduceToNat];with_reducible exact rfl) :
  AR P ops dr Q (⟨d,.call {callee:= .value c,args:=args,argTypes:=tys},ty,pos,af,g⟩::os) k ⟨dn N s,ofl l⟩ acc:=AR.callS js h hg hc (hx fr) (hr fr) (hw fa) (hi fi) hnd h0 h1 (he fi) (hl fr) (hl' fr) n
theorem finG{T G:Prop}(t:T)(step:T→G:=by
 intro t
 simp only[Ik,Fl,↓iG,↓reduceIte,SA,SB,SC,SD,t,oC,fpsG,evO,evB,evA,nT,oE,eqF,eqC,kB,iA,slB,slK,gd,St.ev,eV,ofl,wrl,putE,V.ofVal,V.ofCell,bin2,un1,seg,iL,dT,Value.oneCell',Nat.reduceBEq,Nat.reduceLT,Nat.reduceSub,Nat.reduceAdd,Nat.reduceMul,Nat.reduceLeDiff,Nat.reduceEqDiff,reduceCtorEq,Int.reduceLT,Int.reduceLE,Int.reduceEq,Int.reduceNe,Int.reduceBEq,Int.reduceBNe,Int.reduceAdd,Int.reduceSub,Int.reduceMul,Int.reduceToNat]
 with_reducible exact rfl):G:=step t
theorem idG{F G:Prop}(f:F)(step:F→G:=by
 intro f
 first|rfl|simp only[List.length_cons,List.length_nil,Nat.reduceAdd,V.ids,V.idsL,idsA,entOk,List.all_cons,List.all_nil,Bool.and_self,Bool.and_true,Bool.true_and,ltB,noId,Nat.reduceLT,decide_true,Bool.true_eq_false,bQ,bS,bR,bT,f]):G:=step f
theorem wkG{F G:Prop}(f:F)(step:F→G:=by
 intro f
 repeat (first|exact WkF.of (Wk.refl _) (by first|rfl|simp only[List.length_cons,List.length_nil,Nat.reduceAdd,V.ids,V.idsL,idsA,entOk,List.all_cons,List.all_nil,Bool.and_self,Bool.and_true,Bool.true_and,ltB,noId,Nat.reduceLT,decide_true,Bool.true_eq_false,bQ,bS,bR,bT,f])|exact WkF.of (Wk.ro _ _) (by first|rfl|simp only[List.length_cons,List.length_nil,Nat.reduceAdd,V.ids,V.idsL,idsA,entOk,List.all_cons,List.all_nil,Bool.and_self,Bool.and_true,Bool.true_and,ltB,noId,Nat.reduceLT,decide_true,Bool.true_eq_false,bQ,bS,bR,bT,f])|refine Wd ?_|refine We ?_|refine WkFL.cons ?_ ?_|exact WkFL.nil)):G:=step f
def TY:=A14 @eR @eQ @eS @dM @eB @eA @eX @dO @List.getElem?_map.{0,0} @Int.natCast_nonneg @eT @eY @dL @dN
def EX:=A8 @gA @eO @fY @fX @fZ @eP @List.getElem?_map.{0,0} @Int.natCast_nonneg
def VA:=A8 @uH @rH @uF @uE @uG @rI @List.getElem?_map.{0,0} @Int.natCast_nonneg
theorem Ev.below{C:Cf}{w':World}(h:Below C.w.heap.size C.w w'):Ev C (C.withW w')where
 os:=h.os
 tape:=h.tape
 output:=h.output
 size:=h.size
 av:=rfl
 rd:=fun a v k=>⟨by
  rw[←k.1]
  exact World.cell?_of_block (h.block _ (World.block_lt_of_cell? _ _ k.1)),k.2⟩
 box:=fun _ cs h=>⟨rfl,cs,h⟩
 tip:=fun i e z n k=>⟨n,k,Nat.le_refl _,fun _=>⟨rfl,fun g cur hg hc=>⟨cur,(h.block _ (Array.getElem?_eq_some_iff.1 hc).1).trans hc,rfl⟩⟩⟩
 itr:=fun _ s p h=>⟨rfl,s,p,h⟩
 keep:=fun b hb _=>h.block b hb
 fresh:=fun _ _ h h'=> .inl ⟨h,h'⟩
 shp:=fun _ _ _ bs _ _ _ k=>⟨bs,(h.block _ (Array.getElem?_eq_some_iff.1 k).1).trans k,rfl⟩
theorem Ok.below{C:Cf}{w':World}(hC:Ok C)(hb:Below C.w.heap.size C.w w'):Ok (C.withW w')where
 box:=fun i cs h=>by
  obtain⟨g,bs,t,h1,h2,h3,h4,h5⟩:=hC.box i cs h;exact⟨g,bs,t,h1,(hb.block _ (Array.getElem?_eq_some_iff.1 h2).1).trans h2,h3,h4,fun j hj=>(h5 j hj).mono (Ev.below hb)⟩
 tip:=fun i e z n g h h'=>by
  obtain⟨cur,h1,h2⟩:=hC.tip i e z n g h h';exact⟨cur,(hb.block _ (Array.getElem?_eq_some_iff.1 h1).1).trans h1,h2⟩
 iter:=fun i s p h=>by
  obtain⟨g,h1,h2⟩:=hC.iter i s p h;exact⟨g,h1,(hb.block _ (Array.getElem?_eq_some_iff.1 h2).1).trans h2⟩
 inj:=hC.inj
 avl:=fun b o h=>Nat.lt_of_lt_of_le (hC.avl b o h) hb.size
 bav:=hC.bav
 gl:=hC.gl.mono (Ev.below hb)
theorem pP{P:Program}{f:FuncId}{xs:List V}{r:V}(hf:Bj P f=true)(h: ∀(C:Cf) (vs:Array Value),Ok C→vs.size=xs.length→(∀i (hi:i<xs.length),R C xs[i] (vs.getD i undef)) →
  Calls P f vs C.w fun e w'=> ∃v,e= .returned v∧(∀D:Cf,R D r v)∧Below C.w.heap.size C.w w'):PC P f xs r:=by
 refine⟨hf,fun C vs hst hC hsz hR=> ?_⟩
 refine(h C vs hC hsz hR).mono ?_
 rintro e w' ⟨v,rfl,hv,hb⟩
 exact⟨v,_,_,rfl,⟨rfl,rfl⟩,C.withW w',rfl,hst,hC.below hb,Ev.below hb,hv _⟩
def ifT(P:Program)(t:TypeId):Option Bool:=(P.underlying t).map fun d=>match d with| .interface _=>true|_=>false
theorem FL{P:Program}{o:Oper}{ev:Operand→V}{t:TypeId}{x:Operand}{v:Value}(ho:o.op= .makeInterface t x)(ht:ifT P t=some false)(hx:ev x= .im v):Step P o ev [] ⟨.im (.iface t v),[]⟩ :=
 Step.look fun C ρ _ hR _=>by
  have h1:=hR x (by simp[ho,Op.operands])
  rw[hx]at h1;have e1:ρ x=v:=h1.im_eq;refine⟨.iface t v,?_,.im rfl⟩;unfold ifT at ht;cases hu:P.underlying t with
  | none=>rw[hu]at ht;cases ht
  | some d =>
   rw[hu]at ht;simp only[execOp,ho,e1,Instr.makeInterface,run_underlying hu,Sem.run_bind,Result.andThen_ok];cases d<;>first|rfl|(simp at ht)
theorem ZG{P:Program}{t:TypeId}(ht:ifT P t=some true):P.underlying t=some (.interface (P.methodsAt t)):=by
 unfold ifT at ht
 cases hu:P.underlying t with
 | none=>rw[hu]at ht;cases ht
 | some d =>
  rw[hu]at ht;cases d<;>simp at ht
  simp[Program.methodsAt,hu]
theorem NS{P:Program}{op:BinOp}{t:TypeId}(ht:ifT P t=some true)(hop:op= .eql∨op= .neq){a:Value}{b:Bool}(ha:(∃u v,a= .iface u v∧b=false)∨(a= .nilIface∧b=true))(x:Operand)(w:World) :
  (eqGuard op t x (.const .nilIface) a .nilIface).run P w= .ok () w∧(binOp op t a .nilIface).run P w= .ok (.bool (if op= .eql then b else !b)) w:=by
 have hu:=ZG ht
 rcases ha with ⟨u,v,rfl,rfl⟩|⟨rfl,rfl⟩
 ·have h:=run_equal_held_nil (w:=w) t u v hu
  rcases hop with rfl|rfl
  ·exact⟨by simp[eqGuard],by simp[binOp,h]⟩
  ·exact⟨by simp[eqGuard],by simp[binOp,h]⟩
 ·have h:=run_equal_nil_nil (w:=w) t hu
  rcases hop with rfl|rfl
  ·exact⟨by simp[eqGuard],by simp[binOp,h]⟩
  ·exact⟨by simp[eqGuard],by simp[binOp,h]⟩
theorem FO{P:Program}{o:Oper}{ev:Operand→V}{op:BinOp}{t u:TypeId}{x:Operand}{b:Bool}(ho:o.op= .binOp op t x (.const .nilIface) u)(ht:ifT P t=some true)(hop:op= .eql∨op= .neq)(hy:ev (.const .nilIface)= .im .nilIface)
  (hx:(∃a v,ev x= .im (.iface a v)∧b=false)∨(ev x= .ifc∧b=false)∨(ev x= .im .nilIface∧b=true)):Step P o ev [] ⟨.im (.bool (if op= .eql then b else !b)),[]⟩ :=
 Step.look fun C ρ _ hR _=>by
  have h1:=hR x (by simp[ho,Op.operands])
  have h2:=hR (.const .nilIface) (by simp[ho,Op.operands])
  rw[hy]at h2;have e2:ρ (.const .nilIface)= .nilIface:=h2.im_eq
  have ha:(∃u v,ρ x= .iface u v∧b=false)∨(ρ x= .nilIface∧b=true):=by
   rcases hx with ⟨a,v,hx,hb⟩|⟨hx,hb⟩|⟨hx,hb⟩
   ·rw[hx]at h1;exact .inl ⟨a,v,h1.im_eq,hb⟩
   ·rw[hx]at h1
    generalize ρ x=z at h1;cases h1
    exact .inl ⟨_,_,rfl,hb⟩
   ·rw[hx]at h1;exact .inr ⟨h1.im_eq,hb⟩
  obtain⟨h3,h4⟩:=NS ht hop ha x C.w;refine⟨.bool (if op= .eql then b else !b),?_,.im rfl⟩
  simp only[execOp,ho,e2,Sem.run_bind,h3,Result.andThen_ok,h4,Sem.run_pure]
theorem Ai{P:Program}{N:Nat}{ops:Array Oper}{dr:Bool}{Q:Exit→St→Prop}{o:Oper}{os:List Oper}{k:Nat}{s:List (Nat×V)}{l:List Ent}{acc:List (Nat×List Nat×List Nat)}{v:V}(h1:Step P o (St.ev ⟨dn N s,ofl l⟩) [] ⟨v,[]⟩)
  (hn:AR P ops dr Q os (k+1) ⟨dn N (eV s o.dst v),ofl l⟩ ((k,[],[])::acc)) (hg:gd ops o ⟨dn N s,ofl l⟩=some true):AR P ops dr Q (o::os) k ⟨dn N s,ofl l⟩ acc:=by
 refine .inr (.inl ⟨hg,[],⟨v,[]⟩,h1,fun _ h=>(by cases h),?_⟩)
 rw[←kT N s (ofl l)]at hn
 exact hn
theorem rG{P:Program}{N:Nat}{ops:Array Oper}{dr:Bool}{Q:Exit→St→Prop}{d:Option Tmp}{t:TypeId}{x:Operand}{ty:TypeId}{pos:String}{af:Array Edge}{g:Option (Nat×Bool)}{os:List Oper}{k:Nat}{s:List (Nat×V)}{l:List Ent}{acc:List (Nat×List Nat×List Nat)}{v:Value}
  (hn:AR P ops dr Q os (k+1) ⟨dn N (eV s d (.im (.iface t v))),ofl l⟩ ((k,[],[])::acc)) (ht:ifT P t=some false:=by kernel_rfl) (hx:St.ev ⟨dn N s,ofl l⟩ x= .im v:=by rfl) (hg:gd ops ⟨d,.makeInterface t x,ty,pos,af,g⟩ ⟨dn N s,ofl l⟩=some true:=by rfl) :
  AR P ops dr Q (⟨d,.makeInterface t x,ty,pos,af,g⟩::os) k ⟨dn N s,ofl l⟩ acc:=Ai (FL rfl ht hx) hn hg
theorem vP{P:Program}{N:Nat}{ops:Array Oper}{dr:Bool}{Q:Exit→St→Prop}{d:Option Tmp}{op:BinOp}{t u:TypeId}{x:Operand}{ty:TypeId}{pos:String}{af:Array Edge}{g:Option (Nat×Bool)}{os:List Oper}{k:Nat}{s:List (Nat×V)}{l:List Ent}{acc:List (Nat×List Nat×List Nat)}{y:V}(b:Bool){e:Bool}
  (hn:AR P ops dr Q os (k+1) ⟨dn N (eV s d (.im (.bool e))),ofl l⟩ ((k,[],[])::acc)) (ht:ifT P t=some true:=by kernel_rfl) (hop:op= .eql∨op= .neq:=by first|exact .inl rfl|exact .inr rfl) (hx:St.ev ⟨dn N s,ofl l⟩ x=y:=by rfl)
  (hy:(∃a v,y= .im (.iface a v)∧b=false)∨(y= .ifc∧b=false)∨(y= .im .nilIface∧b=true):=by first|exact .inl ⟨_,_,rfl,rfl⟩|exact .inr (.inl ⟨rfl,rfl⟩)|exact .inr (.inr ⟨rfl,rfl⟩)) (he:(if op= .eql then b else !b)=e:=by rfl)
  (hg:gd ops ⟨d,.binOp op t x (.const .nilIface) u,ty,pos,af,g⟩ ⟨dn N s,ofl l⟩=some true:=by rfl) :
  AR P ops dr Q (⟨d,.binOp op t x (.const .nilIface) u,ty,pos,af,g⟩::os) k ⟨dn N s,ofl l⟩ acc:=by
 subst hx he
 exact Ai (FO rfl ht hop rfl hy) hn hg
theorem AWp.tail{K:Ro→Prop}{P:Program}{st0:Nat→Ent}{Q:Exit→St→Prop}{A:St}{c rest0:Code}{ι:Type}(S:ι→St)(tail: ∀i,AWpK K P st0 rest0 Q (S i))
  (walk: ∀rest,(∀i,AWpK K P st0 rest Q (S i))→AWpK K P st0 c (Thn K P st0 rest Q) A):AWpK K P st0 c (Thn K P st0 rest0 Q) A:=walk rest0 tail
theorem AWp.cut{K:Ro→Prop}{P:Program}{st0:Nat→Ent}{Q:Exit→St→Prop}{c:Code}{N:Nat}{s:List (Nat×V)}{l:List Ent}(n:Nat)(s':List (Nat×V))(l':List Ent)(h:AWpK K P st0 c Q ⟨dn N s',ofl l'⟩)(hl:l.take n=l')(hw:WkA s s')(h0: ∀i,st0 i≠ .free→i<n)(hs:idsA (ltB n) s'=true)
  (hb:l'.all (entOk (ltB n))=true):AWpK K P st0 c Q ⟨dn N s,ofl l⟩:=by
 refine AWp.weak (ltB n) (dn N s') ?_ (by rw[jT];exact(jT N s).symm) (fun t=> ?_) (fun i hi=>by simpa[ltB]using h0 i hi) (Xv hs N) (fun i cs h1 h2=> ?_)
 case refine_3 =>
  subst hl;have hi:i<n:=by simpa[ltB]using h2
  have hil:i<l.length:=by
   refine Nat.lt_of_not_le fun hle=> ?_
   have:ofl l i= .free:=by simp[ofl,List.getD,List.getElem?_eq_none hle]
   rw[show(St.mk (dn N s) (ofl l)).st i=ofl l i from rfl,this]at h1
   cases h1
  have he:l[i]= .box cs:=by simpa[ofl,List.getD,hil]using h1
  have:=List.all_eq_true.1 hb l[i] (by
   refine List.mem_iff_getElem?.2 ⟨i,?_⟩
   simp[List.getElem?_take,hi,hil])
  rw[he]at this;exact this
 ·have e:(fun i=>if ltB n i=true then ofl l i else Ent.free)=ofl l':=by
   funext i
   subst hl;unfold ofl ltB
   by_cases hi:i<n
   ·simp[hi,List.getD,List.getElem?_take]
   ·simp[hi,List.getD,List.getElem?_take]
  rw[e];exact h
 ·show Wk ((dn N s).getD t .dead) ((dn N s').getD t .dead)
  rw[fT,fT];split
  ·exact hw.look t
  ·exact .dead _
theorem AWp.cutP{K:Ro→Prop}{P:Program}{st0:Nat→Ent}{Q:Exit→St→Prop}{c:Code}{N:Nat}{s:List (Nat×V)}{l:List Ent}{E:Prop}(n:Nat)(s':List (Nat×V))(l':List Ent)(fi:E)(h:AWpK K P st0 c Q ⟨dn N s',ofl l'⟩)(hl:l.take n=l':=by rfl)
  (hw:WkA s s':=by repeat (first|exact WkA.nil|refine WkA.cons (Wk.refl _) ?_)) (h0: ∀i,st0 i≠ .free→i<n:=by exact fun i hi=>by first|exact absurd rfl hi|exact Nat.lt_of_lt_of_le (qW hi) (by simp))
  (hs:E→idsA (ltB n) s'=true:=by intro f;first|rfl|simp only[List.length_cons,List.length_nil,Nat.reduceAdd,V.ids,V.idsL,idsA,entOk,List.all_cons,List.all_nil,Bool.and_self,Bool.and_true,Bool.true_and,ltB,noId,Nat.reduceLT,decide_true,Bool.true_eq_false,bQ,bS,bR,bT,f]) (hb:E→l'.all (entOk (ltB n))=true:=by intro f;first|rfl|simp only[List.length_cons,List.length_nil,Nat.reduceAdd,V.ids,V.idsL,idsA,entOk,List.all_cons,List.all_nil,Bool.and_self,Bool.and_true,Bool.true_and,ltB,noId,Nat.reduceLT,decide_true,Bool.true_eq_false,bQ,bS,bR,bT,f]):AWpK K P st0 c Q ⟨dn N s,ofl l⟩ :=
 AWp.cut n s' l' h hl hw h0 (hs fi) (hb fi)
end Go.Proofs.YtmbmmckagcdapaaGreatDoor
