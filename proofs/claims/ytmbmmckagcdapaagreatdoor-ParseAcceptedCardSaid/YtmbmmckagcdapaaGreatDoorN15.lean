import Derived.Test.YtmbmmckagcdapaaGreatDoorN11
import Derived.Test.YtmbmmckagcdapaaGreatDoorN02
import Derived.Scope
set_option linter.all false
namespace Go.Proofs.YtmbmmckagcdapaaGreatDoor
open Go.RowKit
mutual
def ndV:Nd→V
 | .mk k w n e l el cs=> .ag [.im (.int .i64 k),.im (.int .i64 w),.im (.string n),.sl (exL e) .ro,.sl (ndL l) .ro,.sl (ndL el) .ro,.sl (ndC cs) .ro]
def ndL:List Nd→List V
 | []=>[]
 | t::r=>ndV t::ndL r
def ndC:List (List Nd)→List V
 | []=>[]
 | c::r=> .sl (ndL c) .ro::ndC r
end
def nlV(c:List Nd):V:= .sl (c.map ndV) .ro
theorem Rh: ∀l,ndL l=l.map ndV
 | []=>by simp[ndL]
 | t::r=>by simp[ndL,Rh r]
theorem EQ: ∀l,ndC l=l.map nlV
 | []=>by simp[ndC]
 | t::r=>by simp[ndC,EQ r,Rh,nlV]
theorem eS(t:Nd):ndV t= .ag [.im (.int .i64 t.kind),.im (.int .i64 t.width),.im (.string t.name),.sl (t.e.map exV) .ro,.sl (t.l.map ndV) .ro,.sl (t.el.map ndV) .ro,.sl (t.cs.map nlV) .ro]:=by
 cases t;simp[ndV,Rh,EQ,Ru,Nd.kind,Nd.width,Nd.name,Nd.e,Nd.l,Nd.el,Nd.cs]
theorem eR(k w:Int)(n:ByteArray)(e:List Ex)(l el:List Nd)(cs:List (List Nd)):ndV (.mk k w n e l el cs)= .ag [.im (.int .i64 k),.im (.int .i64 w),.im (.string n),.sl (e.map exV) .ro,.sl (l.map ndV) .ro,.sl (el.map ndV) .ro,.sl (cs.map nlV) .ro]:=eS _
theorem xH(t:Nd):(ndV t).isAg=true:=by rw[eS];rfl
theorem tI(t:Nd):(ndV t).live=true:=by rw[eS];rfl
theorem Du(t:Nd):(ndV t).firm=true:=by rw[eS];rfl
theorem zE(g:Bool)(t:Nd):strip g (ndV t)=ndV t:=by rw[eS];rfl
theorem tH(t:Nd):(ndV t).size=7:=by rw[eS];rfl
theorem uG(t:Nd):(ndV t).cells=[.im (.int .i64 t.kind),.im (.int .i64 t.width),.im (.string t.name),.sl (t.e.map exV) .ro,.sl (t.l.map ndV) .ro,.sl (t.el.map ndV) .ro,.sl (t.cs.map nlV) .ro]:=by rw[eS];rfl
theorem aV(p:Nat→Bool): ∀t:Nd,(ndV t).ids p=true:=by
 refine Nd.induct fun k w n e l el cs h1 h2 h3=> ?_
 rw[eR]
 have hc:V.idsL p (cs.map nlV)=true:=jC cs fun c hc=>by
  simp only[nlV,V.ids,Bool.and_true];exact jC c (h3 c hc)
 simp[V.ids,V.idsL,jC l h1,jC el h2,aC,hc]
theorem aJ(p:Nat→Bool)(l:List Nd):V.idsL p (l.map ndV)=true:=fY (aV p) l
theorem aZ(p:Nat→Bool)(c:List Nd):(nlV c).ids p=true:=by simp only[nlV,V.ids,Bool.and_true];exact aJ p c
theorem aK(p:Nat→Bool)(l:List (List Nd)):V.idsL p (l.map nlV)=true:=fY (aZ p) l
theorem cG(g:Nat→Nat)(t:Nd):V.ren g (ndV t)=ndV t:=V.ren_id g _ (aV _ t)
theorem bL(g:Nat→Nat)(l:List Nd):V.renL g (l.map ndV)=l.map ndV:=V.renL_id g _ (aJ _ l)
theorem bQ(g:Nat→Nat)(l:List (List Nd)):V.renL g (l.map nlV)=l.map nlV:=V.renL_id g _ (aK _ l)
theorem Dq(c:List Nd):(nlV c).live=true:=rfl
theorem Dp(c:List Nd):(nlV c).size=1:=rfl
theorem Dr(c:List Nd):(nlV c).isAg=false:=rfl
theorem zD(c:List Nd):(nlV c).cells=[nlV c]:=rfl
theorem Ds(c:List Nd):(nlV c).firm=true:=rfl
theorem zC(g:Bool)(c:List Nd):strip g (nlV c)=nlV c:=rfl
theorem ND:type_of%(A14 @Du @zE @tI @tH @xH @uG @Ds @zC @Dq @Dp @Dr @zD @List.getElem?_map.{0,0} @Int.natCast_nonneg) :=
 A14 @Du @zE @tI @tH @xH @uG @Ds @zC @Dq @Dp @Dr @zD @List.getElem?_map.{0,0} @Int.natCast_nonneg
def scV(s:Sec):V:= .ag [.im (.string s.name),.im (.int .u32 s.addr),.sl (s.data.map fun b=> .im (.int .u8 b.toNat)) .ro,.im (.bool s.wr),.im (.bool s.exe)]
def fnV(f:Fun):V:= .ag [.im (.string f.name),.sl (f.vars.map vaV) .ro,.sl (f.body.map ndV) .ro]
def unV(u:Un):V:= .ag [.sl (u.globals.map vaV) .ro,.sl (u.data.map scV) .ro,.sl (u.funcs.map fnV) .ro]
def FW:Nd→Bool:=Nd.para fun t r1 r2 r3=>decide (I64 t.kind∧I64 t.width)&&decide (t.name.size≤9223372036854775807)&&decide (t.e.length≤4194304∧t.l.length≤4194304∧t.el.length≤4194304∧t.cs.length≤4194304)&&t.e.all fitEB&&t.cs.all (fun c=>decide (c.length≤4194304))&&r1.all id&&r2.all id&&r3.all (·.all id)
def fitN(t:Nd):Prop:=FW t=true
def lN(l:List Nd):Prop:=l.length≤4194304∧ ∀t∈l,fitN t
theorem dR{t:Nd}(h:fitN t):(I64 t.kind∧I64 t.width)∧t.name.size≤9223372036854775807∧(t.e.length≤4194304∧ ∀x∈t.e,fitE x)∧lN t.l∧lN t.el∧t.cs.length≤4194304∧ ∀c∈t.cs,lN c:=by
 obtain⟨k,w,n,e,l,el,cs⟩:=t
 have q:FW (.mk k w n e l el cs)=_:=Nd.para_mk _ k w n e l el cs
 unfold fitN at h
 rw[q]at h
 simp only[Bool.and_eq_true,Nd.kind,Nd.width,Nd.name,Nd.e,Nd.l,Nd.el,Nd.cs,List.all_map,List.all_eq_true]at h
 obtain⟨⟨⟨⟨⟨⟨⟨h1,h2⟩,h3⟩,h4⟩,h5⟩,h6⟩,h7⟩,h8⟩:=h
 have h3:=of_decide_eq_true h3
 exact⟨of_decide_eq_true h1,of_decide_eq_true h2,⟨h3.1,h4⟩,⟨h3.2.1,h6⟩,⟨h3.2.2.1,h7⟩,h3.2.2.2,fun c hc=>⟨of_decide_eq_true (h5 c hc),fun x hx=>by
  have:=h8 c hc;simp only[Function.comp,List.all_map,List.all_eq_true]at this
  exact this x hx⟩⟩
end Go.Proofs.YtmbmmckagcdapaaGreatDoor
namespace Go.Proofs.YtmbmmckagcdapaaGreatDoor
open Go.RowKit
section
variable {F:Fence} {n:Nat} {P:Program} {a:Act} {w:World} {Q:Exit→Act→World→Prop}
end
end Go.Proofs.YtmbmmckagcdapaaGreatDoor
