import Derived.Test.YtmbmmckagcdapaaGreatDoorN11
import Derived.Test.YtmbmmckagcdapaaGreatDoorN29
import Derived.Test.YtmbmmckagcdapaaGreatDoorN02
import Derived.Test.YtmbmmckagcdapaaGreatDoorN12
import Derived.Test.YtmbmmckagcdapaaGreatDoorN19
import Derived.Test.YtmbmmckagcdapaaGreatDoorN15
import Derived.Test.YtmbmmckagcdapaaGreatDoorN16
import Derived.Test.YtmbmmckagcdapaaGreatDoorN32
import Derived.Test.YtmbmmckagcdapaaGreatDoorN23
import Derived.Test.YtmbmmckagcdapaaGreatDoorN24
import Derived.Test.YtmbmmckagcdapaaGreatDoorN34
set_option linter.all false
namespace Go.Proofs.YtmbmmckagcdapaaGreatDoor
open Go.RowKit
theorem yN{P:Program}{f:FuncId}{x:V}{es:List V}{l l':List Ent}{r:V}(h:DC P f [x,.sl es .ro] l r l'):DC P f [x,.sl es .full] l r l' :=
 ⟨h.1,fun C vs hst hC hsz hR=>h.2 C vs hst hC hsz fun i hi=>match i,hi with
  | 0,_=>hR 0 (by simp)
  | 1,_=>Wk.ro _ _ C _ (hR 1 (by simp))⟩
theorem mK(b x r:Bs)(k:Nat)(hr:b++lnT k x=r)(hlen:r.length≤140737488355328):DC Tryz.prog 36 [.pt 0 0,.sl [.im (.string ⟨(x).toArray⟩)] .full] [.box [.nb 0 PQ,.sl ((b).map byB) (.mine 1),(.im (.int .i64 ((k:Int))))],.tip 5 1 (b).length] (.tu []) [.box [.nb 0 PQ,.sl ((r).map byB) (.mine 1),(.im (.int .i64 ((k:Int))))],.tip 5 1 (r).length]:=by
 subst hr
 exact yN<|Kh b [x] x (by simp) k (by simp) hlen
theorem uV(b x y z r:Bs)(k:Nat)(hr:b++lnT k (x++(y++z))=r)(hlen:r.length≤140737488355328):DC Tryz.prog 36 [.pt 0 0,.sl [.im (.string ⟨(x).toArray⟩),.im (.string ⟨(y).toArray⟩),.im (.string ⟨(z).toArray⟩)] .full] [.box [.nb 0 PQ,.sl ((b).map byB) (.mine 1),(.im (.int .i64 ((k:Int))))],.tip 5 1 (b).length] (.tu []) [.box [.nb 0 PQ,.sl ((r).map byB) (.mine 1),(.im (.int .i64 ((k:Int))))],.tip 5 1 (r).length]:=by
 subst hr
 exact yN<|Kh b [x,y,z] (x++(y++z)) (by simp) k (by simp) hlen
def zY:=A7 @jB @cN @kD @pD @qN @iA @cM
theorem xX(l:List Nd)(k:Nat)(b:Bs)(hl:l.length≤4194304)(hk:k≤4194304)(hlen:(b++lsT l (k+1)).length≤140737488355328)
  (h: ∀t∈l,∀c:Bs,(c++ndT t (k+1)).length≤140737488355328→DC Tryz.prog 153 [.pt 0 0,ndV t] [.box [.nb 0 PQ,.sl ((c).map byB) (.mine 1),(.im (.int .i64 (((k+1:Nat):Int))))],.tip 5 1 (c).length] (.tu []) [.box [.nb 0 PQ,.sl (((c++ndT t (k+1))).map byB) (.mine 1),(.im (.int .i64 (((k+1:Nat):Int))))],.tip 5 1 ((c++ndT t (k+1))).length]) :
  DC Tryz.prog 86 [.pt 0 0,.sl (l.map ndV) .ro] [.box [.nb 0 PQ,.sl ((b).map byB) (.mine 1),(.im (.int .i64 ((k:Int))))],.tip 5 1 (b).length] (.tu []) [.box [.nb 0 PQ,.sl (((b++lsT l (k+1))).map byB) (.mine 1),(.im (.int .i64 ((k:Int))))],.tip 5 1 ((b++lsT l (k+1))).length]:=by
 have hw1:IntKind.i64.wrap ((k:Int)+1)=((k+1:Nat):Int):=by rw[dL (by omega)];omega
 have hw2:IntKind.i64.wrap (((k+1:Nat):Int)-1)=(k:Int):=by rw[dL (by omega)];omega
 obtain⟨Bf,hBf⟩: ∃Bf:Nat→Bs,∀m,Bf m=b++lsT (l.take m) (k+1):=⟨_,fun _=>rfl⟩
 have h0:Bf 0=b:=by rw[hBf];simp[lsT]
 have hend:Bf l.length=b++lsT l (k+1):=by rw[hBf,List.take_length]
 rw[←hend,←h0]
 refine DC.enter 30 Tryz.func86 rfl (by decide) rfl rfl (s:=[(0,.pt 0 0),(1,.sl (l.map ndV) .ro)]) (by rfl) ?_
 refine wG zY hw1 ?_
 refine aW ?_
 refine ALp.cutP 2 [(0,.pt 0 0),(6,.pt 0 0),(13,.sl (l.map ndV) .ro),(14,(.im (.int .i64 (l.length)))),(15,(.im (.int .i64 ((((0:Nat)):Int)))))] [.box [.nb 0 PQ,.sl (((Bf 0)).map byB) (.mine 1),(.im (.int .i64 (((k+1:Nat):Int))))],.tip 5 1 ((Bf 0)).length] (A8 aV aJ aK aZ @aC @aE bB aB) ?_
 refine ALp.upto l.length (fun _=>True) (fun m=>⟨dn 30 [(0,.pt 0 0),(6,.pt 0 0),(13,.sl (l.map ndV) .ro),(14,(.im (.int .i64 (l.length)))),(15,(.im (.int .i64 ((((m:Nat)):Int)))))],ofl [.box [.nb 0 PQ,.sl (((Bf m)).map byB) (.mine 1),(.im (.int .i64 (((k+1:Nat):Int))))],.tip 5 1 ((Bf m)).length]⟩) ?_ 0 (Nat.zero_le _) trivial
 intro m hm _ hnext
 by_cases hlt:m<l.length
 ·have hlt':(m:Int)<(l.length:Int):=by omega
  have hm1:=aT hlt (by omega)
  have hg:=bJ hlt;have hle:=RP (l:=l) (m:=m+1) (k:=k+1)
  have hc:=h l[m] (List.getElem_mem hlt) (b++lsT (l.take m) (k+1)) (by
   rw[List.append_assoc,←Nl hlt,List.length_append];rw[List.length_append]at hlen
   omega)
  rw[List.append_assoc,←Nl hlt,←hBf,←hBf]at hc;refine wG zY (A3 ND hlt' hg) ?_;refine aA [0,1] hc eS (A8 aV aJ aK aZ @aC @aE bB aB) (A8 cG bL bQ @aQ @aR fB cK eT) ?_;refine goG zY TI ?_;refine wG zY hm1 ?_;refine ALp.cutP 2 [(0,.pt 0 0),(6,.pt 0 0),(13,.sl (l.map ndV) .ro),(14,(.im (.int .i64 (l.length)))),(15,(.im (.int .i64 ((((m+1:Nat)):Int)))))] [.box [.nb 0 PQ,.sl (((Bf (m+1))).map byB) (.mine 1),(.im (.int .i64 (((k+1:Nat):Int))))],.tip 5 1 ((Bf (m+1))).length] (A8 aV aJ aK aZ @aC @aE bB aB) ?_;exact hnext (m+1) (by omega) (by omega) trivial
 obtain rfl:m=l.length:=by omega
 clear hnext h
 refine wG zY (AI @Int.lt_irrefl hw2) ?_
 refine aP (rs:=[]) rfl (by first|exact .inl rfl|exact .inr rfl) (finG zY) ?_ rfl (idG (A8 aV aJ aK aZ @aC @aE bB aB))
 all_goals exact wkG (A8 aV aJ aK aZ @aC @aE bB aB)
def yE:=A16 @oK @jB @cN @kL @iL @fM @lL @lK @pD @gT @iW @iE @iV @mC @mB (A9 @mA @qN @oI @iA @cM @jH @iJ @dP @cY)
theorem MR(t:Nd)(k:Nat)(b:Bs)(hf:fitN t)(hs:stT t=true)(h6:t.kind≠6)(h7:t.kind≠7)(h8:t.kind≠8)(h9:t.kind≠9)(hlen:(b++ndT t k).length≤140737488355328) :
  DC Tryz.prog 153 [.pt 0 0,ndV t] [.box [.nb 0 PQ,.sl ((b).map byB) (.mine 1),(.im (.int .i64 ((k:Int))))],.tip 5 1 (b).length] (.tu []) [.box [.nb 0 PQ,.sl (((b++ndT t k)).map byB) (.mine 1),(.im (.int .i64 ((k:Int))))],.tip 5 1 ((b++ndT t k)).length]:=by
 have he:ndT t k=lnT k (simT t):=by
  obtain⟨o,w,n,e,l,el,cs⟩:=t;rw[jK];unfold ndN;rw[if_neg h6,if_neg h7,if_neg h8,if_neg h9]
 rw[he]at hlen ⊢
 have hl0:=hlen
 unfold lnT at hl0
 simp only[List.length_append]at hl0
 have q:=HD t hf hs ⟨h6,h7,h8,h9⟩ (by omega)
 obtain⟨B,hB⟩: ∃B,B=b++lnT k (simT t):=⟨_,rfl⟩
 rw[←hB]at hlen
 have ql:=mK b (simT t) B k hB.symm hlen
 rw[←hB]
 generalize simT t=s at q ql
 refine DC.enter 112 Tryz.func153 rfl (by decide) rfl rfl (s:=[(0,.pt 0 0),(1,ndV t)]) (by rfl) ?_
 refine wG yE (A5 ND h6 h7 h8 h9) ?_
 refine AR.callP q eS (A8 aV aJ aK aZ @aC @aE bB aB) ?_
 refine goG yE TI ?_
 refine aA [0,1] ql TI (A8 aV aJ aK aZ @aC @aE bB aB) (A8 cG bL bQ @aQ @aR fB cK eT) ?_
 refine goG yE TI ?_
 refine wG yE TI ?_
 refine aP (rs:=[]) rfl (by first|exact .inl rfl|exact .inr rfl) (finG yE) ?_ rfl (idG (A8 aV aJ aK aZ @aC @aE bB aB))
 all_goals exact wkG (A8 aV aJ aK aZ @aC @aE bB aB)
def pQ:=A14 @lM @cN @kL @dN @lL @iW @Ag @qO @vG @qN @jT @cM @jH @cY
theorem Sh(f:Fun)(k:Nat)(hk:k≤4194304)(b b1 b2 b3 b4:Bs)(h1:b++lnT k ([102,117,110,99,32]++(f.name.data.toList++[32,123]))=b1)(hl1:b1.length≤140737488355328)
  (hv:DC Tryz.prog 35 [.pt 0 0,.sl (f.vars.map vaV) .ro] [.box [.nb 0 PQ,.sl ((b1).map byB) (.mine 1),(.im (.int .i64 (((k+1:Nat):Int))))],.tip 5 1 (b1).length] (.tu []) [.box [.nb 0 PQ,.sl ((b2).map byB) (.mine 1),(.im (.int .i64 (((k+1:Nat):Int))))],.tip 5 1 (b2).length])
  (hn:DC Tryz.prog 86 [.pt 0 0,.sl (f.body.map ndV) .ro] [.box [.nb 0 PQ,.sl ((b2).map byB) (.mine 1),(.im (.int .i64 ((k:Int))))],.tip 5 1 (b2).length] (.tu []) [.box [.nb 0 PQ,.sl ((b3).map byB) (.mine 1),(.im (.int .i64 ((k:Int))))],.tip 5 1 (b3).length])
  (h4:b3++lnT k [125]=b4) (hl4:b4.length≤140737488355328) :
  DC Tryz.prog 39 [.pt 0 0,fnV f] [.box [.nb 0 PQ,.sl ((b).map byB) (.mine 1),(.im (.int .i64 ((k:Int))))],.tip 5 1 (b).length] (.tu []) [.box [.nb 0 PQ,.sl ((b4).map byB) (.mine 1),(.im (.int .i64 ((k:Int))))],.tip 5 1 (b4).length]:=by
 have hw1:IntKind.i64.wrap ((k:Int)+1)=((k+1:Nat):Int):=by rw[dL (by omega)];omega
 have hw2:IntKind.i64.wrap (((k+1:Nat):Int)-1)=(k:Int):=by rw[dL (by omega)];omega
 have q1:=uV b [102,117,110,99,32] f.name.data.toList [32,123] b1 k h1 hl1
 rw[Pk]at q1
 have q4:=mK b3 [125] b4 k h4 hl4
 rw[tJ]
 refine DC.enter 34 Tryz.func39 rfl (by decide) rfl rfl (s:=[(0,.pt 0 0),(1,.ag [.im (.string f.name),.sl (f.vars.map vaV) .ro,.sl (f.body.map ndV) .ro])]) (by rfl) ?_
 refine wG pQ TI ?_
 refine aA [0,1] q1 TI (A12 aV aJ aK aZ @aC @aE bB aB gQ fU @aN @aO) (A10 cG bL bQ @aQ @aR fB cK eT @bE @bD) ?_
 refine goG pQ TI ?_
 refine wG pQ hw1 ?_
 refine aA [0,1] hv TI (A12 aV aJ aK aZ @aC @aE bB aB gQ fU @aN @aO) (A10 cG bL bQ @aQ @aR fB cK eT @bE @bD) ?_
 refine goG pQ TI ?_
 refine wG pQ hw2 ?_
 refine aA [0,1] hn TI (A12 aV aJ aK aZ @aC @aE bB aB gQ fU @aN @aO) (A10 cG bL bQ @aQ @aR fB cK eT @bE @bD) ?_
 refine goG pQ TI ?_
 refine wG pQ TI ?_
 refine aA [0,1] q4 TI (A12 aV aJ aK aZ @aC @aE bB aB gQ fU @aN @aO) (A10 cG bL bQ @aQ @aR fB cK eT @bE @bD) ?_
 refine goG pQ TI ?_
 refine wG pQ TI ?_
 refine aP (rs:=[]) rfl (by first|exact .inl rfl|exact .inr rfl) (finG pQ) ?_ rfl (idG (A12 aV aJ aK aZ @aC @aE bB aB gQ fU @aN @aO))
 all_goals exact wkG (A12 aV aJ aK aZ @aC @aE bB aB gQ fU @aN @aO)
end Go.Proofs.YtmbmmckagcdapaaGreatDoor
namespace Go.Proofs.YtmbmmckagcdapaaGreatDoor
def varT(k:Nat)(v:Va):Bs:=lnT k ([118,97,114,32]++(v.name.data.toList++([58,32]++(txT v.ty++[59]))))
def vasT(k:Nat)(l:List Va):Bs:=(l.map (varT k)).flatten
def funT(f:Fun):Bs:=lnT 0 ([102,117,110,99,32]++(f.name.data.toList++[32,123]))++(vasT 1 f.vars++(lsT f.body 1++lnT 0 [125]))
def Mw(w x:Bool):Bs:=(if w then [32,119,114,105,116,101]else [])++(if x then [32,101,120,101,99]else [])
def Bc(n:Nat):Bs:=48::120::kW n
def datT(d:Sec):Bs:=lnT 0 ([100,97,116,97,32]++(d.name.data.toList++([32]++(Bc d.addr.toNat++(Mw d.wr d.exe++([32,61,32]++(quoS d.data++[59])))))))
def uniT(u:Un):Bs:=vasT 0 u.globals++((u.data.map datT).flatten++(u.funcs.map funT).flatten)
def It(v:Va):List Tk:=kwT [118,97,114]::idT v.name.data.toList::opT [58]::(tyK v.ty++[opT [59]])
def vasK(l:List Va):List Tk:=(l.map It).flatten
def funK(f:Fun):List Tk:=kwT [102,117,110,99]::idT f.name.data.toList::opT [123]::(vasK f.vars++(lsK f.body++[opT [125]]))
def QD(w x:Bool):List Tk:=(if w then [kwT [119,114,105,116,101]]else [])++(if x then [kwT [101,120,101,99]]else [])
def datK(d:Sec):List Tk:=kwT [100,97,116,97]::idT d.name.data.toList::nuT d.addr.toNat::(QD d.wr d.exe++[opT [61],Xi d.data,opT [59]])
def JQ(u:Un):List Tk:=vasK u.globals++((u.data.map datK).flatten++(u.funcs.map funK).flatten)
structure VaOk (v:Va):Prop where
 name:nameT v.name=true
 ty:frm v.ty=true
 sh:shal v.ty 64=true
structure FunOk (f:Fun):Prop where
 name:nameT f.name=true
 vars: ∀v∈f.vars,VaOk v
 body: ∀t∈f.body,okT t=true∧exA qE t=true
 dep:dep f.body≤64
structure SecOk (d:Sec):Prop where
 name:nameT d.name=true
 addr:0≤d.addr∧d.addr<4294967296
structure UnOk (u:Un):Prop where
 globals: ∀v∈u.globals,VaOk v
 data: ∀d∈u.data,SecOk d
 funcs: ∀f∈u.funcs,FunOk f
theorem QX(e:Ex)(h:qE e=true):n32 e=true:=(EE h).1
theorem Bi{α:Type}{g:α→Bs}{k:α→List Tk}: ∀(l:List α),(∀x∈l,∀s r,Sc s r→Sc (g x++s) (k x++r))→ ∀s r,Sc s r→Sc ((l.map g).flatten++s) ((l.map k).flatten++r)
 | [],_,s,r,h=>h
 | x::l,hl,s,r,h=>by
  rw[List.map_cons,List.map_cons,List.flatten_cons,List.flatten_cons,List.append_assoc,List.append_assoc];exact hl x (by simp) _ _ (Bi l (fun y hy=>hl y (by simp[hy])) s r h)
theorem PY{v:Va}(hv:VaOk v)(j:Nat){s:Bs}{r:List Tk}(h:Sc s r):Sc (varT j v++s) (It v++r):=by
 unfold varT It
 refine Sc.line ?_
 simp only[List.append_assoc,List.cons_append,List.nil_append]
 refine Sc.kw (w:=[118,97,114]) (by decide) rfl (Sc.sp (Sc.name hv.name rfl (Sc.op (by decide) (Sc.sp ?_))))
 exact UR v.ty hv.ty _ _ rfl (Sc.op (by decide) (Sc.nl h))
theorem DM{l:List Va}(hl: ∀v∈l,VaOk v)(j:Nat){s:Bs}{r:List Tk}(h:Sc s r):Sc (vasT j l++s) (vasK l++r):=Bi l (fun v hv s r h=>PY (hl v hv) j h) s r h
theorem QB{f:Fun}(hf:FunOk f){s:Bs}{r:List Tk}(h:Sc s r):Sc (funT f++s) (funK f++r):=by
 unfold funT funK
 simp only[List.append_assoc,List.cons_append,List.nil_append]
 refine Sc.line ?_
 simp only[List.append_assoc,List.cons_append,List.nil_append]
 refine Sc.kw (w:=[102,117,110,99]) (by decide) rfl (Sc.sp (Sc.name hf.name rfl (Sc.sp (Sc.op (by decide) (Sc.nl ?_)))))
 refine DM hf.vars 1 ?_
 refine Da f.body (fun t ht=>US t (hf.body t ht).1 (GB QX t (hf.body t ht).2)) 1 _ _ ?_
 exact Sc.line (Sc.op (by decide) (Sc.nl h))
theorem Ji{n:Nat}(hn:n<4294967296){s:Bs}{l:List Tk}(hs:nW s=true)(h:Sc s l):Sc (Bc n++s) (nuT n::l):=by
 obtain⟨h1,h2,h3⟩:=zS (n+1) n (by omega)
 have h4:=qI 7 (n+1) n (by omega) (by omega)
 have hw: ∀c∈Bc n,isW c=true:=fun c hc=>by
  rcases List.mem_cons.1 hc with rfl|hc
  ·decide
  rcases List.mem_cons.1 hc with rfl|hc
  ·decide
  exact h3 c hc
 have hv:valP (Bc n)=some n:=by
  unfold valP Bc;rw[if_pos (show pre [48,120] (48::120::kW n)=true from Bj [48,120] (kW n))]
  rw[show(48::120::kW n).drop 2=kW n from rfl]
  have h5:=List.length_pos_iff.2 h2;unfold kW;rw[if_pos ⟨h5,h4⟩];exact h1
 have nk:isK (Bc n)=false:=by
  rw[←Bool.not_eq_true,uI];intro hm;have:=(xK _ hm).1;revert this;unfold Bc;show isL 48=true→False
  decide
 refine Sc.word (by unfold Bc;simp) hw hs ?_ h
 unfold namP
 rw[if_neg (by rw[nk];decide),if_neg (by unfold Bc;show ¬isL 48=true;decide),hv]
 rfl
theorem QC{d:Sec}(hd:SecOk d){s:Bs}{r:List Tk}(h:Sc s r):Sc (datT d++s) (datK d++r):=by
 unfold datT datK
 refine Sc.line ?_
 simp only[List.append_assoc,List.cons_append,List.nil_append]
 refine Sc.kw (w:=[100,97,116,97]) (by decide) rfl (Sc.sp (Sc.name hd.name rfl (Sc.sp ?_)))
 have hn:d.addr.toNat<4294967296:=by have:=hd.addr;omega
 have hend:Sc (32::61::32::(quoS d.data++59::10::s)) (opT [61]::Xi d.data::opT [59]::r):=Sc.sp (DO (Sc.str (Sc.op (by decide) (Sc.nl h))))
 unfold Mw QD
 cases d.wr<;>cases d.exe<;>simp only[if_true,if_false,Bool.false_eq_true,List.append_assoc,List.cons_append,List.nil_append]
 ·exact Ji hn rfl hend
 ·exact Ji hn rfl (Sc.sp (Sc.kw (w:=[101,120,101,99]) (by decide) rfl hend))
 ·exact Ji hn rfl (Sc.sp (Sc.kw (w:=[119,114,105,116,101]) (by decide) rfl hend))
 ·exact Ji hn rfl (Sc.sp (Sc.kw (w:=[119,114,105,116,101]) (by decide) rfl (Sc.sp (Sc.kw (w:=[101,120,101,99]) (by decide) rfl hend))))
theorem PZ{u:Un}(hu:UnOk u){s:Bs}{r:List Tk}(h:Sc s r):Sc (uniT u++s) (JQ u++r):=by
 unfold uniT JQ
 rw[List.append_assoc,List.append_assoc,List.append_assoc,List.append_assoc]
 exact DM hu.globals 0 (Bi u.data (fun d hd s r h=>QC (hu.data d hd) h) _ _ (Bi u.funcs (fun f hf s r h=>QB (hu.funcs f hf) h) s r h))
section
variable {ts:List Tk}
theorem DX{v:Va}(hv:VaOk v){a o:Nat}{rest:List Tk}(hd:ts.drop a=It v++rest)(ho:o≤192): ∃v',vaV v'=vaV v∧ ∃F,∀f,F≤f→vM ts f a o=some (.ok v' (a+(It v).length) o):=by
 unfold It at hd ⊢
 simp only[List.append_assoc,List.cons_append,List.nil_append]at hd
 have d1:=cB hd
 have d2:=cB d1
 have d3:=cB d2
 obtain⟨t',⟨F,hF⟩,ht⟩:=UU (ts:=ts) v.ty hv.ty 64 _ o _ hv.sh (by omega) d3
 have d4:=jM d3
 refine⟨⟨v.name,t'⟩,?_,F,fun f hf=> ?_⟩
 ·rw[cF,cF]at ht
  injection ht with ht
  injection ht with h1 ht
  injection ht with h2 ht
  injection ht with h3 ht
  injection ht with h4 ht
  injection ht with h5 ht
  rw[qR,qR];show V.ag [.im (.string v.name),.im (.int .i64 t'.kind),.im (.int .i64 t'.size),.im (.int .i64 t'.count),.sl (t'.elem.map tyV) .ro,.sl (t'.fields.map fdV) .ro]=_
  rw[h1,h2,h3,h4,h5]
 ·unfold vM
  rw[Rr hd,bY,Am d1,bY,jL d2,bY,hF f (by omega),bY,jL d4,bY,oP]
  show some _=some _
  congr 2
  simp only[List.length_cons,List.length_append,List.length_nil];omega
theorem DW: ∀(l:List Va),(∀v∈l,VaOk v)→ ∀(acc:List Va) (a o:Nat) (rest:List Tk),ts.drop a=vasK l++rest→sees ts (a+(vasK l).length) [118,97,114]=false→o≤192 →
  ∃l',l'.map vaV=l.map vaV∧ ∃F,∀f,F≤f→vasM ts f acc a o=some (.ok (acc++l') (a+(vasK l).length) o)
 | [],_,acc,a,o,rest,hd,hs,ho=>by
  refine⟨[],rfl,1,fun f hf=> ?_⟩
  cases f with
  | zero=>omega
  | succ f =>
   have hs:sees ts a [118,97,114]=false:=hs;rw[vasM,if_neg (by rw[hs];decide),List.append_nil]
   rfl
 | v::l,hl,acc,a,o,rest,hd,hs,ho=>by
  have e:vasK (v::l)=It v++vasK l:=by unfold vasK;rw[List.map_cons,List.flatten_cons]
  rw[e]at hd hs ⊢;rw[List.append_assoc]at hd;rw[List.length_append,←Nat.add_assoc]at hs ⊢;obtain⟨v',hv,F,hF⟩:=DX (hl v (by simp)) hd ho
  obtain⟨l',hl',G,hG⟩:=DW l (fun x hx=>hl x (by simp[hx])) (acc++[v']) _ o rest (jM hd) hs ho
  refine⟨v'::l',by rw[List.map_cons,List.map_cons,hv,hl'],F+G+1,fun f hf=> ?_⟩
  cases f with
  | zero=>omega
  | succ f =>
   have hk:sees ts a [118,97,114]=true:=by
    unfold It at hd;rw[List.cons_append]at hd;rw[cA hd];decide
   rw[vasM,if_pos hk,hF f (by omega),bY,hG f (by omega),List.append_assoc]
   rfl
def fnQ(f:Fun):ByteArray×List V×List Nd:=(f.name,f.vars.map vaV,f.body)
def unQ(u:Un):List V×List Sec×List (ByteArray×List V×List Nd):=(u.globals.map vaV,u.data,u.funcs.map fnQ)
theorem VT{f g:Fun}(h:fnQ f=fnQ g):fnV f=fnV g:=by
 unfold fnQ at h
 rw[Prod.mk.injEq,Prod.mk.injEq]at h
 obtain⟨h1,h2,h3⟩:=h
 unfold fnV
 rw[h1,h2,h3]
theorem OY: ∀ {l m:List Fun},l.map fnQ=m.map fnQ→l.map fnV=m.map fnV
 | [],[],_=>rfl
 | f::l,g::m,h=>by
  rw[List.map_cons,List.map_cons,List.cons.injEq]at h;rw[List.map_cons,List.map_cons,VT h.1,OY h.2]
theorem UM{u v:Un}(h:unQ u=unQ v):unV u=unV v:=by
 unfold unQ at h
 rw[Prod.mk.injEq,Prod.mk.injEq]at h
 obtain⟨h1,h2,h3⟩:=h
 unfold unV
 rw[h1,h2,OY h3]
theorem QR{g:Fun}(hg:FunOk g){a o:Nat}{rest:List Tk}(hd:ts.drop a=funK g++rest)(ho:o=0): ∃g',fnQ g'=fnQ g∧ ∃F,∀f,F≤f→funM ts f a o=some (.ok g' (a+(funK g).length) o):=by
 subst ho
 unfold funK at hd ⊢
 simp only[List.append_assoc,List.cons_append,List.nil_append]at hd
 have d1:=cB hd
 have d2:=cB d1
 have d3:=cB d2
 have d4:=jM d3
 have hb: ∀t∈g.body,RdN ts t∧stT t=true:=fun t ht=>⟨UV t (hg.body t ht).1 (hg.body t ht).2,by
  have:=(hg.body t ht).1;obtain⟨k,w,n,e,l,el,cs⟩:=t;rw[zB,Bool.and_eq_true]at this
  exact this.1⟩
 have hs:=(Us (fun t ht=>(hb t ht).2) d4).2
 obtain⟨l',hl',F,hF⟩:=DW g.vars hg.vars [] _ 1 _ d3 hs (by omega)
 obtain⟨G,hG⟩:=OU g.body hb [] _ 1 _ d4 (by have:=hg.dep;unfold room;omega)
 have d5:=jM d4
 refine⟨⟨g.name,l',g.body⟩,?_,F+G,fun f hf=> ?_⟩
 ·show(g.name,l'.map vaV,g.body)=(g.name,g.vars.map vaV,g.body)
  rw[hl']
 ·unfold funM
  rw[Rr hd,bY,Am d1,bY,rL d2 (by omega),bY,hF f (by omega),bY,hG f (by omega),bY,zQ d5,bY,oP]
  show some _=some _
  congr 2
  simp only[List.length_cons,List.length_append,List.length_nil];omega
theorem QS{d:Sec}(hd0:SecOk d){a o:Nat}{rest:List Tk}(hd:ts.drop a=datK d++rest):wC ts a o=some (.ok d (a+(datK d).length) o):=by
 unfold datK at hd ⊢
 simp only[List.append_assoc,List.cons_append,List.nil_append]at hd
 have d1:=cB hd
 have d2:=cB d1
 have d3:=cB d2
 have hn:((d.addr.toNat:Nat):Int)=d.addr:=by have:=hd0.addr;omega
 have fin: ∀a1,ts.drop a1=opT [61]::Xi d.data::opT [59]::rest→(rb (expM ts [61] a1 o) fun _ a o=>rb (takM ts 4 a o) fun b a o=>rb (expM ts [59] a o) fun _ a o=>ret (Sec.mk d.name ((nuT d.addr.toNat).n) b.text d.wr d.exe) a o)=some (.ok d (a1+3) o):=fun a1 h=>by
  rw[jL h,bY,show takM ts 4 (a1+1) o=_ from BV (t:=Xi d.data) (cB h),bY,jL (cB (cB h)),bY]
  show some (Rs.ok (Sec.mk d.name ((d.addr.toNat:Nat):Int) d.data d.wr d.exe) _ _)=_
  rw[hn]
 have acc: ∀a1 (s:Bs),sees ts a1 s=true→accM ts s a1 o=some (.ok true (a1+1) o):=fun a1 s h=>by unfold accM;rw[if_pos h];rfl
 have acn: ∀a1 (s:Bs),sees ts a1 s=false→accM ts s a1 o=some (.ok false a1 o):=fun a1 s h=>by unfold accM;rw[if_neg (by rw[h];decide)];rfl
 unfold wC
 rw[Rr hd,bY,Am d1,bY,Qp d2,bY,oP]
 unfold QD at d3 ⊢
 cases hw:d.wr<;>cases hx:d.exe<;>rw[hw,hx]at d3 fin<;>simp only[if_true,if_false,Bool.false_eq_true,List.append_assoc,List.cons_append,List.nil_append]at d3 ⊢
 ·rw[acn _ _ (by rw[dY d3];decide),bY,acn _ _ (by rw[dY d3];decide),bY,fin _ d3]
  rfl
 ·rw[acn _ _ (by rw[cA d3];decide),bY,acc _ _ (by rw[cA d3];decide),bY,fin _ (cB d3)]
  rfl
 ·rw[acc _ _ (by rw[cA d3];decide),bY,acn _ _ (by rw[dY (cB d3)];decide),bY,fin _ (cB d3)]
  rfl
 ·rw[acc _ _ (by rw[cA d3];decide),bY,acc _ _ (by rw[cA (cB d3)];decide),bY,fin _ (cB (cB d3))]
  rfl
theorem DZ: ∀(l:List Fun),(∀g∈l,FunOk g)→ ∀(u:Un) (a:Nat),ts.drop a=(l.map funK).flatten→ ∃l',l'.map fnQ=l.map fnQ∧ ∃F,∀f,F≤f→uniM ts f u a 0=some (.ok ⟨u.globals,u.data,u.funcs++l'⟩ (a+((l.map funK).flatten).length) 0)
 | [],_,u,a,hd=>by
  refine⟨[],rfl,1,fun f hf=> ?_⟩
  cases f with
  | zero=>omega
  | succ f =>
   have hl:ts.length≤a:=List.drop_eq_nil_iff.1 hd;rw[uniM,if_pos hl,List.append_nil];rfl
 | g::l,hl,u,a,hd=>by
  have e:((g::l).map funK).flatten=funK g++(l.map funK).flatten:=by rw[List.map_cons,List.flatten_cons]
  rw[e]at hd ⊢;obtain⟨g',hg,F,hF⟩:=QR (hl g (by simp)) hd rfl
  obtain⟨l',hl',G,hG⟩:=DZ l (fun x hx=>hl x (by simp[hx])) ⟨u.globals,u.data,u.funcs++[g']⟩ _ (jM hd)
  refine⟨g'::l',by rw[List.map_cons,List.map_cons,hg,hl'],F+G+1,fun f hf=> ?_⟩
  cases f with
  | zero=>omega
  | succ f =>
   have hd1: ∃r,ts.drop a=kwT [102,117,110,99]::r:=⟨_,by rw[hd];rfl⟩
   obtain⟨r,hd1⟩:=hd1;have hlt: ¬ts.length≤a:=fun h=>by rw[List.drop_eq_nil_iff.2 h]at hd1;cases hd1
   rw[uniM,if_neg hlt,if_neg (by rw[cA hd1];decide),if_neg (by rw[cA hd1];decide),if_pos (by rw[cA hd1];decide),hF f (by omega),bY,hG f (by omega),List.length_append,←Nat.add_assoc,List.append_assoc]
   rfl
theorem EA: ∀(l:List Sec),(∀d∈l,SecOk d)→ ∀(u:Un) (a:Nat) (rest:List Tk) (z:Rs Un),ts.drop a=(l.map datK).flatten++rest→(∃F,∀f,F≤f→uniM ts f ⟨u.globals,u.data++l,u.funcs⟩ (a+((l.map datK).flatten).length) 0=some z)→ ∃F,∀f,F≤f→uniM ts f u a 0=some z
 | [],_,u,a,rest,z,hd,hz=>by
  rw[List.append_nil]at hz;exact hz
 | d::l,hl,u,a,rest,z,hd,hz=>by
  rw[List.map_cons,List.flatten_cons]at hd hz;rw[List.append_assoc]at hd;rw[List.length_append,←Nat.add_assoc]at hz;obtain⟨G,hG⟩:=EA l (fun x hx=>hl x (by simp[hx])) ⟨u.globals,u.data++[d],u.funcs⟩ _ rest z (jM hd) (by rw[List.append_assoc];exact hz)
  refine⟨G+1,fun f hf=> ?_⟩
  cases f with
  | zero=>omega
  | succ f =>
   have hd1: ∃r,ts.drop a=kwT [100,97,116,97]::r:=⟨_,by rw[hd];rfl⟩
   obtain⟨r,hd1⟩:=hd1;have hlt: ¬ts.length≤a:=fun h=>by rw[List.drop_eq_nil_iff.2 h]at hd1;cases hd1
   rw[uniM,if_neg hlt,if_neg (by rw[cA hd1];decide),if_pos (by rw[cA hd1];decide),QS (hl d (by simp)) hd,bY]
   exact hG f (by omega)
theorem DY: ∀(l:List Va),(∀v∈l,VaOk v)→ ∀(u:Un) (a:Nat) (rest:List Tk),ts.drop a=vasK l++rest →
  ∃l',l'.map vaV=l.map vaV∧ ∀z:Rs Un,(∃F,∀f,F≤f→uniM ts f ⟨u.globals++l',u.data,u.funcs⟩ (a+(vasK l).length) 0=some z)→ ∃F,∀f,F≤f→uniM ts f u a 0=some z
 | [],_,u,a,rest,hd=>⟨[],rfl,fun z hz=>by rw[List.append_nil]at hz;exact hz⟩
 | v::l,hl,u,a,rest,hd=>by
  have e:vasK (v::l)=It v++vasK l:=by unfold vasK;rw[List.map_cons,List.flatten_cons]
  rw[e]at hd ⊢;rw[List.append_assoc]at hd;rw[List.length_append,←Nat.add_assoc];obtain⟨v',hv,F,hF⟩:=DX (hl v (by simp)) hd (o:=0) (by omega)
  obtain⟨l',hl',hG⟩:=DY l (fun x hx=>hl x (by simp[hx])) ⟨u.globals++[v'],u.data,u.funcs⟩ _ rest (jM hd)
  refine⟨v'::l',by rw[List.map_cons,List.map_cons,hv,hl'],fun z hz=> ?_⟩
  obtain⟨G,hG⟩:=hG z (by rw[List.append_assoc];exact hz)
  refine⟨F+G+1,fun f hf=> ?_⟩
  cases f with
  | zero=>omega
  | succ f =>
   have hd1: ∃r,ts.drop a=kwT [118,97,114]::r:=⟨_,by rw[hd];rfl⟩
   obtain⟨r,hd1⟩:=hd1;have hlt: ¬ts.length≤a:=fun h=>by rw[List.drop_eq_nil_iff.2 h]at hd1;cases hd1
   rw[uniM,if_neg hlt,if_pos (by rw[cA hd1];decide),hF f (by omega),bY]
   exact hG f (by omega)
def un0:Un:=⟨[],[],[]⟩
theorem QQ{u:Un}(hu:UnOk u)(hd:ts=JQ u): ∃u',unQ u'=unQ u∧ ∃F,∀f,F≤f→allM ts (uniM ts f un0 0 0)=some (.ok u' ts.length 0):=by
 have h0:ts.drop 0=vasK u.globals++((u.data.map datK).flatten++(u.funcs.map funK).flatten):=by rw[List.drop_zero,hd];rfl
 obtain⟨l',hl',hG⟩:=DY u.globals hu.globals un0 0 _ h0
 have h1:=jM h0
 have h2:=jM h1
 obtain⟨m',hm',hF⟩:=DZ u.funcs hu.funcs ⟨l',u.data,[]⟩ _ h2
 have hlen:0+(vasK u.globals).length+((u.data.map datK).flatten).length+((u.funcs.map funK).flatten).length=ts.length:=by rw[hd];unfold JQ;simp only[List.length_append];omega
 rw[hlen]at hF
 obtain⟨F,hF⟩:=hG _ (EA u.data hu.data ⟨[]++l',[],[]⟩ _ _ _ h1 hF)
 refine⟨⟨l',u.data,m'⟩,?_,F,fun f hf=> ?_⟩
 ·show(l'.map vaV,u.data,m'.map fnQ)=(u.globals.map vaV,u.data,u.funcs.map fnQ)
  rw[hl',hm']
 ·unfold allM
  rw[hF f hf,bY,if_neg (Nat.lt_irrefl _)];rfl
end
end Go.Proofs.YtmbmmckagcdapaaGreatDoor
namespace Go.Proofs.YtmbmmckagcdapaaGreatDoor
open Go.RowKit
theorem MZ(b x y z u v r:Bs)(k:Nat)(hr:b++lnT k (x++(y++(z++(u++v))))=r)(hlen:r.length≤140737488355328):DC Tryz.prog 36 [.pt 0 0,.sl [.im (.string ⟨(x).toArray⟩),.im (.string ⟨(y).toArray⟩),.im (.string ⟨(z).toArray⟩),.im (.string ⟨(u).toArray⟩),.im (.string ⟨(v).toArray⟩)] .full] [.box [.nb 0 PQ,.sl ((b).map byB) (.mine 1),(.im (.int .i64 ((k:Int))))],.tip 5 1 (b).length] (.tu []) [.box [.nb 0 PQ,.sl ((r).map byB) (.mine 1),(.im (.int .i64 ((k:Int))))],.tip 5 1 (r).length]:=by
 subst hr
 exact yN<|Kh b [x,y,z,u,v] (x++(y++(z++(u++v)))) (by simp) k (by simp) hlen
theorem Wj{l:List Va}{m:Nat}(k:Nat)(h:m<l.length):vasT k (l.take (m+1))=vasT k (l.take m)++varT k l[m]:=by
 unfold vasT
 rw[List.take_succ_eq_append_getElem h,List.map_append,List.flatten_append]
 simp
theorem JI{l:List Va}{m k:Nat}:(vasT k (l.take m)).length≤(vasT k l).length:=by
 conv=>rhs;rw[←List.take_append_drop m l]
 unfold vasT
 rw[List.map_append,List.flatten_append,List.length_append]
 exact Nat.le_add_right _ _
theorem UZ(t:Ty)(hf:fit t)(hg:good t=true)(hl:(txT t).length≤140737488355328):PC Tryz.prog 81 [tyV t] (.im (.string ⟨(txT t).toArray⟩)):=by
 have:=Zn t hf fun _=>hl
 rw[prT,if_pos hg]at this
 exact this
def rO:=A12 @dN @iK @Cc @lL @sJ @lJ @iW @uZ @uY @cY @iI @kK
def Ab:=A10 @aC @aE bB aB @aN @aO @bV @bU @bX @bW
def UF:=A11 @aQ @aR fB cK eT @bE @bD @qS @qT @rF @rG
theorem Vk(l:List Va)(k:Nat)(b:Bs)(hl:l.length≤4194304)(hf:Ap l)(hg: ∀v∈l,good v.ty=true)(hlen:(b++vasT k l).length≤140737488355328) :
  DC Tryz.prog 35 [.pt 0 0,.sl (l.map vaV) .ro] [.box [.nb 0 PQ,.sl ((b).map byB) (.mine 1),(.im (.int .i64 ((k:Int))))],.tip 5 1 (b).length] (.tu []) [.box [.nb 0 PQ,.sl (((b++vasT k l)).map byB) (.mine 1),(.im (.int .i64 ((k:Int))))],.tip 5 1 ((b++vasT k l)).length]:=by
 obtain⟨Bf,hBf⟩: ∃Bf:Nat→Bs,∀m,Bf m=b++vasT k (l.take m):=⟨_,fun _=>rfl⟩
 have h0:Bf 0=b:=by rw[hBf];simp[vasT]
 have hend:Bf l.length=b++vasT k l:=by rw[hBf,List.take_length]
 rw[←hend,←h0]
 refine DC.enter 21 Tryz.func35 rfl (by decide) rfl rfl (s:=[(0,.pt 0 0),(1,.sl (l.map vaV) .ro)]) (by rfl) ?_
 refine wG rO @List.length_map.{0,0} ?_
 refine aW ?_
 refine ALp.cutP 2 [(0,.pt 0 0),(6,.sl (l.map vaV) .ro),(7,(.im (.int .i64 (l.length)))),(8,(.im (.int .i64 ((((0:Nat)):Int)))))] [.box [.nb 0 PQ,.sl (((Bf 0)).map byB) (.mine 1),(.im (.int .i64 ((k:Int))))],.tip 5 1 ((Bf 0)).length] Ab ?_
 refine ALp.upto l.length (fun _=>True) (fun m=>⟨dn 21 [(0,.pt 0 0),(6,.sl (l.map vaV) .ro),(7,(.im (.int .i64 (l.length)))),(8,(.im (.int .i64 ((((m:Nat)):Int)))))],ofl [.box [.nb 0 PQ,.sl (((Bf m)).map byB) (.mine 1),(.im (.int .i64 ((k:Int))))],.tip 5 1 ((Bf m)).length]⟩) ?_ 0 (Nat.zero_le _) trivial
 intro m hm _ hnext
 by_cases hlt:m<l.length
 ·have hlt':(m:Int)<(l.length:Int):=by omega
  have hm1:=aT hlt (by omega)
  have hgv:=bJ hlt;have hle:=JI (l:=l) (m:=m+1) (k:=k);have hB:Bf m++varT k l[m]=Bf (m+1):=by rw[hBf,hBf,Wj k hlt,List.append_assoc]
  have hBl:(Bf (m+1)).length≤140737488355328:=by
   rw[hBf,List.length_append];rw[List.length_append]at hlen;omega
  have hvl:(varT k l[m]).length≤(Bf (m+1)).length:=by rw[←hB,List.length_append];omega
  have hp:=UZ l[m].ty (hf _ (List.getElem_mem hlt)).1 (hg _ (List.getElem_mem hlt)) (by
   have:(txT l[m].ty).length≤(varT k l[m]).length:=by unfold varT lnT;simp only[List.length_append,List.length_cons,List.length_nil];omega
   omega)
  have hline:=MZ (Bf m) [118,97,114,32] l[m].name.data.toList [58,32] (txT l[m].ty) [59] (Bf (m+1)) k hB hBl;rw[Pk]at hline;refine wdG rO (A3 hlt' hgv VA) ?_;refine AR.callP hp @cF Ab ?_;refine goG rO TI ?_;refine aA [0,1] hline TI Ab UF ?_;refine goG rO TI ?_;refine wdG rO hm1 ?_;refine ALp.cutP 2 [(0,.pt 0 0),(6,.sl (l.map vaV) .ro),(7,(.im (.int .i64 (l.length)))),(8,(.im (.int .i64 ((((m+1:Nat)):Int)))))] [.box [.nb 0 PQ,.sl (((Bf (m+1))).map byB) (.mine 1),(.im (.int .i64 ((k:Int))))],.tip 5 1 ((Bf (m+1))).length] Ab ?_;exact hnext (m+1) (by omega) (by omega) trivial
 obtain rfl:m=l.length:=by omega
 clear hnext
 refine wG rO @Int.lt_irrefl ?_
 refine aP (rs:=[]) rfl (by first|exact .inl rfl|exact .inr rfl) (finG rO) ?_ rfl (idG Ab)
 all_goals exact wkG Ab
theorem WP:PQ%1000000=73∧PQ/1000000=1:=by decide
end Go.Proofs.YtmbmmckagcdapaaGreatDoor
namespace Go.Proofs.YtmbmmckagcdapaaGreatDoor
theorem OW{n:Int}(h:0≤n∧n<4294967296):I64 n:=⟨by omega,by omega⟩
theorem Bm{o n:Int}{s:ByteArray}{w:Int}{l:List Ex}(h0:I64 o)(h1:0≤n∧n<4294967296)(h2:I64 w)(h3:l.length≤4194304)(h4:s.size≤9223372036854775807)(h5: ∀t∈l,fitE t):fitE (.mk o n s w l):=by
 have e:fitEB (.mk o n s w l)=_:=Ex.para_mk _ o n s w l
 unfold fitE
 rw[e]
 simp only[Bool.and_eq_true,Ex.op,Ex.n,Ex.width,Ex.name,Ex.l,List.all_map,List.all_eq_true]
 exact⟨⟨⟨decide_eq_true ⟨h0,⟨h1.1,by omega⟩,h2⟩,decide_eq_true h3⟩,decide_eq_true h4⟩,h5⟩
theorem zN{o k s c:Int}{es fs:List Ty}(h0:I64 o∧I64 k∧I64 s∧I64 c)(h1:es.length≤4194304)(h2:fs.length≤4194304)(hE: ∀t∈es,fit t)(hF: ∀t∈fs,fit t):fit (.mk o k s c es fs):=by
 have e:LW (.mk o k s c es fs)=_:=Ty.para_mk _ o k s c es fs
 unfold fit
 rw[e]
 simp only[Bool.and_eq_true,decide_eq_true_eq,Ty.elem,Ty.fields,Ty.off,Ty.kind,Ty.size,Ty.count,List.all_map,List.all_eq_true]
 exact⟨⟨⟨⟨decide_eq_true h0,decide_eq_true h1⟩,decide_eq_true h2⟩,hE⟩,hF⟩
theorem LV{t:Ty}(h:fit t){o:Int}(ho:I64 o):fit (t.at_ o):=by
 cases t
 exact zN ⟨ho,(LU h).2⟩ (nU h).1 (nU h).2.1 (nU h).2.2.1 (nU h).2.2.2
theorem uN{k w:Int}{n:ByteArray}{e:List Ex}{l el:List Nd}{cs:List (List Nd)}(h0:I64 k∧I64 w)(h1:n.size≤9223372036854775807)(h2:e.length≤4194304)(h3: ∀x∈e,fitE x)(h4:lN l)(h5:lN el)(h6:cs.length≤4194304)(h7: ∀c∈cs,lN c):fitN (.mk k w n e l el cs):=by
 have q:FW (.mk k w n e l el cs)=_:=Nd.para_mk _ k w n e l el cs
 unfold fitN
 rw[q]
 simp only[Bool.and_eq_true,Nd.kind,Nd.width,Nd.name,Nd.e,Nd.l,Nd.el,Nd.cs,List.all_map,List.all_eq_true]
 refine⟨⟨⟨⟨⟨⟨⟨decide_eq_true h0,decide_eq_true h1⟩,decide_eq_true ⟨h2,h4.1,h5.1,h6⟩⟩,h3⟩,fun c hc=>decide_eq_true (h7 c hc).1⟩,h4.2⟩,h5.2⟩,fun c hc=> ?_⟩
 simp only[Function.comp,List.all_map,List.all_eq_true]
 exact(h7 c hc).2
section
variable {ts:List Tk}
theorem uB(hok: ∀t∈ts,TkOk t)(a:Nat):(strA (pk ts a).text).size≤9223372036854775807:=by
 have:(pk ts a).text.length≤4194304:=by
  by_cases hl:a<ts.length
  ·exact(hok _ (List.mem_of_getElem? (Uh hl))).2
  ·rw[Hg (by omega)];decide
 show(pk ts a).text.toArray.size≤_
 rw[List.size_toArray]
 omega
theorem VB(s:Bs):I64 (opR s).1:=by
 have key: ∀(c:Prop) [Decidable c] (x y:Int×Nat),I64 x.1→I64 y.1→I64 (if c then x else y).1:=fun c _ x y hx hy=>by by_cases h:c<;>simp[h,hx,hy]
 unfold opR
 repeat (refine key _ _ _ (by decide) ?_)
 decide
theorem UQ(t:Tk):I64 (stR t).1:=by
 unfold stR
 split
 ·exact VB _
 ·decide
theorem IL{s:Bs}{k w:Int}(h:accW s=some (k,w)):I64 k∧I64 w:=by
 unfold accW at h
 rcases aF h with ⟨_,h⟩|⟨_,h⟩
 ·cases h;decide
 rcases aF h with ⟨_,h⟩|⟨_,h⟩
 ·cases h;decide
 rcases aF h with ⟨_,h⟩|⟨_,h⟩
 ·cases h;decide
 rcases aF h with ⟨_,h⟩|⟨_,h⟩
 ·cases h;decide
 rcases aF h with ⟨_,h⟩|⟨_,h⟩
 ·cases h;decide
 ·cases h
theorem EZ{s:Bs}{k w:Int}(h:intR s=some (k,w)):I64 k∧I64 w:=by
 unfold intR at h
 rcases aF h with ⟨_,h⟩|⟨_,h⟩
 ·cases h;decide
 rcases aF h with ⟨_,h⟩|⟨_,h⟩
 ·cases h;decide
 rcases aF h with ⟨_,h⟩|⟨_,h⟩
 ·cases h;decide
 rcases aF h with ⟨_,h⟩|⟨_,h⟩
 ·cases h;decide
 rcases aF h with ⟨_,h⟩|⟨_,h⟩
 ·cases h;decide
 rcases aF h with ⟨_,h⟩|⟨_,h⟩
 ·cases h;decide
 rcases aF h with ⟨_,h⟩|⟨_,h⟩
 ·cases h;decide
 ·cases h
theorem Oa{o w:Int}{x:Ex}(ho:I64 o)(hw:I64 w)(hx:fitE x):fitE (mkU o w x) :=
 Bm ho (by decide) hw (by simp) (by decide) (fun t ht=>by simp at ht;rw[ht];exact hx)
theorem Vb(hok: ∀t∈ts,TkOk t): ∀f,(∀a o x b p,exM ts f .op a o=some (.ok x b p)→fitE x)∧(∀l a o x b p,exM ts f (.ex l) a o=some (.ok x b p)→fitE x)∧(∀l y a o x b p,fitE y→exM ts f (.lo l y) a o=some (.ok x b p)→fitE x):=by
 intro f
 induction f with
 | zero=>exact⟨(fun _ _ _ _ _ h=>by cases h),(fun _ _ _ _ _ _ h=>by cases h),(fun _ _ _ _ _ _ _ _ h=>by cases h)⟩
 | succ f ih =>
  obtain⟨i1,i2,i3⟩:=ih
  have hin: ∀q a o x b p,(∀y,fitE y→fitE (q y))→inn ts (exM ts f (.ex 1)) q a o=some (.ok x b p)→fitE x:=fun q a o x b p hq h=>by
   obtain⟨_,a1,o1,h1,h⟩:=aG h;obtain⟨y,a2,o2,h2,h⟩:=aG h;obtain⟨_,a3,o3,h3,h⟩:=aG h;cases h
   exact hq y (i2 _ _ _ _ _ _ h2)
  refine⟨fun a o x b p h=> ?_,fun l a o x b p h=> ?_,fun l y a o x b p hy h=> ?_⟩
  ·rw[exM]at h
   rcases aF h with ⟨hk,h⟩|⟨_,h⟩
   ·cases h;exact Bm (by decide) (tD hok a) (by decide) (by simp) (by decide) (by simp)
   rcases aF h with ⟨hk,h⟩|⟨_,h⟩
   ·cases h;exact Bm (by decide) (by decide) (by decide) (by simp) (uB hok a) (by simp)
   rcases aF h with ⟨hk,h⟩|⟨_,h⟩
   ·cases hw:accW (pk ts a).text with
    | none=>rw[hw]at h;cases h
    | some p=>rw[hw]at h;exact hin _ _ _ _ _ _ (fun y hy=>Oa (IL hw).1 (IL hw).2 hy) h
   rcases aF h with ⟨hk,h⟩|⟨_,h⟩
   ·rcases aF h with ⟨_,h⟩|⟨_,h⟩
    ·exact hin _ _ _ _ _ _ (fun y hy=>hy) h
    rcases aF h with ⟨_,h⟩|⟨_,h⟩
    ·obtain⟨_,a1,o1,h1,h⟩:=aG h
     obtain⟨y,a2,o2,h2,h⟩:=aG h;cases h
     exact Oa (by split<;>decide) (by decide) (i1 _ _ _ _ _ h2)
    ·cases h
   ·cases h
  ·rw[exM]at h
   obtain⟨y,a1,o1,h1,h⟩:=aG h;exact i3 _ _ _ _ _ _ _ (i1 _ _ _ _ _ h1) h
  ·rw[exM]at h
   rcases aF h with ⟨_,h⟩|⟨_,h⟩
   ·cases h;exact hy
   ·obtain⟨z,a1,o1,h1,h⟩:=aG h
    refine i3 _ _ _ _ _ _ _ (Bm (UQ _) (by decide) (by decide) (by simp) (by decide) fun t ht=> ?_) h
    simp at ht;rcases ht with rfl|rfl
    ·exact hy
    ·exact i2 _ _ _ _ _ _ h1
theorem JX(hok: ∀t∈ts,TkOk t)(hts:ts.length≤65536): ∀f,(∀a o x b p,tyM ts f .ty a o=some (.ok x b p)→fit x)∧(∀l a o x b p,l.length≤a→a≤ts.length→(∀t∈l,fit t)→tyM ts f (.fl l) a o=some (.ok x b p)→fit x):=by
 intro f
 induction f with
 | zero=>exact⟨(fun _ _ _ _ _ h=>by cases h),(fun _ _ _ _ _ _ _ _ _ h=>by cases h)⟩
 | succ f ih =>
  obtain⟨i1,i2⟩:=ih;refine⟨fun a o x b p h=> ?_,fun l a o x b p hl ha hf h=> ?_⟩
  ·rw[tyM]at h
   rcases aF h with ⟨hk,h⟩|⟨_,h⟩
   ·cases hw:intR (pk ts a).text with
    | none=>rw[hw]at h;cases h
    | some q =>
     rw[hw]at h;cases h
     exact zN ⟨by decide,(EZ hw).1,(EZ hw).2,by decide⟩ (by simp) (by simp) (by simp) (by simp)
   rcases aF h with ⟨hk,h⟩|⟨_,h⟩
   ·cases h;exact zN (by decide) (by simp) (by simp) (by simp) (by simp)
   rcases aF h with ⟨hk,h⟩|⟨_,h⟩
   ·obtain⟨_,a1,o1,h1,h⟩:=aG h
    obtain⟨y,a2,o2,h2,h⟩:=aG h;cases h
    exact zN (by decide) (by simp) (by simp) (fun t ht=>by simp at ht;rw[ht];exact i1 _ _ _ _ _ h2) (by simp)
   rcases aF h with ⟨hk,h⟩|⟨_,h⟩
   ·obtain⟨_,a1,o1,h1,h⟩:=aG h
    obtain⟨n,a2,o2,h2,h⟩:=aG h;obtain⟨_,a3,o3,h3,h⟩:=aG h;obtain⟨y,a4,o4,h4,h⟩:=aG h;obtain⟨_,rfl,_,_⟩:=eY h2;cases h
    exact zN ⟨by decide,by decide,by decide,OW (tD hok _)⟩ (by simp) (by simp) (fun t ht=>by simp at ht;rw[ht];exact i1 _ _ _ _ _ h4) (by simp)
   rcases aF h with ⟨hk,h⟩|⟨_,h⟩
   ·obtain⟨_,a1,o1,h1,h⟩:=aG h
    have e1:=bO h1;have:=bI e1.1;exact i2 _ _ _ _ _ _ (Nat.zero_le _) (by omega) (by simp) h
   ·cases h
  ·rw[tyM]at h
   rcases aF h with ⟨hk,h⟩|⟨_,h⟩
   ·obtain⟨_,a1,o1,h1,h⟩:=aG h
    cases h
    exact zN (by decide) (by simp) (by omega) (by simp) hf
   ·obtain⟨_,a1,o1,h1,h⟩:=aG h
    obtain⟨n,a2,o2,h2,h⟩:=aG h;obtain⟨_,a3,o3,h3,h⟩:=aG h;obtain⟨y,a4,o4,h4,h⟩:=aG h
    have e0:a≤a1:=by
     rcases aF h1 with ⟨_,h1⟩|⟨_,h1⟩
     ·have:=bH h1;omega
     ·cases h1;omega
    obtain⟨_,rfl,e2,_⟩:=eY h2;have e3:=bH h3;have e4:=(kA ts f).1 _ _ _ _ _ h4;refine i2 _ _ _ _ _ _ (by simp;omega) (by omega) (fun t ht=> ?_) h
    rcases List.mem_append.1 ht with ht|ht
    ·exact hf t ht
    ·simp at ht;rw[ht];exact LV (i1 _ _ _ _ _ h4) (OW (tD hok _))
theorem fit0:lN []:=⟨by simp,by simp⟩
theorem MM(l:List Nd)(t:Nd):cnt (l++[t])=cnt l+cntT t:=by unfold cnt;rw[List.map_append,List.sum_append];simp
theorem uR:cnt []=0:=rfl
theorem nX(k w:Int)(n:ByteArray)(e:List Ex):cntT (.mk k w n e [] [] [])=1:=by rw[mJ];rfl
theorem lR{k w:Int}{n:ByteArray}{e:List Ex}(hk:I64 k)(hw:I64 w)(hn:n.size≤9223372036854775807)(he:e.length≤4194304)(hx: ∀x∈e,fitE x):fitN (.mk k w n e [] [] []):=uN ⟨hk,hw⟩ hn he hx fit0 fit0 (by simp) (by simp)
theorem KI(hok: ∀t∈ts,TkOk t)(hts:ts.length≤65536): ∀f,(∀a o x b p,stM ts f .st a o=some (.ok x b p)→fitN (theS x)∧cntT (theS x)+a≤b) ∧
  (∀l a o x b p,l.length≤a→(∀t∈l,fitN t)→stM ts f (.li l) a o=some (.ok x b p)→(∀t∈x.headD [],fitN t)∧(x.headD []).length≤b∧cnt (x.headD [])+a≤cnt l+b) ∧
  (∀a o x b p,stM ts f .br a o=some (.ok x b p)→lN (x.headD [])∧cnt (x.headD [])+a+2≤b) ∧
  (∀c a o x b p,c.length≤a→(∀l∈c,lN l)→stM ts f (.ca c) a o=some (.ok x b p)→(∀l∈x,lN l)∧x.length≤b∧(x.map cnt).sum+a≤(c.map cnt).sum+b):=by
 intro f
 induction f with
 | zero=>exact⟨(fun _ _ _ _ _ h=>by cases h),(fun _ _ _ _ _ _ _ _ h=>by cases h),(fun _ _ _ _ _ h=>by cases h),(fun _ _ _ _ _ _ _ _ h=>by cases h)⟩
 | succ f ih =>
  obtain⟨i1,i2,i3,i4⟩:=ih;have ex: ∀l a o x b p,exM ts f (.ex l) a o=some (.ok x b p)→fitE x∧a<b:=fun l a o x b p h=>⟨(Vb hok f).2.1 l a o x b p h,(zO h).1⟩
  have one: ∀ {x:Ex},fitE x→ ∀y∈[x],fitE y:=fun hx y hy=>by simp at hy;rw[hy];exact hx
  have e0: ∀y∈([]:List Ex),fitE y:=by simp
  have z0:(ByteArray.empty).size≤9223372036854775807:=by decide
  refine⟨fun a o x b p h=> ?_,fun l a o x b p hl hf h=> ?_,fun a o x b p h=> ?_,fun c a o x b p hc hf h=> ?_⟩
  ·rw[stM]at h
   have leafN: ∀(k:Int) (a1 o1:Nat),I64 k→a≤a1→(rb (nmM ts a1 o1) fun n a o=>rb (expM ts [59] a o) fun _ a o=>ret (oneS (.mk k 0 n [] [] [] [])) a o)=some (.ok x b p)→fitN (theS x)∧cntT (theS x)+a≤b:=fun k a1 o1 hk ha h=>by
    obtain⟨n,a2,o2,h2,h⟩:=aG h;obtain⟨_,a3,o3,h3,h⟩:=aG h;have q2:=eQ h2;have q3:=bH h3;cases h
    refine⟨lR hk (by decide) (by rw[q2.1];exact uB hok _) (by simp) e0,?_⟩
    show cntT (.mk k 0 n [] [] [] [])+a≤_
    rw[nX];omega
   have simp': ∀(k:Int) (a1 o1:Nat),I64 k→a≤a1→kS ts k a1 o1=some (.ok x b p)→fitN (theS x)∧cntT (theS x)+a≤b:=fun k a1 o1 hk ha h=>by
    obtain⟨_,a2,o2,h2,h⟩:=aG h;have q2:=bH h2;cases h
    refine⟨lR hk (by decide) z0 (by simp) e0,?_⟩
    show cntT (.mk k 0 ByteArray.empty [] [] [] [])+a≤_
    rw[nX];omega
   have sto: ∀(w:Int) (a1 o1:Nat),I64 w→a≤a1→kR ts f w a1 o1=some (.ok x b p)→fitN (theS x)∧cntT (theS x)+a≤b:=fun w a1 o1 hw ha h=>by
    obtain⟨_,a2,o2,h2,h⟩:=aG h;obtain⟨y,a3,o3,h3,h⟩:=aG h;obtain⟨_,a4,o4,h4,h⟩:=aG h;obtain⟨z,a5,o5,h5,h⟩:=aG h;obtain⟨_,a6,o6,h6,h⟩:=aG h;obtain⟨_,a7,o7,h7,h⟩:=aG h;have q2:=bO h2;have q3:=ex _ _ _ _ _ _ h3;have q4:=bH h4;have q5:=ex _ _ _ _ _ _ h5;have q6:=iQ h6;have q7:=bH h7;cases h
    refine⟨lR (by decide) hw z0 (by simp) fun t ht=> ?_,?_⟩
    ·simp at ht
     rcases ht with rfl|rfl
     ·exact q3.1
     ·exact q5.1
    ·show cntT (.mk 2 w ByteArray.empty [y,z] [] [] [])+a≤_
     rw[nX];omega
   rcases aF h with ⟨hk,h⟩|⟨_,h⟩
   ·obtain⟨n,a2,o2,h2,h⟩:=aG h
    have q2:=eQ h2;have hn:n.size≤9223372036854775807:=by rw[q2.1];exact uB hok _
    rcases aF h with ⟨hk,h⟩|⟨_,h⟩
    ·cases h
     refine⟨lR (by decide) (by decide) hn (by simp) e0,?_⟩
     show cntT (.mk 13 0 n [] [] [] [])+a≤_
     rw[nX];omega
    obtain⟨_,a3,o3,h3,h⟩:=aG h;have q3:=bH h3;rcases aF h with ⟨hk,h⟩|⟨_,h⟩
    ·obtain⟨_,a4,o4,h4,h⟩:=aG h
     have q4:=bH h4;cases h
     refine⟨lR (by decide) (by decide) hn (by simp) e0,?_⟩
     show cntT (.mk 3 0 n [] [] [] [])+a≤_
     rw[nX];omega
    obtain⟨y,a4,o4,h4,h⟩:=aG h;obtain⟨_,a5,o5,h5,h⟩:=aG h;have q4:=ex _ _ _ _ _ _ h4;have q5:=bH h5;cases h
    refine⟨lR (by decide) (by decide) hn (by simp) (one q4.1),?_⟩
    show cntT (.mk 1 0 n [y] [] [] [])+a≤_
    rw[nX];omega
   rcases aF h with ⟨_,h⟩|⟨_,h⟩
   ·exact leafN 12 _ _ (by decide) (by omega) h
   rcases aF h with ⟨_,h⟩|⟨_,h⟩
   ·exact leafN 5 _ _ (by decide) (by omega) h
   rcases aF h with ⟨_,h⟩|⟨_,h⟩
   ·exact sto 1 _ _ (by decide) (by omega) h
   rcases aF h with ⟨_,h⟩|⟨_,h⟩
   ·exact sto 2 _ _ (by decide) (by omega) h
   rcases aF h with ⟨_,h⟩|⟨_,h⟩
   ·exact sto 4 _ _ (by decide) (by omega) h
   rcases aF h with ⟨_,h⟩|⟨_,h⟩
   ·obtain⟨y,a2,o2,h2,h⟩:=aG h
    obtain⟨_,a3,o3,h3,h⟩:=aG h;have q2:=ex _ _ _ _ _ _ h2;have q3:=bH h3;cases h
    refine⟨lR (by decide) (by decide) z0 (by simp) (one q2.1),?_⟩
    show cntT (.mk 4 0 ByteArray.empty [y] [] [] [])+a≤_
    rw[nX];omega
   rcases aF h with ⟨_,h⟩|⟨_,h⟩
   ·obtain⟨y,a2,o2,h2,h⟩:=aG h
    obtain⟨l,a3,o3,h3,h⟩:=aG h;have q2:=ex _ _ _ _ _ _ h2;have q3:=i3 _ _ _ _ _ h3;rcases aF h with ⟨_,h⟩|⟨_,h⟩
    ·obtain⟨e,a4,o4,h4,h⟩:=aG h
     have q4:=i3 _ _ _ _ _ h4;cases h
     refine⟨uN (by decide) z0 (by simp) (one q2.1) q3.1 q4.1 (by simp) (by simp),?_⟩
     show cntT (.mk 6 0 ByteArray.empty [y] (l.headD []) (e.headD []) [])+a≤_
     rw[mJ];show 1+([cnt (l.headD []),cnt (e.headD [])]:List Nat).sum+a≤_
     simp only[List.sum_cons,List.sum_nil];omega
    ·cases h
     refine⟨uN (by decide) z0 (by simp) (one q2.1) q3.1 fit0 (by simp) (by simp),?_⟩
     show cntT (.mk 6 0 ByteArray.empty [y] (l.headD []) [] [])+a≤_
     rw[mJ];show 1+([cnt (l.headD []),cnt []]:List Nat).sum+a≤_
     simp only[List.sum_cons,List.sum_nil,uR];omega
   rcases aF h with ⟨_,h⟩|⟨_,h⟩
   ·obtain⟨y,a2,o2,h2,h⟩:=aG h
    obtain⟨l,a3,o3,h3,h⟩:=aG h;have q2:=ex _ _ _ _ _ _ h2;have q3:=i3 _ _ _ _ _ h3;cases h
    refine⟨uN (by decide) z0 (by simp) (one q2.1) q3.1 fit0 (by simp) (by simp),?_⟩
    show cntT (.mk 7 0 ByteArray.empty [y] (l.headD []) [] [])+a≤_
    rw[mJ];show 1+([cnt (l.headD []),cnt []]:List Nat).sum+a≤_
    simp only[List.sum_cons,List.sum_nil,uR];omega
   rcases aF h with ⟨_,h⟩|⟨_,h⟩
   ·obtain⟨l,a3,o3,h3,h⟩:=aG h
    have q3:=i3 _ _ _ _ _ h3;cases h
    refine⟨uN (by decide) z0 (by simp) e0 q3.1 fit0 (by simp) (by simp),?_⟩
    show cntT (.mk 8 0 ByteArray.empty [] (l.headD []) [] [])+a≤_
    rw[mJ];show 1+([cnt (l.headD []),cnt []]:List Nat).sum+a≤_
    simp only[List.sum_cons,List.sum_nil,uR];omega
   rcases aF h with ⟨_,h⟩|⟨_,h⟩
   ·obtain⟨y,a2,o2,h2,h⟩:=aG h
    obtain⟨_,a3,o3,h3,h⟩:=aG h;obtain⟨c,a4,o4,h4,h⟩:=aG h;have q2:=ex _ _ _ _ _ _ h2;have q3:=bO h3;have q4:=i4 _ _ _ _ _ _ (Nat.zero_le _) (by simp) h4
    have q5:=(fN ts f).2.2.2 _ _ _ _ _ _ h4;cases h
    simp only[List.map_nil,List.sum_nil]at q4;refine⟨uN (by decide) z0 (by simp) (one q2.1) fit0 fit0 (by omega) q4.1,?_⟩
    show cntT (.mk 9 0 ByteArray.empty [y] [] [] c)+a≤_
    rw[mJ];show 1+(cnt []::cnt []::c.map cnt).sum+a≤_
    simp only[List.sum_cons,uR];omega
   rcases aF h with ⟨_,h⟩|⟨_,h⟩
   ·exact simp' 10 _ _ (by decide) (by omega) h
   rcases aF h with ⟨_,h⟩|⟨_,h⟩
   ·exact simp' 11 _ _ (by decide) (by omega) h
   rcases aF h with ⟨_,h⟩|⟨_,h⟩
   ·exact simp' 14 _ _ (by decide) (by omega) h
   rcases aF h with ⟨_,h⟩|⟨_,h⟩
   ·exact simp' 15 _ _ (by decide) (by omega) h
   ·cases h
  ·rw[stM]at h
   rcases aF h with ⟨_,h⟩|⟨_,h⟩
   ·cases h
    exact⟨hf,hl,by show cnt l+a≤_;omega⟩
   ·obtain⟨s,a1,o1,h1,h⟩:=aG h
    have q1:=i1 _ _ _ _ _ h1;have q2:=(fN ts f).1 _ _ _ _ _ h1
    have q3:=i2 _ _ _ _ _ _ (by simp;omega) (fun t ht=>by
     rcases List.mem_append.1 ht with ht|ht
     ·exact hf t ht
     ·simp at ht;rw[ht];exact q1.1) h
    rw[MM]at q3;exact⟨q3.1,q3.2.1,by omega⟩
  ·rw[stM]at h
   obtain⟨_,a1,o1,h1,h⟩:=aG h;obtain⟨l,a2,o2,h2,h⟩:=aG h;obtain⟨_,a3,o3,h3,h⟩:=aG h;have q1:=bO h1;have q2:=i2 _ _ _ _ _ _ (Nat.zero_le _) (by simp) h2
   have q4:=(fN ts f).2.1 _ _ _ _ _ _ h2;have q3:=iQ h3;cases h
   rw[uR]at q2;exact⟨⟨by omega,q2.1⟩,by omega⟩
  ·rw[stM]at h
   rcases aF h with ⟨_,h⟩|⟨_,h⟩
   ·rcases aF h with ⟨_,h⟩|⟨_,h⟩
    ·obtain⟨l,a1,o1,h1,h⟩:=aG h
     have q1:=i3 _ _ _ _ _ h1
     have q3:=i4 _ _ _ _ _ _ (by simp;omega) (fun t ht=>by
      rcases List.mem_append.1 ht with ht|ht
      ·exact hf t ht
      ·rw[List.mem_singleton.1 ht];exact q1.1) h
     rw[List.map_append,List.sum_append]at q3;simp only[List.map_cons,List.map_nil,List.sum_cons,List.sum_nil]at q3;exact⟨q3.1,q3.2.1,by omega⟩
    ·cases h
   ·obtain⟨_,a1,o1,h1,h⟩:=aG h
    have q1:=iQ h1;cases h
    exact⟨hf,by omega,by omega⟩
theorem Lv(hok: ∀t∈ts,TkOk t)(hts:ts.length≤65536){f a o:Nat}{v:Va}{b p:Nat}(h:vM ts f a o=some (.ok v b p)):fit v.ty∧v.name.size≤9223372036854775807:=by
 obtain⟨_,a1,o1,h1,h⟩:=aG h
 obtain⟨n,a2,o2,h2,h⟩:=aG h
 obtain⟨_,a3,o3,h3,h⟩:=aG h
 obtain⟨t,a4,o4,h4,h⟩:=aG h
 obtain⟨_,a5,o5,h5,h⟩:=aG h
 have e2:=eQ h2
 cases h
 exact⟨(JX hok hts f).1 _ _ _ _ _ h4,by show n.size≤_;rw[e2.1];exact uB hok _⟩
theorem BG(hok: ∀t∈ts,TkOk t)(hts:ts.length≤65536): ∀(f:Nat) {l:List Va} {a o:Nat} {v:List Va} {b p:Nat},l.length≤a→Ap l→vasM ts f l a o=some (.ok v b p)→Ap v∧v.length≤b:=by
 intro f
 induction f with
 | zero=>intro l a o v b p _ _ h;cases h
 | succ f ih =>
  intro l a o v b p hl hf h;rw[vasM]at h;rcases aF h with ⟨hk,h⟩|⟨hk,h⟩
  ·obtain⟨x,a1,o1,h1,h⟩:=aG h
   have e1:=kX h1;refine ih (by simp;omega) (fun y hy=> ?_) h
   rcases List.mem_append.1 hy with hy|hy
   ·exact hf y hy
   ·simp at hy;rw[hy];exact Lv hok hts h1
  ·cases h;exact⟨hf,hl⟩
theorem FL(hok: ∀t∈ts,TkOk t)(hts:ts.length≤65536){f a o:Nat}{v:Fun}{b p:Nat}(h:funM ts f a o=some (.ok v b p)):fitFn v:=by
 obtain⟨_,a1,o1,h1,h⟩:=aG h
 obtain⟨n,a2,o2,h2,h⟩:=aG h
 obtain⟨_,a3,o3,h3,h⟩:=aG h
 obtain⟨l,a4,o4,h4,h⟩:=aG h
 obtain⟨s,a5,o5,h5,h⟩:=aG h
 obtain⟨_,a6,o6,h6,h⟩:=aG h
 have e2:=eQ h2
 have e4:=BG hok hts f (Nat.zero_le _) (by intro y hy;cases hy) h4
 have e5:=(KI hok hts f).2.1 _ _ _ _ _ _ (Nat.zero_le _) (by simp) h5
 have e6:=(fN ts f).2.1 _ _ _ _ _ _ h5
 rw[uR]at e5
 cases h
 exact⟨by show l.length≤_;omega,e4.1,⟨by show(s.headD []).length≤_;omega,e5.1⟩,by show cnt (s.headD [])≤_;omega,by show n.size≤_;rw[e2.1];exact uB hok _⟩
theorem GP(hok: ∀t∈ts,TkOk t){a o:Nat}{v:Sec}{b p:Nat}(h:wC ts a o=some (.ok v b p)):v.name.size≤9223372036854775807:=by
 obtain⟨_,a1,o1,h1,h⟩:=aG h
 obtain⟨n,a2,o2,h2,h⟩:=aG h
 obtain⟨_,a3,o3,h3,h⟩:=aG h
 obtain⟨_,a4,o4,h4,h⟩:=aG h
 obtain⟨_,a5,o5,h5,h⟩:=aG h
 obtain⟨_,a6,o6,h6,h⟩:=aG h
 obtain⟨_,a7,o7,h7,h⟩:=aG h
 obtain⟨_,a8,o8,h8,h⟩:=aG h
 have e2:=eQ h2
 cases h
 show n.size≤_
 rw[e2.1]
 exact uB hok _
theorem BL(hok: ∀t∈ts,TkOk t)(hts:ts.length≤65536): ∀(f:Nat) {u:Un} {a o:Nat} {v:Un} {b p:Nat},a≤ts.length→u.globals.length≤a→u.data.length≤a→u.funcs.length≤a→fitU u→uniM ts f u a o=some (.ok v b p)→fitU v:=by
 intro f
 induction f with
 | zero=>intro u a o v b p _ _ _ _ _ h;cases h
 | succ f ih =>
  intro u a o v b p ha hg hd hn hf h;rw[uniM]at h;rcases aF h with ⟨hk,h⟩|⟨hk,h⟩
  ·cases h;exact hf
  rcases aF h with ⟨hk,h⟩|⟨hk,h⟩
  ·obtain⟨x,a1,o1,h1,h⟩:=aG h
   have e1:=kX h1;refine ih (u:=⟨u.globals++[x],u.data,u.funcs⟩) (a:=a1) (by omega) (by simp;omega) (by show u.data.length≤a1;omega) (by show u.funcs.length≤a1;omega) ⟨by simp;omega,fun y hy=> ?_,hf.dl,hf.dn,hf.fl,hf.fn⟩ h
   rcases List.mem_append.1 hy with hy|hy
   ·exact hf.gn y hy
   ·simp at hy;rw[hy];exact Lv hok hts h1
  rcases aF h with ⟨hk,h⟩|⟨hk,h⟩
  ·obtain⟨x,a1,o1,h1,h⟩:=aG h
   have e1:=xU h1;refine ih (u:=⟨u.globals,u.data++[x],u.funcs⟩) (a:=a1) (by omega) (by show u.globals.length≤a1;omega) (by simp;omega) (by show u.funcs.length≤a1;omega) ⟨hf.gl,hf.gn,by simp;omega,fun y hy=> ?_,hf.fl,hf.fn⟩ h
   rcases List.mem_append.1 hy with hy|hy
   ·exact hf.dn y hy
   ·simp at hy;rw[hy];exact GP hok h1
  rcases aF h with ⟨hk,h⟩|⟨hk,h⟩
  ·obtain⟨x,a1,o1,h1,h⟩:=aG h
   have e1:=xQ h1;refine ih (u:=⟨u.globals,u.data,u.funcs++[x]⟩) (a:=a1) (by omega) (by show u.globals.length≤a1;omega) (by show u.data.length≤a1;omega) (by simp;omega) ⟨hf.gl,hf.gn,hf.dl,hf.dn,by simp;omega,fun y hy=> ?_⟩ h
   rcases List.mem_append.1 hy with hy|hy
   ·exact hf.fn y hy
   ·simp at hy;rw[hy];exact FL hok hts h1
  ·cases h
theorem yQ(hok: ∀t∈ts,TkOk t)(hts:ts.length≤65536){f:Nat}{v:Un}{b p:Nat}(h:uniM ts f ⟨[],[],[]⟩ 0 0=some (.ok v b p)):fitU v :=
 BL hok hts f (Nat.zero_le _) (Nat.le_refl _) (Nat.le_refl _) (Nat.le_refl _) ⟨by simp,(by intro y hy;cases hy),by simp,(by intro y hy;cases hy),by simp,by simp⟩ h
def Er{α:Type}(n:Nat)(r:Option (Rs α)):Prop:= ∀b e,r=some (.bad b e)→(e=3∨e=20)∧b≤n
theorem Er.rb{α β:Type}{n:Nat}{r:Option (Rs α)}{k:α→Nat→Nat→Option (Rs β)}(h:Er n r)(hk: ∀x a o,r=some (.ok x a o)→Er n (k x a o)):Er n (rb r k):=fun b e q=>by
 rcases QU q with q|⟨x,a,o,h1,q⟩
 ·exact h b e q
 ·exact hk x a o h1 b e q
theorem Er.ite{α:Type}{n:Nat}{c:Prop}[Decidable c]{x y:Option (Rs α)}(hx:c→Er n x)(hy: ¬c→Er n y):Er n (if c then x else y):=by
 by_cases h:c
 ·rw[if_pos h];exact hx h
 ·rw[if_neg h];exact hy h
theorem Er.ret{α:Type}{n:Nat}(x:α)(a o:Nat):Er n (ret x a o):=fun b e q=>by cases q
theorem sM{α:Type}{n a:Nat}(h:a≤n):Er (α:=α) n (some (.bad a 3)):=fun b e q=>by cases q;exact⟨.inl rfl,h⟩
theorem Er.beg{n:Nat}(s:Bs){a:Nat}(o:Nat)(h:a≤n):Er n (begM ts s a o):=fun b e q=>by
 unfold begM at q
 rcases aF (Option.some.inj q)with ⟨_,q⟩|⟨_,q⟩
 ·cases q;exact⟨.inl rfl,h⟩
 rcases aF q with ⟨_,q⟩|⟨_,q⟩
 ·cases q;exact⟨.inr rfl,h⟩
 ·cases q
theorem Er.exp{n:Nat}(s:Bs){a:Nat}(o:Nat)(h:a≤n):Er n (expM ts s a o):=fun b e q=>by
 unfold expM at q
 rcases aF (Option.some.inj q)with ⟨_,q⟩|⟨_,q⟩
 ·cases q;exact⟨.inl rfl,h⟩
 ·cases q
theorem Er.en{n:Nat}(s:Bs){a:Nat}(o:Nat)(h:a≤n):Er n (endM ts s a o):=fun b e q=>by
 unfold endM at q
 rcases aF (Option.some.inj q)with ⟨_,q⟩|⟨_,q⟩
 ·cases q;exact⟨.inl rfl,h⟩
 ·cases q
theorem Er.tak{n:Nat}(k:Int){a:Nat}(o:Nat)(h:a≤n):Er n (takM ts k a o):=fun b e q=>by
 unfold takM at q
 rcases aF (Option.some.inj q)with ⟨_,q⟩|⟨_,q⟩
 ·cases q;exact⟨.inl rfl,h⟩
 ·cases q
theorem Er.nm{n:Nat}{a:Nat}(o:Nat)(h:a≤n):Er n (nmM ts a o):=Er.rb (Er.tak _ _ h) fun _ _ _ _=>Er.ret _ _ _
theorem Rt: ∀f,(∀a o x b p,exM ts f .op a o=some (.ok x b p)→b≤ts.length)∧(∀l a o x b p,exM ts f (.ex l) a o=some (.ok x b p)→b≤ts.length)∧(∀l y a o x b p,a≤ts.length→exM ts f (.lo l y) a o=some (.ok x b p)→b≤ts.length):=by
 intro f
 induction f with
 | zero=>exact⟨(fun _ _ _ _ _ h=>by cases h),(fun _ _ _ _ _ _ h=>by cases h),(fun _ _ _ _ _ _ _ _ h=>by cases h)⟩
 | succ f ih =>
  obtain⟨i1,i2,i3⟩:=ih
  have hin: ∀q a o x b p,inn ts (exM ts f (.ex 1)) q a o=some (.ok x b p)→b≤ts.length:=fun q a o x b p h=>by
   obtain⟨_,a1,o1,h1,h⟩:=aG h;obtain⟨y,a2,o2,h2,h⟩:=aG h;obtain⟨_,a3,o3,h3,h⟩:=aG h;have e3:=tM h3;cases h
   omega
  refine⟨fun a o x b p h=> ?_,fun l a o x b p h=> ?_,fun l y a o x b p ha h=> ?_⟩
  ·rw[exM]at h
   rcases aF h with ⟨hk,h⟩|⟨_,h⟩
   ·have:=dZ hk (by decide)
    cases h;omega
   rcases aF h with ⟨hk,h⟩|⟨_,h⟩
   ·have:=dZ hk (by decide)
    cases h;omega
   rcases aF h with ⟨hk,h⟩|⟨_,h⟩
   ·cases hw:accW (pk ts a).text with
    | none=>rw[hw]at h;cases h
    | some p=>rw[hw]at h;exact hin _ _ _ _ _ _ h
   rcases aF h with ⟨hk,h⟩|⟨_,h⟩
   ·rcases aF h with ⟨_,h⟩|⟨_,h⟩
    ·exact hin _ _ _ _ _ _ h
    rcases aF h with ⟨_,h⟩|⟨_,h⟩
    ·obtain⟨_,a1,o1,h1,h⟩:=aG h
     obtain⟨y,a2,o2,h2,h⟩:=aG h;have:=i1 _ _ _ _ _ h2;cases h
     exact this
    ·cases h
   ·cases h
  ·rw[exM]at h
   obtain⟨y,a1,o1,h1,h⟩:=aG h;exact i3 _ _ _ _ _ _ _ (i1 _ _ _ _ _ h1) h
  ·rw[exM]at h
   rcases aF h with ⟨_,h⟩|⟨_,h⟩
   ·cases h;exact ha
   ·obtain⟨z,a1,o1,h1,h⟩:=aG h
    exact i3 _ _ _ _ _ _ _ (i2 _ _ _ _ _ _ h1) h
theorem FZ: ∀f,(∀a o,a≤ts.length→Er ts.length (exM ts f .op a o))∧(∀l a o,a≤ts.length→Er ts.length (exM ts f (.ex l) a o))∧(∀l x a o,a≤ts.length→Er ts.length (exM ts f (.lo l x) a o)):=by
 intro f
 induction f with
 | zero=>exact⟨(fun _ _ _ _ _ h=>by cases h),(fun _ _ _ _ _ _ h=>by cases h),(fun _ _ _ _ _ _ _ h=>by cases h)⟩
 | succ f ih =>
  obtain⟨i1,i2,i3⟩:=ih;obtain⟨l1,l2,l3⟩:=Rt (ts:=ts) f
  have hin: ∀q a o,a≤ts.length→Er ts.length (inn ts (exM ts f (.ex 1)) q a o):=fun q a o ha=>by
   refine Er.rb (Er.beg _ _ ha) fun _ a1 o1 h1=>Er.rb ?_ fun _ a2 o2 h2=>Er.rb (Er.en _ _ (l2 _ _ _ _ _ _ h2)) fun _ _ _ _=>Er.ret _ _ _
   have e1:=bO h1;have:=bI e1.1;exact i2 _ _ _ (by omega)
  refine⟨fun a o ha=> ?_,fun l a o ha=> ?_,fun l x a o ha=> ?_⟩
  ·rw[exM]
   refine Er.ite (fun _=>Er.ret _ _ _) fun _=>Er.ite (fun _=>Er.ret _ _ _) fun _=>Er.ite (fun hk=> ?_) fun _=>Er.ite (fun hk=> ?_) fun _=>sM ha
   ·have hl:=dZ hk (by decide)
    cases accW (pk ts a).text with
    | none=>exact sM ha
    | some p=>exact hin _ _ _ (by omega)
   ·refine Er.ite (fun _=>hin _ _ _ ha) fun _=>Er.ite (fun _=> ?_) fun _=>sM ha
    refine Er.rb (Er.beg _ _ ha) fun _ a1 o1 h1=>Er.rb ?_ fun _ _ _ _=>Er.ret _ _ _
    have e1:=bO h1;have:=bI e1.1;exact i1 _ _ (by omega)
  ·rw[exM]
   exact Er.rb (i1 _ _ ha) fun x b p h1=>i3 _ _ _ _ (l1 _ _ _ _ _ h1)
  ·rw[exM]
   refine Er.ite (fun _=>Er.ret _ _ _) fun hk=> ?_
   have hl:=CX (ts:=ts) (a:=a) (fun e=>hk (.inl e))
   exact Er.rb (i2 _ _ _ (by omega)) fun y b p h1=>i3 _ _ _ _ (l2 _ _ _ _ _ _ h1)
theorem PJ: ∀f,(∀a o,a≤ts.length→Er ts.length (tyM ts f .ty a o))∧(∀l a o,a≤ts.length→Er ts.length (tyM ts f (.fl l) a o)):=by
 intro f
 induction f with
 | zero=>exact⟨(fun _ _ _ _ _ h=>by cases h),(fun _ _ _ _ _ _ h=>by cases h)⟩
 | succ f ih =>
  obtain⟨i1,i2⟩:=ih;obtain⟨l1,l2⟩:=kA ts f;refine⟨fun a o ha=> ?_,fun l a o ha=> ?_⟩
  ·rw[tyM]
   refine Er.ite (fun _=> ?_) fun _=>Er.ite (fun _=>Er.ret _ _ _) fun _=>Er.ite (fun hk=> ?_) fun _=>Er.ite (fun hk=> ?_) fun _=>Er.ite (fun hk=> ?_) fun _=>sM ha
   ·cases intR (pk ts a).text with
    | none=>exact sM ha
    | some p=>exact Er.ret _ _ _
   ·have hl:=bI hk
    refine Er.rb (Er.beg _ _ ha) fun _ a1 o1 h1=>Er.rb (i1 _ _ ?_) fun _ _ _ _=>Er.ret _ _ _
    have:=bO h1;omega
   ·have hl:=bI hk
    refine Er.rb (Er.beg _ _ ha) fun _ a1 o1 h1=> ?_
    have e1:=bO h1;refine Er.rb (Er.tak _ _ (by omega)) fun _ a2 o2 h2=> ?_
    have e2:=eY h2;have e4:=dZ e2.1 (by decide)
    refine Er.rb (Er.exp _ _ (by omega)) fun _ a3 o3 h3=> ?_
    have e3:=fC h3;exact Er.rb (i1 _ _ (by omega)) fun _ _ _ _=>Er.ret _ _ _
   ·have hl:=bI hk
    refine Er.rb (Er.beg _ _ ha) fun _ a1 o1 h1=>i2 _ _ _ ?_
    have:=bO h1;omega
  ·rw[tyM]
   refine Er.ite (fun _=>Er.rb (Er.en _ _ ha) fun _ _ _ _=>Er.ret _ _ _) fun _=>Er.rb (Er.ite (fun _=>Er.exp _ _ ha) fun _=>Er.ret _ _ _) fun _ a1 o1 h1=> ?_
   have e1:a1≤ts.length:=by
    rcases aF h1 with ⟨_,h1⟩|⟨_,h1⟩
    ·have:=fC h1;omega
    ·cases h1;exact ha
   refine Er.rb (Er.tak _ _ e1) fun _ a2 o2 h2=> ?_
   have e2:=eY h2;have e4:=dZ e2.1 (by decide)
   refine Er.rb (Er.exp _ _ (by omega)) fun _ a3 o3 h3=> ?_
   have e3:=fC h3;exact Er.rb (i1 _ _ (by omega)) fun _ a5 o5 h5=>i2 _ _ _ (l1 _ _ _ _ _ h5).2.2
theorem PX: ∀f,(∀a o,a≤ts.length→Er ts.length (stM ts f .st a o))∧(∀l a o,a≤ts.length→Er ts.length (stM ts f (.li l) a o))∧(∀a o,a≤ts.length→Er ts.length (stM ts f .br a o))∧(∀c a o,a≤ts.length→Er ts.length (stM ts f (.ca c) a o)):=by
 intro f
 induction f with
 | zero=>exact⟨(fun _ _ _ _ _ h=>by cases h),(fun _ _ _ _ _ _ h=>by cases h),(fun _ _ _ _ _ h=>by cases h),(fun _ _ _ _ _ _ h=>by cases h)⟩
 | succ f ih =>
  obtain⟨i1,i2,i3,i4⟩:=ih;obtain⟨l1,l2,l3,l4⟩:=fN ts f;have ex: ∀l a o,a≤ts.length→Er ts.length (exM ts f (.ex l) a o):=(FZ f).2.1
  have exl: ∀ {l a o x b p},exM ts f (.ex l) a o=some (.ok x b p)→b≤ts.length:=fun h=>(Rt f).2.1 _ _ _ _ _ _ h
  refine⟨fun a o ha=> ?_,fun l a o ha=> ?_,fun a o ha=> ?_,fun c a o ha=> ?_⟩
  ·rw[stM]
   have sim: ∀k a o,a≤ts.length→Er ts.length (kS ts k a o):=fun k a o ha=>Er.rb (Er.exp _ _ ha) fun _ _ _ _=>Er.ret _ _ _
   have sto: ∀w a o,a≤ts.length→Er ts.length (kR ts f w a o):=fun w a o ha=>by
    refine Er.rb (Er.beg _ _ ha) fun _ a1 o1 h1=> ?_
    have e1:=bO h1;have:=bI e1.1;refine Er.rb (ex _ _ _ (by omega)) fun _ a2 o2 h2=>Er.rb (Er.exp _ _ (exl h2)) fun _ a3 o3 h3=> ?_
    have e3:=fC h3;refine Er.rb (ex _ _ _ (by omega)) fun _ a4 o4 h4=>Er.rb (Er.en _ _ (exl h4)) fun _ a5 o5 h5=> ?_
    have e5:=tM h5;exact Er.rb (Er.exp _ _ (by omega)) fun _ _ _ _=>Er.ret _ _ _
   have nam: ∀k a o,a≤ts.length→Er ts.length (rb (nmM ts a o) fun n a o=>rb (expM ts [59] a o) fun _ a o=>ret (oneS (.mk k 0 n [] [] [] [])) a o):=fun k a o ha=>by
    refine Er.rb (Er.nm _ ha) fun _ a1 o1 h1=> ?_
    have e1:=eQ h1;exact Er.rb (Er.exp _ _ (by omega)) fun _ _ _ _=>Er.ret _ _ _
   refine Er.ite (fun hk=> ?_) fun _=>Er.ite (fun hk=>nam _ _ _ (by have:=bI hk;omega)) fun _=>Er.ite (fun hk=>nam _ _ _ (by have:=bI hk;omega)) fun _ =>
    Er.ite (fun hk=>sto _ _ _ (by have:=bI hk;omega)) fun _=>Er.ite (fun hk=>sto _ _ _ (by have:=bI hk;omega)) fun _=>Er.ite (fun hk=>sto _ _ _ (by have:=bI hk;omega)) fun _=>Er.ite (fun hk=> ?_) fun _=>Er.ite (fun hk=> ?_) fun _=>Er.ite (fun hk=> ?_) fun _=>Er.ite (fun hk=> ?_) fun _=>Er.ite (fun hk=> ?_) fun _ =>
    Er.ite (fun hk=>sim _ _ _ (by have:=bI hk;omega)) fun _=>Er.ite (fun hk=>sim _ _ _ (by have:=bI hk;omega)) fun _=>Er.ite (fun hk=>sim _ _ _ (by have:=bI hk;omega)) fun _=>Er.ite (fun hk=>sim _ _ _ (by have:=bI hk;omega)) fun _=>sM ha
   ·have hl:=dZ hk (by decide)
    refine Er.rb (Er.nm _ ha) fun _ a1 o1 h1=> ?_
    have e1:=eQ h1;refine Er.ite (fun _=>Er.ret _ _ _) fun _=>Er.rb (Er.exp _ _ (by omega)) fun _ a2 o2 h2=> ?_
    have e2:=fC h2;refine Er.ite (fun hk=>Er.rb (Er.exp _ _ (by have:=bI hk;omega)) fun _ _ _ _=>Er.ret _ _ _) fun _=> ?_
    exact Er.rb (ex _ _ _ (by omega)) fun _ _ _ h3=>Er.rb (Er.exp _ _ (exl h3)) fun _ _ _ _=>Er.ret _ _ _
   ·have hl:=bI hk
    exact Er.rb (ex _ _ _ (by omega)) fun _ _ _ h3=>Er.rb (Er.exp _ _ (exl h3)) fun _ _ _ _=>Er.ret _ _ _
   ·have hl:=bI hk
    refine Er.rb (ex _ _ _ (by omega)) fun _ a1 o1 h1=>Er.rb (i3 _ _ (exl h1)) fun _ a2 o2 h2=>Er.ite (fun hk=> ?_) fun _=>Er.ret _ _ _
    have:=bI hk;exact Er.rb (i3 _ _ (by omega)) fun _ _ _ _=>Er.ret _ _ _
   ·have hl:=bI hk
    exact Er.rb (ex _ _ _ (by omega)) fun _ a1 o1 h1=>Er.rb (i3 _ _ (exl h1)) fun _ a2 o2 h2=>Er.ret _ _ _
   ·have hl:=bI hk
    exact Er.rb (i3 _ _ (by omega)) fun _ a2 o2 h2=>Er.ret _ _ _
   ·have hl:=bI hk
    refine Er.rb (ex _ _ _ (by omega)) fun _ a1 o1 h1=>Er.rb (Er.beg _ _ (exl h1)) fun _ a2 o2 h2=> ?_
    have e2:=bO h2;have:=bI e2.1;exact Er.rb (i4 _ _ _ (by omega)) fun _ _ _ _=>Er.ret _ _ _
  ·rw[stM]
   exact Er.ite (fun _=>Er.ret _ _ _) fun _=>Er.rb (i1 _ _ ha) fun _ a1 o1 h1=>i2 _ _ _ (l1 _ _ _ _ _ h1).2.2
  ·rw[stM]
   refine Er.rb (Er.beg _ _ ha) fun _ a1 o1 h1=> ?_
   have e1:=bO h1;have:=bI e1.1;refine Er.rb (i2 _ _ _ (by omega)) fun _ a2 o2 h2=> ?_
   have e2:=l2 _ _ _ _ _ _ h2;exact Er.rb (Er.en _ _ (by omega)) fun _ _ _ _=>Er.ret _ _ _
  ·rw[stM]
   refine Er.ite (fun hk=>Er.ite (fun hn=> ?_) fun _=>sM (by have:=bI hk;omega)) fun _=>Er.rb (Er.en _ _ ha) fun _ _ _ _=>Er.ret _ _ _
   have hl:=bI hk;have hl2:=dZ hn.1 (by decide)
   exact Er.rb (i3 _ _ (by omega)) fun _ a1 o1 h1=>i4 _ _ _ (l3 _ _ _ _ _ h1).2.2
theorem Er.acc{n:Nat}(s:Bs)(a o:Nat):Er n (accM ts s a o):=Er.ite (fun _=>Er.ret _ _ _) fun _=>Er.ret _ _ _
theorem IK{s:Bs}{a o:Nat}{w:Bool}{b p:Nat}(h:accM ts s a o=some (.ok w b p))(ha:a≤ts.length):b≤ts.length:=by
 rcases aF h with ⟨hk,h⟩|⟨_,h⟩
 ·have:=bI hk
  cases h;omega
 ·cases h;exact ha
theorem Tt{f a o:Nat}(ha:a≤ts.length):Er ts.length (vM ts f a o):=by
 refine Er.rb (Er.exp _ _ ha) fun _ a1 o1 h1=> ?_
 have e1:=fC h1
 refine Er.rb (Er.nm _ (by omega)) fun _ a2 o2 h2=> ?_
 have e2:=eQ h2
 refine Er.rb (Er.exp _ _ (by omega)) fun _ a3 o3 h3=> ?_
 have e3:=fC h3
 exact Er.rb ((PJ f).1 _ _ (by omega)) fun _ a4 o4 h4=>Er.rb (Er.exp _ _ ((kA ts f).1 _ _ _ _ _ h4).2.2) fun _ _ _ _=>Er.ret _ _ _
theorem MK{a o:Nat}(ha:a≤ts.length):Er ts.length (wC ts a o):=by
 refine Er.rb (Er.exp _ _ ha) fun _ a1 o1 h1=> ?_
 have e1:=fC h1
 refine Er.rb (Er.nm _ (by omega)) fun _ a2 o2 h2=> ?_
 have e2:=eQ h2
 refine Er.rb (Er.tak _ _ (by omega)) fun _ a3 o3 h3=> ?_
 have e3:=eY h3
 have q3:=dZ e3.1 (by decide)
 refine Er.rb (Er.acc _ _ _) fun _ a4 o4 h4=>Er.rb (Er.acc _ _ _) fun _ a5 o5 h5=> ?_
 have e5:=IK h5 (IK h4 (by omega))
 refine Er.rb (Er.exp _ _ e5) fun _ a6 o6 h6=> ?_
 have e6:=fC h6
 refine Er.rb (Er.tak _ _ (by omega)) fun _ a7 o7 h7=> ?_
 have e7:=eY h7
 have q7:=dZ e7.1 (by decide)
 exact Er.rb (Er.exp _ _ (by omega)) fun _ _ _ _=>Er.ret _ _ _
theorem JK: ∀(f:Nat) (l:List Va) (a o:Nat),a≤ts.length→Er ts.length (vasM ts f l a o):=by
 intro f
 induction f with
 | zero=>intro l a o _ b e h;cases h
 | succ f ih =>
  intro l a o ha;rw[vasM];exact Er.ite (fun hk=>Er.rb (Tt ha) fun _ a1 o1 h1=>ih _ _ _ (kX h1).2.2) fun _=>Er.ret _ _ _
theorem JJ: ∀(f:Nat) {l:List Va} {a o:Nat} {v:List Va} {b p:Nat},a≤ts.length→vasM ts f l a o=some (.ok v b p)→b≤ts.length:=by
 intro f
 induction f with
 | zero=>intro l a o v b p _ h;cases h
 | succ f ih =>
  intro l a o v b p ha h;rw[vasM]at h;rcases aF h with ⟨hk,h⟩|⟨hk,h⟩
  ·obtain⟨_,a1,o1,h1,h⟩:=aG h
   exact ih (kX h1).2.2 h
  ·cases h;exact ha
theorem LP{f a o:Nat}(ha:a≤ts.length):Er ts.length (funM ts f a o):=by
 refine Er.rb (Er.exp _ _ ha) fun _ a1 o1 h1=> ?_
 have e1:=fC h1
 refine Er.rb (Er.nm _ (by omega)) fun _ a2 o2 h2=> ?_
 have e2:=eQ h2
 refine Er.rb (Er.beg _ _ (by omega)) fun _ a3 o3 h3=> ?_
 have e3:=bO h3
 have q3:=bI e3.1
 refine Er.rb (JK _ _ _ _ (by omega)) fun _ a4 o4 h4=> ?_
 have e4:=JJ f (by omega) h4
 refine Er.rb ((PX f).2.1 _ _ _ e4) fun _ a5 o5 h5=> ?_
 have e5:=(fN ts f).2.1 _ _ _ _ _ _ h5
 exact Er.rb (Er.en _ _ (by omega)) fun _ _ _ _=>Er.ret _ _ _
theorem JP: ∀(f:Nat) (u:Un) (a o:Nat),a≤ts.length→Er ts.length (uniM ts f u a o):=by
 intro f
 induction f with
 | zero=>intro u a o _ b e h;cases h
 | succ f ih =>
  intro u a o ha;rw[uniM]
  exact Er.ite (fun _=>Er.ret _ _ _) fun _=>Er.ite (fun hk=>Er.rb (Tt ha) fun _ a1 o1 h1=>ih _ _ _ (kX h1).2.2) fun _=>Er.ite (fun hk=>Er.rb (MK ha) fun _ a1 o1 h1=>ih _ _ _ (xU h1).2.2) fun _ =>
   Er.ite (fun hk=>Er.rb (LP ha) fun _ a1 o1 h1=>ih _ _ _ (xQ h1).2.2) fun _=>sM ha
theorem Er.all{α:Type}{r:Option (Rs α)}(h:Er ts.length r)(hl: ∀x a o,r=some (.ok x a o)→a≤ts.length):Er ts.length (allM ts r):=Er.rb h fun x a o h1=>Er.ite (fun _=>sM (hl x a o h1)) fun _=>Er.ret _ _ _
end
end Go.Proofs.YtmbmmckagcdapaaGreatDoor
namespace Go.Proofs.YtmbmmckagcdapaaGreatDoor
def fu(ts:List Tk):Nat:=3*ts.length+10
def rdX{α:Type}(ts:List Tk)(z:α)(r:Option (Rs α)):α×Int×Nat:=match allM ts r with
 | some (.ok x _ _)=>(x,0,0)
 | some (.bad b e)=>(z,e,b)
 | none=>(z,0,0)
def ex0:Ex:= .mk 0 0 ByteArray.empty 0 []
def uz0:Un:=⟨[],[],[]⟩
def exR(ts:List Tk):Ex×Int×Nat:=rdX ts ex0 (exM ts (fu ts) (.ex 1) 0 0)
def unR(ts:List Tk):Un×Int×Nat:=rdX ts uz0 (uniM ts (fu ts) uz0 0 0)
def Yv(s:Bs):Ex×Int:=if(scnR s).2≠0 then(ex0,(scnR s).2)else if(exR (scnR s).1).2.1≠0 then(ex0,(exR (scnR s).1).2.1)else if esh (exR (scnR s).1).1 64=true then((exR (scnR s).1).1,0)else(ex0,20)
def uniP(s:Bs):Un×Int:=if(scnR s).2≠0 then(uz0,(scnR s).2)else if(unR (scnR s).1).2.1≠0 then(uz0,(unR (scnR s).1).2.1)else if unE (unR (scnR s).1).1≠0 then(uz0,unE (unR (scnR s).1).1)else((unR (scnR s).1).1,0)
def GN(s:Bs):(Int×Int)×Int:=if(scnR s).2=3 then(Jl (scnR s).1 ((scnR s).1.length-1),3)else if(scnR s).2≠0 then((0,0),(scnR s).2)
 else if(unR (scnR s).1).2.1≠0 then(Jl (scnR s).1 (unR (scnR s).1).2.2,(unR (scnR s).1).2.1)else((0,0),unE (unR (scnR s).1).1)
theorem xB(s:Bs):(∀t∈(scnR s).1,TkOk t)∧(scnR s).1.length≤65536∧((scnR s).2=0∨(scnR s).2=3∨(scnR s).2=6):=by
 unfold scnR
 by_cases h:65536<s.length
 ·rw[if_pos h];exact⟨by simp,by simp,.inr (.inr rfl)⟩
 ·rw[if_neg h,Hb]
  refine⟨KP (by omega),by have:=DL s;show(scan s).1.length≤_;omega,?_⟩
  show(if(scan s).2 then(0:Int)else 3)=0∨(if(scan s).2 then(0:Int)else 3)=3∨_
  cases (scan s).2
  ·exact .inr (.inl rfl)
  ·exact .inl rfl
theorem Hd{α:Type}{ts:List Tk}{z:α}{r:Option (Rs α)}(hs:Sm r)(he:Er ts.length r)(hl: ∀x a o,r=some (.ok x a o)→a≤ts.length) :
  (∃b e,allM ts r=some (.bad b e)∧rdX ts z r=(z,e,b)∧(e=3∨e=20)∧b≤ts.length)∨ ∃x b p,allM ts r=some (.ok x b p)∧rdX ts z r=(x,0,0)∧r=some (.ok x b p):=by
 obtain⟨q,hq⟩:=Sm.all (ts:=ts) hs
 cases q with
 | bad b e =>
  obtain⟨h1,h2⟩:=Er.all he hl b e hq;exact .inl ⟨b,e,hq,by unfold rdX;rw[hq],h1,h2⟩
 | ok x b p =>
  refine .inr ⟨x,b,p,hq,by unfold rdX;rw[hq],?_⟩
  obtain⟨y,a,o,h1,h2⟩:=aG hq;rcases aF h2 with ⟨_,h2⟩|⟨_,h2⟩
  ·cases h2
  ·cases h2;exact h1
theorem Yw(ts:List Tk):(∃b e,allM ts (exM ts (fu ts) (.ex 1) 0 0)=some (.bad b e)∧exR ts=(ex0,e,b)∧(e=3∨e=20)∧b≤ts.length)∨ ∃x b p,allM ts (exM ts (fu ts) (.ex 1) 0 0)=some (.ok x b p)∧exR ts=(x,0,0)∧exM ts (fu ts) (.ex 1) 0 0=some (.ok x b p) :=
 Hd ((Oc ts _).2.1 _ _ _ (by unfold fu;omega)) ((FZ _).2.1 _ _ _ (Nat.zero_le _)) fun x a o h=>(Rt _).2.1 _ _ _ _ _ _ h
theorem Tv{ts:List Tk}: ∀(f:Nat) {u:Un} {a o:Nat} {v:Un} {b p:Nat},a≤ts.length→uniM ts f u a o=some (.ok v b p)→b≤ts.length:=by
 intro f
 induction f with
 | zero=>intro u a o v b p _ h;cases h
 | succ f ih =>
  intro u a o v b p ha h;rw[uniM]at h;rcases aF h with ⟨hk,h⟩|⟨hk,h⟩
  ·cases h;exact ha
  rcases aF h with ⟨hk,h⟩|⟨hk,h⟩
  ·obtain⟨x,a1,o1,h1,h⟩:=aG h
   exact ih (kX h1).2.2 h
  rcases aF h with ⟨hk,h⟩|⟨hk,h⟩
  ·obtain⟨x,a1,o1,h1,h⟩:=aG h
   exact ih (xU h1).2.2 h
  rcases aF h with ⟨hk,h⟩|⟨hk,h⟩
  ·obtain⟨x,a1,o1,h1,h⟩:=aG h
   exact ih (xQ h1).2.2 h
  ·cases h
theorem uA(ts:List Tk):(∃b e,allM ts (uniM ts (fu ts) uz0 0 0)=some (.bad b e)∧unR ts=(uz0,e,b)∧(e=3∨e=20)∧b≤ts.length)∨ ∃x b p,allM ts (uniM ts (fu ts) uz0 0 0)=some (.ok x b p)∧unR ts=(x,0,0)∧uniM ts (fu ts) uz0 0 0=some (.ok x b p) :=
 Hd (Gq ts _ _ _ _ (by unfold fu;omega)) (JP _ _ _ _ (Nat.zero_le _)) fun x a o h=>Tv _ (Nat.zero_le _) h
theorem QT{α:Type}{ts:List Tk}{z x:α}{r:Nat→Option (Rs α)}{f0 F b o:Nat}(hm: ∀f,Le (r f) (r (f+1)))(hs:Sm (r f0))(h2: ∀g,F≤g→allM ts (r g)=some (.ok x b o)):rdX ts z (r f0)=(x,0,0):=by
 obtain⟨y,hy⟩:=Sm.all (ts:=ts) hs
 have hy2:=LQ (r:=fun f=>allM ts (r f)) (fun f=>Le.rb (hm f) fun _ _ _=>Le.refl _) hy h2
 unfold rdX
 rw[hy,hy2]
theorem KL{s:Bs}{ts0:List Tk}(hsz:s.length≤65536)(h:Sc s ts0):(scnR s).2=0∧(scnR s).1.map core=ts0.map core:=by
 obtain⟨h1,h2⟩:=Sc.scan h
 unfold scnR
 rw[if_neg (by omega),Hb]
 exact⟨by show(if(scan s).2 then(0:Int)else 3)=0;rw[h1];rfl,h2⟩
theorem OM(g:Nd→Bool): ∀(t:Nd) (lp:Bool),(∀q∈allT t lp,g q.1=true)→Nd.para (fun t a b c=>g t&&(a.all id&&(b.all id&&c.all fun r=>r.all id))) t=true:=by
 refine Nd.induct fun k w n e l el cs h1 h2 h3=> ?_
 intro lp h
 rw[Nd.para_mk]
 simp only[List.all_map,Function.comp_def,id_eq,Bool.and_eq_true,List.all_eq_true]
 rw[Bq]at h
 have hs: ∀c∈subs (.mk k w n e l el cs),∀x∈c,∀q∈allT x (inL (.mk k w n e l el cs) lp),g q.1=true:=fun c hc x hx q hq =>
  h q (List.mem_cons_of_mem _ (List.mem_flatMap.2 ⟨c,hc,List.mem_flatMap.2 ⟨x,hx,hq⟩⟩))
 refine⟨h (_,lp) (List.mem_cons_self ..),fun x hx=>h1 x hx _ (hs l (by simp[subs,Nd.l]) x hx),fun x hx=>h2 x hx _ (hs el (by simp[subs,Nd.el]) x hx),fun c hc x hx=>h3 c hc x hx _ (hs c (by simp[subs,Nd.cs,hc]) x hx)⟩
theorem RD{t:Nd}{lp:Bool}(h: ∀q∈allT t lp,stT q.1=true):okT t=true:=OM stT t lp h
theorem SH{t:Nd}{lp:Bool}(p:Ex→Bool)(h: ∀q∈allT t lp,q.1.e.all p=true):exA p t=true:=OM (fun t=>t.e.all p) t lp h
theorem Wq{u:Un}(h:UnOk u)(hl:(uniT u).length≤65536): ∃v,unQ v=unQ u∧uniP (uniT u)=(if unE v≠0 then uz0 else v,unE v):=by
 have hsc:=PZ h Sc.nil
 rw[List.append_nil,List.append_nil]at hsc
 obtain⟨h0,h1⟩:=KL hl hsc
 obtain⟨g,hg,F,hF⟩:=QQ h rfl
 refine⟨g,hg,?_⟩
 have e:unR (scnR (uniT u)).1=(g,0,0):=QT (r:=fun f=>uniM (scnR (uniT _)).1 f uz0 0 0) (Wr _ · _ _ _) (Gq _ _ _ _ _ (by unfold fu;omega)) (fun f hf=>by rw[TB h1,SU h1];exact hF f hf)
 unfold uniP
 rw[if_neg (by rw[h0];decide),e,if_neg (show ¬((0:Int)≠0) by decide)]
 by_cases hu:unE g=0
 ·rw[if_neg (by simp[hu]),if_neg (by simp[hu]),hu]
 ·rw[if_pos hu,if_pos hu]
end Go.Proofs.YtmbmmckagcdapaaGreatDoor
namespace Go.Proofs.YtmbmmckagcdapaaGreatDoor
open Go.RowKit
def kI:=A7 @iL @fM @jV @gT @lW @iJ @dP
def iN:=A4 aX bC @aE @aC
theorem HL: ∀(e:Ex),fitE e→ ∀k:Int, -65536≤k→k≤65536→PC Tryz.prog 60 [exV e,(.im (.int .i64 (k)))] (.im (.bool (esh e k))):=by
 intro e
 induction e using Ex.induct with
 | h o n s w l ih =>
 intro hf k hk1 hk2
 obtain⟨hl,hfl⟩:=oT hf
 have hw:=dL (n:=k-1) (by omega)
 by_cases h1:k<1
 ·have:esh (.mk o n s w l) k=false:=by rw[zP];simp;intro h;omega
  rw[this];refine PC.enter 22 Tryz.func60 rfl (by decide) rfl rfl (s:=[(0,exV (.mk o n s w l)),(1,(.im (.int .i64 (k))))]) (by rfl) ?_
  rw[gU];refine wG kI h1 ?_;refine aI (rs:=[.tmp 4]) rfl (by first|exact .inl rfl|exact .inr rfl) (finG kI) ?_
  all_goals exact wkG iN
 refine PC.enter 22 Tryz.func60 rfl (by decide) rfl rfl (s:=[(0,exV (.mk o n s w l)),(1,(.im (.int .i64 (k))))]) (by rfl) ?_
 refine wG kI (AI h1 @gU) ?_
 refine aW ?_
 refine ALp.cutP 0 [(1,(.im (.int .i64 (k)))),(4,(.im (.bool (false)))),(10,.sl (l.map exV) .ro),(11,(.im (.int .i64 (l.length)))),(12,(.im (.int .i64 ((((0:Nat)):Int)))))] [] iN ?_
 refine ALp.upto l.length (AllTo (fun t=>esh t (k-1)) l) (fun m=>⟨dn 22 [(1,(.im (.int .i64 (k)))),(4,(.im (.bool (false)))),(10,.sl (l.map exV) .ro),(11,(.im (.int .i64 (l.length)))),(12,(.im (.int .i64 ((((m:Nat)):Int)))))],ofl []⟩) ?_ 0 (Nat.zero_le _) (AllTo.zero _ _)
 intro m hm hI hnext
 by_cases hlt:m<l.length
 ·have hlt':(m:Int)<(l.length:Int):=by omega
  have hm1:=aT hlt (by omega)
  have hg:=bJ hlt;have hc:=ih l[m] (List.getElem_mem hlt) (hfl _ (List.getElem_mem hlt)) (k-1) (by omega) (by omega)
  cases b:esh l[m] (k-1)with
  | false =>
   rw[b]at hc;have hr:esh (.mk o n s w l) k=false:=by rw[zP,nR hlt b,Bool.and_false]
   rw[hr];refine wG kI (A11 hlt' hg @fR @eD @fP @fO @fQ @eE @List.getElem?_map.{0,0} @Int.natCast_nonneg hw) ?_;refine AR.callP hc @bK iN ?_;refine goG kI TI ?_;refine wG kI TI ?_;refine aI (rs:=[.tmp 4]) rfl (by first|exact .inl rfl|exact .inr rfl) (finG kI) ?_
   all_goals exact wkG iN
  | true =>
   rw[b]at hc;refine wG kI (A11 hlt' hg @fR @eD @fP @fO @fQ @eE @List.getElem?_map.{0,0} @Int.natCast_nonneg hw) ?_;refine AR.callP hc @bK iN ?_;refine goG kI TI ?_;refine wG kI hm1 ?_;refine ALp.cutP 0 [(1,(.im (.int .i64 (k)))),(4,(.im (.bool (false)))),(10,.sl (l.map exV) .ro),(11,(.im (.int .i64 (l.length)))),(12,(.im (.int .i64 ((((m+1:Nat)):Int)))))] [] iN ?_;exact hnext (m+1) (by omega) (by omega) (hI.succ hlt b)
 obtain rfl:m=l.length:=by omega
 clear hnext
 have hall:l.all (fun t=>esh t (k-1))=true:=List.all_eq_true.2 fun x hx=>by
  obtain⟨j,hj,rfl⟩:=List.getElem_of_mem hx;exact hI j hj hj
 have hr:esh (.mk o n s w l) k=true:=by rw[zP,hall,Bool.and_true];exact decide_eq_true (by omega)
 rw[hr]
 have hn: ¬(l.length:Int)<(l.length:Int):=by omega
 refine wG kI hn ?_
 refine aI (rs:=[.tmp 4]) rfl (by first|exact .inl rfl|exact .inr rfl) (finG kI) ?_
 all_goals exact wkG iN
theorem t3:(3:Int)≠0:=by decide
theorem SS{e:Int}(h:e=3∨e=20):e≠0:=by omega
def eB:=A9 @Ch @fM @jV @pE @vE @yI @By @dP @rY
theorem Sv(s:Bs)(hs:s.length≤4194304):PC Tryz.prog 22 [.im (.string ⟨(s).toArray⟩)] (.tu [exV (Yv s).1,(.im (.int .i64 ((Yv s).2)))]):=by
 have h1:=Ss s hs
 obtain⟨hok,hts,hes⟩:=xB s
 unfold Yv
 generalize scnR s=q at h1 hok hts hes
 obtain⟨ts,e⟩:=q
 simp only at h1 hok hts hes ⊢
 by_cases he:e=0
 case neg =>
  rw[if_pos he];refine PC.enter 33 Tryz.func22 rfl (by decide) rfl rfl (s:=[(0,.im (.string ⟨(s).toArray⟩))]) (by rfl) ?_
  refine wG eB TI ?_;refine AR.callP h1 TI iN ?_;refine goG eB TI ?_;refine wG eB he ?_;refine aI (rs:=[.cell 2 46,.tmp 3]) rfl (by first|exact .inl rfl|exact .inr rfl) (finG eB) ?_
  all_goals exact wkG iN
 subst he
 rw[if_neg (by decide)]
 rcases Yw ts with ⟨b,e,hz,hx,he,hb⟩|⟨x,b,p,hz,hx,hr⟩
 ·have h2:=Ic (by omega) _ _ hz
  change PC _ _ _ (.tu [exV (.mk 0 0 ByteArray.empty 0 []),.ag [(.im (.int .i64 ((b:Nat)))),(.im (.int .i64 (e)))]])at h2;have he: ¬e=0:=SS he;rw[hx,if_pos he];refine PC.enter 33 Tryz.func22 rfl (by decide) rfl rfl (s:=[(0,.im (.string ⟨(s).toArray⟩))]) (by rfl) ?_
  refine wG eB TI ?_;refine AR.callP h1 TI iN ?_;refine goG eB TI ?_;refine wG eB TI ?_;refine AR.callP h2 TI iN ?_;refine goG eB BN01 ?_;refine wdG eB he ?_;refine aI (rs:=[.cell 2 46,.tmp 3]) rfl (by first|exact .inl rfl|exact .inr rfl) (finG eB) ?_
  all_goals exact wkG iN
 have h2:=Ic (by omega) _ _ hz
 change PC _ _ _ (.tu [exV x,.ag [(.im (.int .i64 (0))),(.im (.int .i64 (0)))]])at h2
 have hf:=(Vb hok _).2.1 _ _ _ _ _ _ hr
 have h3:=HL x hf 64 (by decide) (by decide)
 rw[hx,if_neg (fun h=>h rfl)]
 simp only
 cases hl:esh x 64 with
 | true =>
  rw[hl]at h3;rw[if_pos rfl];refine PC.enter 33 Tryz.func22 rfl (by decide) rfl rfl (s:=[(0,.im (.string ⟨(s).toArray⟩))]) (by rfl) ?_
  refine wG eB TI ?_;refine AR.callP h1 TI iN ?_;refine goG eB TI ?_;refine wG eB TI ?_;refine AR.callP h2 TI iN ?_;refine goG eB BN01 ?_;refine wG eB BN01 ?_;refine AR.callP h3 @bK iN ?_;refine goG eB TI ?_;refine wG eB TI ?_;refine aI (rs:=[.cell 2 46,.tmp 3]) rfl (by first|exact .inl rfl|exact .inr rfl) (finG eB) ?_
  rw[bK x]
  all_goals exact wkG iN
 | false =>
  rw[hl]at h3;rw[if_neg (by decide)]
  refine PC.enter 33 Tryz.func22 rfl (by decide) rfl rfl (s:=[(0,.im (.string ⟨(s).toArray⟩))]) (by rfl) ?_
  refine wG eB TI ?_;refine AR.callP h1 TI iN ?_;refine goG eB TI ?_;refine wG eB TI ?_;refine AR.callP h2 TI iN ?_;refine goG eB BN01 ?_;refine wG eB BN01 ?_;refine AR.callP h3 @bK iN ?_;refine goG eB TI ?_;refine wG eB TI ?_;refine aI (rs:=[.cell 2 46,.tmp 3]) rfl (by first|exact .inl rfl|exact .inr rfl) (finG eB) ?_
  all_goals exact wkG iN
theorem xY(u:Un)(hu:fitU u):PC Tryz.prog 15 [.ag [.sl (u.globals.map vaV) .ro,.sl (u.data.map scV) .ro,.sl (u.funcs.map fnV) .ro]] (.im (.int .i64 (unE u))):=tO u hu
def gA:=A10 aX bC @aO @aN fX eJ nT jX aJ sX
def eC:=A9 @pF @Ch @sK @pE @vE @We @nH @By @rY
theorem Kn(s:Bs)(hs:s.length≤4194304):PC Tryz.prog 13 [.im (.string ⟨(s).toArray⟩)] (.tu [unV (uniP s).1,(.im (.int .i64 ((uniP s).2)))]):=by
 have h1:=Ss s hs
 obtain⟨hok,hts,hes⟩:=xB s
 unfold uniP
 generalize scnR s=q at h1 hok hts hes
 obtain⟨ts,e⟩:=q
 simp only at h1 hok hts hes ⊢
 by_cases he:e=0
 case neg =>
  rw[if_pos he];refine PC.enter 36 Tryz.func13 rfl (by decide) rfl rfl (s:=[(0,.im (.string ⟨(s).toArray⟩))]) (by rfl) ?_
  refine wG eC TI ?_;refine AR.callP h1 TI gA ?_;refine goG eC TI ?_;refine wG eC he ?_;refine aI (rs:=[.cell 2 27,.tmp 3]) rfl (by first|exact .inl rfl|exact .inr rfl) (finG eC) ?_
  all_goals exact wkG gA
 subst he
 rw[if_neg (by decide)]
 rcases uA ts with ⟨b,e,hz,hx,he,hb⟩|⟨x,b,p,hz,hx,hr⟩
 ·have h2:=uT (by omega) hok _ _ hz
  change PC _ _ _ (.tu [unV ⟨[],[],[]⟩,.ag [(.im (.int .i64 ((b:Nat)))),(.im (.int .i64 (e)))]])at h2;have he: ¬e=0:=SS he;rw[hx,if_pos he];refine PC.enter 36 Tryz.func13 rfl (by decide) rfl rfl (s:=[(0,.im (.string ⟨(s).toArray⟩))]) (by rfl) ?_
  refine wG eC TI ?_;refine AR.callP h1 TI gA ?_;refine goG eC TI ?_;refine wG eC TI ?_;refine AR.callP h2 TI gA ?_;refine goG eC UNT ?_;refine wdG eC he ?_;refine aI (rs:=[.cell 2 27,.tmp 3]) rfl (by first|exact .inl rfl|exact .inr rfl) (finG eC) ?_
  all_goals exact wkG gA
 have h2:=uT (by omega) hok _ _ hz
 change PC _ _ _ (.tu [unV x,.ag [(.im (.int .i64 (0))),(.im (.int .i64 (0)))]])at h2
 have h3:=xY x (yQ hok hts hr)
 rw[hx,if_neg (fun h=>h rfl)]
 simp only
 by_cases hu:unE x=0
 case neg =>
  rw[if_pos hu];refine PC.enter 36 Tryz.func13 rfl (by decide) rfl rfl (s:=[(0,.im (.string ⟨(s).toArray⟩))]) (by rfl) ?_
  refine wG eC TI ?_;refine AR.callP h1 TI gA ?_;refine goG eC TI ?_;refine wG eC TI ?_;refine AR.callP h2 TI gA ?_;refine goG eC UNT ?_;refine wG eC UNT ?_;refine AR.callP h3 TI gA ?_;refine goG eC TI ?_;refine wG eC hu ?_;refine aI (rs:=[.cell 2 27,.tmp 3]) rfl (by first|exact .inl rfl|exact .inr rfl) (finG eC) ?_
  all_goals exact wkG gA
 rw[if_neg (fun h=>h hu)]
 rw[hu]at h3
 refine PC.enter 36 Tryz.func13 rfl (by decide) rfl rfl (s:=[(0,.im (.string ⟨(s).toArray⟩))]) (by rfl) ?_
 refine wG eC TI ?_
 refine AR.callP h1 TI gA ?_
 refine goG eC TI ?_
 refine wG eC TI ?_
 refine AR.callP h2 TI gA ?_
 refine goG eC UNT ?_
 refine wG eC UNT ?_
 refine AR.callP h3 TI gA ?_
 refine goG eC TI ?_
 refine wG eC TI ?_
 refine aI (rs:=[.cell 2 27,.tmp 3]) rfl (by first|exact .inl rfl|exact .inr rfl) (finG eC) ?_
 rw[kY x]
 all_goals exact wkG gA
def eA:=A13 @pF @Ch @cN @sK @pE @pC @BA @vE @gR @nH @By @cM @rY
theorem AT(s:Bs)(hs:s.length≤4194304):PC Tryz.prog 25 [.im (.string ⟨(s).toArray⟩)] (.tu [(.im (.int .i64 ((GN s).1.1))),(.im (.int .i64 ((GN s).1.2))),(.im (.int .i64 ((GN s).2)))]):=by
 have h1:=Ss s hs
 obtain⟨hok,hts,hes⟩:=xB s
 unfold GN
 generalize scnR s=q at h1 hok hts hes
 obtain⟨ts,e⟩:=q
 simp only at h1 hok hts hes ⊢
 by_cases he3:e=3
 ·subst he3
  rw[if_pos rfl];have hw:=dL (n:=(ts.length:Int)-1) (by omega)
  have h2:=Fa ts ((ts.length:Int)-1) (by omega)
  refine PC.enter 55 Tryz.func25 rfl (by decide) rfl rfl (s:=[(0,.im (.string ⟨(s).toArray⟩))]) (by rfl) ?_
  refine wG eA TI ?_;refine AR.callP h1 TI gA ?_;refine goG eA TI ?_;refine wG eA (AI hw @List.length_map.{0,0}) ?_;refine AR.callP h2 TI gA ?_;refine goG eA TI ?_;refine wG eA TI ?_;refine aI (rs:=[.tmp 2,.tmp 3,.tmp 4]) rfl (by first|exact .inl rfl|exact .inr rfl) (finG eA) ?_
  all_goals exact wkG gA
 rw[if_neg he3]
 by_cases he:e=0
 case neg =>
  rw[if_pos he];refine PC.enter 55 Tryz.func25 rfl (by decide) rfl rfl (s:=[(0,.im (.string ⟨(s).toArray⟩))]) (by rfl) ?_
  refine wG eA TI ?_;refine AR.callP h1 TI gA ?_;refine goG eA TI ?_;refine wG eA (AI he he3) ?_;refine aI (rs:=[.tmp 2,.tmp 3,.tmp 4]) rfl (by first|exact .inl rfl|exact .inr rfl) (finG eA) ?_
  all_goals exact wkG gA
 subst he
 rw[if_neg (by decide)]
 rcases uA ts with ⟨b,e,hz,hx,he,hb⟩|⟨x,b,p,hz,hx,hr⟩
 ·have h2:=uT (by omega) hok _ _ hz
  change PC _ _ _ (.tu [unV ⟨[],[],[]⟩,.ag [(.im (.int .i64 ((b:Nat)))),(.im (.int .i64 (e)))]])at h2;have he: ¬e=0:=SS he;have h3:=Fa ts (b:Int) (by omega)
  rw[hx,if_pos he];refine PC.enter 55 Tryz.func25 rfl (by decide) rfl rfl (s:=[(0,.im (.string ⟨(s).toArray⟩))]) (by rfl) ?_
  refine wG eA TI ?_;refine AR.callP h1 TI gA ?_;refine goG eA TI ?_;refine wG eA TI ?_;refine AR.callP h2 TI gA ?_;refine goG eA UNT ?_;refine wG eA he ?_;refine AR.callP h3 TI gA ?_;refine goG eA TI ?_;refine wdG eA TI ?_;refine aI (rs:=[.tmp 2,.tmp 3,.tmp 4]) rfl (by first|exact .inl rfl|exact .inr rfl) (finG eA) ?_
  all_goals exact wkG gA
 have h2:=uT (by omega) hok _ _ hz
 change PC _ _ _ (.tu [unV x,.ag [(.im (.int .i64 (0))),(.im (.int .i64 (0)))]])at h2
 have h3:=xY x (yQ hok hts hr)
 rw[hx,if_neg (fun h=>h rfl)]
 simp only
 refine PC.enter 55 Tryz.func25 rfl (by decide) rfl rfl (s:=[(0,.im (.string ⟨(s).toArray⟩))]) (by rfl) ?_
 refine wG eA TI ?_
 refine AR.callP h1 TI gA ?_
 refine goG eA TI ?_
 refine wG eA TI ?_
 refine AR.callP h2 TI gA ?_
 refine goG eA UNT ?_
 refine wG eA UNT ?_
 refine AR.callP h3 TI gA ?_
 refine goG eA TI ?_
 refine wG eA TI ?_
 refine aI (rs:=[.tmp 2,.tmp 3,.tmp 4]) rfl (by first|exact .inl rfl|exact .inr rfl) (finG eA) ?_
 all_goals exact wkG gA
def hU:=A16 @oK @jB @cN @kL @iL @fM @dN @kD @lK @pD @gT @iE @wP @mD @iV (A10 @mC @mB @mA @oI @iA @cM @jH @iJ @dP @cY)
def pS:=A8 @aC @aN @aE @aO aV aJ aK aZ
def SamL(l:List Nd):Prop:=PC Tryz.prog 53 [.sl (l.map ndV) .ro,.sl (l.map ndV) .ro] (.im (.bool (true)))
theorem HG(l:List Nd)(hl:lN l)(h: ∀t∈l,SamL t.l∧SamL t.el∧ ∀c∈t.cs,SamL c):SamL l:=by
 show PC _ _ _ _
 obtain⟨hn,hf⟩:=hl
 refine PC.enter 120 Tryz.func53 rfl (by decide) rfl rfl (s:=[(0,.sl (l.map ndV) .ro),(1,.sl (l.map ndV) .ro)]) (by rfl) ?_
 refine wG hU @List.length_map.{0,0} ?_
 refine aW ?_
 refine ALp.cutP 0 [(0,.sl (l.map ndV) .ro),(1,.sl (l.map ndV) .ro),(5,(.im (.int .i64 ((((0:Nat)):Int)))))] [] pS ?_
 refine ALp.upto l.length (fun _=>True) (fun m=>⟨dn 120 [(0,.sl (l.map ndV) .ro),(1,.sl (l.map ndV) .ro),(5,(.im (.int .i64 ((((m:Nat)):Int)))))],ofl []⟩) ?_ 0 (Nat.zero_le _) trivial
 intro m hm hI hnext
 by_cases hlt:m<l.length
 ·have hlt':(m:Int)<(l.length:Int):=by omega
  have hg:=bJ hlt;have hm1:=aT hlt (by omega)
  obtain⟨h1,h2,h3⟩:=h l[m] (List.getElem_mem hlt);unfold SamL at h1 h2;have hf:=dR (hf _ (List.getElem_mem hlt));generalize l[m]=t at hg h1 h2 h3 hf;obtain⟨_,hnm,⟨hel,hex⟩,_,_,hcl,hcx⟩:=hf;refine wG hU (A3 hlt' hg BN09) ?_;refine wdG hU BN09 ?_;refine AR.callP h1 TI pS ?_;refine goG hU BN09 ?_;refine AR.callP h2 TI pS ?_;refine goG hU BN09 ?_;refine wdG hU BN09 ?_;refine aW ?_;refine ALp.cutP 2 [(0,.sl (l.map ndV) .ro),(1,.sl (l.map ndV) .ro),(5,(.im (.int .i64 ((m:Int))))),(6,.pt 0 0),(7,.pt 1 0),(8,(.im (.int .i64 ((((0:Nat)):Int)))))] [.box [.im (.int .i64 (t).kind),.im (.int .i64 (t).width),.im (.string (t).name),.sl ((t).e.map exV) .ro,.sl ((t).l.map ndV) .ro,.sl ((t).el.map ndV) .ro,.sl ((t).cs.map nlV) .ro],.box [.im (.int .i64 (t).kind),.im (.int .i64 (t).width),.im (.string (t).name),.sl ((t).e.map exV) .ro,.sl ((t).l.map ndV) .ro,.sl ((t).el.map ndV) .ro,.sl ((t).cs.map nlV) .ro]] pS ?_;refine ALp.upto t.e.length (fun _=>True) (fun j=>⟨dn 120 [(0,.sl (l.map ndV) .ro),(1,.sl (l.map ndV) .ro),(5,(.im (.int .i64 ((m:Int))))),(6,.pt 0 0),(7,.pt 1 0),(8,(.im (.int .i64 ((((j:Nat)):Int)))))],ofl [.box [.im (.int .i64 (t).kind),.im (.int .i64 (t).width),.im (.string (t).name),.sl ((t).e.map exV) .ro,.sl ((t).l.map ndV) .ro,.sl ((t).el.map ndV) .ro,.sl ((t).cs.map nlV) .ro],.box [.im (.int .i64 (t).kind),.im (.int .i64 (t).width),.im (.string (t).name),.sl ((t).e.map exV) .ro,.sl ((t).l.map ndV) .ro,.sl ((t).el.map ndV) .ro,.sl ((t).cs.map nlV) .ro]]⟩) ?_ 0 (Nat.zero_le _) trivial
  intro j hj hJ hnext2
  by_cases hlj:j<t.e.length
  ·have hlj':(j:Int)<(t.e.length:Int):=by omega
   have hgj:=bJ hlj;have hj1:=aT hlj (by omega)
   have hc:=Su t.e[j] (hex _ (List.getElem_mem hlj)) t.e[j] (hex _ (List.getElem_mem hlj));rw[Xz]at hc;refine wdG hU (A3 hlj' hgj EX) ?_;refine AR.callP hc @bK pS ?_;refine goG hU TI ?_;refine wdG hU hj1 ?_;refine ALp.cutP 2 [(0,.sl (l.map ndV) .ro),(1,.sl (l.map ndV) .ro),(5,(.im (.int .i64 ((m:Int))))),(6,.pt 0 0),(7,.pt 1 0),(8,(.im (.int .i64 ((((j+1:Nat)):Int)))))] [.box [.im (.int .i64 (t).kind),.im (.int .i64 (t).width),.im (.string (t).name),.sl ((t).e.map exV) .ro,.sl ((t).l.map ndV) .ro,.sl ((t).el.map ndV) .ro,.sl ((t).cs.map nlV) .ro],.box [.im (.int .i64 (t).kind),.im (.int .i64 (t).width),.im (.string (t).name),.sl ((t).e.map exV) .ro,.sl ((t).l.map ndV) .ro,.sl ((t).el.map ndV) .ro,.sl ((t).cs.map nlV) .ro]] pS ?_;exact hnext2 (j+1) (by omega) (by omega) trivial
  obtain rfl:j=t.e.length:=by omega
  clear hnext2 hJ;refine whG hU @Int.lt_irrefl ?_;refine Blk'.here (Thn.n ?_);refine wG hU TI ?_;refine aW ?_;refine ALp.cutP 2 [(0,.sl (l.map ndV) .ro),(1,.sl (l.map ndV) .ro),(5,(.im (.int .i64 ((m:Int))))),(6,.pt 0 0),(7,.pt 1 0),(9,(.im (.int .i64 ((((0:Nat)):Int)))))] [.box [.im (.int .i64 (t).kind),.im (.int .i64 (t).width),.im (.string (t).name),.sl ((t).e.map exV) .ro,.sl ((t).l.map ndV) .ro,.sl ((t).el.map ndV) .ro,.sl ((t).cs.map nlV) .ro],.box [.im (.int .i64 (t).kind),.im (.int .i64 (t).width),.im (.string (t).name),.sl ((t).e.map exV) .ro,.sl ((t).l.map ndV) .ro,.sl ((t).el.map ndV) .ro,.sl ((t).cs.map nlV) .ro]] pS ?_;refine ALp.upto t.cs.length (fun _=>True) (fun j=>⟨dn 120 [(0,.sl (l.map ndV) .ro),(1,.sl (l.map ndV) .ro),(5,(.im (.int .i64 ((m:Int))))),(6,.pt 0 0),(7,.pt 1 0),(9,(.im (.int .i64 ((((j:Nat)):Int)))))],ofl [.box [.im (.int .i64 (t).kind),.im (.int .i64 (t).width),.im (.string (t).name),.sl ((t).e.map exV) .ro,.sl ((t).l.map ndV) .ro,.sl ((t).el.map ndV) .ro,.sl ((t).cs.map nlV) .ro],.box [.im (.int .i64 (t).kind),.im (.int .i64 (t).width),.im (.string (t).name),.sl ((t).e.map exV) .ro,.sl ((t).l.map ndV) .ro,.sl ((t).el.map ndV) .ro,.sl ((t).cs.map nlV) .ro]]⟩) ?_ 0 (Nat.zero_le _) trivial
  intro j hj hJ hnext2
  by_cases hlj:j<t.cs.length
  ·have hlj':(j:Int)<(t.cs.length:Int):=by omega
   have hgj:=bJ hlj;have hj1:=aT hlj (by omega)
   have hc:=h3 t.cs[j] (List.getElem_mem hlj);unfold SamL at hc;refine wdG hU (A3 hlj' hgj BN09) ?_;refine AR.callP hc TI pS ?_;refine goG hU TI ?_;refine wdG hU hj1 ?_;refine ALp.cutP 2 [(0,.sl (l.map ndV) .ro),(1,.sl (l.map ndV) .ro),(5,(.im (.int .i64 ((m:Int))))),(6,.pt 0 0),(7,.pt 1 0),(9,(.im (.int .i64 ((((j+1:Nat)):Int)))))] [.box [.im (.int .i64 (t).kind),.im (.int .i64 (t).width),.im (.string (t).name),.sl ((t).e.map exV) .ro,.sl ((t).l.map ndV) .ro,.sl ((t).el.map ndV) .ro,.sl ((t).cs.map nlV) .ro],.box [.im (.int .i64 (t).kind),.im (.int .i64 (t).width),.im (.string (t).name),.sl ((t).e.map exV) .ro,.sl ((t).l.map ndV) .ro,.sl ((t).el.map ndV) .ro,.sl ((t).cs.map nlV) .ro]] pS ?_;exact hnext2 (j+1) (by omega) (by omega) trivial
  obtain rfl:j=t.cs.length:=by omega
  clear hnext2 hJ;refine whG hU @Int.lt_irrefl ?_;refine Blk'.here (Blk'.n (Thn.n ?_));refine wG hU hm1 ?_;refine ALp.cutP 0 [(0,.sl (l.map ndV) .ro),(1,.sl (l.map ndV) .ro),(5,(.im (.int .i64 ((((m+1:Nat)):Int)))))] [] pS ?_;exact hnext (m+1) (by omega) (by omega) trivial
 obtain rfl:m=l.length:=by omega
 clear hnext hI
 refine wG hU @Int.lt_irrefl ?_
 exact aD
theorem MU: ∀l,lN l→SamL l:=by
 refine Nd.listInduct fun l ih=> ?_
 intro hl
 refine HG l hl fun t ht=> ?_
 have hf:=dR (hl.2 t ht)
 obtain⟨i1,i2,i3⟩:=ih t ht
 exact⟨i1 hf.2.2.2.1,i2 hf.2.2.2.2.1,fun c hc=>i3 c hc (hf.2.2.2.2.2.2 c hc)⟩
def Bu:=A9 @lM @kL @dN @Ag @qO @vG @jT @jH @cY
def wL:=A5 nT jX eJ @aN aJ
theorem MV(f:Fun)(hf:fitFn f):PC Tryz.prog 20 [fnV f,fnV f] (.im (.bool (true))):=by
 have h1:=Oy f.vars hf.vn (Nat.le_trans hf.vl (by decide))
 have h2:=MU f.body hf.bd
 unfold SamL at h2
 rw[tJ]
 refine PC.enter 24 Tryz.func20 rfl (by decide) rfl rfl (s:=[(0,.ag [.im (.string f.name),.sl (f.vars.map vaV) .ro,.sl (f.body.map ndV) .ro]),(1,.ag [.im (.string f.name),.sl (f.vars.map vaV) .ro,.sl (f.body.map ndV) .ro])]) (by rfl) ?_
 refine wdG Bu TI ?_
 refine AR.callP h1 TI wL ?_
 refine goG Bu TI ?_
 refine AR.callP h2 TI wL ?_
 refine goG Bu TI ?_
 refine wG Bu TI ?_
 exact aD
def pB:=A12 @lM @Ci @vL @Cg @vH @lY @qP @lX @jT @yH @sB @sA
theorem MT(u:Un)(hu:fitU u)(hd: ∀s∈u.data,s.data.length≤4194304):PC Tryz.prog 16 [unV u,unV u] (.im (.bool (true))):=by
 have h1:=Oy u.globals hu.gn (Nat.le_trans hu.gl (by decide))
 have h2:=HF u.data hd hu.dl
 have hfl:=hu.fl
 refine PC.enter 48 Tryz.func16 rfl (by decide) rfl rfl (s:=[(0,unV u),(1,unV u)]) (by rfl) ?_
 simp only[kY]
 refine wdG pB TI ?_
 refine AR.callP h1 TI wL ?_
 refine goG pB TI ?_
 refine AR.callP h2 TI wL ?_
 refine goG pB TI ?_
 refine wdG pB TI ?_
 refine aW ?_
 refine ALp.cutP 2 [(2,.pt 0 0),(3,.pt 1 0),(5,(.im (.int .i64 ((((0:Nat)):Int)))))] [.box [.sl (u.globals.map vaV) .ro,.sl (u.data.map scV) .ro,.sl (u.funcs.map fnV) .ro],.box [.sl (u.globals.map vaV) .ro,.sl (u.data.map scV) .ro,.sl (u.funcs.map fnV) .ro]] wL ?_
 refine ALp.upto u.funcs.length (fun _=>True) (fun m=>⟨dn 48 [(2,.pt 0 0),(3,.pt 1 0),(5,(.im (.int .i64 ((((m:Nat)):Int)))))],ofl [.box [.sl (u.globals.map vaV) .ro,.sl (u.data.map scV) .ro,.sl (u.funcs.map fnV) .ro],.box [.sl (u.globals.map vaV) .ro,.sl (u.data.map scV) .ro,.sl (u.funcs.map fnV) .ro]]⟩) ?_ 0 (Nat.zero_le _) trivial
 intro m hm hI hnext
 by_cases hlt:m<u.funcs.length
 ·have hlt':(m:Int)<(u.funcs.length:Int):=by omega
  have hg:=bJ hlt;have hm1:=aT hlt (by omega)
  have hc:=MV u.funcs[m] (hu.fn _ (List.getElem_mem hlt));refine wdG pB (A10 hlt' hg Eb zK Dz Dy Ea zL @List.getElem?_map.{0,0} @Int.natCast_nonneg) ?_;refine AR.callP hc tJ wL ?_;refine goG pB TI ?_;refine wdG pB hm1 ?_;refine ALp.cutP 2 [(2,.pt 0 0),(3,.pt 1 0),(5,(.im (.int .i64 ((((m+1:Nat)):Int)))))] [.box [.sl (u.globals.map vaV) .ro,.sl (u.data.map scV) .ro,.sl (u.funcs.map fnV) .ro],.box [.sl (u.globals.map vaV) .ro,.sl (u.data.map scV) .ro,.sl (u.funcs.map fnV) .ro]] wL ?_;exact hnext (m+1) (by omega) (by omega) trivial
 obtain rfl:m=u.funcs.length:=by omega
 clear hnext hI
 refine wG pB @Int.lt_irrefl ?_
 exact aD
end Go.Proofs.YtmbmmckagcdapaaGreatDoor
namespace Go.Proofs.YtmbmmckagcdapaaGreatDoor
theorem Jm{ts:List Tk}(hok: ∀t∈ts,TkOk t)(a:Nat):(pk ts a).text.length≤4194304:=by
 unfold pk List.getD
 cases h:ts[a]? with
 | none=>exact Nat.zero_le _
 | some t=>exact(hok t (List.mem_of_getElem? h)).2
theorem Zi{ts:List Tk}(hok: ∀t∈ts,TkOk t){a o:Nat}{v:Sec}{b p:Nat}(h:wC ts a o=some (.ok v b p)):v.data.length≤4194304:=by
 obtain⟨_,a1,o1,h1,h⟩:=aG h
 obtain⟨n,a2,o2,h2,h⟩:=aG h
 obtain⟨_,a3,o3,h3,h⟩:=aG h
 obtain⟨_,a4,o4,h4,h⟩:=aG h
 obtain⟨_,a5,o5,h5,h⟩:=aG h
 obtain⟨_,a6,o6,h6,h⟩:=aG h
 obtain⟨q,a7,o7,h7,h⟩:=aG h
 obtain⟨_,a8,o8,h8,h⟩:=aG h
 cases h
 show q.text.length≤_
 rw[(eY h7).2.1]
 exact Jm hok _
theorem Ws{ts:List Tk}(hok: ∀t∈ts,TkOk t): ∀(f:Nat) {u:Un} {a o:Nat} {v:Un} {b p:Nat},(∀s∈u.data,s.data.length≤4194304)→uniM ts f u a o=some (.ok v b p)→ ∀s∈v.data,s.data.length≤4194304:=by
 intro f
 induction f with
 | zero=>intro u a o v b p _ h;cases h
 | succ f ih =>
  intro u a o v b p hd h;rw[uniM]at h;rcases aF h with ⟨hk,h⟩|⟨hk,h⟩
  ·cases h;exact hd
  rcases aF h with ⟨hk,h⟩|⟨hk,h⟩
  ·obtain⟨x,a1,o1,h1,h⟩:=aG h
   exact ih (u:=⟨u.globals++[x],u.data,u.funcs⟩) hd h
  rcases aF h with ⟨hk,h⟩|⟨hk,h⟩
  ·obtain⟨x,a1,o1,h1,h⟩:=aG h
   refine ih (u:=⟨u.globals,u.data++[x],u.funcs⟩) (fun y hy=> ?_) h
   rcases List.mem_append.1 hy with hy|hy
   ·exact hd y hy
   ·simp at hy;rw[hy];exact Zi hok h1
  rcases aF h with ⟨hk,h⟩|⟨hk,h⟩
  ·obtain⟨x,a1,o1,h1,h⟩:=aG h
   exact ih (u:=⟨u.globals,u.data,u.funcs++[x]⟩) hd h
  ·cases h
theorem JM:fitU uz0:=⟨by simp[uz0],(by intro y hy;cases hy),by simp[uz0],(by intro y hy;cases hy),by simp[uz0],by intro y hy;cases hy⟩
theorem Lw(s:Bs):fitU (uniP s).1∧ ∀x∈(uniP s).1.data,x.data.length≤4194304:=by
 have hz:fitU uz0∧ ∀x∈uz0.data,x.data.length≤4194304:=⟨JM,by intro y hy;cases hy⟩
 obtain⟨hok,hts,_⟩:=xB s
 unfold uniP
 split
 ·exact hz
 split
 ·exact hz
 split
 ·exact hz
 rcases uA (scnR s).1 with ⟨b,e,_,hx,_,_⟩|⟨x,b,p,_,hx,hr⟩
 ·rw[hx];exact hz
 ·rw[hx];exact⟨yQ hok hts hr,Ws hok _ (by intro y hy;cases hy) hr⟩
end Go.Proofs.YtmbmmckagcdapaaGreatDoor
