import Derived.Lib.SmallJoins
import Derived.Test.YtmbmmckagcdapaaGreatDoorQ13
import Derived.Test.YtmbmmckagcdapaaGreatDoorQ01
import Derived.Laws.Pointers
import Derived.Lib.Builder
import Derived.Laws.Externs
set_option maxHeartbeats 1000000
set_option linter.all false
namespace Go.Proofs.YtmbmmckagcdapaaGreatDoor
open Go.RowKit
theorem Vz(w:World)(q:Nat)(os:Array Obj):Below w.heap.size w (Sort.grow (w.drewN q) os) :=
 ⟨rfl,rfl,rfl,by simp[Sort.grow],fun i hi=>by
  show((w.drewN q).heap++os)[i]? =_
  rw[Array.getElem?_append_left (by show i<w.heap.size;omega)]
  rfl⟩
theorem NY{vs:Array Value}(h:vs.size=1): ∃v0,vs= #[v0]:=by
 match vs,h with
 |⟨[v0]⟩,_=>exact⟨v0,rfl⟩
theorem Ox{vs:Array Value}(h:vs.size=2): ∃v0 v1,vs= #[v0,v1]:=by
 match vs,h with
 |⟨[v0,v1]⟩,_=>exact⟨v0,v1,rfl⟩
theorem TH{C:Cf}(hC:Ok C){name:String}{g:Nat}{k:IntKind}{l:List Int}(hg:Tryz.prog.globalNamed name=some g)(hn:(g,l.length)∈glN)(hl: ∀a∈glT g k l,a∈glL):Lib.TabIs Tryz.prog C.w name k l:=by
 obtain⟨cs,t,fz,h1,h2⟩:=hC.gl.2.2 (g,l.length) hn
 have hcell: ∀i,i<l.length→cs[i]? =some (Value.int k (l.getD i 0)):=fun i hi=>by
  obtain⟨v,k1,k2⟩:=hC.gl.1 (⟨g,i,none⟩,fun v=>v= .int k (l.getD i 0)) (hl _ (List.mem_map.2 ⟨i,List.mem_range.2 hi,rfl⟩))
  have k3:=k1.1;have k2:v= .int k (l.getD i 0):=k2;subst k2;have h1:C.w.heap[g]? =some (Obj.cells cs t fz):=h1;simpa[World.cell?,h1]using k3
 unfold Lib.TabIs World.var?
 rw[hg]
 have h1:C.w.heap[g]? =some (Obj.cells cs t fz):=h1
 show(match C.w.heap[g]? with|some (.cells cs _ _)=>some cs|_=>none)=_
 rw[h1]
 show some cs=_
 congr 1
 have h2:cs.size=l.length:=h2
 apply Array.ext
 ·rw[h2];simp
 ·intro i h3 h4
  have:=hcell i (by rw[h2]at h3;exact h3)
  rw[Array.getElem?_eq_getElem h3]at this;rw[Option.some.inj this];have h5:i<l.length:=by simpa using h4
  simp[List.getD,h5]
theorem vC(n:Int)(h0:0≤n)(h1:n≤9223372036854775807):PC Tryz.prog 137 [.im (.int .i64 n)] (.im (.string ⟨(Lib.itoa n).toArray⟩)):=by
 refine pP (by kernel_rfl) fun C vs hC hsz hR=> ?_
 obtain⟨v0,rfl⟩:=NY hsz
 have e0:R C (.im (.int .i64 n)) v0:=hR 0 (by simp)
 obtain rfl:v0= .int .i64 n:=e0.im_eq
 have ht:Lib.TabIs Tryz.prog C.w "internal/strconv.uint64pow10" .u64 tab10:=TH hC (g:=1) (by kernel_rfl) (by simp[glN,tab10]) fun a ha=>List.mem_append_right _ (List.mem_append_right _ (List.mem_append_right _ (List.mem_append_left _ ha)))
 rw[show tab10=Lib.pow10Tab by decide]at ht
 refine(Tryz.strconv_Itoa n (by omega) h1 C.w ht).mono ?_
 rintro e w' ⟨rfl,k,os,rfl⟩
 exact⟨_,rfl,fun _=> .im rfl,Vz _ _ _⟩
theorem LF(s:Bs)(c:Nat)(hc:c≤9223372036854775807)(hlen:s.length*c≤140737488355328):PC Tryz.prog 84 [.im (.string ⟨s.toArray⟩),.im (.int .i64 c)] (.im (.string ⟨(Lib.repeatL s c).toArray⟩)):=by
 refine pP (by kernel_rfl) fun C vs hC hsz hR=> ?_
 obtain⟨v0,v1,rfl⟩:=Ox hsz
 have e0:R C (.im (.string ⟨s.toArray⟩)) v0:=hR 0 (by simp)
 have e1:R C (.im (.int .i64 c)) v1:=hR 1 (by simp)
 obtain rfl:v0= .string ⟨s.toArray⟩:=e0.im_eq
 obtain rfl:v1= .int .i64 c:=e1.im_eq
 refine(Tryz.strings_Repeat ⟨s.toArray⟩ c C.w hc (by simpa[ByteArray.size]using hlen)).mono ?_
 rintro e w' ⟨rfl,hb⟩
 exact⟨_,rfl,fun _=> .im rfl,hb⟩
def sV(b:Bs):V:= .im (.string ⟨b.toArray⟩)
theorem CN{w:World}{a:Addr}{v:Value}(h:w.cell? a=some v):a.spot=none∧a.block<w.heap.size:=by
 unfold World.cell? at h
 split at h
 ·rename_i hb
  split at h
  ·cases h
  ·rename_i hs
   refine⟨by simpa using hs,?_⟩
   exact(Array.getElem?_eq_some_iff.1 hb).1
 ·cases h
theorem Jv(l:List Bs):Lib.join l []=l.flatten:=by
 unfold Lib.join
 induction l with
 | nil=>rfl
 | cons x r ih =>
  cases r with
  | nil=>simp[List.intercalate,List.intersperse]
  | cons y r =>
   simp only[List.intercalate,List.intersperse]at ih ⊢;simpa using ih
theorem QO(l:List Bs)(hN:l.length≤140737488355328)(hlen:l.flatten.length≤140737488355328):PC Tryz.prog 71 [.sl (l.map sV) .ro,.im (.string ⟨([]:Bs).toArray⟩)] (.im (.string ⟨l.flatten.toArray⟩)):=by
 refine pP (by kernel_rfl) fun C vs hC hsz hR=> ?_
 obtain⟨v0,v1,rfl⟩:=Ox hsz
 have h1:R C (.im (.string ⟨([]:Bs).toArray⟩)) v1:=hR 1 (by simp)
 have h0:R C (.sl (l.map sV) .ro) v0:=hR 0 (by simp)
 obtain rfl:v1= .string ⟨([]:Bs).toArray⟩:=h1.im_eq
 cases h0 with
 | @sl _ _ a cap z u hc hm hz h hr hk =>
  cases l with
  | nil =>
   refine(Tryz.strings_Join_none a cap ⟨([]:Bs).toArray⟩ C.w).mono ?_;rintro e w' ⟨rfl,rfl⟩;exact⟨_,rfl,fun _=> .im rfl,Below.refl _ _⟩
  | cons x r =>
   have hz1:z=1:=((hz 0 (by simp)).1).symm
   subst hz1
   have hu: ∀j (hj:j<((x::r).map sV).length),u j= .string ⟨((x::r)[j]'(by simpa using hj)).toArray⟩:=fun j hj=>by
    have h2:=h j hj;rw[List.getElem_map]at h2;exact h2.im_eq
   obtain⟨ad,rfl,h3⟩:=hr 0 (by simp)
   have hrd: ∀j (hj:j<((x::r).map sV).length),C.w.cell? ((ad.add (j*1)).add 0)=some (.string ⟨((x::r)[j]'(by simpa using hj)).toArray⟩):=fun j hj=>by
    obtain⟨ad',e1,h4⟩:=hr j hj;cases e1
    exact(h4 0 _ (by rw[hu j hj];rfl)).1
   have h4:=CN (hrd 0 (by simp))
   obtain⟨bk,o,sp⟩:=ad;have hsp:sp=none:=h4.1;subst hsp;have hid:List.map ((fun b:ByteArray=>b.data.toList)∘fun b:Bs=>(⟨b.toArray⟩:ByteArray)) (x::r)=x::r:=List.map_id' _
   have:=Tryz.strings_Join bk o cap ((x::r).map fun b=>⟨b.toArray⟩) ⟨([]:Bs).toArray⟩ C.w (fun j y hj=> ?_) h4.2 (by rw[List.length_map];exact hN) (by simpa using hc) (by
    rw[List.map_map,hid,show(ByteArray.mk ([]:Bs).toArray).data.toList=[]from rfl,Jv];exact hlen)
   ·rw[List.map_map,hid,show(ByteArray.mk ([]:Bs).toArray).data.toList=[]from rfl,Jv]at this
    rw[List.length_map]at this ⊢;refine this.mono ?_;rintro e w' ⟨rfl,hb⟩;exact⟨_,rfl,fun _=> .im rfl,hb⟩
   ·obtain⟨hlt,rfl⟩:=List.getElem?_eq_some_iff.1 hj
    have h5:=hrd j (by simpa using hlt)
    rw[Addr.add_lit,Addr.add_lit,Nat.mul_one]at h5;rw[List.getElem_map];exact h5
def PQ:Nat:=1000000+73
set_option maxRecDepth 100000 in
theorem JV(b:Nat)(w:World)(h0:w.cell? ⟨b,0,none⟩=some (.pointer (some ⟨b,0,none⟩))) :
  Calls Tryz.prog 149 #[.pointer (some ⟨b,0,none⟩)] w fun e w'=>e= .returned (.tuple #[])∧w'=w:=by
 obtain⟨j,hj,_⟩:=Option.map_eq_some_iff.1 (show(Tryz.prog.info? 71).map (·.size)=some 2 by kernel_rfl)
 go_enter Tryz.func149,Tryz.ntmps149
 go_wp2
 rw[Lib.run_neq_ptr_same w _ Tryz.underlying68 hj]
 go_wp2
 go_end0
 exact⟨rfl,rfl⟩
set_option maxRecDepth 100000 in
theorem CO(b:Nat)(w:World)(h0:w.cell? ⟨b,0,none⟩=some (.pointer none))(hsh:w.shape? b=some (73,3))(hfz:w.frozen? ⟨b,0,none⟩=false) :
  Calls Tryz.prog 149 #[.pointer (some ⟨b,0,none⟩)] w fun e w'=>e= .returned (.tuple #[])∧w'=w.setCell ⟨b,0,none⟩ (.pointer (some ⟨b,0,none⟩)):=by
 obtain⟨j,hj,hjs⟩:=Option.map_eq_some_iff.1 (show(Tryz.prog.info? 71).map (·.size)=some 2 by kernel_rfl)
 go_enter Tryz.func149,Tryz.ntmps149
 go_wp2
 rw[Lib.run_to_unsafe w ⟨b,0,none⟩ Tryz.underlying68 Tryz.underlying248 hj (by rw[hjs];decide) hsh (Nat.zero_lt_succ 2)]
 simp only[Result.andThen]
 rw[Oper.upon_value]
 go_wp2
 rw[run_callFunc_extern Tryz.func203 (by kernel_rfl) (by kernel_rfl) (by kernel_rfl) (e:=Extern.AbiNoEscape.same) (by kernel_rfl)]
 rw[Lib.run_noEscape]
 simp only[Result.andThen]
 rw[Oper.upon_value]
 go_wp2
 rw[Lib.run_from_unsafe w ⟨b,0,none⟩ Tryz.underlying248 Tryz.underlying68 hj hsh (by kernel_rfl)]
 simp only[Result.andThen]
 rw[Oper.upon_value]
 go_wp2
 go_end0
 exact⟨rfl,rfl⟩
theorem Mx(y x:V)(l:List Ent):DC Tryz.prog 149 [.pt 0 0] (.box [.nb 0 PQ,y,x]::l) (.tu []) (.box [.nb 0 PQ,y,x]::l):=by
 refine⟨by kernel_rfl,fun C vs hst hC hsz hR=> ?_⟩
 obtain⟨v0,rfl⟩: ∃v0,vs= #[v0]:=by
  match vs,hsz with
  |⟨[v0]⟩,_=>exact⟨v0,rfl⟩
 have h0:R C (.pt 0 0) v0:=hR 0 (by simp)
 have hb:C.st 0= .box [.nb 0 PQ,y,x]:=by rw[hst];rfl
 obtain⟨g,bs,t,k1,k2,k3,k4,k5⟩:=hC.box 0 _ hb
 obtain rfl:v0= .pointer (some ⟨g,0,none⟩):=by
  cases h0 with
  | @pt _ _ g' cs' hg _ =>
   obtain rfl:g'=g:=Option.some.inj (hg.symm.trans k1);rfl
 have h1:=k5 0 (by simp)
 have h1:R C (.nb 0 PQ) (bs.getD 0 undef):=h1
 obtain⟨hs,hz,hv⟩:C.w.heap[g]? =some (.cells bs 73 (0,0))∧bs.size=3∧(bs.getD 0 undef= .pointer none∨bs.getD 0 undef= .pointer (some ⟨g,0,none⟩)):=by
  generalize hu:bs.getD 0 undef=u at h1;cases h1 with
  | @nb _ g' cs bs' _ _ q1 q2 q3 q4 q5 =>
   obtain rfl:g'=g:=Option.some.inj (q1.symm.trans k1);rw[q3]at k2;cases k2
   exact⟨q3,q4,q5⟩
 have hc0:C.w.cell? ⟨g,0,none⟩=some (bs.getD 0 undef):=by
  have hlt:0<bs.size:=by omega
  simp[World.cell?,hs,Array.getD_eq_getD_getElem?,hlt]
 rcases hv with hv|hv
 ·rw[hv]at hc0
  refine(CO g C.w hc0 (by simp[World.shape?,hs,hz]) (by simp[World.frozen?,hs])).mono ?_
  rintro e w' ⟨rfl,rfl⟩;rw[setCell_eq_setRow C.w g 0 bs _ (0,0) _ hs];have hz':(bs.setIfInBounds 0 (.pointer (some ⟨g,0,none⟩))).size=bs.size:=by simp
  have hE:=Ev.setBox (bs:=bs.setIfInBounds 0 (.pointer (some ⟨g,0,none⟩))) (cs:=[.nb 0 PQ,y,x]) hb k1 hC hs hz';refine⟨_,_,_,rfl,⟨rfl,rfl⟩,C.setBox 0 g (bs.setIfInBounds 0 (.pointer (some ⟨g,0,none⟩))) [.nb 0 PQ,y,x],rfl,?_,hC.setBox hb k1 hs hz' (by simp;omega) (fun j hj=> ?_) (fun j hj=> ?_),hE,.tu rfl fun i hi=>absurd hi (Nat.not_lt_zero i)⟩
  ·show upd C.st 0 _=_
   funext i
   rw[hst];unfold upd;split
   ·rename_i h;subst h;rfl
   ·rfl
  ·match j,hj with
   | 0,_ =>
    have hlt:0<bs.size:=by omega
    simp[Array.getD_eq_getD_getElem?,hlt,Value.oneCell']
   | 1,_ =>
    have:=k4 1 (by simp)
    simpa[Array.getD_eq_getD_getElem?,Array.getElem?_setIfInBounds]using this
   | 2,_ =>
    have:=k4 2 (by simp)
    simpa[Array.getD_eq_getD_getElem?,Array.getElem?_setIfInBounds]using this
  ·match j,hj with
   | 0,_ =>
    have hlt:0<bs.size:=by omega
    have e:(bs.setIfInBounds 0 (.pointer (some ⟨g,0,none⟩))).getD 0 undef= .pointer (some ⟨g,0,none⟩):=by simp[Array.getD_eq_getD_getElem?,hlt]
    rw[e];exact .nb k1 hb hs hz (.inr rfl)
   | 1,_ =>
    have:=k5 1 (by simp)
    have e:(bs.setIfInBounds 0 (.pointer (some ⟨g,0,none⟩))).getD 1 undef=bs.getD 1 undef:=by simp[Array.getD_eq_getD_getElem?,Array.getElem?_setIfInBounds]
    rw[e];exact this
   | 2,_ =>
    have:=k5 2 (by simp)
    have e:(bs.setIfInBounds 0 (.pointer (some ⟨g,0,none⟩))).getD 2 undef=bs.getD 2 undef:=by simp[Array.getD_eq_getD_getElem?,Array.getElem?_setIfInBounds]
    rw[e];exact this
 ·rw[hv]at hc0
  refine(JV g C.w hc0).mono ?_;rintro e w' ⟨rfl,rfl⟩;exact⟨_,_,_,rfl,⟨rfl,rfl⟩,C,rfl,hst,hC,Ev.refl C,.tu rfl fun i hi=>absurd hi (Nat.not_lt_zero i)⟩
set_option maxRecDepth 100000 in
theorem QB(b:Nat)(w:World)(h0:w.cell? ⟨b,0,none⟩=some (.pointer (some ⟨b,0,none⟩))) :
  Calls Tryz.prog 149 #[.pointer (some ⟨b,0,none⟩)] w fun e w'=>e= .returned (.tuple #[])∧w'=w:=by
 obtain⟨j,hj,_⟩:=Option.map_eq_some_iff.1 (show(Tryz.prog.info? 71).map (·.size)=some 2 by kernel_rfl)
 go_enter Tryz.func149,Tryz.ntmps149
 go_wp2
 rw[Lib.run_neq_ptr_same w _ Tryz.underlying68 hj]
 go_wp2
 go_end0
 exact⟨rfl,rfl⟩
set_option maxRecDepth 100000 in
theorem JW(b:Nat)(w:World)(h0:w.cell? ⟨b,0,none⟩=some (.pointer none))(hsh:w.shape? b=some (206,2))(hfz:w.frozen? ⟨b,0,none⟩=false) :
  Calls Tryz.prog 149 #[.pointer (some ⟨b,0,none⟩)] w fun e w'=>e= .returned (.tuple #[])∧w'=w.setCell ⟨b,0,none⟩ (.pointer (some ⟨b,0,none⟩)):=by
 obtain⟨j,hj,hjs⟩:=Option.map_eq_some_iff.1 (show(Tryz.prog.info? 71).map (·.size)=some 2 by kernel_rfl)
 go_enter Tryz.func149,Tryz.ntmps149
 go_wp2
 rw[Lib.run_to_unsafe w ⟨b,0,none⟩ Tryz.underlying68 Tryz.underlying248 hj (by rw[hjs];decide) hsh (Nat.zero_lt_succ 1)]
 simp only[Result.andThen]
 rw[Oper.upon_value]
 go_wp2
 rw[run_callFunc_extern Tryz.func203 (by kernel_rfl) (by kernel_rfl) (by kernel_rfl) (e:=Extern.AbiNoEscape.same) (by kernel_rfl)]
 rw[Lib.run_noEscape]
 simp only[Result.andThen]
 rw[Oper.upon_value]
 go_wp2
 rw[Lib.run_from_unsafe w ⟨b,0,none⟩ Tryz.underlying248 Tryz.underlying68 hj hsh (by kernel_rfl)]
 simp only[Result.andThen]
 rw[Oper.upon_value]
 go_wp2
 go_end0
 exact⟨rfl,rfl⟩
theorem Se(y:V)(l:List Ent):DC Tryz.prog 149 [.pt 0 0] (.box [.nb 0 206,y]::l) (.tu []) (.box [.nb 0 206,y]::l):=by
 refine⟨by kernel_rfl,fun C vs hst hC hsz hR=> ?_⟩
 obtain⟨v0,rfl⟩: ∃v0,vs= #[v0]:=by
  match vs,hsz with
  |⟨[v0]⟩,_=>exact⟨v0,rfl⟩
 have h0:R C (.pt 0 0) v0:=hR 0 (by simp)
 have hb:C.st 0= .box [.nb 0 206,y]:=by rw[hst];rfl
 obtain⟨g,bs,t,k1,k2,k3,k4,k5⟩:=hC.box 0 _ hb
 obtain rfl:v0= .pointer (some ⟨g,0,none⟩):=by
  cases h0 with
  | @pt _ _ g' cs' hg _ =>
   obtain rfl:g'=g:=Option.some.inj (hg.symm.trans k1);rfl
 have h1:=k5 0 (by simp)
 have h1:R C (.nb 0 206) (bs.getD 0 undef):=h1
 obtain⟨hs,hz,hv⟩:C.w.heap[g]? =some (.cells bs 206 (0,0))∧bs.size=2∧(bs.getD 0 undef= .pointer none∨bs.getD 0 undef= .pointer (some ⟨g,0,none⟩)):=by
  generalize hu:bs.getD 0 undef=u at h1;cases h1 with
  | @nb _ g' cs bs' _ _ q1 q2 q3 q4 q5 =>
   obtain rfl:g'=g:=Option.some.inj (q1.symm.trans k1);rw[q3]at k2;cases k2
   exact⟨q3,q4,q5⟩
 have hc0:C.w.cell? ⟨g,0,none⟩=some (bs.getD 0 undef):=by
  have hlt:0<bs.size:=by omega
  simp[World.cell?,hs,Array.getD_eq_getD_getElem?,hlt]
 rcases hv with hv|hv
 ·rw[hv]at hc0
  refine(JW g C.w hc0 (by simp[World.shape?,hs,hz]) (by simp[World.frozen?,hs])).mono ?_
  rintro e w' ⟨rfl,rfl⟩;rw[setCell_eq_setRow C.w g 0 bs _ (0,0) _ hs];have hz':(bs.setIfInBounds 0 (.pointer (some ⟨g,0,none⟩))).size=bs.size:=by simp
  have hE:=Ev.setBox (bs:=bs.setIfInBounds 0 (.pointer (some ⟨g,0,none⟩))) (cs:=[.nb 0 206,y]) hb k1 hC hs hz';refine⟨_,_,_,rfl,⟨rfl,rfl⟩,C.setBox 0 g (bs.setIfInBounds 0 (.pointer (some ⟨g,0,none⟩))) [.nb 0 206,y],rfl,?_,hC.setBox hb k1 hs hz' (by simp;omega) (fun j hj=> ?_) (fun j hj=> ?_),hE,.tu rfl fun i hi=>absurd hi (Nat.not_lt_zero i)⟩
  ·show upd C.st 0 _=_
   funext i
   rw[hst];unfold upd;split
   ·rename_i h;subst h;rfl
   ·rfl
  ·match j,hj with
   | 0,_ =>
    have hlt:0<bs.size:=by omega
    simp[Array.getD_eq_getD_getElem?,hlt,Value.oneCell']
   | 1,_ =>
    have:=k4 1 (by simp)
    simpa[Array.getD_eq_getD_getElem?,Array.getElem?_setIfInBounds]using this
  ·match j,hj with
   | 0,_ =>
    have hlt:0<bs.size:=by omega
    have e:(bs.setIfInBounds 0 (.pointer (some ⟨g,0,none⟩))).getD 0 undef= .pointer (some ⟨g,0,none⟩):=by simp[Array.getD_eq_getD_getElem?,hlt]
    rw[e];exact .nb k1 hb hs hz (.inr rfl)
   | 1,_ =>
    have:=k5 1 (by simp)
    have e:(bs.setIfInBounds 0 (.pointer (some ⟨g,0,none⟩))).getD 1 undef=bs.getD 1 undef:=by simp[Array.getD_eq_getD_getElem?,Array.getElem?_setIfInBounds]
    rw[e];exact this
 ·rw[hv]at hc0
  refine(QB g C.w hc0).mono ?_;rintro e w' ⟨rfl,rfl⟩;exact⟨_,_,_,rfl,⟨rfl,rfl⟩,C,rfl,hst,hC,Ev.refl C,.tu rfl fun i hi=>absurd hi (Nat.not_lt_zero i)⟩
end Go.Proofs.YtmbmmckagcdapaaGreatDoor
