import Derived.Test.YtmbmmckagcdapaaGreatDoorQ33
import Derived.Test.YtmbmmckagcdapaaGreatDoorQ30
import Derived.Test.YtmbmmckagcdapaaGreatDoorQ25
import Derived.Test.YtmbmmckagcdapaaGreatDoorQ04
set_option maxHeartbeats 2000000
set_option linter.all false
namespace Go.Proofs.YtmbmmckagcdapaaGreatDoor
open Go.RowKit
def fnE:List ByteArray→List Fun→Int
 | _,[]=>0
 | sn,f::r=>if !nameT f.name then 3 else if sn.any (fun x=>eqS f.name x)then 8 else fnE (sn++[f.name]) r
theorem IN{l:List Fun}{m:Nat}(h:m<l.length):fnE ((l.take m).map Fun.name) (l.drop m)=if !nameT l[m].name then 3 else if((l.take m).map Fun.name).any (fun x=>eqS l[m].name x)then 8 else fnE ((l.take (m+1)).map Fun.name) (l.drop (m+1)):=by
 rw[List.drop_eq_getElem_cons h,fnE,List.take_succ_eq_append_getElem h,List.map_append]
 rfl
def bdE(gs:List Va)(fs:List ByteArray):List Fun→Int
 | []=>0
 | f::r=>if bodyE gs f fs=0 then bdE gs fs r else bodyE gs f fs
def unE(u:Un):Int :=
 if 256<u.globals.length∨16<u.data.length∨64<u.funcs.length then 6 else if u.funcs.length=0 then 17 else if vErr [] u.globals≠0 then vErr [] u.globals else if dErr [] u.data≠0 then dErr [] u.data
 else if fnE [] u.funcs≠0 then fnE [] u.funcs else bdE u.globals (u.funcs.map Fun.name) u.funcs
structure fitFn (f:Fun):Prop where
 vl:f.vars.length≤2097152
 vn:fitVN f.vars
 bd:lT f.body
 ct:cnt f.body≤4194304
 nm:f.name.size≤9223372036854775807
structure fitU (u:Un):Prop where
 gl:u.globals.length≤2097152
 gn:fitVN u.globals
 dl:u.data.length≤4194304
 dn:Ut u.data
 fl:u.funcs.length≤4194304
 fn: ∀f∈u.funcs,fitFn f
def dX:=A16 @kA @Af @xE @qP @nQ @dR @tT @mJ @Wo @jZ @tS @xD @jN @lV @pC (A10 @mY @xC @iZ @wW @tN @oT @lG @qK @dA @jM)
theorem vD(u:Un)(hu:fitU u):PC Tryz.prog 15 [unV u] (.im (.int .i64 (unE u))):=by
 have h1:=zO [] u.globals (by have:=hu.gl;simp;omega) hu.gn
 have h2:=XI u.data hu.dl hu.dn
 have hgl:=hu.gl
 have hfl:=hu.fl
 unfold unE
 rw[List.map_nil]at h1
 refine pcEnt 79 Tryz.func15 rfl [(0,unV u)] ?_
 simp only[kS]
 refine wG dX @List.length_map.{0,0} ?_
 refine cY rfl rfl (fun hE=> ?_) (fun hE=> ?_)
 ·have q:256<u.globals.length∨16<u.data.length∨64<u.funcs.length:=by
   simp only[Bool.or_eq_true,decide_eq_true_eq]at hE;omega
  rw[if_pos q];refine wG dX TI ?_;exact aB
 have q: ¬(256<u.globals.length∨16<u.data.length∨64<u.funcs.length):=by
  simp only[Bool.or_eq_false_iff,decide_eq_false_iff_not]at hE;omega
 rw[if_neg q]
 by_cases b0:u.funcs.length=0
 ·have b0':(u.funcs.length:Int)=0:=by omega
  rw[if_pos b0];refine wG dX (AI b0' @List.length_map.{0,0}) ?_;exact aB
 have b0': ¬(u.funcs.length:Int)=0:=by omega
 rw[if_neg b0]
 refine wG dX (AI b0' @List.length_map.{0,0}) ?_
 refine dI h1 TI BN04 ?_
 by_cases b1:vErr [] u.globals=0
 case neg =>
  rw[if_pos b1];refine goG dX b1 ?_;refine wG dX b1 ?_;exact aB
 rw[if_neg (by simp[b1]),b1]
 refine goG dX TI ?_
 refine wG dX TI ?_
 refine AR.callP h2 TI BN04 ?_
 by_cases b2:dErr [] u.data=0
 case neg =>
  rw[if_pos b2];refine goG dX b2 ?_;refine wG dX b2 ?_;exact aB
 rw[if_neg (by simp[b2]),b2]
 refine goG dX TI ?_
 refine wG dX @List.length_map.{0,0} ?_
 refine aP ?_
 refine ALp.ghost 5 [] .nl 9 1 ?_
 refine ALp.cutP 2 [(1,.pt 0 0),(5,.sl (((u.funcs.take (0)).map Fun.name).map tsV) (.own 1)),(44,.sl (u.funcs.map fnV) .ro),(45,(.im (.int .i64 (u.funcs.length)))),(46,(.im (.int .i64 ((((0:Nat)):Int)))))] [.box [.sl (u.globals.map vaV) .ro,.sl (u.data.map scV) .ro,.sl (u.funcs.map fnV) .ro],.tip 9 1 ((u.funcs.take (0)).map Fun.name).length] BN04 ?_
 refine aW u.funcs.length (fun m=>fnE ((u.funcs.take (m)).map Fun.name) (u.funcs.drop m)=fnE [] u.funcs) (fun m=>⟨dn 79 [(1,.pt 0 0),(5,.sl (((u.funcs.take (m)).map Fun.name).map tsV) (.own 1)),(44,.sl (u.funcs.map fnV) .ro),(45,(.im (.int .i64 (u.funcs.length)))),(46,(.im (.int .i64 ((((m:Nat)):Int)))))],ofl [.box [.sl (u.globals.map vaV) .ro,.sl (u.data.map scV) .ro,.sl (u.funcs.map fnV) .ro],.tip 9 1 ((u.funcs.take (m)).map Fun.name).length]⟩) ?_ 0 (Nat.zero_le _) rfl
 intro m hm hV hnext
 by_cases hlt:m<u.funcs.length
 ·have hlt':(m:Int)<(u.funcs.length:Int):=by omega
  have hm1:=aK hlt (by omega)
  have hg:=bB hlt;have hf:=hu.fn _ (List.getElem_mem hlt);have h3:=xX u.funcs[m].name hf.nm;have hnl:((u.funcs.take (m)).map Fun.name).length=m:=by rw[List.length_map,List.length_take];omega
  have h4:=qF ((u.funcs.take (m)).map Fun.name) (by omega) u.funcs[m].name
  have hn2:=hnext (m+1) (by omega) (by omega)
  rw[IN hlt]at hV
  have hap:((u.funcs.take (m)).map Fun.name).map tsV++[.im (.string u.funcs[m].name)]=((u.funcs.take (m+1)).map Fun.name).map tsV:=by
   rw[List.map_map,List.map_map];exact Jf (tsV∘Fun.name) hlt
  have hnl1:((u.funcs.take (m+1)).map Fun.name).length=m+1:=by rw[List.length_map,List.length_take];omega
  have hln:((u.funcs.take (m)).map Fun.name).length+1=((u.funcs.take (m+1)).map Fun.name).length:=by omega
  have hA:((u.funcs.take (m+1)).map Fun.name).length*16≤140737488355328:=by omega
  generalize ((u.funcs.take (m)).map Fun.name)=n0 at h4 hV hap hln ⊢;generalize ((u.funcs.take (m+1)).map Fun.name)=n1 at hV hap hln hA hn2 ⊢;cases b3:nameT u.funcs[m].name with
  | false =>
   rw[b3]at h3 hV;simp only[Bool.not_false,if_true]at hV;rw[←hV,if_pos (by decide)]
   refine wG dX (A3 hlt' hg FU) ?_;refine AR.callP h3 TI BN04 ?_;refine goG dX TI ?_;refine wG dX TI ?_;exact aB
  | true =>
  rw[b3]at h3 hV;simp only[Bool.not_true,Bool.false_eq_true,if_false]at hV;cases b4:n0.any fun x=>eqS u.funcs[m].name x with
  | true =>
   rw[b4]at h4 hV;simp only[if_true]at hV;rw[←hV,if_pos (by decide)]
   refine wG dX (A3 hlt' hg FU) ?_;refine AR.callP h3 TI BN04 ?_;refine goG dX TI ?_;refine wG dX TI ?_;refine dI h4 TI BN04 ?_;refine goG dX TI ?_;refine wG dX TI ?_;exact aB
  | false =>
   rw[b4]at h4 hV;simp only[Bool.false_eq_true,if_false]at hV;refine wG dX (A3 hlt' hg FU) ?_;refine AR.callP h3 TI BN04 ?_;refine goG dX TI ?_;refine wG dX TI ?_;refine dI h4 TI BN04 ?_;refine goG dX TI ?_;refine wG dX (A5 hap hln hA hm1 @List.length_map.{0,0}) ?_;refine ALp.cutP 2 [(1,.pt 0 0),(5,.sl (n1.map tsV) (.own 1)),(44,.sl (u.funcs.map fnV) .ro),(45,(.im (.int .i64 (u.funcs.length)))),(46,(.im (.int .i64 ((((m+1:Nat)):Int)))))] [.box [.sl (u.globals.map vaV) .ro,.sl (u.data.map scV) .ro,.sl (u.funcs.map fnV) .ro],.tip 9 1 n1.length] BN04 ?_;exact hn2 hV
 obtain rfl:m=u.funcs.length:=by omega
 clear hnext
 rw[List.take_length,List.drop_length]at hV
 have hV:fnE [] u.funcs=0:=by rw[←hV];cases u.funcs.map Fun.name<;>rfl
 rw[if_neg (by simp[hV]),List.take_length]
 have hfn:(u.funcs.map Fun.name).length≤4194304:=by rw[List.length_map];exact hfl
 generalize u.funcs.map Fun.name=fs at hfn ⊢
 refine whG dX @Int.lt_irrefl ?_
 refine Blk'.here (Thn.n ?_)
 refine wG dX @List.length_map.{0,0} ?_
 refine aP ?_
 refine ALp.cutP 2 [(1,.pt 0 0),(5,.sl (fs.map tsV) (.own 1)),(65,.sl (u.funcs.map fnV) .ro),(66,(.im (.int .i64 (u.funcs.length)))),(67,(.im (.int .i64 ((((0:Nat)):Int)))))] [.box [.sl (u.globals.map vaV) .ro,.sl (u.data.map scV) .ro,.sl (u.funcs.map fnV) .ro],.tip 9 1 fs.length] BN04 ?_
 refine aW u.funcs.length (fun m=>bdE u.globals fs (u.funcs.drop m)=bdE u.globals fs u.funcs) (fun m=>⟨dn 79 [(1,.pt 0 0),(5,.sl (fs.map tsV) (.own 1)),(65,.sl (u.funcs.map fnV) .ro),(66,(.im (.int .i64 (u.funcs.length)))),(67,(.im (.int .i64 ((((m:Nat)):Int)))))],ofl [.box [.sl (u.globals.map vaV) .ro,.sl (u.data.map scV) .ro,.sl (u.funcs.map fnV) .ro],.tip 9 1 fs.length]⟩) ?_ 0 (Nat.zero_le _) rfl
 intro m hm hV hnext
 rw[←hV]
 by_cases hlt:m<u.funcs.length
 ·have hlt':(m:Int)<(u.funcs.length:Int):=by omega
  have hm1:=aK hlt (by omega)
  have hg:=bB hlt;have hf:=hu.fn _ (List.getElem_mem hlt);have hb:=XJ u u.funcs[m] fs hgl hf.vl hf.vn hf.bd hf.ct hfn;have hd:u.funcs.drop m=u.funcs[m]::u.funcs.drop (m+1):=List.drop_eq_getElem_cons hlt;rw[hd]at hV ⊢;have hs:bdE u.globals fs (u.funcs[m]::u.funcs.drop (m+1))=if bodyE u.globals u.funcs[m] fs=0 then bdE u.globals fs (u.funcs.drop (m+1))else bodyE u.globals u.funcs[m] fs:=rfl
  rw[hs]at hV ⊢
  by_cases b:bodyE u.globals u.funcs[m] fs=0
  ·rw[if_pos b]at hV ⊢
   rw[b]at hb;refine wG dX (A3 hlt' hg FU) ?_;refine dI hb (AI kS jH) BN04 ?_;refine goG dX TI ?_;refine wG dX hm1 ?_;refine ALp.cutP 2 [(1,.pt 0 0),(5,.sl (fs.map tsV) (.own 1)),(65,.sl (u.funcs.map fnV) .ro),(66,(.im (.int .i64 (u.funcs.length)))),(67,(.im (.int .i64 ((((m+1:Nat)):Int)))))] [.box [.sl (u.globals.map vaV) .ro,.sl (u.data.map scV) .ro,.sl (u.funcs.map fnV) .ro],.tip 9 1 fs.length] BN04 ?_;rw[hV];exact hnext (m+1) (by omega) (by omega) hV
  ·rw[if_neg b]
   refine wG dX (A3 hlt' hg FU) ?_;refine dI hb (AI kS jH) BN04 ?_;refine goG dX b ?_;refine wG dX b ?_;exact aB
 obtain rfl:m=u.funcs.length:=by omega
 clear hnext
 rw[List.drop_length]
 refine wG dX @Int.lt_irrefl ?_
 exact aB
variable {H:Type}
theorem Rd.bool_inv{P:Program}{t:TypeId}{d:DataW H}(h:Rd P t d)(ht:P.underlying t=some .bool): ∃b,d= .lit (.bool b):=by
 cases h with
 | bool hu=>exact⟨_,rfl⟩
 | int hu=>rw[hu]at ht;cases ht
 | string hu=>rw[hu]at ht;cases ht
 | agg hu=>rw[hu]at ht;cases ht
 | nil hu=>rw[hu]at ht;cases ht
 | slice hu=>rw[hu]at ht;cases ht
theorem IQ{k w:Int}{n:ByteArray}{e:List Ex}{l el:List Nd}{cs:List (List Nd)}(h1:I64 k∧I64 w)(h2:n.size≤9223372036854775807)(h3:e.length≤4194304∧l.length≤4194304∧el.length≤4194304∧cs.length≤4194304)
  (h4: ∀x∈e,fitE x) (h5: ∀t∈l,fitN t) (h6: ∀t∈el,fitN t) (h7: ∀c∈cs,lT c):fitN (.mk k w n e l el cs):=by
 have q:Qv (.mk k w n e l el cs)=_:=Nd.para_mk _ k w n e l el cs
 show Qv (.mk k w n e l el cs)=true
 rw[q]
 simp only[Bool.and_eq_true,Nd.kind,Nd.width,Nd.name,Nd.e,Nd.l,Nd.el,Nd.cs,List.all_map,List.all_eq_true]
 exact⟨⟨⟨⟨⟨⟨⟨decide_eq_true h1,decide_eq_true h2⟩,decide_eq_true h3⟩,h4⟩,fun c hc=>decide_eq_true (h7 c hc).1⟩,h5⟩,h6⟩,fun c hc=>by
  simp only[Function.comp,List.all_map,List.all_eq_true]
  exact(h7 c hc).2⟩
theorem C7:Df Tryz.prog 165=some [3,3,9,44,35,35,163]:=by kernel_rfl
theorem SZ:eN Tryz.prog 35=some 165:=by kernel_rfl
theorem C6:eN Tryz.prog 163=some 35:=by kernel_rfl
theorem C5:Df Tryz.prog 76=some [9,43,69,4,4]:=by kernel_rfl
theorem C4:eN Tryz.prog 24=some 76:=by kernel_rfl
theorem D5:eN Tryz.prog 69=some 5:=by kernel_rfl
theorem E6:sP Tryz.prog 5=some .u8:=by kernel_rfl
theorem C9:Df Tryz.prog 37=some [9,23,35]:=by kernel_rfl
theorem C8:eN Tryz.prog 25=some 37:=by kernel_rfl
theorem C1:Df Tryz.prog 27=some [23,24,25]:=by kernel_rfl
def zU:=A4 @Hs @tP @Hp @tJ
theorem D9:PC Tryz.prog 255 [.im (.int .u64 (16))] (.im (.int .i64 (4))):=by
 refine pcEnt 8 Tryz.func255 rfl [(0,.im (.int .u64 (16)))] ?_
 refine wG zU TI ?_
 refine Lc rfl ?_
 refine wG zU TI ?_
 refine AR.callP WR TI aC ?_
 refine goG zU TI ?_
 refine wG zU TI ?_
 exact aB
theorem XA:PC Tryz.prog 254 [(.im (.int .i64 (16)))] (.im (.bool (true))):=by
 refine pcEnt 8 Tryz.func254 rfl [(0,(.im (.int .i64 (16))))] ?_
 refine wG TI TI ?_
 exact aB
theorem Jy: ∀(f g n:Nat),n<f→n<g→zE f n=zE g n
 | 0,_,_,h,_=>by omega
 | _,0,_,_,h=>by omega
 | f+1,g+1,n,hf,hg=>by
  rw[zE,zE];split
  ·rfl
  ·rw[Jy f g (n/16) (by omega) (by omega)]
theorem OO{n:Nat}(h:n<16):lX n=[hexD n]:=by
 unfold lX
 rw[zE,if_pos h]
theorem OP{n:Nat}(h: ¬n<16):lX n=lX (n/16)++[hexD (n%16)]:=by
 unfold lX
 rw[zE,if_neg h,Jy n (n/16+1) (n/16) (by omega) (by omega)]
theorem TD(n:Nat)(hn:n<18446744073709551616):IntKind.u64.wrap ↑(BitVec.ofInt IntKind.u64.bits (n:Int)&&&BitVec.ofInt IntKind.u64.bits 15).toNat=((n%16:Nat):Int):=by
 have e:(BitVec.ofInt 64 (n:Int)&&&BitVec.ofInt 64 15).toNat=n%16:=by
  rw[BitVec.toNat_and,BitVec.ofInt_natCast,BitVec.toNat_ofNat,Nat.mod_eq_of_lt (by omega:n<2^64),show(BitVec.ofInt 64 15).toNat=2^4-1 from rfl,Nat.and_two_pow_sub_one_eq_mod]
 show IntKind.u64.wrap ((BitVec.ofInt 64 (n:Int)&&&BitVec.ofInt 64 15).toNat:Int)=_
 rw[e]
 exact IntWalk.u64_in _ (by omega)
theorem MX(n:Nat):((n:Nat):Int).fdiv (2^min 4 IntKind.u64.bits)=((n/16:Nat):Int):=by
 rw[show(2:Int)^min 4 IntKind.u64.bits=16 by decide,Int.fdiv_eq_ediv_of_nonneg _ (by decide)]
 omega
theorem Qn: ∀ {n:Nat},n<16→(48::49::50::51::52::53::54::55::56::57::97::98::99::100::101::102::103::104::105::106::107::108::109::110::111::112::113::114::115::116::117::118::119::120::121::122::[]:Bs)[n]? =some (hexD n):=by
 intro n h
 have: ∀n<16,(48::49::50::51::52::53::54::55::56::57::97::98::99::100::101::102::103::104::105::106::107::108::109::110::111::112::113::114::115::116::117::118::119::120::121::122::[]:Bs)[n]? =some (hexD n):=by decide
 exact this n h
def kK:=A16 @MF @Hz @MD @Hy @lH @rX @Hs @vN @tO @yH @rF @rW @Hp @vL @rE (AI @tI @iC)
theorem QR(n:Nat)(hn:n<4294967296)(b4:Bool)(hb4:b4=false):PC Tryz.prog 209 [.sl [] .nl,.im (.int .u64 ((n:Int))),(.im (.int .i64 (16))),(.im (.bool (false))),(.im (.bool (b4)))] (.tu [.sl [] .nl,.im (.string ⟨(lX n).toArray⟩)]):=by
 have qp:=XA
 have qz:=D9
 have k16:IntKind.u64.wrap 16=16:=by kernel_rfl
 have k4:IntKind.u64.wrap 4=4:=by kernel_rfl
 have k15:IntKind.u64.wrap 15=15:=by kernel_rfl
 have k36: ¬(16:Int)>36:=by decide
 refine pcEnt 102 Tryz.func209 rfl [(0,.sl [] .nl),(1,.im (.int .u64 ((n:Int)))),(2,(.im (.int .i64 (16)))),(3,(.im (.bool (false)))),(4,(.im (.bool (b4))))] ?_
 refine wG kK k36 ?_
 refine AR.callP qp TI aC ?_
 refine goG kK TI ?_
 refine wG kK k16 ?_
 refine AR.callP qz TI aC ?_
 refine goG kK TI ?_
 refine wG kK (A3 k16 k4 k15) ?_
 refine aP ?_
 suffices H: ∀(k m:Nat) (Z A:Bs),m=k→m<16^Z.length→m<18446744073709551616→1≤Z.length→Z.length+A.length=65→lX n=lX m++A→ALp _ _ _ _ _ ⟨dn 102 [(1,.im (.int .u64 (((m:Nat):Int)))),(3,(.im (.bool (false)))),(4,(.im (.bool (b4)))),(10,.sl [] .nl),(11,.im (.string ⟨([]).toArray⟩)),(12,.pt 0 0),(13,(.im (.int .i64 ((Z.length:Int))))),(14,.im (.int .u64 (4))),(15,.im (.int .u64 (16))),(16,.im (.int .u64 (15)))],ofl [.box ((Z++A).map byB)]⟩ by
  refine ALp.cutP 1 [(1,.im (.int .u64 ((n:Int)))),(3,(.im (.bool (false)))),(4,(.im (.bool (b4)))),(10,.sl [] .nl),(11,.im (.string ⟨([]).toArray⟩)),(12,.pt 0 0),(13,(.im (.int .i64 (((List.replicate 65 (0:UInt8)).length:Int))))),(14,.im (.int .u64 (4))),(15,.im (.int .u64 (16))),(16,.im (.int .u64 (15)))] [.box (((List.replicate 65 (0:UInt8))++[]).map byB)] aC ?_;exact H n n (List.replicate 65 (0:UInt8)) [] rfl (by rw[List.length_replicate];exact Nat.lt_of_lt_of_le hn (by decide)) (by omega) (by decide) rfl (by simp)
 intro k
 induction k using Nat.strongRecOn with
 | _ k ih =>
 intro m Z A hk hm hm64 hZ hZA hx
 obtain⟨Z',z,rfl⟩: ∃Z' z,Z=Z'++[z]:=⟨Z.dropLast,Z.getLast (fun e=>by rw[e]at hZ;cases hZ),(List.dropLast_concat_getLast _).symm⟩
 rw[List.length_append,List.length_singleton]at hm hZ hZA ⊢
 have hw1:IntKind.i64.wrap (((Z'.length+1:Nat):Int)-1)=(Z'.length:Int):=by rw[cU (by omega)];omega
 have hlt:(Z'.length:Int)<65:=by omega
 have hle:Z'.length≤64:=by omega
 have hle3:Z'.length+1≤Z'.length+1+A.length:=by omega
 have hseg: ∀c:UInt8,List.take Z'.length (List.map byB (Z'++[z]++A))++[V.im (.int .u8 c.toNat)]++List.drop (Z'.length+1) (List.map byB (Z'++[z]++A))=List.map byB (Z'++c::A):=fun c=>by
  rw[←List.map_take,←List.map_drop];simp[byB]
 have hlen:(List.map byB (Z'++[z]++A)).length=65:=by simp;omega
 refine dF ?_
 by_cases h16:m<16
 ·have e1: ¬(m:Int)≥16:=by omega
  have hg:=Qn h16;rw[OO h16]at hx;clear ih;refine wG kK (A11 BY GDS e1 hw1 hg hlen hlt hle hle3 @Nat.mul_one hseg) ?_;refine Zh 0 [(10,.sl [] .nl),(12,.ep (.ag ((Z'++hexD m::A).map byB)) 0),(13,(.im (.int .i64 ((Z'.length:Int))))),(94,(.im (.bool (b4))))] [] ?_ (by simp) (by repeat (first|exact WkFA.nil|refine WkFA.cons (by first|exact .of (Wk.refl _) (by first|rfl|simp only[List.length_cons,List.length_nil,Nat.reduceAdd,V.ids,V.idsL,idsA,entOk,List.all_cons,List.all_nil,Bool.and_self,Bool.and_true,Bool.true_and,ltB,noId,Nat.reduceLT,decide_true,Bool.true_eq_false,bQ,bS,bR,bT,aC])|exact Zb rfl rfl (aC _ _)) ?_)) (by repeat (first|exact WkFE.nil|refine WkFE.box (by repeat (first|exact WkFL.nil|refine WkFL.cons (by first|exact .of (Wk.refl _) (by first|rfl|simp only[List.length_cons,List.length_nil,Nat.reduceAdd,V.ids,V.idsL,idsA,entOk,List.all_cons,List.all_nil,Bool.and_self,Bool.and_true,Bool.true_and,ltB,noId,Nat.reduceLT,decide_true,Bool.true_eq_false,bQ,bS,bR,bT,aC])|exact Zb rfl rfl (aC _ _)) ?_)) ?_|refine WkFE.same (fun _ e=>by cases e) ?_)) (fun i hi=>by first|exact absurd rfl hi|exact Nat.lt_of_lt_of_le (qW hi) (by simp))
  subst hb4;refine jP rfl rfl ?_;refine wG kK TI ?_;refine ED (e:=5) (n:=65) (m:=Z'.length) (b:=Z'++hexD m::A) ?_ (by omega) (by simp;omega) (by decide)
  rw[List.drop_left,hx,List.singleton_append];generalize hexD m::A=B;have hb:=nU B;refine goG kK hb ?_;refine wG kK hb ?_;refine fiGenO [.tmp 10,.tmp 11] (finG kK) ?_
  all_goals exact wkG aC
 ·have e1:(m:Int)≥16:=by omega
  have hg:=Qn (show m%16<16 by omega)
  have h15:=TD m hm64;have hs4:=MX m;rw[OP h16,List.append_assoc]at hx
  have hI:=ih (m/16) (by omega) (m/16) Z' (hexD (m%16)::A) rfl (by rw[Nat.pow_succ]at hm;omega) (by omega) (by
   rcases Nat.eq_zero_or_pos Z'.length with h0|h0
   ·rw[h0]at hm;omega
   ·exact h0) (by rw[List.length_cons];omega) hx
  clear ih;refine wdG kK (A13 BY GDS e1 hw1 hg h15 hs4 hlen hlt hle hle3 @Nat.mul_one hseg) ?_;refine ALp.cutP 1 [(1,.im (.int .u64 (((m/16:Nat):Int)))),(3,(.im (.bool (false)))),(4,(.im (.bool (b4)))),(10,.sl [] .nl),(11,.im (.string ⟨([]).toArray⟩)),(12,.pt 0 0),(13,(.im (.int .i64 ((Z'.length:Int))))),(14,.im (.int .u64 (4))),(15,.im (.int .u64 (16))),(16,.im (.int .u64 (15)))] [.box ((Z'++hexD (m%16)::A).map byB)] aC ?_;exact hI
theorem XG(n:Nat)(hn:n<4294967296):PC Tryz.prog 209 [.sl [] .nl,.im (.int .u64 ((n:Int))),(.im (.int .i64 (16))),(.im (.bool (false))),(.im (.bool (false)))] (.tu [.sl [] .nl,.im (.string ⟨(lX n).toArray⟩)]):=QR n hn false rfl
def Hm:=A11 @MG @lH @rX @vN @tO @yH @rW @vL @rE @tI @iC
theorem XF(n:Nat)(hn:n<4294967296):PC Tryz.prog 152 [.im (.int .u64 ((n:Int))),(.im (.int .i64 (16)))] (.im (.string ⟨(lX n).toArray⟩)):=by
 have q:=XG n hn
 refine pcEnt 32 Tryz.func152 rfl [(0,.im (.int .u64 ((n:Int)))),(1,(.im (.int .i64 (16))))] ?_
 refine wG Hm TI ?_
 refine AR.callP q TI aC ?_
 refine goG Hm TI ?_
 refine wG Hm TI ?_
 exact aB
theorem ZW(n:Nat)(hn:n<4294967296):PC Tryz.prog 85 [.im (.int .u64 ((n:Int))),(.im (.int .i64 (16)))] (.im (.string ⟨(lX n).toArray⟩)):=by
 have q:=XF n hn
 refine pcEnt 8 Tryz.func85 rfl [(0,.im (.int .u64 ((n:Int)))),(1,(.im (.int .i64 (16))))] ?_
 refine wG TI TI ?_
 refine AR.callP q TI aC ?_
 refine goG TI TI ?_
 refine wG TI TI ?_
 exact aB
theorem aZ(p:Nat→Bool)(l:List Bs):V.idsL p (l.map sV)=true:=gH (fun _=>rfl) l
theorem fC(g:Nat→Nat)(l:List Bs):V.renL g (l.map sV)=l.map sV:=V.renL_id g _ (aZ _ l)
theorem CX(l:List Bs)(r:Bs)(hr:l.flatten=r)(hN:l.length≤4194304)(hlen:r.length≤140737488355328):PC Tryz.prog 83 [.sl (l.map sV) .ro] (.im (.string ⟨(r).toArray⟩)):=by
 have q:=QO l (by omega) (by rw[hr];exact hlen)
 rw[hr]at q
 refine pcEnt 5 Tryz.func83 rfl [(0,.sl (l.map sV) .ro)] ?_
 refine wG TI TI ?_
 refine AR.callP q TI (A4 aC @aD @aE aZ) ?_
 refine goG TI TI ?_
 refine wG TI TI ?_
 exact aB
theorem KQ(a b r:Bs)(hr:a++b=r)(hlen:r.length≤140737488355328):PC Tryz.prog 83 [.sl [.im (.string ⟨(a).toArray⟩),.im (.string ⟨(b).toArray⟩)] .ro] (.im (.string ⟨(r).toArray⟩)):=CX [a,b] r (by simpa using hr) (by simp) hlen
theorem KP(a b c r:Bs)(hr:a++(b++c)=r)(hlen:r.length≤140737488355328):PC Tryz.prog 83 [.sl [.im (.string ⟨(a).toArray⟩),.im (.string ⟨(b).toArray⟩),.im (.string ⟨(c).toArray⟩)] .ro] (.im (.string ⟨(r).toArray⟩)):=CX [a,b,c] r (by simpa using hr) (by simp) hlen
theorem XD(a b c d e r:Bs)(hr:a++(b++(c++(d++e)))=r)(hlen:r.length≤140737488355328):PC Tryz.prog 83 [.sl [.im (.string ⟨(a).toArray⟩),.im (.string ⟨(b).toArray⟩),.im (.string ⟨(c).toArray⟩),.im (.string ⟨(d).toArray⟩),.im (.string ⟨(e).toArray⟩)] .ro] (.im (.string ⟨(r).toArray⟩)):=CX [a,b,c,d,e] r (by simpa using hr) (by simp) hlen
def Hk:=A7 @mJ @jN @rX @tP @dA @rW @tJ
theorem Kq(n:Nat)(hn:n<4294967296):PC Tryz.prog 37 [.im (.int .u32 ((n:Int)))] (.im (.string ⟨(48::120::lX n).toArray⟩)):=by
 have hl:(48::120::lX n).length≤140737488355328:=by
  have:=rV 7 (n+1) n (by omega) (by omega)
  unfold lX;simp only[List.length_cons];omega
 have q1:=ZW n hn
 have q2:=KQ [48,120] (lX n) _ rfl hl
 have hw:IntKind.u64.wrap (n:Int)=n:=IntWalk.u64_in _ (by omega)
 refine pcEnt 8 Tryz.func37 rfl [(0,.im (.int .u32 ((n:Int))))] ?_
 refine wG Hk hw ?_
 refine AR.callP q1 TI (A4 aC @aD @aE aZ) ?_
 refine goG Hk TI ?_
 refine wG Hk TI ?_
 refine dI q2 TI (A4 aC @aD @aE aZ) ?_
 refine goG Hk TI ?_
 refine wG Hk TI ?_
 exact aB
def bP:=A7 @ML @Sy @MH @ME @LX @Ss @LU
theorem s93:qT Tryz.prog 244=none:=by kernel_rfl
theorem DP:PC Tryz.prog 143 [(.im (.int .i64 (3)))] (.ag [.im (.string ⟨([43]).toArray⟩),(.im (.int .i64 (7)))]):=by
 have hw:IntKind.i64.wrap 0=0:=by kernel_rfl
 refine pcEnt 22 Tryz.func143 rfl [(0,(.im (.int .i64 (3))))] ?_
 refine wG bP s93 ?_
 refine iB (n:=13) (e:=198) (z:=2) (cs:=(List.replicate 13 [.im (.string ByteArray.empty),(.im (.int .i64 (0)))]).flatten) (cs':=[.im (.string ⟨([43]).toArray⟩),(.im (.int .i64 (7))),.im (.string ⟨([45]).toArray⟩),(.im (.int .i64 (7))),.im (.string ⟨([42]).toArray⟩),(.im (.int .i64 (8))),.im (.string ⟨([38]).toArray⟩),(.im (.int .i64 (3))),.im (.string ⟨([124]).toArray⟩),(.im (.int .i64 (1))),.im (.string ⟨([94]).toArray⟩),(.im (.int .i64 (2))),.im (.string ⟨([60,60]).toArray⟩),(.im (.int .i64 (6))),.im (.string ⟨([62,62]).toArray⟩),(.im (.int .i64 (6))),.im (.string ⟨([62,62,115]).toArray⟩),(.im (.int .i64 (6))),.im (.string ⟨([61,61]).toArray⟩),(.im (.int .i64 (4))),.im (.string ⟨([33,61]).toArray⟩),(.im (.int .i64 (4))),.im (.string ⟨([60,115]).toArray⟩),(.im (.int .i64 (5))),.im (.string ⟨([60]).toArray⟩),(.im (.int .i64 (5)))]) ?_
 refine goG bP TI ?_
 refine wG bP hw ?_
 refine fiGenO [.cell 2 198] (finG bP) ?_
 all_goals exact wkG (A4 aC @aD @aE aZ)
theorem DO:PC Tryz.prog 143 [(.im (.int .i64 (4)))] (.ag [.im (.string ⟨([45]).toArray⟩),(.im (.int .i64 (7)))]):=by
 have hw:IntKind.i64.wrap 1=1:=by kernel_rfl
 refine pcEnt 22 Tryz.func143 rfl [(0,(.im (.int .i64 (4))))] ?_
 refine wG bP s93 ?_
 refine iB (n:=13) (e:=198) (z:=2) (cs:=(List.replicate 13 [.im (.string ByteArray.empty),(.im (.int .i64 (0)))]).flatten) (cs':=[.im (.string ⟨([43]).toArray⟩),(.im (.int .i64 (7))),.im (.string ⟨([45]).toArray⟩),(.im (.int .i64 (7))),.im (.string ⟨([42]).toArray⟩),(.im (.int .i64 (8))),.im (.string ⟨([38]).toArray⟩),(.im (.int .i64 (3))),.im (.string ⟨([124]).toArray⟩),(.im (.int .i64 (1))),.im (.string ⟨([94]).toArray⟩),(.im (.int .i64 (2))),.im (.string ⟨([60,60]).toArray⟩),(.im (.int .i64 (6))),.im (.string ⟨([62,62]).toArray⟩),(.im (.int .i64 (6))),.im (.string ⟨([62,62,115]).toArray⟩),(.im (.int .i64 (6))),.im (.string ⟨([61,61]).toArray⟩),(.im (.int .i64 (4))),.im (.string ⟨([33,61]).toArray⟩),(.im (.int .i64 (4))),.im (.string ⟨([60,115]).toArray⟩),(.im (.int .i64 (5))),.im (.string ⟨([60]).toArray⟩),(.im (.int .i64 (5)))]) ?_
 refine goG bP TI ?_
 refine wG bP hw ?_
 refine fiGenO [.cell 2 198] (finG bP) ?_
 all_goals exact wkG (A4 aC @aD @aE aZ)
theorem DN:PC Tryz.prog 143 [(.im (.int .i64 (5)))] (.ag [.im (.string ⟨([42]).toArray⟩),(.im (.int .i64 (8)))]):=by
 have hw:IntKind.i64.wrap 2=2:=by kernel_rfl
 refine pcEnt 22 Tryz.func143 rfl [(0,(.im (.int .i64 (5))))] ?_
 refine wG bP s93 ?_
 refine iB (n:=13) (e:=198) (z:=2) (cs:=(List.replicate 13 [.im (.string ByteArray.empty),(.im (.int .i64 (0)))]).flatten) (cs':=[.im (.string ⟨([43]).toArray⟩),(.im (.int .i64 (7))),.im (.string ⟨([45]).toArray⟩),(.im (.int .i64 (7))),.im (.string ⟨([42]).toArray⟩),(.im (.int .i64 (8))),.im (.string ⟨([38]).toArray⟩),(.im (.int .i64 (3))),.im (.string ⟨([124]).toArray⟩),(.im (.int .i64 (1))),.im (.string ⟨([94]).toArray⟩),(.im (.int .i64 (2))),.im (.string ⟨([60,60]).toArray⟩),(.im (.int .i64 (6))),.im (.string ⟨([62,62]).toArray⟩),(.im (.int .i64 (6))),.im (.string ⟨([62,62,115]).toArray⟩),(.im (.int .i64 (6))),.im (.string ⟨([61,61]).toArray⟩),(.im (.int .i64 (4))),.im (.string ⟨([33,61]).toArray⟩),(.im (.int .i64 (4))),.im (.string ⟨([60,115]).toArray⟩),(.im (.int .i64 (5))),.im (.string ⟨([60]).toArray⟩),(.im (.int .i64 (5)))]) ?_
 refine goG bP TI ?_
 refine wG bP hw ?_
 refine fiGenO [.cell 2 198] (finG bP) ?_
 all_goals exact wkG (A4 aC @aD @aE aZ)
theorem DM:PC Tryz.prog 143 [(.im (.int .i64 (6)))] (.ag [.im (.string ⟨([38]).toArray⟩),(.im (.int .i64 (3)))]):=by
 have hw:IntKind.i64.wrap 3=3:=by kernel_rfl
 refine pcEnt 22 Tryz.func143 rfl [(0,(.im (.int .i64 (6))))] ?_
 refine wG bP s93 ?_
 refine iB (n:=13) (e:=198) (z:=2) (cs:=(List.replicate 13 [.im (.string ByteArray.empty),(.im (.int .i64 (0)))]).flatten) (cs':=[.im (.string ⟨([43]).toArray⟩),(.im (.int .i64 (7))),.im (.string ⟨([45]).toArray⟩),(.im (.int .i64 (7))),.im (.string ⟨([42]).toArray⟩),(.im (.int .i64 (8))),.im (.string ⟨([38]).toArray⟩),(.im (.int .i64 (3))),.im (.string ⟨([124]).toArray⟩),(.im (.int .i64 (1))),.im (.string ⟨([94]).toArray⟩),(.im (.int .i64 (2))),.im (.string ⟨([60,60]).toArray⟩),(.im (.int .i64 (6))),.im (.string ⟨([62,62]).toArray⟩),(.im (.int .i64 (6))),.im (.string ⟨([62,62,115]).toArray⟩),(.im (.int .i64 (6))),.im (.string ⟨([61,61]).toArray⟩),(.im (.int .i64 (4))),.im (.string ⟨([33,61]).toArray⟩),(.im (.int .i64 (4))),.im (.string ⟨([60,115]).toArray⟩),(.im (.int .i64 (5))),.im (.string ⟨([60]).toArray⟩),(.im (.int .i64 (5)))]) ?_
 refine goG bP TI ?_
 refine wG bP hw ?_
 refine fiGenO [.cell 2 198] (finG bP) ?_
 all_goals exact wkG (A4 aC @aD @aE aZ)
theorem DL:PC Tryz.prog 143 [(.im (.int .i64 (7)))] (.ag [.im (.string ⟨([124]).toArray⟩),(.im (.int .i64 (1)))]):=by
 have hw:IntKind.i64.wrap 4=4:=by kernel_rfl
 refine pcEnt 22 Tryz.func143 rfl [(0,(.im (.int .i64 (7))))] ?_
 refine wG bP s93 ?_
 refine iB (n:=13) (e:=198) (z:=2) (cs:=(List.replicate 13 [.im (.string ByteArray.empty),(.im (.int .i64 (0)))]).flatten) (cs':=[.im (.string ⟨([43]).toArray⟩),(.im (.int .i64 (7))),.im (.string ⟨([45]).toArray⟩),(.im (.int .i64 (7))),.im (.string ⟨([42]).toArray⟩),(.im (.int .i64 (8))),.im (.string ⟨([38]).toArray⟩),(.im (.int .i64 (3))),.im (.string ⟨([124]).toArray⟩),(.im (.int .i64 (1))),.im (.string ⟨([94]).toArray⟩),(.im (.int .i64 (2))),.im (.string ⟨([60,60]).toArray⟩),(.im (.int .i64 (6))),.im (.string ⟨([62,62]).toArray⟩),(.im (.int .i64 (6))),.im (.string ⟨([62,62,115]).toArray⟩),(.im (.int .i64 (6))),.im (.string ⟨([61,61]).toArray⟩),(.im (.int .i64 (4))),.im (.string ⟨([33,61]).toArray⟩),(.im (.int .i64 (4))),.im (.string ⟨([60,115]).toArray⟩),(.im (.int .i64 (5))),.im (.string ⟨([60]).toArray⟩),(.im (.int .i64 (5)))]) ?_
 refine goG bP TI ?_
 refine wG bP hw ?_
 refine fiGenO [.cell 2 198] (finG bP) ?_
 all_goals exact wkG (A4 aC @aD @aE aZ)
theorem DK:PC Tryz.prog 143 [(.im (.int .i64 (8)))] (.ag [.im (.string ⟨([94]).toArray⟩),(.im (.int .i64 (2)))]):=by
 have hw:IntKind.i64.wrap 5=5:=by kernel_rfl
 refine pcEnt 22 Tryz.func143 rfl [(0,(.im (.int .i64 (8))))] ?_
 refine wG bP s93 ?_
 refine iB (n:=13) (e:=198) (z:=2) (cs:=(List.replicate 13 [.im (.string ByteArray.empty),(.im (.int .i64 (0)))]).flatten) (cs':=[.im (.string ⟨([43]).toArray⟩),(.im (.int .i64 (7))),.im (.string ⟨([45]).toArray⟩),(.im (.int .i64 (7))),.im (.string ⟨([42]).toArray⟩),(.im (.int .i64 (8))),.im (.string ⟨([38]).toArray⟩),(.im (.int .i64 (3))),.im (.string ⟨([124]).toArray⟩),(.im (.int .i64 (1))),.im (.string ⟨([94]).toArray⟩),(.im (.int .i64 (2))),.im (.string ⟨([60,60]).toArray⟩),(.im (.int .i64 (6))),.im (.string ⟨([62,62]).toArray⟩),(.im (.int .i64 (6))),.im (.string ⟨([62,62,115]).toArray⟩),(.im (.int .i64 (6))),.im (.string ⟨([61,61]).toArray⟩),(.im (.int .i64 (4))),.im (.string ⟨([33,61]).toArray⟩),(.im (.int .i64 (4))),.im (.string ⟨([60,115]).toArray⟩),(.im (.int .i64 (5))),.im (.string ⟨([60]).toArray⟩),(.im (.int .i64 (5)))]) ?_
 refine goG bP TI ?_
 refine wG bP hw ?_
 refine fiGenO [.cell 2 198] (finG bP) ?_
 all_goals exact wkG (A4 aC @aD @aE aZ)
theorem DJ:PC Tryz.prog 143 [(.im (.int .i64 (9)))] (.ag [.im (.string ⟨([60,60]).toArray⟩),(.im (.int .i64 (6)))]):=by
 have hw:IntKind.i64.wrap 6=6:=by kernel_rfl
 refine pcEnt 22 Tryz.func143 rfl [(0,(.im (.int .i64 (9))))] ?_
 refine wG bP s93 ?_
 refine iB (n:=13) (e:=198) (z:=2) (cs:=(List.replicate 13 [.im (.string ByteArray.empty),(.im (.int .i64 (0)))]).flatten) (cs':=[.im (.string ⟨([43]).toArray⟩),(.im (.int .i64 (7))),.im (.string ⟨([45]).toArray⟩),(.im (.int .i64 (7))),.im (.string ⟨([42]).toArray⟩),(.im (.int .i64 (8))),.im (.string ⟨([38]).toArray⟩),(.im (.int .i64 (3))),.im (.string ⟨([124]).toArray⟩),(.im (.int .i64 (1))),.im (.string ⟨([94]).toArray⟩),(.im (.int .i64 (2))),.im (.string ⟨([60,60]).toArray⟩),(.im (.int .i64 (6))),.im (.string ⟨([62,62]).toArray⟩),(.im (.int .i64 (6))),.im (.string ⟨([62,62,115]).toArray⟩),(.im (.int .i64 (6))),.im (.string ⟨([61,61]).toArray⟩),(.im (.int .i64 (4))),.im (.string ⟨([33,61]).toArray⟩),(.im (.int .i64 (4))),.im (.string ⟨([60,115]).toArray⟩),(.im (.int .i64 (5))),.im (.string ⟨([60]).toArray⟩),(.im (.int .i64 (5)))]) ?_
 refine goG bP TI ?_
 refine wG bP hw ?_
 refine fiGenO [.cell 2 198] (finG bP) ?_
 all_goals exact wkG (A4 aC @aD @aE aZ)
theorem Vr:PC Tryz.prog 143 [(.im (.int .i64 (10)))] (.ag [.im (.string ⟨([62,62]).toArray⟩),(.im (.int .i64 (6)))]):=by
 have hw:IntKind.i64.wrap 7=7:=by kernel_rfl
 refine pcEnt 22 Tryz.func143 rfl [(0,(.im (.int .i64 (10))))] ?_
 refine wG bP s93 ?_
 refine iB (n:=13) (e:=198) (z:=2) (cs:=(List.replicate 13 [.im (.string ByteArray.empty),(.im (.int .i64 (0)))]).flatten) (cs':=[.im (.string ⟨([43]).toArray⟩),(.im (.int .i64 (7))),.im (.string ⟨([45]).toArray⟩),(.im (.int .i64 (7))),.im (.string ⟨([42]).toArray⟩),(.im (.int .i64 (8))),.im (.string ⟨([38]).toArray⟩),(.im (.int .i64 (3))),.im (.string ⟨([124]).toArray⟩),(.im (.int .i64 (1))),.im (.string ⟨([94]).toArray⟩),(.im (.int .i64 (2))),.im (.string ⟨([60,60]).toArray⟩),(.im (.int .i64 (6))),.im (.string ⟨([62,62]).toArray⟩),(.im (.int .i64 (6))),.im (.string ⟨([62,62,115]).toArray⟩),(.im (.int .i64 (6))),.im (.string ⟨([61,61]).toArray⟩),(.im (.int .i64 (4))),.im (.string ⟨([33,61]).toArray⟩),(.im (.int .i64 (4))),.im (.string ⟨([60,115]).toArray⟩),(.im (.int .i64 (5))),.im (.string ⟨([60]).toArray⟩),(.im (.int .i64 (5)))]) ?_
 refine goG bP TI ?_
 refine wG bP hw ?_
 refine fiGenO [.cell 2 198] (finG bP) ?_
 all_goals exact wkG (A4 aC @aD @aE aZ)
theorem Vq:PC Tryz.prog 143 [(.im (.int .i64 (11)))] (.ag [.im (.string ⟨([62,62,115]).toArray⟩),(.im (.int .i64 (6)))]):=by
 have hw:IntKind.i64.wrap 8=8:=by kernel_rfl
 refine pcEnt 22 Tryz.func143 rfl [(0,(.im (.int .i64 (11))))] ?_
 refine wG bP s93 ?_
 refine iB (n:=13) (e:=198) (z:=2) (cs:=(List.replicate 13 [.im (.string ByteArray.empty),(.im (.int .i64 (0)))]).flatten) (cs':=[.im (.string ⟨([43]).toArray⟩),(.im (.int .i64 (7))),.im (.string ⟨([45]).toArray⟩),(.im (.int .i64 (7))),.im (.string ⟨([42]).toArray⟩),(.im (.int .i64 (8))),.im (.string ⟨([38]).toArray⟩),(.im (.int .i64 (3))),.im (.string ⟨([124]).toArray⟩),(.im (.int .i64 (1))),.im (.string ⟨([94]).toArray⟩),(.im (.int .i64 (2))),.im (.string ⟨([60,60]).toArray⟩),(.im (.int .i64 (6))),.im (.string ⟨([62,62]).toArray⟩),(.im (.int .i64 (6))),.im (.string ⟨([62,62,115]).toArray⟩),(.im (.int .i64 (6))),.im (.string ⟨([61,61]).toArray⟩),(.im (.int .i64 (4))),.im (.string ⟨([33,61]).toArray⟩),(.im (.int .i64 (4))),.im (.string ⟨([60,115]).toArray⟩),(.im (.int .i64 (5))),.im (.string ⟨([60]).toArray⟩),(.im (.int .i64 (5)))]) ?_
 refine goG bP TI ?_
 refine wG bP hw ?_
 refine fiGenO [.cell 2 198] (finG bP) ?_
 all_goals exact wkG (A4 aC @aD @aE aZ)
theorem Vp:PC Tryz.prog 143 [(.im (.int .i64 (12)))] (.ag [.im (.string ⟨([61,61]).toArray⟩),(.im (.int .i64 (4)))]):=by
 have hw:IntKind.i64.wrap 9=9:=by kernel_rfl
 refine pcEnt 22 Tryz.func143 rfl [(0,(.im (.int .i64 (12))))] ?_
 refine wG bP s93 ?_
 refine iB (n:=13) (e:=198) (z:=2) (cs:=(List.replicate 13 [.im (.string ByteArray.empty),(.im (.int .i64 (0)))]).flatten) (cs':=[.im (.string ⟨([43]).toArray⟩),(.im (.int .i64 (7))),.im (.string ⟨([45]).toArray⟩),(.im (.int .i64 (7))),.im (.string ⟨([42]).toArray⟩),(.im (.int .i64 (8))),.im (.string ⟨([38]).toArray⟩),(.im (.int .i64 (3))),.im (.string ⟨([124]).toArray⟩),(.im (.int .i64 (1))),.im (.string ⟨([94]).toArray⟩),(.im (.int .i64 (2))),.im (.string ⟨([60,60]).toArray⟩),(.im (.int .i64 (6))),.im (.string ⟨([62,62]).toArray⟩),(.im (.int .i64 (6))),.im (.string ⟨([62,62,115]).toArray⟩),(.im (.int .i64 (6))),.im (.string ⟨([61,61]).toArray⟩),(.im (.int .i64 (4))),.im (.string ⟨([33,61]).toArray⟩),(.im (.int .i64 (4))),.im (.string ⟨([60,115]).toArray⟩),(.im (.int .i64 (5))),.im (.string ⟨([60]).toArray⟩),(.im (.int .i64 (5)))]) ?_
 refine goG bP TI ?_
 refine wG bP hw ?_
 refine fiGenO [.cell 2 198] (finG bP) ?_
 all_goals exact wkG (A4 aC @aD @aE aZ)
theorem Vo:PC Tryz.prog 143 [(.im (.int .i64 (13)))] (.ag [.im (.string ⟨([33,61]).toArray⟩),(.im (.int .i64 (4)))]):=by
 have hw:IntKind.i64.wrap 10=10:=by kernel_rfl
 refine pcEnt 22 Tryz.func143 rfl [(0,(.im (.int .i64 (13))))] ?_
 refine wG bP s93 ?_
 refine iB (n:=13) (e:=198) (z:=2) (cs:=(List.replicate 13 [.im (.string ByteArray.empty),(.im (.int .i64 (0)))]).flatten) (cs':=[.im (.string ⟨([43]).toArray⟩),(.im (.int .i64 (7))),.im (.string ⟨([45]).toArray⟩),(.im (.int .i64 (7))),.im (.string ⟨([42]).toArray⟩),(.im (.int .i64 (8))),.im (.string ⟨([38]).toArray⟩),(.im (.int .i64 (3))),.im (.string ⟨([124]).toArray⟩),(.im (.int .i64 (1))),.im (.string ⟨([94]).toArray⟩),(.im (.int .i64 (2))),.im (.string ⟨([60,60]).toArray⟩),(.im (.int .i64 (6))),.im (.string ⟨([62,62]).toArray⟩),(.im (.int .i64 (6))),.im (.string ⟨([62,62,115]).toArray⟩),(.im (.int .i64 (6))),.im (.string ⟨([61,61]).toArray⟩),(.im (.int .i64 (4))),.im (.string ⟨([33,61]).toArray⟩),(.im (.int .i64 (4))),.im (.string ⟨([60,115]).toArray⟩),(.im (.int .i64 (5))),.im (.string ⟨([60]).toArray⟩),(.im (.int .i64 (5)))]) ?_
 refine goG bP TI ?_
 refine wG bP hw ?_
 refine fiGenO [.cell 2 198] (finG bP) ?_
 all_goals exact wkG (A4 aC @aD @aE aZ)
theorem Vn:PC Tryz.prog 143 [(.im (.int .i64 (14)))] (.ag [.im (.string ⟨([60,115]).toArray⟩),(.im (.int .i64 (5)))]):=by
 have hw:IntKind.i64.wrap 11=11:=by kernel_rfl
 refine pcEnt 22 Tryz.func143 rfl [(0,(.im (.int .i64 (14))))] ?_
 refine wG bP s93 ?_
 refine iB (n:=13) (e:=198) (z:=2) (cs:=(List.replicate 13 [.im (.string ByteArray.empty),(.im (.int .i64 (0)))]).flatten) (cs':=[.im (.string ⟨([43]).toArray⟩),(.im (.int .i64 (7))),.im (.string ⟨([45]).toArray⟩),(.im (.int .i64 (7))),.im (.string ⟨([42]).toArray⟩),(.im (.int .i64 (8))),.im (.string ⟨([38]).toArray⟩),(.im (.int .i64 (3))),.im (.string ⟨([124]).toArray⟩),(.im (.int .i64 (1))),.im (.string ⟨([94]).toArray⟩),(.im (.int .i64 (2))),.im (.string ⟨([60,60]).toArray⟩),(.im (.int .i64 (6))),.im (.string ⟨([62,62]).toArray⟩),(.im (.int .i64 (6))),.im (.string ⟨([62,62,115]).toArray⟩),(.im (.int .i64 (6))),.im (.string ⟨([61,61]).toArray⟩),(.im (.int .i64 (4))),.im (.string ⟨([33,61]).toArray⟩),(.im (.int .i64 (4))),.im (.string ⟨([60,115]).toArray⟩),(.im (.int .i64 (5))),.im (.string ⟨([60]).toArray⟩),(.im (.int .i64 (5)))]) ?_
 refine goG bP TI ?_
 refine wG bP hw ?_
 refine fiGenO [.cell 2 198] (finG bP) ?_
 all_goals exact wkG (A4 aC @aD @aE aZ)
theorem Vm:PC Tryz.prog 143 [(.im (.int .i64 (15)))] (.ag [.im (.string ⟨([60]).toArray⟩),(.im (.int .i64 (5)))]):=by
 have hw:IntKind.i64.wrap 12=12:=by kernel_rfl
 refine pcEnt 22 Tryz.func143 rfl [(0,(.im (.int .i64 (15))))] ?_
 refine wG bP s93 ?_
 refine iB (n:=13) (e:=198) (z:=2) (cs:=(List.replicate 13 [.im (.string ByteArray.empty),(.im (.int .i64 (0)))]).flatten) (cs':=[.im (.string ⟨([43]).toArray⟩),(.im (.int .i64 (7))),.im (.string ⟨([45]).toArray⟩),(.im (.int .i64 (7))),.im (.string ⟨([42]).toArray⟩),(.im (.int .i64 (8))),.im (.string ⟨([38]).toArray⟩),(.im (.int .i64 (3))),.im (.string ⟨([124]).toArray⟩),(.im (.int .i64 (1))),.im (.string ⟨([94]).toArray⟩),(.im (.int .i64 (2))),.im (.string ⟨([60,60]).toArray⟩),(.im (.int .i64 (6))),.im (.string ⟨([62,62]).toArray⟩),(.im (.int .i64 (6))),.im (.string ⟨([62,62,115]).toArray⟩),(.im (.int .i64 (6))),.im (.string ⟨([61,61]).toArray⟩),(.im (.int .i64 (4))),.im (.string ⟨([33,61]).toArray⟩),(.im (.int .i64 (4))),.im (.string ⟨([60,115]).toArray⟩),(.im (.int .i64 (5))),.im (.string ⟨([60]).toArray⟩),(.im (.int .i64 (5)))]) ?_
 refine goG bP TI ?_
 refine wG bP hw ?_
 refine fiGenO [.cell 2 198] (finG bP) ?_
 all_goals exact wkG (A4 aC @aD @aE aZ)
theorem Sf(o:Int)(ho:3≤o∧o≤15):PC Tryz.prog 143 [(.im (.int .i64 (o)))] (.ag [.im (.string ⟨(oJ o).toArray⟩),(.im (.int .i64 ((stO o:Int))))]):=by
 have:o=3∨o=4∨o=5∨o=6∨o=7∨o=8∨o=9∨o=10∨o=11∨o=12∨o=13∨o=14∨o=15:=by omega
 rcases this with rfl|rfl|rfl|rfl|rfl|rfl|rfl|rfl|rfl|rfl|rfl|rfl|rfl
 ·exact DP
 ·exact DO
 ·exact DN
 ·exact DM
 ·exact DL
 ·exact DK
 ·exact DJ
 ·exact Vr
 ·exact Vq
 ·exact Vp
 ·exact Vo
 ·exact Vn
 ·exact Vm
def tF:=A4 @cO @Ht @pA @cN
theorem Vc(o n:Int)(s:ByteArray)(w:Int)(l:List Ex):PC Tryz.prog 199 [exV (.mk o n s w l)] (.im (.int .i64 ((strE o:Int)))):=by
 refine pcEnt 23 Tryz.func199 rfl [(0,exV (.mk o n s w l))] ?_
 simp only[gV]
 by_cases h1:3≤o∧o≤15
 ·have q:=Sf o h1
  have e1:o≥3:=h1.1;have e2:o≤15:=h1.2;rw[show strE o=stO o from if_pos h1]
  refine wG tF (AI e1 e2) ?_;refine AR.callP q TI (A4 aC @aD @aE aZ) ?_;refine goG tF TI ?_;refine wG tF TI ?_;exact aB
 have hs:strE o=if o=16∨o=17 then 9 else 10:=if_neg h1
 have hb:(decide (o≥3)&&decide (o≤15))=false:=by simp;omega
 rw[hs]
 by_cases h3:o=16
 ·subst h3
  refine wG tF TI ?_;exact aB
 by_cases h4:o=17
 ·subst h4
  refine wG tF TI ?_;exact aB
 rw[if_neg (by omega)]
 by_cases e1:o≥3
 ·have e2: ¬o≤15:=by omega
  refine wG tF (A4 e1 e2 h3 h4) ?_;exact aB
 ·refine wG tF (A3 e1 h3 h4) ?_
  exact aB
theorem sO{m:Nat}(h:m≤9):Lib.itoa (m:Int)=[hexD m]:=by
 unfold Lib.itoa
 rw[if_neg (by omega),Int.toNat_natCast,Lib.decDigits,dif_pos (by omega)]
 have: ∀m<10,[UInt8.ofNat (48+m)]=[hexD m]:=by decide
 exact this m (by omega)
theorem Uo{w:Int}(h:w=1∨w=2∨w=4):Lib.itoa w=wB w:=by
 rcases h with rfl|rfl|rfl
 ·exact sO (m:=1) (by decide)
 ·exact sO (m:=2) (by decide)
 ·exact sO (m:=4) (by decide)
theorem yY(o:Int)(t:Bs)(need:Nat):t.length≤(opdT o t need).length:=by
 unfold opdT
 split
 ·simp only[List.length_cons,List.length_append];omega
 ·exact Nat.le_refl _
def mI:=A5 @fB @mJ @jN @dK @dA
theorem wU(e:Ex)(need:Nat)(hn:need≤10)(hlen:(opdT e.op (txE e) need).length≤140737488355328)(q:PC Tryz.prog 75 [exV e] (.im (.string ⟨(txE e).toArray⟩))):PC Tryz.prog 142 [exV e,(.im (.int .i64 ((need:Int))))] (.im (.string ⟨(opdT e.op (txE e) need).toArray⟩)):=by
 have qs:PC Tryz.prog 199 [exV e] (.im (.int .i64 ((strE e.op:Int)))):=by
  obtain⟨o,n,s,w,l⟩:=e;exact Vc o n s w l
 by_cases h:strE e.op<need
 ·have h1:(strE e.op:Int)<(need:Int):=by omega
  have he:opdT e.op (txE e) need=40::(txE e++[41]):=if_pos h;rw[he]at hlen ⊢;have qj:=KP [40] (txE e) [41] _ rfl hlen;refine pcEnt 15 Tryz.func142 rfl [(0,exV e),(1,(.im (.int .i64 ((need:Int)))))] ?_
  refine wG mI BN01 ?_;refine AR.callP qs @bH (A4 aC @aD @aE aZ) ?_;refine goG mI (A9 @gA @eO @fY @fX @fZ @eP @List.getElem?_map.{0,0} @Int.natCast_nonneg h1) ?_;refine wG mI (A9 @gA @eO @fY @fX @fZ @eP @List.getElem?_map.{0,0} @Int.natCast_nonneg h1) ?_;refine AR.callP q @bH (A4 aC @aD @aE aZ) ?_;refine goG mI TI ?_;refine dI qj TI (A4 aC @aD @aE aZ) ?_;refine goG mI TI ?_;refine wG mI TI ?_;exact aB
 ·have h1: ¬(strE e.op:Int)<(need:Int):=by omega
  have he:opdT e.op (txE e) need=txE e:=if_neg h;rw[he]at hlen ⊢;refine pcEnt 15 Tryz.func142 rfl [(0,exV e),(1,(.im (.int .i64 ((need:Int)))))] ?_
  refine wG mI BN01 ?_;refine AR.callP qs @bH (A4 aC @aD @aE aZ) ?_;refine goG mI (A9 @gA @eO @fY @fX @fZ @eP @List.getElem?_map.{0,0} @Int.natCast_nonneg h1) ?_;refine wG mI (A9 @gA @eO @fY @fX @fZ @eP @List.getElem?_map.{0,0} @Int.natCast_nonneg h1) ?_;refine AR.callP q @bH (A4 aC @aD @aE aZ) ?_;refine goG mI TI ?_;refine wG mI TI ?_;exact aB
theorem BI{m:Nat}(h:m≤9):Lib.itoa (m:Int)=uU m:=(sO h).trans (if_pos h).symm
def eZ:=A16 @cO @nP @hU @fB @dR @Sy @mJ @gM @jN @Wi @Ht @pA @Cj @xB @Ci (A11 @lU @vN @tP @Ss @cN @nN @hM @dK @dA @vL @tJ)
theorem xV: ∀(e:Ex),fitE e→efm e=true→(txE e).length≤140737488355328→PC Tryz.prog 75 [exV e] (.im (.string ⟨(txE e).toArray⟩)):=by
 refine Ex.induct fun o n s w l hE=> ?_
 intro hfit hf hlen
 obtain⟨hl1,hfE⟩:=pZ hfit
 obtain⟨_,hn,_⟩:=Qx hfit
 rw[vB,Bool.and_eq_true]at hf
 obtain⟨hb,hl⟩:=hf
 have IH:=fun t ht=>hE t ht (hfE t ht) (List.all_eq_true.1 hl t ht)
 clear hE hl hfE
 obtain⟨n,rfl⟩: ∃m:Nat,n=m:=⟨n.toNat,by omega⟩
 rw[sH]at hlen ⊢
 rcases wP hb with ⟨rfl,_,_,h4⟩|⟨rfl,h1,_,_,h4⟩|⟨ho,_,_,_,h4⟩|⟨ho,_,_,_,h4⟩|⟨rfl,_,_,h3,h4⟩|⟨rfl,_,_,h3,h4⟩
 ·rw[show txN 1 (n:Int) s.data.toList w l (l.map txE)=uU n from rfl]
  by_cases h9:n≤9
  ·have h9':(n:Int)≤9:=by omega
   have q:=vC n (by omega) (by omega)
   rw[BI h9]at q;have hw:IntKind.i64.wrap (n:Int)=n:=cU (by omega)
   refine pcEnt 86 Tryz.func75 rfl [(0,exV (.mk 1 (n:Int) s w l))] ?_
   simp only[gV];refine wG eZ (AI h9' hw) ?_;refine AR.callP q TI (A4 aC @aD @aE aZ) ?_;refine goG eZ TI ?_;refine wG eZ TI ?_;exact aB
  ·have h9': ¬(n:Int)≤9:=by omega
   have q:=Kq n (by omega)
   rw[show uU n=48::120::lX n from if_neg h9]
   refine pcEnt 86 Tryz.func75 rfl [(0,exV (.mk 1 (n:Int) s w l))] ?_
   simp only[gV];refine wG eZ h9' ?_;refine AR.callP q TI (A4 aC @aD @aE aZ) ?_;refine goG eZ TI ?_;refine wG eZ TI ?_;exact aB
 ·rw[show txN 2 (n:Int) s.data.toList w l (l.map txE)=s.data.toList from rfl,show ByteArray.mk s.data.toList.toArray=s from rfl]
  refine pcEnt 86 Tryz.func75 rfl [(0,exV (.mk 2 (n:Int) s w l))] ?_
  simp only[gV];refine wG eZ TI ?_;exact aB
 ·obtain⟨a,b,rfl⟩: ∃a b,l=[a,b]:=by
   match l,h4 with
   | [a,b],_=>exact⟨a,b,rfl⟩
  have e1:txN o (n:Int) s.data.toList w [a,b] ([a,b].map txE)=opdT a.op (txE a) (stO o)++([32]++(oJ o++([32]++opdT b.op (txE b) (stO o+1)))):=by
   unfold txN;rw[if_neg (by omega),if_neg (by omega),if_neg (by omega),if_neg (by omega),if_neg (by omega),if_neg (by omega)]
   rfl
  rw[e1]at hlen ⊢;obtain⟨_,_,q3,_⟩:=Lk ho;have hl0:=hlen;simp only[List.length_append]at hl0;have la:=yY a.op (txE a) (stO o);have lb:=yY b.op (txE b) (stO o+1);have qa:=wU a (stO o) (by omega) (by omega) (IH a (by simp) (by omega))
  have qb:=wU b (stO o+1) (by omega) (by omega) (IH b (by simp) (by omega))
  have qo:=Sf o ho;have qj:=XD (opdT a.op (txE a) (stO o)) [32] (oJ o) [32] (opdT b.op (txE b) (stO o+1)) _ rfl hlen;have hw:IntKind.i64.wrap ((stO o:Int)+1)=((stO o+1:Nat):Int):=by rw[cU (by omega)];omega
  have n1: ¬o=1:=by omega
  have n2: ¬o=2:=by omega
  have n3: ¬o=18:=by omega
  have n4: ¬o=19:=by omega
  have n5: ¬o=16:=by omega
  have n6: ¬o=17:=by omega
  clear IH;refine pcEnt 86 Tryz.func75 rfl [(0,exV (.mk o (n:Int) s w [a,b]))] ?_
  simp only[gV];refine wG eZ (A6 n1 n2 n3 n4 n5 n6) ?_;refine AR.callP qo TI (A4 aC @aD @aE aZ) ?_;refine goG eZ TI ?_;refine wdG eZ BN01 ?_;refine AR.callP qa @bH (A4 aC @aD @aE aZ) ?_;refine goG eZ (A9 @gA @eO @fY @fX @fZ @eP @List.getElem?_map.{0,0} @Int.natCast_nonneg hw) ?_;refine AR.callP qb @bH (A4 aC @aD @aE aZ) ?_;refine goG eZ TI ?_;refine dI qj TI (A4 aC @aD @aE aZ) ?_;refine goG eZ TI ?_;refine wdG eZ TI ?_;exact aB
 ·obtain⟨a,rfl⟩: ∃a,l=[a]:=by
   match l,h4 with
   | [a],_=>exact⟨a,rfl⟩
  rcases ho with rfl|rfl
  ·have e1:txN 16 (n:Int) s.data.toList w [a] ([a].map txE)=[33]++opdT a.op (txE a) 9:=rfl
   rw[e1]at hlen ⊢;have hl0:=hlen;simp only[List.length_append]at hl0;have la:=yY a.op (txE a) 9;have qa:=wU a 9 (by omega) (by omega) (IH a (by simp) (by omega))
   rw[show((9:Nat):Int)=9 from rfl]at qa
   have qj:=KQ [33] (opdT a.op (txE a) 9) _ rfl hlen;refine pcEnt 86 Tryz.func75 rfl [(0,exV (.mk 16 (n:Int) s w [a]))] ?_
   simp only[gV];refine wG eZ BN01 ?_;refine AR.callP qa @bH (A4 aC @aD @aE aZ) ?_;refine goG eZ TI ?_;refine dI qj TI (A4 aC @aD @aE aZ) ?_;refine goG eZ TI ?_;refine wG eZ TI ?_;exact aB
  ·have e1:txN 17 (n:Int) s.data.toList w [a] ([a].map txE)=[45]++opdT a.op (txE a) 9:=rfl
   rw[e1]at hlen ⊢;have hl0:=hlen;simp only[List.length_append]at hl0;have la:=yY a.op (txE a) 9;have qa:=wU a 9 (by omega) (by omega) (IH a (by simp) (by omega))
   rw[show((9:Nat):Int)=9 from rfl]at qa
   have qj:=KQ [45] (opdT a.op (txE a) 9) _ rfl hlen;refine pcEnt 86 Tryz.func75 rfl [(0,exV (.mk 17 (n:Int) s w [a]))] ?_
   simp only[gV];refine wG eZ BN01 ?_;refine AR.callP qa @bH (A4 aC @aD @aE aZ) ?_;refine goG eZ TI ?_;refine dI qj TI (A4 aC @aD @aE aZ) ?_;refine goG eZ TI ?_;refine wG eZ TI ?_;exact aB
 ·obtain⟨a,rfl⟩: ∃a,l=[a]:=by
   match l,h4 with
   | [a],_=>exact⟨a,rfl⟩
  have e1:txN 18 (n:Int) s.data.toList w [a] ([a].map txE)=[108,111,97,100]++(wB w++([40]++(txE a++[41]))):=rfl;rw[e1]at hlen ⊢;have hl0:=hlen;simp only[List.length_append]at hl0;have qa:=IH a (by simp) (by omega)
  have qi:=vC w (by omega) (by omega)
  rw[Uo h3]at qi;have qj:=XD [108,111,97,100] (wB w) [40] (txE a) [41] _ rfl hlen;refine pcEnt 86 Tryz.func75 rfl [(0,exV (.mk 18 (n:Int) s w [a]))] ?_
  simp only[gV];refine wdG eZ BN01 ?_;refine AR.callP qi TI (A4 aC @aD @aE aZ) ?_;refine goG eZ BN01 ?_;refine AR.callP qa @bH (A4 aC @aD @aE aZ) ?_;refine goG eZ TI ?_;refine dI qj TI (A4 aC @aD @aE aZ) ?_;refine goG eZ TI ?_;refine wdG eZ TI ?_;exact aB
 ·obtain⟨a,rfl⟩: ∃a,l=[a]:=by
   match l,h4 with
   | [a],_=>exact⟨a,rfl⟩
  have e1:txN 19 (n:Int) s.data.toList w [a] ([a].map txE)=[115,101,120,116]++(wB w++([40]++(txE a++[41]))):=rfl;rw[e1]at hlen ⊢;have hl0:=hlen;simp only[List.length_append]at hl0;have qa:=IH a (by simp) (by omega)
  have qi:=vC w (by omega) (by omega)
  rw[Uo (by omega)]at qi
  have qj:=XD [115,101,120,116] (wB w) [40] (txE a) [41] _ rfl hlen;refine pcEnt 86 Tryz.func75 rfl [(0,exV (.mk 19 (n:Int) s w [a]))] ?_
  simp only[gV];refine wdG eZ BN01 ?_;refine AR.callP qi TI (A4 aC @aD @aE aZ) ?_;refine goG eZ BN01 ?_;refine AR.callP qa @bH (A4 aC @aD @aE aZ) ?_;refine goG eZ TI ?_;refine dI qj TI (A4 aC @aD @aE aZ) ?_;refine goG eZ TI ?_;refine wdG eZ TI ?_;exact aB
theorem eH(g:Nat→Nat)(i:Nat)(t:TypeId):V.ren g (.nb i t)= .nb (g i) t:=by rw[V.ren]
def Nr:=A8 @tX @Hz @Hy @lH @La @rF @tM @iC
theorem He(b s:Bs)(k:Int)(hlen:b.length+s.length≤140737488355328):DC Tryz.prog 82 [.pt 0 0,.im (.string ⟨(s).toArray⟩)] [.box [.nb 0 PQ,.sl ((b).map byB) (.mine 1),(.im (.int .i64 (k)))],.tip 5 1 (b).length] (.tu [(.im (.int .i64 ((s.length:Int)))),.im Value.nilIface]) [.box [.nb 0 PQ,.sl (((b++s)).map byB) (.mine 1),(.im (.int .i64 (k)))],.tip 5 1 ((b++s)).length]:=by
 have h:=Mx (.sl (b.map byB) (.mine 1)) (.im (.int .i64 (k))) [.tip 5 1 b.length]
 obtain⟨B,hB⟩: ∃B,B=b++s:=⟨_,rfl⟩
 have hA:b.map byB++s.map byB=B.map byB:=by rw[hB,List.map_append]
 have hz:b.length+s.length=B.length:=by rw[hB,List.length_append]
 rw[←hB]
 refine dcEnt 19 Tryz.func82 rfl [(0,.pt 0 0),(1,.im (.string ⟨(s).toArray⟩))] ?_
 refine wG Nr TI ?_
 refine aA [0,1] h TI (A4 aC @aD @aE aZ) (A5 @aQ @aR fC cH eH) ?_
 refine goG Nr TI ?_
 have hl1:B.length*1≤140737488355328:=by omega
 have hl2:B.length≤140737488355328:=by omega
 refine wG Nr (A6 BY hA hz hl1 hl2 @List.length_map.{0,0}) ?_
 refine fiGen [.tmp 4,.tmp 5] (finG Nr) ?_ rfl (idG (A4 aC @aD @aE aZ))
 all_goals exact wkG (A4 aC @aD @aE aZ)
def xZ:=A9 @cO @tW @mJ @jN @xA @sB @cN @tL @dA
theorem Mw(b:Bs)(l:List Bs)(s:Bs)(hs:l.flatten=s)(k:Nat)(hl:l.length≤4194304)(hlen:(b++lnT k s).length≤140737488355328):DC Tryz.prog 36 [.pt 0 0,.sl (l.map sV) .ro] [.box [.nb 0 PQ,.sl ((b).map byB) (.mine 1),(.im (.int .i64 ((k:Int))))],.tip 5 1 (b).length] (.tu []) [.box [.nb 0 PQ,.sl (((b++lnT k s)).map byB) (.mine 1),(.im (.int .i64 ((k:Int))))],.tip 5 1 ((b++lnT k s)).length]:=by
 have hl0:=hlen
 unfold lnT at hl0
 simp only[List.length_append,Lib.repeatL_length,List.length_cons,List.length_nil]at hl0
 have q1:=LF [32,32] k (by omega) (by simp only[List.length_cons,List.length_nil];omega)
 have q2:=CX l s hs hl (by omega)
 have q3:=KP (Lib.repeatL [32,32] k) s [10] (lnT k s) rfl (by rw[List.length_append]at hlen;omega)
 have q4:=He b (lnT k s) k (by rw[List.length_append]at hlen;omega)
 generalize lnT k s=L at q3 q4 ⊢
 obtain⟨B,hB⟩: ∃B,B=b++L:=⟨_,rfl⟩
 rw[←hB]at q4 ⊢
 generalize Lib.repeatL [32,32] k=rp at q1 q3
 refine dcEnt 17 Tryz.func36 rfl [(0,.pt 0 0),(1,.sl (l.map sV) .ro)] ?_
 refine wdG xZ TI ?_
 refine AR.callP q1 TI (A4 aC @aD @aE aZ) ?_
 refine goG xZ TI ?_
 refine AR.callP q2 TI (A4 aC @aD @aE aZ) ?_
 refine goG xZ TI ?_
 refine dI q3 TI (A4 aC @aD @aE aZ) ?_
 refine goG xZ TI ?_
 refine aA [0,1] q4 TI (A4 aC @aD @aE aZ) (A5 @aQ @aR fC cH eH) ?_
 refine goG xZ TI ?_
 refine wdG xZ TI ?_
 refine fiGen [] (finG xZ) ?_ rfl (idG (A4 aC @aD @aE aZ))
 all_goals exact wkG (A4 aC @aD @aE aZ)
theorem Vx(a b:ByteArray):byV a++byV b=byV (a++b):=by
 unfold byV
 rw[←List.map_append]
 congr 1
theorem Vw(p:Nat→Bool)(a:ByteArray):V.idsL p (byV a)=true:=by
 unfold byV
 exact gH (fun _=>rfl) _
theorem Yu(g:Nat→Nat)(a:ByteArray):V.renL g (byV a)=byV a:=V.renL_id g _ (Vw _ a)
def Dy:=A8 @tX @Hz @Hy @lH @La @rF @tM @iC
def Wg:=A5 @bQ @bS @bR @bT Vw
def XV:=A6 @sT @sF @sS @sE Yu eH
theorem Is(b s:ByteArray)(hlen:b.size+s.size≤140737488355328):DC Tryz.prog 82 [.pt 0 0,.im (.string s)] [.box [.nb 0 206,.sl (byV (b)) (.mine 1)],.tip 5 1 (b).size] (.tu [(.im (.int .i64 ((s.size:Int)))),.im Value.nilIface]) [.box [.nb 0 206,.sl (byV ((b++s))) (.mine 1)],.tip 5 1 ((b++s)).size]:=by
 have h:=Se (.sl (byV b) (.mine 1)) [.tip 5 1 b.size]
 obtain⟨B,hB⟩: ∃B,B=b++s:=⟨_,rfl⟩
 have hA:byV b++byV s=byV B:=by rw[hB];exact Vx b s
 have hz:b.size+s.size=B.size:=by rw[hB,ByteArray.size_append]
 rw[←hB]
 refine dcEnt 19 Tryz.func82 rfl [(0,.pt 0 0),(1,.im (.string s))] ?_
 refine wG Dy TI ?_
 refine aA [0,1] h TI Wg XV ?_
 refine goG Dy TI ?_
 have hl1:B.size*1≤140737488355328:=by omega
 refine wG Dy (A4 hA hz hl1 lI) ?_
 refine fiGen [.tmp 4,.tmp 5] (finG Dy) ?_ rfl (idG Wg)
 all_goals exact wkG Wg
theorem E1(a b c d r:Bs)(hr:a++(b++(c++d))=r)(hlen:r.length≤140737488355328):PC Tryz.prog 83 [.sl [.im (.string ⟨(a).toArray⟩),.im (.string ⟨(b).toArray⟩),.im (.string ⟨(c).toArray⟩),.im (.string ⟨(d).toArray⟩)] .ro] (.im (.string ⟨(r).toArray⟩)):=CX [a,b,c,d] r (by simpa using hr) (by simp) hlen
theorem E0(a b c d e f g r:Bs)(hr:a++(b++(c++(d++(e++(f++g)))))=r)(hlen:r.length≤140737488355328):PC Tryz.prog 83 [.sl [.im (.string ⟨(a).toArray⟩),.im (.string ⟨(b).toArray⟩),.im (.string ⟨(c).toArray⟩),.im (.string ⟨(d).toArray⟩),.im (.string ⟨(e).toArray⟩),.im (.string ⟨(f).toArray⟩),.im (.string ⟨(g).toArray⟩)] .ro] (.im (.string ⟨(r).toArray⟩)):=CX [a,b,c,d,e,f,g] r (by simpa using hr) (by simp) hlen
theorem Sl(s:ByteArray):Value.string ⟨s.data.toList.toArray⟩=Value.string s:=rfl
def dJ:=A15 @cO @hU @fB @dR @mJ @gM @jN @iV @yK @mZ @iD @cN @hM @dK @dA
theorem CV(w:Int)(n:ByteArray)(e:List Ex)(l el:List Nd)(cs:List (List Nd))(hf:fitN (.mk 1 w n e l el cs))(hs:stT (.mk 1 w n e l el cs)=true)(hlen:(simT (.mk 1 w n e l el cs)).length≤140737488355328):PC Tryz.prog 210 [ndV (.mk 1 w n e l el cs)] (.im (.string ⟨(simT (.mk 1 w n e l el cs)).toArray⟩)):=by
 obtain⟨_,h2,h3,h4⟩:=iI hs
 obtain⟨_,_,⟨_,he⟩,_⟩:=dU hf
 simp only[Nd.kind,Nd.width,Nd.name,Nd.e]at h2 h3 h4 he
 obtain⟨a,rfl⟩:=yZ h2
 have e1:simT (.mk 1 w n [a] l el cs)=n.data.toList++([32,61,32]++(txE a++[59])):=rfl
 rw[e1]at hlen ⊢
 have hl0:=hlen
 simp only[List.length_append]at hl0
 have qa:=xV a (he a (by simp)) (h3 a (by simp)) (by omega)
 have qj:=E1 n.data.toList [32,61,32] (txE a) [59] _ rfl hlen
 rw[Sl]at qj
 clear hlen e1
 refine pcEnt 72 Tryz.func210 rfl [(0,ndV (.mk 1 w n [a] l el cs))] ?_
 simp only[eW]
 refine wdG dJ EX ?_
 refine AR.callP qa @bH (A7 aS aG aH aV @aD @aE aZ) ?_
 refine goG dJ TI ?_
 refine dI qj TI (A7 aS aG aH aV @aD @aE aZ) ?_
 refine goG dJ TI ?_
 refine wdG dJ TI ?_
 exact aB
theorem CU(w:Int)(n:ByteArray)(e:List Ex)(l el:List Nd)(cs:List (List Nd))(hf:fitN (.mk 2 w n e l el cs))(hs:stT (.mk 2 w n e l el cs)=true)(hlen:(simT (.mk 2 w n e l el cs)).length≤140737488355328):PC Tryz.prog 210 [ndV (.mk 2 w n e l el cs)] (.im (.string ⟨(simT (.mk 2 w n e l el cs)).toArray⟩)):=by
 obtain⟨_,h2,h3,h4⟩:=iI hs
 obtain⟨_,_,⟨_,he⟩,_⟩:=dU hf
 simp only[Nd.kind,Nd.width,Nd.name,Nd.e]at h2 h3 h4 he
 obtain⟨a,b,rfl⟩:=ER h2
 have e1:simT (.mk 2 w n [a,b] l el cs)=[115,116,111,114,101]++(wB w++([40]++(txE a++([44,32]++(txE b++[41,59]))))):=rfl
 rw[e1]at hlen ⊢
 have hl0:=hlen
 simp only[List.length_append]at hl0
 have qa:=xV a (he a (by simp)) (h3 a (by simp)) (by omega)
 have qb:=xV b (he b (by simp)) (h3 b (by simp)) (by omega)
 have h4:=h4 trivial
 have qw:=vC w (by omega) (by omega)
 rw[Uo h4]at qw
 have qj:=E0 [115,116,111,114,101] (wB w) [40] (txE a) [44,32] (txE b) [41,59] _ rfl hlen
 clear hlen e1
 refine pcEnt 72 Tryz.func210 rfl [(0,ndV (.mk 2 w n [a,b] l el cs))] ?_
 simp only[eW]
 refine wdG dJ EX ?_
 refine AR.callP qw TI (A7 aS aG aH aV @aD @aE aZ) ?_
 refine goG dJ EX ?_
 refine AR.callP qa @bH (A7 aS aG aH aV @aD @aE aZ) ?_
 refine goG dJ EX ?_
 refine AR.callP qb @bH (A7 aS aG aH aV @aD @aE aZ) ?_
 refine goG dJ TI ?_
 refine dI qj TI (A7 aS aG aH aV @aD @aE aZ) ?_
 refine goG dJ TI ?_
 refine wdG dJ TI ?_
 exact aB
theorem CT(w:Int)(n:ByteArray)(e:List Ex)(l el:List Nd)(cs:List (List Nd))(hf:fitN (.mk 3 w n e l el cs))(hs:stT (.mk 3 w n e l el cs)=true)(hlen:(simT (.mk 3 w n e l el cs)).length≤140737488355328):PC Tryz.prog 210 [ndV (.mk 3 w n e l el cs)] (.im (.string ⟨(simT (.mk 3 w n e l el cs)).toArray⟩)):=by
 obtain⟨_,h2,h3,h4⟩:=iI hs
 obtain⟨_,_,⟨_,he⟩,_⟩:=dU hf
 simp only[Nd.kind,Nd.width,Nd.name,Nd.e]at h2 h3 h4 he
 have e1:simT (.mk 3 w n e l el cs)=n.data.toList++[32,61,32,105,110,59]:=rfl
 rw[e1]at hlen ⊢
 have qj:=KQ n.data.toList [32,61,32,105,110,59] _ rfl hlen
 rw[Sl]at qj
 clear hlen e1
 refine pcEnt 72 Tryz.func210 rfl [(0,ndV (.mk 3 w n e l el cs))] ?_
 simp only[eW]
 refine wG dJ EX ?_
 refine dI qj TI (A7 aS aG aH aV @aD @aE aZ) ?_
 refine goG dJ TI ?_
 refine wG dJ TI ?_
 exact aB
theorem CS(w:Int)(n:ByteArray)(e:List Ex)(l el:List Nd)(cs:List (List Nd))(hf:fitN (.mk 4 w n e l el cs))(hs:stT (.mk 4 w n e l el cs)=true)(hlen:(simT (.mk 4 w n e l el cs)).length≤140737488355328):PC Tryz.prog 210 [ndV (.mk 4 w n e l el cs)] (.im (.string ⟨(simT (.mk 4 w n e l el cs)).toArray⟩)):=by
 obtain⟨_,h2,h3,h4⟩:=iI hs
 obtain⟨_,_,⟨_,he⟩,_⟩:=dU hf
 simp only[Nd.kind,Nd.width,Nd.name,Nd.e]at h2 h3 h4 he
 obtain⟨a,rfl⟩:=yZ h2
 have e1:simT (.mk 4 w n [a] l el cs)=[111,117,116,32]++(txE a++[59]):=rfl
 rw[e1]at hlen ⊢
 have hl0:=hlen
 simp only[List.length_append]at hl0
 have qa:=xV a (he a (by simp)) (h3 a (by simp)) (by omega)
 have qj:=KP [111,117,116,32] (txE a) [59] _ rfl hlen
 clear hlen e1
 refine pcEnt 72 Tryz.func210 rfl [(0,ndV (.mk 4 w n [a] l el cs))] ?_
 simp only[eW]
 refine wG dJ EX ?_
 refine AR.callP qa @bH (A7 aS aG aH aV @aD @aE aZ) ?_
 refine goG dJ TI ?_
 refine dI qj TI (A7 aS aG aH aV @aD @aE aZ) ?_
 refine goG dJ TI ?_
 refine wG dJ TI ?_
 exact aB
theorem CR(w:Int)(n:ByteArray)(e:List Ex)(l el:List Nd)(cs:List (List Nd))(hf:fitN (.mk 5 w n e l el cs))(hs:stT (.mk 5 w n e l el cs)=true)(hlen:(simT (.mk 5 w n e l el cs)).length≤140737488355328):PC Tryz.prog 210 [ndV (.mk 5 w n e l el cs)] (.im (.string ⟨(simT (.mk 5 w n e l el cs)).toArray⟩)):=by
 obtain⟨_,h2,h3,h4⟩:=iI hs
 obtain⟨_,_,⟨_,he⟩,_⟩:=dU hf
 simp only[Nd.kind,Nd.width,Nd.name,Nd.e]at h2 h3 h4 he
 have e1:simT (.mk 5 w n e l el cs)=[99,97,108,108,32]++(n.data.toList++[59]):=rfl
 rw[e1]at hlen ⊢
 have qj:=KP [99,97,108,108,32] n.data.toList [59] _ rfl hlen
 rw[Sl]at qj
 clear hlen e1
 refine pcEnt 72 Tryz.func210 rfl [(0,ndV (.mk 5 w n e l el cs))] ?_
 simp only[eW]
 refine wG dJ EX ?_
 refine dI qj TI (A7 aS aG aH aV @aD @aE aZ) ?_
 refine goG dJ TI ?_
 refine wG dJ TI ?_
 exact aB
theorem Vg(w:Int)(n:ByteArray)(e:List Ex)(l el:List Nd)(cs:List (List Nd))(hf:fitN (.mk 12 w n e l el cs))(hs:stT (.mk 12 w n e l el cs)=true)(hlen:(simT (.mk 12 w n e l el cs)).length≤140737488355328):PC Tryz.prog 210 [ndV (.mk 12 w n e l el cs)] (.im (.string ⟨(simT (.mk 12 w n e l el cs)).toArray⟩)):=by
 obtain⟨_,h2,h3,h4⟩:=iI hs
 obtain⟨_,_,⟨_,he⟩,_⟩:=dU hf
 simp only[Nd.kind,Nd.width,Nd.name,Nd.e]at h2 h3 h4 he
 have e1:simT (.mk 12 w n e l el cs)=[103,111,116,111,32]++(n.data.toList++[59]):=rfl
 rw[e1]at hlen ⊢
 have qj:=KP [103,111,116,111,32] n.data.toList [59] _ rfl hlen
 rw[Sl]at qj
 clear hlen e1
 refine pcEnt 72 Tryz.func210 rfl [(0,ndV (.mk 12 w n e l el cs))] ?_
 simp only[eW]
 refine wG dJ EX ?_
 refine dI qj TI (A7 aS aG aH aV @aD @aE aZ) ?_
 refine goG dJ TI ?_
 refine wG dJ TI ?_
 exact aB
theorem Vf(w:Int)(n:ByteArray)(e:List Ex)(l el:List Nd)(cs:List (List Nd))(hf:fitN (.mk 13 w n e l el cs))(hs:stT (.mk 13 w n e l el cs)=true)(hlen:(simT (.mk 13 w n e l el cs)).length≤140737488355328):PC Tryz.prog 210 [ndV (.mk 13 w n e l el cs)] (.im (.string ⟨(simT (.mk 13 w n e l el cs)).toArray⟩)):=by
 obtain⟨_,h2,h3,h4⟩:=iI hs
 obtain⟨_,_,⟨_,he⟩,_⟩:=dU hf
 simp only[Nd.kind,Nd.width,Nd.name,Nd.e]at h2 h3 h4 he
 have e1:simT (.mk 13 w n e l el cs)=n.data.toList++[58]:=rfl
 rw[e1]at hlen ⊢
 have qj:=KQ n.data.toList [58] _ rfl hlen
 rw[Sl]at qj
 clear hlen e1
 refine pcEnt 72 Tryz.func210 rfl [(0,ndV (.mk 13 w n e l el cs))] ?_
 simp only[eW]
 refine wG dJ EX ?_
 refine dI qj TI (A7 aS aG aH aV @aD @aE aZ) ?_
 refine goG dJ TI ?_
 refine wG dJ TI ?_
 exact aB
theorem Vi(w:Int)(n:ByteArray)(e:List Ex)(l el:List Nd)(cs:List (List Nd))(hf:fitN (.mk 10 w n e l el cs))(hs:stT (.mk 10 w n e l el cs)=true)(hlen:(simT (.mk 10 w n e l el cs)).length≤140737488355328):PC Tryz.prog 210 [ndV (.mk 10 w n e l el cs)] (.im (.string ⟨(simT (.mk 10 w n e l el cs)).toArray⟩)):=by
 obtain⟨_,h2,h3,h4⟩:=iI hs
 obtain⟨_,_,⟨_,he⟩,_⟩:=dU hf
 simp only[Nd.kind,Nd.width,Nd.name,Nd.e]at h2 h3 h4 he
 have e1:simT (.mk 10 w n e l el cs)=[98,114,101,97,107,59]:=rfl
 rw[e1]at hlen ⊢
 clear hlen e1
 refine pcEnt 72 Tryz.func210 rfl [(0,ndV (.mk 10 w n e l el cs))] ?_
 simp only[eW]
 refine wG dJ EX ?_
 exact aB
theorem Vh(w:Int)(n:ByteArray)(e:List Ex)(l el:List Nd)(cs:List (List Nd))(hf:fitN (.mk 11 w n e l el cs))(hs:stT (.mk 11 w n e l el cs)=true)(hlen:(simT (.mk 11 w n e l el cs)).length≤140737488355328):PC Tryz.prog 210 [ndV (.mk 11 w n e l el cs)] (.im (.string ⟨(simT (.mk 11 w n e l el cs)).toArray⟩)):=by
 obtain⟨_,h2,h3,h4⟩:=iI hs
 obtain⟨_,_,⟨_,he⟩,_⟩:=dU hf
 simp only[Nd.kind,Nd.width,Nd.name,Nd.e]at h2 h3 h4 he
 have e1:simT (.mk 11 w n e l el cs)=[99,111,110,116,105,110,117,101,59]:=rfl
 rw[e1]at hlen ⊢
 clear hlen e1
 refine pcEnt 72 Tryz.func210 rfl [(0,ndV (.mk 11 w n e l el cs))] ?_
 simp only[eW]
 refine wG dJ EX ?_
 exact aB
theorem Ve(w:Int)(n:ByteArray)(e:List Ex)(l el:List Nd)(cs:List (List Nd))(hf:fitN (.mk 14 w n e l el cs))(hs:stT (.mk 14 w n e l el cs)=true)(hlen:(simT (.mk 14 w n e l el cs)).length≤140737488355328):PC Tryz.prog 210 [ndV (.mk 14 w n e l el cs)] (.im (.string ⟨(simT (.mk 14 w n e l el cs)).toArray⟩)):=by
 obtain⟨_,h2,h3,h4⟩:=iI hs
 obtain⟨_,_,⟨_,he⟩,_⟩:=dU hf
 simp only[Nd.kind,Nd.width,Nd.name,Nd.e]at h2 h3 h4 he
 have e1:simT (.mk 14 w n e l el cs)=[114,101,116,117,114,110,59]:=rfl
 rw[e1]at hlen ⊢
 clear hlen e1
 refine pcEnt 72 Tryz.func210 rfl [(0,ndV (.mk 14 w n e l el cs))] ?_
 simp only[eW]
 refine wG dJ EX ?_
 exact aB
theorem Vd(w:Int)(n:ByteArray)(e:List Ex)(l el:List Nd)(cs:List (List Nd))(hf:fitN (.mk 15 w n e l el cs))(hs:stT (.mk 15 w n e l el cs)=true)(hlen:(simT (.mk 15 w n e l el cs)).length≤140737488355328):PC Tryz.prog 210 [ndV (.mk 15 w n e l el cs)] (.im (.string ⟨(simT (.mk 15 w n e l el cs)).toArray⟩)):=by
 obtain⟨_,h2,h3,h4⟩:=iI hs
 obtain⟨_,_,⟨_,he⟩,_⟩:=dU hf
 simp only[Nd.kind,Nd.width,Nd.name,Nd.e]at h2 h3 h4 he
 have e1:simT (.mk 15 w n e l el cs)=[104,97,108,116,59]:=rfl
 rw[e1]at hlen ⊢
 clear hlen e1
 refine pcEnt 72 Tryz.func210 rfl [(0,ndV (.mk 15 w n e l el cs))] ?_
 simp only[eW]
 refine wG dJ EX ?_
 exact aB
theorem KD(t:Nd)(hf:fitN t)(hs:stT t=true)(hk:t.kind≠6∧t.kind≠7∧t.kind≠8∧t.kind≠9)(hlen:(simT t).length≤140737488355328):PC Tryz.prog 210 [ndV t] (.im (.string ⟨(simT t).toArray⟩)):=by
 obtain⟨h1,_⟩:=iI hs
 obtain⟨k,w,n,e,l,el,cs⟩:=t
 simp only[Nd.kind]at h1 hk
 have:k=1∨k=2∨k=3∨k=4∨k=5∨k=12∨k=13∨k=10∨k=11∨k=14∨k=15:=by omega
 rcases this with rfl|rfl|rfl|rfl|rfl|rfl|rfl|rfl|rfl|rfl|rfl
 ·exact CV w n e l el cs hf hs hlen
 ·exact CU w n e l el cs hf hs hlen
 ·exact CT w n e l el cs hf hs hlen
 ·exact CS w n e l el cs hf hs hlen
 ·exact CR w n e l el cs hf hs hlen
 ·exact Vg w n e l el cs hf hs hlen
 ·exact Vf w n e l el cs hf hs hlen
 ·exact Vi w n e l el cs hf hs hlen
 ·exact Vh w n e l el cs hf hs hlen
 ·exact Ve w n e l el cs hf hs hlen
 ·exact Vd w n e l el cs hf hs hlen
inductive TyF:Int→Int→Int→List Ty→List Ty→Prop
 | unk:TyF 0 0 0 [] []
 | any:TyF 6 0 0 [] []
 | num (k s:Int) (hk:k=1∨k=2) (hs:s=1∨s=2∨s=4):TyF k s 0 [] []
 | ptr (e:Ty):TyF 3 0 0 [e] []
 | arr (c:Int) (e:Ty) (hc:1≤c∧c≤65536):TyF 4 0 c [e] []
 | str (fs:List Ty):TyF 5 0 0 [] fs
theorem Ku{k s c:Int}{es fs:List Ty}(h:base k s c es.length fs.length=true):TyF k s c es fs:=by
 unfold base at h
 by_cases h1:(k==0||k==6)=true
 ·rw[if_pos h1]at h
  simp at h h1;obtain⟨⟨⟨rfl,rfl⟩,rfl⟩,rfl⟩:=h;rcases h1 with rfl|rfl
  ·exact .unk
  ·exact .any
 rw[if_neg h1]at h
 by_cases h2:(k==1||k==2)=true
 ·rw[if_pos h2]at h
  simp at h h2;obtain⟨⟨⟨hs,rfl⟩,rfl⟩,rfl⟩:=h;exact .num k s h2 (by omega)
 rw[if_neg h2]at h
 by_cases h3:(k==3)=true
 ·rw[if_pos h3]at h
  simp at h h3;obtain⟨⟨⟨rfl,rfl⟩,he⟩,rfl⟩:=h;subst h3;obtain⟨e,rfl⟩:=List.length_eq_one_iff.1 he;exact .ptr e
 rw[if_neg h3]at h
 by_cases h4:(k==4)=true
 ·rw[if_pos h4]at h
  simp at h h4;obtain⟨⟨⟨⟨rfl,hc1⟩,hc2⟩,he⟩,rfl⟩:=h;subst h4;obtain⟨e,rfl⟩:=List.length_eq_one_iff.1 he;exact .arr c e ⟨hc1,hc2⟩
 rw[if_neg h4]at h
 by_cases h5:(k==5)=true
 ·rw[if_pos h5]at h
  simp at h h5;obtain⟨⟨rfl,rfl⟩,rfl⟩:=h;subst h5;exact .str fs
 rw[if_neg h5]at h
 cases h
def Il(k s:Int):Bs:=(if k=1 then [105,110,116]else [117,105,110,116])++(if s=1 then [56]else if s=2 then [49,54]else [51,50])
def pcK(p:Int×List Tk):List Tk:=nuT p.1.toNat::opT [58]::p.2
def tlK:List (Int×List Tk)→List Tk
 | []=>[]
 | p::r=>opT [44]::(pcK p++tlK r)
def flK:List (Int×List Tk)→List Tk
 | []=>[]
 | p::r=>pcK p++tlK r
def YE(t:Ty)(es fs:List (List Tk)):List Tk :=
 if t.kind=0 then [opT [63]]else if t.kind=6 then [idT [97,110,121]]else if t.kind=1∨t.kind=2 then [idT (Il t.kind t.size)]
 else if t.kind=3 then opT [42]::es.headD []else if t.kind=4 then opT [91]::nuT t.count.toNat::opT [93]::es.headD []
 else opT [123]::(flK ((t.fields.map Ty.off).zip fs)++[opT [125]])
def tyK:Ty→List Tk:=Ty.para YE
theorem lZ(o k s c:Int)(es fs:List Ty):tyK (.mk o k s c es fs) =
  if k=0 then [opT [63]]else if k=6 then [idT [97,110,121]]else if k=1∨k=2 then [idT (Il k s)]
  else if k=3 then opT [42]::(es.map tyK).headD []else if k=4 then opT [91]::nuT c.toNat::opT [93]::(es.map tyK).headD []
  else opT [123]::(flK (fs.map fun f=>(f.off,tyK f))++[opT [125]]):=by
 have e:tyK (.mk o k s c es fs)=YE (.mk o k s c es fs) (es.map tyK) (fs.map tyK):=Ty.para_mk _ o k s c es fs
 rw[e]
 have hz:(List.map Ty.off fs).zip (List.map tyK fs)=fs.map fun f=>(f.off,tyK f):=List.zip_map' ..
 rw[←hz]
 rfl
theorem VL:Lib.itoa 8=[56]:=by simp[Lib.itoa,Lib.decDigits]
theorem OK:Lib.itoa 16=[49,54]:=by simp[Lib.itoa,Lib.decDigits]
theorem OJ:Lib.itoa 32=[51,50]:=by simp[Lib.itoa,Lib.decDigits]
theorem OA{k s:Int}(hk:k=1∨k=2)(hs:s=1∨s=2∨s=4)(o:Int):txT (.mk o k s 0 [] [])=Il k s:=by
 rw[sG]
 rcases hk with rfl|rfl<;>rcases hs with rfl|rfl|rfl<;>simp[Il,VL,OK,OJ]
theorem UY{k s:Int}(hk:k=1∨k=2)(hs:s=1∨s=2∨s=4){r:Bs}{l:List Tk}(hr:nW r=true)(h:Sc r l):Sc (Il k s++r) (idT (Il k s)::l):=by
 rcases hk with rfl|rfl<;>rcases hs with rfl|rfl|rfl<;>exact Sc.id (by decide) (by decide) (by decide) (by decide) (by decide) hr h
theorem YS{k s:Int}(hk:k=1∨k=2)(hs:s=1∨s=2∨s=4):intR (Il k s)=some (k,s):=by
 rcases hk with rfl|rfl<;>rcases hs with rfl|rfl|rfl<;>decide
def ScT(t:Ty):Prop:= ∀s l,nW s=true→Sc s l→Sc (txT t++s) (tyK t++l)
theorem Xy{fs:List Ty}(h: ∀i,i<fs.length→fok fs i=true): ∀f∈fs,0≤f.off∧f.off<65536:=by
 intro f hf
 obtain⟨i,hi,rfl⟩:=List.getElem_of_mem hf
 have:=h i hi
 unfold fok at this
 simp only[Bool.and_eq_true,decide_eq_true_eq]at this
 have e:(fs.map Ty.off).getD i 0=fs[i].off:=by simp[List.getD,hi]
 rw[e]at this
 exact this.1
theorem SF{f:Ty}(hf:ScT f)(ho:0≤f.off∧f.off<65536){s:Bs}{l:List Tk}(hs:nW s=true)(h:Sc s l):Sc (pcT (f.off,txT f)++s) (pcK (f.off,tyK f)++l):=by
 unfold pcT pcK
 obtain⟨n,hn⟩: ∃n:Nat,f.off=n:=⟨f.off.toNat,by omega⟩
 simp only[hn,Int.toNat_natCast,List.append_assoc,List.cons_append,List.nil_append]
 exact Sc.itoa (by omega) rfl (Sc.op (by decide) (Sc.sp (hf s l hs h)))
theorem SE: ∀(r:List Ty),(∀f∈r,ScT f∧0≤f.off∧f.off<65536)→ ∀s l,nW s=true→Sc s l→Sc (((r.map fun f=>(f.off,txT f)).map fun q=>[44,32]++pcT q).flatten++s) (tlK (r.map fun f=>(f.off,tyK f))++l)
 | [],_,s,l,_,h=>h
 | f::r,hr,s,l,hs,h=>by
  have ih:=SE r (fun x hx=>hr x (by simp[hx])) s l hs h
  simp only[List.map_cons,List.flatten_cons,List.append_assoc,List.cons_append,List.nil_append,tlK];refine Sc.op (by decide) (Sc.sp (SF (hr f (by simp)).1 (hr f (by simp)).2 ?_ ih))
  cases r with
  | nil=>exact hs
  | cons g r=>rfl
theorem YH: ∀t:Ty,frm t=true→ScT t:=by
 intro t
 induction t using Ty.induct with
 | h o k s c es fs ie iff_ =>
 intro hf r l hr h
 obtain⟨hb,hfo,h1,h2⟩:=pX hf
 cases Ku hb with
 | unk=>rw[sG,lZ];exact Sc.op (by decide) h
 | any=>rw[sG,lZ];exact Sc.id (w:=[97,110,121]) (by decide) (by decide) (by decide) (by decide) (by decide) hr h
 | num k s hk hs =>
  rw[OA hk hs,lZ,if_neg (by omega),if_neg (by omega),if_pos hk]
  exact UY hk hs hr h
 | ptr e =>
  rw[sG,lZ];exact Sc.op (by decide) (ie e (by simp) (h2 e (by simp)) r l hr h)
 | arr c e hc =>
  have e1:txT (.mk o 4 0 c [e] [])=([91]++Lib.itoa c++[93])++txT e:=by rw[sG];rfl
  have e2:tyK (.mk o 4 0 c [e] [])=opT [91]::nuT c.toNat::opT [93]::tyK e:=by rw[lZ];rfl
  obtain⟨n,rfl⟩: ∃n:Nat,c=n:=⟨c.toNat,by omega⟩
  rw[e1,e2];simp only[Int.toNat_natCast,List.append_assoc,List.cons_append,List.nil_append];exact Sc.op (by decide) (Sc.itoa (by omega) rfl (Sc.op (by decide) (ie e (by simp) (h2 e (by simp)) r l hr h)))
 | str fs =>
  have e1:txT (.mk o 5 0 0 [] fs)=[123]++fldT (fs.map fun f=>(f.off,txT f))++[125]:=by rw[sG];rfl
  have e2:tyK (.mk o 5 0 0 [] fs)=opT [123]::(flK (fs.map fun f=>(f.off,tyK f))++[opT [125]]):=by rw[lZ];rfl
  have hoff:=Xy hfo;rw[e1,e2];simp only[List.append_assoc,List.cons_append,List.nil_append];refine Sc.op (by decide) ?_
  have hend:Sc (125::r) (opT [125]::l):=Sc.op (by decide) h
  cases fs with
  | nil=>exact hend
  | cons f fs =>
   show Sc ((pcT (f.off,txT f)++((fs.map fun f=>(f.off,txT f)).map fun q=>[44,32]++pcT q).flatten)++125::r) ((pcK (f.off,tyK f)++tlK (fs.map fun f=>(f.off,tyK f)))++opT [125]::l)
   rw[List.append_assoc,List.append_assoc];have H: ∀x∈f::fs,ScT x:=fun x hx=>iff_ x hx (h1 x hx)
   refine SF (H f (by simp)) (hoff f (by simp)) ?_ (SE fs (fun x hx=>⟨H x (by simp[hx]),hoff x (by simp[hx])⟩) _ _ rfl hend)
   cases fs with
   | nil=>rfl
   | cons g fs=>rfl
section
variable {ts:List Tk}
def D6(ts:List Tk)(m:Md5)(a o:Nat)(z:Rs Ty):Prop:= ∃F,∀f,F≤f→tyM ts f m a o=some z
def RdT(ts:List Tk)(t:Ty):Prop:= ∀(n a o:Nat) (rest:List Tk),shal t n=true→o+n≤256→ts.drop a=tyK t++rest→ ∃t',D6 ts .ty a o (.ok t' (a+(tyK t).length) o)∧tyV t'=tyV t
theorem Tp{a o n:Nat}{l:List Tk}(h:ts.drop a=nuT n::l):takM ts 3 a o=some (.ok (nuT n) (a+1) o):=EU h
theorem VW{t' f:Ty}(h:tyV t'=tyV f){n:Int}(hn:n=f.off):fdV (t'.at_ n)=fdV f:=by
 subst hn
 rw[bM,bM]at h
 rw[mF,mF]
 injection h with h
 injection h with h1 h
 injection h with h2 h
 injection h with h3 h
 injection h with h4 h
 injection h with h5 h
 show V.ag [.im (.int .i64 f.off),.im (.int .i64 t'.kind),.im (.int .i64 t'.size),.im (.int .i64 t'.count),.sl (t'.elem.map tyV) .ro,.sl (t'.fields.map fdV) .ro]=_
 rw[h1,h2,h3,h4,h5]
theorem SH: ∀(fs:List Ty),(∀f∈fs,RdT ts f∧0≤f.off)→ ∀(n:Nat),(∀f∈fs,shal f n=true)→ ∀(acc:List Ty) (a o:Nat) (rest:List Tk),o+n≤256 →
  ts.drop a=(if acc.length=0 then flK (fs.map fun f=>(f.off,tyK f))else tlK (fs.map fun f=>(f.off,tyK f)))++opT [125]::rest →
  ∃fs',D6 ts (.fl acc) a o (.ok (.mk 0 5 0 0 [] (acc++fs')) (a+(if acc.length=0 then flK (fs.map fun f=>(f.off,tyK f))else tlK (fs.map fun f=>(f.off,tyK f))).length+1) (o-1))∧fs'.map fdV=fs.map fdV
 | [],_,n,_,acc,a,o,rest,ho,hd=>by
  have e:(if acc.length=0 then flK (([]:List Ty).map fun f=>(f.off,tyK f))else tlK (([]:List Ty).map fun f=>(f.off,tyK f)))=[]:=by split<;>rfl
  rw[e]at hd ⊢;rw[List.nil_append]at hd;refine⟨[],⟨1,fun f hf=> ?_⟩,rfl⟩
  cases f with
  | zero=>omega
  | succ f =>
   rw[tyM,if_pos (by rw[eI hd];decide),Br hd,bW,List.append_nil]
   rfl
 | g::fs,hR,n,hsh,acc,a,o,rest,ho,hd=>by
  obtain⟨hg,hoff⟩:=hR g (by simp)
  have main: ∀(a1:Nat),ts.drop a1=pcK (g.off,tyK g)++(tlK (fs.map fun f=>(f.off,tyK f))++opT [125]::rest) →
    ∃fs' F,(∀f,F≤f→(rb (takM ts 3 a1 o) fun n a o=>rb (expM ts [58] a o) fun _ a o=>rb (tyM ts f .ty a o) fun x a o=>tyM ts f (.fl (acc++[x.at_ n.n])) a o)=some (.ok (.mk 0 5 0 0 [] (acc++fs')) (a1+(pcK (g.off,tyK g)).length+(tlK (fs.map fun f=>(f.off,tyK f))).length+1) (o-1)))∧fs'.map fdV=(g::fs).map fdV:=by
   intro a1 h1;unfold pcK at h1;simp only[List.cons_append]at h1;have h2:=bY h1;have h3:=bY h2;obtain⟨t',⟨F,hF⟩,ht⟩:=hg n _ o _ (hsh g (by simp)) ho h3
   have h4:=kJ h3;have hne: ¬(acc++[t'.at_ ((g.off.toNat:Nat):Int)]).length=0:=by simp
   obtain⟨fs',⟨G,hG⟩,hfs⟩:=SH fs (fun x hx=>hR x (by simp[hx])) n (fun x hx=>hsh x (by simp[hx])) (acc++[t'.at_ ((g.off.toNat:Nat):Int)]) _ o rest ho (by rw[if_neg hne];exact h4)
   rw[if_neg hne]at hG;refine⟨t'.at_ ((g.off.toNat:Nat):Int)::fs',F+G,fun f hf=> ?_,?_⟩
   ·rw[Tp h1,bW,kI h2,bW,hF f (by omega),bW]
    show tyM ts f (.fl (acc++[t'.at_ ((g.off.toNat:Nat):Int)])) _ _=_
    rw[hG f (by omega),List.append_assoc]
    show some _=some _
    congr 2
    simp only[pcK,List.length_cons];omega
   ·rw[List.map_cons,List.map_cons,hfs,VW ht (by omega)]
  by_cases h0:acc.length=0
  ·rw[if_pos h0]at hd ⊢
   rw[List.map_cons]at hd ⊢;unfold flK at hd ⊢;rw[List.append_assoc]at hd;obtain⟨fs',F,hF,hfs⟩:=main a hd;refine⟨fs',⟨F+1,fun f hf=> ?_⟩,hfs⟩
   cases f with
   | zero=>omega
   | succ f =>
    have hs:sees ts a [125]=false:=by
     unfold pcK at hd;unfold sees;rw[cJ hd];rfl
    rw[tyM,if_neg (by rw[hs];decide),if_neg (by omega)]
    show rb (takM ts 3 a o) _=_
    rw[hF f (by omega),List.length_append,Nat.add_assoc a]
  ·rw[if_neg h0]at hd ⊢
   rw[List.map_cons]at hd ⊢;unfold tlK at hd ⊢;rw[List.cons_append,List.append_assoc]at hd;obtain⟨fs',F,hF,hfs⟩:=main (a+1) (bY hd);refine⟨fs',⟨F+1,fun f hf=> ?_⟩,hfs⟩
   cases f with
   | zero=>omega
   | succ f =>
    rw[tyM,if_neg (by rw[eI hd];decide),if_pos (by omega),kI hd,bW,hF f (by omega)]
    show some _=some _
    congr 2
    simp only[List.length_cons,List.length_append];omega
theorem YK: ∀t:Ty,frm t=true→RdT ts t:=by
 intro t
 induction t using Ty.induct with
 | h o k s c es fs ie iff_ =>
 intro hf n a p rest hsh ho hd
 obtain⟨hb,hfo,h1,h2⟩:=pX hf
 rw[sL]at hsh
 simp only[Bool.and_eq_true,decide_eq_true_eq,List.all_eq_true]at hsh
 obtain⟨⟨hn1,se⟩,sf⟩:=hsh
 obtain⟨m,rfl⟩: ∃m,n=m+1:=⟨n-1,by omega⟩
 rw[show((m+1:Nat):Int)-1=(m:Int) by omega]at se sf
 cases Ku hb with
 | unk =>
  have hd:ts.drop a=opT [63]::rest:=by rw[hd,lZ];rfl
  refine⟨.mk 0 0 0 0 [] [],⟨1,fun f hf=> ?_⟩,by rw[eE,eE]⟩
  cases f with
  | zero=>omega
  | succ f =>
   rw[tyM,if_neg (by rw[cJ hd];decide),if_pos (by rw[eI hd];decide),lZ]
   rfl
 | any =>
  have hd:ts.drop a=idT [97,110,121]::rest:=by rw[hd,lZ];rfl
  refine⟨.mk 0 6 0 0 [] [],⟨1,fun f hf=> ?_⟩,by rw[eE,eE]⟩
  cases f with
  | zero=>omega
  | succ f =>
   rw[tyM,if_pos (by rw[cJ hd];rfl),cJ hd,lZ]
   rfl
 | num k s hk hs =>
  have hK:tyK (.mk o k s 0 [] [])=[idT (Il k s)]:=by rw[lZ,if_neg (by omega),if_neg (by omega),if_pos hk]
  rw[hK]at hd ⊢;have hd:ts.drop a=idT (Il k s)::rest:=hd;refine⟨.mk 0 k s 0 [] [],⟨1,fun f hf=> ?_⟩,by rw[eE,eE]⟩
  cases f with
  | zero=>omega
  | succ f =>
   rw[tyM,if_pos (by rw[cJ hd];rfl),cJ hd,show intR (idT (Il k s)).text=some (k,s)from YS hk hs]
   rfl
 | ptr e =>
  have hK:tyK (.mk o 3 0 0 [e] [])=opT [42]::tyK e:=by rw[lZ];rfl
  rw[hK]at hd ⊢;rw[List.cons_append]at hd;obtain⟨t',⟨F,hF⟩,ht⟩:=ie e (by simp) (h2 e (by simp)) m _ (p+1) rest (se e (by simp)) (by omega) (bY hd)
  refine⟨.mk 0 3 0 0 [t'] [],⟨F+1,fun f hf=> ?_⟩,by rw[eE,eE,List.map_cons,List.map_cons,ht]⟩
  cases f with
  | zero=>omega
  | succ f =>
   rw[tyM,if_neg (by rw[cJ hd];decide),if_neg (by rw[eI hd];decide),if_pos (by rw[eI hd];decide),sY hd (by omega),bW,hF f (by omega),bW]
   show some _=some _
   congr 2<;>(simp only[List.length_cons]<;>omega)
 | arr c e hc =>
  have hK:tyK (.mk o 4 0 c [e] [])=opT [91]::nuT c.toNat::opT [93]::tyK e:=by rw[lZ];rfl
  rw[hK]at hd ⊢;simp only[List.cons_append]at hd;have d2:=bY hd;have d3:=bY d2;obtain⟨t',⟨F,hF⟩,ht⟩:=ie e (by simp) (h2 e (by simp)) m _ (p+1) rest (se e (by simp)) (by omega) (bY d3)
  refine⟨.mk 0 4 0 ((c.toNat:Nat):Int) [t'] [],⟨F+1,fun f hf=> ?_⟩,by rw[eE,eE,List.map_cons,List.map_cons,ht,show((c.toNat:Nat):Int)=c by omega]⟩
  cases f with
  | zero=>omega
  | succ f =>
   rw[tyM,if_neg (by rw[cJ hd];decide),if_neg (by rw[eI hd];decide),if_neg (by rw[eI hd];decide),if_pos (by rw[eI hd];decide),sY hd (by omega),bW,Tp d2,bW,kI d3,bW,hF f (by omega),bW]
   show some _=some _
   congr 2<;>(simp only[List.length_cons]<;>omega)
 | str fs =>
  have hK:tyK (.mk o 5 0 0 [] fs)=opT [123]::(flK (fs.map fun f=>(f.off,tyK f))++[opT [125]]):=by rw[lZ];rfl
  rw[hK]at hd ⊢;simp only[List.cons_append,List.append_assoc,List.nil_append]at hd;have hoff:=Xy hfo;obtain⟨fs',⟨F,hF⟩,hfs⟩:=SH fs (fun f hf=>⟨iff_ f hf (h1 f hf),(hoff f hf).1⟩) m sf [] (a+1) (p+1) rest (by omega) (bY hd)
  refine⟨.mk 0 5 0 0 [] fs',⟨F+1,fun f hf=> ?_⟩,by rw[eE,eE,hfs]⟩
  cases f with
  | zero=>omega
  | succ f =>
   rw[tyM,if_neg (by rw[cJ hd];decide),if_neg (by rw[eI hd];decide),if_neg (by rw[eI hd];decide),if_neg (by rw[eI hd];decide),if_pos (by rw[eI hd];decide),sY hd (by omega),bW,hF f (by omega)]
   show some _=some _
   congr 2
   show _+(flK (fs.map fun f=>(f.off,tyK f))).length+1=_
   simp only[List.length_cons,List.length_append,List.length_nil];omega
end
def Lx(l:List Tk)(k:Int):Int×Int:=if k<0 then(1,1)else match l[min k.toNat (l.length-1)]? with
 | some t=>(t.line,t.col)
 | none=>(1,1)
def tA:=A8 @pS @cO @kM @oU @yM @yL @gU @cN
theorem Hf(l:List Tk)(k:Int)(hl:l.length≤4194304):PC Tryz.prog 64 [.sl (l.map tkV) .ro,(.im (.int .i64 (k)))] (.tu [(.im (.int .i64 ((Lx l k).1))),(.im (.int .i64 ((Lx l k).2)))]):=by
 by_cases h0:k<0
 ·rw[show Lx l k=(1,1)from if_pos h0]
  refine pcEnt 26 Tryz.func64 rfl [(0,.sl (l.map tkV) .ro),(1,(.im (.int .i64 (k))))] ?_
  refine wG tA (AI TKT h0) ?_;refine fiGenO [.tmp 4,.tmp 5] (finG tA) ?_
  all_goals exact wkG (A4 bC aX aC aZ)
 cases hE:l with
 | nil =>
  rw[show Lx [] k=(1,1) by unfold Lx;split<;>rfl]
  refine pcEnt 26 Tryz.func64 rfl [(0,.sl (([]:List Tk).map tkV) .ro),(1,(.im (.int .i64 (k))))] ?_
  refine wG tA (AI TKT h0) ?_;refine fiGenO [.tmp 4,.tmp 5] (finG tA) ?_
  all_goals exact wkG (A4 bC aX aC aZ)
 | cons x r =>
 rw[←hE]
 have hpos:1≤l.length:=by rw[hE];simp
 clear hE
 have hne: ¬(l.length:Int)=0:=by omega
 have hw:IntKind.i64.wrap ((l.length:Int)-1)=((l.length-1:Nat):Int):=by rw[cU (by omega)];omega
 obtain⟨j,hj⟩: ∃j,j=min k.toNat (l.length-1):=⟨_,rfl⟩
 have hjl:j<l.length:=by omega
 have hg:l[j]? =some l[j]:=List.getElem?_eq_getElem hjl
 have hR:Lx l k=(l[j].line,l[j].col):=by
  unfold Lx;rw[if_neg h0,←hj,hg]
 rw[hR]
 clear hR
 generalize l[j]=t at hg
 have hmin:(if((l.length-1:Nat):Int)<k then((l.length-1:Nat):Int)else k)=(j:Int):=by split<;>omega
 refine pcEnt 26 Tryz.func64 rfl [(0,.sl (l.map tkV) .ro),(1,(.im (.int .i64 (k))))] ?_
 refine wG tA (A3 TKT h0 hne) ?_
 refine wdG tA (A7 TKT h0 hne hw hg hmin @Int.toNat_natCast) ?_
 refine fiGenO [.tmp 4,.tmp 5] (finG tA) ?_
 all_goals exact wkG (A4 bC aX aC aZ)
def tC:=A16 @cO @nP @hU @fB @dR @gM @pA @Cj @xB @Ci @lU @cN @nN @hM @dK @dA
theorem Vu: ∀(a:Ex),fitE a→ ∀b,fitE b→PC Tryz.prog 24 [exV a,exV b] (.im (.bool (samE a b))):=by
 refine Ex.induct fun o k s w l hL=> ?_
 intro hfit b hfb
 obtain⟨o',k',s',w',l'⟩:=b
 obtain⟨hl1,hfL⟩:=pZ hfit
 obtain⟨hl2,hfL'⟩:=pZ hfb
 rw[Xf]
 simp only[Ex.op,Ex.n,Ex.name,Ex.width,Ex.l]
 refine pcEnt 60 Tryz.func24 rfl [(0,exV (.mk o k s w l)),(1,exV (.mk o' k' s' w' l'))] ?_
 simp only[gV]
 refine wG tC TI ?_
 refine cY rfl rfl (fun hE=> ?_) (fun hE=> ?_)
 ·have hr:(o==o'&&k==k'&&eqS s s'&&w==w'&&all2 samE l l')=false:=by
   simp only[Bool.or_eq_true,bne_iff_ne,ne_eq,Bool.not_eq_true',decide_eq_false_iff_not,beq_eq_false_iff_ne]at hE;rcases hE with (((hE|hE)|hE)|hE)|hE
   ·simp[hE]
   ·simp[hE]
   ·have:eqS s s'=false:=by unfold eqS;simpa using hE
    simp[this]
   ·simp[hE]
   ·rw[RF (by omega)];simp
  rw[hr];refine wG tC TI ?_;exact aB
 ·simp only[Bool.or_eq_false_iff,bne_eq_false_iff_eq,beq_iff_eq,Bool.not_eq_false',decide_eq_true_eq]at hE
  obtain⟨⟨⟨⟨rfl,rfl⟩,hs⟩,rfl⟩,h4⟩:=hE;obtain rfl:s=s':=(wO s s').1 (by unfold eqS;simpa using hs)
  have h4:l.length=l'.length:=by omega
  have hr:(o==o&&k==k&&eqS s s&&w==w&&all2 samE l l')=all2 samE l l':=by simp[Qz]
  rw[hr];clear hr hs;refine wG tC TI ?_;refine aP ?_;refine ALp.cutP 2 [(2,.pt 0 0),(3,.pt 1 0),(5,(.im (.int .i64 ((((0:Nat)):Int)))))] [.box [.im (.int .i64 o),.im (.int .u32 k),.im (.string s),.im (.int .i64 w),.sl (l.map exV) .ro],.box [.im (.int .i64 o),.im (.int .u32 k),.im (.string s),.im (.int .i64 w),.sl (l'.map exV) .ro]] (A4 @aD @aL @aE @aN) ?_;refine aW l.length (to2 samE l l') (fun m=>⟨dn 60 [(2,.pt 0 0),(3,.pt 1 0),(5,(.im (.int .i64 ((((m:Nat)):Int)))))],ofl [.box [.im (.int .i64 o),.im (.int .u32 k),.im (.string s),.im (.int .i64 w),.sl (l.map exV) .ro],.box [.im (.int .i64 o),.im (.int .u32 k),.im (.string s),.im (.int .i64 w),.sl (l'.map exV) .ro]]⟩) ?_ 0 (Nat.zero_le _) (to2.zero _ _ _)
  intro m hm hI hnext
  by_cases hlt:m<l.length
  ·have hlt2:m<l'.length:=by omega
   have hlt':(m:Int)<(l.length:Int):=by omega
   have hlt2':(m:Int)<(l'.length:Int):=by omega
   have hg:=bB hlt;have hg2:=bB hlt2;have hm1:=aK hlt (by omega)
   have hc:=hL l[m] (List.getElem_mem hlt) (hfL _ (List.getElem_mem hlt)) l'[m] (hfL' _ (List.getElem_mem hlt2));refine wdG tC (A5 hlt' hlt2' hg hg2 EX) ?_;refine AR.callP hc @bH (A4 @aD @aL @aE @aN) ?_;cases hs:samE l[m] l'[m]with
   | false =>
    rw[RG hlt hlt2 hs];refine goG tC hs ?_;refine wdG tC TI ?_;exact aB
   | true =>
    refine goG tC hs ?_;refine wdG tC hm1 ?_;refine ALp.cutP 2 [(2,.pt 0 0),(3,.pt 1 0),(5,(.im (.int .i64 ((((m+1:Nat)):Int)))))] [.box [.im (.int .i64 o),.im (.int .u32 k),.im (.string s),.im (.int .i64 w),.sl (l.map exV) .ro],.box [.im (.int .i64 o),.im (.int .u32 k),.im (.string s),.im (.int .i64 w),.sl (l'.map exV) .ro]] (A4 @aD @aL @aE @aN) ?_;exact hnext (m+1) (by omega) (by omega) (hI.succ hlt hlt2 hs)
  obtain rfl:m=l.length:=by omega
  rw[hI.all h4];clear hnext hI;refine wG tC @Int.lt_irrefl ?_;exact aB
def nK:=A10 @Oo @Hz @Hy @lH @tO @yH @rF @rE @tI @iC
theorem QJ(s:Bs)(hs:s.length≤4194304):PC Tryz.prog 38 [.sl (s.map byB) .ro] (.im (.string ⟨(quoS s).toArray⟩)):=by
 have hA0:s.length≤140737488355328:=by omega
 refine pcEnt 47 Tryz.func38 rfl [(0,.sl (s.map byB) .ro)] ?_
 refine wG nK (A3 BY dB hA0) ?_
 refine aP ?_
 refine ALp.ghost 3 [.im (.int .u8 (34))] .full 5 1 ?_
 suffices H: ∀(k m:Nat) (A:Bs),s.length-m=k→m≤s.length→A=34::(s.take m).flatMap escC→ALp _ _ _ _ _ ⟨dn 47 [(3,.sl (A.map byB) (.own 0)),(7,.sl (s.map byB) .ro),(8,(.im (.int .i64 (s.length)))),(9,(.im (.int .i64 ((((m:Nat)):Int)))))],ofl [.tip 5 1 A.length]⟩ by
  refine ALp.cutP 1 [(3,.sl (([34]:Bs).map byB) (.own 0)),(7,.sl (s.map byB) .ro),(8,(.im (.int .i64 (s.length)))),(9,(.im (.int .i64 ((((0:Nat)):Int)))))] [.tip 5 1 ([34]:Bs).length] aC ?_;exact H _ 0 [34] rfl (Nat.zero_le _) (by simp)
 intro k
 induction k using Nat.strongRecOn with
 | _ k ih =>
 intro m A hk hml hA
 have hAl:A.length≤1+4*m:=by
  rw[hA]
  have: ∀l:Bs,(l.flatMap escC).length≤4*l.length:=fun l=>by
   induction l with
   | nil=>simp
   | cons c l ih =>
    have h1:(escC c).length≤4:=by unfold escC;split<;>(try split)<;>simp
    rw[List.flatMap_cons,List.length_append,List.length_cons];omega
  have h2:=this (s.take m);rw[List.length_take]at h2;rw[List.length_cons];omega
 refine dF ?_
 by_cases hlt:m<s.length
 case neg =>
  obtain rfl:m=s.length:=by omega
  have hn: ¬(s.length:Int)<(s.length:Int):=by omega
  obtain⟨B,hB⟩: ∃B,B=A++[34]:=⟨_,rfl⟩
  have hQ:quoS s=B:=by rw[hB,hA,List.take_length];rfl
  have hAs:A.map byB++[V.im (.int .u8 34)]=B.map byB:=by rw[hB,List.map_append];rfl
  have hAk:A.length+1=B.length:=by rw[hB];simp
  have hbl:B.length≤140737488355328:=by omega
  have hb:=nU B;rw[hQ];clear ih hA hB hQ;refine wG nK (A9 BY hn dB hAs hAk hbl hb @List.length_map.{0,0} @Nat.mul_one) ?_;refine fiGenO [.tmp 2] (finG nK) ?_
  all_goals exact wkG aC
 have hlt':(m:Int)<(s.length:Int):=by omega
 have hw1:=aK hlt (by omega)
 have hg:s[m]? =some s[m]:=List.getElem?_eq_getElem hlt
 have hst:s.take (m+1)=s.take m++[s[m]]:=List.take_succ_eq_append_getElem hlt
 obtain⟨B,hB⟩: ∃B,B=A++escC s[m]:=⟨_,rfl⟩
 have hI:=ih (s.length-(m+1)) (by omega) (m+1) B rfl (by omega) (by rw[hB,hA,hst,List.flatMap_append];simp)
 clear ih hst
 generalize s[m]=c at hg hB
 by_cases h34:c.toNat=34∨c.toNat=92
 ·rw[show escC c=[92,c]from if_pos h34]at hB
  have hAs:A.map byB++[V.im (.int .u8 92),V.im (.int .u8 c.toNat)]=B.map byB:=by rw[hB,List.map_append];rfl
  have hAk:A.length+2=B.length:=by rw[hB];simp
  have hbl:B.length≤140737488355328:=by omega
  clear hA hB
  by_cases h1:c.toNat=34
  ·have e1:(c.toNat:Int)=34:=by omega
   rw[e1]at hAs;refine wG nK (A11 BY hlt' dB hg e1 hAs hAk hbl hw1 @List.length_map.{0,0} @Nat.mul_one) ?_;refine ALp.cutP 1 [(3,.sl (B.map byB) (.own 0)),(7,.sl (s.map byB) .ro),(8,(.im (.int .i64 (s.length)))),(9,(.im (.int .i64 ((((m+1:Nat)):Int)))))] [.tip 5 1 B.length] aC ?_;exact hI
  ·have e1: ¬(c.toNat:Int)=34:=by omega
   have e2:(c.toNat:Int)=92:=by omega
   rw[e2]at hAs;refine wG nK (A12 BY hlt' dB hg e1 e2 hAs hAk hbl hw1 @List.length_map.{0,0} @Nat.mul_one) ?_;refine ALp.cutP 1 [(3,.sl (B.map byB) (.own 0)),(7,.sl (s.map byB) .ro),(8,(.im (.int .i64 (s.length)))),(9,(.im (.int .i64 ((((m+1:Nat)):Int)))))] [.tip 5 1 B.length] aC ?_;exact hI
 rw[show escC c=if c.toNat<32∨126<c.toNat then [92,120,hexD (c.toNat/16),hexD (c.toNat%16)]else [c]from if_neg h34]at hB
 have e1: ¬(c.toNat:Int)=34:=by omega
 have e2: ¬(c.toNat:Int)=92:=by omega
 by_cases h32:c.toNat<32∨126<c.toNat
 ·rw[if_pos h32]at hB
  have hAs:A.map byB++[V.im (.int .u8 92),V.im (.int .u8 120),V.im (.int .u8 (hexD (c.toNat/16)).toNat),V.im (.int .u8 (hexD (c.toNat%16)).toNat)]=B.map byB:=by rw[hB,List.map_append];rfl
  have hAk:A.length+4=B.length:=by rw[hB];simp
  have hbl:B.length≤140737488355328:=by omega
  clear hA hB;have hd1:=Qo (show c.toNat/16<16 by have:=c.toNat_lt;omega)
  have hd2:=Qo (show c.toNat%16<16 by omega)
  by_cases h1:c.toNat<32
  ·have e3:(c.toNat:Int)<32:=by omega
   refine wG nK (A7 BY hlt' dB hg e1 e2 e3) ?_;refine wdG nK (A16 BY GDS hlt' dB hg e1 e2 e3 RY RX hd1 hd2 hAs hAk hbl (A3 hw1 @List.length_map.{0,0} @Nat.mul_one)) ?_;refine ALp.cutP 1 [(3,.sl (B.map byB) (.own 0)),(7,.sl (s.map byB) .ro),(8,(.im (.int .i64 (s.length)))),(9,(.im (.int .i64 ((((m+1:Nat)):Int)))))] [.tip 5 1 B.length] aC ?_;exact hI
  ·have e3: ¬(c.toNat:Int)<32:=by omega
   have e4:(c.toNat:Int)>126:=by omega
   refine wG nK (A8 BY hlt' dB hg e1 e2 e3 e4) ?_;refine wdG nK (A16 BY GDS hlt' dB hg e1 e2 e3 e4 RY RX hd1 hd2 hAs hAk (A4 hbl hw1 @List.length_map.{0,0} @Nat.mul_one)) ?_;refine ALp.cutP 1 [(3,.sl (B.map byB) (.own 0)),(7,.sl (s.map byB) .ro),(8,(.im (.int .i64 (s.length)))),(9,(.im (.int .i64 ((((m+1:Nat)):Int)))))] [.tip 5 1 B.length] aC ?_;exact hI
 rw[if_neg h32]at hB
 have hAs:A.map byB++[V.im (.int .u8 c.toNat)]=B.map byB:=by rw[hB,List.map_append];rfl
 have hAk:A.length+1=B.length:=by rw[hB];simp
 have hbl:B.length≤140737488355328:=by omega
 have e3: ¬(c.toNat:Int)<32:=by omega
 have e4: ¬(c.toNat:Int)>126:=by omega
 clear hA hB
 refine wG nK (A14 BY hlt' dB hg e1 e2 e3 e4 hAs hAk hbl hw1 @List.length_map.{0,0} @Nat.mul_one) ?_
 refine ALp.cutP 1 [(3,.sl (B.map byB) (.own 0)),(7,.sl (s.map byB) .ro),(8,(.im (.int .i64 (s.length)))),(9,(.im (.int .i64 ((((m+1:Nat)):Int)))))] [.tip 5 1 B.length] aC ?_
 exact hI
def nJ:=A16 @cO @tV @qO @gF @qM @qL @tQ @lL @rZ @wY @wX @mW @jU @nZ @cN (A3 @tK @nM @gD)
def tH:=A8 @bQ @bS @bR @bT @aD @aL @aE @aN
theorem KE: ∀(a:Ty),fit a→PC Tryz.prog 98 [tyV a,tyV a] (.im (.bool (true))):=by
 refine Ty.induct fun o k s c es fs hT hF=> ?_
 intro hfit
 obtain⟨hl1,hl2,hfE,hfF⟩:=pI hfit
 refine pcEnt 99 Tryz.func98 rfl [(0,tyV (.mk o k s c es fs)),(1,tyV (.mk o k s c es fs))] ?_
 simp only[eE]
 refine wG nJ TI ?_
 refine aP ?_
 refine ALp.cutP 2 [(2,.pt 0 0),(3,.pt 1 0),(5,(.im (.int .i64 ((((0:Nat)):Int)))))] [.box [.im (.int .i64 k),.im (.int .i64 s),.im (.int .i64 c),.sl (es.map tyV) .ro,.sl (fs.map fdV) .ro],.box [.im (.int .i64 k),.im (.int .i64 s),.im (.int .i64 c),.sl (es.map tyV) .ro,.sl (fs.map fdV) .ro]] tH ?_
 refine aW es.length (fun _=>True) (fun m=>⟨dn 99 [(2,.pt 0 0),(3,.pt 1 0),(5,(.im (.int .i64 ((((m:Nat)):Int)))))],ofl [.box [.im (.int .i64 k),.im (.int .i64 s),.im (.int .i64 c),.sl (es.map tyV) .ro,.sl (fs.map fdV) .ro],.box [.im (.int .i64 k),.im (.int .i64 s),.im (.int .i64 c),.sl (es.map tyV) .ro,.sl (fs.map fdV) .ro]]⟩) ?_ 0 (Nat.zero_le _) trivial
 intro m hm hI hnext
 by_cases hlt:m<es.length
 ·have hlt':(m:Int)<(es.length:Int):=by omega
  have hg:=bB hlt;have hm1:=aK hlt (by omega)
  have hc:=hT es[m] (List.getElem_mem hlt) (hfE _ (List.getElem_mem hlt));refine wdG nJ (A3 hlt' hg TY) ?_;refine AR.callP hc @bM tH ?_;refine goG nJ TI ?_;refine wdG nJ hm1 ?_;refine ALp.cutP 2 [(2,.pt 0 0),(3,.pt 1 0),(5,(.im (.int .i64 ((((m+1:Nat)):Int)))))] [.box [.im (.int .i64 k),.im (.int .i64 s),.im (.int .i64 c),.sl (es.map tyV) .ro,.sl (fs.map fdV) .ro],.box [.im (.int .i64 k),.im (.int .i64 s),.im (.int .i64 c),.sl (es.map tyV) .ro,.sl (fs.map fdV) .ro]] tH ?_;exact hnext (m+1) (by omega) (by omega) trivial
 obtain rfl:m=es.length:=by omega
 clear hnext hI
 refine whG nJ @Int.lt_irrefl ?_
 refine Blk'.here (Thn.n ?_)
 refine wG nJ TI ?_
 refine aP ?_
 refine ALp.cutP 2 [(2,.pt 0 0),(3,.pt 1 0),(6,(.im (.int .i64 ((((0:Nat)):Int)))))] [.box [.im (.int .i64 k),.im (.int .i64 s),.im (.int .i64 c),.sl (es.map tyV) .ro,.sl (fs.map fdV) .ro],.box [.im (.int .i64 k),.im (.int .i64 s),.im (.int .i64 c),.sl (es.map tyV) .ro,.sl (fs.map fdV) .ro]] tH ?_
 refine aW fs.length (fun _=>True) (fun m=>⟨dn 99 [(2,.pt 0 0),(3,.pt 1 0),(6,(.im (.int .i64 ((((m:Nat)):Int)))))],ofl [.box [.im (.int .i64 k),.im (.int .i64 s),.im (.int .i64 c),.sl (es.map tyV) .ro,.sl (fs.map fdV) .ro],.box [.im (.int .i64 k),.im (.int .i64 s),.im (.int .i64 c),.sl (es.map tyV) .ro,.sl (fs.map fdV) .ro]]⟩) ?_ 0 (Nat.zero_le _) trivial
 intro m hm hI hnext
 by_cases hlt:m<fs.length
 ·have hlt':(m:Int)<(fs.length:Int):=by omega
  have hg:=bB hlt;have hm1:=aK hlt (by omega)
  have hc:=hF fs[m] (List.getElem_mem hlt) (hfF _ (List.getElem_mem hlt));refine wdG nJ (A3 hlt' hg TY) ?_;refine AR.callP hc @bM tH ?_;refine goG nJ TI ?_;refine wdG nJ hm1 ?_;refine ALp.cutP 2 [(2,.pt 0 0),(3,.pt 1 0),(6,(.im (.int .i64 ((((m+1:Nat)):Int)))))] [.box [.im (.int .i64 k),.im (.int .i64 s),.im (.int .i64 c),.sl (es.map tyV) .ro,.sl (fs.map fdV) .ro],.box [.im (.int .i64 k),.im (.int .i64 s),.im (.int .i64 c),.sl (es.map tyV) .ro,.sl (fs.map fdV) .ro]] tH ?_;exact hnext (m+1) (by omega) (by omega) trivial
 obtain rfl:m=fs.length:=by omega
 clear hnext hI
 refine wG nJ @Int.lt_irrefl ?_
 exact aB
def zT:=A8 @dR @gF @jZ @rY @mV @dA @gD @jM
theorem Rw(l:List Va)(hl:fitVN l)(hn:l.length≤4194304):PC Tryz.prog 46 [.sl (l.map vaV) .ro,.sl (l.map vaV) .ro] (.im (.bool (true))):=by
 refine pcEnt 42 Tryz.func46 rfl [(0,.sl (l.map vaV) .ro),(1,.sl (l.map vaV) .ro)] ?_
 refine wG zT @List.length_map.{0,0} ?_
 refine aP ?_
 refine ALp.cutP 0 [(0,.sl (l.map vaV) .ro),(1,.sl (l.map vaV) .ro),(5,(.im (.int .i64 ((((0:Nat)):Int)))))] [] tH ?_
 refine aW l.length (fun _=>True) (fun m=>⟨dn 42 [(0,.sl (l.map vaV) .ro),(1,.sl (l.map vaV) .ro),(5,(.im (.int .i64 ((((m:Nat)):Int)))))],ofl []⟩) ?_ 0 (Nat.zero_le _) trivial
 intro m hm hI hnext
 by_cases hlt:m<l.length
 ·have hlt':(m:Int)<(l.length:Int):=by omega
  have hg:=bB hlt;have hm1:=aK hlt (by omega)
  obtain⟨hty,hnm⟩:=hl _ (List.getElem_mem hlt);have hc:=KE l[m].ty hty;refine wdG zT (A3 hlt' hg VA) ?_;refine AR.callP hc @bM tH ?_;refine goG zT TI ?_;refine wdG zT hm1 ?_;refine ALp.cutP 0 [(0,.sl (l.map vaV) .ro),(1,.sl (l.map vaV) .ro),(5,(.im (.int .i64 ((((m+1:Nat)):Int)))))] [] tH ?_;exact hnext (m+1) (by omega) (by omega) trivial
 obtain rfl:m=l.length:=by omega
 clear hnext hI
 refine wG zT @Int.lt_irrefl ?_
 exact aB
def bZ(b:UInt8):V:= .im (.int .u8 b.toNat)
theorem B0(b:UInt8):bZ b= .im (.int .u8 b.toNat):=rfl
theorem RA(b:UInt8):(bZ b).live=true:=rfl
theorem QZ(b:UInt8):(bZ b).size=1:=rfl
theorem RB(b:UInt8):(bZ b).isAg=false:=rfl
theorem LL(b:UInt8):(bZ b).cells=[.im (.int .u8 b.toNat)]:=rfl
theorem RD(b:UInt8):(bZ b).firm=true:=rfl
theorem LK(g:Bool)(b:UInt8):strip g (bZ b)=bZ b:=rfl
theorem Wa(p:Nat→Bool)(l:Bs):V.idsL p (l.map bZ)=true:=gH (fun _=>rfl) l
def No:=A3 @Oo @lH @rF
theorem KH(l:Bs)(hn:l.length≤4194304):PC Tryz.prog 99 [.sl (l.map bZ) .ro,.sl (l.map bZ) .ro] (.im (.bool (true))):=by
 refine pcEnt 26 Tryz.func99 rfl [(0,.sl (l.map bZ) .ro),(1,.sl (l.map bZ) .ro)] ?_
 refine wG No @List.length_map.{0,0} ?_
 refine aP ?_
 refine ALp.cutP 0 [(0,.sl (l.map bZ) .ro),(1,.sl (l.map bZ) .ro),(5,(.im (.int .i64 ((((0:Nat)):Int)))))] [] Wa ?_
 refine aW l.length (fun _=>True) (fun m=>⟨dn 26 [(0,.sl (l.map bZ) .ro),(1,.sl (l.map bZ) .ro),(5,(.im (.int .i64 ((((m:Nat)):Int)))))],ofl []⟩) ?_ 0 (Nat.zero_le _) trivial
 intro m hm hI hnext
 by_cases hlt:m<l.length
 ·have hlt':(m:Int)<(l.length:Int):=by omega
  have hg:=bB hlt;have hm1:=aK hlt (by omega)
  refine wdG No (A12 hlt' hg hm1 B0 RD LK RA QZ RB LL @List.getElem?_map.{0,0} @Int.natCast_nonneg) ?_;refine ALp.cutP 0 [(0,.sl (l.map bZ) .ro),(1,.sl (l.map bZ) .ro),(5,(.im (.int .i64 ((((m+1:Nat)):Int)))))] [] Wa ?_;exact hnext (m+1) (by omega) (by omega) trivial
 obtain rfl:m=l.length:=by omega
 clear hnext hI
 refine wG No @Int.lt_irrefl ?_
 exact aB
theorem XL(p:Nat→Bool)(l:Bs):V.idsL p (l.map fun b:UInt8=>V.im (.int .u8 b.toNat))=true:=Wa p l
def zS:=A16 @Oq @nP @tX @dR @tS @wZ @Kz @sA @Ch @Cg @Og @nN @tM @qK @dA @YA
def Wf:=A3 gG eU XL
theorem KF(l:List Sec)(hl: ∀s∈l,s.data.length≤4194304)(hn:l.length≤4194304):PC Tryz.prog 47 [.sl (l.map scV) .ro,.sl (l.map scV) .ro] (.im (.bool (true))):=by
 refine pcEnt 81 Tryz.func47 rfl [(0,.sl (l.map scV) .ro),(1,.sl (l.map scV) .ro)] ?_
 refine wG zS @List.length_map.{0,0} ?_
 refine aP ?_
 refine ALp.cutP 0 [(0,.sl (l.map scV) .ro),(1,.sl (l.map scV) .ro),(5,(.im (.int .i64 ((((0:Nat)):Int)))))] [] Wf ?_
 refine aW l.length (fun _=>True) (fun m=>⟨dn 81 [(0,.sl (l.map scV) .ro),(1,.sl (l.map scV) .ro),(5,(.im (.int .i64 ((((m:Nat)):Int)))))],ofl []⟩) ?_ 0 (Nat.zero_le _) trivial
 intro m hm hI hnext
 by_cases hlt:m<l.length
 ·have hlt':(m:Int)<(l.length:Int):=by omega
  have hg:=bB hlt;have hm1:=aK hlt (by omega)
  have hc:PC Tryz.prog 99 [.sl (l[m].data.map fun b:UInt8=>V.im (.int .u8 b.toNat)) .ro,.sl (l[m].data.map fun b:UInt8=>V.im (.int .u8 b.toNat)) .ro] (.im (.bool (true))):=KH l[m].data (hl _ (List.getElem_mem hlt))
  refine wdG zS (A10 hlt' hg Fh Ao Ff Fe Fg Ap @List.getElem?_map.{0,0} @Int.natCast_nonneg) ?_;refine AR.callP hc Fi Wf ?_;refine goG zS TI ?_;refine wdG zS hm1 ?_;refine ALp.cutP 0 [(0,.sl (l.map scV) .ro),(1,.sl (l.map scV) .ro),(5,(.im (.int .i64 ((((m+1:Nat)):Int)))))] [] Wf ?_;exact hnext (m+1) (by omega) (by omega) trivial
 obtain rfl:m=l.length:=by omega
 clear hnext hI
 refine wG zS @Int.lt_irrefl ?_
 exact aB
end Go.Proofs.YtmbmmckagcdapaaGreatDoor
