import Derived.Test.YtmbmmckagcdapaaGreatDoorQ22
set_option maxHeartbeats 2000000
set_option linter.all false
namespace Go.Proofs.YtmbmmckagcdapaaGreatDoor
open Go.RowKit
theorem zN(t:Bs)(c:UInt8):Lib.contains t [c]=t.contains c:=by
 induction t with
 | nil=>rfl
 | cons d t ih =>
  rw[contains_cons,ih,List.contains_cons];simp[List.isPrefixOf]
def ktxt:Bs:=[32,98,114,101,97,107,32,99,97,108,108,32,99,97,115,101,32,99,111,110,116,105,110,117,101,32,100,97,116,97,32,101,108,115,101,32,101,120,101,99,32,102,117,110,99,32,103,111,116,111,32,104,97,108,116,32,105,102,32,105,110,32,108,111,111,112,32,111,117,116,32,
 114,101,116,117,114,110,32,115,119,105,116,99,104,32,118,97,114,32,119,104,105,108,101,32,119,114,105,116,101,32,108,111,97,100,49,32,108,111,97,100,50,32,108,111,97,100,52,32,115,116,111,114,101,49,32,115,116,111,114,101,50,32,115,116,111,114,101,52,32,115,101,120,116,49,32,115,101,120,116,50,32]
theorem Tl:tween ktxt=kwds:=by kernel_rfl
theorem Ir{w:Bs}(h:w.contains 32=false):Lib.contains ktxt (32::(w++[32]))=isK w:=by
 have hb: ∀b∈w,b≠32:=fun b hb e=>by
  subst e;rw[List.contains_iff_mem.2 hb]at h;cases h
 rw[qY ktxt w hb,Tl]
 unfold isK
 rw[Bool.eq_iff_iff,List.any_eq_true,List.contains_iff_mem]
 constructor
 ·rintro⟨x,h1,h2⟩
  rw[beq_iff_eq]at h2;exact h2▸h1
 ·exact fun h=>⟨w,h,beq_self_eq_true w⟩
theorem BO{w:Bs}(h:w.contains 32=true):isK w=false:=by
 rw[←Bool.not_eq_true,wE]
 intro hm
 have:=(show ∀w∈kwds,w.contains 32=false by decide +kernel) w hm
 rw[h]at this
 cases this
theorem DS(w:Bs)(hw:w.length≤4194304):PC Tryz.prog 193 [.im (.string ⟨(w).toArray⟩)] (.im (.bool (isK w))):=by
 refine pcEnt 16 Tryz.func193 rfl [(0,.im (.string ⟨(w).toArray⟩))] ?_
 cases hn:(w==([]:Bs))with
 | true =>
  have e:isK w=false:=by rw[beq_iff_eq]at hn;rw[hn];decide
  rw[e];refine wG TI (AI BY hn) ?_;exact aB
 | false =>
 have q1:=pL ⟨w.toArray⟩ ⟨#[32]⟩ (by rw[dB];omega)
 rw[show Lib.contains (ByteArray.mk w.toArray).data.toList (ByteArray.mk #[32]).data.toList=w.contains 32 from zN w 32]at q1
 cases b:w.contains 32 with
 | true =>
  rw[b]at q1;rw[BO b];refine wG TI (AI BY hn) ?_;refine AR.callP q1 TI TI ?_;refine goG TI BY ?_;refine wG TI TI ?_;exact aB
 | false =>
 rw[b]at q1
 have hC:=pL ⟨ktxt.toArray⟩ ⟨(32::(w++[32])).toArray⟩ (of_decide_eq_true (by kernel_rfl))
 rw[show Lib.contains (ByteArray.mk ktxt.toArray).data.toList (ByteArray.mk (32::(w++[32])).toArray).data.toList=isK w from Ir b]at hC
 have a1:1+w.length≤9223372036854775807:=by omega
 have a2:w.length+1+1≤9223372036854775807:=by omega
 generalize isK w=k at hC ⊢
 refine wG TI (AI BY hn) ?_
 refine AR.callP q1 TI TI ?_
 refine goG TI (A4 BY Bv a1 a2) ?_
 refine Ej hC rfl rfl (iH (by simp only[St.ev,V.ofVal,V.ofCell,V.size_im,fT,dE,iJ,Nat.reduceLT,Nat.reduceEqDiff,reduceIte,if_true,if_false,List.map_cons,List.map_nil,List.nil_append,List.append_nil,true_and];exact congrArg (fun z=>[V.im (Value.string z),_]) (by kernel_rfl))) (by first|rfl|simp only[List.length_cons,List.length_nil,Nat.reduceAdd,V.ids,V.idsL,idsA,entOk,List.all_cons,List.all_nil,Bool.and_self,Bool.and_true,Bool.true_and,ltB,noId,Nat.reduceLT,decide_true,Bool.true_eq_false,bQ,bS,bR,bT]) ?_
 refine goG TI TI ?_
 refine wG TI TI ?_
 exact aB
def lowC(c:UInt8):UInt8:=c|||32
theorem OG(c:UInt8):IntKind.u8.wrap ↑(BitVec.ofInt IntKind.u8.bits ↑c.toNat|||BitVec.ofInt IntKind.u8.bits 32).toNat=((lowC c).toNat:Int) :=
 of_decide_eq_true (pD (fun c=>decide (IntKind.u8.wrap ↑(BitVec.ofInt IntKind.u8.bits ↑c.toNat|||BitVec.ofInt IntKind.u8.bits 32).toNat=((lowC c).toNat:Int))) (by decide +kernel) c)
theorem Yn(c:UInt8):PC Tryz.prog 272 [.im (.int .u8 (c.toNat))] (.im (.int .u8 ((lowC c).toNat))):=by
 have hE:=OG c
 refine pcEnt 5 Tryz.func272 rfl [(0,.im (.int .u8 (c.toNat)))] ?_
 refine wG TI hE ?_
 exact aB
def dgv(c:UInt8):Option Nat:=if 48≤c.toNat∧c.toNat≤57 then some (c.toNat-48)else if 97≤(lowC c).toNat∧(lowC c).toNat≤122 then some ((lowC c).toNat-87)else none
def puF(b:Nat):Nat→Bs→Nat×Int
 | a,[]=>(a,0)
 | a,c::r=>match dgv c with
  | none=>(0,2)
  | some d=>if b≤d then(0,2)else if 4294967295<a*b+d then(4294967295,1)else puF b (a*b+d) r
def puR(b:Nat)(s:Bs):Nat×Int:=if s=[]then(0,2)else puF b 0 s
def JI(k:Int):V:=if k=0 then .im .nilIface else .im (.iface 291 (.int .i64 k))
def acF(b:Nat)(l:Bs):Nat:=l.foldl (fun a c=>a*b+(dgv c).getD 0) 0
theorem Sp(b:Nat){l:Bs}{m:Nat}(h:m<l.length):acF b (l.take (m+1))=acF b (l.take m)*b+(dgv l[m]).getD 0:=by
 unfold acF
 rw[List.take_succ_eq_append_getElem h,List.foldl_append]
 rfl
def aY:=A15 @Oo @lH @rX @Hs @vN @Oj @tO @yH @rF @rW @Hp @vL @rE @tI @iC
theorem WW(s:Bs)(hs:s.length≤4194304):PC Tryz.prog 266 [.im (.string ⟨(s).toArray⟩),(.im (.int .i64 (10))),(.im (.int .i64 (32)))] (.tu [.im (.int .u64 (((puR 10 s).1:Int))),JI (puR 10 s).2]):=by
 refine pcEnt 172 Tryz.func266 rfl [(0,.im (.string ⟨(s).toArray⟩)),(1,(.im (.int .i64 (10)))),(2,(.im (.int .i64 (32))))] ?_
 cases hn:(s==([]:Bs))with
 | true =>
  rw[beq_iff_eq]at hn;subst hn;have e:(([]:Bs)==[])=true:=rfl;refine wG aY (AI BY e) ?_;refine rG ?_;refine goG aY TI ?_;refine wG aY TI ?_;rw[show(puR 10 [])=(0,2)from rfl]
  refine fiGenO [.tmp 6,.tmp 7] (finG aY) ?_
  all_goals exact wkG aC
 | false =>
 have hne:s≠[]:=by rwa [beq_eq_false_iff_ne]at hn
 rw[show puR 10 s=puF 10 0 s by unfold puR;rw[if_neg hne]]
 have hA:s.length≤140737488355328:=by omega
 have hk1:IntKind.u64.wrap 32=32:=by kernel_rfl
 have hk2:IntKind.u64.wrap (1*2^min 32 IntKind.u64.bits)=4294967296:=by kernel_rfl
 have hk3:IntKind.u64.wrap 4294967295=4294967295:=by kernel_rfl
 refine wG aY (A6 BY hn hA hk1 hk2 hk3) ?_
 refine aP ?_
 refine ALp.cutP 0 [(0,.im (.string ⟨(s).toArray⟩)),(1,(.im (.int .i64 (10)))),(8,(.im (.bool (false)))),(10,.im (.int .u64 (1844674407370955162))),(11,.im (.int .u64 (4294967295))),(12,(.im (.bool (false)))),(13,.im (.int .u64 (((acF 10 (s.take (0)):Nat):Int)))),(99,.sl (s.map byB) .ro),(100,(.im (.int .i64 (s.length)))),(101,(.im (.int .i64 ((((0:Nat)):Int)))))] [] aC ?_
 refine aW s.length (fun m=>puF 10 (acF 10 (s.take m)) (s.drop m)=puF 10 0 s∧acF 10 (s.take m)≤4294967295) (fun m=>⟨dn 172 [(0,.im (.string ⟨(s).toArray⟩)),(1,(.im (.int .i64 (10)))),(8,(.im (.bool (false)))),(10,.im (.int .u64 (1844674407370955162))),(11,.im (.int .u64 (4294967295))),(12,(.im (.bool (false)))),(13,.im (.int .u64 (((acF 10 (s.take (m)):Nat):Int)))),(99,.sl (s.map byB) .ro),(100,(.im (.int .i64 (s.length)))),(101,(.im (.int .i64 ((((m:Nat)):Int)))))],ofl []⟩) ?_ 0 (Nat.zero_le _) ⟨rfl,Nat.zero_le _⟩
 intro m hm hI hnext
 obtain⟨hI,hac⟩:=hI
 rw[←hI]
 by_cases hlt:m<s.length
 case neg =>
  obtain rfl:m=s.length:=by omega
  clear hnext;rw[List.drop_length];rw[show puF 10 (acF 10 (s.take s.length)) []=(acF 10 (s.take s.length),0)from rfl]
  generalize acF 10 (s.take s.length)=a;refine wG aY @Int.lt_irrefl ?_;refine fiGenO [.tmp 6,.tmp 7] (finG aY) ?_
  all_goals exact wkG aC
 have hlt':(m:Int)<(s.length:Int):=by omega
 have hm1:=aK hlt (by omega)
 have hg:=bB hlt
 have hst:=Sp 10 hlt
 have hn2:=hnext (m+1) (by omega) (by omega)
 have hd:s.drop m=s[m]::s.drop (m+1):=List.drop_eq_getElem_cons hlt
 rw[hd]at hI ⊢
 rw[puF]at hI ⊢
 rw[hst]at hn2
 clear hnext hst
 generalize acF 10 (s.take m)=a at hac hn2 hI ⊢
 generalize hc:s[m]=c at hg hn2 hI ⊢
 have hcl:=c.toNat_lt
 have q:=Yn c
 have hlw:(lowC c).toNat<256:=(lowC c).toNat_lt
 refine wnG aY (A3 hlt' hg BY) ?_
 refine AWp.block ?_
 refine wnG aY (A3 hlt' hg BY) ?_
 refine AWp.tail (ι:={d:Nat // dgv c=some d∧d≤35}) (fun i=>⟨dn 172 [(0,.im (.string ⟨(s).toArray⟩)),(1,(.im (.int .i64 (10)))),(8,(.im (.bool (false)))),(10,.im (.int .u64 (1844674407370955162))),(11,.im (.int .u64 (4294967295))),(12,(.im (.bool (false)))),(13,.im (.int .u64 ((a:Int)))),(16,.im (.int .u8 ((i.1:Nat):Int))),(99,.sl (s.map byB) .ro),(100,(.im (.int .i64 (s.length)))),(101,(.im (.int .i64 ((m:Int)))))],ofl []⟩) (fun i=> ?_) (fun rest ht=> ?_)
 ·obtain⟨d,hdv,hd35⟩:=i
  dsimp only;rw[hdv]at hI hn2 ⊢;simp only[Option.getD_some]at hI hn2 ⊢;have w1:IntKind.u8.wrap 10=10:=by kernel_rfl
  have w2:IntKind.u64.wrap 10=10:=by kernel_rfl
  by_cases hdb:10≤d
  ·have hdb':((d:Nat):Int)≥10:=by omega
   rw[if_pos hdb];refine wG aY (AI w1 hdb') ?_;refine rG ?_;refine goG aY TI ?_;refine wG aY TI ?_;refine fiGenO [.tmp 6,.tmp 7] (finG aY) ?_
   all_goals exact wkG aC
  have hdb': ¬((d:Nat):Int)≥10:=by omega
  rw[if_neg hdb]at hI ⊢;have hcut: ¬(a:Int)≥1844674407370955162:=by omega
  have w3:IntKind.u64.wrap ((a:Int)*10)=(a:Int)*10:=IntWalk.u64_in _ (by omega)
  have w4:IntKind.u64.wrap ((d:Nat):Int)=((d:Nat):Int):=IntWalk.u64_in _ (by omega)
  have w5:IntKind.u64.wrap ((a:Int)*10+((d:Nat):Int))=(((a*10+d:Nat)):Int):=by rw[IntWalk.u64_in _ (by omega)];omega
  have h1: ¬(((a*10+d:Nat)):Int)<(a:Int)*10:=by omega
  by_cases hbig:4294967295<a*10+d
  ·have hbig':(((a*10+d:Nat)):Int)>4294967295:=by omega
   rw[if_pos hbig];refine wG aY (A9 w1 w2 hdb' hcut w3 w4 w5 h1 hbig') ?_;refine rG ?_;refine goG aY TI ?_;refine wG aY TI ?_;refine fiGenO [.tmp 6,.tmp 7] (finG aY) ?_
   all_goals exact wkG aC
  have hbig': ¬(((a*10+d:Nat)):Int)>4294967295:=by omega
  rw[if_neg hbig]at hI ⊢;have hn3:=hn2 ⟨hI,by omega⟩
  rw[hI];clear hn2;refine wG aY (A10 w1 w2 hdb' hcut w3 w4 w5 h1 hbig' hm1) ?_;refine ALp.cutP 0 [(0,.im (.string ⟨(s).toArray⟩)),(1,(.im (.int .i64 (10)))),(8,(.im (.bool (false)))),(10,.im (.int .u64 (1844674407370955162))),(11,.im (.int .u64 (4294967295))),(12,(.im (.bool (false)))),(13,.im (.int .u64 (((a*10+d:Nat):Int)))),(99,.sl (s.map byB) .ro),(100,(.im (.int .i64 (s.length)))),(101,(.im (.int .i64 ((((m+1:Nat)):Int)))))] [] aC ?_;exact hn3
 by_cases hdig:48≤c.toNat∧c.toNat≤57
 ·have e1:(48:Int)≤(c.toNat:Int):=by omega
  have e2:(c.toNat:Int)≤57:=by omega
  have w:IntKind.u8.wrap ((c.toNat:Int)-48)=((c.toNat-48:Nat):Int):=by rw[IntWalk.u8_in _ (by omega)];omega
  refine wG aY (A3 e1 e2 w) ?_;refine AWp.cutP 0 [(0,.im (.string ⟨(s).toArray⟩)),(1,(.im (.int .i64 (10)))),(8,(.im (.bool (false)))),(10,.im (.int .u64 (1844674407370955162))),(11,.im (.int .u64 (4294967295))),(12,(.im (.bool (false)))),(13,.im (.int .u64 ((a:Int)))),(16,.im (.int .u8 ((c.toNat-48:Nat):Int))),(99,.sl (s.map byB) .ro),(100,(.im (.int .i64 (s.length)))),(101,(.im (.int .i64 ((m:Int)))))] [] (AI aC TI) ?_;exact ht ⟨c.toNat-48,by unfold dgv;rw[if_pos hdig],by omega⟩
 have hb:(decide ((48:Int)≤(c.toNat:Int))&&decide ((c.toNat:Int)≤57))=false:=by
  rw[Bool.eq_false_iff];simp only[ne_eq,Bool.and_eq_true,decide_eq_true_eq];omega
 by_cases hl1:97≤(lowC c).toNat
 case neg =>
  have e1: ¬(97:Int)≤((lowC c).toNat:Int):=by omega
  rw[show dgv c=none by unfold dgv;rw[if_neg hdig,if_neg (by omega)]]
  refine wG aY hb ?_;refine AR.callP q TI aC ?_;refine goG aY e1 ?_;refine wG aY TI ?_;refine rG ?_;refine goG aY TI ?_;refine wG aY TI ?_;refine fiGenO [.tmp 6,.tmp 7] (finG aY) ?_
  all_goals exact wkG aC
 have e1:(97:Int)≤((lowC c).toNat:Int):=by omega
 by_cases hl2:(lowC c).toNat≤122
 case neg =>
  have e2: ¬((lowC c).toNat:Int)≤122:=by omega
  rw[show dgv c=none by unfold dgv;rw[if_neg hdig,if_neg (by omega)]]
  refine wG aY hb ?_;refine AR.callP q TI aC ?_;refine goG aY e1 ?_;refine AR.callP q TI aC ?_;refine goG aY e2 ?_;refine wG aY TI ?_;refine rG ?_;refine goG aY TI ?_;refine wG aY TI ?_;refine fiGenO [.tmp 6,.tmp 7] (finG aY) ?_
  all_goals exact wkG aC
 have e2:((lowC c).toNat:Int)≤122:=by omega
 have w1:IntKind.u8.wrap (((lowC c).toNat:Int)-97)=((lowC c).toNat:Int)-97:=IntWalk.u8_in _ (by omega)
 have w2:IntKind.u8.wrap (((lowC c).toNat:Int)-97+10)=(((lowC c).toNat-87:Nat):Int):=by rw[IntWalk.u8_in _ (by omega)];omega
 refine wG aY hb ?_
 refine AR.callP q TI aC ?_
 refine goG aY e1 ?_
 refine AR.callP q TI aC ?_
 refine goG aY e2 ?_
 refine wG aY TI ?_
 refine AR.callP q TI aC ?_
 refine goG aY (AI w1 w2) ?_
 refine wG aY TI ?_
 refine AWp.cutP 0 [(0,.im (.string ⟨(s).toArray⟩)),(1,(.im (.int .i64 (10)))),(8,(.im (.bool (false)))),(10,.im (.int .u64 (1844674407370955162))),(11,.im (.int .u64 (4294967295))),(12,(.im (.bool (false)))),(13,.im (.int .u64 ((a:Int)))),(16,.im (.int .u8 (((lowC c).toNat-87:Nat):Int))),(99,.sl (s.map byB) .ro),(100,(.im (.int .i64 (s.length)))),(101,(.im (.int .i64 ((m:Int)))))] [] (AI aC TI) ?_
 exact ht ⟨(lowC c).toNat-87,by unfold dgv;rw[if_neg hdig,if_pos ⟨hl1,hl2⟩],by omega⟩
theorem WV(s:Bs)(hs:s.length≤4194304):PC Tryz.prog 266 [.im (.string ⟨(s).toArray⟩),(.im (.int .i64 (16))),(.im (.int .i64 (32)))] (.tu [.im (.int .u64 (((puR 16 s).1:Int))),JI (puR 16 s).2]):=by
 refine pcEnt 172 Tryz.func266 rfl [(0,.im (.string ⟨(s).toArray⟩)),(1,(.im (.int .i64 (16)))),(2,(.im (.int .i64 (32))))] ?_
 cases hn:(s==([]:Bs))with
 | true =>
  rw[beq_iff_eq]at hn;subst hn;have e:(([]:Bs)==[])=true:=rfl;refine wG aY (AI BY e) ?_;refine rG ?_;refine goG aY TI ?_;refine wG aY TI ?_;rw[show(puR 16 [])=(0,2)from rfl]
  refine fiGenO [.tmp 6,.tmp 7] (finG aY) ?_
  all_goals exact wkG aC
 | false =>
 have hne:s≠[]:=by rwa [beq_eq_false_iff_ne]at hn
 rw[show puR 16 s=puF 16 0 s by unfold puR;rw[if_neg hne]]
 have hA:s.length≤140737488355328:=by omega
 have hk1:IntKind.u64.wrap 32=32:=by kernel_rfl
 have hk2:IntKind.u64.wrap (1*2^min 32 IntKind.u64.bits)=4294967296:=by kernel_rfl
 have hk3:IntKind.u64.wrap 4294967295=4294967295:=by kernel_rfl
 refine wG aY (A6 BY hn hA hk1 hk2 hk3) ?_
 refine aP ?_
 refine ALp.cutP 0 [(0,.im (.string ⟨(s).toArray⟩)),(1,(.im (.int .i64 (16)))),(8,(.im (.bool (false)))),(10,.im (.int .u64 (1152921504606846976))),(11,.im (.int .u64 (4294967295))),(12,(.im (.bool (false)))),(13,.im (.int .u64 (((acF 16 (s.take (0)):Nat):Int)))),(99,.sl (s.map byB) .ro),(100,(.im (.int .i64 (s.length)))),(101,(.im (.int .i64 ((((0:Nat)):Int)))))] [] aC ?_
 refine aW s.length (fun m=>puF 16 (acF 16 (s.take m)) (s.drop m)=puF 16 0 s∧acF 16 (s.take m)≤4294967295) (fun m=>⟨dn 172 [(0,.im (.string ⟨(s).toArray⟩)),(1,(.im (.int .i64 (16)))),(8,(.im (.bool (false)))),(10,.im (.int .u64 (1152921504606846976))),(11,.im (.int .u64 (4294967295))),(12,(.im (.bool (false)))),(13,.im (.int .u64 (((acF 16 (s.take (m)):Nat):Int)))),(99,.sl (s.map byB) .ro),(100,(.im (.int .i64 (s.length)))),(101,(.im (.int .i64 ((((m:Nat)):Int)))))],ofl []⟩) ?_ 0 (Nat.zero_le _) ⟨rfl,Nat.zero_le _⟩
 intro m hm hI hnext
 obtain⟨hI,hac⟩:=hI
 rw[←hI]
 by_cases hlt:m<s.length
 case neg =>
  obtain rfl:m=s.length:=by omega
  clear hnext;rw[List.drop_length];rw[show puF 16 (acF 16 (s.take s.length)) []=(acF 16 (s.take s.length),0)from rfl]
  generalize acF 16 (s.take s.length)=a;refine wG aY @Int.lt_irrefl ?_;refine fiGenO [.tmp 6,.tmp 7] (finG aY) ?_
  all_goals exact wkG aC
 have hlt':(m:Int)<(s.length:Int):=by omega
 have hm1:=aK hlt (by omega)
 have hg:=bB hlt
 have hst:=Sp 16 hlt
 have hn2:=hnext (m+1) (by omega) (by omega)
 have hd:s.drop m=s[m]::s.drop (m+1):=List.drop_eq_getElem_cons hlt
 rw[hd]at hI ⊢
 rw[puF]at hI ⊢
 rw[hst]at hn2
 clear hnext hst
 generalize acF 16 (s.take m)=a at hac hn2 hI ⊢
 generalize hc:s[m]=c at hg hn2 hI ⊢
 have hcl:=c.toNat_lt
 have q:=Yn c
 have hlw:(lowC c).toNat<256:=(lowC c).toNat_lt
 refine wnG aY (A3 hlt' hg BY) ?_
 refine AWp.block ?_
 refine wnG aY (A3 hlt' hg BY) ?_
 refine AWp.tail (ι:={d:Nat // dgv c=some d∧d≤35}) (fun i=>⟨dn 172 [(0,.im (.string ⟨(s).toArray⟩)),(1,(.im (.int .i64 (16)))),(8,(.im (.bool (false)))),(10,.im (.int .u64 (1152921504606846976))),(11,.im (.int .u64 (4294967295))),(12,(.im (.bool (false)))),(13,.im (.int .u64 ((a:Int)))),(16,.im (.int .u8 ((i.1:Nat):Int))),(99,.sl (s.map byB) .ro),(100,(.im (.int .i64 (s.length)))),(101,(.im (.int .i64 ((m:Int)))))],ofl []⟩) (fun i=> ?_) (fun rest ht=> ?_)
 ·obtain⟨d,hdv,hd35⟩:=i
  dsimp only;rw[hdv]at hI hn2 ⊢;simp only[Option.getD_some]at hI hn2 ⊢;have w1:IntKind.u8.wrap 16=16:=by kernel_rfl
  have w2:IntKind.u64.wrap 16=16:=by kernel_rfl
  by_cases hdb:16≤d
  ·have hdb':((d:Nat):Int)≥16:=by omega
   rw[if_pos hdb];refine wG aY (AI w1 hdb') ?_;refine rG ?_;refine goG aY TI ?_;refine wG aY TI ?_;refine fiGenO [.tmp 6,.tmp 7] (finG aY) ?_
   all_goals exact wkG aC
  have hdb': ¬((d:Nat):Int)≥16:=by omega
  rw[if_neg hdb]at hI ⊢;have hcut: ¬(a:Int)≥1152921504606846976:=by omega
  have w3:IntKind.u64.wrap ((a:Int)*16)=(a:Int)*16:=IntWalk.u64_in _ (by omega)
  have w4:IntKind.u64.wrap ((d:Nat):Int)=((d:Nat):Int):=IntWalk.u64_in _ (by omega)
  have w5:IntKind.u64.wrap ((a:Int)*16+((d:Nat):Int))=(((a*16+d:Nat)):Int):=by rw[IntWalk.u64_in _ (by omega)];omega
  have h1: ¬(((a*16+d:Nat)):Int)<(a:Int)*16:=by omega
  by_cases hbig:4294967295<a*16+d
  ·have hbig':(((a*16+d:Nat)):Int)>4294967295:=by omega
   rw[if_pos hbig];refine wG aY (A9 w1 w2 hdb' hcut w3 w4 w5 h1 hbig') ?_;refine rG ?_;refine goG aY TI ?_;refine wG aY TI ?_;refine fiGenO [.tmp 6,.tmp 7] (finG aY) ?_
   all_goals exact wkG aC
  have hbig': ¬(((a*16+d:Nat)):Int)>4294967295:=by omega
  rw[if_neg hbig]at hI ⊢;have hn3:=hn2 ⟨hI,by omega⟩
  rw[hI];clear hn2;refine wG aY (A10 w1 w2 hdb' hcut w3 w4 w5 h1 hbig' hm1) ?_;refine ALp.cutP 0 [(0,.im (.string ⟨(s).toArray⟩)),(1,(.im (.int .i64 (16)))),(8,(.im (.bool (false)))),(10,.im (.int .u64 (1152921504606846976))),(11,.im (.int .u64 (4294967295))),(12,(.im (.bool (false)))),(13,.im (.int .u64 (((a*16+d:Nat):Int)))),(99,.sl (s.map byB) .ro),(100,(.im (.int .i64 (s.length)))),(101,(.im (.int .i64 ((((m+1:Nat)):Int)))))] [] aC ?_;exact hn3
 by_cases hdig:48≤c.toNat∧c.toNat≤57
 ·have e1:(48:Int)≤(c.toNat:Int):=by omega
  have e2:(c.toNat:Int)≤57:=by omega
  have w:IntKind.u8.wrap ((c.toNat:Int)-48)=((c.toNat-48:Nat):Int):=by rw[IntWalk.u8_in _ (by omega)];omega
  refine wG aY (A3 e1 e2 w) ?_;refine AWp.cutP 0 [(0,.im (.string ⟨(s).toArray⟩)),(1,(.im (.int .i64 (16)))),(8,(.im (.bool (false)))),(10,.im (.int .u64 (1152921504606846976))),(11,.im (.int .u64 (4294967295))),(12,(.im (.bool (false)))),(13,.im (.int .u64 ((a:Int)))),(16,.im (.int .u8 ((c.toNat-48:Nat):Int))),(99,.sl (s.map byB) .ro),(100,(.im (.int .i64 (s.length)))),(101,(.im (.int .i64 ((m:Int)))))] [] (AI aC TI) ?_;exact ht ⟨c.toNat-48,by unfold dgv;rw[if_pos hdig],by omega⟩
 have hb:(decide ((48:Int)≤(c.toNat:Int))&&decide ((c.toNat:Int)≤57))=false:=by
  rw[Bool.eq_false_iff];simp only[ne_eq,Bool.and_eq_true,decide_eq_true_eq];omega
 by_cases hl1:97≤(lowC c).toNat
 case neg =>
  have e1: ¬(97:Int)≤((lowC c).toNat:Int):=by omega
  rw[show dgv c=none by unfold dgv;rw[if_neg hdig,if_neg (by omega)]]
  refine wG aY hb ?_;refine AR.callP q TI aC ?_;refine goG aY e1 ?_;refine wG aY TI ?_;refine rG ?_;refine goG aY TI ?_;refine wG aY TI ?_;refine fiGenO [.tmp 6,.tmp 7] (finG aY) ?_
  all_goals exact wkG aC
 have e1:(97:Int)≤((lowC c).toNat:Int):=by omega
 by_cases hl2:(lowC c).toNat≤122
 case neg =>
  have e2: ¬((lowC c).toNat:Int)≤122:=by omega
  rw[show dgv c=none by unfold dgv;rw[if_neg hdig,if_neg (by omega)]]
  refine wG aY hb ?_;refine AR.callP q TI aC ?_;refine goG aY e1 ?_;refine AR.callP q TI aC ?_;refine goG aY e2 ?_;refine wG aY TI ?_;refine rG ?_;refine goG aY TI ?_;refine wG aY TI ?_;refine fiGenO [.tmp 6,.tmp 7] (finG aY) ?_
  all_goals exact wkG aC
 have e2:((lowC c).toNat:Int)≤122:=by omega
 have w1:IntKind.u8.wrap (((lowC c).toNat:Int)-97)=((lowC c).toNat:Int)-97:=IntWalk.u8_in _ (by omega)
 have w2:IntKind.u8.wrap (((lowC c).toNat:Int)-97+10)=(((lowC c).toNat-87:Nat):Int):=by rw[IntWalk.u8_in _ (by omega)];omega
 refine wG aY hb ?_
 refine AR.callP q TI aC ?_
 refine goG aY e1 ?_
 refine AR.callP q TI aC ?_
 refine goG aY e2 ?_
 refine wG aY TI ?_
 refine AR.callP q TI aC ?_
 refine goG aY (AI w1 w2) ?_
 refine wG aY TI ?_
 refine AWp.cutP 0 [(0,.im (.string ⟨(s).toArray⟩)),(1,(.im (.int .i64 (16)))),(8,(.im (.bool (false)))),(10,.im (.int .u64 (1152921504606846976))),(11,.im (.int .u64 (4294967295))),(12,(.im (.bool (false)))),(13,.im (.int .u64 ((a:Int)))),(16,.im (.int .u8 (((lowC c).toNat-87:Nat):Int))),(99,.sl (s.map byB) .ro),(100,(.im (.int .i64 (s.length)))),(101,(.im (.int .i64 ((m:Int)))))] [] (AI aC TI) ?_
 exact ht ⟨(lowC c).toNat-87,by unfold dgv;rw[if_neg hdig,if_pos ⟨hl1,hl2⟩],by omega⟩
end Go.Proofs.YtmbmmckagcdapaaGreatDoor
