import Derived.Test.YtmbmmckagcdapaaGreatDoorN11
import Derived.Test.YtmbmmckagcdapaaGreatDoorN27
import Derived.Test.YtmbmmckagcdapaaGreatDoorN14
import Derived.Test.YtmbmmckagcdapaaGreatDoorN22
import Derived.Test.YtmbmmckagcdapaaGreatDoorN12
import Derived.Test.YtmbmmckagcdapaaGreatDoorN33
set_option linter.all false
namespace Go.Proofs.YtmbmmckagcdapaaGreatDoor
open Go.RowKit
def lowC(c:UInt8):UInt8:=c|||32
theorem LD(c:UInt8):IntKind.u8.wrap ↑(BitVec.ofInt IntKind.u8.bits ↑c.toNat|||BitVec.ofInt IntKind.u8.bits 32).toNat=((lowC c).toNat:Int) :=
 of_decide_eq_true (nO (fun c=>decide (IntKind.u8.wrap ↑(BitVec.ofInt IntKind.u8.bits ↑c.toNat|||BitVec.ofInt IntKind.u8.bits 32).toNat=((lowC c).toNat:Int))) (by decide +kernel) c)
theorem Vm(c:UInt8):PC Tryz.prog 272 [.im (.int .u8 (c.toNat))] (.im (.int .u8 ((lowC c).toNat))):=by
 have hE:=LD c
 refine PC.enter 5 Tryz.func272 rfl (by decide) rfl rfl (s:=[(0,.im (.int .u8 (c.toNat)))]) (by rfl) ?_
 refine wG TI hE ?_
 exact aD
def dgv(c:UInt8):Option Nat:=if 48≤c.toNat∧c.toNat≤57 then some (c.toNat-48)else if 97≤(lowC c).toNat∧(lowC c).toNat≤122 then some ((lowC c).toNat-87)else none
def puF(b:Nat):Nat→Bs→Nat×Int
 | a,[]=>(a,0)
 | a,c::r=>match dgv c with
  | none=>(0,2)
  | some d=>if b≤d then(0,2)else if 4294967295<a*b+d then(4294967295,1)else puF b (a*b+d) r
def puR(b:Nat)(s:Bs):Nat×Int:=if s=[]then(0,2)else puF b 0 s
def GM(k:Int):V:=if k=0 then .im .nilIface else .im (.iface 291 (.int .i64 k))
def acF(b:Nat)(l:Bs):Nat:=l.foldl (fun a c=>a*b+(dgv c).getD 0) 0
theorem Po(b:Nat){l:Bs}{m:Nat}(h:m<l.length):acF b (l.take (m+1))=acF b (l.take m)*b+(dgv l[m]).getD 0:=by
 unfold acF
 rw[List.take_succ_eq_append_getElem h,List.foldl_append]
 rfl
def aY:=A15 @Lo @lI @qL @Fl @tX @Lk @sC @wN @rZ @qK @Fk @tV @pT @rV @gV
set_option maxHeartbeats 2000000 in
theorem TJ(s:Bs)(hs:s.length≤4194304):PC Tryz.prog 266 [.im (.string ⟨(s).toArray⟩),(.im (.int .i64 (10))),(.im (.int .i64 (32)))] (.tu [.im (.int .u64 (((puR 10 s).1:Int))),GM (puR 10 s).2]):=by
 refine PC.enter 172 Tryz.func266 rfl (by decide) rfl rfl (s:=[(0,.im (.string ⟨(s).toArray⟩)),(1,(.im (.int .i64 (10)))),(2,(.im (.int .i64 (32))))]) (by rfl) ?_
 cases hn:(s==([]:Bs))with
 | true =>
  rw[beq_iff_eq]at hn;subst hn;have e:(([]:Bs)==[])=true:=rfl;refine wG aY (AI BY e) ?_;refine pU ?_;refine goG aY TI ?_;refine wG aY TI ?_;rw[show(puR 10 [])=(0,2)from rfl]
  refine aI (rs:=[.tmp 6,.tmp 7]) rfl (by first|exact .inl rfl|exact .inr rfl) (finG aY) ?_
  all_goals exact wkG aB
 | false =>
 have hne:s≠[]:=by rwa [beq_eq_false_iff_ne]at hn
 rw[show puR 10 s=puF 10 0 s by unfold puR;rw[if_neg hne]]
 have hA:s.length≤140737488355328:=by omega
 have hk1:IntKind.u64.wrap 32=32:=by kernel_rfl
 have hk2:IntKind.u64.wrap (1*2^min 32 IntKind.u64.bits)=4294967296:=by kernel_rfl
 have hk3:IntKind.u64.wrap 4294967295=4294967295:=by kernel_rfl
 refine wG aY (A6 BY hn hA hk1 hk2 hk3) ?_
 refine aW ?_
 refine ALp.cutP 0 [(0,.im (.string ⟨(s).toArray⟩)),(1,(.im (.int .i64 (10)))),(8,(.im (.bool (false)))),(10,.im (.int .u64 (1844674407370955162))),(11,.im (.int .u64 (4294967295))),(12,(.im (.bool (false)))),(13,.im (.int .u64 (((acF 10 (s.take (0)):Nat):Int)))),(99,.sl (s.map byB) .ro),(100,(.im (.int .i64 (s.length)))),(101,(.im (.int .i64 ((((0:Nat)):Int)))))] [] aB ?_
 refine ALp.upto s.length (fun m=>puF 10 (acF 10 (s.take m)) (s.drop m)=puF 10 0 s∧acF 10 (s.take m)≤4294967295) (fun m=>⟨dn 172 [(0,.im (.string ⟨(s).toArray⟩)),(1,(.im (.int .i64 (10)))),(8,(.im (.bool (false)))),(10,.im (.int .u64 (1844674407370955162))),(11,.im (.int .u64 (4294967295))),(12,(.im (.bool (false)))),(13,.im (.int .u64 (((acF 10 (s.take (m)):Nat):Int)))),(99,.sl (s.map byB) .ro),(100,(.im (.int .i64 (s.length)))),(101,(.im (.int .i64 ((((m:Nat)):Int)))))],ofl []⟩) ?_ 0 (Nat.zero_le _) ⟨rfl,Nat.zero_le _⟩
 intro m hm hI hnext
 obtain⟨hI,hac⟩:=hI
 rw[←hI]
 by_cases hlt:m<s.length
 case neg =>
  obtain rfl:m=s.length:=by omega
  clear hnext;rw[List.drop_length];rw[show puF 10 (acF 10 (s.take s.length)) []=(acF 10 (s.take s.length),0)from rfl]
  generalize acF 10 (s.take s.length)=a;refine wG aY @Int.lt_irrefl ?_;refine aI (rs:=[.tmp 6,.tmp 7]) rfl (by first|exact .inl rfl|exact .inr rfl) (finG aY) ?_
  all_goals exact wkG aB
 have hlt':(m:Int)<(s.length:Int):=by omega
 have hm1:=aT hlt (by omega)
 have hg:=bJ hlt
 have hst:=Po 10 hlt
 have hn2:=hnext (m+1) (by omega) (by omega)
 have hd:s.drop m=s[m]::s.drop (m+1):=List.drop_eq_getElem_cons hlt
 rw[hd]at hI ⊢
 rw[puF]at hI ⊢
 rw[hst]at hn2
 clear hnext hst
 generalize acF 10 (s.take m)=a at hac hn2 hI ⊢
 generalize hc:s[m]=c at hg hn2 hI ⊢
 have hcl:=c.toNat_lt
 have q:=Vm c
 have hlw:(lowC c).toNat<256:=(lowC c).toNat_lt
 refine wnG aY (A3 hlt' hg BY) ?_
 refine AWp.block ?_
 refine wnG aY (A3 hlt' hg BY) ?_
 refine AWp.tail (ι:={d:Nat // dgv c=some d∧d≤35}) (fun i=>⟨dn 172 [(0,.im (.string ⟨(s).toArray⟩)),(1,(.im (.int .i64 (10)))),(8,(.im (.bool (false)))),(10,.im (.int .u64 (1844674407370955162))),(11,.im (.int .u64 (4294967295))),(12,(.im (.bool (false)))),(13,.im (.int .u64 ((a:Int)))),(16,.im (.int .u8 ((i.1:Nat):Int))),(99,.sl (s.map byB) .ro),(100,(.im (.int .i64 (s.length)))),(101,(.im (.int .i64 ((m:Int)))))],ofl []⟩) (fun i=> ?_) (fun rest ht=> ?_)
 ·obtain⟨d,hdv,hd35⟩:=i
  dsimp only;rw[hdv]at hI hn2 ⊢;simp only[Option.getD_some]at hI hn2 ⊢;have w1:IntKind.u8.wrap 10=10:=by kernel_rfl
  have w2:IntKind.u64.wrap 10=10:=by kernel_rfl
  by_cases hdb:10≤d
  ·have hdb':((d:Nat):Int)≥10:=by omega
   rw[if_pos hdb];refine wG aY (AI w1 hdb') ?_;refine pU ?_;refine goG aY TI ?_;refine wG aY TI ?_;refine aI (rs:=[.tmp 6,.tmp 7]) rfl (by first|exact .inl rfl|exact .inr rfl) (finG aY) ?_
   all_goals exact wkG aB
  have hdb': ¬((d:Nat):Int)≥10:=by omega
  rw[if_neg hdb]at hI ⊢;have hcut: ¬(a:Int)≥1844674407370955162:=by omega
  have w3:IntKind.u64.wrap ((a:Int)*10)=(a:Int)*10:=IntWalk.u64_in _ (by omega)
  have w4:IntKind.u64.wrap ((d:Nat):Int)=((d:Nat):Int):=IntWalk.u64_in _ (by omega)
  have w5:IntKind.u64.wrap ((a:Int)*10+((d:Nat):Int))=(((a*10+d:Nat)):Int):=by rw[IntWalk.u64_in _ (by omega)];omega
  have h1: ¬(((a*10+d:Nat)):Int)<(a:Int)*10:=by omega
  by_cases hbig:4294967295<a*10+d
  ·have hbig':(((a*10+d:Nat)):Int)>4294967295:=by omega
   rw[if_pos hbig];refine wG aY (A9 w1 w2 hdb' hcut w3 w4 w5 h1 hbig') ?_;refine pU ?_;refine goG aY TI ?_;refine wG aY TI ?_;refine aI (rs:=[.tmp 6,.tmp 7]) rfl (by first|exact .inl rfl|exact .inr rfl) (finG aY) ?_
   all_goals exact wkG aB
  have hbig': ¬(((a*10+d:Nat)):Int)>4294967295:=by omega
  rw[if_neg hbig]at hI ⊢;have hn3:=hn2 ⟨hI,by omega⟩
  rw[hI];clear hn2;refine wG aY (A10 w1 w2 hdb' hcut w3 w4 w5 h1 hbig' hm1) ?_;refine ALp.cutP 0 [(0,.im (.string ⟨(s).toArray⟩)),(1,(.im (.int .i64 (10)))),(8,(.im (.bool (false)))),(10,.im (.int .u64 (1844674407370955162))),(11,.im (.int .u64 (4294967295))),(12,(.im (.bool (false)))),(13,.im (.int .u64 (((a*10+d:Nat):Int)))),(99,.sl (s.map byB) .ro),(100,(.im (.int .i64 (s.length)))),(101,(.im (.int .i64 ((((m+1:Nat)):Int)))))] [] aB ?_;exact hn3
 by_cases hdig:48≤c.toNat∧c.toNat≤57
 ·have e1:(48:Int)≤(c.toNat:Int):=by omega
  have e2:(c.toNat:Int)≤57:=by omega
  have w:IntKind.u8.wrap ((c.toNat:Int)-48)=((c.toNat-48:Nat):Int):=by rw[IntWalk.u8_in _ (by omega)];omega
  refine wG aY (A3 e1 e2 w) ?_;refine AWp.cutP 0 [(0,.im (.string ⟨(s).toArray⟩)),(1,(.im (.int .i64 (10)))),(8,(.im (.bool (false)))),(10,.im (.int .u64 (1844674407370955162))),(11,.im (.int .u64 (4294967295))),(12,(.im (.bool (false)))),(13,.im (.int .u64 ((a:Int)))),(16,.im (.int .u8 ((c.toNat-48:Nat):Int))),(99,.sl (s.map byB) .ro),(100,(.im (.int .i64 (s.length)))),(101,(.im (.int .i64 ((m:Int)))))] [] (AI aB TI) ?_;exact ht ⟨c.toNat-48,by unfold dgv;rw[if_pos hdig],by omega⟩
 have hb:(decide ((48:Int)≤(c.toNat:Int))&&decide ((c.toNat:Int)≤57))=false:=by
  rw[Bool.eq_false_iff];simp only[ne_eq,Bool.and_eq_true,decide_eq_true_eq];omega
 by_cases hl1:97≤(lowC c).toNat
 case neg =>
  have e1: ¬(97:Int)≤((lowC c).toNat:Int):=by omega
  rw[show dgv c=none by unfold dgv;rw[if_neg hdig,if_neg (by omega)]]
  refine wG aY hb ?_;refine AR.callP q TI aB ?_;refine goG aY e1 ?_;refine wG aY TI ?_;refine pU ?_;refine goG aY TI ?_;refine wG aY TI ?_;refine aI (rs:=[.tmp 6,.tmp 7]) rfl (by first|exact .inl rfl|exact .inr rfl) (finG aY) ?_
  all_goals exact wkG aB
 have e1:(97:Int)≤((lowC c).toNat:Int):=by omega
 by_cases hl2:(lowC c).toNat≤122
 case neg =>
  have e2: ¬((lowC c).toNat:Int)≤122:=by omega
  rw[show dgv c=none by unfold dgv;rw[if_neg hdig,if_neg (by omega)]]
  refine wG aY hb ?_;refine AR.callP q TI aB ?_;refine goG aY e1 ?_;refine AR.callP q TI aB ?_;refine goG aY e2 ?_;refine wG aY TI ?_;refine pU ?_;refine goG aY TI ?_;refine wG aY TI ?_;refine aI (rs:=[.tmp 6,.tmp 7]) rfl (by first|exact .inl rfl|exact .inr rfl) (finG aY) ?_
  all_goals exact wkG aB
 have e2:((lowC c).toNat:Int)≤122:=by omega
 have w1:IntKind.u8.wrap (((lowC c).toNat:Int)-97)=((lowC c).toNat:Int)-97:=IntWalk.u8_in _ (by omega)
 have w2:IntKind.u8.wrap (((lowC c).toNat:Int)-97+10)=(((lowC c).toNat-87:Nat):Int):=by rw[IntWalk.u8_in _ (by omega)];omega
 refine wG aY hb ?_
 refine AR.callP q TI aB ?_
 refine goG aY e1 ?_
 refine AR.callP q TI aB ?_
 refine goG aY e2 ?_
 refine wG aY TI ?_
 refine AR.callP q TI aB ?_
 refine goG aY (AI w1 w2) ?_
 refine wG aY TI ?_
 refine AWp.cutP 0 [(0,.im (.string ⟨(s).toArray⟩)),(1,(.im (.int .i64 (10)))),(8,(.im (.bool (false)))),(10,.im (.int .u64 (1844674407370955162))),(11,.im (.int .u64 (4294967295))),(12,(.im (.bool (false)))),(13,.im (.int .u64 ((a:Int)))),(16,.im (.int .u8 (((lowC c).toNat-87:Nat):Int))),(99,.sl (s.map byB) .ro),(100,(.im (.int .i64 (s.length)))),(101,(.im (.int .i64 ((m:Int)))))] [] (AI aB TI) ?_
 exact ht ⟨(lowC c).toNat-87,by unfold dgv;rw[if_neg hdig,if_pos ⟨hl1,hl2⟩],by omega⟩
set_option maxHeartbeats 2000000 in
theorem TH(s:Bs)(hs:s.length≤4194304):PC Tryz.prog 266 [.im (.string ⟨(s).toArray⟩),(.im (.int .i64 (16))),(.im (.int .i64 (32)))] (.tu [.im (.int .u64 (((puR 16 s).1:Int))),GM (puR 16 s).2]):=by
 refine PC.enter 172 Tryz.func266 rfl (by decide) rfl rfl (s:=[(0,.im (.string ⟨(s).toArray⟩)),(1,(.im (.int .i64 (16)))),(2,(.im (.int .i64 (32))))]) (by rfl) ?_
 cases hn:(s==([]:Bs))with
 | true =>
  rw[beq_iff_eq]at hn;subst hn;have e:(([]:Bs)==[])=true:=rfl;refine wG aY (AI BY e) ?_;refine pU ?_;refine goG aY TI ?_;refine wG aY TI ?_;rw[show(puR 16 [])=(0,2)from rfl]
  refine aI (rs:=[.tmp 6,.tmp 7]) rfl (by first|exact .inl rfl|exact .inr rfl) (finG aY) ?_
  all_goals exact wkG aB
 | false =>
 have hne:s≠[]:=by rwa [beq_eq_false_iff_ne]at hn
 rw[show puR 16 s=puF 16 0 s by unfold puR;rw[if_neg hne]]
 have hA:s.length≤140737488355328:=by omega
 have hk1:IntKind.u64.wrap 32=32:=by kernel_rfl
 have hk2:IntKind.u64.wrap (1*2^min 32 IntKind.u64.bits)=4294967296:=by kernel_rfl
 have hk3:IntKind.u64.wrap 4294967295=4294967295:=by kernel_rfl
 refine wG aY (A6 BY hn hA hk1 hk2 hk3) ?_
 refine aW ?_
 refine ALp.cutP 0 [(0,.im (.string ⟨(s).toArray⟩)),(1,(.im (.int .i64 (16)))),(8,(.im (.bool (false)))),(10,.im (.int .u64 (1152921504606846976))),(11,.im (.int .u64 (4294967295))),(12,(.im (.bool (false)))),(13,.im (.int .u64 (((acF 16 (s.take (0)):Nat):Int)))),(99,.sl (s.map byB) .ro),(100,(.im (.int .i64 (s.length)))),(101,(.im (.int .i64 ((((0:Nat)):Int)))))] [] aB ?_
 refine ALp.upto s.length (fun m=>puF 16 (acF 16 (s.take m)) (s.drop m)=puF 16 0 s∧acF 16 (s.take m)≤4294967295) (fun m=>⟨dn 172 [(0,.im (.string ⟨(s).toArray⟩)),(1,(.im (.int .i64 (16)))),(8,(.im (.bool (false)))),(10,.im (.int .u64 (1152921504606846976))),(11,.im (.int .u64 (4294967295))),(12,(.im (.bool (false)))),(13,.im (.int .u64 (((acF 16 (s.take (m)):Nat):Int)))),(99,.sl (s.map byB) .ro),(100,(.im (.int .i64 (s.length)))),(101,(.im (.int .i64 ((((m:Nat)):Int)))))],ofl []⟩) ?_ 0 (Nat.zero_le _) ⟨rfl,Nat.zero_le _⟩
 intro m hm hI hnext
 obtain⟨hI,hac⟩:=hI
 rw[←hI]
 by_cases hlt:m<s.length
 case neg =>
  obtain rfl:m=s.length:=by omega
  clear hnext;rw[List.drop_length];rw[show puF 16 (acF 16 (s.take s.length)) []=(acF 16 (s.take s.length),0)from rfl]
  generalize acF 16 (s.take s.length)=a;refine wG aY @Int.lt_irrefl ?_;refine aI (rs:=[.tmp 6,.tmp 7]) rfl (by first|exact .inl rfl|exact .inr rfl) (finG aY) ?_
  all_goals exact wkG aB
 have hlt':(m:Int)<(s.length:Int):=by omega
 have hm1:=aT hlt (by omega)
 have hg:=bJ hlt
 have hst:=Po 16 hlt
 have hn2:=hnext (m+1) (by omega) (by omega)
 have hd:s.drop m=s[m]::s.drop (m+1):=List.drop_eq_getElem_cons hlt
 rw[hd]at hI ⊢
 rw[puF]at hI ⊢
 rw[hst]at hn2
 clear hnext hst
 generalize acF 16 (s.take m)=a at hac hn2 hI ⊢
 generalize hc:s[m]=c at hg hn2 hI ⊢
 have hcl:=c.toNat_lt
 have q:=Vm c
 have hlw:(lowC c).toNat<256:=(lowC c).toNat_lt
 refine wnG aY (A3 hlt' hg BY) ?_
 refine AWp.block ?_
 refine wnG aY (A3 hlt' hg BY) ?_
 refine AWp.tail (ι:={d:Nat // dgv c=some d∧d≤35}) (fun i=>⟨dn 172 [(0,.im (.string ⟨(s).toArray⟩)),(1,(.im (.int .i64 (16)))),(8,(.im (.bool (false)))),(10,.im (.int .u64 (1152921504606846976))),(11,.im (.int .u64 (4294967295))),(12,(.im (.bool (false)))),(13,.im (.int .u64 ((a:Int)))),(16,.im (.int .u8 ((i.1:Nat):Int))),(99,.sl (s.map byB) .ro),(100,(.im (.int .i64 (s.length)))),(101,(.im (.int .i64 ((m:Int)))))],ofl []⟩) (fun i=> ?_) (fun rest ht=> ?_)
 ·obtain⟨d,hdv,hd35⟩:=i
  dsimp only;rw[hdv]at hI hn2 ⊢;simp only[Option.getD_some]at hI hn2 ⊢;have w1:IntKind.u8.wrap 16=16:=by kernel_rfl
  have w2:IntKind.u64.wrap 16=16:=by kernel_rfl
  by_cases hdb:16≤d
  ·have hdb':((d:Nat):Int)≥16:=by omega
   rw[if_pos hdb];refine wG aY (AI w1 hdb') ?_;refine pU ?_;refine goG aY TI ?_;refine wG aY TI ?_;refine aI (rs:=[.tmp 6,.tmp 7]) rfl (by first|exact .inl rfl|exact .inr rfl) (finG aY) ?_
   all_goals exact wkG aB
  have hdb': ¬((d:Nat):Int)≥16:=by omega
  rw[if_neg hdb]at hI ⊢;have hcut: ¬(a:Int)≥1152921504606846976:=by omega
  have w3:IntKind.u64.wrap ((a:Int)*16)=(a:Int)*16:=IntWalk.u64_in _ (by omega)
  have w4:IntKind.u64.wrap ((d:Nat):Int)=((d:Nat):Int):=IntWalk.u64_in _ (by omega)
  have w5:IntKind.u64.wrap ((a:Int)*16+((d:Nat):Int))=(((a*16+d:Nat)):Int):=by rw[IntWalk.u64_in _ (by omega)];omega
  have h1: ¬(((a*16+d:Nat)):Int)<(a:Int)*16:=by omega
  by_cases hbig:4294967295<a*16+d
  ·have hbig':(((a*16+d:Nat)):Int)>4294967295:=by omega
   rw[if_pos hbig];refine wG aY (A9 w1 w2 hdb' hcut w3 w4 w5 h1 hbig') ?_;refine pU ?_;refine goG aY TI ?_;refine wG aY TI ?_;refine aI (rs:=[.tmp 6,.tmp 7]) rfl (by first|exact .inl rfl|exact .inr rfl) (finG aY) ?_
   all_goals exact wkG aB
  have hbig': ¬(((a*16+d:Nat)):Int)>4294967295:=by omega
  rw[if_neg hbig]at hI ⊢;have hn3:=hn2 ⟨hI,by omega⟩
  rw[hI];clear hn2;refine wG aY (A10 w1 w2 hdb' hcut w3 w4 w5 h1 hbig' hm1) ?_;refine ALp.cutP 0 [(0,.im (.string ⟨(s).toArray⟩)),(1,(.im (.int .i64 (16)))),(8,(.im (.bool (false)))),(10,.im (.int .u64 (1152921504606846976))),(11,.im (.int .u64 (4294967295))),(12,(.im (.bool (false)))),(13,.im (.int .u64 (((a*16+d:Nat):Int)))),(99,.sl (s.map byB) .ro),(100,(.im (.int .i64 (s.length)))),(101,(.im (.int .i64 ((((m+1:Nat)):Int)))))] [] aB ?_;exact hn3
 by_cases hdig:48≤c.toNat∧c.toNat≤57
 ·have e1:(48:Int)≤(c.toNat:Int):=by omega
  have e2:(c.toNat:Int)≤57:=by omega
  have w:IntKind.u8.wrap ((c.toNat:Int)-48)=((c.toNat-48:Nat):Int):=by rw[IntWalk.u8_in _ (by omega)];omega
  refine wG aY (A3 e1 e2 w) ?_;refine AWp.cutP 0 [(0,.im (.string ⟨(s).toArray⟩)),(1,(.im (.int .i64 (16)))),(8,(.im (.bool (false)))),(10,.im (.int .u64 (1152921504606846976))),(11,.im (.int .u64 (4294967295))),(12,(.im (.bool (false)))),(13,.im (.int .u64 ((a:Int)))),(16,.im (.int .u8 ((c.toNat-48:Nat):Int))),(99,.sl (s.map byB) .ro),(100,(.im (.int .i64 (s.length)))),(101,(.im (.int .i64 ((m:Int)))))] [] (AI aB TI) ?_;exact ht ⟨c.toNat-48,by unfold dgv;rw[if_pos hdig],by omega⟩
 have hb:(decide ((48:Int)≤(c.toNat:Int))&&decide ((c.toNat:Int)≤57))=false:=by
  rw[Bool.eq_false_iff];simp only[ne_eq,Bool.and_eq_true,decide_eq_true_eq];omega
 by_cases hl1:97≤(lowC c).toNat
 case neg =>
  have e1: ¬(97:Int)≤((lowC c).toNat:Int):=by omega
  rw[show dgv c=none by unfold dgv;rw[if_neg hdig,if_neg (by omega)]]
  refine wG aY hb ?_;refine AR.callP q TI aB ?_;refine goG aY e1 ?_;refine wG aY TI ?_;refine pU ?_;refine goG aY TI ?_;refine wG aY TI ?_;refine aI (rs:=[.tmp 6,.tmp 7]) rfl (by first|exact .inl rfl|exact .inr rfl) (finG aY) ?_
  all_goals exact wkG aB
 have e1:(97:Int)≤((lowC c).toNat:Int):=by omega
 by_cases hl2:(lowC c).toNat≤122
 case neg =>
  have e2: ¬((lowC c).toNat:Int)≤122:=by omega
  rw[show dgv c=none by unfold dgv;rw[if_neg hdig,if_neg (by omega)]]
  refine wG aY hb ?_;refine AR.callP q TI aB ?_;refine goG aY e1 ?_;refine AR.callP q TI aB ?_;refine goG aY e2 ?_;refine wG aY TI ?_;refine pU ?_;refine goG aY TI ?_;refine wG aY TI ?_;refine aI (rs:=[.tmp 6,.tmp 7]) rfl (by first|exact .inl rfl|exact .inr rfl) (finG aY) ?_
  all_goals exact wkG aB
 have e2:((lowC c).toNat:Int)≤122:=by omega
 have w1:IntKind.u8.wrap (((lowC c).toNat:Int)-97)=((lowC c).toNat:Int)-97:=IntWalk.u8_in _ (by omega)
 have w2:IntKind.u8.wrap (((lowC c).toNat:Int)-97+10)=(((lowC c).toNat-87:Nat):Int):=by rw[IntWalk.u8_in _ (by omega)];omega
 refine wG aY hb ?_
 refine AR.callP q TI aB ?_
 refine goG aY e1 ?_
 refine AR.callP q TI aB ?_
 refine goG aY e2 ?_
 refine wG aY TI ?_
 refine AR.callP q TI aB ?_
 refine goG aY (AI w1 w2) ?_
 refine wG aY TI ?_
 refine AWp.cutP 0 [(0,.im (.string ⟨(s).toArray⟩)),(1,(.im (.int .i64 (16)))),(8,(.im (.bool (false)))),(10,.im (.int .u64 (1152921504606846976))),(11,.im (.int .u64 (4294967295))),(12,(.im (.bool (false)))),(13,.im (.int .u64 ((a:Int)))),(16,.im (.int .u8 (((lowC c).toNat-87:Nat):Int))),(99,.sl (s.map byB) .ro),(100,(.im (.int .i64 (s.length)))),(101,(.im (.int .i64 ((m:Int)))))] [] (AI aB TI) ?_
 exact ht ⟨(lowC c).toNat-87,by unfold dgv;rw[if_neg hdig,if_pos ⟨hl1,hl2⟩],by omega⟩
def stB(s:Nd)(ne:Int)(a b c d:Bool)(pw:Int):Bool:=(if a then nameT s.name else eqS s.name ByteArray.empty)&&decide (s.width=pw)&&decide ((s.e.length:Int)=ne)&&(b||decide (s.l.length=0))&&(c||decide (s.el.length=0))&&(d||decide (s.cs.length=0))&&s.e.all efm
theorem Qx{b:Bool}(h: ¬b=true):b=false:=by cases b<;>simp_all
theorem tB{b c:Bool}(h:b=true↔c=true):b=c:=by cases b<;>cases c<;>simp_all
theorem dK(n:ByteArray):eqS n ByteArray.empty=decide (n.toList=[]):=by
 unfold eqS
 rw[show ByteArray.empty.toList=[]from by rw[ByteArray.toList_eq];rfl]
 cases n.toList<;>rfl
structure Frm (s:Nd)where
 ne:Int
 a:Bool
 b:Bool
 c:Bool
 d:Bool
 pw:Int
 h:stT s=stB s ne a b c d pw
def Ky:=AI @fM @dP
theorem MS{x:Ex}{r:Bool}(h:PC Tryz.prog 74 [exV x] (.im (.bool (r)))):PC Tryz.prog 166 [exV x] (.im (.bool (!r))):=by
 refine PC.enter 6 Tryz.func166 rfl (by decide) rfl rfl (s:=[(0,exV x)]) (by rfl) ?_
 rw[bK x]at h ⊢
 refine wG Ky TI ?_
 refine AR.callP h TI (A5 aV aJ aK aZ @aC) ?_
 refine goG Ky TI ?_
 refine wG Ky TI ?_
 exact aD
def cQ:=A16 @oK @cN @kL @iL @dN @kD @lK @pD @gT @iE @wP @mD @iV @mC @mB (A8 @mA @oI @iA @cM @jH @iJ @dP @cY)
set_option maxHeartbeats 4000000 in
theorem Ox(s:Nd)(hf:fitN s):PC Tryz.prog 103 [ndV s] (.im (.bool (stT s))):=by
 obtain⟨hI,hsz,⟨he1,he2⟩,h4,h5,h6,h7⟩:=dR hf
 have hn:=Es s.name hsz
 have hE:=rK (gs:=s.e) (F:=166) (fun x=> !efm x) he1 (fun t ht=>MS (AC t (he2 t ht)))
 rw[←List.not_all_eq_any_not]at hE
 refine PC.enter 123 Tryz.func103 rfl (by decide) rfl rfl (s:=[(0,ndV s)]) (by rfl) ?_
 rw[eS]
 obtain⟨k,w,n,e,l,el,cs⟩:=s
 simp only[Nd.kind,Nd.width,Nd.name,Nd.e,Nd.l,Nd.el,Nd.cs]at *
 refine wnG cQ TI ?_
 refine AWp.tail (ι:=Frm (.mk k w n e l el cs)) (fun i=>⟨dn 123 [(1,.pt 0 0),(2,(.im (.bool (false)))),(3,.pt 1 0),(4,(.im (.int .i64 (i.ne)))),(5,(.im (.bool (i.a)))),(6,(.im (.bool (i.b)))),(7,(.im (.bool (i.c)))),(8,(.im (.bool (i.d))))],ofl [.box [.im (.int .i64 (k)),.im (.int .i64 w),.im (.string n),.sl (e.map exV) .ro,.sl (l.map ndV) .ro,.sl (el.map ndV) .ro,.sl (cs.map nlV) .ro],.box [.im (.int .i64 0),.im (.int .i64 i.pw),.im (.string ByteArray.empty),.sl [] .nl,.sl [] .nl,.sl [] .nl,.sl [] .nl]]⟩) (fun i=> ?_) (fun rest ht=> ?_)
 ·obtain⟨ne,a,b,c,d,pw,hi⟩:=i
  dsimp only;rw[hi];clear hi;cases a
  case' true =>
   refine wG cQ TI ?_;refine AR.callP hn TI (A5 aV aJ aK aZ @aC) ?_;refine goG cQ TI ?_;refine wG cQ TI ?_
  case' false =>
   refine wG cQ TI ?_
  case true =>
   refine iX rfl rfl (fun hE1=> ?_) (fun hE1=> ?_)
   ·have hr:stB (.mk k w n e l el cs) ne true b c d pw=false:=Qx (by simp only[stB,dK,Nd.kind,Nd.width,Nd.name,Nd.e,Nd.l,Nd.el,Nd.cs];simp at hE1 ⊢;grind)
    rw[hr];refine wG cQ TI ?_;exact aD
   refine wG cQ TI ?_;refine iX rfl rfl (fun hE2=> ?_) (fun hE2=> ?_)
   ·have hr:stB (.mk k w n e l el cs) ne true b c d pw=false:=Qx (by simp only[stB,dK,Nd.kind,Nd.width,Nd.name,Nd.e,Nd.l,Nd.el,Nd.cs];simp at hE2 ⊢;grind)
    rw[hr];refine wG cQ TI ?_;exact aD
   refine wG cQ TI ?_;refine AR.callP hE TI (A5 aV aJ aK aZ @aC) ?_;refine goG cQ TI ?_;refine wG cQ TI ?_;have hr:stB (.mk k w n e l el cs) ne true b c d pw=e.all efm:=tB (by simp only[stB,dK,Nd.kind,Nd.width,Nd.name,Nd.e,Nd.l,Nd.el,Nd.cs];simp at hE1 hE2 ⊢;grind)
   rw[hr];exact aD
  case false =>
   refine iX rfl rfl (fun hE1=> ?_) (fun hE1=> ?_)
   ·have hr:stB (.mk k w n e l el cs) ne false b c d pw=false:=Qx (by simp only[stB,dK,Nd.kind,Nd.width,Nd.name,Nd.e,Nd.l,Nd.el,Nd.cs];simp at hE1 ⊢;grind)
    rw[hr];refine wG cQ TI ?_;exact aD
   refine wG cQ TI ?_;refine iX rfl rfl (fun hE2=> ?_) (fun hE2=> ?_)
   ·have hr:stB (.mk k w n e l el cs) ne false b c d pw=false:=Qx (by simp only[stB,dK,Nd.kind,Nd.width,Nd.name,Nd.e,Nd.l,Nd.el,Nd.cs];simp at hE2 ⊢;grind)
    rw[hr];refine wG cQ TI ?_;exact aD
   refine wG cQ TI ?_;refine AR.callP hE TI (A5 aV aJ aK aZ @aC) ?_;refine goG cQ TI ?_;refine wG cQ TI ?_;have hr:stB (.mk k w n e l el cs) ne false b c d pw=e.all efm:=tB (by simp only[stB,dK,Nd.kind,Nd.width,Nd.name,Nd.e,Nd.l,Nd.el,Nd.cs];simp at hE1 hE2 ⊢;grind)
   rw[hr];exact aD
 clear hE hn
 by_cases k1:k=1
 ·subst k1
  refine wG cQ TI ?_;refine AWp.cutP 2 [(1,.pt 0 0),(2,(.im (.bool (false)))),(3,.pt 1 0),(4,(.im (.int .i64 (1)))),(5,(.im (.bool (true)))),(6,(.im (.bool (false)))),(7,(.im (.bool (false)))),(8,(.im (.bool (false))))] [.box [.im (.int .i64 (1)),.im (.int .i64 w),.im (.string n),.sl (e.map exV) .ro,.sl (l.map ndV) .ro,.sl (el.map ndV) .ro,.sl (cs.map nlV) .ro],.box [.im (.int .i64 0),.im (.int .i64 0),.im (.string ByteArray.empty),.sl [] .nl,.sl [] .nl,.sl [] .nl,.sl [] .nl]] (A3 aC aJ aK) ?_;exact ht ⟨1,true,false,false,false,0,tB (by simp only[stB,stT,dK,nE,nmd,lst,Nd.kind,Nd.width,Nd.name,Nd.e,Nd.l,Nd.el,Nd.cs];simp;grind)⟩
 by_cases k2:k=2
 ·subst k2
  refine wG cQ TI ?_;refine iX rfl rfl (fun hE0=> ?_) (fun hE0=> ?_)
  ·rw[show stT (.mk 2 w n e l el cs)=false from Qx (by simp only[stT,nE,nmd,lst,Nd.kind,Nd.width,Nd.name,Nd.e,Nd.l,Nd.el,Nd.cs];simp at hE0 ⊢;grind)]
   refine wG cQ TI ?_;exact aD
  refine wG cQ TI ?_;refine AWp.cutP 2 [(1,.pt 0 0),(2,(.im (.bool (false)))),(3,.pt 1 0),(4,(.im (.int .i64 (2)))),(5,(.im (.bool (false)))),(6,(.im (.bool (false)))),(7,(.im (.bool (false)))),(8,(.im (.bool (false))))] [.box [.im (.int .i64 (2)),.im (.int .i64 w),.im (.string n),.sl (e.map exV) .ro,.sl (l.map ndV) .ro,.sl (el.map ndV) .ro,.sl (cs.map nlV) .ro],.box [.im (.int .i64 0),.im (.int .i64 w),.im (.string ByteArray.empty),.sl [] .nl,.sl [] .nl,.sl [] .nl,.sl [] .nl]] (A3 aC aJ aK) ?_;exact ht ⟨2,false,false,false,false,w,tB (by simp only[stB,stT,dK,nE,nmd,lst,Nd.kind,Nd.width,Nd.name,Nd.e,Nd.l,Nd.el,Nd.cs];simp at hE0 ⊢;grind)⟩
 by_cases k3:k=3
 ·subst k3
  refine wG cQ TI ?_;refine AWp.cutP 2 [(1,.pt 0 0),(2,(.im (.bool (false)))),(3,.pt 1 0),(4,(.im (.int .i64 (0)))),(5,(.im (.bool (true)))),(6,(.im (.bool (false)))),(7,(.im (.bool (false)))),(8,(.im (.bool (false))))] [.box [.im (.int .i64 (3)),.im (.int .i64 w),.im (.string n),.sl (e.map exV) .ro,.sl (l.map ndV) .ro,.sl (el.map ndV) .ro,.sl (cs.map nlV) .ro],.box [.im (.int .i64 0),.im (.int .i64 0),.im (.string ByteArray.empty),.sl [] .nl,.sl [] .nl,.sl [] .nl,.sl [] .nl]] (A3 aC aJ aK) ?_;exact ht ⟨0,true,false,false,false,0,tB (by simp only[stB,stT,dK,nE,nmd,lst,Nd.kind,Nd.width,Nd.name,Nd.e,Nd.l,Nd.el,Nd.cs];simp;grind)⟩
 by_cases k4:k=4
 ·subst k4
  refine wG cQ TI ?_;refine AWp.cutP 2 [(1,.pt 0 0),(2,(.im (.bool (false)))),(3,.pt 1 0),(4,(.im (.int .i64 (1)))),(5,(.im (.bool (false)))),(6,(.im (.bool (false)))),(7,(.im (.bool (false)))),(8,(.im (.bool (false))))] [.box [.im (.int .i64 (4)),.im (.int .i64 w),.im (.string n),.sl (e.map exV) .ro,.sl (l.map ndV) .ro,.sl (el.map ndV) .ro,.sl (cs.map nlV) .ro],.box [.im (.int .i64 0),.im (.int .i64 0),.im (.string ByteArray.empty),.sl [] .nl,.sl [] .nl,.sl [] .nl,.sl [] .nl]] (A3 aC aJ aK) ?_;exact ht ⟨1,false,false,false,false,0,tB (by simp only[stB,stT,dK,nE,nmd,lst,Nd.kind,Nd.width,Nd.name,Nd.e,Nd.l,Nd.el,Nd.cs];simp;grind)⟩
 by_cases k5:k=5
 ·subst k5
  refine wG cQ TI ?_;refine AWp.cutP 2 [(1,.pt 0 0),(2,(.im (.bool (false)))),(3,.pt 1 0),(4,(.im (.int .i64 (0)))),(5,(.im (.bool (true)))),(6,(.im (.bool (false)))),(7,(.im (.bool (false)))),(8,(.im (.bool (false))))] [.box [.im (.int .i64 (5)),.im (.int .i64 w),.im (.string n),.sl (e.map exV) .ro,.sl (l.map ndV) .ro,.sl (el.map ndV) .ro,.sl (cs.map nlV) .ro],.box [.im (.int .i64 0),.im (.int .i64 0),.im (.string ByteArray.empty),.sl [] .nl,.sl [] .nl,.sl [] .nl,.sl [] .nl]] (A3 aC aJ aK) ?_;exact ht ⟨0,true,false,false,false,0,tB (by simp only[stB,stT,dK,nE,nmd,lst,Nd.kind,Nd.width,Nd.name,Nd.e,Nd.l,Nd.el,Nd.cs];simp;grind)⟩
 by_cases k6:k=6
 ·subst k6
  refine wG cQ TI ?_;refine AWp.cutP 2 [(1,.pt 0 0),(2,(.im (.bool (false)))),(3,.pt 1 0),(4,(.im (.int .i64 (1)))),(5,(.im (.bool (false)))),(6,(.im (.bool (true)))),(7,(.im (.bool (true)))),(8,(.im (.bool (false))))] [.box [.im (.int .i64 (6)),.im (.int .i64 w),.im (.string n),.sl (e.map exV) .ro,.sl (l.map ndV) .ro,.sl (el.map ndV) .ro,.sl (cs.map nlV) .ro],.box [.im (.int .i64 0),.im (.int .i64 0),.im (.string ByteArray.empty),.sl [] .nl,.sl [] .nl,.sl [] .nl,.sl [] .nl]] (A3 aC aJ aK) ?_;exact ht ⟨1,false,true,true,false,0,tB (by simp only[stB,stT,dK,nE,nmd,lst,Nd.kind,Nd.width,Nd.name,Nd.e,Nd.l,Nd.el,Nd.cs];simp;grind)⟩
 by_cases k7:k=7
 ·subst k7
  refine wG cQ TI ?_;refine AWp.cutP 2 [(1,.pt 0 0),(2,(.im (.bool (false)))),(3,.pt 1 0),(4,(.im (.int .i64 (1)))),(5,(.im (.bool (false)))),(6,(.im (.bool (true)))),(7,(.im (.bool (false)))),(8,(.im (.bool (false))))] [.box [.im (.int .i64 (7)),.im (.int .i64 w),.im (.string n),.sl (e.map exV) .ro,.sl (l.map ndV) .ro,.sl (el.map ndV) .ro,.sl (cs.map nlV) .ro],.box [.im (.int .i64 0),.im (.int .i64 0),.im (.string ByteArray.empty),.sl [] .nl,.sl [] .nl,.sl [] .nl,.sl [] .nl]] (A3 aC aJ aK) ?_;exact ht ⟨1,false,true,false,false,0,tB (by simp only[stB,stT,dK,nE,nmd,lst,Nd.kind,Nd.width,Nd.name,Nd.e,Nd.l,Nd.el,Nd.cs];simp;grind)⟩
 by_cases k8:k=8
 ·subst k8
  refine wG cQ TI ?_;refine AWp.cutP 2 [(1,.pt 0 0),(2,(.im (.bool (false)))),(3,.pt 1 0),(4,(.im (.int .i64 (0)))),(5,(.im (.bool (false)))),(6,(.im (.bool (true)))),(7,(.im (.bool (false)))),(8,(.im (.bool (false))))] [.box [.im (.int .i64 (8)),.im (.int .i64 w),.im (.string n),.sl (e.map exV) .ro,.sl (l.map ndV) .ro,.sl (el.map ndV) .ro,.sl (cs.map nlV) .ro],.box [.im (.int .i64 0),.im (.int .i64 0),.im (.string ByteArray.empty),.sl [] .nl,.sl [] .nl,.sl [] .nl,.sl [] .nl]] (A3 aC aJ aK) ?_;exact ht ⟨0,false,true,false,false,0,tB (by simp only[stB,stT,dK,nE,nmd,lst,Nd.kind,Nd.width,Nd.name,Nd.e,Nd.l,Nd.el,Nd.cs];simp;grind)⟩
 by_cases k9:k=9
 ·subst k9
  refine wG cQ TI ?_;refine iX rfl rfl (fun hE0=> ?_) (fun hE0=> ?_)
  ·rw[show stT (.mk 9 w n e l el cs)=false from Qx (by simp only[stT,nE,nmd,lst,Nd.kind,Nd.width,Nd.name,Nd.e,Nd.l,Nd.el,Nd.cs];simp at hE0 ⊢;grind)]
   refine wG cQ TI ?_;exact aD
  refine wG cQ TI ?_;refine AWp.cutP 2 [(1,.pt 0 0),(2,(.im (.bool (false)))),(3,.pt 1 0),(4,(.im (.int .i64 (1)))),(5,(.im (.bool (false)))),(6,(.im (.bool (false)))),(7,(.im (.bool (false)))),(8,(.im (.bool (true))))] [.box [.im (.int .i64 (9)),.im (.int .i64 w),.im (.string n),.sl (e.map exV) .ro,.sl (l.map ndV) .ro,.sl (el.map ndV) .ro,.sl (cs.map nlV) .ro],.box [.im (.int .i64 0),.im (.int .i64 0),.im (.string ByteArray.empty),.sl [] .nl,.sl [] .nl,.sl [] .nl,.sl [] .nl]] (A3 aC aJ aK) ?_;exact ht ⟨1,false,false,false,true,0,tB (by simp only[stB,stT,dK,nE,nmd,lst,Nd.kind,Nd.width,Nd.name,Nd.e,Nd.l,Nd.el,Nd.cs];simp at hE0 ⊢;grind)⟩
 by_cases k10:k=10
 ·subst k10
  refine wG cQ TI ?_;refine AWp.cutP 2 [(1,.pt 0 0),(2,(.im (.bool (false)))),(3,.pt 1 0),(4,(.im (.int .i64 (0)))),(5,(.im (.bool (false)))),(6,(.im (.bool (false)))),(7,(.im (.bool (false)))),(8,(.im (.bool (false))))] [.box [.im (.int .i64 (10)),.im (.int .i64 w),.im (.string n),.sl (e.map exV) .ro,.sl (l.map ndV) .ro,.sl (el.map ndV) .ro,.sl (cs.map nlV) .ro],.box [.im (.int .i64 0),.im (.int .i64 0),.im (.string ByteArray.empty),.sl [] .nl,.sl [] .nl,.sl [] .nl,.sl [] .nl]] (A3 aC aJ aK) ?_;exact ht ⟨0,false,false,false,false,0,tB (by simp only[stB,stT,dK,nE,nmd,lst,Nd.kind,Nd.width,Nd.name,Nd.e,Nd.l,Nd.el,Nd.cs];simp;grind)⟩
 by_cases k11:k=11
 ·subst k11
  refine wG cQ TI ?_;refine AWp.cutP 2 [(1,.pt 0 0),(2,(.im (.bool (false)))),(3,.pt 1 0),(4,(.im (.int .i64 (0)))),(5,(.im (.bool (false)))),(6,(.im (.bool (false)))),(7,(.im (.bool (false)))),(8,(.im (.bool (false))))] [.box [.im (.int .i64 (11)),.im (.int .i64 w),.im (.string n),.sl (e.map exV) .ro,.sl (l.map ndV) .ro,.sl (el.map ndV) .ro,.sl (cs.map nlV) .ro],.box [.im (.int .i64 0),.im (.int .i64 0),.im (.string ByteArray.empty),.sl [] .nl,.sl [] .nl,.sl [] .nl,.sl [] .nl]] (A3 aC aJ aK) ?_;exact ht ⟨0,false,false,false,false,0,tB (by simp only[stB,stT,dK,nE,nmd,lst,Nd.kind,Nd.width,Nd.name,Nd.e,Nd.l,Nd.el,Nd.cs];simp;grind)⟩
 by_cases k12:k=12
 ·subst k12
  refine wG cQ TI ?_;refine AWp.cutP 2 [(1,.pt 0 0),(2,(.im (.bool (false)))),(3,.pt 1 0),(4,(.im (.int .i64 (0)))),(5,(.im (.bool (true)))),(6,(.im (.bool (false)))),(7,(.im (.bool (false)))),(8,(.im (.bool (false))))] [.box [.im (.int .i64 (12)),.im (.int .i64 w),.im (.string n),.sl (e.map exV) .ro,.sl (l.map ndV) .ro,.sl (el.map ndV) .ro,.sl (cs.map nlV) .ro],.box [.im (.int .i64 0),.im (.int .i64 0),.im (.string ByteArray.empty),.sl [] .nl,.sl [] .nl,.sl [] .nl,.sl [] .nl]] (A3 aC aJ aK) ?_;exact ht ⟨0,true,false,false,false,0,tB (by simp only[stB,stT,dK,nE,nmd,lst,Nd.kind,Nd.width,Nd.name,Nd.e,Nd.l,Nd.el,Nd.cs];simp;grind)⟩
 by_cases k13:k=13
 ·subst k13
  refine wG cQ TI ?_;refine AWp.cutP 2 [(1,.pt 0 0),(2,(.im (.bool (false)))),(3,.pt 1 0),(4,(.im (.int .i64 (0)))),(5,(.im (.bool (true)))),(6,(.im (.bool (false)))),(7,(.im (.bool (false)))),(8,(.im (.bool (false))))] [.box [.im (.int .i64 (13)),.im (.int .i64 w),.im (.string n),.sl (e.map exV) .ro,.sl (l.map ndV) .ro,.sl (el.map ndV) .ro,.sl (cs.map nlV) .ro],.box [.im (.int .i64 0),.im (.int .i64 0),.im (.string ByteArray.empty),.sl [] .nl,.sl [] .nl,.sl [] .nl,.sl [] .nl]] (A3 aC aJ aK) ?_;exact ht ⟨0,true,false,false,false,0,tB (by simp only[stB,stT,dK,nE,nmd,lst,Nd.kind,Nd.width,Nd.name,Nd.e,Nd.l,Nd.el,Nd.cs];simp;grind)⟩
 by_cases k14:k=14
 ·subst k14
  refine wG cQ TI ?_;refine AWp.cutP 2 [(1,.pt 0 0),(2,(.im (.bool (false)))),(3,.pt 1 0),(4,(.im (.int .i64 (0)))),(5,(.im (.bool (false)))),(6,(.im (.bool (false)))),(7,(.im (.bool (false)))),(8,(.im (.bool (false))))] [.box [.im (.int .i64 (14)),.im (.int .i64 w),.im (.string n),.sl (e.map exV) .ro,.sl (l.map ndV) .ro,.sl (el.map ndV) .ro,.sl (cs.map nlV) .ro],.box [.im (.int .i64 0),.im (.int .i64 0),.im (.string ByteArray.empty),.sl [] .nl,.sl [] .nl,.sl [] .nl,.sl [] .nl]] (A3 aC aJ aK) ?_;exact ht ⟨0,false,false,false,false,0,tB (by simp only[stB,stT,dK,nE,nmd,lst,Nd.kind,Nd.width,Nd.name,Nd.e,Nd.l,Nd.el,Nd.cs];simp;grind)⟩
 by_cases k15:k=15
 ·subst k15
  refine wG cQ TI ?_;refine AWp.cutP 2 [(1,.pt 0 0),(2,(.im (.bool (false)))),(3,.pt 1 0),(4,(.im (.int .i64 (0)))),(5,(.im (.bool (false)))),(6,(.im (.bool (false)))),(7,(.im (.bool (false)))),(8,(.im (.bool (false))))] [.box [.im (.int .i64 (15)),.im (.int .i64 w),.im (.string n),.sl (e.map exV) .ro,.sl (l.map ndV) .ro,.sl (el.map ndV) .ro,.sl (cs.map nlV) .ro],.box [.im (.int .i64 0),.im (.int .i64 0),.im (.string ByteArray.empty),.sl [] .nl,.sl [] .nl,.sl [] .nl,.sl [] .nl]] (A3 aC aJ aK) ?_;exact ht ⟨0,false,false,false,false,0,tB (by simp only[stB,stT,dK,nE,nmd,lst,Nd.kind,Nd.width,Nd.name,Nd.e,Nd.l,Nd.el,Nd.cs];simp;grind)⟩
 rw[show stT (.mk k w n e l el cs)=false from Qx (fun h=>by simp only[stT,Bool.and_eq_true,decide_eq_true_eq]at h;have q:=h.1.1.1.1.1.1.1;simp only[Nd.kind]at q;omega)]
 refine wG cQ (A15 k1 k2 k3 k4 k5 k6 k7 k8 k9 k10 k11 k12 k13 k14 k15) ?_
 exact aD
end Go.Proofs.YtmbmmckagcdapaaGreatDoor
