import Derived.Test.YtmbmmckagcdapaaGreatDoorN11
import Derived.Test.YtmbmmckagcdapaaGreatDoorN20
import Derived.Test.YtmbmmckagcdapaaGreatDoorN00
set_option linter.all false
namespace Go.Proofs.YtmbmmckagcdapaaGreatDoor
open Go.RowKit
theorem xV(t:Bs)(c:UInt8):Lib.contains t [c]=t.contains c:=by
 induction t with
 | nil=>rfl
 | cons d t ih =>
  rw[contains_cons,ih,List.contains_cons];simp[List.isPrefixOf]
def ktxt:Bs:=[32,98,114,101,97,107,32,99,97,108,108,32,99,97,115,101,32,99,111,110,116,105,110,117,101,32,100,97,116,97,32,101,108,115,101,32,101,120,101,99,32,102,117,110,99,32,103,111,116,111,32,104,97,108,116,32,105,102,32,105,110,32,108,111,111,112,32,111,117,116,32,
 114,101,116,117,114,110,32,115,119,105,116,99,104,32,118,97,114,32,119,104,105,108,101,32,119,114,105,116,101,32,108,111,97,100,49,32,108,111,97,100,50,32,108,111,97,100,52,32,115,116,111,114,101,49,32,115,116,111,114,101,50,32,115,116,111,114,101,52,32,115,101,120,116,49,32,115,101,120,116,50,32]
theorem Ql:tween ktxt=kwds:=by kernel_rfl
theorem Gi{w:Bs}(h:w.contains 32=false):Lib.contains ktxt (32::(w++[32]))=isK w:=by
 have hb: ∀b∈w,b≠32:=fun b hb e=>by
  subst e;rw[List.contains_iff_mem.2 hb]at h;cases h
 rw[pN ktxt w hb,Ql]
 unfold isK
 rw[Bool.eq_iff_iff,List.any_eq_true,List.contains_iff_mem]
 constructor
 ·rintro⟨x,h1,h2⟩
  rw[beq_iff_eq]at h2;exact h2▸h1
 ·exact fun h=>⟨w,h,beq_self_eq_true w⟩
theorem Yo{w:Bs}(h:w.contains 32=true):isK w=false:=by
 rw[←Bool.not_eq_true,uI]
 intro hm
 have:=(show ∀w∈kwds,w.contains 32=false by decide +kernel) w hm
 rw[h]at this
 cases this
theorem AS(w:Bs)(hw:w.length≤4194304):PC Tryz.prog 193 [.im (.string ⟨(w).toArray⟩)] (.im (.bool (isK w))):=by
 refine PC.enter 16 Tryz.func193 rfl (by decide) rfl rfl (s:=[(0,.im (.string ⟨(w).toArray⟩))]) (by rfl) ?_
 cases hn:(w==([]:Bs))with
 | true =>
  have e:isK w=false:=by rw[beq_iff_eq]at hn;rw[hn];decide
  rw[e];refine wG TI (AI BY hn) ?_;exact aD
 | false =>
 have q1:=oA ⟨w.toArray⟩ ⟨#[32]⟩ (by rw[dE];omega)
 rw[show Lib.contains (ByteArray.mk w.toArray).data.toList (ByteArray.mk #[32]).data.toList=w.contains 32 from xV w 32]at q1
 cases b:w.contains 32 with
 | true =>
  rw[b]at q1;rw[Yo b];refine wG TI (AI BY hn) ?_;refine AR.callP q1 TI TI ?_;refine goG TI BY ?_;refine wG TI TI ?_;exact aD
 | false =>
 rw[b]at q1
 have hC:=oA ⟨ktxt.toArray⟩ ⟨(32::(w++[32])).toArray⟩ (of_decide_eq_true (by kernel_rfl))
 rw[show Lib.contains (ByteArray.mk ktxt.toArray).data.toList (ByteArray.mk (32::(w++[32])).toArray).data.toList=isK w from Gi b]at hC
 have a1:1+w.length≤9223372036854775807:=by omega
 have a2:w.length+1+1≤9223372036854775807:=by omega
 generalize isK w=k at hC ⊢
 refine wG TI (AI BY hn) ?_
 refine AR.callP q1 TI TI ?_
 refine goG TI (A4 BY zU a1 a2) ?_
 refine Cj hC rfl rfl (gW (by simp only[St.ev,V.ofVal,V.ofCell,V.size_im,fK,cZ,gX,Nat.reduceLT,Nat.reduceEqDiff,reduceIte,if_true,if_false,List.map_cons,List.map_nil,List.nil_append,List.append_nil,true_and];exact congrArg (fun z=>[V.im (Value.string z),_]) (by kernel_rfl))) (by first|rfl|simp only[List.length_cons,List.length_nil,Nat.reduceAdd,V.ids,V.idsL,idsA,entOk,List.all_cons,List.all_nil,Bool.and_self,Bool.and_true,Bool.true_and,ltB,noId,Nat.reduceLT,decide_true,Bool.true_eq_false,bU,bW,bV,bX]) ?_
 refine goG TI TI ?_
 refine wG TI TI ?_
 exact aD
end Go.Proofs.YtmbmmckagcdapaaGreatDoor
