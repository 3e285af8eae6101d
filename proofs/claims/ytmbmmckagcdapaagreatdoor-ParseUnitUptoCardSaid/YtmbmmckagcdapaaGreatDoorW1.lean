/- ParseUnit: decompilerlaw40.ParseUnit returns true for every input whose bulk is at most 1048576, where the listed package-level variables hold what the program's text lays in them, and what came in reads as it did. Proved by walking through the code on trees of values. -/
import Derived.JoinedCond
import Derived.Deep.DeepWitnessRowRef
import Derived.Test.YtmbmmckagcdapaaGreatDoorV10
import Derived.Test.YtmbmmckagcdapaaGreatDoorV37
set_option linter.all false
namespace Go.Proofs.YtmbmmckagcdapaaGreatDoor.parseUnit
open Go.RowKit
theorem own:ownKnob Tryz.prog.godebug=none:=by kernel_rfl
theorem tys:Wp Tryz.prog [9]=true:=by kernel_rfl
theorem laid:laidOutB Tryz.prog=true:=by kernel_rfl
theorem pars:(Tryz.f5.params.toList.all fun t=>[9].contains t&&Tryz.prog.readableRec t&&decide (t<Tryz.prog.types.size))=true:=by kernel_rfl
theorem trees{H:Type}(ds:List (DataW H))(h:RdL Tryz.prog Tryz.f5.params.toList ds)(hb:Rows.uptoBulkAll ds≤1048576):PC Tryz.prog 5 (ds.map dV) (.im (.bool true)):=by
 rw[Tryz.params5]at h
 match ds,h with
 | [d1],⟨h1,_⟩ =>
  simp only[Rows.uptoBulkAll]at hb;obtain⟨x1,rfl,_⟩:=h1.string_inv Tryz.underlying9;simp only[List.map_cons,List.map_nil,dV];exact NT x1.data.toList (by simp only[Rows.uptoBulk]at hb;omega)
set_option maxRecDepth 100000 in
theorem lifted(os:Os)(started:os.Started)(H:Type)(enc:TypeId×Value→H)(F:Stop.Interp) :
  ReturnsInHanded {} Tryz.checked os 5 .any ((Rows.OpenSpec.upto Rows.parseUnitSpec).preRow enc Tryz.prog Tryz.f5 Rows.parseUnitUptoRow.domain false Rows.parseUnitUptoRow.laid) (((Rows.OpenSpec.upto Rows.parseUnitSpec).at F).post enc Tryz.prog Tryz.f5 false true false false):=by
 have hx:DataW.whole enc Tryz.prog ((laidWorld os).forCall (fun _ _=>0) ⟨#[],#[.string .empty],[]⟩).memory Tryz.f5.params.toList Rows.parseUnitSpec.vars false #[(.string .empty:Value)].toList 8=some ([.lit (.string [])],[],[]):=by kernel_rfl
 refine returnsInHanded_of_row (C:=Tryz.checked) (s:=Rows.OpenSpec.upto Rows.parseUnitSpec) own started (by kernel_rfl) Tryz.func5
  (witness_row_at (enc:=enc) (C:=Tryz.checked) false (laidWorld os) #[.string .empty] rfl (by kernel_rfl) (by kernel_rfl) (by kernel_rfl)
   (OpenSpec.preRow_of_cond 8 hx (by kernel_rfl) (fun k hk=>by cases hk;kernel_rfl) (by kernel_rfl) (Np os _))) ?_
 intro W base args ds gs before hval hW _ hcond _ hL hsh _
 refine No tys laid (fun t ht=> ?_) rfl (by kernel_rfl) Tryz.underlying4 (fun ds hd=> ?_) trees hval hW (hcond _ rfl) (Ns hsh hL)
 ·have:=List.all_eq_true.1 pars t ht
  simp only[Bool.and_eq_true,decide_eq_true_eq,List.contains_iff_mem]at this;exact⟨this.1.1,this.1.2,this.2⟩
 ·match ds,hd with
  | [d1],_=>rfl
theorem and2{a b:Bool}(h1:a=true)(h2:b=true):(a&&b)=true:=by rw[h1,h2];rfl
set_option maxHeartbeats 4000000 in
theorem facts:joinedFacts Tryz.pinned.checked.prog 5 Tryz.f5 (Rows.OpenSpec.upto Rows.parseUnitSpec).bare Rows.parseUnitUptoRow=true:=by
 unfold joinedFacts
 iterate 31 refine and2 ?_ (by as_aux_lemma=>kernel_rfl)
 kernel_rfl
theorem said:Rows.ParseUnitUptoSaid :=
 OpenClaim.holds_of_cond 5 Tryz.f5 rfl rfl rfl rfl rfl rfl rfl ⟨rfl,rfl,rfl,rfl,rfl⟩ rfl rfl rfl rfl rfl (by kernel_rfl) Tryz.func5 facts
  (of_decide_eq_true (by kernel_rfl)) (by unfold Func.isWrapper;first|(rw[if_pos (by decide +kernel)];kernel_rfl)|(rw[if_neg (by decide +kernel)];exact⟨rfl,rfl⟩))
  (fun os started H enc _ F=>by rw[OpenClaim.pre_eq_preRow];exact lifted os started H enc F)
theorem plain(f:FuncId)(fn:Func)(hf:Tryz.pinned.checked.prog.funcNamed "decompiler/decompilerlaw40.ParseUnit" =some f)(hfn:Tryz.pinned.checked.prog.funcs[f]? =some fn) :
  true=Tryz.pinned.checked.prog.looks []∧ ∀(j:Nat) t,fn.params[j]? =some t→Tryz.pinned.checked.prog.wantsStandIn t=false:=by
 obtain rfl:f=5:=Option.some.inj ((show Tryz.prog.funcNamed "decompiler/decompilerlaw40.ParseUnit" =some 5 by kernel_rfl).symm.trans hf) |>.symm
 obtain rfl:fn=Tryz.f5:=(Option.some.inj (Tryz.func5.symm.trans hfn)).symm
 refine⟨by kernel_rfl,fun j t ht=> ?_⟩
 rw[Tryz.params5]at ht
 have h:=Array.mem_of_getElem? ht
 simp only[List.mem_toArray,List.mem_cons,List.not_mem_nil,or_false]at h
 rcases h with rfl
 ·exact(show Tryz.prog.wantsStandIn 9=false by kernel_rfl)
theorem proved:Rows.ParseUnitUptoCardSaid :=
 Claim7.holds_tied_plain_at .later [] _ _ _ _ said (fun _ h=>by cases h) (by kernel_rfl) (fun _ h=>by cases h) parseUnitUpto_row_tie rfl ⟨rfl,rfl⟩ (by kernel_rfl) rfl plain (by kernel_rfl)
end Go.Proofs.YtmbmmckagcdapaaGreatDoor.parseUnit
