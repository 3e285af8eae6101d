/- ParseRoundTrip: decompilerlaw40.ParseRoundTrip returns true for every input (each string and slice of it within the form's own reach), where the listed package-level variables hold what the program's text lays in them, and what came in reads as it did. Proved by walking through the code on trees of values. -/
import Derived.JoinedCond
import Derived.Deep.DeepWitnessRowRef
import Derived.Test.YtmbmmckagcdapaaGreatDoorQ13
import Derived.Test.YtmbmmckagcdapaaGreatDoorQ32
import Derived.Test.YtmbmmckagcdapaaGreatDoorQ36
set_option linter.all false
namespace Go.Proofs.YtmbmmckagcdapaaGreatDoor.parseRoundTrip
open Go.RowKit
theorem own:ownKnob Tryz.prog.godebug=none:=by kernel_rfl
theorem tys:BE Tryz.prog [4,5,46,3,43,9,44,94,91,218,92,96,23,165,35,163,37,76,24,69,25,27]=true:=by kernel_rfl
theorem laid:laidOutB Tryz.prog=true:=by kernel_rfl
theorem pars:(Tryz.f11.params.toList.all fun t=>[4,5,46,3,43,9,44,94,91,218,92,96,23,165,35,163,37,76,24,69,25,27].contains t&&Tryz.prog.readableRec t&&decide (t<Tryz.prog.types.size))=true:=by kernel_rfl
theorem trees{H:Type}(ds:List (DataW H))(h:RdL Tryz.prog Tryz.f11.params.toList ds)(hb:(DataW.weightsEach Tryz.prog Tryz.f11.params.toList ds).all (· ≤reachBytes)=true):PC Tryz.prog 11 (ds.map dV) (.im (.bool true)):=by
 rw[Tryz.params11]at h hb
 match ds,h with
 | [d1],⟨h1,_⟩ =>
  obtain⟨w1,_⟩:=Za hb;obtain⟨x1,e1,f1,g1⟩:=UK d1 h1 w1;simp only[List.map_cons,List.map_nil,dV,e1];exact WU x1 f1 (fun d hd=>(g1 d hd).2) (fun d hd=>(g1 d hd).1)
set_option maxRecDepth 100000 in
theorem lifted(os:Os)(started:os.Started)(H:Type)(enc:TypeId×Value→H)(F:Stop.Interp) :
  ReturnsInHanded {} Tryz.checked os 11 .any ((OpenSpec.ofChange Rows.parseRoundTripSpec).preRow enc Tryz.prog Tryz.f11 Rows.parseRoundTripRow.domain false Rows.parseRoundTripRow.laid) (((OpenSpec.ofChange Rows.parseRoundTripSpec).at F).post enc Tryz.prog Tryz.f11 false true false false):=by
 have hx:DataW.whole enc Tryz.prog ((laidWorld os).forCall (fun _ _=>0) ⟨#[],#[.agg #[.slice none 0 0,.slice none 0 0,.slice none 0 0]],[]⟩).memory Tryz.f11.params.toList Rows.parseRoundTripSpec.vars false #[(.agg #[.slice none 0 0,.slice none 0 0,.slice none 0 0]:Value)].toList 8=some ([.agg [.nil,.nil,.nil]],[],[]):=by kernel_rfl
 refine returnsInHanded_of_row (C:=Tryz.checked) (s:=OpenSpec.ofChange Rows.parseRoundTripSpec) own started (by kernel_rfl) Tryz.func11
  (witness_row_atRef (enc:=enc) (C:=Tryz.checked) false (laidWorld os) #[.agg #[.slice none 0 0,.slice none 0 0,.slice none 0 0]] rfl (by kernel_rfl) (by kernel_rfl) (by kernel_rfl)
   (OpenSpec.preRow_of_cond 8 hx (by kernel_rfl) (fun k hk=>by cases hk) (by kernel_rfl) (Qj os _))) ?_
 intro W base args ds gs before hval hW _ _ hwt hL hsh _
 refine Qi tys laid (fun t ht=> ?_) rfl (by kernel_rfl) Tryz.underlying4 (fun ds hd=> ?_) trees hval hW hwt (by rfl) (Ql hsh hL)
 ·have:=List.all_eq_true.1 pars t ht
  simp only[Bool.and_eq_true,decide_eq_true_eq,List.contains_iff_mem]at this;exact⟨this.1.1,this.1.2,this.2⟩
 ·match ds,hd with
  | [d1],_=>rfl
theorem and2{a b:Bool}(h1:a=true)(h2:b=true):(a&&b)=true:=by rw[h1,h2];rfl
set_option maxHeartbeats 4000000 in
theorem facts:joinedFacts Tryz.pinned.checked.prog 11 Tryz.f11 (OpenSpec.ofChange Rows.parseRoundTripSpec).bare Rows.parseRoundTripRow=true:=by
 unfold joinedFacts
 iterate 31 refine and2 ?_ (by as_aux_lemma=>kernel_rfl)
 kernel_rfl
theorem said:Rows.ParseRoundTripSaid :=
 OpenClaim.holds_of_cond 11 Tryz.f11 rfl rfl rfl rfl rfl rfl rfl ⟨rfl,rfl,rfl,rfl,rfl⟩ rfl rfl rfl rfl rfl (by kernel_rfl) Tryz.func11 facts
  (of_decide_eq_true (by kernel_rfl)) (by unfold Func.isWrapper;first|(rw[if_pos (by decide +kernel)];kernel_rfl)|(rw[if_neg (by decide +kernel)];exact⟨rfl,rfl⟩))
  (fun os started H enc _ F=>by rw[OpenClaim.pre_eq_preRow];exact lifted os started H enc F)
theorem plain(f:FuncId)(fn:Func)(hf:Tryz.pinned.checked.prog.funcNamed "decompiler/decompilerlaw40.ParseRoundTrip" =some f)(hfn:Tryz.pinned.checked.prog.funcs[f]? =some fn) :
  true=Tryz.pinned.checked.prog.looks []∧ ∀(j:Nat) t,fn.params[j]? =some t→Tryz.pinned.checked.prog.wantsStandIn t=false:=by
 obtain rfl:f=11:=Option.some.inj ((show Tryz.prog.funcNamed "decompiler/decompilerlaw40.ParseRoundTrip" =some 11 by kernel_rfl).symm.trans hf) |>.symm
 obtain rfl:fn=Tryz.f11:=(Option.some.inj (Tryz.func11.symm.trans hfn)).symm
 refine⟨by kernel_rfl,fun j t ht=> ?_⟩
 rw[Tryz.params11]at ht
 have h:=Array.mem_of_getElem? ht
 simp only[List.mem_toArray,List.mem_cons,List.not_mem_nil,or_false]at h
 rcases h with rfl
 ·exact(show Tryz.prog.wantsStandIn 27=false by kernel_rfl)
theorem proved:Rows.ParseRoundTripCardSaid :=
 Claim7.holds_tied_plain_at .later [] _ _ _ _ said (fun _ h=>by cases h) (by kernel_rfl) (fun _ h=>by cases h) parseRoundTrip_row_tie rfl ⟨rfl,rfl⟩ (by kernel_rfl) rfl plain (by kernel_rfl)
end Go.Proofs.YtmbmmckagcdapaaGreatDoor.parseRoundTrip
