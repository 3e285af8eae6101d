import Derived.Test.YtmbmmckagcdapaaGreatDoorU10
import Derived.Test.YtmbmmckagcdapaaGreatDoorU23
import Derived.Test.YtmbmmckagcdapaaGreatDoorU14
set_option linter.all false
namespace Go.Proofs.YtmbmmckagcdapaaGreatDoor
open Go.RowKit
def scnR(s:Bs):List Tk×Int:=if 65536<s.length then([],6)else((Oj s).1,if(Oj s).2 then 0 else 3)
def fT:=A16 @rK @cQ @Jh @eF @BP @lD @BM @qA @pG @Ds @Dr @Pv @Dq @Dp @BH (A6 @xI @iI @cN @Iz @dR @gB)
set_option maxHeartbeats 2000000 in
theorem Ij(s:Bs)(hs:s.length≤4194304):PC Tryz.prog 28 [.im (.string ⟨(s).toArray⟩)] (.tu [.sl ((scnR s).1.map tkV) .ro,.im (.int .i64 (scnR s).2)]):=by
 by_cases hbig:65536<s.length
 ·have hb:(s.length:Int)>65536:=by omega
  rw[show scnR s=([],6)from if_pos hbig]
  refine PC.enter 73 Tryz.func28 rfl (by decide) rfl rfl (s:=[(0,.im (.string ⟨(s).toArray⟩))]) (by rfl) ?_
  refine wG fT (A3 BY iE hb) ?_;refine aJ (rs:=[.tmp 2,.tmp 3]) rfl (by first|exact .inl rfl|exact .inr rfl) (finG fT) ?_
  all_goals exact wkG (A3 aC aB aF)
 have hb: ¬(s.length:Int)>65536:=by omega
 rw[show scnR s=((Oj s).1,if(Oj s).2 then 0 else 3)from if_neg hbig]
 refine PC.enter 73 Tryz.func28 rfl (by decide) rfl rfl (s:=[(0,.im (.string ⟨(s).toArray⟩))]) (by rfl) ?_
 refine AWp.seq ?_
 refine AWp.tail (fun _:Unit=>⟨dn 73 [(0,.im (.string ⟨(s).toArray⟩)),(2,.sl [] .nl),(3,.im (.int .i64 0))],ofl []⟩) (fun _=> ?_) (fun rest ht=> ?_)
 case refine_2 =>
  refine wG fT TI ?_;refine AWp.cutP 0 [(0,.im (.string ⟨(s).toArray⟩)),(2,.sl [] .nl),(3,.im (.int .i64 0))] [] (A4 aC aB aF TI) ?_;exact ht ()
 refine AWp.seq ?_
 refine AWp.tail (fun _:Unit=>⟨dn 73 [(0,.im (.string ⟨(s).toArray⟩)),(2,.sl [] .nl),(3,.im (.int .i64 0))],ofl []⟩) (fun _=> ?_) (fun rest ht=> ?_)
 case refine_2 =>
  refine wG fT (A3 BY iE hb) ?_;refine AWp.cutP 0 [(0,.im (.string ⟨(s).toArray⟩)),(2,.sl [] .nl),(3,.im (.int .i64 0))] [] (A4 aC aB aF TI) ?_;exact ht ()
 refine AWp.seq ?_
 refine AWp.tail (fun _:Unit=>⟨dn 73 [(0,.im (.string ⟨(s).toArray⟩)),(2,.sl [] .nl),(3,.im (.int .i64 0)),(4,.pt 0 0)],ofl [.box [.im (.string ⟨(s).toArray⟩),(.im (.int .i64 (1))),(.im (.int .i64 (1))),.sl [] .nl]]⟩) (fun _=> ?_) (fun rest ht=> ?_)
 case refine_2 =>
  refine wG fT BY ?_;refine AWp.cutP 1 [(0,.im (.string ⟨(s).toArray⟩)),(2,.sl [] .nl),(3,.im (.int .i64 0)),(4,.pt 0 0)] [.box [.im (.string ⟨(s).toArray⟩),(.im (.int .i64 (1))),(.im (.int .i64 (1))),.sl [] .nl]] (A4 aC aB aF TI) ?_;exact ht ()
 refine AWp.ghostB 0 3 [.im (.string ⟨(s).toArray⟩),(.im (.int .i64 (1))),(.im (.int .i64 (1))),.sl [] .nl] 122 5 ?_
 have qb:=Rn s (1,1) [] (by decide) (by decide) hs
 refine wG fT TI ?_
 refine aA [0,1] qb TI (A3 aC aB aF) (A3 aH aI lY) ?_
 refine goG fT TI ?_
 refine wG fT TI ?_
 refine bH ?_
 suffices H: ∀(k f:Nat) (x:Bs) (q:Int×Int) (ts:List Tk),x.length=k→x.length<f→skpG false x=x→Oj s=(ts++(qV f x q).1,(qV f x q).2)→ts.length+x.length≤s.length →
   (x=s.drop (s.length-x.length))→(q=advs (1,1) (s.take (s.length-x.length)))→ALp _ _ _ _ _ ⟨dn 73 [(0,.im (.string ⟨(s).toArray⟩)),(4,.pt 0 0)],ofl [.box [.im (.string ⟨(x).toArray⟩),(.im (.int .i64 (q.1))),(.im (.int .i64 (q.2))),.sl (ts.map tkV) (.mine 1)],.tip 122 5 ts.length]⟩ by
  refine ALp.cutP 2 [(0,.im (.string ⟨(s).toArray⟩)),(4,.pt 0 0)] [.box [.im (.string ⟨(skpG false s).toArray⟩),(.im (.int .i64 ((skq s (1,1)).1))),(.im (.int .i64 ((skq s (1,1)).2))),.sl (([]:List Tk).map tkV) (.mine 1)],.tip 122 5 ([]:List Tk).length] (A3 aC aB aF) ?_;exact H _ (s.length+1) _ _ [] rfl (by have:=qF false s;omega) (kW s false) (by rw[List.nil_append,←Bj];rfl) (by have:=qF false s;simp;exact this) (List.suffix_iff_eq_drop.1 (pJ s false)) rfl
 intro k
 induction k using Nat.strongRecOn with
 | _ k ih =>
 intro f x q ts hk hf hx hE hts hq1 hq2
 refine cD ?_
 cases x with
 | nil =>
  have e0:(([]:Bs)==[])=true:=rfl;rw[Xh,List.append_nil]at hE;rw[hE];clear ih;refine wG fT (AI BY e0) ?_;refine aJ (rs:=[.tmp 2,.tmp 3]) rfl (by first|exact .inl rfl|exact .inr rfl) (finG fT) ?_
  all_goals exact wkG (A3 aC aB aF)
 | cons c r =>
 have e0:((c::r)==([]:Bs))=false:=rfl
 have hxl:(c::r).length≤4194304:=by omega
 have qn:=JQ (c::r) q ts hxl (by simp)
 cases f with
 | zero=>omega
 | succ f =>
 have hN:=CP (f:=f) hx (by simp)
 have hY:=CO (f:=f) hx (by simp)
 have hlen:=Xy (s:=c::r) (by simp)
 generalize nxtR (c::r)=v at qn hN hY hlen
 obtain⟨tk,n,b⟩:=v
 have hal:ts.length+1≤140737488355328:=by rw[List.length_cons]at hts;omega
 cases b with
 | false =>
  rw[hN rfl q]at hE;rw[hE];obtain⟨B,hB⟩: ∃B,B=ts++[(⟨6,[],0,q.1,q.2⟩:Tk)]:=⟨_,rfl⟩
  have hAs:ts.map tkV++[V.ag [.im (.int .i64 6),.im (.string ByteArray.empty),.im (.int .u32 0),.im (.int .i64 q.1),.im (.int .i64 q.2)]]=B.map tkV:=by rw[hB,List.map_append];rfl
  have hAl:ts.length+1=B.length:=by rw[hB];simp
  have hbl:B.length*48≤140737488355328:=by rw[List.length_cons]at hts;omega
  simp only[←hB];clear ih hN hY hlen;refine wG fT (AI BY e0) ?_;refine cO [0,1] qn TI (A3 aC aB aF) (A3 aH aI lY) ?_;refine goG fT TKT ?_;refine wG fT TKT ?_;refine wdG fT (A7 BY GDS TKT hAs hAl hbl @List.length_map.{0,0}) ?_;refine aJ (rs:=[.tmp 2,.tmp 3]) rfl (by first|exact .inl rfl|exact .inr rfl) (finG fT) ?_
  all_goals exact wkG (A3 aC aB aF)
 | true =>
  rw[hY rfl q]at hE;have hn:=hlen rfl;clear hN hY hlen;simp only at hn hE;obtain⟨B,hB⟩: ∃B,B=ts++[tk.at_ q]:=⟨_,rfl⟩
  have hAs:ts.map tkV++[V.ag [.im (.int .i64 tk.kind),.im (.string ⟨tk.text.toArray⟩),.im (.int .u32 tk.n),.im (.int .i64 q.1),.im (.int .i64 q.2)]]=B.map tkV:=by rw[hB,List.map_append];rfl
  have hAl:ts.length+1=B.length:=by rw[hB];simp
  have hbl:B.length*48≤140737488355328:=by rw[List.length_cons]at hts;omega
  obtain⟨a,ha⟩: ∃a,a=s.length-(c::r).length:=⟨_,rfl⟩
  rw[←ha]at hq1 hq2;have hal2:a+(c::r).length=s.length:=by omega
  have hbq:=oT (s.take a) (1,1) (by decide) (by decide)
  rw[←hq2,List.length_take]at hbq;have hs1:=Zs (c::r) q B n hn.2 (by omega) (by omega) hxl
  have hq3:advs q ((c::r).take n)=advs (1,1) (s.take (a+n)):=by rw[hq2,hq1];exact rB (1,1) s a n
  have hx3:(c::r).drop n=s.drop (a+n):=by rw[hq1,List.drop_drop]
  have hbq2:=oT (s.take (a+n)) (1,1) (by decide) (by decide)
  rw[List.length_take]at hbq2;rw[hq3]at hs1 hE;rw[hx3]at hs1 hE;have hyl:(s.drop (a+n)).length=s.length-(a+n):=List.length_drop;have hs2:=Rn (s.drop (a+n)) (advs (1,1) (s.take (a+n))) B (by omega) (by omega) (by omega)
  have hle:=qF false (s.drop (a+n))
  have hq4:skq (s.drop (a+n)) (advs (1,1) (s.take (a+n)))=advs (1,1) (s.take (s.length-(skpG false (s.drop (a+n))).length)):=by
   unfold skq;rw[rB,hyl,show a+n+(s.length-(a+n)-(skpG false (s.drop (a+n))).length)=s.length-(skpG false (s.drop (a+n))).length by omega]
  have hE2:Oj s=(B++(qV f (skpG false (s.drop (a+n))) (skq (s.drop (a+n)) (advs (1,1) (s.take (a+n))))).1,(qV f (skpG false (s.drop (a+n))) (skq (s.drop (a+n)) (advs (1,1) (s.take (a+n))))).2):=by
   rw[←Bj,hE,hB,List.append_assoc];rfl
  have hrec:=ih (skpG false (s.drop (a+n))).length (by omega) f _ _ B rfl (by omega) (kW _ false) hE2 (by omega) (List.suffix_iff_eq_drop.1 ((pJ _ false).trans (List.drop_suffix _ _))) hq4
  clear ih hE hE2 hq4 hle hyl hbq hbq2 hq3 hx3 hq1 hq2 hts;generalize skq (s.drop (a+n)) (advs (1,1) (s.take (a+n)))=q4 at hs2 hrec;generalize skpG false (s.drop (a+n))=x4 at hs2 hrec;generalize advs (1,1) (s.take (a+n))=q3 at hs1 hs2;generalize s.drop (a+n)=x3 at hs1 hs2;refine wG fT (AI BY e0) ?_;refine cO [0,1] qn TI (A3 aC aB aF) (A3 aH aI lY) ?_;refine goG fT TKT ?_;refine wG fT TKT ?_;refine wdG fT (A7 BY GDS TKT hAs hAl hbl @List.length_map.{0,0}) ?_;refine aA [0,1] hs1 TI (A3 aC aB aF) (A3 aH aI lY) ?_;refine goG fT TI ?_;refine wG fT TI ?_;refine aA [0,1] hs2 TI (A3 aC aB aF) (A3 aH aI lY) ?_;refine goG fT TI ?_;refine wG fT TI ?_;refine ALp.cutP 2 [(0,.im (.string ⟨(s).toArray⟩)),(4,.pt 0 0)] [.box [.im (.string ⟨(x4).toArray⟩),(.im (.int .i64 (q4.1))),(.im (.int .i64 (q4.2))),.sl (B.map tkV) (.mine 1)],.tip 122 5 B.length] (A3 aC aB aF) ?_;exact hrec
end Go.Proofs.YtmbmmckagcdapaaGreatDoor
