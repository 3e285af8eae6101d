import Derived.Test.YtmbmmckagcdapaaGreatDoorN11
import Derived.Test.YtmbmmckagcdapaaGreatDoorN10
import Derived.Test.YtmbmmckagcdapaaGreatDoorN18
import Derived.Test.YtmbmmckagcdapaaGreatDoorN32
import Derived.Test.YtmbmmckagcdapaaGreatDoorN33
import Derived.Test.YtmbmmckagcdapaaGreatDoorN21
import Derived.Test.YtmbmmckagcdapaaGreatDoorN12
import Derived.Test.YtmbmmckagcdapaaGreatDoorN25
import Derived.Test.YtmbmmckagcdapaaGreatDoorN04
import Derived.Test.YtmbmmckagcdapaaGreatDoorN30
import Derived.Test.YtmbmmckagcdapaaGreatDoorN24
import Derived.Test.YtmbmmckagcdapaaGreatDoorN34
import Derived.Lib.SmallJoins
import Derived.Test.YtmbmmckagcdapaaGreatDoorN08
import Derived.Test.YtmbmmckagcdapaaGreatDoorN22
set_option linter.all false
namespace Go.Proofs.YtmbmmckagcdapaaGreatDoor
open Go.RowKit
theorem bB(p:Nat→Bool)(l:List Bs):V.idsL p (l.map sV)=true:=fY (fun _=>rfl) l
theorem fB(g:Nat→Nat)(l:List Bs):V.renL g (l.map sV)=l.map sV:=V.renL_id g _ (bB _ l)
theorem Zv(l:List Bs)(r:Bs)(hr:l.flatten=r)(hN:l.length≤4194304)(hlen:r.length≤140737488355328):PC Tryz.prog 83 [.sl (l.map sV) .ro] (.im (.string ⟨(r).toArray⟩)):=by
 have q:=NB l (by omega) (by rw[hr];exact hlen)
 rw[hr]at q
 refine PC.enter 5 Tryz.func83 rfl (by decide) rfl rfl (s:=[(0,.sl (l.map sV) .ro)]) (by rfl) ?_
 refine wG TI TI ?_
 refine AR.callP q TI (A4 aB @aC @aE bB) ?_
 refine goG TI TI ?_
 refine wG TI TI ?_
 exact aD
theorem HO(a b r:Bs)(hr:a++b=r)(hlen:r.length≤140737488355328):PC Tryz.prog 83 [.sl [.im (.string ⟨(a).toArray⟩),.im (.string ⟨(b).toArray⟩)] .ro] (.im (.string ⟨(r).toArray⟩)):=Zv [a,b] r (by simpa using hr) (by simp) hlen
theorem HN(a b c r:Bs)(hr:a++(b++c)=r)(hlen:r.length≤140737488355328):PC Tryz.prog 83 [.sl [.im (.string ⟨(a).toArray⟩),.im (.string ⟨(b).toArray⟩),.im (.string ⟨(c).toArray⟩)] .ro] (.im (.string ⟨(r).toArray⟩)):=Zv [a,b,c] r (by simpa using hr) (by simp) hlen
theorem TO(a b c d e r:Bs)(hr:a++(b++(c++(d++e)))=r)(hlen:r.length≤140737488355328):PC Tryz.prog 83 [.sl [.im (.string ⟨(a).toArray⟩),.im (.string ⟨(b).toArray⟩),.im (.string ⟨(c).toArray⟩),.im (.string ⟨(d).toArray⟩),.im (.string ⟨(e).toArray⟩)] .ro] (.im (.string ⟨(r).toArray⟩)):=Zv [a,b,c,d,e] r (by simpa using hr) (by simp) hlen
def Fe:=A7 @lL @iW @qL @sD @cY @qK @rW
theorem Ie(n:Nat)(hn:n<4294967296):PC Tryz.prog 37 [.im (.int .u32 ((n:Int)))] (.im (.string ⟨(48::120::kW n).toArray⟩)):=by
 have hl:(48::120::kW n).length≤140737488355328:=by
  have:=qI 7 (n+1) n (by omega) (by omega)
  unfold kW;simp only[List.length_cons];omega
 have q1:=WH n hn
 have q2:=HO [48,120] (kW n) _ rfl hl
 have hw:IntKind.u64.wrap (n:Int)=n:=IntWalk.u64_in _ (by omega)
 refine PC.enter 8 Tryz.func37 rfl (by decide) rfl rfl (s:=[(0,.im (.int .u32 ((n:Int))))]) (by rfl) ?_
 refine wG Fe hw ?_
 refine AR.callP q1 TI (A4 aB @aC @aE bB) ?_
 refine goG Fe TI ?_
 refine wG Fe TI ?_
 refine dD q2 TI (A4 aB @aC @aE bB) ?_
 refine goG Fe TI ?_
 refine wG Fe TI ?_
 exact aD
def bR:=A7 @JF @Pz @JB @IY @IR @Pr @IN
theorem s93:pI Tryz.prog 244=none:=by kernel_rfl
theorem AN:PC Tryz.prog 143 [(.im (.int .i64 (3)))] (.ag [.im (.string ⟨([43]).toArray⟩),(.im (.int .i64 (7)))]):=by
 have hw:IntKind.i64.wrap 0=0:=by kernel_rfl
 refine PC.enter 22 Tryz.func143 rfl (by decide) rfl rfl (s:=[(0,(.im (.int .i64 (3))))]) (by rfl) ?_
 refine wG bR s93 ?_
 refine gP (n:=13) (e:=198) (z:=2) (cs:=(List.replicate 13 [.im (.string ByteArray.empty),(.im (.int .i64 (0)))]).flatten) (cs':=[.im (.string ⟨([43]).toArray⟩),(.im (.int .i64 (7))),.im (.string ⟨([45]).toArray⟩),(.im (.int .i64 (7))),.im (.string ⟨([42]).toArray⟩),(.im (.int .i64 (8))),.im (.string ⟨([38]).toArray⟩),(.im (.int .i64 (3))),.im (.string ⟨([124]).toArray⟩),(.im (.int .i64 (1))),.im (.string ⟨([94]).toArray⟩),(.im (.int .i64 (2))),.im (.string ⟨([60,60]).toArray⟩),(.im (.int .i64 (6))),.im (.string ⟨([62,62]).toArray⟩),(.im (.int .i64 (6))),.im (.string ⟨([62,62,115]).toArray⟩),(.im (.int .i64 (6))),.im (.string ⟨([61,61]).toArray⟩),(.im (.int .i64 (4))),.im (.string ⟨([33,61]).toArray⟩),(.im (.int .i64 (4))),.im (.string ⟨([60,115]).toArray⟩),(.im (.int .i64 (5))),.im (.string ⟨([60]).toArray⟩),(.im (.int .i64 (5)))]) ?_
 refine goG bR TI ?_
 refine wG bR hw ?_
 refine aI (rs:=[.cell 2 198]) rfl (by first|exact .inl rfl|exact .inr rfl) (finG bR) ?_
 all_goals exact wkG (A4 aB @aC @aE bB)
theorem AM:PC Tryz.prog 143 [(.im (.int .i64 (4)))] (.ag [.im (.string ⟨([45]).toArray⟩),(.im (.int .i64 (7)))]):=by
 have hw:IntKind.i64.wrap 1=1:=by kernel_rfl
 refine PC.enter 22 Tryz.func143 rfl (by decide) rfl rfl (s:=[(0,(.im (.int .i64 (4))))]) (by rfl) ?_
 refine wG bR s93 ?_
 refine gP (n:=13) (e:=198) (z:=2) (cs:=(List.replicate 13 [.im (.string ByteArray.empty),(.im (.int .i64 (0)))]).flatten) (cs':=[.im (.string ⟨([43]).toArray⟩),(.im (.int .i64 (7))),.im (.string ⟨([45]).toArray⟩),(.im (.int .i64 (7))),.im (.string ⟨([42]).toArray⟩),(.im (.int .i64 (8))),.im (.string ⟨([38]).toArray⟩),(.im (.int .i64 (3))),.im (.string ⟨([124]).toArray⟩),(.im (.int .i64 (1))),.im (.string ⟨([94]).toArray⟩),(.im (.int .i64 (2))),.im (.string ⟨([60,60]).toArray⟩),(.im (.int .i64 (6))),.im (.string ⟨([62,62]).toArray⟩),(.im (.int .i64 (6))),.im (.string ⟨([62,62,115]).toArray⟩),(.im (.int .i64 (6))),.im (.string ⟨([61,61]).toArray⟩),(.im (.int .i64 (4))),.im (.string ⟨([33,61]).toArray⟩),(.im (.int .i64 (4))),.im (.string ⟨([60,115]).toArray⟩),(.im (.int .i64 (5))),.im (.string ⟨([60]).toArray⟩),(.im (.int .i64 (5)))]) ?_
 refine goG bR TI ?_
 refine wG bR hw ?_
 refine aI (rs:=[.cell 2 198]) rfl (by first|exact .inl rfl|exact .inr rfl) (finG bR) ?_
 all_goals exact wkG (A4 aB @aC @aE bB)
theorem AL:PC Tryz.prog 143 [(.im (.int .i64 (5)))] (.ag [.im (.string ⟨([42]).toArray⟩),(.im (.int .i64 (8)))]):=by
 have hw:IntKind.i64.wrap 2=2:=by kernel_rfl
 refine PC.enter 22 Tryz.func143 rfl (by decide) rfl rfl (s:=[(0,(.im (.int .i64 (5))))]) (by rfl) ?_
 refine wG bR s93 ?_
 refine gP (n:=13) (e:=198) (z:=2) (cs:=(List.replicate 13 [.im (.string ByteArray.empty),(.im (.int .i64 (0)))]).flatten) (cs':=[.im (.string ⟨([43]).toArray⟩),(.im (.int .i64 (7))),.im (.string ⟨([45]).toArray⟩),(.im (.int .i64 (7))),.im (.string ⟨([42]).toArray⟩),(.im (.int .i64 (8))),.im (.string ⟨([38]).toArray⟩),(.im (.int .i64 (3))),.im (.string ⟨([124]).toArray⟩),(.im (.int .i64 (1))),.im (.string ⟨([94]).toArray⟩),(.im (.int .i64 (2))),.im (.string ⟨([60,60]).toArray⟩),(.im (.int .i64 (6))),.im (.string ⟨([62,62]).toArray⟩),(.im (.int .i64 (6))),.im (.string ⟨([62,62,115]).toArray⟩),(.im (.int .i64 (6))),.im (.string ⟨([61,61]).toArray⟩),(.im (.int .i64 (4))),.im (.string ⟨([33,61]).toArray⟩),(.im (.int .i64 (4))),.im (.string ⟨([60,115]).toArray⟩),(.im (.int .i64 (5))),.im (.string ⟨([60]).toArray⟩),(.im (.int .i64 (5)))]) ?_
 refine goG bR TI ?_
 refine wG bR hw ?_
 refine aI (rs:=[.cell 2 198]) rfl (by first|exact .inl rfl|exact .inr rfl) (finG bR) ?_
 all_goals exact wkG (A4 aB @aC @aE bB)
theorem AK:PC Tryz.prog 143 [(.im (.int .i64 (6)))] (.ag [.im (.string ⟨([38]).toArray⟩),(.im (.int .i64 (3)))]):=by
 have hw:IntKind.i64.wrap 3=3:=by kernel_rfl
 refine PC.enter 22 Tryz.func143 rfl (by decide) rfl rfl (s:=[(0,(.im (.int .i64 (6))))]) (by rfl) ?_
 refine wG bR s93 ?_
 refine gP (n:=13) (e:=198) (z:=2) (cs:=(List.replicate 13 [.im (.string ByteArray.empty),(.im (.int .i64 (0)))]).flatten) (cs':=[.im (.string ⟨([43]).toArray⟩),(.im (.int .i64 (7))),.im (.string ⟨([45]).toArray⟩),(.im (.int .i64 (7))),.im (.string ⟨([42]).toArray⟩),(.im (.int .i64 (8))),.im (.string ⟨([38]).toArray⟩),(.im (.int .i64 (3))),.im (.string ⟨([124]).toArray⟩),(.im (.int .i64 (1))),.im (.string ⟨([94]).toArray⟩),(.im (.int .i64 (2))),.im (.string ⟨([60,60]).toArray⟩),(.im (.int .i64 (6))),.im (.string ⟨([62,62]).toArray⟩),(.im (.int .i64 (6))),.im (.string ⟨([62,62,115]).toArray⟩),(.im (.int .i64 (6))),.im (.string ⟨([61,61]).toArray⟩),(.im (.int .i64 (4))),.im (.string ⟨([33,61]).toArray⟩),(.im (.int .i64 (4))),.im (.string ⟨([60,115]).toArray⟩),(.im (.int .i64 (5))),.im (.string ⟨([60]).toArray⟩),(.im (.int .i64 (5)))]) ?_
 refine goG bR TI ?_
 refine wG bR hw ?_
 refine aI (rs:=[.cell 2 198]) rfl (by first|exact .inl rfl|exact .inr rfl) (finG bR) ?_
 all_goals exact wkG (A4 aB @aC @aE bB)
theorem AJ:PC Tryz.prog 143 [(.im (.int .i64 (7)))] (.ag [.im (.string ⟨([124]).toArray⟩),(.im (.int .i64 (1)))]):=by
 have hw:IntKind.i64.wrap 4=4:=by kernel_rfl
 refine PC.enter 22 Tryz.func143 rfl (by decide) rfl rfl (s:=[(0,(.im (.int .i64 (7))))]) (by rfl) ?_
 refine wG bR s93 ?_
 refine gP (n:=13) (e:=198) (z:=2) (cs:=(List.replicate 13 [.im (.string ByteArray.empty),(.im (.int .i64 (0)))]).flatten) (cs':=[.im (.string ⟨([43]).toArray⟩),(.im (.int .i64 (7))),.im (.string ⟨([45]).toArray⟩),(.im (.int .i64 (7))),.im (.string ⟨([42]).toArray⟩),(.im (.int .i64 (8))),.im (.string ⟨([38]).toArray⟩),(.im (.int .i64 (3))),.im (.string ⟨([124]).toArray⟩),(.im (.int .i64 (1))),.im (.string ⟨([94]).toArray⟩),(.im (.int .i64 (2))),.im (.string ⟨([60,60]).toArray⟩),(.im (.int .i64 (6))),.im (.string ⟨([62,62]).toArray⟩),(.im (.int .i64 (6))),.im (.string ⟨([62,62,115]).toArray⟩),(.im (.int .i64 (6))),.im (.string ⟨([61,61]).toArray⟩),(.im (.int .i64 (4))),.im (.string ⟨([33,61]).toArray⟩),(.im (.int .i64 (4))),.im (.string ⟨([60,115]).toArray⟩),(.im (.int .i64 (5))),.im (.string ⟨([60]).toArray⟩),(.im (.int .i64 (5)))]) ?_
 refine goG bR TI ?_
 refine wG bR hw ?_
 refine aI (rs:=[.cell 2 198]) rfl (by first|exact .inl rfl|exact .inr rfl) (finG bR) ?_
 all_goals exact wkG (A4 aB @aC @aE bB)
theorem AH:PC Tryz.prog 143 [(.im (.int .i64 (8)))] (.ag [.im (.string ⟨([94]).toArray⟩),(.im (.int .i64 (2)))]):=by
 have hw:IntKind.i64.wrap 5=5:=by kernel_rfl
 refine PC.enter 22 Tryz.func143 rfl (by decide) rfl rfl (s:=[(0,(.im (.int .i64 (8))))]) (by rfl) ?_
 refine wG bR s93 ?_
 refine gP (n:=13) (e:=198) (z:=2) (cs:=(List.replicate 13 [.im (.string ByteArray.empty),(.im (.int .i64 (0)))]).flatten) (cs':=[.im (.string ⟨([43]).toArray⟩),(.im (.int .i64 (7))),.im (.string ⟨([45]).toArray⟩),(.im (.int .i64 (7))),.im (.string ⟨([42]).toArray⟩),(.im (.int .i64 (8))),.im (.string ⟨([38]).toArray⟩),(.im (.int .i64 (3))),.im (.string ⟨([124]).toArray⟩),(.im (.int .i64 (1))),.im (.string ⟨([94]).toArray⟩),(.im (.int .i64 (2))),.im (.string ⟨([60,60]).toArray⟩),(.im (.int .i64 (6))),.im (.string ⟨([62,62]).toArray⟩),(.im (.int .i64 (6))),.im (.string ⟨([62,62,115]).toArray⟩),(.im (.int .i64 (6))),.im (.string ⟨([61,61]).toArray⟩),(.im (.int .i64 (4))),.im (.string ⟨([33,61]).toArray⟩),(.im (.int .i64 (4))),.im (.string ⟨([60,115]).toArray⟩),(.im (.int .i64 (5))),.im (.string ⟨([60]).toArray⟩),(.im (.int .i64 (5)))]) ?_
 refine goG bR TI ?_
 refine wG bR hw ?_
 refine aI (rs:=[.cell 2 198]) rfl (by first|exact .inl rfl|exact .inr rfl) (finG bR) ?_
 all_goals exact wkG (A4 aB @aC @aE bB)
theorem AG:PC Tryz.prog 143 [(.im (.int .i64 (9)))] (.ag [.im (.string ⟨([60,60]).toArray⟩),(.im (.int .i64 (6)))]):=by
 have hw:IntKind.i64.wrap 6=6:=by kernel_rfl
 refine PC.enter 22 Tryz.func143 rfl (by decide) rfl rfl (s:=[(0,(.im (.int .i64 (9))))]) (by rfl) ?_
 refine wG bR s93 ?_
 refine gP (n:=13) (e:=198) (z:=2) (cs:=(List.replicate 13 [.im (.string ByteArray.empty),(.im (.int .i64 (0)))]).flatten) (cs':=[.im (.string ⟨([43]).toArray⟩),(.im (.int .i64 (7))),.im (.string ⟨([45]).toArray⟩),(.im (.int .i64 (7))),.im (.string ⟨([42]).toArray⟩),(.im (.int .i64 (8))),.im (.string ⟨([38]).toArray⟩),(.im (.int .i64 (3))),.im (.string ⟨([124]).toArray⟩),(.im (.int .i64 (1))),.im (.string ⟨([94]).toArray⟩),(.im (.int .i64 (2))),.im (.string ⟨([60,60]).toArray⟩),(.im (.int .i64 (6))),.im (.string ⟨([62,62]).toArray⟩),(.im (.int .i64 (6))),.im (.string ⟨([62,62,115]).toArray⟩),(.im (.int .i64 (6))),.im (.string ⟨([61,61]).toArray⟩),(.im (.int .i64 (4))),.im (.string ⟨([33,61]).toArray⟩),(.im (.int .i64 (4))),.im (.string ⟨([60,115]).toArray⟩),(.im (.int .i64 (5))),.im (.string ⟨([60]).toArray⟩),(.im (.int .i64 (5)))]) ?_
 refine goG bR TI ?_
 refine wG bR hw ?_
 refine aI (rs:=[.cell 2 198]) rfl (by first|exact .inl rfl|exact .inr rfl) (finG bR) ?_
 all_goals exact wkG (A4 aB @aC @aE bB)
theorem Sq:PC Tryz.prog 143 [(.im (.int .i64 (10)))] (.ag [.im (.string ⟨([62,62]).toArray⟩),(.im (.int .i64 (6)))]):=by
 have hw:IntKind.i64.wrap 7=7:=by kernel_rfl
 refine PC.enter 22 Tryz.func143 rfl (by decide) rfl rfl (s:=[(0,(.im (.int .i64 (10))))]) (by rfl) ?_
 refine wG bR s93 ?_
 refine gP (n:=13) (e:=198) (z:=2) (cs:=(List.replicate 13 [.im (.string ByteArray.empty),(.im (.int .i64 (0)))]).flatten) (cs':=[.im (.string ⟨([43]).toArray⟩),(.im (.int .i64 (7))),.im (.string ⟨([45]).toArray⟩),(.im (.int .i64 (7))),.im (.string ⟨([42]).toArray⟩),(.im (.int .i64 (8))),.im (.string ⟨([38]).toArray⟩),(.im (.int .i64 (3))),.im (.string ⟨([124]).toArray⟩),(.im (.int .i64 (1))),.im (.string ⟨([94]).toArray⟩),(.im (.int .i64 (2))),.im (.string ⟨([60,60]).toArray⟩),(.im (.int .i64 (6))),.im (.string ⟨([62,62]).toArray⟩),(.im (.int .i64 (6))),.im (.string ⟨([62,62,115]).toArray⟩),(.im (.int .i64 (6))),.im (.string ⟨([61,61]).toArray⟩),(.im (.int .i64 (4))),.im (.string ⟨([33,61]).toArray⟩),(.im (.int .i64 (4))),.im (.string ⟨([60,115]).toArray⟩),(.im (.int .i64 (5))),.im (.string ⟨([60]).toArray⟩),(.im (.int .i64 (5)))]) ?_
 refine goG bR TI ?_
 refine wG bR hw ?_
 refine aI (rs:=[.cell 2 198]) rfl (by first|exact .inl rfl|exact .inr rfl) (finG bR) ?_
 all_goals exact wkG (A4 aB @aC @aE bB)
theorem Sp:PC Tryz.prog 143 [(.im (.int .i64 (11)))] (.ag [.im (.string ⟨([62,62,115]).toArray⟩),(.im (.int .i64 (6)))]):=by
 have hw:IntKind.i64.wrap 8=8:=by kernel_rfl
 refine PC.enter 22 Tryz.func143 rfl (by decide) rfl rfl (s:=[(0,(.im (.int .i64 (11))))]) (by rfl) ?_
 refine wG bR s93 ?_
 refine gP (n:=13) (e:=198) (z:=2) (cs:=(List.replicate 13 [.im (.string ByteArray.empty),(.im (.int .i64 (0)))]).flatten) (cs':=[.im (.string ⟨([43]).toArray⟩),(.im (.int .i64 (7))),.im (.string ⟨([45]).toArray⟩),(.im (.int .i64 (7))),.im (.string ⟨([42]).toArray⟩),(.im (.int .i64 (8))),.im (.string ⟨([38]).toArray⟩),(.im (.int .i64 (3))),.im (.string ⟨([124]).toArray⟩),(.im (.int .i64 (1))),.im (.string ⟨([94]).toArray⟩),(.im (.int .i64 (2))),.im (.string ⟨([60,60]).toArray⟩),(.im (.int .i64 (6))),.im (.string ⟨([62,62]).toArray⟩),(.im (.int .i64 (6))),.im (.string ⟨([62,62,115]).toArray⟩),(.im (.int .i64 (6))),.im (.string ⟨([61,61]).toArray⟩),(.im (.int .i64 (4))),.im (.string ⟨([33,61]).toArray⟩),(.im (.int .i64 (4))),.im (.string ⟨([60,115]).toArray⟩),(.im (.int .i64 (5))),.im (.string ⟨([60]).toArray⟩),(.im (.int .i64 (5)))]) ?_
 refine goG bR TI ?_
 refine wG bR hw ?_
 refine aI (rs:=[.cell 2 198]) rfl (by first|exact .inl rfl|exact .inr rfl) (finG bR) ?_
 all_goals exact wkG (A4 aB @aC @aE bB)
theorem So:PC Tryz.prog 143 [(.im (.int .i64 (12)))] (.ag [.im (.string ⟨([61,61]).toArray⟩),(.im (.int .i64 (4)))]):=by
 have hw:IntKind.i64.wrap 9=9:=by kernel_rfl
 refine PC.enter 22 Tryz.func143 rfl (by decide) rfl rfl (s:=[(0,(.im (.int .i64 (12))))]) (by rfl) ?_
 refine wG bR s93 ?_
 refine gP (n:=13) (e:=198) (z:=2) (cs:=(List.replicate 13 [.im (.string ByteArray.empty),(.im (.int .i64 (0)))]).flatten) (cs':=[.im (.string ⟨([43]).toArray⟩),(.im (.int .i64 (7))),.im (.string ⟨([45]).toArray⟩),(.im (.int .i64 (7))),.im (.string ⟨([42]).toArray⟩),(.im (.int .i64 (8))),.im (.string ⟨([38]).toArray⟩),(.im (.int .i64 (3))),.im (.string ⟨([124]).toArray⟩),(.im (.int .i64 (1))),.im (.string ⟨([94]).toArray⟩),(.im (.int .i64 (2))),.im (.string ⟨([60,60]).toArray⟩),(.im (.int .i64 (6))),.im (.string ⟨([62,62]).toArray⟩),(.im (.int .i64 (6))),.im (.string ⟨([62,62,115]).toArray⟩),(.im (.int .i64 (6))),.im (.string ⟨([61,61]).toArray⟩),(.im (.int .i64 (4))),.im (.string ⟨([33,61]).toArray⟩),(.im (.int .i64 (4))),.im (.string ⟨([60,115]).toArray⟩),(.im (.int .i64 (5))),.im (.string ⟨([60]).toArray⟩),(.im (.int .i64 (5)))]) ?_
 refine goG bR TI ?_
 refine wG bR hw ?_
 refine aI (rs:=[.cell 2 198]) rfl (by first|exact .inl rfl|exact .inr rfl) (finG bR) ?_
 all_goals exact wkG (A4 aB @aC @aE bB)
theorem Sn:PC Tryz.prog 143 [(.im (.int .i64 (13)))] (.ag [.im (.string ⟨([33,61]).toArray⟩),(.im (.int .i64 (4)))]):=by
 have hw:IntKind.i64.wrap 10=10:=by kernel_rfl
 refine PC.enter 22 Tryz.func143 rfl (by decide) rfl rfl (s:=[(0,(.im (.int .i64 (13))))]) (by rfl) ?_
 refine wG bR s93 ?_
 refine gP (n:=13) (e:=198) (z:=2) (cs:=(List.replicate 13 [.im (.string ByteArray.empty),(.im (.int .i64 (0)))]).flatten) (cs':=[.im (.string ⟨([43]).toArray⟩),(.im (.int .i64 (7))),.im (.string ⟨([45]).toArray⟩),(.im (.int .i64 (7))),.im (.string ⟨([42]).toArray⟩),(.im (.int .i64 (8))),.im (.string ⟨([38]).toArray⟩),(.im (.int .i64 (3))),.im (.string ⟨([124]).toArray⟩),(.im (.int .i64 (1))),.im (.string ⟨([94]).toArray⟩),(.im (.int .i64 (2))),.im (.string ⟨([60,60]).toArray⟩),(.im (.int .i64 (6))),.im (.string ⟨([62,62]).toArray⟩),(.im (.int .i64 (6))),.im (.string ⟨([62,62,115]).toArray⟩),(.im (.int .i64 (6))),.im (.string ⟨([61,61]).toArray⟩),(.im (.int .i64 (4))),.im (.string ⟨([33,61]).toArray⟩),(.im (.int .i64 (4))),.im (.string ⟨([60,115]).toArray⟩),(.im (.int .i64 (5))),.im (.string ⟨([60]).toArray⟩),(.im (.int .i64 (5)))]) ?_
 refine goG bR TI ?_
 refine wG bR hw ?_
 refine aI (rs:=[.cell 2 198]) rfl (by first|exact .inl rfl|exact .inr rfl) (finG bR) ?_
 all_goals exact wkG (A4 aB @aC @aE bB)
theorem Sl:PC Tryz.prog 143 [(.im (.int .i64 (14)))] (.ag [.im (.string ⟨([60,115]).toArray⟩),(.im (.int .i64 (5)))]):=by
 have hw:IntKind.i64.wrap 11=11:=by kernel_rfl
 refine PC.enter 22 Tryz.func143 rfl (by decide) rfl rfl (s:=[(0,(.im (.int .i64 (14))))]) (by rfl) ?_
 refine wG bR s93 ?_
 refine gP (n:=13) (e:=198) (z:=2) (cs:=(List.replicate 13 [.im (.string ByteArray.empty),(.im (.int .i64 (0)))]).flatten) (cs':=[.im (.string ⟨([43]).toArray⟩),(.im (.int .i64 (7))),.im (.string ⟨([45]).toArray⟩),(.im (.int .i64 (7))),.im (.string ⟨([42]).toArray⟩),(.im (.int .i64 (8))),.im (.string ⟨([38]).toArray⟩),(.im (.int .i64 (3))),.im (.string ⟨([124]).toArray⟩),(.im (.int .i64 (1))),.im (.string ⟨([94]).toArray⟩),(.im (.int .i64 (2))),.im (.string ⟨([60,60]).toArray⟩),(.im (.int .i64 (6))),.im (.string ⟨([62,62]).toArray⟩),(.im (.int .i64 (6))),.im (.string ⟨([62,62,115]).toArray⟩),(.im (.int .i64 (6))),.im (.string ⟨([61,61]).toArray⟩),(.im (.int .i64 (4))),.im (.string ⟨([33,61]).toArray⟩),(.im (.int .i64 (4))),.im (.string ⟨([60,115]).toArray⟩),(.im (.int .i64 (5))),.im (.string ⟨([60]).toArray⟩),(.im (.int .i64 (5)))]) ?_
 refine goG bR TI ?_
 refine wG bR hw ?_
 refine aI (rs:=[.cell 2 198]) rfl (by first|exact .inl rfl|exact .inr rfl) (finG bR) ?_
 all_goals exact wkG (A4 aB @aC @aE bB)
theorem Sk:PC Tryz.prog 143 [(.im (.int .i64 (15)))] (.ag [.im (.string ⟨([60]).toArray⟩),(.im (.int .i64 (5)))]):=by
 have hw:IntKind.i64.wrap 12=12:=by kernel_rfl
 refine PC.enter 22 Tryz.func143 rfl (by decide) rfl rfl (s:=[(0,(.im (.int .i64 (15))))]) (by rfl) ?_
 refine wG bR s93 ?_
 refine gP (n:=13) (e:=198) (z:=2) (cs:=(List.replicate 13 [.im (.string ByteArray.empty),(.im (.int .i64 (0)))]).flatten) (cs':=[.im (.string ⟨([43]).toArray⟩),(.im (.int .i64 (7))),.im (.string ⟨([45]).toArray⟩),(.im (.int .i64 (7))),.im (.string ⟨([42]).toArray⟩),(.im (.int .i64 (8))),.im (.string ⟨([38]).toArray⟩),(.im (.int .i64 (3))),.im (.string ⟨([124]).toArray⟩),(.im (.int .i64 (1))),.im (.string ⟨([94]).toArray⟩),(.im (.int .i64 (2))),.im (.string ⟨([60,60]).toArray⟩),(.im (.int .i64 (6))),.im (.string ⟨([62,62]).toArray⟩),(.im (.int .i64 (6))),.im (.string ⟨([62,62,115]).toArray⟩),(.im (.int .i64 (6))),.im (.string ⟨([61,61]).toArray⟩),(.im (.int .i64 (4))),.im (.string ⟨([33,61]).toArray⟩),(.im (.int .i64 (4))),.im (.string ⟨([60,115]).toArray⟩),(.im (.int .i64 (5))),.im (.string ⟨([60]).toArray⟩),(.im (.int .i64 (5)))]) ?_
 refine goG bR TI ?_
 refine wG bR hw ?_
 refine aI (rs:=[.cell 2 198]) rfl (by first|exact .inl rfl|exact .inr rfl) (finG bR) ?_
 all_goals exact wkG (A4 aB @aC @aE bB)
theorem Pe(o:Int)(ho:3≤o∧o≤15):PC Tryz.prog 143 [(.im (.int .i64 (o)))] (.ag [.im (.string ⟨(nQ o).toArray⟩),(.im (.int .i64 ((stO o:Int))))]):=by
 have:o=3∨o=4∨o=5∨o=6∨o=7∨o=8∨o=9∨o=10∨o=11∨o=12∨o=13∨o=14∨o=15:=by omega
 rcases this with rfl|rfl|rfl|rfl|rfl|rfl|rfl|rfl|rfl|rfl|rfl|rfl|rfl
 ·exact AN
 ·exact AM
 ·exact AL
 ·exact AK
 ·exact AJ
 ·exact AH
 ·exact AG
 ·exact Sq
 ·exact Sp
 ·exact So
 ·exact Sn
 ·exact Sl
 ·exact Sk
def rS:=A4 @cN @Fo @nN @cM
theorem Ry(o n:Int)(s:ByteArray)(w:Int)(l:List Ex):PC Tryz.prog 199 [exV (.mk o n s w l)] (.im (.int .i64 ((strE o:Int)))):=by
 refine PC.enter 23 Tryz.func199 rfl (by decide) rfl rfl (s:=[(0,exV (.mk o n s w l))]) (by rfl) ?_
 simp only[gU]
 by_cases h1:3≤o∧o≤15
 ·have q:=Pe o h1
  have e1:o≥3:=h1.1;have e2:o≤15:=h1.2;rw[show strE o=stO o from if_pos h1]
  refine wG rS (AI e1 e2) ?_;refine AR.callP q TI (A4 aB @aC @aE bB) ?_;refine goG rS TI ?_;refine wG rS TI ?_;exact aD
 have hs:strE o=if o=16∨o=17 then 9 else 10:=if_neg h1
 have hb:(decide (o≥3)&&decide (o≤15))=false:=by simp;omega
 rw[hs]
 by_cases h3:o=16
 ·subst h3
  refine wG rS TI ?_;exact aD
 by_cases h4:o=17
 ·subst h4
  refine wG rS TI ?_;exact aD
 rw[if_neg (by omega)]
 by_cases e1:o≥3
 ·have e2: ¬o≤15:=by omega
  refine wG rS (A4 e1 e2 h3 h4) ?_;exact aD
 ·refine wG rS (A3 e1 h3 h4) ?_
  exact aD
theorem rB{m:Nat}(h:m≤9):Lib.itoa (m:Int)=[hexD m]:=by
 unfold Lib.itoa
 rw[if_neg (by omega),Int.toNat_natCast,Lib.decDigits,dif_pos (by omega)]
 have: ∀m<10,[UInt8.ofNat (48+m)]=[hexD m]:=by decide
 exact this m (by omega)
theorem Rl{w:Int}(h:w=1∨w=2∨w=4):Lib.itoa w=wB w:=by
 rcases h with rfl|rfl|rfl
 ·exact rB (m:=1) (by decide)
 ·exact rB (m:=2) (by decide)
 ·exact rB (m:=4) (by decide)
theorem xF(o:Int)(t:Bs)(need:Nat):t.length≤(opdT o t need).length:=by
 unfold opdT
 split
 ·simp only[List.length_cons,List.length_append];omega
 ·exact Nat.le_refl _
def lG:=A5 @fM @lL @iW @dP @cY
theorem uU(e:Ex)(need:Nat)(hn:need≤10)(hlen:(opdT e.op (txE e) need).length≤140737488355328)(q:PC Tryz.prog 75 [exV e] (.im (.string ⟨(txE e).toArray⟩))):PC Tryz.prog 142 [exV e,(.im (.int .i64 ((need:Int))))] (.im (.string ⟨(opdT e.op (txE e) need).toArray⟩)):=by
 have qs:PC Tryz.prog 199 [exV e] (.im (.int .i64 ((strE e.op:Int)))):=by
  obtain⟨o,n,s,w,l⟩:=e;exact Ry o n s w l
 by_cases h:strE e.op<need
 ·have h1:(strE e.op:Int)<(need:Int):=by omega
  have he:opdT e.op (txE e) need=40::(txE e++[41]):=if_pos h;rw[he]at hlen ⊢;have qj:=HN [40] (txE e) [41] _ rfl hlen;refine PC.enter 15 Tryz.func142 rfl (by decide) rfl rfl (s:=[(0,exV e),(1,(.im (.int .i64 ((need:Int)))))]) (by rfl) ?_
  refine wG lG BN01 ?_;refine AR.callP qs @bK (A4 aB @aC @aE bB) ?_;refine goG lG (A9 @fR @eD @fP @fO @fQ @eE @List.getElem?_map.{0,0} @Int.natCast_nonneg h1) ?_;refine wG lG (A9 @fR @eD @fP @fO @fQ @eE @List.getElem?_map.{0,0} @Int.natCast_nonneg h1) ?_;refine AR.callP q @bK (A4 aB @aC @aE bB) ?_;refine goG lG TI ?_;refine dD qj TI (A4 aB @aC @aE bB) ?_;refine goG lG TI ?_;refine wG lG TI ?_;exact aD
 ·have h1: ¬(strE e.op:Int)<(need:Int):=by omega
  have he:opdT e.op (txE e) need=txE e:=if_neg h;rw[he]at hlen ⊢;refine PC.enter 15 Tryz.func142 rfl (by decide) rfl rfl (s:=[(0,exV e),(1,(.im (.int .i64 ((need:Int)))))]) (by rfl) ?_
  refine wG lG BN01 ?_;refine AR.callP qs @bK (A4 aB @aC @aE bB) ?_;refine goG lG (A9 @fR @eD @fP @fO @fQ @eE @List.getElem?_map.{0,0} @Int.natCast_nonneg h1) ?_;refine wG lG (A9 @fR @eD @fP @fO @fQ @eE @List.getElem?_map.{0,0} @Int.natCast_nonneg h1) ?_;refine AR.callP q @bK (A4 aB @aC @aE bB) ?_;refine goG lG TI ?_;refine wG lG TI ?_;exact aD
theorem Yi{m:Nat}(h:m≤9):Lib.itoa (m:Int)=tG m:=(rB h).trans (if_pos h).symm
def eM:=A16 @cN @mQ @iL @fM @dN @Pz @lL @gT @iW @Tj @Fo @nN @Af @vF @Ae (A11 @lW @tX @sD @Pr @cM @mP @iJ @dP @cY @tV @rW)
set_option maxHeartbeats 2000000 in
theorem wD: ∀(e:Ex),fitE e→efm e=true→(txE e).length≤140737488355328→PC Tryz.prog 75 [exV e] (.im (.string ⟨(txE e).toArray⟩)):=by
 refine Ex.induct fun o n s w l hE=> ?_
 intro hfit hf hlen
 obtain⟨hl1,hfE⟩:=oT hfit
 obtain⟨_,hn,_⟩:=Ob hfit
 rw[wA,Bool.and_eq_true]at hf
 obtain⟨hb,hl⟩:=hf
 have IH:=fun t ht=>hE t ht (hfE t ht) (List.all_eq_true.1 hl t ht)
 clear hE hl hfE
 obtain⟨n,rfl⟩: ∃m:Nat,n=m:=⟨n.toNat,by omega⟩
 rw[mX]at hlen ⊢
 rcases zR hb with ⟨rfl,_,_,h4⟩|⟨rfl,h1,_,_,h4⟩|⟨ho,_,_,_,h4⟩|⟨ho,_,_,_,h4⟩|⟨rfl,_,_,h3,h4⟩|⟨rfl,_,_,h3,h4⟩
 ·rw[show txN 1 (n:Int) s.data.toList w l (l.map txE)=tG n from rfl]
  by_cases h9:n≤9
  ·have h9':(n:Int)≤9:=by omega
   have q:=tN n (by omega) (by omega)
   rw[Yi h9]at q;have hw:IntKind.i64.wrap (n:Int)=n:=dL (by omega)
   refine PC.enter 86 Tryz.func75 rfl (by decide) rfl rfl (s:=[(0,exV (.mk 1 (n:Int) s w l))]) (by rfl) ?_
   simp only[gU];refine wG eM (AI h9' hw) ?_;refine AR.callP q TI (A4 aB @aC @aE bB) ?_;refine goG eM TI ?_;refine wG eM TI ?_;exact aD
  ·have h9': ¬(n:Int)≤9:=by omega
   have q:=Ie n (by omega)
   rw[show tG n=48::120::kW n from if_neg h9]
   refine PC.enter 86 Tryz.func75 rfl (by decide) rfl rfl (s:=[(0,exV (.mk 1 (n:Int) s w l))]) (by rfl) ?_
   simp only[gU];refine wG eM h9' ?_;refine AR.callP q TI (A4 aB @aC @aE bB) ?_;refine goG eM TI ?_;refine wG eM TI ?_;exact aD
 ·rw[show txN 2 (n:Int) s.data.toList w l (l.map txE)=s.data.toList from rfl,show ByteArray.mk s.data.toList.toArray=s from rfl]
  refine PC.enter 86 Tryz.func75 rfl (by decide) rfl rfl (s:=[(0,exV (.mk 2 (n:Int) s w l))]) (by rfl) ?_
  simp only[gU];refine wG eM TI ?_;exact aD
 ·obtain⟨a,b,rfl⟩: ∃a b,l=[a,b]:=by
   match l,h4 with
   | [a,b],_=>exact⟨a,b,rfl⟩
  have e1:txN o (n:Int) s.data.toList w [a,b] ([a,b].map txE)=opdT a.op (txE a) (stO o)++([32]++(nQ o++([32]++opdT b.op (txE b) (stO o+1)))):=by
   unfold txN;rw[if_neg (by omega),if_neg (by omega),if_neg (by omega),if_neg (by omega),if_neg (by omega),if_neg (by omega)]
   rfl
  rw[e1]at hlen ⊢;obtain⟨_,_,q3,_⟩:=Iy ho;have hl0:=hlen;simp only[List.length_append]at hl0;have la:=xF a.op (txE a) (stO o);have lb:=xF b.op (txE b) (stO o+1);have qa:=uU a (stO o) (by omega) (by omega) (IH a (by simp) (by omega))
  have qb:=uU b (stO o+1) (by omega) (by omega) (IH b (by simp) (by omega))
  have qo:=Pe o ho;have qj:=TO (opdT a.op (txE a) (stO o)) [32] (nQ o) [32] (opdT b.op (txE b) (stO o+1)) _ rfl hlen;have hw:IntKind.i64.wrap ((stO o:Int)+1)=((stO o+1:Nat):Int):=by rw[dL (by omega)];omega
  have n1: ¬o=1:=by omega
  have n2: ¬o=2:=by omega
  have n3: ¬o=18:=by omega
  have n4: ¬o=19:=by omega
  have n5: ¬o=16:=by omega
  have n6: ¬o=17:=by omega
  clear IH;refine PC.enter 86 Tryz.func75 rfl (by decide) rfl rfl (s:=[(0,exV (.mk o (n:Int) s w [a,b]))]) (by rfl) ?_
  simp only[gU];refine wG eM (A6 n1 n2 n3 n4 n5 n6) ?_;refine AR.callP qo TI (A4 aB @aC @aE bB) ?_;refine goG eM TI ?_;refine wdG eM BN01 ?_;refine AR.callP qa @bK (A4 aB @aC @aE bB) ?_;refine goG eM (A9 @fR @eD @fP @fO @fQ @eE @List.getElem?_map.{0,0} @Int.natCast_nonneg hw) ?_;refine AR.callP qb @bK (A4 aB @aC @aE bB) ?_;refine goG eM TI ?_;refine dD qj TI (A4 aB @aC @aE bB) ?_;refine goG eM TI ?_;refine wdG eM TI ?_;exact aD
 ·obtain⟨a,rfl⟩: ∃a,l=[a]:=by
   match l,h4 with
   | [a],_=>exact⟨a,rfl⟩
  rcases ho with rfl|rfl
  ·have e1:txN 16 (n:Int) s.data.toList w [a] ([a].map txE)=[33]++opdT a.op (txE a) 9:=rfl
   rw[e1]at hlen ⊢;have hl0:=hlen;simp only[List.length_append]at hl0;have la:=xF a.op (txE a) 9;have qa:=uU a 9 (by omega) (by omega) (IH a (by simp) (by omega))
   rw[show((9:Nat):Int)=9 from rfl]at qa
   have qj:=HO [33] (opdT a.op (txE a) 9) _ rfl hlen;refine PC.enter 86 Tryz.func75 rfl (by decide) rfl rfl (s:=[(0,exV (.mk 16 (n:Int) s w [a]))]) (by rfl) ?_
   simp only[gU];refine wG eM BN01 ?_;refine AR.callP qa @bK (A4 aB @aC @aE bB) ?_;refine goG eM TI ?_;refine dD qj TI (A4 aB @aC @aE bB) ?_;refine goG eM TI ?_;refine wG eM TI ?_;exact aD
  ·have e1:txN 17 (n:Int) s.data.toList w [a] ([a].map txE)=[45]++opdT a.op (txE a) 9:=rfl
   rw[e1]at hlen ⊢;have hl0:=hlen;simp only[List.length_append]at hl0;have la:=xF a.op (txE a) 9;have qa:=uU a 9 (by omega) (by omega) (IH a (by simp) (by omega))
   rw[show((9:Nat):Int)=9 from rfl]at qa
   have qj:=HO [45] (opdT a.op (txE a) 9) _ rfl hlen;refine PC.enter 86 Tryz.func75 rfl (by decide) rfl rfl (s:=[(0,exV (.mk 17 (n:Int) s w [a]))]) (by rfl) ?_
   simp only[gU];refine wG eM BN01 ?_;refine AR.callP qa @bK (A4 aB @aC @aE bB) ?_;refine goG eM TI ?_;refine dD qj TI (A4 aB @aC @aE bB) ?_;refine goG eM TI ?_;refine wG eM TI ?_;exact aD
 ·obtain⟨a,rfl⟩: ∃a,l=[a]:=by
   match l,h4 with
   | [a],_=>exact⟨a,rfl⟩
  have e1:txN 18 (n:Int) s.data.toList w [a] ([a].map txE)=[108,111,97,100]++(wB w++([40]++(txE a++[41]))):=rfl;rw[e1]at hlen ⊢;have hl0:=hlen;simp only[List.length_append]at hl0;have qa:=IH a (by simp) (by omega)
  have qi:=tN w (by omega) (by omega)
  rw[Rl h3]at qi;have qj:=TO [108,111,97,100] (wB w) [40] (txE a) [41] _ rfl hlen;refine PC.enter 86 Tryz.func75 rfl (by decide) rfl rfl (s:=[(0,exV (.mk 18 (n:Int) s w [a]))]) (by rfl) ?_
  simp only[gU];refine wdG eM BN01 ?_;refine AR.callP qi TI (A4 aB @aC @aE bB) ?_;refine goG eM BN01 ?_;refine AR.callP qa @bK (A4 aB @aC @aE bB) ?_;refine goG eM TI ?_;refine dD qj TI (A4 aB @aC @aE bB) ?_;refine goG eM TI ?_;refine wdG eM TI ?_;exact aD
 ·obtain⟨a,rfl⟩: ∃a,l=[a]:=by
   match l,h4 with
   | [a],_=>exact⟨a,rfl⟩
  have e1:txN 19 (n:Int) s.data.toList w [a] ([a].map txE)=[115,101,120,116]++(wB w++([40]++(txE a++[41]))):=rfl;rw[e1]at hlen ⊢;have hl0:=hlen;simp only[List.length_append]at hl0;have qa:=IH a (by simp) (by omega)
  have qi:=tN w (by omega) (by omega)
  rw[Rl (by omega)]at qi
  have qj:=TO [115,101,120,116] (wB w) [40] (txE a) [41] _ rfl hlen;refine PC.enter 86 Tryz.func75 rfl (by decide) rfl rfl (s:=[(0,exV (.mk 19 (n:Int) s w [a]))]) (by rfl) ?_
  simp only[gU];refine wdG eM BN01 ?_;refine AR.callP qi TI (A4 aB @aC @aE bB) ?_;refine goG eM BN01 ?_;refine AR.callP qa @bK (A4 aB @aC @aE bB) ?_;refine goG eM TI ?_;refine dD qj TI (A4 aB @aC @aE bB) ?_;refine goG eM TI ?_;refine wdG eM TI ?_;exact aD
theorem eT(g:Nat→Nat)(i:Nat)(t:TypeId):V.ren g (.nb i t)= .nb (g i) t:=by rw[V.ren]
def Kv:=A8 @vK @Fu @Ft @lI @Io @rZ @uX @gV
theorem Ez(b s:Bs)(k:Int)(hlen:b.length+s.length≤140737488355328):DC Tryz.prog 82 [.pt 0 0,.im (.string ⟨(s).toArray⟩)] [.box [.nb 0 PQ,.sl ((b).map byB) (.mine 1),(.im (.int .i64 (k)))],.tip 5 1 (b).length] (.tu [(.im (.int .i64 ((s.length:Int)))),.im Value.nilIface]) [.box [.nb 0 PQ,.sl (((b++s)).map byB) (.mine 1),(.im (.int .i64 (k)))],.tip 5 1 ((b++s)).length]:=by
 have h:=Ki (.sl (b.map byB) (.mine 1)) (.im (.int .i64 (k))) [.tip 5 1 b.length]
 obtain⟨B,hB⟩: ∃B,B=b++s:=⟨_,rfl⟩
 have hA:b.map byB++s.map byB=B.map byB:=by rw[hB,List.map_append]
 have hz:b.length+s.length=B.length:=by rw[hB,List.length_append]
 rw[←hB]
 refine DC.enter 19 Tryz.func82 rfl (by decide) rfl rfl (s:=[(0,.pt 0 0),(1,.im (.string ⟨(s).toArray⟩))]) (by rfl) ?_
 refine wG Kv TI ?_
 refine aA [0,1] h TI (A4 aB @aC @aE bB) (A5 @aQ @aR fB cK eT) ?_
 refine goG Kv TI ?_
 have hl1:B.length*1≤140737488355328:=by omega
 have hl2:B.length≤140737488355328:=by omega
 refine wG Kv (A6 BY hA hz hl1 hl2 @List.length_map.{0,0}) ?_
 refine aP (rs:=[.tmp 4,.tmp 5]) rfl (by first|exact .inl rfl|exact .inr rfl) (finG Kv) ?_ rfl (idG (A4 aB @aC @aE bB))
 all_goals exact wkG (A4 aB @aC @aE bB)
def wH:=A9 @cN @yM @lL @iW @In @qN @cM @yG @cY
theorem Kh(b:Bs)(l:List Bs)(s:Bs)(hs:l.flatten=s)(k:Nat)(hl:l.length≤4194304)(hlen:(b++lnT k s).length≤140737488355328):DC Tryz.prog 36 [.pt 0 0,.sl (l.map sV) .ro] [.box [.nb 0 PQ,.sl ((b).map byB) (.mine 1),(.im (.int .i64 ((k:Int))))],.tip 5 1 (b).length] (.tu []) [.box [.nb 0 PQ,.sl (((b++lnT k s)).map byB) (.mine 1),(.im (.int .i64 ((k:Int))))],.tip 5 1 ((b++lnT k s)).length]:=by
 have hl0:=hlen
 unfold lnT at hl0
 simp only[List.length_append,Lib.repeatL_length,List.length_cons,List.length_nil]at hl0
 have q1:=IC [32,32] k (by omega) (by simp only[List.length_cons,List.length_nil];omega)
 have q2:=Zv l s hs hl (by omega)
 have q3:=HN (Lib.repeatL [32,32] k) s [10] (lnT k s) rfl (by rw[List.length_append]at hlen;omega)
 have q4:=Ez b (lnT k s) k (by rw[List.length_append]at hlen;omega)
 generalize lnT k s=L at q3 q4 ⊢
 obtain⟨B,hB⟩: ∃B,B=b++L:=⟨_,rfl⟩
 rw[←hB]at q4 ⊢
 generalize Lib.repeatL [32,32] k=rp at q1 q3
 refine DC.enter 17 Tryz.func36 rfl (by decide) rfl rfl (s:=[(0,.pt 0 0),(1,.sl (l.map sV) .ro)]) (by rfl) ?_
 refine wdG wH TI ?_
 refine AR.callP q1 TI (A4 aB @aC @aE bB) ?_
 refine goG wH TI ?_
 refine AR.callP q2 TI (A4 aB @aC @aE bB) ?_
 refine goG wH TI ?_
 refine dD q3 TI (A4 aB @aC @aE bB) ?_
 refine goG wH TI ?_
 refine aA [0,1] q4 TI (A4 aB @aC @aE bB) (A5 @aQ @aR fB cK eT) ?_
 refine goG wH TI ?_
 refine wdG wH TI ?_
 refine aP (rs:=[]) rfl (by first|exact .inl rfl|exact .inr rfl) (finG wH) ?_ rfl (idG (A4 aB @aC @aE bB))
 all_goals exact wkG (A4 aB @aC @aE bB)
theorem Sy(a b:ByteArray):byV a++byV b=byV (a++b):=by
 unfold byV
 rw[←List.map_append]
 congr 1
theorem Sw(p:Nat→Bool)(a:ByteArray):V.idsL p (byV a)=true:=by
 unfold byV
 exact fY (fun _=>rfl) _
theorem Vv(g:Nat→Nat)(a:ByteArray):V.renL g (byV a)=byV a:=V.renL_id g _ (Sw _ a)
def Bt:=A8 @vK @Fu @Ft @lI @Io @rZ @uX @gV
def Ti:=A5 @bU @bW @bV @bX Sw
def UG:=A6 @rG @qT @rF @qS Vv eT
theorem Gj(b s:ByteArray)(hlen:b.size+s.size≤140737488355328):DC Tryz.prog 82 [.pt 0 0,.im (.string s)] [.box [.nb 0 206,.sl (byV (b)) (.mine 1)],.tip 5 1 (b).size] (.tu [(.im (.int .i64 ((s.size:Int)))),.im Value.nilIface]) [.box [.nb 0 206,.sl (byV ((b++s))) (.mine 1)],.tip 5 1 ((b++s)).size]:=by
 have h:=Pd (.sl (byV b) (.mine 1)) [.tip 5 1 b.size]
 obtain⟨B,hB⟩: ∃B,B=b++s:=⟨_,rfl⟩
 have hA:byV b++byV s=byV B:=by rw[hB];exact Sy b s
 have hz:b.size+s.size=B.size:=by rw[hB,ByteArray.size_append]
 rw[←hB]
 refine DC.enter 19 Tryz.func82 rfl (by decide) rfl rfl (s:=[(0,.pt 0 0),(1,.im (.string s))]) (by rfl) ?_
 refine wG Bt TI ?_
 refine aA [0,1] h TI Ti UG ?_
 refine goG Bt TI ?_
 have hl1:B.size*1≤140737488355328:=by omega
 refine wG Bt (A4 hA hz hl1 kN) ?_
 refine aP (rs:=[.tmp 4,.tmp 5]) rfl (by first|exact .inl rfl|exact .inr rfl) (finG Bt) ?_ rfl (idG Ti)
 all_goals exact wkG Ti
theorem Ba(s:ByteArray)(l m:Bs)(hs:s=bA m)(hlen:l.length+m.length≤140737488355328):DC Tryz.prog 82 [.pt 0 0,.im (.string s)] [.box [.nb 0 206,.sl (byV (bA (l))) (.mine 1)],.tip 5 1 (bA (l)).size] (.tu [(.im (.int .i64 ((m.length:Int)))),.im Value.nilIface]) [.box [.nb 0 206,.sl (byV (bA ((l++m)))) (.mine 1)],.tip 5 1 (bA ((l++m))).size]:=by
 have h:=Gj (bA l) s (by rw[hs,oZ,oZ];exact hlen)
 rw[hs,zV,oZ m]at h
 rw[hs]
 exact h
theorem RQ{s:Int}(h:s=1∨s=2∨s=4):IntKind.i64.wrap (8*s)=8*s:=by rcases h with rfl|rfl|rfl<;>rfl
def iZ:=A7 @cN @yM @wO @qM @vB @cM @yG
def cL:=A5 @bU @bW @bV @bX Sw
def iM:=A6 @rG @qT @rF @qS Vv eT
theorem Eu(o k s c:Int)(es fs:List Ty)(hs:s=1∨s=2∨s=4)(l:Bs)(hl:(if k=2 then l++[117]else l).length+(3+(Lib.itoa (8*s)).length)≤140737488355328) :
  DC Tryz.prog 202 [.pt 0 0,tyV (.mk o k s c es fs)] [.box [.nb 0 206,.sl (byV (bA (l))) (.mine 1)],.tip 5 1 (bA (l)).size] (.tu []) [.box [.nb 0 206,.sl (byV (bA ((if k=2 then l++[117]else l)++([105,110,116]++Lib.itoa (8*s))))) (.mine 1)],.tip 5 1 (bA ((if k=2 then l++[117]else l)++([105,110,116]++Lib.itoa (8*s)))).size]:=by
 have hi:=tN (8*s) (by omega) (by omega)
 have hw:=RQ hs
 refine DC.enter 20 Tryz.func202 rfl (by decide) rfl rfl (s:=[(0,.pt 0 0),(1,tyV (.mk o k s c es fs))]) (by rfl) ?_
 simp only[eP]
 have hz1:((⟨#[105,110,116]⟩:ByteArray)).size+((⟨(Lib.itoa (8*s)).toArray⟩:ByteArray)).size≤9223372036854775807:=by
  show 3+(bA (Lib.itoa (8*s))).size≤_
  rw[oZ];split at hl<;>(try simp at hl)<;>omega
 by_cases hk:k=2
 ·rw[if_pos hk]at hl ⊢
  have h1:=Ba ⟨#[117]⟩ l [117] rfl (by simp at hl ⊢;omega)
  have h2:=Ba (⟨#[105,110,116]⟩++⟨(Lib.itoa (8*s)).toArray⟩) (l++[117]) ([105,110,116]++Lib.itoa (8*s)) (zV [105,110,116] _) (by simp at hl ⊢;omega)
  refine wdG iZ hk ?_;refine aA [0,1] h1 TI cL iM ?_;refine goG iZ TI ?_;refine wdG iZ hw ?_;refine AR.callP hi TI cL ?_;refine goG iZ hz1 ?_;refine aA [0,1] h2 TI cL iM ?_;refine goG iZ TI ?_;refine wdG iZ TI ?_;refine aP (rs:=[]) rfl (by first|exact .inl rfl|exact .inr rfl) (finG iZ) ?_ rfl (idG cL)
  all_goals exact wkG cL
 ·rw[if_neg hk]at hl ⊢
  have h2:=Ba (⟨#[105,110,116]⟩++⟨(Lib.itoa (8*s)).toArray⟩) l ([105,110,116]++Lib.itoa (8*s)) (zV [105,110,116] _) (by simp at hl ⊢;omega)
  refine wdG iZ (AI hk hw) ?_;refine AR.callP hi TI cL ?_;refine goG iZ hz1 ?_;refine aA [0,1] h2 TI cL iM ?_;refine goG iZ TI ?_;refine wdG iZ TI ?_;refine aP (rs:=[]) rfl (by first|exact .inl rfl|exact .inr rfl) (finG iZ) ?_ rfl (idG cL)
  all_goals exact wkG cL
def bG:=A16 @tY @cN @yM @vJ @sL @iK @qQ @sI @sH @wO @sF @lZ @qM @vA @nM (A7 @jU @oH @cM @yG @uW @nG @iI)
set_option maxHeartbeats 2000000 in
theorem GY: ∀(t:Ty),fit t→frm t=true→ ∀(l:Bs),l.length+(txT t).length≤140737488355328→DC Tryz.prog 148 [.pt 0 0,tyV t] [.box [.nb 0 206,.sl (byV (bA (l))) (.mine 1)],.tip 5 1 (bA (l)).size] (.tu []) [.box [.nb 0 206,.sl (byV (bA ((l++txT t)))) (.mine 1)],.tip 5 1 (bA ((l++txT t))).size]:=by
 refine Ty.induct fun o k s c es fs hE hF=> ?_
 intro hfit hfrm l hl
 obtain⟨hl1,hl2,hfE,hfF⟩:=nU hfit
 obtain⟨hb,hof,hfs,hes⟩:=rC hfrm
 rw[kM]at hl ⊢
 refine DC.enter 96 Tryz.func148 rfl (by decide) rfl rfl (s:=[(0,.pt 0 0),(1,tyV (.mk o k s c es fs))]) (by rfl) ?_
 simp only[eP]
 rcases oB hb with ⟨hk,h1⟩|⟨hk,hs,h1⟩|⟨rfl,h1⟩|⟨rfl,h0,h1,h2,h3,h4⟩|⟨rfl,h1⟩
 ·rcases hk with rfl|rfl
  ·rw[if_pos rfl]at hl ⊢
   have h:=Ba ⟨#[63]⟩ l [63] rfl hl;refine wG bG TI ?_;refine aA [0,1] h TI cL iM ?_;refine goG bG TI ?_;refine wG bG TI ?_;refine aP (rs:=[]) rfl (by first|exact .inl rfl|exact .inr rfl) (finG bG) ?_ rfl (idG cL)
   all_goals exact wkG cL
  ·rw[if_neg (by decide),if_pos rfl]at hl ⊢
   have h:=Ba ⟨#[97,110,121]⟩ l [97,110,121] rfl hl;refine wG bG TI ?_;refine aA [0,1] h TI cL iM ?_;refine goG bG TI ?_;refine wG bG TI ?_;refine aP (rs:=[]) rfl (by first|exact .inl rfl|exact .inr rfl) (finG bG) ?_ rfl (idG cL)
   all_goals exact wkG cL
 ·rcases hk with rfl|rfl
  ·rw[if_neg (by decide),if_neg (by decide),if_pos rfl]at hl ⊢
   have h:=Eu o 1 s c es fs hs l (by rw[if_neg (by decide)];simp at hl;omega)
   rw[if_neg (by decide)]at h
   refine wG bG TI ?_;refine aA [0,1] h @eP cL iM ?_;refine goG bG TI ?_;refine wG bG TI ?_;refine aP (rs:=[]) rfl (by first|exact .inl rfl|exact .inr rfl) (finG bG) ?_ rfl (idG cL)
   all_goals exact wkG cL
  ·rw[if_neg (by decide),if_neg (by decide),if_neg (by decide),if_pos rfl]at hl ⊢
   have h:=Eu o 2 s c es fs hs l (by rw[if_pos rfl];simp at hl ⊢;omega)
   rw[if_pos rfl,List.append_assoc]at h;refine wG bG TI ?_;refine aA [0,1] h @eP cL iM ?_;refine goG bG TI ?_;refine wG bG TI ?_;refine aP (rs:=[]) rfl (by first|exact .inl rfl|exact .inr rfl) (finG bG) ?_ rfl (idG cL)
   all_goals exact wkG cL
 ·rw[if_neg (by decide),if_neg (by decide),if_neg (by decide),if_neg (by decide),if_pos rfl]at hl ⊢
  obtain⟨x,rfl⟩:=List.length_eq_one_iff.1 h1.2.2.1;simp only[List.map_cons,List.map_nil,List.headD_cons]at hl ⊢;have h:=Ba ⟨#[42]⟩ l [42] rfl (by simp at hl ⊢;omega)
  have hc:=hE x (by simp) (hfE x (by simp)) (hes x (by simp)) (l++[42]) (by simp at hl ⊢;omega)
  rw[List.append_assoc]at hc;refine wG bG TI ?_;refine aA [0,1] h TI cL iM ?_;refine goG bG TI ?_;refine wG bG BN03 ?_;refine aA [0,1] hc @cF cL iM ?_;refine goG bG TI ?_;refine wG bG TI ?_;refine aP (rs:=[]) rfl (by first|exact .inl rfl|exact .inr rfl) (finG bG) ?_ rfl (idG cL)
  all_goals exact wkG cL
 ·rw[if_neg (by decide),if_neg (by decide),if_neg (by decide),if_neg (by decide),if_neg (by decide),if_pos rfl]at hl ⊢
  obtain⟨x,rfl⟩:=List.length_eq_one_iff.1 h3;simp only[List.map_cons,List.map_nil,List.headD_cons]at hl ⊢;have hi:=tN c (by omega) (by omega)
  have hz1:((⟨#[91]⟩:ByteArray)).size+((⟨(Lib.itoa c).toArray⟩:ByteArray)).size≤9223372036854775807:=by
   show 1+(bA (Lib.itoa c)).size≤_
   rw[oZ];simp at hl;omega
  have hz2:((⟨#[91]⟩++⟨(Lib.itoa c).toArray⟩:ByteArray)).size+((⟨#[93]⟩:ByteArray)).size≤9223372036854775807:=by
   rw[ByteArray.size_append];show 1+(bA (Lib.itoa c)).size+1≤_
   rw[oZ];simp at hl;omega
  have he:((⟨#[91]⟩++⟨(Lib.itoa c).toArray⟩)++⟨#[93]⟩:ByteArray)=bA ([91]++Lib.itoa c++[93]):=by rw[←zV,←zV];rfl
  obtain⟨m,hm⟩: ∃m,m=[91]++Lib.itoa c++[93]:=⟨_,rfl⟩
  rw[←hm]at he hl ⊢;have h:=Ba _ l m he (by simp at hl ⊢;omega)
  have hc:=hE x (by simp) (hfE x (by simp)) (hes x (by simp)) (l++m) (by simp at hl ⊢;omega)
  rw[List.append_assoc]at hc;refine wdG bG TI ?_;refine AR.callP hi TI cL ?_;refine goG bG (AI hz1 hz2) ?_;refine aA [0,1] h TI cL iM ?_;refine goG bG TI ?_;refine wdG bG BN03 ?_;refine aA [0,1] hc @cF cL iM ?_;refine goG bG TI ?_;refine wdG bG TI ?_;refine aP (rs:=[]) rfl (by first|exact .inl rfl|exact .inr rfl) (finG bG) ?_ rfl (idG cL)
  all_goals exact wkG cL
 ·rw[if_neg (by decide),if_neg (by decide),if_neg (by decide),if_neg (by decide),if_neg (by decide),if_neg (by decide),if_pos rfl]at hl ⊢
  obtain⟨F,hF0⟩: ∃F:Nat→Bs,F=fun m=>fldT ((fs.take m).map fun f=>(f.off,txT f)):=⟨_,rfl⟩
  have hFs: ∀m (h:m<fs.length),F (m+1)=F m++((if m=0 then []else [44,32])++(Lib.itoa fs[m].off++[58,32]++txT fs[m])):=fun m h=>by rw[hF0];exact Hr fs h
  have hFl: ∀m,m≤fs.length→(F m).length≤(fldT (fs.map fun f=>(f.off,txT f))).length:=fun m h=>by rw[hF0];exact LT fs h
  have hFn:F fs.length=fldT (fs.map fun f=>(f.off,txT f)):=by rw[hF0];simp
  have hF00:F 0=[]:=by rw[hF0];simp[fldT]
  rw[←hFn]at hl ⊢;rw[←hFn]at hFl;have h:=Ba ⟨#[123]⟩ l [123] rfl (by simp at hl ⊢;omega)
  refine wG bG TI ?_;refine aA [0,1] h TI cL iM ?_;refine goG bG TI ?_;refine wG bG @List.length_map.{0,0} ?_;obtain⟨l0,hl0⟩: ∃l0,l0=l++[123]:=⟨_,rfl⟩
  have hll:l0.length=l.length+1:=by rw[hl0];simp
  have hgoal:l++([123]++F fs.length++[125])=l0++F fs.length++[125]:=by rw[hl0];simp
  have hl00:l++[123]=l0++F 0:=by rw[hF00,hl0];simp
  rw[hgoal,hl00];refine aW ?_;refine ALp.cutP 3 [(0,.pt 0 0),(3,.pt 2 0),(4,.fn (.func 148) [] []),(65,.sl (fs.map fdV) .ro),(66,(.im (.int .i64 (fs.length)))),(67,(.im (.int .i64 ((((0:Nat)):Int)))))] [.box [.nb 0 206,.sl (byV (bA ((l0++F 0)))) (.mine 1)],.tip 5 1 (bA ((l0++F 0))).size,.box [(.im (.int .i64 ((5:Int)))),(.im (.int .i64 (s))),(.im (.int .i64 (c))),.sl (es.map tyV) .ro,.sl (fs.map fdV) .ro]] cL ?_;refine ALp.upto fs.length (fun _=>True) (fun m=>⟨dn 96 [(0,.pt 0 0),(3,.pt 2 0),(4,.fn (.func 148) [] []),(65,.sl (fs.map fdV) .ro),(66,(.im (.int .i64 (fs.length)))),(67,(.im (.int .i64 ((((m:Nat)):Int)))))],ofl [.box [.nb 0 206,.sl (byV (bA ((l0++F m)))) (.mine 1)],.tip 5 1 (bA ((l0++F m))).size,.box [(.im (.int .i64 ((5:Int)))),(.im (.int .i64 (s))),(.im (.int .i64 (c))),.sl (es.map tyV) .ro,.sl (fs.map fdV) .ro]]⟩) ?_ 0 (Nat.zero_le _) trivial
  intro m hm _ hnext
  by_cases hlt:m<fs.length
  ·have hlt':(m:Int)<(fs.length:Int):=by omega
   have hg:=bJ hlt;have hm1:=aT hlt (by omega)
   have hn:=hnext (m+1) (by omega) (by omega) trivial
   clear hnext
   have ho:0≤fs[m].off∧fs[m].off≤9223372036854775807:=by
    have:=hof m hlt;unfold fok at this;simp[hlt]at this;omega
   have hi:=tN fs[m].off ho.1 ho.2;have hle:=hFl (m+1) (by omega)
   rw[hFs m hlt]at hle hn
   have hz1:((⟨(Lib.itoa fs[m].off).toArray⟩:ByteArray)).size+((⟨#[58,32]⟩:ByteArray)).size≤9223372036854775807:=by
    show(bA (Lib.itoa fs[m].off)).size+2≤_
    rw[oZ];simp at hl hle;omega
   have he:(⟨(Lib.itoa fs[m].off).toArray⟩++⟨#[58,32]⟩:ByteArray)=bA (Lib.itoa fs[m].off++[58,32]):=by rw[←zV];rfl
   by_cases h0:m=0
   ·rw[if_pos h0,List.nil_append]at hle hn
    obtain⟨q,hq⟩: ∃q,q=Lib.itoa fs[m].off++[58,32]:=⟨_,rfl⟩
    rw[←hq]at he hle hn;obtain⟨l1,hl1'⟩: ∃l1,l1=l0++F m:=⟨_,rfl⟩
    have h2:=Ba _ l1 q he (by rw[hl1'];simp at hl hle ⊢;omega)
    have hc:=hF fs[m] (List.getElem_mem hlt) (hfF _ (List.getElem_mem hlt)) (hfs _ (List.getElem_mem hlt)) (l1++q) (by rw[hl1'];simp at hl hle ⊢;omega)
    rw[←List.append_assoc,←List.append_assoc,←hl1']at hn;rw[←hl1'];have hg0: ¬((m:Nat):Int)>0:=by omega
    refine wdG bG (A16 @eI @eL @dG @dI @eG @eF @eH @dH @dT @dS @eK @dJ @List.getElem?_map.{0,0} @Int.natCast_nonneg hlt' (AI hg hg0)) ?_;refine AR.callP hi TI cL ?_;refine goG bG hz1 ?_;refine aA [0,1] h2 TI cL iM ?_;refine goG bG TI ?_;refine wdG bG BN03 ?_;refine aA [0,1] hc @cF cL iM ?_;refine goG bG TI ?_;refine wdG bG hm1 ?_;refine ALp.cutP 3 [(0,.pt 0 0),(3,.pt 2 0),(4,.fn (.func 148) [] []),(65,.sl (fs.map fdV) .ro),(66,(.im (.int .i64 (fs.length)))),(67,(.im (.int .i64 ((((m+1:Nat)):Int)))))] [.box [.nb 0 206,.sl (byV (bA ((l1++q++txT fs[m])))) (.mine 1)],.tip 5 1 (bA ((l1++q++txT fs[m]))).size,.box [(.im (.int .i64 ((5:Int)))),(.im (.int .i64 (s))),(.im (.int .i64 (c))),.sl (es.map tyV) .ro,.sl (fs.map fdV) .ro]] cL ?_;exact hn
   ·rw[if_neg h0]at hle hn
    obtain⟨q,hq⟩: ∃q,q=Lib.itoa fs[m].off++[58,32]:=⟨_,rfl⟩
    rw[←hq]at he hle hn;obtain⟨l1,hl1'⟩: ∃l1,l1=l0++F m:=⟨_,rfl⟩
    obtain⟨l2,hl2'⟩: ∃l2,l2=l1++[44,32]:=⟨_,rfl⟩
    have h2:=Ba ⟨#[44,32]⟩ l1 [44,32] rfl (by rw[hl1'];simp at hl hle ⊢;omega)
    rw[←hl2']at h2;have h3:=Ba _ l2 q he (by rw[hl2',hl1'];simp at hl hle ⊢;omega)
    have hc:=hF fs[m] (List.getElem_mem hlt) (hfF _ (List.getElem_mem hlt)) (hfs _ (List.getElem_mem hlt)) (l2++q) (by rw[hl2',hl1'];simp at hl hle ⊢;omega)
    rw[←List.append_assoc,←List.append_assoc,←List.append_assoc,←hl1',←hl2']at hn;rw[←hl1'];have hg0:((m:Nat):Int)>0:=by omega
    refine wdG bG (A16 @eI @eL @dG @dI @eG @eF @eH @dH @dT @dS @eK @dJ @List.getElem?_map.{0,0} @Int.natCast_nonneg hlt' (AI hg hg0)) ?_;refine aA [0,1] h2 TI cL iM ?_;refine goG bG TI ?_;refine wdG bG BN03 ?_;refine AR.callP hi TI cL ?_;refine goG bG hz1 ?_;refine aA [0,1] h3 TI cL iM ?_;refine goG bG TI ?_;refine wdG bG BN03 ?_;refine aA [0,1] hc @cF cL iM ?_;refine goG bG TI ?_;refine wdG bG hm1 ?_;refine ALp.cutP 3 [(0,.pt 0 0),(3,.pt 2 0),(4,.fn (.func 148) [] []),(65,.sl (fs.map fdV) .ro),(66,(.im (.int .i64 (fs.length)))),(67,(.im (.int .i64 ((((m+1:Nat)):Int)))))] [.box [.nb 0 206,.sl (byV (bA ((l2++q++txT fs[m])))) (.mine 1)],.tip 5 1 (bA ((l2++q++txT fs[m]))).size,.box [(.im (.int .i64 ((5:Int)))),(.im (.int .i64 (s))),(.im (.int .i64 (c))),.sl (es.map tyV) .ro,.sl (fs.map fdV) .ro]] cL ?_;exact hn
  ·obtain rfl:m=fs.length:=by omega
   have hlt': ¬(fs.length:Int)<(fs.length:Int):=by omega
   clear hnext;have h2:=Ba ⟨#[125]⟩ (l0++F fs.length) [125] rfl (by simp at hl ⊢;omega)
   refine wG bG hlt' ?_;refine aA [0,1] h2 TI cL iM ?_;refine goG bG TI ?_;refine wG bG TI ?_;refine aP (rs:=[]) rfl (by first|exact .inl rfl|exact .inr rfl) (finG bG) ?_ rfl (idG cL)
   all_goals exact wkG cL
def iH:=A7 @yM @iK @JC @wO @IQ @yG @iI
theorem PK{t:Ty}(h:frm t=true):txT t≠[]:=by
 obtain⟨o,k,s,c,es,fs⟩:=t
 obtain⟨hb,_⟩:=rC h
 rw[kM]
 rcases oB hb with ⟨hk,h1⟩|⟨hk,hs,h1⟩|⟨rfl,h1⟩|⟨rfl,h0,h1,h2,h3,h4⟩|⟨rfl,h1⟩
 ·rcases hk with rfl|rfl<;>simp
 ·rcases hk with rfl|rfl<;>simp
 ·simp
 ·simp
 ·simp
def prT(t:Ty):Bs:=if good t=true then txT t else []
theorem Zn(t:Ty)(hfit:fit t)(hl:good t=true→(txT t).length≤140737488355328):PC Tryz.prog 81 [tyV t] (.im (.string (bA (prT t)))):=by
 have hgd:=TP t hfit
 unfold prT
 refine PC.enter 16 Tryz.func81 rfl (by decide) rfl rfl (s:=[(0,tyV t)]) (by rfl) ?_
 simp only[cF t]
 cases hg:good t with
 | false =>
  rw[hg]at hgd;rw[if_neg (by decide)]
  refine wG iH TI ?_;refine AR.callP hgd @cF cL ?_;refine goG iH TI ?_;refine wG iH TI ?_;refine aI (rs:=[.tmp 2]) rfl (by first|exact .inl rfl|exact .inr rfl) (finG iH) ?_
  skip
  all_goals exact wkG cL
 | true =>
  rw[hg]at hgd;rw[if_pos rfl];have hfrm:=Dw hg;have hl:=hl hg;have hw:=GY t hfit hfrm [] (by simpa using hl)
  rw[List.nil_append]at hw;have hs:=IB (bA (txT t)) (by rw[oZ];intro e;exact PK hfrm (List.length_eq_zero_iff.1 e))
  refine wG iH TI ?_;refine AR.callP hgd @cF cL ?_;refine goG iH TI ?_
  repeat (with_reducible first|refine AWp.seq ?_|refine pV ?_|refine Thn.n ?_|refine kE ?_)
  with_reducible apply jP
  case ht=>rfl
  case hc=>rfl
  repeat (with_reducible first|refine AWp.seq ?_|refine pV ?_|refine Thn.n ?_|refine kE ?_)
  refine AWp.region ?_;refine AR.one rfl (by simp only[↓iS,↓reduceIte,SA,SB,SC,SD,iH,oN,fpsG,evO,evB,evA,nV,oO,eqF,eqC,jY,gY,slB,slK,gd,St.ev,eV,ofl,wrl,putE,V.ofVal,V.ofCell,bin2,un1,seg,iO,eO,Value.oneCell',Nat.reduceBEq,Nat.reduceLT,Nat.reduceSub,Nat.reduceAdd,Nat.reduceMul,Nat.reduceLeDiff,Nat.reduceEqDiff,reduceCtorEq,Int.reduceLT,Int.reduceLE,Int.reduceEq,Int.reduceNe,Int.reduceBEq,Int.reduceBNe,Int.reduceAdd,Int.reduceSub,Int.reduceMul,Int.reduceToNat];with_reducible exact rfl) (by simp only[↓iS,↓reduceIte,SA,SB,SC,SD,iH,oN,fpsG,evO,evB,evA,nV,oO,eqF,eqC,jY,gY,slB,slK,gd,St.ev,eV,ofl,wrl,putE,V.ofVal,V.ofCell,bin2,un1,seg,iO,eO,Value.oneCell',Nat.reduceBEq,Nat.reduceLT,Nat.reduceSub,Nat.reduceAdd,Nat.reduceMul,Nat.reduceLeDiff,Nat.reduceEqDiff,reduceCtorEq,Int.reduceLT,Int.reduceLE,Int.reduceEq,Int.reduceNe,Int.reduceBEq,Int.reduceBNe,Int.reduceAdd,Int.reduceSub,Int.reduceMul,Int.reduceToNat];with_reducible exact rfl) (by simp only[↓iS,↓reduceIte,SA,SB,SC,SD,iH,oN,fpsG,evO,evB,evA,nV,oO,eqF,eqC,jY,gY,slB,slK,gd,St.ev,eV,ofl,wrl,putE,V.ofVal,V.ofCell,bin2,un1,seg,iO,eO,Value.oneCell',Nat.reduceBEq,Nat.reduceLT,Nat.reduceSub,Nat.reduceAdd,Nat.reduceMul,Nat.reduceLeDiff,Nat.reduceEqDiff,reduceCtorEq,Int.reduceLT,Int.reduceLE,Int.reduceEq,Int.reduceNe,Int.reduceBEq,Int.reduceBNe,Int.reduceAdd,Int.reduceSub,Int.reduceMul,Int.reduceToNat];with_reducible exact rfl) ?_
  refine OL (by decide) rfl ?_
  refine goG iH TI ?_
  repeat (with_reducible first|refine AWp.seq ?_|refine pV ?_|refine Thn.n ?_|refine kE ?_)
  refine AWp.ghostB 1 1 [.nb 1 206,.sl [] .nl] 5 1 ?_;simp only[List.set_cons_succ,List.set_cons_zero,List.cons_append,List.nil_append,List.length_cons,List.length_nil,Nat.reduceAdd];rw[show byV (bA ([]:Bs))=[]from rfl,show(bA ([]:Bs)).size=0 from rfl]at hw
  refine wG iH TI ?_;refine aA [1,2] hw @cF cL iM ?_;refine goG iH TI ?_;refine wG iH TI ?_;refine aA [1,2] hs TI cL iM ?_;refine goG iH TI ?_;refine wG iH TI ?_;refine aI (rs:=[.tmp 2]) rfl (by first|exact .inl rfl|exact .inr rfl) (finG iH) ?_
  skip
  all_goals exact wkG cL
theorem WX(a b c d r:Bs)(hr:a++(b++(c++d))=r)(hlen:r.length≤140737488355328):PC Tryz.prog 83 [.sl [.im (.string ⟨(a).toArray⟩),.im (.string ⟨(b).toArray⟩),.im (.string ⟨(c).toArray⟩),.im (.string ⟨(d).toArray⟩)] .ro] (.im (.string ⟨(r).toArray⟩)):=Zv [a,b,c,d] r (by simpa using hr) (by simp) hlen
theorem WW(a b c d e f g r:Bs)(hr:a++(b++(c++(d++(e++(f++g)))))=r)(hlen:r.length≤140737488355328):PC Tryz.prog 83 [.sl [.im (.string ⟨(a).toArray⟩),.im (.string ⟨(b).toArray⟩),.im (.string ⟨(c).toArray⟩),.im (.string ⟨(d).toArray⟩),.im (.string ⟨(e).toArray⟩),.im (.string ⟨(f).toArray⟩),.im (.string ⟨(g).toArray⟩)] .ro] (.im (.string ⟨(r).toArray⟩)):=Zv [a,b,c,d,e,f,g] r (by simpa using hr) (by simp) hlen
theorem Pk(s:ByteArray):Value.string ⟨s.data.toList.toArray⟩=Value.string s:=rfl
def dF:=A15 @cN @iL @fM @dN @lL @gT @iW @iE @wP @mD @iV @cM @iJ @dP @cY
theorem Zt(w:Int)(n:ByteArray)(e:List Ex)(l el:List Nd)(cs:List (List Nd))(hf:fitN (.mk 1 w n e l el cs))(hs:stT (.mk 1 w n e l el cs)=true)(hlen:(simT (.mk 1 w n e l el cs)).length≤140737488355328):PC Tryz.prog 210 [ndV (.mk 1 w n e l el cs)] (.im (.string ⟨(simT (.mk 1 w n e l el cs)).toArray⟩)):=by
 obtain⟨_,h2,h3,h4⟩:=iF hs
 obtain⟨_,_,⟨_,he⟩,_⟩:=dR hf
 simp only[Nd.kind,Nd.width,Nd.name,Nd.e]at h2 h3 h4 he
 obtain⟨a,rfl⟩:=xG h2
 have e1:simT (.mk 1 w n [a] l el cs)=n.data.toList++([32,61,32]++(txE a++[59])):=rfl
 rw[e1]at hlen ⊢
 have hl0:=hlen
 simp only[List.length_append]at hl0
 have qa:=wD a (he a (by simp)) (h3 a (by simp)) (by omega)
 have qj:=WX n.data.toList [32,61,32] (txE a) [59] _ rfl hlen
 rw[Pk]at qj
 clear hlen e1
 refine PC.enter 72 Tryz.func210 rfl (by decide) rfl rfl (s:=[(0,ndV (.mk 1 w n [a] l el cs))]) (by rfl) ?_
 simp only[eR]
 refine wdG dF EX ?_
 refine AR.callP qa @bK (A7 aV aJ aK aZ @aC @aE bB) ?_
 refine goG dF TI ?_
 refine dD qj TI (A7 aV aJ aK aZ @aC @aE bB) ?_
 refine goG dF TI ?_
 refine wdG dF TI ?_
 exact aD
theorem Zs(w:Int)(n:ByteArray)(e:List Ex)(l el:List Nd)(cs:List (List Nd))(hf:fitN (.mk 2 w n e l el cs))(hs:stT (.mk 2 w n e l el cs)=true)(hlen:(simT (.mk 2 w n e l el cs)).length≤140737488355328):PC Tryz.prog 210 [ndV (.mk 2 w n e l el cs)] (.im (.string ⟨(simT (.mk 2 w n e l el cs)).toArray⟩)):=by
 obtain⟨_,h2,h3,h4⟩:=iF hs
 obtain⟨_,_,⟨_,he⟩,_⟩:=dR hf
 simp only[Nd.kind,Nd.width,Nd.name,Nd.e]at h2 h3 h4 he
 obtain⟨a,b,rfl⟩:=BT h2
 have e1:simT (.mk 2 w n [a,b] l el cs)=[115,116,111,114,101]++(wB w++([40]++(txE a++([44,32]++(txE b++[41,59]))))):=rfl
 rw[e1]at hlen ⊢
 have hl0:=hlen
 simp only[List.length_append]at hl0
 have qa:=wD a (he a (by simp)) (h3 a (by simp)) (by omega)
 have qb:=wD b (he b (by simp)) (h3 b (by simp)) (by omega)
 have h4:=h4 trivial
 have qw:=tN w (by omega) (by omega)
 rw[Rl h4]at qw
 have qj:=WW [115,116,111,114,101] (wB w) [40] (txE a) [44,32] (txE b) [41,59] _ rfl hlen
 clear hlen e1
 refine PC.enter 72 Tryz.func210 rfl (by decide) rfl rfl (s:=[(0,ndV (.mk 2 w n [a,b] l el cs))]) (by rfl) ?_
 simp only[eR]
 refine wdG dF EX ?_
 refine AR.callP qw TI (A7 aV aJ aK aZ @aC @aE bB) ?_
 refine goG dF EX ?_
 refine AR.callP qa @bK (A7 aV aJ aK aZ @aC @aE bB) ?_
 refine goG dF EX ?_
 refine AR.callP qb @bK (A7 aV aJ aK aZ @aC @aE bB) ?_
 refine goG dF TI ?_
 refine dD qj TI (A7 aV aJ aK aZ @aC @aE bB) ?_
 refine goG dF TI ?_
 refine wdG dF TI ?_
 exact aD
theorem Zr(w:Int)(n:ByteArray)(e:List Ex)(l el:List Nd)(cs:List (List Nd))(hf:fitN (.mk 3 w n e l el cs))(hs:stT (.mk 3 w n e l el cs)=true)(hlen:(simT (.mk 3 w n e l el cs)).length≤140737488355328):PC Tryz.prog 210 [ndV (.mk 3 w n e l el cs)] (.im (.string ⟨(simT (.mk 3 w n e l el cs)).toArray⟩)):=by
 obtain⟨_,h2,h3,h4⟩:=iF hs
 obtain⟨_,_,⟨_,he⟩,_⟩:=dR hf
 simp only[Nd.kind,Nd.width,Nd.name,Nd.e]at h2 h3 h4 he
 have e1:simT (.mk 3 w n e l el cs)=n.data.toList++[32,61,32,105,110,59]:=rfl
 rw[e1]at hlen ⊢
 have qj:=HO n.data.toList [32,61,32,105,110,59] _ rfl hlen
 rw[Pk]at qj
 clear hlen e1
 refine PC.enter 72 Tryz.func210 rfl (by decide) rfl rfl (s:=[(0,ndV (.mk 3 w n e l el cs))]) (by rfl) ?_
 simp only[eR]
 refine wG dF EX ?_
 refine dD qj TI (A7 aV aJ aK aZ @aC @aE bB) ?_
 refine goG dF TI ?_
 refine wG dF TI ?_
 exact aD
theorem Zq(w:Int)(n:ByteArray)(e:List Ex)(l el:List Nd)(cs:List (List Nd))(hf:fitN (.mk 4 w n e l el cs))(hs:stT (.mk 4 w n e l el cs)=true)(hlen:(simT (.mk 4 w n e l el cs)).length≤140737488355328):PC Tryz.prog 210 [ndV (.mk 4 w n e l el cs)] (.im (.string ⟨(simT (.mk 4 w n e l el cs)).toArray⟩)):=by
 obtain⟨_,h2,h3,h4⟩:=iF hs
 obtain⟨_,_,⟨_,he⟩,_⟩:=dR hf
 simp only[Nd.kind,Nd.width,Nd.name,Nd.e]at h2 h3 h4 he
 obtain⟨a,rfl⟩:=xG h2
 have e1:simT (.mk 4 w n [a] l el cs)=[111,117,116,32]++(txE a++[59]):=rfl
 rw[e1]at hlen ⊢
 have hl0:=hlen
 simp only[List.length_append]at hl0
 have qa:=wD a (he a (by simp)) (h3 a (by simp)) (by omega)
 have qj:=HN [111,117,116,32] (txE a) [59] _ rfl hlen
 clear hlen e1
 refine PC.enter 72 Tryz.func210 rfl (by decide) rfl rfl (s:=[(0,ndV (.mk 4 w n [a] l el cs))]) (by rfl) ?_
 simp only[eR]
 refine wG dF EX ?_
 refine AR.callP qa @bK (A7 aV aJ aK aZ @aC @aE bB) ?_
 refine goG dF TI ?_
 refine dD qj TI (A7 aV aJ aK aZ @aC @aE bB) ?_
 refine goG dF TI ?_
 refine wG dF TI ?_
 exact aD
theorem Zp(w:Int)(n:ByteArray)(e:List Ex)(l el:List Nd)(cs:List (List Nd))(hf:fitN (.mk 5 w n e l el cs))(hs:stT (.mk 5 w n e l el cs)=true)(hlen:(simT (.mk 5 w n e l el cs)).length≤140737488355328):PC Tryz.prog 210 [ndV (.mk 5 w n e l el cs)] (.im (.string ⟨(simT (.mk 5 w n e l el cs)).toArray⟩)):=by
 obtain⟨_,h2,h3,h4⟩:=iF hs
 obtain⟨_,_,⟨_,he⟩,_⟩:=dR hf
 simp only[Nd.kind,Nd.width,Nd.name,Nd.e]at h2 h3 h4 he
 have e1:simT (.mk 5 w n e l el cs)=[99,97,108,108,32]++(n.data.toList++[59]):=rfl
 rw[e1]at hlen ⊢
 have qj:=HN [99,97,108,108,32] n.data.toList [59] _ rfl hlen
 rw[Pk]at qj
 clear hlen e1
 refine PC.enter 72 Tryz.func210 rfl (by decide) rfl rfl (s:=[(0,ndV (.mk 5 w n e l el cs))]) (by rfl) ?_
 simp only[eR]
 refine wG dF EX ?_
 refine dD qj TI (A7 aV aJ aK aZ @aC @aE bB) ?_
 refine goG dF TI ?_
 refine wG dF TI ?_
 exact aD
theorem Sd(w:Int)(n:ByteArray)(e:List Ex)(l el:List Nd)(cs:List (List Nd))(hf:fitN (.mk 12 w n e l el cs))(hs:stT (.mk 12 w n e l el cs)=true)(hlen:(simT (.mk 12 w n e l el cs)).length≤140737488355328):PC Tryz.prog 210 [ndV (.mk 12 w n e l el cs)] (.im (.string ⟨(simT (.mk 12 w n e l el cs)).toArray⟩)):=by
 obtain⟨_,h2,h3,h4⟩:=iF hs
 obtain⟨_,_,⟨_,he⟩,_⟩:=dR hf
 simp only[Nd.kind,Nd.width,Nd.name,Nd.e]at h2 h3 h4 he
 have e1:simT (.mk 12 w n e l el cs)=[103,111,116,111,32]++(n.data.toList++[59]):=rfl
 rw[e1]at hlen ⊢
 have qj:=HN [103,111,116,111,32] n.data.toList [59] _ rfl hlen
 rw[Pk]at qj
 clear hlen e1
 refine PC.enter 72 Tryz.func210 rfl (by decide) rfl rfl (s:=[(0,ndV (.mk 12 w n e l el cs))]) (by rfl) ?_
 simp only[eR]
 refine wG dF EX ?_
 refine dD qj TI (A7 aV aJ aK aZ @aC @aE bB) ?_
 refine goG dF TI ?_
 refine wG dF TI ?_
 exact aD
theorem Sb(w:Int)(n:ByteArray)(e:List Ex)(l el:List Nd)(cs:List (List Nd))(hf:fitN (.mk 13 w n e l el cs))(hs:stT (.mk 13 w n e l el cs)=true)(hlen:(simT (.mk 13 w n e l el cs)).length≤140737488355328):PC Tryz.prog 210 [ndV (.mk 13 w n e l el cs)] (.im (.string ⟨(simT (.mk 13 w n e l el cs)).toArray⟩)):=by
 obtain⟨_,h2,h3,h4⟩:=iF hs
 obtain⟨_,_,⟨_,he⟩,_⟩:=dR hf
 simp only[Nd.kind,Nd.width,Nd.name,Nd.e]at h2 h3 h4 he
 have e1:simT (.mk 13 w n e l el cs)=n.data.toList++[58]:=rfl
 rw[e1]at hlen ⊢
 have qj:=HO n.data.toList [58] _ rfl hlen
 rw[Pk]at qj
 clear hlen e1
 refine PC.enter 72 Tryz.func210 rfl (by decide) rfl rfl (s:=[(0,ndV (.mk 13 w n e l el cs))]) (by rfl) ?_
 simp only[eR]
 refine wG dF EX ?_
 refine dD qj TI (A7 aV aJ aK aZ @aC @aE bB) ?_
 refine goG dF TI ?_
 refine wG dF TI ?_
 exact aD
theorem Sf(w:Int)(n:ByteArray)(e:List Ex)(l el:List Nd)(cs:List (List Nd))(hf:fitN (.mk 10 w n e l el cs))(hs:stT (.mk 10 w n e l el cs)=true)(hlen:(simT (.mk 10 w n e l el cs)).length≤140737488355328):PC Tryz.prog 210 [ndV (.mk 10 w n e l el cs)] (.im (.string ⟨(simT (.mk 10 w n e l el cs)).toArray⟩)):=by
 obtain⟨_,h2,h3,h4⟩:=iF hs
 obtain⟨_,_,⟨_,he⟩,_⟩:=dR hf
 simp only[Nd.kind,Nd.width,Nd.name,Nd.e]at h2 h3 h4 he
 have e1:simT (.mk 10 w n e l el cs)=[98,114,101,97,107,59]:=rfl
 rw[e1]at hlen ⊢
 clear hlen e1
 refine PC.enter 72 Tryz.func210 rfl (by decide) rfl rfl (s:=[(0,ndV (.mk 10 w n e l el cs))]) (by rfl) ?_
 simp only[eR]
 refine wG dF EX ?_
 exact aD
theorem Se(w:Int)(n:ByteArray)(e:List Ex)(l el:List Nd)(cs:List (List Nd))(hf:fitN (.mk 11 w n e l el cs))(hs:stT (.mk 11 w n e l el cs)=true)(hlen:(simT (.mk 11 w n e l el cs)).length≤140737488355328):PC Tryz.prog 210 [ndV (.mk 11 w n e l el cs)] (.im (.string ⟨(simT (.mk 11 w n e l el cs)).toArray⟩)):=by
 obtain⟨_,h2,h3,h4⟩:=iF hs
 obtain⟨_,_,⟨_,he⟩,_⟩:=dR hf
 simp only[Nd.kind,Nd.width,Nd.name,Nd.e]at h2 h3 h4 he
 have e1:simT (.mk 11 w n e l el cs)=[99,111,110,116,105,110,117,101,59]:=rfl
 rw[e1]at hlen ⊢
 clear hlen e1
 refine PC.enter 72 Tryz.func210 rfl (by decide) rfl rfl (s:=[(0,ndV (.mk 11 w n e l el cs))]) (by rfl) ?_
 simp only[eR]
 refine wG dF EX ?_
 exact aD
theorem Sa(w:Int)(n:ByteArray)(e:List Ex)(l el:List Nd)(cs:List (List Nd))(hf:fitN (.mk 14 w n e l el cs))(hs:stT (.mk 14 w n e l el cs)=true)(hlen:(simT (.mk 14 w n e l el cs)).length≤140737488355328):PC Tryz.prog 210 [ndV (.mk 14 w n e l el cs)] (.im (.string ⟨(simT (.mk 14 w n e l el cs)).toArray⟩)):=by
 obtain⟨_,h2,h3,h4⟩:=iF hs
 obtain⟨_,_,⟨_,he⟩,_⟩:=dR hf
 simp only[Nd.kind,Nd.width,Nd.name,Nd.e]at h2 h3 h4 he
 have e1:simT (.mk 14 w n e l el cs)=[114,101,116,117,114,110,59]:=rfl
 rw[e1]at hlen ⊢
 clear hlen e1
 refine PC.enter 72 Tryz.func210 rfl (by decide) rfl rfl (s:=[(0,ndV (.mk 14 w n e l el cs))]) (by rfl) ?_
 simp only[eR]
 refine wG dF EX ?_
 exact aD
theorem Rz(w:Int)(n:ByteArray)(e:List Ex)(l el:List Nd)(cs:List (List Nd))(hf:fitN (.mk 15 w n e l el cs))(hs:stT (.mk 15 w n e l el cs)=true)(hlen:(simT (.mk 15 w n e l el cs)).length≤140737488355328):PC Tryz.prog 210 [ndV (.mk 15 w n e l el cs)] (.im (.string ⟨(simT (.mk 15 w n e l el cs)).toArray⟩)):=by
 obtain⟨_,h2,h3,h4⟩:=iF hs
 obtain⟨_,_,⟨_,he⟩,_⟩:=dR hf
 simp only[Nd.kind,Nd.width,Nd.name,Nd.e]at h2 h3 h4 he
 have e1:simT (.mk 15 w n e l el cs)=[104,97,108,116,59]:=rfl
 rw[e1]at hlen ⊢
 clear hlen e1
 refine PC.enter 72 Tryz.func210 rfl (by decide) rfl rfl (s:=[(0,ndV (.mk 15 w n e l el cs))]) (by rfl) ?_
 simp only[eR]
 refine wG dF EX ?_
 exact aD
theorem HD(t:Nd)(hf:fitN t)(hs:stT t=true)(hk:t.kind≠6∧t.kind≠7∧t.kind≠8∧t.kind≠9)(hlen:(simT t).length≤140737488355328):PC Tryz.prog 210 [ndV t] (.im (.string ⟨(simT t).toArray⟩)):=by
 obtain⟨h1,_⟩:=iF hs
 obtain⟨k,w,n,e,l,el,cs⟩:=t
 simp only[Nd.kind]at h1 hk
 have:k=1∨k=2∨k=3∨k=4∨k=5∨k=12∨k=13∨k=10∨k=11∨k=14∨k=15:=by omega
 rcases this with rfl|rfl|rfl|rfl|rfl|rfl|rfl|rfl|rfl|rfl|rfl
 ·exact Zt w n e l el cs hf hs hlen
 ·exact Zs w n e l el cs hf hs hlen
 ·exact Zr w n e l el cs hf hs hlen
 ·exact Zq w n e l el cs hf hs hlen
 ·exact Zp w n e l el cs hf hs hlen
 ·exact Sd w n e l el cs hf hs hlen
 ·exact Sb w n e l el cs hf hs hlen
 ·exact Sf w n e l el cs hf hs hlen
 ·exact Se w n e l el cs hf hs hlen
 ·exact Sa w n e l el cs hf hs hlen
 ·exact Rz w n e l el cs hf hs hlen
end Go.Proofs.YtmbmmckagcdapaaGreatDoor
namespace Go.Proofs.YtmbmmckagcdapaaGreatDoor
inductive TyF:Int→Int→Int→List Ty→List Ty→Prop
 | unk:TyF 0 0 0 [] []
 | any:TyF 6 0 0 [] []
 | num (k s:Int) (hk:k=1∨k=2) (hs:s=1∨s=2∨s=4):TyF k s 0 [] []
 | ptr (e:Ty):TyF 3 0 0 [e] []
 | arr (c:Int) (e:Ty) (hc:1≤c∧c≤65536):TyF 4 0 c [e] []
 | str (fs:List Ty):TyF 5 0 0 [] fs
theorem Ih{k s c:Int}{es fs:List Ty}(h:base k s c es.length fs.length=true):TyF k s c es fs:=by
 unfold base at h
 by_cases h1:(k==0||k==6)=true
 ·rw[if_pos h1]at h
  simp at h h1;obtain⟨⟨⟨rfl,rfl⟩,rfl⟩,rfl⟩:=h;rcases h1 with rfl|rfl
  ·exact .unk
  ·exact .any
 rw[if_neg h1]at h
 by_cases h2:(k==1||k==2)=true
 ·rw[if_pos h2]at h
  simp at h h2;obtain⟨⟨⟨hs,rfl⟩,rfl⟩,rfl⟩:=h;exact .num k s h2 (by omega)
 rw[if_neg h2]at h
 by_cases h3:(k==3)=true
 ·rw[if_pos h3]at h
  simp at h h3;obtain⟨⟨⟨rfl,rfl⟩,he⟩,rfl⟩:=h;subst h3;obtain⟨e,rfl⟩:=List.length_eq_one_iff.1 he;exact .ptr e
 rw[if_neg h3]at h
 by_cases h4:(k==4)=true
 ·rw[if_pos h4]at h
  simp at h h4;obtain⟨⟨⟨⟨rfl,hc1⟩,hc2⟩,he⟩,rfl⟩:=h;subst h4;obtain⟨e,rfl⟩:=List.length_eq_one_iff.1 he;exact .arr c e ⟨hc1,hc2⟩
 rw[if_neg h4]at h
 by_cases h5:(k==5)=true
 ·rw[if_pos h5]at h
  simp at h h5;obtain⟨⟨rfl,rfl⟩,rfl⟩:=h;subst h5;exact .str fs
 rw[if_neg h5]at h
 cases h
def Gc(k s:Int):Bs:=(if k=1 then [105,110,116]else [117,105,110,116])++(if s=1 then [56]else if s=2 then [49,54]else [51,50])
def pcK(p:Int×List Tk):List Tk:=nuT p.1.toNat::opT [58]::p.2
def tlK:List (Int×List Tk)→List Tk
 | []=>[]
 | p::r=>opT [44]::(pcK p++tlK r)
def flK:List (Int×List Tk)→List Tk
 | []=>[]
 | p::r=>pcK p++tlK r
def UO(t:Ty)(es fs:List (List Tk)):List Tk :=
 if t.kind=0 then [opT [63]]else if t.kind=6 then [idT [97,110,121]]else if t.kind=1∨t.kind=2 then [idT (Gc t.kind t.size)]
 else if t.kind=3 then opT [42]::es.headD []else if t.kind=4 then opT [91]::nuT t.count.toNat::opT [93]::es.headD []
 else opT [123]::(flK ((t.fields.map Ty.off).zip fs)++[opT [125]])
def tyK:Ty→List Tk:=Ty.para UO
theorem kZ(o k s c:Int)(es fs:List Ty):tyK (.mk o k s c es fs) =
  if k=0 then [opT [63]]else if k=6 then [idT [97,110,121]]else if k=1∨k=2 then [idT (Gc k s)]
  else if k=3 then opT [42]::(es.map tyK).headD []else if k=4 then opT [91]::nuT c.toNat::opT [93]::(es.map tyK).headD []
  else opT [123]::(flK (fs.map fun f=>(f.off,tyK f))++[opT [125]]):=by
 have e:tyK (.mk o k s c es fs)=UO (.mk o k s c es fs) (es.map tyK) (fs.map tyK):=Ty.para_mk _ o k s c es fs
 rw[e]
 have hz:(List.map Ty.off fs).zip (List.map tyK fs)=fs.map fun f=>(f.off,tyK f):=List.zip_map' ..
 rw[←hz]
 rfl
theorem RR:Lib.itoa 8=[56]:=by simp[Lib.itoa,Lib.decDigits]
theorem LG:Lib.itoa 16=[49,54]:=by simp[Lib.itoa,Lib.decDigits]
theorem LF:Lib.itoa 32=[51,50]:=by simp[Lib.itoa,Lib.decDigits]
theorem KY{k s:Int}(hk:k=1∨k=2)(hs:s=1∨s=2∨s=4)(o:Int):txT (.mk o k s 0 [] [])=Gc k s:=by
 rw[kM]
 rcases hk with rfl|rfl<;>rcases hs with rfl|rfl|rfl<;>simp[Gc,RR,LG,LF]
theorem RF{k s:Int}(hk:k=1∨k=2)(hs:s=1∨s=2∨s=4){r:Bs}{l:List Tk}(hr:nW r=true)(h:Sc r l):Sc (Gc k s++r) (idT (Gc k s)::l):=by
 rcases hk with rfl|rfl<;>rcases hs with rfl|rfl|rfl<;>exact Sc.id (by decide) (by decide) (by decide) (by decide) (by decide) hr h
theorem VC{k s:Int}(hk:k=1∨k=2)(hs:s=1∨s=2∨s=4):intR (Gc k s)=some (k,s):=by
 rcases hk with rfl|rfl<;>rcases hs with rfl|rfl|rfl<;>decide
def ScT(t:Ty):Prop:= ∀s l,nW s=true→Sc s l→Sc (txT t++s) (tyK t++l)
theorem Ux{fs:List Ty}(h: ∀i,i<fs.length→fok fs i=true): ∀f∈fs,0≤f.off∧f.off<65536:=by
 intro f hf
 obtain⟨i,hi,rfl⟩:=List.getElem_of_mem hf
 have:=h i hi
 unfold fok at this
 simp only[Bool.and_eq_true,decide_eq_true_eq]at this
 have e:(fs.map Ty.off).getD i 0=fs[i].off:=by simp[List.getD,hi]
 rw[e]at this
 exact this.1
theorem OR{f:Ty}(hf:ScT f)(ho:0≤f.off∧f.off<65536){s:Bs}{l:List Tk}(hs:nW s=true)(h:Sc s l):Sc (pcT (f.off,txT f)++s) (pcK (f.off,tyK f)++l):=by
 unfold pcT pcK
 obtain⟨n,hn⟩: ∃n:Nat,f.off=n:=⟨f.off.toNat,by omega⟩
 simp only[hn,Int.toNat_natCast,List.append_assoc,List.cons_append,List.nil_append]
 exact Sc.itoa (by omega) rfl (Sc.op (by decide) (Sc.sp (hf s l hs h)))
theorem OQ: ∀(r:List Ty),(∀f∈r,ScT f∧0≤f.off∧f.off<65536)→ ∀s l,nW s=true→Sc s l→Sc (((r.map fun f=>(f.off,txT f)).map fun q=>[44,32]++pcT q).flatten++s) (tlK (r.map fun f=>(f.off,tyK f))++l)
 | [],_,s,l,_,h=>h
 | f::r,hr,s,l,hs,h=>by
  have ih:=OQ r (fun x hx=>hr x (by simp[hx])) s l hs h
  simp only[List.map_cons,List.flatten_cons,List.append_assoc,List.cons_append,List.nil_append,tlK];refine Sc.op (by decide) (Sc.sp (OR (hr f (by simp)).1 (hr f (by simp)).2 ?_ ih))
  cases r with
  | nil=>exact hs
  | cons g r=>rfl
theorem UR: ∀t:Ty,frm t=true→ScT t:=by
 intro t
 induction t using Ty.induct with
 | h o k s c es fs ie iff_ =>
 intro hf r l hr h
 obtain⟨hb,hfo,h1,h2⟩:=rC hf
 cases Ih hb with
 | unk=>rw[kM,kZ];exact Sc.op (by decide) h
 | any=>rw[kM,kZ];exact Sc.id (w:=[97,110,121]) (by decide) (by decide) (by decide) (by decide) (by decide) hr h
 | num k s hk hs =>
  rw[KY hk hs,kZ,if_neg (by omega),if_neg (by omega),if_pos hk]
  exact RF hk hs hr h
 | ptr e =>
  rw[kM,kZ];exact Sc.op (by decide) (ie e (by simp) (h2 e (by simp)) r l hr h)
 | arr c e hc =>
  have e1:txT (.mk o 4 0 c [e] [])=([91]++Lib.itoa c++[93])++txT e:=by rw[kM];rfl
  have e2:tyK (.mk o 4 0 c [e] [])=opT [91]::nuT c.toNat::opT [93]::tyK e:=by rw[kZ];rfl
  obtain⟨n,rfl⟩: ∃n:Nat,c=n:=⟨c.toNat,by omega⟩
  rw[e1,e2];simp only[Int.toNat_natCast,List.append_assoc,List.cons_append,List.nil_append];exact Sc.op (by decide) (Sc.itoa (by omega) rfl (Sc.op (by decide) (ie e (by simp) (h2 e (by simp)) r l hr h)))
 | str fs =>
  have e1:txT (.mk o 5 0 0 [] fs)=[123]++fldT (fs.map fun f=>(f.off,txT f))++[125]:=by rw[kM];rfl
  have e2:tyK (.mk o 5 0 0 [] fs)=opT [123]::(flK (fs.map fun f=>(f.off,tyK f))++[opT [125]]):=by rw[kZ];rfl
  have hoff:=Ux hfo;rw[e1,e2];simp only[List.append_assoc,List.cons_append,List.nil_append];refine Sc.op (by decide) ?_
  have hend:Sc (125::r) (opT [125]::l):=Sc.op (by decide) h
  cases fs with
  | nil=>exact hend
  | cons f fs =>
   show Sc ((pcT (f.off,txT f)++((fs.map fun f=>(f.off,txT f)).map fun q=>[44,32]++pcT q).flatten)++125::r) ((pcK (f.off,tyK f)++tlK (fs.map fun f=>(f.off,tyK f)))++opT [125]::l)
   rw[List.append_assoc,List.append_assoc];have H: ∀x∈f::fs,ScT x:=fun x hx=>iff_ x hx (h1 x hx)
   refine OR (H f (by simp)) (hoff f (by simp)) ?_ (OQ fs (fun x hx=>⟨H x (by simp[hx]),hoff x (by simp[hx])⟩) _ _ rfl hend)
   cases fs with
   | nil=>rfl
   | cons g fs=>rfl
section
variable {ts:List Tk}
def WS(ts:List Tk)(m:Md5)(a o:Nat)(z:Rs Ty):Prop:= ∃F,∀f,F≤f→tyM ts f m a o=some z
def RdT(ts:List Tk)(t:Ty):Prop:= ∀(n a o:Nat) (rest:List Tk),shal t n=true→o+n≤256→ts.drop a=tyK t++rest→ ∃t',WS ts .ty a o (.ok t' (a+(tyK t).length) o)∧tyV t'=tyV t
theorem Qp{a o n:Nat}{l:List Tk}(h:ts.drop a=nuT n::l):takM ts 3 a o=some (.ok (nuT n) (a+1) o):=BV h
theorem SG{t' f:Ty}(h:tyV t'=tyV f){n:Int}(hn:n=f.off):fdV (t'.at_ n)=fdV f:=by
 subst hn
 rw[cF,cF]at h
 rw[lS,lS]
 injection h with h
 injection h with h1 h
 injection h with h2 h
 injection h with h3 h
 injection h with h4 h
 injection h with h5 h
 show V.ag [.im (.int .i64 f.off),.im (.int .i64 t'.kind),.im (.int .i64 t'.size),.im (.int .i64 t'.count),.sl (t'.elem.map tyV) .ro,.sl (t'.fields.map fdV) .ro]=_
 rw[h1,h2,h3,h4,h5]
theorem OT: ∀(fs:List Ty),(∀f∈fs,RdT ts f∧0≤f.off)→ ∀(n:Nat),(∀f∈fs,shal f n=true)→ ∀(acc:List Ty) (a o:Nat) (rest:List Tk),o+n≤256 →
  ts.drop a=(if acc.length=0 then flK (fs.map fun f=>(f.off,tyK f))else tlK (fs.map fun f=>(f.off,tyK f)))++opT [125]::rest →
  ∃fs',WS ts (.fl acc) a o (.ok (.mk 0 5 0 0 [] (acc++fs')) (a+(if acc.length=0 then flK (fs.map fun f=>(f.off,tyK f))else tlK (fs.map fun f=>(f.off,tyK f))).length+1) (o-1))∧fs'.map fdV=fs.map fdV
 | [],_,n,_,acc,a,o,rest,ho,hd=>by
  have e:(if acc.length=0 then flK (([]:List Ty).map fun f=>(f.off,tyK f))else tlK (([]:List Ty).map fun f=>(f.off,tyK f)))=[]:=by split<;>rfl
  rw[e]at hd ⊢;rw[List.nil_append]at hd;refine⟨[],⟨1,fun f hf=> ?_⟩,rfl⟩
  cases f with
  | zero=>omega
  | succ f =>
   rw[tyM,if_pos (by rw[dY hd];decide),zQ hd,bY,List.append_nil]
   rfl
 | g::fs,hR,n,hsh,acc,a,o,rest,ho,hd=>by
  obtain⟨hg,hoff⟩:=hR g (by simp)
  have main: ∀(a1:Nat),ts.drop a1=pcK (g.off,tyK g)++(tlK (fs.map fun f=>(f.off,tyK f))++opT [125]::rest) →
    ∃fs' F,(∀f,F≤f→(rb (takM ts 3 a1 o) fun n a o=>rb (expM ts [58] a o) fun _ a o=>rb (tyM ts f .ty a o) fun x a o=>tyM ts f (.fl (acc++[x.at_ n.n])) a o)=some (.ok (.mk 0 5 0 0 [] (acc++fs')) (a1+(pcK (g.off,tyK g)).length+(tlK (fs.map fun f=>(f.off,tyK f))).length+1) (o-1)))∧fs'.map fdV=(g::fs).map fdV:=by
   intro a1 h1;unfold pcK at h1;simp only[List.cons_append]at h1;have h2:=cB h1;have h3:=cB h2;obtain⟨t',⟨F,hF⟩,ht⟩:=hg n _ o _ (hsh g (by simp)) ho h3
   have h4:=jM h3;have hne: ¬(acc++[t'.at_ ((g.off.toNat:Nat):Int)]).length=0:=by simp
   obtain⟨fs',⟨G,hG⟩,hfs⟩:=OT fs (fun x hx=>hR x (by simp[hx])) n (fun x hx=>hsh x (by simp[hx])) (acc++[t'.at_ ((g.off.toNat:Nat):Int)]) _ o rest ho (by rw[if_neg hne];exact h4)
   rw[if_neg hne]at hG;refine⟨t'.at_ ((g.off.toNat:Nat):Int)::fs',F+G,fun f hf=> ?_,?_⟩
   ·rw[Qp h1,bY,jL h2,bY,hF f (by omega),bY]
    show tyM ts f (.fl (acc++[t'.at_ ((g.off.toNat:Nat):Int)])) _ _=_
    rw[hG f (by omega),List.append_assoc]
    show some _=some _
    congr 2
    simp only[pcK,List.length_cons];omega
   ·rw[List.map_cons,List.map_cons,hfs,SG ht (by omega)]
  by_cases h0:acc.length=0
  ·rw[if_pos h0]at hd ⊢
   rw[List.map_cons]at hd ⊢;unfold flK at hd ⊢;rw[List.append_assoc]at hd;obtain⟨fs',F,hF,hfs⟩:=main a hd;refine⟨fs',⟨F+1,fun f hf=> ?_⟩,hfs⟩
   cases f with
   | zero=>omega
   | succ f =>
    have hs:sees ts a [125]=false:=by
     unfold pcK at hd;unfold sees;rw[cJ hd];rfl
    rw[tyM,if_neg (by rw[hs];decide),if_neg (by omega)]
    show rb (takM ts 3 a o) _=_
    rw[hF f (by omega),List.length_append,Nat.add_assoc a]
  ·rw[if_neg h0]at hd ⊢
   rw[List.map_cons]at hd ⊢;unfold tlK at hd ⊢;rw[List.cons_append,List.append_assoc]at hd;obtain⟨fs',F,hF,hfs⟩:=main (a+1) (cB hd);refine⟨fs',⟨F+1,fun f hf=> ?_⟩,hfs⟩
   cases f with
   | zero=>omega
   | succ f =>
    rw[tyM,if_neg (by rw[dY hd];decide),if_pos (by omega),jL hd,bY,hF f (by omega)]
    show some _=some _
    congr 2
    simp only[List.length_cons,List.length_append];omega
theorem UU: ∀t:Ty,frm t=true→RdT ts t:=by
 intro t
 induction t using Ty.induct with
 | h o k s c es fs ie iff_ =>
 intro hf n a p rest hsh ho hd
 obtain⟨hb,hfo,h1,h2⟩:=rC hf
 rw[qY]at hsh
 simp only[Bool.and_eq_true,decide_eq_true_eq,List.all_eq_true]at hsh
 obtain⟨⟨hn1,se⟩,sf⟩:=hsh
 obtain⟨m,rfl⟩: ∃m,n=m+1:=⟨n-1,by omega⟩
 rw[show((m+1:Nat):Int)-1=(m:Int) by omega]at se sf
 cases Ih hb with
 | unk =>
  have hd:ts.drop a=opT [63]::rest:=by rw[hd,kZ];rfl
  refine⟨.mk 0 0 0 0 [] [],⟨1,fun f hf=> ?_⟩,by rw[eP,eP]⟩
  cases f with
  | zero=>omega
  | succ f =>
   rw[tyM,if_neg (by rw[cJ hd];decide),if_pos (by rw[dY hd];decide),kZ]
   rfl
 | any =>
  have hd:ts.drop a=idT [97,110,121]::rest:=by rw[hd,kZ];rfl
  refine⟨.mk 0 6 0 0 [] [],⟨1,fun f hf=> ?_⟩,by rw[eP,eP]⟩
  cases f with
  | zero=>omega
  | succ f =>
   rw[tyM,if_pos (by rw[cJ hd];rfl),cJ hd,kZ]
   rfl
 | num k s hk hs =>
  have hK:tyK (.mk o k s 0 [] [])=[idT (Gc k s)]:=by rw[kZ,if_neg (by omega),if_neg (by omega),if_pos hk]
  rw[hK]at hd ⊢;have hd:ts.drop a=idT (Gc k s)::rest:=hd;refine⟨.mk 0 k s 0 [] [],⟨1,fun f hf=> ?_⟩,by rw[eP,eP]⟩
  cases f with
  | zero=>omega
  | succ f =>
   rw[tyM,if_pos (by rw[cJ hd];rfl),cJ hd,show intR (idT (Gc k s)).text=some (k,s)from VC hk hs]
   rfl
 | ptr e =>
  have hK:tyK (.mk o 3 0 0 [e] [])=opT [42]::tyK e:=by rw[kZ];rfl
  rw[hK]at hd ⊢;rw[List.cons_append]at hd;obtain⟨t',⟨F,hF⟩,ht⟩:=ie e (by simp) (h2 e (by simp)) m _ (p+1) rest (se e (by simp)) (by omega) (cB hd)
  refine⟨.mk 0 3 0 0 [t'] [],⟨F+1,fun f hf=> ?_⟩,by rw[eP,eP,List.map_cons,List.map_cons,ht]⟩
  cases f with
  | zero=>omega
  | succ f =>
   rw[tyM,if_neg (by rw[cJ hd];decide),if_neg (by rw[dY hd];decide),if_pos (by rw[dY hd];decide),rL hd (by omega),bY,hF f (by omega),bY]
   show some _=some _
   congr 2<;>(simp only[List.length_cons]<;>omega)
 | arr c e hc =>
  have hK:tyK (.mk o 4 0 c [e] [])=opT [91]::nuT c.toNat::opT [93]::tyK e:=by rw[kZ];rfl
  rw[hK]at hd ⊢;simp only[List.cons_append]at hd;have d2:=cB hd;have d3:=cB d2;obtain⟨t',⟨F,hF⟩,ht⟩:=ie e (by simp) (h2 e (by simp)) m _ (p+1) rest (se e (by simp)) (by omega) (cB d3)
  refine⟨.mk 0 4 0 ((c.toNat:Nat):Int) [t'] [],⟨F+1,fun f hf=> ?_⟩,by rw[eP,eP,List.map_cons,List.map_cons,ht,show((c.toNat:Nat):Int)=c by omega]⟩
  cases f with
  | zero=>omega
  | succ f =>
   rw[tyM,if_neg (by rw[cJ hd];decide),if_neg (by rw[dY hd];decide),if_neg (by rw[dY hd];decide),if_pos (by rw[dY hd];decide),rL hd (by omega),bY,Qp d2,bY,jL d3,bY,hF f (by omega),bY]
   show some _=some _
   congr 2<;>(simp only[List.length_cons]<;>omega)
 | str fs =>
  have hK:tyK (.mk o 5 0 0 [] fs)=opT [123]::(flK (fs.map fun f=>(f.off,tyK f))++[opT [125]]):=by rw[kZ];rfl
  rw[hK]at hd ⊢;simp only[List.cons_append,List.append_assoc,List.nil_append]at hd;have hoff:=Ux hfo;obtain⟨fs',⟨F,hF⟩,hfs⟩:=OT fs (fun f hf=>⟨iff_ f hf (h1 f hf),(hoff f hf).1⟩) m sf [] (a+1) (p+1) rest (by omega) (cB hd)
  refine⟨.mk 0 5 0 0 [] fs',⟨F+1,fun f hf=> ?_⟩,by rw[eP,eP,hfs]⟩
  cases f with
  | zero=>omega
  | succ f =>
   rw[tyM,if_neg (by rw[cJ hd];decide),if_neg (by rw[dY hd];decide),if_neg (by rw[dY hd];decide),if_neg (by rw[dY hd];decide),if_pos (by rw[dY hd];decide),rL hd (by omega),bY,hF f (by omega)]
   show some _=some _
   congr 2
   show _+(flK (fs.map fun f=>(f.off,tyK f))).length+1=_
   simp only[List.length_cons,List.length_append,List.length_nil];omega
end
end Go.Proofs.YtmbmmckagcdapaaGreatDoor
namespace Go.Proofs.YtmbmmckagcdapaaGreatDoor
open Go.RowKit
def fnE:List ByteArray→List Fun→Int
 | _,[]=>0
 | sn,f::r=>if !nameT f.name then 3 else if sn.any (fun x=>eqS f.name x)then 8 else fnE (sn++[f.name]) r
theorem FQ{l:List Fun}{m:Nat}(h:m<l.length):fnE ((l.take m).map Fun.name) (l.drop m)=if !nameT l[m].name then 3 else if((l.take m).map Fun.name).any (fun x=>eqS l[m].name x)then 8 else fnE ((l.take (m+1)).map Fun.name) (l.drop (m+1)):=by
 rw[List.drop_eq_getElem_cons h,fnE,List.take_succ_eq_append_getElem h,List.map_append]
 rfl
def bdE(gs:List Va)(fs:List ByteArray):List Fun→Int
 | []=>0
 | f::r=>if bodyE gs f fs=0 then bdE gs fs r else bodyE gs f fs
def unE(u:Un):Int :=
 if 256<u.globals.length∨16<u.data.length∨64<u.funcs.length then 6 else if u.funcs.length=0 then 17 else if vErr [] u.globals≠0 then vErr [] u.globals else if dErr [] u.data≠0 then dErr [] u.data
 else if fnE [] u.funcs≠0 then fnE [] u.funcs else bdE u.globals (u.funcs.map Fun.name) u.funcs
structure fitFn (f:Fun):Prop where
 vl:f.vars.length≤2097152
 vn:Ap f.vars
 bd:lN f.body
 ct:cnt f.body≤4194304
 nm:f.name.size≤9223372036854775807
structure fitU (u:Un):Prop where
 gl:u.globals.length≤2097152
 gn:Ap u.globals
 dl:u.data.length≤4194304
 dn:FV u.data
 fl:u.funcs.length≤4194304
 fn: ∀f∈u.funcs,fitFn f
def dO:=A16 @lM @Ci @vL @pF @Cg @dN @Cb @lL @Tp @lJ @vI @vH @iW @lY @qP (A10 @lX @Ag @jT @yH @sB @nH @sA @rX @cY @kK)
set_option maxHeartbeats 2000000 in
theorem tO(u:Un)(hu:fitU u):PC Tryz.prog 15 [unV u] (.im (.int .i64 (unE u))):=by
 have h1:=xW [] u.globals (by have:=hu.gl;simp;omega) hu.gn
 have h2:=TU u.data hu.dl hu.dn
 have hgl:=hu.gl
 have hfl:=hu.fl
 unfold unE
 rw[List.map_nil]at h1
 refine PC.enter 79 Tryz.func15 rfl (by decide) rfl rfl (s:=[(0,unV u)]) (by rfl) ?_
 simp only[kY]
 refine wG dO @List.length_map.{0,0} ?_
 refine iX rfl rfl (fun hE=> ?_) (fun hE=> ?_)
 ·have q:256<u.globals.length∨16<u.data.length∨64<u.funcs.length:=by
   simp only[Bool.or_eq_true,decide_eq_true_eq]at hE;omega
  rw[if_pos q];refine wG dO TI ?_;exact aD
 have q: ¬(256<u.globals.length∨16<u.data.length∨64<u.funcs.length):=by
  simp only[Bool.or_eq_false_iff,decide_eq_false_iff_not]at hE;omega
 rw[if_neg q]
 by_cases b0:u.funcs.length=0
 ·have b0':(u.funcs.length:Int)=0:=by omega
  rw[if_pos b0];refine wG dO (AI b0' @List.length_map.{0,0}) ?_;exact aD
 have b0': ¬(u.funcs.length:Int)=0:=by omega
 rw[if_neg b0]
 refine wG dO (AI b0' @List.length_map.{0,0}) ?_
 refine dD h1 TI BN04 ?_
 by_cases b1:vErr [] u.globals=0
 case neg =>
  rw[if_pos b1];refine goG dO b1 ?_;refine wG dO b1 ?_;exact aD
 rw[if_neg (by simp[b1]),b1]
 refine goG dO TI ?_
 refine wG dO TI ?_
 refine AR.callP h2 TI BN04 ?_
 by_cases b2:dErr [] u.data=0
 case neg =>
  rw[if_pos b2];refine goG dO b2 ?_;refine wG dO b2 ?_;exact aD
 rw[if_neg (by simp[b2]),b2]
 refine goG dO TI ?_
 refine wG dO @List.length_map.{0,0} ?_
 refine aW ?_
 refine ALp.ghost 5 [] .nl 9 1 ?_
 refine ALp.cutP 2 [(1,.pt 0 0),(5,.sl (((u.funcs.take (0)).map Fun.name).map tsV) (.own 1)),(44,.sl (u.funcs.map fnV) .ro),(45,(.im (.int .i64 (u.funcs.length)))),(46,(.im (.int .i64 ((((0:Nat)):Int)))))] [.box [.sl (u.globals.map vaV) .ro,.sl (u.data.map scV) .ro,.sl (u.funcs.map fnV) .ro],.tip 9 1 ((u.funcs.take (0)).map Fun.name).length] BN04 ?_
 refine ALp.upto u.funcs.length (fun m=>fnE ((u.funcs.take (m)).map Fun.name) (u.funcs.drop m)=fnE [] u.funcs) (fun m=>⟨dn 79 [(1,.pt 0 0),(5,.sl (((u.funcs.take (m)).map Fun.name).map tsV) (.own 1)),(44,.sl (u.funcs.map fnV) .ro),(45,(.im (.int .i64 (u.funcs.length)))),(46,(.im (.int .i64 ((((m:Nat)):Int)))))],ofl [.box [.sl (u.globals.map vaV) .ro,.sl (u.data.map scV) .ro,.sl (u.funcs.map fnV) .ro],.tip 9 1 ((u.funcs.take (m)).map Fun.name).length]⟩) ?_ 0 (Nat.zero_le _) rfl
 intro m hm hV hnext
 by_cases hlt:m<u.funcs.length
 ·have hlt':(m:Int)<(u.funcs.length:Int):=by omega
  have hm1:=aT hlt (by omega)
  have hg:=bJ hlt;have hf:=hu.fn _ (List.getElem_mem hlt);have h3:=Es u.funcs[m].name hf.nm;have hnl:((u.funcs.take (m)).map Fun.name).length=m:=by rw[List.length_map,List.length_take];omega
  have h4:=oY ((u.funcs.take (m)).map Fun.name) (by omega) u.funcs[m].name
  have hn2:=hnext (m+1) (by omega) (by omega)
  rw[FQ hlt]at hV
  have hap:((u.funcs.take (m)).map Fun.name).map tsV++[.im (.string u.funcs[m].name)]=((u.funcs.take (m+1)).map Fun.name).map tsV:=by
   rw[List.map_map,List.map_map];exact Gv (tsV∘Fun.name) hlt
  have hnl1:((u.funcs.take (m+1)).map Fun.name).length=m+1:=by rw[List.length_map,List.length_take];omega
  have hln:((u.funcs.take (m)).map Fun.name).length+1=((u.funcs.take (m+1)).map Fun.name).length:=by omega
  have hA:((u.funcs.take (m+1)).map Fun.name).length*16≤140737488355328:=by omega
  generalize ((u.funcs.take (m)).map Fun.name)=n0 at h4 hV hap hln ⊢;generalize ((u.funcs.take (m+1)).map Fun.name)=n1 at hV hap hln hA hn2 ⊢;cases b3:nameT u.funcs[m].name with
  | false =>
   rw[b3]at h3 hV;simp only[Bool.not_false,if_true]at hV;rw[←hV,if_pos (by decide)]
   refine wG dO (A3 hlt' hg FU) ?_;refine AR.callP h3 TI BN04 ?_;refine goG dO TI ?_;refine wG dO TI ?_;exact aD
  | true =>
  rw[b3]at h3 hV;simp only[Bool.not_true,Bool.false_eq_true,if_false]at hV;cases b4:n0.any fun x=>eqS u.funcs[m].name x with
  | true =>
   rw[b4]at h4 hV;simp only[if_true]at hV;rw[←hV,if_pos (by decide)]
   refine wG dO (A3 hlt' hg FU) ?_;refine AR.callP h3 TI BN04 ?_;refine goG dO TI ?_;refine wG dO TI ?_;refine dD h4 TI BN04 ?_;refine goG dO TI ?_;refine wG dO TI ?_;exact aD
  | false =>
   rw[b4]at h4 hV;simp only[Bool.false_eq_true,if_false]at hV;refine wG dO (A3 hlt' hg FU) ?_;refine AR.callP h3 TI BN04 ?_;refine goG dO TI ?_;refine wG dO TI ?_;refine dD h4 TI BN04 ?_;refine goG dO TI ?_;refine wG dO (A5 hap hln hA hm1 @List.length_map.{0,0}) ?_;refine ALp.cutP 2 [(1,.pt 0 0),(5,.sl (n1.map tsV) (.own 1)),(44,.sl (u.funcs.map fnV) .ro),(45,(.im (.int .i64 (u.funcs.length)))),(46,(.im (.int .i64 ((((m+1:Nat)):Int)))))] [.box [.sl (u.globals.map vaV) .ro,.sl (u.data.map scV) .ro,.sl (u.funcs.map fnV) .ro],.tip 9 1 n1.length] BN04 ?_;exact hn2 hV
 obtain rfl:m=u.funcs.length:=by omega
 clear hnext
 rw[List.take_length,List.drop_length]at hV
 have hV:fnE [] u.funcs=0:=by rw[←hV];cases u.funcs.map Fun.name<;>rfl
 rw[if_neg (by simp[hV]),List.take_length]
 have hfn:(u.funcs.map Fun.name).length≤4194304:=by rw[List.length_map];exact hfl
 generalize u.funcs.map Fun.name=fs at hfn ⊢
 refine whG dO @Int.lt_irrefl ?_
 refine Blk'.here (Thn.n ?_)
 refine wG dO @List.length_map.{0,0} ?_
 refine aW ?_
 refine ALp.cutP 2 [(1,.pt 0 0),(5,.sl (fs.map tsV) (.own 1)),(65,.sl (u.funcs.map fnV) .ro),(66,(.im (.int .i64 (u.funcs.length)))),(67,(.im (.int .i64 ((((0:Nat)):Int)))))] [.box [.sl (u.globals.map vaV) .ro,.sl (u.data.map scV) .ro,.sl (u.funcs.map fnV) .ro],.tip 9 1 fs.length] BN04 ?_
 refine ALp.upto u.funcs.length (fun m=>bdE u.globals fs (u.funcs.drop m)=bdE u.globals fs u.funcs) (fun m=>⟨dn 79 [(1,.pt 0 0),(5,.sl (fs.map tsV) (.own 1)),(65,.sl (u.funcs.map fnV) .ro),(66,(.im (.int .i64 (u.funcs.length)))),(67,(.im (.int .i64 ((((m:Nat)):Int)))))],ofl [.box [.sl (u.globals.map vaV) .ro,.sl (u.data.map scV) .ro,.sl (u.funcs.map fnV) .ro],.tip 9 1 fs.length]⟩) ?_ 0 (Nat.zero_le _) rfl
 intro m hm hV hnext
 rw[←hV]
 by_cases hlt:m<u.funcs.length
 ·have hlt':(m:Int)<(u.funcs.length:Int):=by omega
  have hm1:=aT hlt (by omega)
  have hg:=bJ hlt;have hf:=hu.fn _ (List.getElem_mem hlt);have hb:=TV u u.funcs[m] fs hgl hf.vl hf.vn hf.bd hf.ct hfn;have hd:u.funcs.drop m=u.funcs[m]::u.funcs.drop (m+1):=List.drop_eq_getElem_cons hlt;rw[hd]at hV ⊢;have hs:bdE u.globals fs (u.funcs[m]::u.funcs.drop (m+1))=if bodyE u.globals u.funcs[m] fs=0 then bdE u.globals fs (u.funcs.drop (m+1))else bodyE u.globals u.funcs[m] fs:=rfl
  rw[hs]at hV ⊢
  by_cases b:bodyE u.globals u.funcs[m] fs=0
  ·rw[if_pos b]at hV ⊢
   rw[b]at hb;refine wG dO (A3 hlt' hg FU) ?_;refine dD hb (AI kY tJ) BN04 ?_;refine goG dO TI ?_;refine wG dO hm1 ?_;refine ALp.cutP 2 [(1,.pt 0 0),(5,.sl (fs.map tsV) (.own 1)),(65,.sl (u.funcs.map fnV) .ro),(66,(.im (.int .i64 (u.funcs.length)))),(67,(.im (.int .i64 ((((m+1:Nat)):Int)))))] [.box [.sl (u.globals.map vaV) .ro,.sl (u.data.map scV) .ro,.sl (u.funcs.map fnV) .ro],.tip 9 1 fs.length] BN04 ?_;rw[hV];exact hnext (m+1) (by omega) (by omega) hV
  ·rw[if_neg b]
   refine wG dO (A3 hlt' hg FU) ?_;refine dD hb (AI kY tJ) BN04 ?_;refine goG dO b ?_;refine wG dO b ?_;exact aD
 obtain rfl:m=u.funcs.length:=by omega
 clear hnext
 rw[List.drop_length]
 refine wG dO @Int.lt_irrefl ?_
 exact aD
def Jl(l:List Tk)(k:Int):Int×Int:=if k<0 then(1,1)else match l[min k.toNat (l.length-1)]? with
 | some t=>(t.line,t.col)
 | none=>(1,1)
def rN:=A8 @oL @cN @jO @pC @wR @wQ @gR @cM
theorem Fa(l:List Tk)(k:Int)(hl:l.length≤4194304):PC Tryz.prog 64 [.sl (l.map tkV) .ro,(.im (.int .i64 (k)))] (.tu [(.im (.int .i64 ((Jl l k).1))),(.im (.int .i64 ((Jl l k).2)))]):=by
 by_cases h0:k<0
 ·rw[show Jl l k=(1,1)from if_pos h0]
  refine PC.enter 26 Tryz.func64 rfl (by decide) rfl rfl (s:=[(0,.sl (l.map tkV) .ro),(1,(.im (.int .i64 (k))))]) (by rfl) ?_
  refine wG rN (AI TKT h0) ?_;refine aI (rs:=[.tmp 4,.tmp 5]) rfl (by first|exact .inl rfl|exact .inr rfl) (finG rN) ?_
  all_goals exact wkG (A4 bC aX aB bB)
 cases hE:l with
 | nil =>
  rw[show Jl [] k=(1,1) by unfold Jl;split<;>rfl]
  refine PC.enter 26 Tryz.func64 rfl (by decide) rfl rfl (s:=[(0,.sl (([]:List Tk).map tkV) .ro),(1,(.im (.int .i64 (k))))]) (by rfl) ?_
  refine wG rN (AI TKT h0) ?_;refine aI (rs:=[.tmp 4,.tmp 5]) rfl (by first|exact .inl rfl|exact .inr rfl) (finG rN) ?_
  all_goals exact wkG (A4 bC aX aB bB)
 | cons x r =>
 rw[←hE]
 have hpos:1≤l.length:=by rw[hE];simp
 clear hE
 have hne: ¬(l.length:Int)=0:=by omega
 have hw:IntKind.i64.wrap ((l.length:Int)-1)=((l.length-1:Nat):Int):=by rw[dL (by omega)];omega
 obtain⟨j,hj⟩: ∃j,j=min k.toNat (l.length-1):=⟨_,rfl⟩
 have hjl:j<l.length:=by omega
 have hg:l[j]? =some l[j]:=List.getElem?_eq_getElem hjl
 have hR:Jl l k=(l[j].line,l[j].col):=by
  unfold Jl;rw[if_neg h0,←hj,hg]
 rw[hR]
 clear hR
 generalize l[j]=t at hg
 have hmin:(if((l.length-1:Nat):Int)<k then((l.length-1:Nat):Int)else k)=(j:Int):=by split<;>omega
 refine PC.enter 26 Tryz.func64 rfl (by decide) rfl rfl (s:=[(0,.sl (l.map tkV) .ro),(1,(.im (.int .i64 (k))))]) (by rfl) ?_
 refine wG rN (A3 TKT h0 hne) ?_
 refine wdG rN (A7 TKT h0 hne hw hg hmin @Int.toNat_natCast) ?_
 refine aI (rs:=[.tmp 4,.tmp 5]) rfl (by first|exact .inl rfl|exact .inr rfl) (finG rN) ?_
 all_goals exact wkG (A4 bC aX aB bB)
def rP:=A16 @cN @mQ @iL @fM @dN @gT @nN @Af @vF @Ae @lW @cM @mP @iJ @dP @cY
theorem Su: ∀(a:Ex),fitE a→ ∀b,fitE b→PC Tryz.prog 24 [exV a,exV b] (.im (.bool (samE a b))):=by
 refine Ex.induct fun o k s w l hL=> ?_
 intro hfit b hfb
 obtain⟨o',k',s',w',l'⟩:=b
 obtain⟨hl1,hfL⟩:=oT hfit
 obtain⟨hl2,hfL'⟩:=oT hfb
 rw[Uf]
 simp only[Ex.op,Ex.n,Ex.name,Ex.width,Ex.l]
 refine PC.enter 60 Tryz.func24 rfl (by decide) rfl rfl (s:=[(0,exV (.mk o k s w l)),(1,exV (.mk o' k' s' w' l'))]) (by rfl) ?_
 simp only[gU]
 refine wG rP TI ?_
 refine iX rfl rfl (fun hE=> ?_) (fun hE=> ?_)
 ·have hr:(o==o'&&k==k'&&eqS s s'&&w==w'&&all2 samE l l')=false:=by
   simp only[Bool.or_eq_true,bne_iff_ne,ne_eq,Bool.not_eq_true',decide_eq_false_iff_not,beq_eq_false_iff_ne]at hE;rcases hE with (((hE|hE)|hE)|hE)|hE
   ·simp[hE]
   ·simp[hE]
   ·have:eqS s s'=false:=by unfold eqS;simpa using hE
    simp[this]
   ·simp[hE]
   ·rw[NS (by omega)];simp
  rw[hr];refine wG rP TI ?_;exact aD
 ·simp only[Bool.or_eq_false_iff,bne_eq_false_iff_eq,beq_iff_eq,Bool.not_eq_false',decide_eq_true_eq]at hE
  obtain⟨⟨⟨⟨rfl,rfl⟩,hs⟩,rfl⟩,h4⟩:=hE;obtain rfl:s=s':=(uP s s').1 (by unfold eqS;simpa using hs)
  have h4:l.length=l'.length:=by omega
  have hr:(o==o&&k==k&&eqS s s&&w==w&&all2 samE l l')=all2 samE l l':=by simp[Od]
  rw[hr];clear hr hs;refine wG rP TI ?_;refine aW ?_;refine ALp.cutP 2 [(2,.pt 0 0),(3,.pt 1 0),(5,(.im (.int .i64 ((((0:Nat)):Int)))))] [.box [.im (.int .i64 o),.im (.int .u32 k),.im (.string s),.im (.int .i64 w),.sl (l.map exV) .ro],.box [.im (.int .i64 o),.im (.int .u32 k),.im (.string s),.im (.int .i64 w),.sl (l'.map exV) .ro]] (A4 @aC @aN @aE @aO) ?_;refine ALp.upto l.length (to2 samE l l') (fun m=>⟨dn 60 [(2,.pt 0 0),(3,.pt 1 0),(5,(.im (.int .i64 ((((m:Nat)):Int)))))],ofl [.box [.im (.int .i64 o),.im (.int .u32 k),.im (.string s),.im (.int .i64 w),.sl (l.map exV) .ro],.box [.im (.int .i64 o),.im (.int .u32 k),.im (.string s),.im (.int .i64 w),.sl (l'.map exV) .ro]]⟩) ?_ 0 (Nat.zero_le _) (to2.zero _ _ _)
  intro m hm hI hnext
  by_cases hlt:m<l.length
  ·have hlt2:m<l'.length:=by omega
   have hlt':(m:Int)<(l.length:Int):=by omega
   have hlt2':(m:Int)<(l'.length:Int):=by omega
   have hg:=bJ hlt;have hg2:=bJ hlt2;have hm1:=aT hlt (by omega)
   have hc:=hL l[m] (List.getElem_mem hlt) (hfL _ (List.getElem_mem hlt)) l'[m] (hfL' _ (List.getElem_mem hlt2));refine wdG rP (A5 hlt' hlt2' hg hg2 EX) ?_;refine AR.callP hc @bK (A4 @aC @aN @aE @aO) ?_;cases hs:samE l[m] l'[m]with
   | false =>
    rw[NT hlt hlt2 hs];refine goG rP hs ?_;refine wdG rP TI ?_;exact aD
   | true =>
    refine goG rP hs ?_;refine wdG rP hm1 ?_;refine ALp.cutP 2 [(2,.pt 0 0),(3,.pt 1 0),(5,(.im (.int .i64 ((((m+1:Nat)):Int)))))] [.box [.im (.int .i64 o),.im (.int .u32 k),.im (.string s),.im (.int .i64 w),.sl (l.map exV) .ro],.box [.im (.int .i64 o),.im (.int .u32 k),.im (.string s),.im (.int .i64 w),.sl (l'.map exV) .ro]] (A4 @aC @aN @aE @aO) ?_;exact hnext (m+1) (by omega) (by omega) (hI.succ hlt hlt2 hs)
  obtain rfl:m=l.length:=by omega
  rw[hI.all h4];clear hnext hI;refine wG rP @Int.lt_irrefl ?_;exact aD
def mM:=A16 @cN @vJ @sL @iK @sI @sH @sF @lZ @qM @vB @vA @nM @jU @oH @cM (A3 @uW @nG @iI)
def rU:=A8 @bU @bW @bV @bX @aC @aN @aE @aO
theorem HE: ∀(a:Ty),fit a→PC Tryz.prog 98 [tyV a,tyV a] (.im (.bool (true))):=by
 refine Ty.induct fun o k s c es fs hT hF=> ?_
 intro hfit
 obtain⟨hl1,hl2,hfE,hfF⟩:=nU hfit
 refine PC.enter 99 Tryz.func98 rfl (by decide) rfl rfl (s:=[(0,tyV (.mk o k s c es fs)),(1,tyV (.mk o k s c es fs))]) (by rfl) ?_
 simp only[eP]
 refine wG mM TI ?_
 refine aW ?_
 refine ALp.cutP 2 [(2,.pt 0 0),(3,.pt 1 0),(5,(.im (.int .i64 ((((0:Nat)):Int)))))] [.box [.im (.int .i64 k),.im (.int .i64 s),.im (.int .i64 c),.sl (es.map tyV) .ro,.sl (fs.map fdV) .ro],.box [.im (.int .i64 k),.im (.int .i64 s),.im (.int .i64 c),.sl (es.map tyV) .ro,.sl (fs.map fdV) .ro]] rU ?_
 refine ALp.upto es.length (fun _=>True) (fun m=>⟨dn 99 [(2,.pt 0 0),(3,.pt 1 0),(5,(.im (.int .i64 ((((m:Nat)):Int)))))],ofl [.box [.im (.int .i64 k),.im (.int .i64 s),.im (.int .i64 c),.sl (es.map tyV) .ro,.sl (fs.map fdV) .ro],.box [.im (.int .i64 k),.im (.int .i64 s),.im (.int .i64 c),.sl (es.map tyV) .ro,.sl (fs.map fdV) .ro]]⟩) ?_ 0 (Nat.zero_le _) trivial
 intro m hm hI hnext
 by_cases hlt:m<es.length
 ·have hlt':(m:Int)<(es.length:Int):=by omega
  have hg:=bJ hlt;have hm1:=aT hlt (by omega)
  have hc:=hT es[m] (List.getElem_mem hlt) (hfE _ (List.getElem_mem hlt));refine wdG mM (A3 hlt' hg TY) ?_;refine AR.callP hc @cF rU ?_;refine goG mM TI ?_;refine wdG mM hm1 ?_;refine ALp.cutP 2 [(2,.pt 0 0),(3,.pt 1 0),(5,(.im (.int .i64 ((((m+1:Nat)):Int)))))] [.box [.im (.int .i64 k),.im (.int .i64 s),.im (.int .i64 c),.sl (es.map tyV) .ro,.sl (fs.map fdV) .ro],.box [.im (.int .i64 k),.im (.int .i64 s),.im (.int .i64 c),.sl (es.map tyV) .ro,.sl (fs.map fdV) .ro]] rU ?_;exact hnext (m+1) (by omega) (by omega) trivial
 obtain rfl:m=es.length:=by omega
 clear hnext hI
 refine whG mM @Int.lt_irrefl ?_
 refine Blk'.here (Thn.n ?_)
 refine wG mM TI ?_
 refine aW ?_
 refine ALp.cutP 2 [(2,.pt 0 0),(3,.pt 1 0),(6,(.im (.int .i64 ((((0:Nat)):Int)))))] [.box [.im (.int .i64 k),.im (.int .i64 s),.im (.int .i64 c),.sl (es.map tyV) .ro,.sl (fs.map fdV) .ro],.box [.im (.int .i64 k),.im (.int .i64 s),.im (.int .i64 c),.sl (es.map tyV) .ro,.sl (fs.map fdV) .ro]] rU ?_
 refine ALp.upto fs.length (fun _=>True) (fun m=>⟨dn 99 [(2,.pt 0 0),(3,.pt 1 0),(6,(.im (.int .i64 ((((m:Nat)):Int)))))],ofl [.box [.im (.int .i64 k),.im (.int .i64 s),.im (.int .i64 c),.sl (es.map tyV) .ro,.sl (fs.map fdV) .ro],.box [.im (.int .i64 k),.im (.int .i64 s),.im (.int .i64 c),.sl (es.map tyV) .ro,.sl (fs.map fdV) .ro]]⟩) ?_ 0 (Nat.zero_le _) trivial
 intro m hm hI hnext
 by_cases hlt:m<fs.length
 ·have hlt':(m:Int)<(fs.length:Int):=by omega
  have hg:=bJ hlt;have hm1:=aT hlt (by omega)
  have hc:=hF fs[m] (List.getElem_mem hlt) (hfF _ (List.getElem_mem hlt));refine wdG mM (A3 hlt' hg TY) ?_;refine AR.callP hc @cF rU ?_;refine goG mM TI ?_;refine wdG mM hm1 ?_;refine ALp.cutP 2 [(2,.pt 0 0),(3,.pt 1 0),(6,(.im (.int .i64 ((((m+1:Nat)):Int)))))] [.box [.im (.int .i64 k),.im (.int .i64 s),.im (.int .i64 c),.sl (es.map tyV) .ro,.sl (fs.map fdV) .ro],.box [.im (.int .i64 k),.im (.int .i64 s),.im (.int .i64 c),.sl (es.map tyV) .ro,.sl (fs.map fdV) .ro]] rU ?_;exact hnext (m+1) (by omega) (by omega) trivial
 obtain rfl:m=fs.length:=by omega
 clear hnext hI
 refine wG mM @Int.lt_irrefl ?_
 exact aD
def yB:=A8 @dN @iK @lJ @uZ @uY @cY @iI @kK
theorem Oy(l:List Va)(hl:Ap l)(hn:l.length≤4194304):PC Tryz.prog 46 [.sl (l.map vaV) .ro,.sl (l.map vaV) .ro] (.im (.bool (true))):=by
 refine PC.enter 42 Tryz.func46 rfl (by decide) rfl rfl (s:=[(0,.sl (l.map vaV) .ro),(1,.sl (l.map vaV) .ro)]) (by rfl) ?_
 refine wG yB @List.length_map.{0,0} ?_
 refine aW ?_
 refine ALp.cutP 0 [(0,.sl (l.map vaV) .ro),(1,.sl (l.map vaV) .ro),(5,(.im (.int .i64 ((((0:Nat)):Int)))))] [] rU ?_
 refine ALp.upto l.length (fun _=>True) (fun m=>⟨dn 42 [(0,.sl (l.map vaV) .ro),(1,.sl (l.map vaV) .ro),(5,(.im (.int .i64 ((((m:Nat)):Int)))))],ofl []⟩) ?_ 0 (Nat.zero_le _) trivial
 intro m hm hI hnext
 by_cases hlt:m<l.length
 ·have hlt':(m:Int)<(l.length:Int):=by omega
  have hg:=bJ hlt;have hm1:=aT hlt (by omega)
  obtain⟨hty,hnm⟩:=hl _ (List.getElem_mem hlt);have hc:=HE l[m].ty hty;refine wdG yB (A3 hlt' hg VA) ?_;refine AR.callP hc @cF rU ?_;refine goG yB TI ?_;refine wdG yB hm1 ?_;refine ALp.cutP 0 [(0,.sl (l.map vaV) .ro),(1,.sl (l.map vaV) .ro),(5,(.im (.int .i64 ((((m+1:Nat)):Int)))))] [] rU ?_;exact hnext (m+1) (by omega) (by omega) trivial
 obtain rfl:m=l.length:=by omega
 clear hnext hI
 refine wG yB @Int.lt_irrefl ?_
 exact aD
def bZ(b:UInt8):V:= .im (.int .u8 b.toNat)
theorem WO(b:UInt8):bZ b= .im (.int .u8 b.toNat):=rfl
theorem NO(b:UInt8):(bZ b).live=true:=rfl
theorem NN(b:UInt8):(bZ b).size=1:=rfl
theorem NP(b:UInt8):(bZ b).isAg=false:=rfl
theorem IG(b:UInt8):(bZ b).cells=[.im (.int .u8 b.toNat)]:=rfl
theorem NQ(b:UInt8):(bZ b).firm=true:=rfl
theorem IF(g:Bool)(b:UInt8):strip g (bZ b)=bZ b:=rfl
theorem Tb(p:Nat→Bool)(l:Bs):V.idsL p (l.map bZ)=true:=fY (fun _=>rfl) l
def Ks:=A3 @Lo @lI @rZ
theorem HH(l:Bs)(hn:l.length≤4194304):PC Tryz.prog 99 [.sl (l.map bZ) .ro,.sl (l.map bZ) .ro] (.im (.bool (true))):=by
 refine PC.enter 26 Tryz.func99 rfl (by decide) rfl rfl (s:=[(0,.sl (l.map bZ) .ro),(1,.sl (l.map bZ) .ro)]) (by rfl) ?_
 refine wG Ks @List.length_map.{0,0} ?_
 refine aW ?_
 refine ALp.cutP 0 [(0,.sl (l.map bZ) .ro),(1,.sl (l.map bZ) .ro),(5,(.im (.int .i64 ((((0:Nat)):Int)))))] [] Tb ?_
 refine ALp.upto l.length (fun _=>True) (fun m=>⟨dn 26 [(0,.sl (l.map bZ) .ro),(1,.sl (l.map bZ) .ro),(5,(.im (.int .i64 ((((m:Nat)):Int)))))],ofl []⟩) ?_ 0 (Nat.zero_le _) trivial
 intro m hm hI hnext
 by_cases hlt:m<l.length
 ·have hlt':(m:Int)<(l.length:Int):=by omega
  have hg:=bJ hlt;have hm1:=aT hlt (by omega)
  refine wdG Ks (A12 hlt' hg hm1 WO NQ IF NO NN NP IG @List.getElem?_map.{0,0} @Int.natCast_nonneg) ?_;refine ALp.cutP 0 [(0,.sl (l.map bZ) .ro),(1,.sl (l.map bZ) .ro),(5,(.im (.int .i64 ((((m+1:Nat)):Int)))))] [] Tb ?_;exact hnext (m+1) (by omega) (by omega) trivial
 obtain rfl:m=l.length:=by omega
 clear hnext hI
 refine wG Ks @Int.lt_irrefl ?_
 exact aD
theorem TW(p:Nat→Bool)(l:Bs):V.idsL p (l.map fun b:UInt8=>V.im (.int .u8 b.toNat))=true:=Tb p l
def yA:=A16 @Lp @mQ @vK @dN @vI @vD @Im @vC @Ad @Ac @Lh @mP @uX @rX @cY @UK
def Tg:=A3 fX eJ TW
theorem HF(l:List Sec)(hl: ∀s∈l,s.data.length≤4194304)(hn:l.length≤4194304):PC Tryz.prog 47 [.sl (l.map scV) .ro,.sl (l.map scV) .ro] (.im (.bool (true))):=by
 refine PC.enter 81 Tryz.func47 rfl (by decide) rfl rfl (s:=[(0,.sl (l.map scV) .ro),(1,.sl (l.map scV) .ro)]) (by rfl) ?_
 refine wG yA @List.length_map.{0,0} ?_
 refine aW ?_
 refine ALp.cutP 0 [(0,.sl (l.map scV) .ro),(1,.sl (l.map scV) .ro),(5,(.im (.int .i64 ((((0:Nat)):Int)))))] [] Tg ?_
 refine ALp.upto l.length (fun _=>True) (fun m=>⟨dn 81 [(0,.sl (l.map scV) .ro),(1,.sl (l.map scV) .ro),(5,(.im (.int .i64 ((((m:Nat)):Int)))))],ofl []⟩) ?_ 0 (Nat.zero_le _) trivial
 intro m hm hI hnext
 by_cases hlt:m<l.length
 ·have hlt':(m:Int)<(l.length:Int):=by omega
  have hg:=bJ hlt;have hm1:=aT hlt (by omega)
  have hc:PC Tryz.prog 99 [.sl (l[m].data.map fun b:UInt8=>V.im (.int .u8 b.toNat)) .ro,.sl (l[m].data.map fun b:UInt8=>V.im (.int .u8 b.toNat)) .ro] (.im (.bool (true))):=HH l[m].data (hl _ (List.getElem_mem hlt))
  refine wdG yA (A10 hlt' hg De yT Dc Db Dd yU @List.getElem?_map.{0,0} @Int.natCast_nonneg) ?_;refine AR.callP hc Df Tg ?_;refine goG yA TI ?_;refine wdG yA hm1 ?_;refine ALp.cutP 0 [(0,.sl (l.map scV) .ro),(1,.sl (l.map scV) .ro),(5,(.im (.int .i64 ((((m+1:Nat)):Int)))))] [] Tg ?_;exact hnext (m+1) (by omega) (by omega) trivial
 obtain rfl:m=l.length:=by omega
 clear hnext hI
 refine wG yA @Int.lt_irrefl ?_
 exact aD
end Go.Proofs.YtmbmmckagcdapaaGreatDoor
