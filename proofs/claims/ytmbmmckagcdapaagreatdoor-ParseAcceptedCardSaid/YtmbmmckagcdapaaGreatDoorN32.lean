import Derived.Test.YtmbmmckagcdapaaGreatDoorN11
import Derived.Test.YtmbmmckagcdapaaGreatDoorN30
import Derived.Test.YtmbmmckagcdapaaGreatDoorN21
import Derived.Test.YtmbmmckagcdapaaGreatDoorN19
import Derived.Test.YtmbmmckagcdapaaGreatDoorN14
import Derived.Test.YtmbmmckagcdapaaGreatDoorN18
set_option linter.all false
namespace Go.Proofs.YtmbmmckagcdapaaGreatDoor
open Go.RowKit
def Ke(k:Int):V:=if k=0 then .im .nilIface else .ifc
theorem KS(b:Nat)(s:Bs): ∀a,(puF b a s).2=0∨(puF b a s).2=1∨(puF b a s).2=2:=by
 induction s with
 | nil=>intro a;exact .inl rfl
 | cons c r ih =>
  intro a;unfold puF;split
  ·exact .inr (.inr rfl)
  ·split
   ·exact .inr (.inr rfl)
   ·split
    ·exact .inr (.inl rfl)
    ·exact ih _
theorem Ug(b:Nat)(s:Bs):(puR b s).2=0∨(puR b s).2=1∨(puR b s).2=2:=by
 unfold puR
 split
 ·exact .inr (.inr rfl)
 ·exact KS b s 0
theorem PD(s:Bs)(b:Int)(n k:Int)(hs:s.length≤4194304)(hk:k=0∨k=1∨k=2)(h:PC Tryz.prog 266 [.im (.string ⟨(s).toArray⟩),(.im (.int .i64 (b))),(.im (.int .i64 (32)))] (.tu [.im (.int .u64 (n)),GM k])):PC Tryz.prog 245 [.im (.string ⟨(s).toArray⟩),(.im (.int .i64 (b))),(.im (.int .i64 (32)))] (.tu [.im (.int .u64 (n)),Ke k]):=by
 refine PC.enter 26 Tryz.func245 rfl (by decide) rfl rfl (s:=[(0,.im (.string ⟨(s).toArray⟩)),(1,(.im (.int .i64 (b)))),(2,(.im (.int .i64 (32))))]) (by rfl) ?_
 rcases hk with rfl|hk
 ·rw[show GM 0= .im .nilIface from rfl]at h
  rw[show Ke 0= .im .nilIface from rfl]
  refine wG TI TI ?_;refine AR.callP h TI TI ?_;refine goG TI TI ?_;refine wG TI TI ?_;refine tZ true ?_;refine goG TI TI ?_;refine wG TI TI ?_;refine aI (rs:=[.tmp 6,.tmp 7]) rfl (by first|exact .inl rfl|exact .inr rfl) (finG TI) ?_
  all_goals exact wkG TI
 ·have h0:k≠0:=by omega
  rw[show GM k= .im (.iface 291 (.int .i64 k))from if_neg h0]at h
  rw[show Ke k= .ifc from if_neg h0]
  refine wG TI TI ?_;refine AR.callP h TI TI ?_;refine goG TI TI ?_;refine wG TI TI ?_;refine tZ false ?_;refine goG TI TI ?_;refine wG TI TI ?_;refine AR.callP ((MP k hk ⟨#[80,97,114,115,101,85,105,110,116]⟩ ⟨s.toArray⟩ b 32 (by show s.toArray.size≤_;simpa using hs))) TI TI ?_
  refine goG TI TI ?_;refine wG TI TI ?_;refine aI (rs:=[.tmp 6,.tmp 7]) rfl (by first|exact .inl rfl|exact .inr rfl) (finG TI) ?_
  all_goals exact wkG TI
theorem TL(s:Bs)(hs:s.length≤4194304):PC Tryz.prog 245 [.im (.string ⟨(s).toArray⟩),(.im (.int .i64 (10))),(.im (.int .i64 (32)))] (.tu [.im (.int .u64 (((puR 10 s).1:Int))),Ke (puR 10 s).2]):=PD s 10 _ _ hs (Ug 10 s) (TJ s hs)
theorem TK(s:Bs)(hs:s.length≤4194304):PC Tryz.prog 245 [.im (.string ⟨(s).toArray⟩),(.im (.int .i64 (16))),(.im (.int .i64 (32)))] (.tu [.im (.int .u64 (((puR 16 s).1:Int))),Ke (puR 16 s).2]):=PD s 16 _ _ hs (Ug 16 s) (TH s hs)
theorem EI(b:Nat)(s:Bs): ∀a,a≤4294967295→(puF b a s).1≤4294967295:=by
 induction s with
 | nil=>intro a h;exact h
 | cons c r ih =>
  intro a h;unfold puF;split
  ·exact Nat.zero_le _
  ·split
   ·exact Nat.zero_le _
   ·split
    ·exact Nat.le_refl _
    ·exact ih _ (by omega)
theorem EF(b:Nat)(s:Bs):(puR b s).1≤4294967295:=by
 unfold puR
 split
 ·exact Nat.zero_le _
 ·exact EI b s 0 (Nat.zero_le _)
def valR(w:Bs):Nat×Bool :=
 if pre [48,120] w then((puR 16 (w.drop 2)).1,decide ((puR 16 (w.drop 2)).2=0)&&(decide ((w.drop 2).length≤8)&& !Lib.containsAny (w.drop 2) [95,43,45]))
 else((puR 10 w).1,decide ((puR 10 w).2=0)&&((w==[48]||decide (w.head? ≠some 48))&& !Lib.containsAny w [95,43,45]))
theorem BQ{n:Nat}(h:n≤4294967295):IntKind.u32.wrap (n:Int)=n:=IntWalk.u32_in _ (by omega)
theorem Hz{p s:Bs}(h:pre p s=true):cutP p s=s.drop p.length:=if_pos h
theorem En{p s:Bs}(h:pre p s=false):cutP p s=s:=by unfold cutP;rw[h];rfl
def cO:=A5 @qL @sD @qK @rW @gV
set_option maxHeartbeats 1000000 in
theorem MO(w:Bs)(hw:w.length≤4194304)(ha: ∀c∈w,c.toNat<128):PC Tryz.prog 194 [.im (.string ⟨(w).toArray⟩)] (.tu [.im (.int .u32 (((valR w).1:Int))),(.im (.bool ((valR w).2)))]):=by
 have hp:=Pc w [48,120]
 cases hx:pre [48,120] w with
 | true =>
  rw[hx,Hz hx,show List.length ([48,120]:Bs)=2 from rfl]at hp
  obtain⟨x,ex⟩: ∃x,w.drop 2=x:=⟨_,rfl⟩
  have hxl:x.length≤4194304:=by rw[←ex,List.length_drop];omega
  have hxa: ∀c∈x,c.toNat<128:=fun c hc=>ha c (List.mem_of_mem_drop (ex▸hc))
  have hv:valR w=((puR 16 x).1,decide ((puR 16 x).2=0)&&(decide (x.length≤8)&& !Lib.containsAny x [95,43,45])):=by
   unfold valR;rw[hx,if_pos rfl,ex]
  have hq:=TK x hxl;have hn:=EF 16 x;have hc:=vS x hxl hxa;rw[ex]at hp;generalize puR 16 x=nk at hq hn hv;obtain⟨n,k⟩:=nk;have hwr:=BQ hn;simp only at hq hwr hv;rw[hv];generalize Lib.containsAny x [95,43,45]=b at hc;refine PC.enter 58 Tryz.func194 rfl (by decide) rfl rfl (s:=[(0,.im (.string ⟨(w).toArray⟩))]) (by rfl) ?_
  refine wG cO TI ?_;refine AR.callP hp TI aB ?_;refine goG cO TI ?_;refine wG cO TI ?_;refine AR.callP hq TI aB ?_
  by_cases hk:k=0
  ·subst hk
   rw[show Ke 0= .im .nilIface from rfl]
   refine goG cO TI ?_;refine wG cO hwr ?_;refine tZ true ?_
   by_cases h8:x.length≤8
   ·have h8i:(x.length:Int)≤8:=by omega
    refine goG cO (AI h8i dE) ?_;refine AR.callP hc TI aB ?_;refine goG cO TI ?_;rw[show(decide ((0:Int)=0)&&(decide (x.length≤8)&& !b))= !b by simp[h8]]
    refine wG cO TI ?_;refine aI (rs:=[.tmp 2,.tmp 3]) rfl (by first|exact .inl rfl|exact .inr rfl) (finG cO) ?_
    all_goals exact wkG aB
   ·have h8i: ¬(x.length:Int)≤8:=by omega
    refine goG cO (AI h8i dE) ?_;rw[show(decide ((0:Int)=0)&&(decide (x.length≤8)&& !b))=false by simp[h8]]
    refine wG cO TI ?_;refine aI (rs:=[.tmp 2,.tmp 3]) rfl (by first|exact .inl rfl|exact .inr rfl) (finG cO) ?_
    all_goals exact wkG aB
  ·rw[show Ke k= .ifc from if_neg hk]
   refine goG cO TI ?_;refine wG cO hwr ?_;refine tZ false ?_;refine goG cO TI ?_;rw[show(decide (k=0)&&(decide (x.length≤8)&& !b))=false by simp[hk]]
   refine wG cO TI ?_;refine aI (rs:=[.tmp 2,.tmp 3]) rfl (by first|exact .inl rfl|exact .inr rfl) (finG cO) ?_
   all_goals exact wkG aB
 | false =>
  rw[hx,En hx]at hp
  have hv:valR w=((puR 10 w).1,decide ((puR 10 w).2=0)&&((w==[48]||decide (w.head? ≠some 48))&& !Lib.containsAny w [95,43,45])):=by
   unfold valR;rw[hx];rfl
  have hq:=TL w hw;have hn:=EF 10 w;have hc:=vS w hw ha;have hne:w=[]→(puR 10 w).2=2:=fun h=>by rw[h];rfl
  generalize puR 10 w=nk at hq hn hv hne;obtain⟨n,k⟩:=nk;have hwr:=BQ hn;simp only at hq hwr hv hne;rw[hv];generalize Lib.containsAny w [95,43,45]=b at hc;refine PC.enter 58 Tryz.func194 rfl (by decide) rfl rfl (s:=[(0,.im (.string ⟨(w).toArray⟩))]) (by rfl) ?_
  refine wG cO TI ?_;refine AR.callP hp TI aB ?_;refine goG cO TI ?_;refine wG cO TI ?_;refine AR.callP hq TI aB ?_
  by_cases hk:k=0
  ·subst hk
   rw[show Ke 0= .im .nilIface from rfl]
   refine goG cO TI ?_;refine wG cO hwr ?_;refine tZ true ?_;cases he:(w==([48]:Bs))with
   | true =>
    refine goG cO (AI BY he) ?_;refine AR.callP hc TI aB ?_;refine goG cO TI ?_;rw[show(decide ((0:Int)=0)&&((true||decide (w.head? ≠some 48))&& !b))= !b by simp]
    refine wG cO TI ?_;refine aI (rs:=[.tmp 2,.tmp 3]) rfl (by first|exact .inl rfl|exact .inr rfl) (finG cO) ?_
    all_goals exact wkG aB
   | false =>
    cases w with
    | nil=>exact absurd (hne rfl) (by decide)
    | cons c r =>
     have g0:(c::r)[0]? =some c:=rfl
     by_cases h48:c.toNat=48
     ·have e:c=48:=toNat_inj h48
      subst e;have e48:(((48:UInt8).toNat:Nat):Int)=48:=rfl;refine goG cO (A4 BY he g0 e48) ?_;rw[show(decide ((0:Int)=0)&&((false||decide (((48:UInt8)::r).head? ≠some 48))&& !b))=false by simp]
      refine wG cO TI ?_;refine aI (rs:=[.tmp 2,.tmp 3]) rfl (by first|exact .inl rfl|exact .inr rfl) (finG cO) ?_
      all_goals exact wkG aB
     ·have e: ¬c=48:=fun h=>h48 (by rw[h];rfl)
      have h48i: ¬(c.toNat:Int)=48:=by omega
      refine goG cO (A4 BY he g0 h48i) ?_;refine AR.callP hc TI aB ?_;refine goG cO TI ?_;rw[show(decide ((0:Int)=0)&&((false||decide ((c::r).head? ≠some 48))&& !b))= !b by simp[e]]
      refine wG cO TI ?_;refine aI (rs:=[.tmp 2,.tmp 3]) rfl (by first|exact .inl rfl|exact .inr rfl) (finG cO) ?_
      all_goals exact wkG aB
  ·rw[show Ke k= .ifc from if_neg hk]
   refine goG cO TI ?_;refine wG cO hwr ?_;refine tZ false ?_;refine goG cO TI ?_;rw[show(decide (k=0)&&((w==[48]||decide (w.head? ≠some 48))&& !b))=false by simp[hk]]
   refine wG cO TI ?_;refine aI (rs:=[.tmp 2,.tmp 3]) rfl (by first|exact .inl rfl|exact .inr rfl) (finG cO) ?_
   all_goals exact wkG aB
def sQ(w:Bs):Tk×Bool:=if isK w then(⟨2,w,0,0,0⟩,true)else if w.head?.elim false isL then(⟨1,w,0,0,0⟩,decide (w.length≤32))else(⟨3,[],(valR w).1,0,0⟩,(valR w).2)
theorem LC(c:UInt8):ltr (c.toNat:Int)=isL c:=Jq c
def fA:=A9 @oL @jO @Wf @Lk @tW @gR @Wd @pT @gV
set_option maxHeartbeats 1000000 in
theorem MX(w:Bs)(hw:w.length≤4194304)(h0:w≠[])(ha: ∀c∈w,c.toNat<128):PC Tryz.prog 134 [.im (.string ⟨(w).toArray⟩)] (.tu [tkV (sQ w).1,(.im (.bool ((sQ w).2)))]):=by
 have hK:=AS w hw
 cases w with
 | nil=>exact absurd rfl h0
 | cons c r =>
 cases hx:isK (c::r)with
 | true =>
  rw[hx]at hK;rw[show sQ (c::r)=(⟨2,c::r,0,0,0⟩,true) by unfold sQ;rw[hx];rfl]
  refine PC.enter 29 Tryz.func134 rfl (by decide) rfl rfl (s:=[(0,.im (.string ⟨(c::r).toArray⟩))]) (by rfl) ?_
  refine wG fA TI ?_;refine AR.callP hK TI (AI aB aX) ?_;refine goG fA TI ?_;refine wG fA TI ?_;refine aI (rs:=[.cell 2 122,.tmp 3]) rfl (by first|exact .inl rfl|exact .inr rfl) (finG fA) ?_
  all_goals exact wkG (AI aB aX)
 | false =>
  rw[hx]at hK;have hL:=Et (c.toNat:Int);rw[LC]at hL;have g0:(c::r)[0]? =some c:=rfl
  have w32:IntKind.i32.wrap (c.toNat:Int)=c.toNat:=by
   have:=c.toNat_lt;exact IntWalk.i32_in _ (by omega)
  cases hl:isL c with
  | true =>
   rw[hl]at hL
   by_cases h32:(c::r).length≤32
   ·have e32:((r.length+1:Nat):Int)≤32:=by rw[List.length_cons]at h32;omega
    rw[show sQ (c::r)=(⟨1,c::r,0,0,0⟩,true) by unfold sQ;rw[hx,if_neg (by decide),if_pos (show(c::r).head?.elim false isL=true from hl),decide_eq_true h32]]
    refine PC.enter 29 Tryz.func134 rfl (by decide) rfl rfl (s:=[(0,.im (.string ⟨(c::r).toArray⟩))]) (by rfl) ?_
    refine wG fA TI ?_;refine AR.callP hK TI (AI aB aX) ?_;refine goG fA TI ?_;refine wG fA (A3 BY g0 w32) ?_;refine AR.callP hL TI (AI aB aX) ?_;refine goG fA TI ?_;refine wG fA (AI BY e32) ?_;refine aI (rs:=[.cell 2 122,.tmp 3]) rfl (by first|exact .inl rfl|exact .inr rfl) (finG fA) ?_
    all_goals exact wkG (AI aB aX)
   ·have e32: ¬((r.length+1:Nat):Int)≤32:=by rw[List.length_cons]at h32;omega
    rw[show sQ (c::r)=(⟨1,c::r,0,0,0⟩,false) by unfold sQ;rw[hx,if_neg (by decide),if_pos (show(c::r).head?.elim false isL=true from hl),decide_eq_false h32]]
    refine PC.enter 29 Tryz.func134 rfl (by decide) rfl rfl (s:=[(0,.im (.string ⟨(c::r).toArray⟩))]) (by rfl) ?_
    refine wG fA TI ?_;refine AR.callP hK TI (AI aB aX) ?_;refine goG fA TI ?_;refine wG fA (A3 BY g0 w32) ?_;refine AR.callP hL TI (AI aB aX) ?_;refine goG fA TI ?_;refine wG fA (AI BY e32) ?_;refine aI (rs:=[.cell 2 122,.tmp 3]) rfl (by first|exact .inl rfl|exact .inr rfl) (finG fA) ?_
    all_goals exact wkG (AI aB aX)
  | false =>
   rw[hl]at hL;rw[show sQ (c::r)=(⟨3,[],(valR (c::r)).1,0,0⟩,(valR (c::r)).2) by unfold sQ;rw[hx,if_neg (by decide),if_neg (show ¬(c::r).head?.elim false isL=true by rw[show(c::r).head?.elim false isL=isL c from rfl,hl];decide)]]
   have hV:=MO (c::r) hw ha;generalize valR (c::r)=v at hV;obtain⟨n,b⟩:=v;refine PC.enter 29 Tryz.func134 rfl (by decide) rfl rfl (s:=[(0,.im (.string ⟨(c::r).toArray⟩))]) (by rfl) ?_
   refine wG fA TI ?_;refine AR.callP hK TI (AI aB aX) ?_;refine goG fA TI ?_;refine wG fA (A3 BY g0 w32) ?_;refine AR.callP hL TI (AI aB aX) ?_;refine goG fA TI ?_;refine wG fA TI ?_;refine AR.callP hV TI (AI aB aX) ?_;refine goG fA TI ?_;refine wG fA TI ?_;refine aI (rs:=[.cell 2 122,.tmp 3]) rfl (by first|exact .inl rfl|exact .inr rfl) (finG fA) ?_
   all_goals exact wkG (AI aB aX)
def pM(s:Bs):UInt8×Nat:=match escP s with
 | some (c,n)=>(c,n)
 | none=>(0,0)
theorem Ho{c:UInt8}(h:hexv c=none):hexI c= -1:=by unfold hexI;rw[h]
theorem Hn{c:UInt8}{d:Nat}(h:hexv c=some d):hexI c=d:=by unfold hexI;rw[h]
theorem Uw{c:UInt8}{d:Nat}(h:hexv c=some d):d<16:=by
 unfold hexv at h
 split at h
 ·cases h;omega
 ·split at h
  ·cases h;omega
  ·split at h
   ·cases h;omega
   ·cases h
theorem hex2(x y:Nat)(hx:x<16)(hy:y<16):IntKind.u8.wrap (IntKind.i64.wrap ↑(BitVec.ofInt IntKind.i64.bits (IntKind.i64.wrap ((x:Int)*2^min 4 IntKind.i64.bits))|||BitVec.ofInt IntKind.i64.bits (y:Int)).toNat)=((UInt8.ofNat (16*x+y)).toNat:Int):=by
 have:=(show ∀x:_root_.Fin 16,∀y:_root_.Fin 16,IntKind.u8.wrap (IntKind.i64.wrap ↑(BitVec.ofInt IntKind.i64.bits (IntKind.i64.wrap (((x:Nat):Int)*2^min 4 IntKind.i64.bits))|||BitVec.ofInt IntKind.i64.bits ((y:Nat):Int)).toNat)=((UInt8.ofNat (16*(x:Nat)+(y:Nat))).toNat:Int) by decide +kernel) ⟨x,hx⟩ ⟨y,hy⟩
 exact this
def cX:=A5 @tX @Lk @tV @pT @gV
set_option maxHeartbeats 1000000 in
theorem HV(s:Bs)(hs:s.length≤4194304):PC Tryz.prog 195 [.im (.string ⟨(s).toArray⟩)] (.tu [.im (.int .u8 (((pM s).1.toNat:Int))),(.im (.int .i64 (((pM s).2:Int))))]):=by
 cases s with
 | nil =>
  rw[show pM []=(0,0)from rfl]
  have e0:(([]:Bs)==[])=true:=rfl;have e3: ¬(((0:Nat)):Int)≥3:=by decide
  have e4: ¬(0:Int)≥3:=by decide
  have e5:ByteArray.size ⟨#[]⟩=0:=rfl;refine PC.enter 49 Tryz.func195 rfl (by decide) rfl rfl (s:=[(0,.im (.string ⟨(([]:Bs)).toArray⟩))]) (by rfl) ?_
  refine wG cX (A3 BY e0 e3) ?_;refine wG cX (AI e4 e5) ?_;refine wG cX TI ?_;refine aI (rs:=[.tmp 2,.tmp 3]) rfl (by first|exact .inl rfl|exact .inr rfl) (finG cX) ?_
  all_goals exact wkG aB
 | cons c r =>
  have e0:((c::r)==([]:Bs))=false:=rfl;have g0:(c::r)[0]? =some c:=rfl
  by_cases h1:c.toNat=34
  ·have e1:(((34:UInt8).toNat:Nat):Int)=34:=rfl
   rw[show pM (c::r)=(c,1) by simp[pM,escP,h1]]
   obtain rfl:c=34:=toNat_inj h1;refine PC.enter 49 Tryz.func195 rfl (by decide) rfl rfl (s:=[(0,.im (.string ⟨((34:UInt8)::r).toArray⟩))]) (by rfl) ?_
   refine wG cX (A4 BY e0 g0 e1) ?_;refine aI (rs:=[.tmp 2,.tmp 3]) rfl (by first|exact .inl rfl|exact .inr rfl) (finG cX) ?_
   all_goals exact wkG aB
  have e1: ¬(c.toNat:Int)=34:=by omega
  by_cases h2:c.toNat=92
  ·have e2:(((92:UInt8).toNat:Nat):Int)=92:=rfl
   rw[show pM (c::r)=(c,1) by simp[pM,escP,h2]]
   obtain rfl:c=92:=toNat_inj h2;refine PC.enter 49 Tryz.func195 rfl (by decide) rfl rfl (s:=[(0,.im (.string ⟨((92:UInt8)::r).toArray⟩))]) (by rfl) ?_
   refine wG cX (A5 BY e0 g0 e1 e2) ?_;refine aI (rs:=[.tmp 2,.tmp 3]) rfl (by first|exact .inl rfl|exact .inr rfl) (finG cX) ?_
   all_goals exact wkG aB
  have e2: ¬(c.toNat:Int)=92:=by omega
  by_cases h3:c.toNat=120
  case neg =>
   have e3: ¬(c.toNat:Int)=120:=by omega
   rw[show pM (c::r)=(0,0) by simp[pM,escP,h1,h2,h3]]
   by_cases hl:2≤r.length
   ·have el:((r.length+1:Nat):Int)≥3:=by omega
    refine PC.enter 49 Tryz.func195 rfl (by decide) rfl rfl (s:=[(0,.im (.string ⟨(c::r).toArray⟩))]) (by rfl) ?_
    refine wG cX (A7 BY e0 g0 e1 e2 e3 el) ?_;refine aI (rs:=[.tmp 2,.tmp 3]) rfl (by first|exact .inl rfl|exact .inr rfl) (finG cX) ?_
    all_goals exact wkG aB
   ·have el: ¬((r.length+1:Nat):Int)≥3:=by omega
    refine PC.enter 49 Tryz.func195 rfl (by decide) rfl rfl (s:=[(0,.im (.string ⟨(c::r).toArray⟩))]) (by rfl) ?_
    refine wG cX (A7 BY e0 g0 e1 e2 e3 el) ?_;refine aI (rs:=[.tmp 2,.tmp 3]) rfl (by first|exact .inl rfl|exact .inr rfl) (finG cX) ?_
    all_goals exact wkG aB
  have e3:(c.toNat:Int)=120:=by omega
  have hR:escP (c::r)=Gg r:=by simp[escP,h1,h2,h3]
  by_cases hl:2≤r.length
  case neg =>
   have el: ¬((r.length+1:Nat):Int)≥3:=by omega
   rw[show pM (c::r)=(0,0) by
    unfold pM;rw[hR]
    match r with
    | []=>rfl
    | [_]=>rfl
    | _::_::_=>simp at hl]
   refine PC.enter 49 Tryz.func195 rfl (by decide) rfl rfl (s:=[(0,.im (.string ⟨(c::r).toArray⟩))]) (by rfl) ?_
   refine wG cX (A7 BY e0 g0 e1 e2 e3 el) ?_;refine aI (rs:=[.tmp 2,.tmp 3]) rfl (by first|exact .inl rfl|exact .inr rfl) (finG cX) ?_
   all_goals exact wkG aB
  match r with
  | []=>simp at hl
  | [_]=>simp at hl
  | a::b::t =>
  have el:((t.length+1+1+1:Nat):Int)≥3:=by omega
  have g1:(c::a::b::t)[1]? =some a:=rfl;have g2:(c::a::b::t)[2]? =some b:=rfl;have q1:=Ew a;have q2:=Ew b;cases ha:hexv a with
  | none =>
   rw[Ho ha]at q1;rw[show pM (c::a::b::t)=(0,0) by simp[pM,hR,Gg,ha]]
   have f1: ¬(-1:Int)≥0:=by decide
   refine PC.enter 49 Tryz.func195 rfl (by decide) rfl rfl (s:=[(0,.im (.string ⟨(c::a::b::t).toArray⟩))]) (by rfl) ?_
   refine wG cX (A8 BY e0 g0 e1 e2 e3 el g1) ?_;refine AR.callP q1 TI aB ?_;refine goG cX f1 ?_;refine wG cX f1 ?_;refine aI (rs:=[.tmp 2,.tmp 3]) rfl (by first|exact .inl rfl|exact .inr rfl) (finG cX) ?_
   all_goals exact wkG aB
  | some x =>
  rw[Hn ha]at q1;have hx:=Uw ha;have f1:(x:Int)≥0:=by omega
  cases hb:hexv b with
  | none =>
   rw[Ho hb]at q2;rw[show pM (c::a::b::t)=(0,0) by simp[pM,hR,Gg,ha,hb]]
   have f2: ¬(-1:Int)≥0:=by decide
   refine PC.enter 49 Tryz.func195 rfl (by decide) rfl rfl (s:=[(0,.im (.string ⟨(c::a::b::t).toArray⟩))]) (by rfl) ?_
   refine wG cX (A8 BY e0 g0 e1 e2 e3 el g1) ?_;refine AR.callP q1 TI aB ?_;refine goG cX (A3 BY f1 g2) ?_;refine AR.callP q2 TI aB ?_;refine goG cX f2 ?_;refine wG cX f2 ?_;refine aI (rs:=[.tmp 2,.tmp 3]) rfl (by first|exact .inl rfl|exact .inr rfl) (finG cX) ?_
   all_goals exact wkG aB
  | some y =>
   rw[Hn hb]at q2;have hy:=Uw hb;have f2:(y:Int)≥0:=by omega
   have f3:=hex2 x y hx hy;rw[show pM (c::a::b::t)=(UInt8.ofNat (16*x+y),3) by simp[pM,hR,Gg,ha,hb]]
   refine PC.enter 49 Tryz.func195 rfl (by decide) rfl rfl (s:=[(0,.im (.string ⟨(c::a::b::t).toArray⟩))]) (by rfl) ?_
   refine wG cX (A8 BY e0 g0 e1 e2 e3 el g1) ?_;refine AR.callP q1 TI aB ?_;refine goG cX (A3 BY f1 g2) ?_;refine AR.callP q2 TI aB ?_;refine goG cX f2 ?_;refine wG cX f2 ?_;refine wdG cX (AI BY g1) ?_;refine AR.callP q1 TI aB ?_;refine goG cX (AI BY g2) ?_;refine AR.callP q2 TI aB ?_;refine goG cX f3 ?_;refine wdG cX TI ?_;refine aI (rs:=[.tmp 2,.tmp 3]) rfl (by first|exact .inl rfl|exact .inr rfl) (finG cX) ?_
   all_goals exact wkG aB
def quoR(r:Bs):Bs×Nat×Bool:=match quoP r with
 | some (t,m)=>(t,m+1,true)
 | none=>([],0,false)
theorem Zd{s:Bs}(h:escP s=none):pM s=(0,0):=by unfold pM;rw[h]
theorem Zc{s:Bs}{x:UInt8}{n:Nat}(h:escP s=some (x,n)):pM s=(x,n):=by unfold pM;rw[h]
theorem nK{r:Bs}(h:quoP r=none):quoR r=([],0,false):=by unfold quoR;rw[h]
theorem yX{r t:Bs}{m:Nat}(h:quoP r=some (t,m)):quoR r=(t,m+1,true):=by unfold quoR;rw[h]
def fZ:=A9 @Fu @Ft @lI @sC @wN @rZ @pT @rV @gV
set_option maxHeartbeats 2000000 in
theorem HI(s:Bs)(hs:s.length≤4194304)(h0:s≠[]):PC Tryz.prog 135 [.im (.string ⟨(s).toArray⟩)] (.tu [.im (.string ⟨((quoR (s.drop 1)).1).toArray⟩),(.im (.int .i64 (((quoR (s.drop 1)).2.1:Int)))),(.im (.bool ((quoR (s.drop 1)).2.2)))]):=by
 have hpos:1≤s.length:=by cases s with
  | nil=>exact absurd rfl h0
  | cons c r=>simp
 refine PC.enter 57 Tryz.func135 rfl (by decide) rfl rfl (s:=[(0,.im (.string ⟨(s).toArray⟩))]) (by rfl) ?_
 refine wG fZ TI ?_
 refine aW ?_
 refine ALp.ghost 5 [] .nl 5 1 ?_
 suffices H: ∀(k m:Nat) (A:Bs),s.length-m=k→1≤m→m≤s.length→A.length≤m→(quoP (s.drop 1)=(quoP (s.drop m)).map fun p=>(A++p.1,p.2+(m-1)))→ALp _ _ _ _ _ ⟨dn 57 [(0,.im (.string ⟨(s).toArray⟩)),(5,.sl (A.map byB) (.own 0)),(6,(.im (.int .i64 ((((m:Nat)):Int)))))],ofl [.tip 5 1 A.length]⟩ by
  refine ALp.cutP 1 [(0,.im (.string ⟨(s).toArray⟩)),(5,.sl (([]:Bs).map byB) (.own 0)),(6,(.im (.int .i64 ((((1:Nat)):Int)))))] [.tip 5 1 ([]:Bs).length] aB ?_;exact H _ 1 [] rfl (Nat.le_refl _) hpos (Nat.zero_le _) (by cases quoP (s.drop 1)<;>simp)
 intro k
 induction k using Nat.strongRecOn with
 | _ k ih =>
 intro m A hk hm1 hml hA hq
 refine dA ?_
 by_cases hlt:m<s.length
 case neg =>
  obtain rfl:m=s.length:=by omega
  have hn: ¬(s.length:Int)<(s.length:Int):=by omega
  rw[nK (r:=s.drop 1) (by rw[hq,List.drop_length];rfl)]
  clear ih;refine wG fZ (A3 BY hn dE) ?_;refine aI (rs:=[.tmp 2,.tmp 3,.tmp 4]) rfl (by first|exact .inl rfl|exact .inr rfl) (finG fZ) ?_
  all_goals exact wkG aB
 have hlt':(m:Int)<(s.length:Int):=by omega
 have hw1:=aT hlt (by omega)
 have hg:s[m]? =some s[m]:=List.getElem?_eq_getElem hlt
 have hd:s.drop m=s[m]::s.drop (m+1):=List.drop_eq_getElem_cons hlt
 generalize s[m]=c at hg hd
 rw[hd,lQ]at hq
 by_cases h34:c.toNat=34
 ·have e1:(c.toNat:Int)=34:=by omega
  rw[if_pos h34]at hq;rw[yX (r:=s.drop 1) (t:=A) (m:=m) (by rw[hq];simp;omega)]
  have hb:=mT A;clear ih;refine wG fZ (A7 BY hlt' dE hg e1 hb hw1) ?_;refine aI (rs:=[.tmp 2,.tmp 3,.tmp 4]) rfl (by first|exact .inl rfl|exact .inr rfl) (finG fZ) ?_
  all_goals exact wkG aB
 have e1: ¬(c.toNat:Int)=34:=by omega
 rw[if_neg h34]at hq
 by_cases h92:c.toNat=92
 ·have e2:(c.toNat:Int)=92:=by omega
  rw[if_pos h92]at hq;have hsl:(s.drop (m+1)).take (s.length-(m+1))=s.drop (m+1):=List.take_of_length_le (by rw[List.length_drop];omega)
  have hle:((m+1:Nat):Int)≤(s.length:Int):=by omega
  have qe:=HV (s.drop (m+1)) (by rw[List.length_drop];omega)
  cases he:escP (s.drop (m+1))with
  | none =>
   rw[Zd he]at qe;rw[he]at hq;rw[nK (r:=s.drop 1) (by rw[hq];rfl)]
   clear ih;refine wG fZ (A10 BY GDS hlt' dE hg e1 e2 hw1 hle hsl) ?_;refine AR.callP qe TI aB ?_;refine goG fZ TI ?_;refine wG fZ TI ?_;refine aI (rs:=[.tmp 2,.tmp 3,.tmp 4]) rfl (by first|exact .inl rfl|exact .inr rfl) (finG fZ) ?_
   all_goals exact wkG aB
  | some xn =>
  obtain⟨x,n⟩:=xn;rw[Zc he]at qe;have hn:=xS he;rw[List.length_drop]at hn;rw[he]at hq;have hn0: ¬(n:Int)=0:=by omega
  have hw2:IntKind.i64.wrap ((m:Int)+(n:Int))=((m+n:Nat):Int):=by rw[dL (by omega)];omega
  have hw3:IntKind.i64.wrap (((m+n:Nat):Int)+1)=((m+n+1:Nat):Int):=by rw[dL (by omega)];omega
  obtain⟨B,hB⟩: ∃B,B=A++[x]:=⟨_,rfl⟩
  have hAs:A.map byB++[V.im (.int .u8 x.toNat)]=B.map byB:=by rw[hB,List.map_append];rfl
  have hAl:A.length+1=B.length:=by rw[hB];simp
  have hbl:B.length≤140737488355328:=by omega
  have hI:=ih (s.length-(m+n+1)) (by omega) (m+n+1) B rfl (by omega) (by omega) (by omega) (by
   rw[hq];dsimp only;rw[List.drop_drop,show m+1+n=m+n+1 by omega,hB]
   cases quoP (s.drop (m+n+1))with
   | none=>rfl
   | some p=>obtain⟨t,k⟩:=p;simp;omega)
  clear ih hB;refine wG fZ (A10 BY GDS hlt' dE hg e1 e2 hw1 hle hsl) ?_;refine AR.callP qe TI aB ?_;refine goG fZ TI ?_;refine wG fZ (A8 hn0 hAs hAl hbl hw2 hw3 @List.length_map.{0,0} @Nat.mul_one) ?_;refine ALp.cutP 1 [(0,.im (.string ⟨(s).toArray⟩)),(5,.sl (B.map byB) (.own 0)),(6,(.im (.int .i64 ((((m+n+1:Nat)):Int)))))] [.tip 5 1 B.length] aB ?_;exact hI
 have e2: ¬(c.toNat:Int)=92:=by omega
 rw[if_neg h92]at hq
 by_cases hlo:c.toNat<32
 ·have e3:(c.toNat:Int)<32:=by omega
  rw[if_pos (.inl hlo)]at hq;rw[nK (r:=s.drop 1) (by rw[hq];rfl)]
  clear ih;refine wG fZ (A7 BY hlt' dE hg e1 e2 e3) ?_;refine aI (rs:=[.tmp 2,.tmp 3,.tmp 4]) rfl (by first|exact .inl rfl|exact .inr rfl) (finG fZ) ?_
  all_goals exact wkG aB
 have e3: ¬(c.toNat:Int)<32:=by omega
 by_cases hhi:126<c.toNat
 ·have e4:(c.toNat:Int)>126:=by omega
  rw[if_pos (.inr hhi)]at hq;rw[nK (r:=s.drop 1) (by rw[hq];rfl)]
  clear ih;refine wG fZ (A8 BY hlt' dE hg e1 e2 e3 e4) ?_;refine aI (rs:=[.tmp 2,.tmp 3,.tmp 4]) rfl (by first|exact .inl rfl|exact .inr rfl) (finG fZ) ?_
  all_goals exact wkG aB
 have e4: ¬(c.toNat:Int)>126:=by omega
 rw[if_neg (by omega)]at hq
 obtain⟨B,hB⟩: ∃B,B=A++[c]:=⟨_,rfl⟩
 have hAs:A.map byB++[V.im (.int .u8 c.toNat)]=B.map byB:=by rw[hB,List.map_append];rfl
 have hAl:A.length+1=B.length:=by rw[hB];simp
 have hbl:B.length≤140737488355328:=by omega
 have hI:=ih (s.length-(m+1)) (by omega) (m+1) B rfl (by omega) (by omega) (by omega) (by
  rw[hq,hB];cases quoP (s.drop (m+1))with
  | none=>rfl
  | some p=>obtain⟨t,n⟩:=p;simp;omega)
 clear ih hB
 refine wG fZ (A14 BY hlt' dE hg e1 e2 e3 e4 hAs hAl hbl hw1 @List.length_map.{0,0} @Nat.mul_one) ?_
 refine ALp.cutP 1 [(0,.im (.string ⟨(s).toArray⟩)),(5,.sl (B.map byB) (.own 0)),(6,(.im (.int .i64 ((((m+1:Nat)):Int)))))] [.tip 5 1 B.length] aB ?_
 exact hI
def symR(s:Bs):Bs×Bool:=match symP s with
 | some op=>(op,true)
 | none=>(s.take 1,false)
def tst(p s:Bs):Bool:=pre p s&&nW (s.drop p.length)
def L1V:List V:=[.im (.string ⟨(([62,62,115]:Bs)).toArray⟩),.im (.string ⟨(([60,115]:Bs)).toArray⟩)]
def L2V:List V:=[.im (.string ⟨(([61,61]:Bs)).toArray⟩),.im (.string ⟨(([33,61]:Bs)).toArray⟩),.im (.string ⟨(([60,60]:Bs)).toArray⟩),.im (.string ⟨(([62,62]:Bs)).toArray⟩)]
theorem NX{m:Nat}(h:m<2): ∃p:Bs,L1V[m]? =some (.im (.string ⟨(p).toArray⟩))∧(m=0∧p=[62,62,115]∨m=1∧p=[60,115]):=by
 rcases(show m=0∨m=1 by omega)with rfl|rfl
 ·exact⟨[62,62,115],rfl,.inl ⟨rfl,rfl⟩⟩
 ·exact⟨[60,115],rfl,.inr ⟨rfl,rfl⟩⟩
theorem NW{m:Nat}(h:m<4): ∃p:Bs,L2V[m]? =some (.im (.string ⟨(p).toArray⟩))∧(m=0∧p=[61,61]∨m=1∧p=[33,61]∨m=2∧p=[60,60]∨m=3∧p=[62,62]):=by
 rcases(show m=0∨m=1∨m=2∨m=3 by omega)with rfl|rfl|rfl|rfl
 ·exact⟨[61,61],rfl,.inl ⟨rfl,rfl⟩⟩
 ·exact⟨[33,61],rfl,.inr (.inl ⟨rfl,rfl⟩)⟩
 ·exact⟨[60,60],rfl,.inr (.inr (.inl ⟨rfl,rfl⟩))⟩
 ·exact⟨[62,62],rfl,.inr (.inr (.inr ⟨rfl,rfl⟩))⟩
theorem UI:[V.im (.string ⟨#[62,62,115]⟩),V.im (.string ⟨#[60,115]⟩)]=L1V:=rfl
theorem UH:[V.im (.string ⟨#[61,61]⟩),V.im (.string ⟨#[33,61]⟩),V.im (.string ⟨#[60,60]⟩),V.im (.string ⟨#[62,62]⟩)]=L2V:=rfl
theorem wK:L1V.length=2:=rfl
theorem Fj:L2V.length=4:=rfl
theorem PS{s p:Bs}{m:Nat}(hm:m=0∧p=[62,62,115]∨m=1∧p=[60,115])(h0:1≤m→tst [62,62,115] s=false)(h:tst p s=true):symR s=(p,true):=by
 unfold symR symP
 rcases hm with ⟨rfl,rfl⟩|⟨rfl,rfl⟩
 ·rw[if_pos (show(pre [62,62,115] s&&nW (s.drop 3))=true from h)]
 ·have:=h0 (Nat.le_refl _)
  rw[if_neg (show ¬(pre [62,62,115] s&&nW (s.drop 3))=true by rw[show(pre [62,62,115] s&&nW (s.drop 3))=false from this];decide),if_pos (show(pre [60,115] s&&nW (s.drop 2))=true from h)]
theorem BX{s:Bs}(h1:tst [62,62,115] s=false)(h2:tst [60,115] s=false):symP s=if pre [61,61] s then some [61,61]
  else if pre [33,61] s then some [33,61]
  else if pre [60,60] s then some [60,60]
  else if pre [62,62] s then some [62,62]
  else match s with
   | []=>none
   | c::_=>if ops1.contains c then some [c]else none:=by
 unfold symP
 rw[if_neg (show ¬(pre [62,62,115] s&&nW (s.drop 3))=true by rw[show(pre [62,62,115] s&&nW (s.drop 3))=false from h1];decide),if_neg (show ¬(pre [60,115] s&&nW (s.drop 2))=true by rw[show(pre [60,115] s&&nW (s.drop 2))=false from h2];decide)]
 cases s<;>rfl
theorem PR{s p:Bs}{m:Nat}(h1:tst [62,62,115] s=false)(h2:tst [60,115] s=false)(hm:m=0∧p=[61,61]∨m=1∧p=[33,61]∨m=2∧p=[60,60]∨m=3∧p=[62,62])
  (hI:(1≤m→pre [61,61] s=false)∧(2≤m→pre [33,61] s=false)∧(3≤m→pre [60,60] s=false)) (h:pre p s=true):symR s=(p,true):=by
 unfold symR
 rw[BX h1 h2]
 obtain⟨i1,i2,i3⟩:=hI
 rcases hm with ⟨rfl,rfl⟩|⟨rfl,rfl⟩|⟨rfl,rfl⟩|⟨rfl,rfl⟩
 ·simp[h]
 ·simp[h,i1 (by omega)]
 ·simp[h,i1 (by omega),i2 (by omega)]
 ·simp[h,i1 (by omega),i2 (by omega),i3 (by omega)]
theorem PP{c:UInt8}{r:Bs}(h1:tst [62,62,115] (c::r)=false)(h2:tst [60,115] (c::r)=false)(h3:pre [61,61] (c::r)=false)(h4:pre [33,61] (c::r)=false)(h5:pre [60,60] (c::r)=false)(h6:pre [62,62] (c::r)=false):symR (c::r)=([c],ops1.contains c):=by
 unfold symR
 rw[BX h1 h2,h3,h4,h5,h6]
 simp only[Bool.false_eq_true,if_false]
 cases h:ops1.contains c<;>simp
def cV:=A9 @dN @lL @iW @Wf @Lk @cY @Wd @pT @gV
set_option maxHeartbeats 2000000 in
theorem HB(s:Bs)(hs:s.length≤4194304)(h0:s≠[]):PC Tryz.prog 136 [.im (.string ⟨(s).toArray⟩)] (.tu [.im (.string ⟨((symR s).1).toArray⟩),(.im (.bool ((symR s).2)))]):=by
 refine PC.enter 59 Tryz.func136 rfl (by decide) rfl rfl (s:=[(0,.im (.string ⟨(s).toArray⟩))]) (by rfl) ?_
 refine wG cV (AI UI wK) ?_
 refine aW ?_
 refine ALp.cutP 0 [(0,.im (.string ⟨(s).toArray⟩)),(2,.im (.string ⟨(([]:Bs)).toArray⟩)),(3,(.im (.bool (false)))),(10,.sl L1V .full),(11,(.im (.int .i64 (2)))),(12,(.im (.int .i64 ((((0:Nat)):Int)))))] [] aB ?_
 refine ALp.upto 2 (fun m=>(1≤m→tst [62,62,115] s=false)∧(2≤m→tst [60,115] s=false)) (fun m=>⟨dn 59 [(0,.im (.string ⟨(s).toArray⟩)),(2,.im (.string ⟨(([]:Bs)).toArray⟩)),(3,(.im (.bool (false)))),(10,.sl L1V .full),(11,(.im (.int .i64 (2)))),(12,(.im (.int .i64 ((((m:Nat)):Int)))))],ofl []⟩) ?_ 0 (Nat.zero_le _) ⟨fun h=>by omega,fun h=>by omega⟩
 intro m hm hI hnext
 by_cases hlt:m<2
 case neg =>
  obtain rfl:m=2:=by omega
  clear hnext;have hn: ¬(2:Int)<2:=by omega
  refine wG cV (A3 hn UH Fj) ?_;refine aW ?_;refine ALp.cutP 0 [(0,.im (.string ⟨(s).toArray⟩)),(2,.im (.string ⟨(([]:Bs)).toArray⟩)),(3,(.im (.bool (false)))),(43,.sl L2V .full),(44,(.im (.int .i64 (4)))),(45,(.im (.int .i64 ((((0:Nat)):Int)))))] [] aB ?_;obtain⟨h1,h2⟩:tst [62,62,115] s=false∧tst [60,115] s=false:=⟨hI.1 (by omega),hI.2 (by omega)⟩
  clear hI hm hlt;refine ALp.upto 4 (fun m=>(1≤m→pre [61,61] s=false)∧(2≤m→pre [33,61] s=false)∧(3≤m→pre [60,60] s=false)∧(4≤m→pre [62,62] s=false)) (fun m=>⟨dn 59 [(0,.im (.string ⟨(s).toArray⟩)),(2,.im (.string ⟨(([]:Bs)).toArray⟩)),(3,(.im (.bool (false)))),(43,.sl L2V .full),(44,(.im (.int .i64 (4)))),(45,(.im (.int .i64 ((((m:Nat)):Int)))))],ofl []⟩) ?_ 0 (Nat.zero_le _) ⟨fun h=>by omega,fun h=>by omega,fun h=>by omega,fun h=>by omega⟩
  intro m hm hI hnext
  by_cases hlt:m<4
  case neg =>
   obtain rfl:m=4:=by omega
   clear hnext;have hn: ¬(4:Int)<4:=by omega
   cases s with
   | nil=>exact absurd rfl h0
   | cons c r =>
   rw[PP h1 h2 (hI.1 (by omega)) (hI.2.1 (by omega)) (hI.2.2.1 (by omega)) (hI.2.2.2 (by omega))]
   have q:=oA ⟨#[40,41,123,125,91,93,44,59,58,63,61,43,45,42,38,124,94,33,60]⟩ ⟨#[c]⟩ (of_decide_eq_true (by kernel_rfl))
   rw[show Lib.contains (ByteArray.mk #[40,41,123,125,91,93,44,59,58,63,61,43,45,42,38,124,94,33,60]).data.toList (ByteArray.mk #[c]).data.toList=ops1.contains c from xV ops1 c]at q
   generalize ops1.contains c=b at q;have hle:(1:Int)≤((r.length+1:Nat):Int):=by omega
   refine wG cV hn ?_;refine wdG cV (A4 BY GDS dE hle) ?_;refine AR.callP q TI aB ?_;refine goG cV TI ?_;refine wdG cV TI ?_;refine aI (rs:=[.tmp 2,.tmp 3]) rfl (by first|exact .inl rfl|exact .inr rfl) (finG cV) ?_
   all_goals exact wkG aB
  have hlt':(m:Int)<4:=by omega
  have hw1:=aT hlt (by omega)
  obtain⟨p,hg,hp⟩:=NW hlt;have hY:pre p s=true→symR s=(p,true):=fun h=>PR h1 h2 hp ⟨hI.1,hI.2.1,hI.2.2.1⟩ h
  have hN:pre p s=false→_:=fun h=>hnext (m+1) (by omega) (by omega) (by
   obtain⟨i1,i2,i3,i4⟩:=hI;rcases hp with ⟨rfl,rfl⟩|⟨rfl,rfl⟩|⟨rfl,rfl⟩|⟨rfl,rfl⟩
   ·exact⟨fun _=>h,fun h=>by omega,fun h=>by omega,fun h=>by omega⟩
   ·exact⟨fun _=>i1 (by omega),fun _=>h,fun h=>by omega,fun h=>by omega⟩
   ·exact⟨fun _=>i1 (by omega),fun _=>i2 (by omega),fun _=>h,fun h=>by omega⟩
   ·exact⟨fun _=>i1 (by omega),fun _=>i2 (by omega),fun _=>i3 (by omega),fun _=>h⟩)
  have q:=Pa s p;clear hnext hI hp;refine wG cV (A4 BY hlt' hg Fj) ?_;cases b1:pre p s with
  | true =>
   rw[b1]at q;rw[hY b1];clear hN;refine AR.callP q TI aB ?_;refine goG cV TI ?_;refine wG cV TI ?_;refine aI (rs:=[.tmp 2,.tmp 3]) rfl (by first|exact .inl rfl|exact .inr rfl) (finG cV) ?_
   all_goals exact wkG aB
  | false =>
   rw[b1]at q;have hN:=hN b1;refine AR.callP q TI aB ?_;refine goG cV TI ?_;refine wG cV hw1 ?_;refine ALp.cutP 0 [(0,.im (.string ⟨(s).toArray⟩)),(2,.im (.string ⟨(([]:Bs)).toArray⟩)),(3,(.im (.bool (false)))),(43,.sl L2V .full),(44,(.im (.int .i64 (4)))),(45,(.im (.int .i64 ((((m+1:Nat)):Int)))))] [] aB ?_;exact hN
 have hlt':(m:Int)<2:=by omega
 have hw1:=aT hlt (by omega)
 obtain⟨p,hg,hp⟩:=NX hlt
 have hI2:tst p s=false→(1≤m+1→tst [62,62,115] s=false)∧(2≤m+1→tst [60,115] s=false):=fun h=>by
  rcases hp with ⟨rfl,rfl⟩|⟨rfl,rfl⟩
  ·exact⟨fun _=>h,fun h=>by omega⟩
  ·exact⟨fun _=>hI.1 (Nat.le_refl _),fun _=>h⟩
 have hY:tst p s=true→symR s=(p,true):=fun h=>PS hp hI.1 h
 have hN:=fun h=>hnext (m+1) (by omega) (by omega) (hI2 h)
 clear hnext hI2 hp hI
 have qc:=Pc s p
 cases b1:pre p s with
 | false =>
  have hN:=hN (by unfold tst;rw[b1];rfl)
  rw[b1,En b1]at qc;refine wG cV (A4 BY hlt' hg wK) ?_;refine AR.callP qc TI aB ?_;refine goG cV TI ?_;refine wG cV hw1 ?_;refine ALp.cutP 0 [(0,.im (.string ⟨(s).toArray⟩)),(2,.im (.string ⟨(([]:Bs)).toArray⟩)),(3,(.im (.bool (false)))),(10,.sl L1V .full),(11,(.im (.int .i64 (2)))),(12,(.im (.int .i64 ((((m+1:Nat)):Int)))))] [] aB ?_;exact hN
 | true =>
 rw[b1,Hz b1]at qc
 unfold tst at hN hY
 rw[b1,Bool.true_and]at hN hY
 generalize s.drop p.length=x at qc hN hY
 refine wG cV (A4 BY hlt' hg wK) ?_
 refine AR.callP qc TI aB ?_
 refine goG cV TI ?_
 cases x with
 | nil =>
  have e0:(([]:Bs)==[])=true:=rfl;rw[hY rfl];clear hN;refine wG cV (AI BY e0) ?_;refine aI (rs:=[.tmp 2,.tmp 3]) rfl (by first|exact .inl rfl|exact .inr rfl) (finG cV) ?_
  all_goals exact wkG aB
 | cons d y =>
 have e0:((d::y)==([]:Bs))=false:=rfl
 have g0:(d::y)[0]? =some d:=rfl
 have w32:IntKind.i32.wrap (d.toNat:Int)=d.toNat:=by
  have:=d.toNat_lt;exact IntWalk.i32_in _ (by omega)
 have hW:nW (d::y)= !(isL d||isD d):=rfl
 have q1:=Et (d.toNat:Int)
 have q2:=Vp (d.toNat:Int)
 rw[Jq]at q1
 rw[Ve]at q2
 refine wG cV (A4 BY e0 g0 w32) ?_
 cases b2:isL d with
 | true =>
  rw[b2]at q1;have hN:=hN (by rw[hW,b2];rfl)
  refine AR.callP q1 TI aB ?_;refine goG cV TI ?_;refine wG cV hw1 ?_;refine ALp.cutP 0 [(0,.im (.string ⟨(s).toArray⟩)),(2,.im (.string ⟨(([]:Bs)).toArray⟩)),(3,(.im (.bool (false)))),(10,.sl L1V .full),(11,(.im (.int .i64 (2)))),(12,(.im (.int .i64 ((((m+1:Nat)):Int)))))] [] aB ?_;exact hN
 | false =>
 rw[b2]at q1
 refine AR.callP q1 TI aB ?_
 refine goG cV (A3 BY g0 w32) ?_
 cases b3:isD d with
 | true =>
  rw[b3]at q2;have hN:=hN (by rw[hW,b2,b3];rfl)
  refine AR.callP q2 TI aB ?_;refine goG cV TI ?_;refine wG cV hw1 ?_;refine ALp.cutP 0 [(0,.im (.string ⟨(s).toArray⟩)),(2,.im (.string ⟨(([]:Bs)).toArray⟩)),(3,(.im (.bool (false)))),(10,.sl L1V .full),(11,(.im (.int .i64 (2)))),(12,(.im (.int .i64 ((((m+1:Nat)):Int)))))] [] aB ?_;exact hN
 | false =>
  rw[b3]at q2;rw[hY (by rw[hW,b2,b3];rfl)]
  clear hN;refine AR.callP q2 TI aB ?_;refine goG cV TI ?_;refine wG cV TI ?_;refine aI (rs:=[.tmp 2,.tmp 3]) rfl (by first|exact .inl rfl|exact .inr rfl) (finG cV) ?_
  all_goals exact wkG aB
def nxtR(s:Bs):Tk×Nat×Bool :=
 if 0<(s.takeWhile isW).length then((sQ (s.takeWhile isW)).1,(s.takeWhile isW).length,(sQ (s.takeWhile isW)).2)
 else if s.head? =some 34 then(⟨4,(quoR (s.drop 1)).1,0,0,0⟩,(quoR (s.drop 1)).2.1,(quoR (s.drop 1)).2.2)
 else(⟨5,(symR s).1,0,0,0⟩,(symR s).1.length,(symR s).2)
theorem RS{c:UInt8}(h:isW c=true):c.toNat<128:=by
 have:=nO (fun c=> !isW c||decide (c.toNat<128)) (by decide +kernel) c
 rw[h]at this
 simpa using this
def gS:=A8 @oL @dN @jO @mF @tW @gR @cY @gV
set_option maxHeartbeats 2000000 in
theorem TN(s:Bs)(p:Int×Int)(ts:List Tk)(hs:s.length≤4194304)(h0:s≠[]):DC Tryz.prog 68 [.pt 0 0] [.box [.im (.string ⟨(s).toArray⟩),(.im (.int .i64 (p.1))),(.im (.int .i64 (p.2))),.sl (ts.map tkV) (.mine 1)],.tip 122 5 ts.length] (.tu [tkV (nxtR s).1,(.im (.int .i64 (((nxtR s).2.1:Int)))),(.im (.bool ((nxtR s).2.2)))]) [.box [.im (.string ⟨(s).toArray⟩),(.im (.int .i64 (p.1))),(.im (.int .i64 (p.2))),.sl (ts.map tkV) (.mine 1)],.tip 122 5 ts.length]:=by
 have qw:=TD s p ts
 have htk:(s.takeWhile isW).length≤s.length:=(List.takeWhile_prefix isW).length_le
 have hpre:s.take (s.takeWhile isW).length=s.takeWhile isW:=(List.prefix_iff_eq_take.1 (List.takeWhile_prefix isW)).symm
 by_cases hw:0<(s.takeWhile isW).length
 ·have hR:nxtR s=((sQ (s.takeWhile isW)).1,(s.takeWhile isW).length,(sQ (s.takeWhile isW)).2):=if_pos hw
  have qn:=MX (s.takeWhile isW) (by omega) (fun h=>by rw[h]at hw;exact absurd hw (by decide)) (fun c hc=>RS (Xb c hc))
  rw[hR];generalize s.takeWhile isW=w at qw htk hpre hw qn;have hw':(w.length:Int)>0:=by omega
  have hle:(w.length:Int)≤(s.length:Int):=by omega
  refine DC.enter 62 Tryz.func68 rfl (by decide) rfl rfl (s:=[(0,.pt 0 0)]) (by rfl) ?_
  refine wG gS TI ?_;refine cC [0,1] qw TI (A3 bC aX aB) (A3 eW eX cK) ?_;refine goG gS TI ?_;refine wG gS (A5 BY GDS hw' hle hpre) ?_;refine AR.callP qn TI (A3 bC aX aB) ?_;refine goG gS TKT ?_;refine wG gS TKT ?_;refine aP (rs:=[.cell 2 122,.tmp 3,.tmp 4]) rfl (by first|exact .inl rfl|exact .inr rfl) (finG gS) ?_ rfl (idG (A3 bC aX aB))
  all_goals exact wkG (A3 bC aX aB)
 have hR:nxtR s=if s.head? =some 34 then(⟨4,(quoR (s.drop 1)).1,0,0,0⟩,(quoR (s.drop 1)).2.1,(quoR (s.drop 1)).2.2)else(⟨5,(symR s).1,0,0,0⟩,(symR s).1.length,(symR s).2):=if_neg hw
 have qq:=HI s hs h0
 have qs:=HB s hs h0
 rw[show(s.takeWhile isW).length=0 by omega]at qw
 clear hpre htk hw
 cases s with
 | nil=>exact absurd rfl h0
 | cons c r =>
 have g0:(c::r)[0]? =some c:=rfl
 have hgt: ¬(0:Int)>0:=by decide
 by_cases h34:c.toNat=34
 ·have e1:(((34:UInt8).toNat:Nat):Int)=34:=rfl
  obtain rfl:c=34:=toNat_inj h34;rw[hR,if_pos (show((34:UInt8)::r).head? =some 34 from rfl)]
  generalize quoR (List.drop 1 ((34:UInt8)::r))=q at qq;obtain⟨t,n,b⟩:=q;refine DC.enter 62 Tryz.func68 rfl (by decide) rfl rfl (s:=[(0,.pt 0 0)]) (by rfl) ?_
  refine wG gS TI ?_;refine cC [0,1] qw TI (A3 bC aX aB) (A3 eW eX cK) ?_;refine goG gS TI ?_;refine wG gS (A5 BY GDS hgt g0 e1) ?_;refine AR.callP qq TI (A3 bC aX aB) ?_;refine goG gS TI ?_;refine wG gS TI ?_;refine aP (rs:=[.cell 2 122,.tmp 3,.tmp 4]) rfl (by first|exact .inl rfl|exact .inr rfl) (finG gS) ?_ rfl (idG (A3 bC aX aB))
  all_goals exact wkG (A3 bC aX aB)
 ·have e1: ¬(c.toNat:Int)=34:=by omega
  rw[hR,if_neg (show ¬(c::r).head? =some 34 from fun h=>h34 (by rw[Option.some.inj h];rfl))]
  generalize symR (c::r)=q at qs;obtain⟨t,b⟩:=q;refine DC.enter 62 Tryz.func68 rfl (by decide) rfl rfl (s:=[(0,.pt 0 0)]) (by rfl) ?_
  refine wG gS TI ?_;refine cC [0,1] qw TI (A3 bC aX aB) (A3 eW eX cK) ?_;refine goG gS TI ?_;refine wG gS (A5 BY GDS hgt g0 e1) ?_;refine AR.callP qs TI (A3 bC aX aB) ?_;refine goG gS TI ?_;refine wG gS (AI BY dE) ?_;refine aP (rs:=[.cell 2 122,.tmp 3,.tmp 4]) rfl (by first|exact .inl rfl|exact .inr rfl) (finG gS) ?_ rfl (idG (A3 bC aX aB))
  all_goals exact wkG (A3 bC aX aB)
theorem mS: ∀(s:Bs) (b:Bool),skpG false (skpG b s)=skpG b s
 | [],b=>by cases b<;>rfl
 | c::r,true=>by
  by_cases h:c.toNat=10
  ·have e:skpG true (c::r)=skpG false r:=by rw[skpG,if_pos h]
   rw[e];exact mS r false
  ·have e:skpG true (c::r)=skpG true r:=by rw[skpG,if_neg h]
   rw[e];exact mS r true
 | c::r,false=>by
  by_cases h1:isS c=true
  ·have e:skpG false (c::r)=skpG false r:=by rw[skpG,if_pos h1]
   rw[e];exact mS r false
  ·by_cases h2:c.toNat=47∧r.head? =some 47
   ·have e:skpG false (c::r)=skpG true r:=by rw[skpG,if_neg h1,if_pos h2]
    rw[e];exact mS r true
   ·have e:skpG false (c::r)=c::r:=by rw[skpG,if_neg h1,if_neg h2]
    rw[e,e]
theorem uC: ∀(s:Bs) (b:Bool),skpG b s <:+ s
 | [],b=>by cases b<;>exact List.suffix_refl _
 | c::r,true=>by
  by_cases h:c.toNat=10
  ·have e:skpG true (c::r)=skpG false r:=by rw[skpG,if_pos h]
   rw[e];exact(uC r false).trans (List.suffix_cons c r)
  ·have e:skpG true (c::r)=skpG true r:=by rw[skpG,if_neg h]
   rw[e];exact(uC r true).trans (List.suffix_cons c r)
 | c::r,false=>by
  by_cases h1:isS c=true
  ·have e:skpG false (c::r)=skpG false r:=by rw[skpG,if_pos h1]
   rw[e];exact(uC r false).trans (List.suffix_cons c r)
  ·by_cases h2:c.toNat=47∧r.head? =some 47
   ·have e:skpG false (c::r)=skpG true r:=by rw[skpG,if_neg h1,if_pos h2]
    rw[e];exact(uC r true).trans (List.suffix_cons c r)
   ·have e:skpG false (c::r)=c::r:=by rw[skpG,if_neg h1,if_neg h2]
    rw[e];exact List.suffix_refl _
theorem Cx{x:Bs}(h:skpG false x=x)(q:Int×Int):skq x q=q:=by
 unfold skq
 rw[h,Nat.sub_self,List.take_zero]
 rfl
theorem EC{r:Bs}(h:(quoR r).2.2=true):1≤(quoR r).2.1∧(quoR r).2.1≤r.length+1:=by
 cases hq:quoP r with
 | none=>rw[nK hq]at h;cases h
 | some p =>
  obtain⟨t,m⟩:=p;rw[yX hq];have:=xE _ hq;exact⟨by simp,by simp only;omega⟩
theorem BW{s op:Bs}(h:symP s=some op):pre op s=true∧op≠[]:=by
 unfold symP at h
 split at h
 ·rename_i h1
  cases h
  exact⟨(Bool.and_eq_true _ _▸h1).1,by simp⟩
 split at h
 ·rename_i h1
  cases h
  exact⟨(Bool.and_eq_true _ _▸h1).1,by simp⟩
 split at h
 ·rename_i h1;cases h;exact⟨h1,by simp⟩
 split at h
 ·rename_i h1;cases h;exact⟨h1,by simp⟩
 split at h
 ·rename_i h1;cases h;exact⟨h1,by simp⟩
 split at h
 ·rename_i h1;cases h;exact⟨h1,by simp⟩
 split at h
 ·cases h
 ·split at h
  ·cases h;exact⟨by simp[pre,List.isPrefixOf],by simp⟩
  ·cases h
theorem EN{s:Bs}(h0:s≠[])(h:(nxtR s).2.2=true):1≤(nxtR s).2.1∧(nxtR s).2.1≤s.length:=by
 unfold nxtR at h ⊢
 split
 ·rename_i h1
  exact⟨h1,(List.takeWhile_prefix isW).length_le⟩
 ·rename_i h1
  rw[if_neg h1]at h
  have hs:1≤s.length:=by cases s with
   | nil=>exact absurd rfl h0
   | cons c r=>simp
  split
  ·rename_i h2
   rw[if_pos h2]at h;have:=EC h;rw[List.length_drop]at this;exact⟨this.1,by simp only;omega⟩
  ·rename_i h2
   rw[if_neg h2]at h;unfold symR at h ⊢;cases hs:symP s with
   | none=>rw[hs]at h;cases h
   | some op =>
    obtain⟨h3,h4⟩:=BW hs;simp only;obtain⟨x,rfl⟩:=jE.1 h3;refine⟨?_,by simp⟩
    cases op with
    | nil=>exact absurd rfl h4
    | cons c r=>simp
def qB:Nat→Bs→Int×Int→List Tk×Bool
 | 0,_,_=>([],true)
 | f+1,s,p=>if skpG false s=[]then([],true)
  else if(nxtR (skpG false s)).2.2 then((nxtR (skpG false s)).1.at_ (skq s p)::(qB f ((skpG false s).drop (nxtR (skpG false s)).2.1) (advs (skq s p) ((skpG false s).take (nxtR (skpG false s)).2.1))).1,(qB f ((skpG false s).drop (nxtR (skpG false s)).2.1) (advs (skq s p) ((skpG false s).take (nxtR (skpG false s)).2.1))).2)
  else([⟨6,[],0,(skq s p).1,(skq s p).2⟩],false)
def Qz(s:Bs):List Tk×Bool:=qB (s.length+1) s (1,1)
theorem Mu(f:Nat)(s:Bs)(p:Int×Int):qB f s p=qB f (skpG false s) (skq s p):=by
 cases f with
 | zero=>rfl
 | succ f =>
  unfold qB;rw[mS,Cx (mS s false)]
theorem DJ(f:Nat)(p:Int×Int):qB f [] p=([],true):=by
 cases f with
 | zero=>rfl
 | succ f=>unfold qB;rw[if_pos (show skpG false []=[]from rfl)]
theorem KM{f:Nat}{x:Bs}(hx:skpG false x=x)(h0:x≠[])(h:(nxtR x).2.2=true)(q:Int×Int):qB (f+1) x q=((nxtR x).1.at_ q::(qB f (x.drop (nxtR x).2.1) (advs q (x.take (nxtR x).2.1))).1,(qB f (x.drop (nxtR x).2.1) (advs q (x.take (nxtR x).2.1))).2):=by
 conv=>lhs;unfold qB
 rw[hx,Cx hx,if_neg h0,if_pos h]
theorem KN{f:Nat}{x:Bs}(hx:skpG false x=x)(h0:x≠[])(h:(nxtR x).2.2=false)(q:Int×Int):qB (f+1) x q=([⟨6,[],0,q.1,q.2⟩],false):=by
 conv=>lhs;unfold qB
 rw[hx,Cx hx,if_neg h0,if_neg (by rw[h];decide)]
theorem Oj(b:Nat)(hb:b=10∨b=16)(c:UInt8):(∀d,d<b→(dgv c=some d↔hexv c=some d)):=by
 have key: ∀n,n<16→(dgv c=some n↔hexv c=some n):=by
  intro n hn;have:=nO (fun c=>(List.range 16).all fun n=>(dgv c==some n)==(hexv c==some n)) (by decide +kernel) c
  have h2:=List.all_eq_true.1 this n (by simpa using hn)
  have h3:=beq_iff_eq.1 h2;constructor
  ·intro h
   have:(hexv c==some n)=true:=by rw[←h3,h];simp
   exact beq_iff_eq.1 this
  ·intro h
   have:(dgv c==some n)=true:=by rw[h3,h];simp
   exact beq_iff_eq.1 this
 intro d hd
 exact key d (by omega)
theorem MH{b:Nat}(hb:1≤b)(s:Bs): ∀a n,digV b a s=some n→a≤n:=by
 induction s with
 | nil=>intro a n h;cases h;exact Nat.le_refl _
 | cons c r ih =>
  intro a n h;rw[digV]at h;split at h
  ·split at h
   ·have h1:=ih _ _ h
    have:a*1≤a*b:=Nat.mul_le_mul_left a hb;omega
   ·cases h
  ·cases h
theorem EH{b:Nat}(hb:b=10∨b=16)(s:Bs): ∀a n,digV b a s=some n→n≤4294967295→puF b a s=(n,0):=by
 induction s with
 | nil=>intro a n h _;cases h;rfl
 | cons c r ih =>
  intro a n h hn;rw[digV]at h;split at h
  ·rename_i d hd
   split at h
   ·rename_i hlt
    have h1:=MH (show 1≤b by omega) r _ _ h
    rw[puF,(Oj b hb c d hlt).2 hd];simp only;rw[if_neg (by omega),if_neg (by omega)]
    exact ih _ _ h hn
   ·cases h
  ·cases h
theorem EG{b:Nat}(hb:b=10∨b=16)(s:Bs): ∀a,(puF b a s).2=0→digV b a s=some (puF b a s).1:=by
 induction s with
 | nil=>intro a _;rfl
 | cons c r ih =>
  intro a h;rw[puF]at h ⊢;cases hd:dgv c with
  | none=>rw[hd]at h;cases h
  | some d =>
   rw[hd]at h;simp only at h ⊢
   by_cases h1:b≤d
   ·rw[if_pos h1]at h;cases h
   ·rw[if_neg h1]at h ⊢
    by_cases h2:4294967295<a*b+d
    ·rw[if_pos h2]at h;cases h
    ·rw[if_neg h2]at h ⊢
     rw[digV,(Oj b hb c d (by omega)).1 hd]
     simp only;rw[if_pos (by omega)]
     exact ih _ h
theorem Oh{b:Nat}(s:Bs): ∀a n,digV b a s=some n→ ∀c∈s,(hexv c).isSome=true:=by
 induction s with
 | nil=>intro a n _ c hc;cases hc
 | cons x r ih =>
  intro a n h c hc;rw[digV]at h;split at h
  ·rename_i d hd
   split at h
   ·rcases List.mem_cons.1 hc with rfl|hc
    ·rw[hd];rfl
    ·exact ih _ _ h c hc
   ·cases h
  ·cases h
theorem Hi{s:Bs}(h: ∀c∈s,(hexv c).isSome=true):Lib.containsAny s [95,43,45]=false:=by
 unfold Lib.containsAny
 rw[Lib.indexAny_none (fun j b _ hb=> ?_)]
 ·decide
 ·have h1:=h b (List.mem_of_getElem? hb)
  have h2:=nO (fun c=> !(hexv c).isSome|| !([95,43,45]:List UInt8).contains c) (by decide +kernel) b
  simp only[h1,Bool.not_true,Bool.false_or]at h2;simpa using h2
theorem Zh(s:Bs): ∀a n,digV 16 a s=some n→n<(a+1)*16^s.length:=by
 induction s with
 | nil=>intro a n h;cases h;simp
 | cons c r ih =>
  intro a n h;rw[digV]at h;split at h
  ·rename_i d hd
   split at h
   ·rename_i hlt
    have h1:=ih _ _ h;have h2:(a*16+d+1)*16^r.length≤((a+1)*16)*16^r.length:=Nat.mul_le_mul_right _ (by omega)
    rw[List.length_cons,Nat.pow_succ,Nat.mul_comm (16^r.length) 16,←Nat.mul_assoc];omega
   ·cases h
  ·cases h
theorem Wn{w:Bs}{n:Nat}(h:valP w=some n):valR w=(n,true):=by
 unfold valP at h
 unfold valR
 split at h
 ·rename_i hp
  rw[if_pos hp];split at h
  ·rename_i hl
   have h16:n≤4294967295:=by
    have:=Zh _ _ _ h;have h2:16^(List.drop 2 w).length≤16^8:=Nat.pow_le_pow_right (by decide) hl.2
    have h3:(16:Nat)^8=4294967296:=by decide
    omega
   have hne:List.drop 2 w≠[]:=fun e=>by rw[e]at hl;exact absurd hl.1 (by decide)
   have hpu:puR 16 (List.drop 2 w)=(n,0):=by
    unfold puR;rw[if_neg hne];exact EH (.inr rfl) _ _ _ h h16
   rw[hpu,Hi (Oh _ _ _ h),decide_eq_true hl.2];rfl
  ·cases h
 ·rename_i hp
  rw[if_neg hp];split at h
  ·cases h
  ·rename_i hz
   split at h
   ·rename_i m hm
    split at h
    ·rename_i hlt
     cases h
     have hne:w≠[]:=fun e=>hz (.inl (by rw[e];rfl))
     have hpu:puR 10 w=(n,0):=by
      unfold puR;rw[if_neg hne];exact EH (.inl rfl) _ _ _ hm (by omega)
     rw[hpu,Hi (Oh _ _ _ hm)]
     have hz2:(w==[48]||decide (w.head? ≠some 48))=true:=by
      by_cases q:w.head? =some 48
      ·have: ¬1<w.length:=fun k=>hz (.inr ⟨k,q⟩)
       obtain⟨x,rfl⟩: ∃x,w=[x]:=List.length_eq_one_iff.1 (by have:=List.length_pos_iff.2 hne;omega)
       cases q;rfl
      ·rw[decide_eq_true q,Bool.or_true]
     rw[hz2];rfl
    ·cases h
   ·cases h
theorem Wo{w:Bs}(h:valP w=none):(valR w).2=false:=by
 rw[←Bool.not_eq_true]
 intro hc
 unfold valR at hc
 unfold valP at h
 by_cases hp:pre [48,120] w=true
 ·rw[if_pos hp]at hc h
  simp only[Bool.and_eq_true,decide_eq_true_eq]at hc;have hne:List.drop 2 w≠[]:=fun e=>by rw[e]at hc;exact absurd hc.1 (by decide)
  unfold puR at hc;rw[if_neg hne]at hc;rw[if_pos ⟨List.length_pos_iff.2 hne,hc.2.1⟩,EG (.inr rfl) _ _ hc.1]at h;cases h
 ·rw[if_neg hp]at hc h
  simp only[Bool.and_eq_true,decide_eq_true_eq]at hc;have hne:w≠[]:=fun e=>by rw[e]at hc;exact absurd hc.1 (by decide)
  have hz: ¬(w.length=0∨(1<w.length∧w.head? =some 48)):=by
   rintro(k|⟨k1,k2⟩)
   ·exact hne (List.length_eq_zero_iff.1 k)
   ·have h3:=hc.2.1
    rw[decide_eq_false (show ¬(w.head? ≠some 48)from fun k=>k k2),Bool.or_false]at h3
    have h4:=beq_iff_eq.1 h3;rw[h4]at k1;exact absurd k1 (by decide)
  have hpu:puR 10 w=puF 10 0 w:=if_neg hne;have hle:(puF 10 0 w).1≤4294967295:=EI 10 w 0 (by decide)
  rw[hpu]at hc;rw[if_neg hz,EG (.inl rfl) _ _ hc.1]at h;simp only at h;rw[if_pos (by omega)]at h
  cases h
theorem Yk{w:Bs}{t:Tk}(h:namP w=some t):sQ w=(t,true):=by
 unfold namP at h
 unfold sQ
 split
 ·rename_i q
  rw[if_pos q]at h;cases h;rfl
 ·rename_i q
  rw[if_neg q]at h;split
  ·rename_i q2
   rw[if_pos q2]at h;split at h
   ·rename_i q3
    cases h
    rw[decide_eq_true q3]
   ·cases h
  ·rename_i q2
   rw[if_neg q2]at h;cases hv:valP w with
   | none=>rw[hv]at h;cases h
   | some n =>
    rw[hv]at h;cases h
    rw[Wn hv]
theorem Yl{w:Bs}(h:namP w=none):(sQ w).2=false:=by
 unfold namP at h
 unfold sQ
 split
 ·rename_i q
  rw[if_pos q]at h;cases h
 ·rename_i q
  rw[if_neg q]at h;split
  ·rename_i q2
   rw[if_pos q2]at h;split at h
   ·cases h
   ·rename_i q3
    exact decide_eq_false q3
  ·rename_i q2
   rw[if_neg q2]at h;cases hv:valP w with
   | none=>exact Wo hv
   | some n=>rw[hv]at h;cases h
theorem Yg{s:Bs}{t:Tk}{n:Nat}(h:tokP s=some (t,n)):nxtR s=(t,n,true):=by
 unfold tokP at h
 unfold nxtR
 split
 ·rename_i q
  rw[if_pos q]at h;cases hn:namP (s.takeWhile isW)with
  | none=>rw[hn]at h;cases h
  | some u=>rw[hn]at h;cases h;rw[Yk hn]
 ·rename_i q
  rw[if_neg q]at h;split
  ·rename_i q2
   rw[if_pos q2]at h;cases hq:quoP (s.drop 1)with
   | none=>rw[hq]at h;cases h
   | some u=>obtain⟨u,m⟩:=u;rw[hq]at h;cases h;rw[yX hq]
  ·rename_i q2
   rw[if_neg q2]at h;cases hq:symP s with
   | none=>rw[hq]at h;cases h
   | some u=>rw[hq]at h;cases h;unfold symR;rw[hq]
theorem Yh{s:Bs}(h:tokP s=none):(nxtR s).2.2=false:=by
 unfold tokP at h
 unfold nxtR
 split
 ·rename_i q
  rw[if_pos q]at h;cases hn:namP (s.takeWhile isW)with
  | none=>exact Yl hn
  | some u=>rw[hn]at h;cases h
 ·rename_i q
  rw[if_neg q]at h;split
  ·rename_i q2
   rw[if_pos q2]at h;cases hq:quoP (s.drop 1)with
   | none=>rw[nK hq]
   | some u=>obtain⟨u,m⟩:=u;rw[hq]at h;cases h
  ·rename_i q2
   rw[if_neg q2]at h;cases hq:symP s with
   | none=>unfold symR;rw[hq]
   | some u=>rw[hq]at h;cases h
theorem Gz: ∀(f:Nat) (s:Bs) (p:Int×Int),qB f s p=pK f s p
 | 0,s,p=>rfl
 | f+1,s,p=>by
  rw[qB,pK]
  by_cases q:skpG false s=[]
  ·rw[if_pos q,if_pos q]
  rw[if_neg q,if_neg q];cases h:tokP (skpG false s)with
  | none =>
   rw[if_neg (by rw[Yh h];decide)]
  | some u =>
   obtain⟨t,n⟩:=u;rw[Yg h,if_pos rfl,Gz f]
theorem Hb(s:Bs):Qz s=scan s:=Gz _ s (1,1)
theorem OO(c:UInt8):((c.toNat:Nat):Int).fdiv (2^min 4 IntKind.u8.bits)=((c.toNat/16:Nat):Int) :=
 of_decide_eq_true (nO (fun c=>decide (((c.toNat:Nat):Int).fdiv (2^min 4 IntKind.u8.bits)=((c.toNat/16:Nat):Int))) (by decide +kernel) c)
theorem ON(c:UInt8):IntKind.u8.wrap ↑(BitVec.ofInt IntKind.u8.bits ↑c.toNat&&&BitVec.ofInt IntKind.u8.bits 15).toNat=((c.toNat%16:Nat):Int) :=
 of_decide_eq_true (nO (fun c=>decide (IntKind.u8.wrap ↑(BitVec.ofInt IntKind.u8.bits ↑c.toNat&&&BitVec.ofInt IntKind.u8.bits 15).toNat=((c.toNat%16:Nat):Int))) (by decide +kernel) c)
theorem Nt: ∀ {n:Nat},n<16→([48,49,50,51,52,53,54,55,56,57,97,98,99,100,101,102]:Bs)[n]? =some (hexD n):=by
 intro n h
 have: ∀n<16,([48,49,50,51,52,53,54,55,56,57,97,98,99,100,101,102]:Bs)[n]? =some (hexD n):=by decide
 exact this n h
def yC:=A4 @Fl @sD @Fk @rW
theorem WV:PC Tryz.prog 255 [.im (.int .u64 (16))] (.im (.int .i64 (4))):=by
 refine PC.enter 8 Tryz.func255 rfl (by decide) rfl rfl (s:=[(0,.im (.int .u64 (16)))]) (by rfl) ?_
 refine wG yC TI ?_
 refine Iq rfl ?_
 refine wG yC TI ?_
 refine AR.callP TE TI aB ?_
 refine goG yC TI ?_
 refine wG yC TI ?_
 exact aD
theorem TM:PC Tryz.prog 254 [(.im (.int .i64 (16)))] (.im (.bool (true))):=by
 refine PC.enter 8 Tryz.func254 rfl (by decide) rfl rfl (s:=[(0,(.im (.int .i64 (16))))]) (by rfl) ?_
 refine wG TI TI ?_
 exact aD
theorem Hp: ∀(f g n:Nat),n<f→n<g→xM f n=xM g n
 | 0,_,_,h,_=>by omega
 | _,0,_,_,h=>by omega
 | f+1,g+1,n,hf,hg=>by
  rw[xM,xM];split
  ·rfl
  ·rw[Hp f g (n/16) (by omega) (by omega)]
theorem LK{n:Nat}(h:n<16):kW n=[hexD n]:=by
 unfold kW
 rw[xM,if_pos h]
theorem LL{n:Nat}(h: ¬n<16):kW n=kW (n/16)++[hexD (n%16)]:=by
 unfold kW
 rw[xM,if_neg h,Hp n (n/16+1) (n/16) (by omega) (by omega)]
theorem PI(n:Nat)(hn:n<18446744073709551616):IntKind.u64.wrap ↑(BitVec.ofInt IntKind.u64.bits (n:Int)&&&BitVec.ofInt IntKind.u64.bits 15).toNat=((n%16:Nat):Int):=by
 have e:(BitVec.ofInt 64 (n:Int)&&&BitVec.ofInt 64 15).toNat=n%16:=by
  rw[BitVec.toNat_and,BitVec.ofInt_natCast,BitVec.toNat_ofNat,Nat.mod_eq_of_lt (by omega:n<2^64),show(BitVec.ofInt 64 15).toNat=2^4-1 from rfl,Nat.and_two_pow_sub_one_eq_mod]
 show IntKind.u64.wrap ((BitVec.ofInt 64 (n:Int)&&&BitVec.ofInt 64 15).toNat:Int)=_
 rw[e]
 exact IntWalk.u64_in _ (by omega)
theorem JT(n:Nat):((n:Nat):Int).fdiv (2^min 4 IntKind.u64.bits)=((n/16:Nat):Int):=by
 rw[show(2:Int)^min 4 IntKind.u64.bits=16 by decide,Int.fdiv_eq_ediv_of_nonneg _ (by decide)]
 omega
theorem Ns: ∀ {n:Nat},n<16→(48::49::50::51::52::53::54::55::56::57::97::98::99::100::101::102::103::104::105::106::107::108::109::110::111::112::113::114::115::116::117::118::119::120::121::122::[]:Bs)[n]? =some (hexD n):=by
 intro n h
 have: ∀n<16,(48::49::50::51::52::53::54::55::56::57::97::98::99::100::101::102::103::104::105::106::107::108::109::110::111::112::113::114::115::116::117::118::119::120::121::122::[]:Bs)[n]? =some (hexD n):=by decide
 exact this n h
def jN:=A16 @IZ @Fu @IX @Ft @lI @qL @Fl @tX @sC @wN @rZ @qK @Fk @tV @pT (AI @rV @gV)
set_option maxHeartbeats 2000000 in
theorem NF(n:Nat)(hn:n<4294967296)(b4:Bool)(hb4:b4=false):PC Tryz.prog 209 [.sl [] .nl,.im (.int .u64 ((n:Int))),(.im (.int .i64 (16))),(.im (.bool (false))),(.im (.bool (b4)))] (.tu [.sl [] .nl,.im (.string ⟨(kW n).toArray⟩)]):=by
 have qp:=TM
 have qz:=WV
 have k16:IntKind.u64.wrap 16=16:=by kernel_rfl
 have k4:IntKind.u64.wrap 4=4:=by kernel_rfl
 have k15:IntKind.u64.wrap 15=15:=by kernel_rfl
 have k36: ¬(16:Int)>36:=by decide
 refine PC.enter 102 Tryz.func209 rfl (by decide) rfl rfl (s:=[(0,.sl [] .nl),(1,.im (.int .u64 ((n:Int)))),(2,(.im (.int .i64 (16)))),(3,(.im (.bool (false)))),(4,(.im (.bool (b4))))]) (by rfl) ?_
 refine wG jN k36 ?_
 refine AR.callP qp TI aB ?_
 refine goG jN TI ?_
 refine wG jN k16 ?_
 refine AR.callP qz TI aB ?_
 refine goG jN TI ?_
 refine wG jN (A3 k16 k4 k15) ?_
 refine aW ?_
 suffices H: ∀(k m:Nat) (Z A:Bs),m=k→m<16^Z.length→m<18446744073709551616→1≤Z.length→Z.length+A.length=65→kW n=kW m++A→ALp _ _ _ _ _ ⟨dn 102 [(1,.im (.int .u64 (((m:Nat):Int)))),(3,(.im (.bool (false)))),(4,(.im (.bool (b4)))),(10,.sl [] .nl),(11,.im (.string ⟨([]).toArray⟩)),(12,.pt 0 0),(13,(.im (.int .i64 ((Z.length:Int))))),(14,.im (.int .u64 (4))),(15,.im (.int .u64 (16))),(16,.im (.int .u64 (15)))],ofl [.box ((Z++A).map byB)]⟩ by
  refine ALp.cutP 1 [(1,.im (.int .u64 ((n:Int)))),(3,(.im (.bool (false)))),(4,(.im (.bool (b4)))),(10,.sl [] .nl),(11,.im (.string ⟨([]).toArray⟩)),(12,.pt 0 0),(13,(.im (.int .i64 (((List.replicate 65 (0:UInt8)).length:Int))))),(14,.im (.int .u64 (4))),(15,.im (.int .u64 (16))),(16,.im (.int .u64 (15)))] [.box (((List.replicate 65 (0:UInt8))++[]).map byB)] aB ?_;exact H n n (List.replicate 65 (0:UInt8)) [] rfl (by rw[List.length_replicate];exact Nat.lt_of_lt_of_le hn (by decide)) (by omega) (by decide) rfl (by simp)
 intro k
 induction k using Nat.strongRecOn with
 | _ k ih =>
 intro m Z A hk hm hm64 hZ hZA hx
 obtain⟨Z',z,rfl⟩: ∃Z' z,Z=Z'++[z]:=⟨Z.dropLast,Z.getLast (fun e=>by rw[e]at hZ;cases hZ),(List.dropLast_concat_getLast _).symm⟩
 rw[List.length_append,List.length_singleton]at hm hZ hZA ⊢
 have hw1:IntKind.i64.wrap (((Z'.length+1:Nat):Int)-1)=(Z'.length:Int):=by rw[dL (by omega)];omega
 have hlt:(Z'.length:Int)<65:=by omega
 have hle:Z'.length≤64:=by omega
 have hle3:Z'.length+1≤Z'.length+1+A.length:=by omega
 have hseg: ∀c:UInt8,List.take Z'.length (List.map byB (Z'++[z]++A))++[V.im (.int .u8 c.toNat)]++List.drop (Z'.length+1) (List.map byB (Z'++[z]++A))=List.map byB (Z'++c::A):=fun c=>by
  rw[←List.map_take,←List.map_drop];simp[byB]
 have hlen:(List.map byB (Z'++[z]++A)).length=65:=by simp;omega
 refine dA ?_
 by_cases h16:m<16
 ·have e1: ¬(m:Int)≥16:=by omega
  have hg:=Ns h16;rw[LK h16]at hx;clear ih;refine wG jN (A11 BY GDS e1 hw1 hg hlen hlt hle hle3 @Nat.mul_one hseg) ?_;refine Wh 0 [(10,.sl [] .nl),(12,.ep (.ag ((Z'++hexD m::A).map byB)) 0),(13,(.im (.int .i64 ((Z'.length:Int))))),(94,(.im (.bool (b4))))] [] ?_ (by simp) (by repeat (first|exact WkFA.nil|refine WkFA.cons (by first|exact .of (Wk.refl _) (by first|rfl|simp only[List.length_cons,List.length_nil,Nat.reduceAdd,V.ids,V.idsL,idsA,entOk,List.all_cons,List.all_nil,Bool.and_self,Bool.and_true,Bool.true_and,ltB,noId,Nat.reduceLT,decide_true,Bool.true_eq_false,bU,bW,bV,bX,aB])|exact Wc rfl rfl (aB _ _)) ?_)) (by repeat (first|exact WkFE.nil|refine WkFE.box (by repeat (first|exact WkFL.nil|refine WkFL.cons (by first|exact .of (Wk.refl _) (by first|rfl|simp only[List.length_cons,List.length_nil,Nat.reduceAdd,V.ids,V.idsL,idsA,entOk,List.all_cons,List.all_nil,Bool.and_self,Bool.and_true,Bool.true_and,ltB,noId,Nat.reduceLT,decide_true,Bool.true_eq_false,bU,bW,bV,bX,aB])|exact Wc rfl rfl (aB _ _)) ?_)) ?_|refine WkFE.same (fun _ e=>by cases e) ?_)) (fun i hi=>by first|exact absurd rfl hi|exact Nat.lt_of_lt_of_le (pL hi) (by simp))
  subst hb4;refine jP rfl rfl ?_;refine wG jN TI ?_;refine BC (e:=5) (n:=65) (m:=Z'.length) (b:=Z'++hexD m::A) ?_ (by omega) (by simp;omega) (by decide)
  rw[List.drop_left,hx,List.singleton_append];generalize hexD m::A=B;have hb:=mT B;refine goG jN hb ?_;refine wG jN hb ?_;refine aI (rs:=[.tmp 10,.tmp 11]) rfl (by first|exact .inl rfl|exact .inr rfl) (finG jN) ?_
  all_goals exact wkG aB
 ·have e1:(m:Int)≥16:=by omega
  have hg:=Ns (show m%16<16 by omega)
  have h15:=PI m hm64;have hs4:=JT m;rw[LL h16,List.append_assoc]at hx
  have hI:=ih (m/16) (by omega) (m/16) Z' (hexD (m%16)::A) rfl (by rw[Nat.pow_succ]at hm;omega) (by omega) (by
   rcases Nat.eq_zero_or_pos Z'.length with h0|h0
   ·rw[h0]at hm;omega
   ·exact h0) (by rw[List.length_cons];omega) hx
  clear ih;refine wdG jN (A13 BY GDS e1 hw1 hg h15 hs4 hlen hlt hle hle3 @Nat.mul_one hseg) ?_;refine ALp.cutP 1 [(1,.im (.int .u64 (((m/16:Nat):Int)))),(3,(.im (.bool (false)))),(4,(.im (.bool (b4)))),(10,.sl [] .nl),(11,.im (.string ⟨([]).toArray⟩)),(12,.pt 0 0),(13,(.im (.int .i64 ((Z'.length:Int))))),(14,.im (.int .u64 (4))),(15,.im (.int .u64 (16))),(16,.im (.int .u64 (15)))] [.box ((Z'++hexD (m%16)::A).map byB)] aB ?_;exact hI
theorem TR(n:Nat)(hn:n<4294967296):PC Tryz.prog 209 [.sl [] .nl,.im (.int .u64 ((n:Int))),(.im (.int .i64 (16))),(.im (.bool (false))),(.im (.bool (false)))] (.tu [.sl [] .nl,.im (.string ⟨(kW n).toArray⟩)]):=NF n hn false rfl
def Fg:=A11 @JA @lI @qL @tX @sC @wN @qK @tV @pT @rV @gV
theorem TQ(n:Nat)(hn:n<4294967296):PC Tryz.prog 152 [.im (.int .u64 ((n:Int))),(.im (.int .i64 (16)))] (.im (.string ⟨(kW n).toArray⟩)):=by
 have q:=TR n hn
 refine PC.enter 32 Tryz.func152 rfl (by decide) rfl rfl (s:=[(0,.im (.int .u64 ((n:Int)))),(1,(.im (.int .i64 (16))))]) (by rfl) ?_
 refine wG Fg TI ?_
 refine AR.callP q TI aB ?_
 refine goG Fg TI ?_
 refine wG Fg TI ?_
 exact aD
theorem WH(n:Nat)(hn:n<4294967296):PC Tryz.prog 85 [.im (.int .u64 ((n:Int))),(.im (.int .i64 (16)))] (.im (.string ⟨(kW n).toArray⟩)):=by
 have q:=TQ n hn
 refine PC.enter 8 Tryz.func85 rfl (by decide) rfl rfl (s:=[(0,.im (.int .u64 ((n:Int)))),(1,(.im (.int .i64 (16))))]) (by rfl) ?_
 refine wG TI TI ?_
 refine AR.callP q TI aB ?_
 refine goG TI TI ?_
 refine wG TI TI ?_
 exact aD
theorem PC.ghost{P:Program}{f:FuncId}{xs:List V}{e:TypeId}{z:Nat}(h:PC P f xs (.sl [] .nl)):DC P f xs [.free] (.sl [] (.own 0)) [.tip e z 0]:=by
 refine⟨h.1,fun C vs hst hC hl hR=> ?_⟩
 have hst':C.st=stF:=by
  rw[hst];funext i;unfold ofl stF;cases i with
  | zero=>rfl
  | succ i=>simp[List.getD]
 refine(h.2 C vs hst' hC hl hR).mono ?_
 rintro e' w' ⟨v,x,st',rfl,⟨rfl,rfl⟩,D,hw,hs,hD,hE,hR'⟩
 have hf:D.st 0= .free:=by rw[hs];rfl
 refine⟨v,_,_,rfl,⟨rfl,rfl⟩,D.ghost 0 e z 0,hw,?_,hD.ghost hf,hE.trans (Ev.ghost hf),R.ghost (.inr rfl) hf hR' (fun x hx=>by cases hx)⟩
 show upd D.st 0 (.tip e z 0)=_
 rw[hs]
 funext i
 cases i with
 | zero=>rfl
 | succ i=>simp[upd,stF,ofl,List.getD]
theorem ACalls.nz_ne{P:Program}{f:FuncId}{es:List V}{xs:List V}{st:Nat→Ent}{Q:V→(Nat→Ent)→Prop}(hf:zJ P f=true)(h:0<es.length):ACalls P f (.sl es .nz::xs) st Q:=by
 refine⟨hf,fun C vs _ _ _ hR=> ?_⟩
 have h0:R C (.sl es .nz) (vs.getD 0 undef):=hR 0 (by simp)
 exfalso
 generalize vs.getD 0 undef=v at h0
 cases h0 with
 | sl _ _ _ _ hr hk =>
  obtain⟨ad,h1,_⟩:=hr 0 h;rw[h1]at hk;cases hk
theorem Iv(l:List Va):jZ 6 (l.map vaV)=true:=by
 unfold jZ
 rw[List.all_map]
 exact List.all_eq_true.2 fun x _=>rfl
def Ku:=A4 @sJ @yK @lJ @kK
theorem WK{vs:List Va}(hv:vs.length≤4194304):DC Tryz.prog 87 [.sl (vs.map vaV) .ro] [.free] (.sl (vs.map vaV) (.own 0)) [.tip 96 6 vs.length]:=by
 have hA:vs.length*88≤140737488355328:=by omega
 refine ACalls.nil1 ?_ ?_
 ·rcases Nat.eq_zero_or_pos vs.length with h0|h0
  ·obtain rfl:=List.length_eq_zero_iff.1 h0
   refine PC.ghost ?_;refine PC.enter 8 Tryz.func87 rfl (by decide) rfl rfl (s:=[(0,.sl [] .nz)]) (by rfl) ?_
   refine wG Ku TI ?_;refine aI (rs:=[.tmp 2]) rfl (by first|exact .inl rfl|exact .inr rfl) (finG Ku) ?_
   all_goals exact wkG (A4 @aC @aN @aE @aO)
  ·exact ACalls.nz_ne (by kernel_rfl) (by simpa using h0)
 ·refine Ip 1 8 Tryz.func87 rfl (by decide) rfl rfl (s:=[(0,.sl (vs.map vaV) .nn)]) (by rfl) ?_
  refine wG Ku (A4 hA Iv @List.length_map.{0,0} @Nat.zero_add) ?_;refine Pq 1 (rs:=[.tmp 2]) rfl (by first|exact .inl rfl|exact .inr rfl) (by simp only[Mx,Di,↓iS,↓reduceIte,SA,SB,SC,SD,Ku,oN,fpsG,evO,evB,evA,nV,oO,eqF,eqC,jY,gY,slB,slK,gd,St.ev,eV,ofl,wrl,putE,V.ofVal,V.ofCell,bin2,un1,seg,iO,eO,Value.oneCell',Nat.reduceBEq,Nat.reduceLT,Nat.reduceSub,Nat.reduceAdd,Nat.reduceMul,Nat.reduceLeDiff,Nat.reduceEqDiff,reduceCtorEq,Int.reduceLT,Int.reduceLE,Int.reduceEq,Int.reduceNe,Int.reduceBEq,Int.reduceBNe,Int.reduceAdd,Int.reduceSub,Int.reduceMul,Int.reduceToNat];with_reducible exact rfl) ?_ rfl (by first|rfl|simp only[List.length_cons,List.length_nil,Nat.reduceAdd,V.ids,V.idsL,idsA,entOk,List.all_cons,List.all_nil,Bool.and_self,Bool.and_true,Bool.true_and,ltB,noId,Nat.reduceLT,decide_true,Bool.true_eq_false,bU,bW,bV,bX,aC,aN,aE,aO])
  repeat (first|exact WkF.of (Wk.refl _) (by first|rfl|simp only[List.length_cons,List.length_nil,Nat.reduceAdd,V.ids,V.idsL,idsA,entOk,List.all_cons,List.all_nil,Bool.and_self,Bool.and_true,Bool.true_and,ltB,noId,Nat.reduceLT,decide_true,Bool.true_eq_false,bU,bW,bV,bX,aC,aN,aE,aO])|exact WkF.of (Wk.ro _ _) (by first|rfl|simp only[List.length_cons,List.length_nil,Nat.reduceAdd,V.ids,V.idsL,idsA,entOk,List.all_cons,List.all_nil,Bool.and_self,Bool.and_true,Bool.true_and,ltB,noId,Nat.reduceLT,decide_true,Bool.true_eq_false,bU,bW,bV,bX,aC,aN,aE,aO])|refine Td ?_|refine Te ?_|refine WkFL.cons ?_ ?_|exact WkFL.nil)
def vErr:List Va→List Va→Int
 | _,[]=>0
 | seen,v::r=>if !nameT v.name then 3 else if has seen v.name then 8 else if chk v.ty≠0 then chk v.ty else vErr (seen++[v]) r
theorem Wp{bs l:List Va}{m:Nat}(h:m<l.length):vErr (bs++l.take m) (l.drop m)=if !nameT l[m].name then 3 else if has (bs++l.take m) l[m].name then 8 else if chk l[m].ty≠0 then chk l[m].ty else vErr (bs++l.take (m+1)) (l.drop (m+1)):=by
 rw[List.drop_eq_getElem_cons h]
 rw[vErr,List.take_succ_eq_append_getElem h,List.append_assoc]
def Ap(l:List Va):Prop:= ∀v∈l,fit v.ty∧v.name.size≤9223372036854775807
def fD:=A11 @dN @iK @Cc @sJ @yK @lJ @uZ @uY @cY @iI @kK
theorem xW(bs l:List Va)(hb:bs.length+l.length≤4194304)(hl:Ap l):PC Tryz.prog 41 [.sl (bs.map vaV) .ro,.sl (l.map vaV) .ro] (.im (.int .i64 (vErr bs l))):=by
 obtain⟨sn,hsn⟩: ∃sn:Nat→List Va,∀m,sn m=bs++l.take m:=⟨_,fun _=>rfl⟩
 have hs0:sn 0=bs:=by rw[hsn];simp
 have hsl: ∀m,(sn m).length≤bs.length+l.length:=fun m=>by rw[hsn,List.length_append,List.length_take];omega
 have hstep: ∀m (h:m<l.length),vErr (sn m) (l.drop m)=if !nameT l[m].name then 3 else if has (sn m) l[m].name then 8 else if chk l[m].ty≠0 then chk l[m].ty else vErr (sn (m+1)) (l.drop (m+1)):=fun m h=>by
  rw[hsn,hsn];exact Wp h
 have happ: ∀m (h:m<l.length),(sn m).map vaV++[vaV l[m]]=(sn (m+1)).map vaV:=fun m h=>by
  rw[hsn,hsn,List.map_append,List.map_append,List.append_assoc,Gv vaV h]
 have hlen: ∀m (h:m<l.length),(sn m).length+1=(sn (m+1)).length:=fun m h=>by
  rw[hsn,hsn,List.length_append,List.length_append,List.length_take,List.length_take];omega
 have hcl:=WK (vs:=sn 0) (by have:=hsl 0;omega)
 refine PC.enter 39 Tryz.func41 rfl (by decide) rfl rfl (s:=[(0,.sl (bs.map vaV) .ro),(1,.sl (l.map vaV) .ro)]) (by rfl) ?_
 refine wG fD TI ?_
 refine aA [0] hcl hs0 (A4 @aC @aN @aE @aO) (A4 @aQ @aR @bE @bD) ?_
 refine goG fD TI ?_
 refine wG fD @List.length_map.{0,0} ?_
 refine aW ?_
 refine ALp.cutP 1 [(5,.sl ((sn (0)).map vaV) (.own 0)),(11,.sl (l.map vaV) .ro),(12,(.im (.int .i64 (l.length)))),(13,(.im (.int .i64 ((((0:Nat)):Int)))))] [.tip 96 6 (sn (0)).length] (A4 @aC @aN @aE @aO) ?_
 refine ALp.upto l.length (fun m=>vErr (sn m) (l.drop m)=vErr bs l) (fun m=>⟨dn 39 [(5,.sl ((sn (m)).map vaV) (.own 0)),(11,.sl (l.map vaV) .ro),(12,(.im (.int .i64 (l.length)))),(13,(.im (.int .i64 ((((m:Nat)):Int)))))],ofl [.tip 96 6 (sn (m)).length]⟩) ?_ 0 (Nat.zero_le _) (by rw[hs0,List.drop_zero])
 intro m hm hV hnext
 rw[←hV]
 by_cases hlt:m<l.length
 ·have hlt':(m:Int)<(l.length:Int):=by omega
  have hm1:=aT hlt (by omega)
  have hg:=bJ hlt;obtain⟨hty,hnm⟩:=hl _ (List.getElem_mem hlt);have h1:=Es l[m].name hnm;have h2:=Vu (sn m);have h3:=Ey (sn m) (by have:=hsl m;omega) l[m].name
  have h4:=Vr l[m].ty hty;have ha:=happ m hlt;rw[qR]at ha;have hln:=hlen m hlt;have hA:(sn (m+1)).length*88≤140737488355328:=by have:=hsl (m+1);omega
  rw[hstep m hlt];rw[hstep m hlt]at hV;have hn2:=hnext (m+1) (by omega) (by omega)
  cases b1:nameT l[m].name with
  | false =>
   rw[b1]at h1;simp only[Bool.not_false,if_true];refine wG fD (A3 hlt' hg VA) ?_;refine AR.callP h1 TI (A4 @aC @aN @aE @aO) ?_;refine goG fD TI ?_;refine wG fD TI ?_;exact aD
  | true =>
   rw[b1]at h1 hV;simp only[Bool.not_true,Bool.false_eq_true,if_false]at hV ⊢;cases b2:has (sn m) l[m].name with
   | true =>
    rw[b2]at h3;simp only[if_true];refine wG fD (A3 hlt' hg VA) ?_;refine AR.callP h1 TI (A4 @aC @aN @aE @aO) ?_;refine goG fD TI ?_;refine wdG fD TI ?_;refine AR.callS [2] h2 rfl rfl (by first|(simp only[SR,aQ,aR,bE,bD];done)|(simp only[SR,aQ,aR,bE,bD];with_reducible exact rfl)) (by first|(simp only[SR,aQ,aR,bE,bD];done)|(simp only[SR,aQ,aR,bE,bD];with_reducible exact rfl)) (WkL.cons (Wk.ro _ _) .nil) (by first|rfl|simp only[List.length_cons,List.length_nil,Nat.reduceAdd,V.ids,V.idsL,idsA,entOk,List.all_cons,List.all_nil,Bool.and_self,Bool.and_true,Bool.true_and,ltB,noId,Nat.reduceLT,decide_true,Bool.true_eq_false,bU,bW,bV,bX,aC,aN,aE,aO]) rfl rfl rfl (by first|rfl|simp only[List.length_cons,List.length_nil,Nat.reduceAdd,V.ids,V.idsL,idsA,entOk,List.all_cons,List.all_nil,Bool.and_self,Bool.and_true,Bool.true_and,ltB,noId,Nat.reduceLT,decide_true,Bool.true_eq_false,bU,bW,bV,bX,aC,aN,aE,aO]) (by intro p hp;simp only[fH,SR,Ent.ren,List.mem_cons,List.not_mem_nil,or_false,aQ,aR,bE,bD]at hp;rcases hp with rfl<;>rfl) (by simp only[fH,Ent.ren,SR,aQ,aR,bE,bD,wrl,putE,SC,SD,Nat.reduceBEq,Nat.reduceLT,Nat.reduceSub,Nat.reduceAdd,Nat.reduceMul,Nat.reduceLeDiff,Nat.reduceEqDiff,reduceCtorEq,Int.reduceLT,Int.reduceLE,Int.reduceEq,Int.reduceNe,Int.reduceBEq,Int.reduceBNe,Int.reduceAdd,Int.reduceSub,Int.reduceMul,Int.reduceToNat];with_reducible exact rfl) ?_
    refine goG fD TI ?_;refine cC [2] h3 TI (A4 @aC @aN @aE @aO) (A4 @aQ @aR @bE @bD) ?_;refine goG fD TI ?_;refine wdG fD TI ?_;exact aD
   | false =>
    rw[b2]at h3 hV;simp only[Bool.false_eq_true,if_false]at hV ⊢
    by_cases b3:chk l[m].ty=0
    case neg =>
     have q:(chk l[m].ty≠0)=True:=by simp[b3]
     rw[if_pos b3];refine wG fD (A3 hlt' hg VA) ?_;refine AR.callP h1 TI (A4 @aC @aN @aE @aO) ?_;refine goG fD TI ?_;refine wdG fD TI ?_;refine AR.callS [2] h2 rfl rfl (by first|(simp only[SR,aQ,aR,bE,bD];done)|(simp only[SR,aQ,aR,bE,bD];with_reducible exact rfl)) (by first|(simp only[SR,aQ,aR,bE,bD];done)|(simp only[SR,aQ,aR,bE,bD];with_reducible exact rfl)) (WkL.cons (Wk.ro _ _) .nil) (by first|rfl|simp only[List.length_cons,List.length_nil,Nat.reduceAdd,V.ids,V.idsL,idsA,entOk,List.all_cons,List.all_nil,Bool.and_self,Bool.and_true,Bool.true_and,ltB,noId,Nat.reduceLT,decide_true,Bool.true_eq_false,bU,bW,bV,bX,aC,aN,aE,aO]) rfl rfl rfl (by first|rfl|simp only[List.length_cons,List.length_nil,Nat.reduceAdd,V.ids,V.idsL,idsA,entOk,List.all_cons,List.all_nil,Bool.and_self,Bool.and_true,Bool.true_and,ltB,noId,Nat.reduceLT,decide_true,Bool.true_eq_false,bU,bW,bV,bX,aC,aN,aE,aO]) (by intro p hp;simp only[fH,SR,Ent.ren,List.mem_cons,List.not_mem_nil,or_false,aQ,aR,bE,bD]at hp;rcases hp with rfl<;>rfl) (by simp only[fH,Ent.ren,SR,aQ,aR,bE,bD,wrl,putE,SC,SD,Nat.reduceBEq,Nat.reduceLT,Nat.reduceSub,Nat.reduceAdd,Nat.reduceMul,Nat.reduceLeDiff,Nat.reduceEqDiff,reduceCtorEq,Int.reduceLT,Int.reduceLE,Int.reduceEq,Int.reduceNe,Int.reduceBEq,Int.reduceBNe,Int.reduceAdd,Int.reduceSub,Int.reduceMul,Int.reduceToNat];with_reducible exact rfl) ?_
     refine goG fD TI ?_;refine cC [2] h3 TI (A4 @aC @aN @aE @aO) (A4 @aQ @aR @bE @bD) ?_;refine goG fD TI ?_;refine wdG fD TY ?_;refine AR.callP h4 @cF (A4 @aC @aN @aE @aO) ?_;refine goG fD b3 ?_;refine wG fD b3 ?_;exact aD
    case pos =>
     rw[if_neg (by simp[b3])]at hV ⊢
     rw[b3]at h4;refine wG fD (A3 hlt' hg VA) ?_;refine AR.callP h1 TI (A4 @aC @aN @aE @aO) ?_;refine goG fD TI ?_;refine wdG fD TI ?_;refine AR.callS [2] h2 rfl rfl (by first|(simp only[SR,aQ,aR,bE,bD];done)|(simp only[SR,aQ,aR,bE,bD];with_reducible exact rfl)) (by first|(simp only[SR,aQ,aR,bE,bD];done)|(simp only[SR,aQ,aR,bE,bD];with_reducible exact rfl)) (WkL.cons (Wk.ro _ _) .nil) (by first|rfl|simp only[List.length_cons,List.length_nil,Nat.reduceAdd,V.ids,V.idsL,idsA,entOk,List.all_cons,List.all_nil,Bool.and_self,Bool.and_true,Bool.true_and,ltB,noId,Nat.reduceLT,decide_true,Bool.true_eq_false,bU,bW,bV,bX,aC,aN,aE,aO]) rfl rfl rfl (by first|rfl|simp only[List.length_cons,List.length_nil,Nat.reduceAdd,V.ids,V.idsL,idsA,entOk,List.all_cons,List.all_nil,Bool.and_self,Bool.and_true,Bool.true_and,ltB,noId,Nat.reduceLT,decide_true,Bool.true_eq_false,bU,bW,bV,bX,aC,aN,aE,aO]) (by intro p hp;simp only[fH,SR,Ent.ren,List.mem_cons,List.not_mem_nil,or_false,aQ,aR,bE,bD]at hp;rcases hp with rfl<;>rfl) (by simp only[fH,Ent.ren,SR,aQ,aR,bE,bD,wrl,putE,SC,SD,Nat.reduceBEq,Nat.reduceLT,Nat.reduceSub,Nat.reduceAdd,Nat.reduceMul,Nat.reduceLeDiff,Nat.reduceEqDiff,reduceCtorEq,Int.reduceLT,Int.reduceLE,Int.reduceEq,Int.reduceNe,Int.reduceBEq,Int.reduceBNe,Int.reduceAdd,Int.reduceSub,Int.reduceMul,Int.reduceToNat];with_reducible exact rfl) ?_
     refine goG fD TI ?_;refine cC [2] h3 TI (A4 @aC @aN @aE @aO) (A4 @aQ @aR @bE @bD) ?_;refine goG fD TI ?_;refine wdG fD TY ?_;refine AR.callP h4 @cF (A4 @aC @aN @aE @aO) ?_;refine goG fD TI ?_;refine wG fD (A5 ha hln hA hm1 @List.length_map.{0,0}) ?_;refine ALp.cutP 1 [(5,.sl ((sn (m+1)).map vaV) (.own 0)),(11,.sl (l.map vaV) .ro),(12,(.im (.int .i64 (l.length)))),(13,(.im (.int .i64 ((((m+1:Nat)):Int)))))] [.tip 96 6 (sn (m+1)).length] (A4 @aC @aN @aE @aO) ?_;rw[hV];exact hn2 hV
 obtain rfl:m=l.length:=by omega
 clear hnext
 have e0:vErr (sn l.length) (l.drop l.length)=0:=by rw[List.drop_length];cases sn l.length<;>rfl
 rw[e0]
 refine wG fD @Int.lt_irrefl ?_
 exact aD
def rT:=A3 @Cd @vI @rX
theorem Zy{gs:List Sec}{F:FuncId}{cs:List V}(p:Sec→Bool)(hcs:V.idsL (ltB 1) cs=true)(hr:V.renL (gOf [0]) cs=cs)(hl:gs.length≤4194304)(hF: ∀t∈gs,DC Tryz.prog F [scV t,.pt 0 0] [.box cs] (.im (.bool (p t))) [.box cs]) :
  DC Tryz.prog 160 [.sl (gs.map scV) .ro,.fn (.func F) [] [.pt 0 0]] [.box cs] (.im (.int .i64 (idx gs p))) [.box cs]:=by
 refine DC.enter 19 Tryz.func160 rfl (by decide) rfl rfl (s:=[(0,.sl (gs.map scV) .ro),(1,.fn (.func F) [] [.pt 0 0])]) (by rfl) ?_
 refine wG rT TI ?_
 refine aW ?_
 refine ALp.cutP 1 [(0,.sl (gs.map scV) .ro),(1,.fn (.func F) [] [.pt 0 0]),(7,(.im (.int .i64 (gs.length)))),(8,(.im (.int .i64 ((((0:Nat)):Int)))))] [.box cs] (A3 eJ fX hcs) ?_
 refine ALp.upto gs.length (AllTo (fun x=> !p x) gs) (fun m=>⟨dn 19 [(0,.sl (gs.map scV) .ro),(1,.fn (.func F) [] [.pt 0 0]),(7,(.im (.int .i64 (gs.length)))),(8,(.im (.int .i64 ((((m:Nat)):Int)))))],ofl [.box cs]⟩) ?_ 0 (Nat.zero_le _) (AllTo.zero _ _)
 intro m hm hI hnext
 by_cases hlt:m<gs.length
 ·have hlt':(m:Int)<(gs.length:Int):=by omega
  have hg:=bJ hlt;have hm1:=aT hlt (by omega)
  have hc:=hF gs[m] (List.getElem_mem hlt);refine wG rT (A4 SCT hlt' hg hm1) ?_
  by_cases b:p gs[m]=true
  ·rw[b]at hc
   refine cC [0] hc Df (A3 eJ fX hcs) (A3 nA oQ hr) ?_;refine goG rT TI ?_;refine wG rT TI ?_;rw[qG hlt hI b];exact bP (A3 eJ fX hcs)
  ·have b:p gs[m]=false:=by simpa using b
   rw[b]at hc;refine cC [0] hc Df (A3 eJ fX hcs) (A3 nA oQ hr) ?_;refine goG rT TI ?_;refine wG rT hm1 ?_;refine ALp.cutP 1 [(0,.sl (gs.map scV) .ro),(1,.fn (.func F) [] [.pt 0 0]),(7,(.im (.int .i64 (gs.length)))),(8,(.im (.int .i64 ((((m+1:Nat)):Int)))))] [.box cs] (A3 eJ fX hcs) ?_;exact hnext (m+1) (by omega) (by omega) (hI.succ hlt (by simp[b]))
 ·obtain rfl:m=gs.length:=by omega
  have hlt': ¬(gs.length:Int)<(gs.length:Int):=by omega
  clear hnext hlt;rw[qH hI];refine wG rT hlt' ?_;exact bP (A3 eJ fX hcs)
theorem Kk{gs:List Sec}{F:FuncId}{cs:List V}(p:Sec→Bool)(hcs:V.idsL (ltB 1) cs=true)(hr:V.renL (gOf [0]) cs=cs)(hl:gs.length≤4194304)(hF: ∀t∈gs,DC Tryz.prog F [scV t,.pt 0 0] [.box cs] (.im (.bool (p t))) [.box cs]) :
  DC Tryz.prog 90 [.sl (gs.map scV) .ro,.fn (.func F) [] [.pt 0 0]] [.box cs] (.im (.bool (gs.any p))) [.box cs]:=by
 have h:=Zy p hcs hr hl hF
 refine DC.enter 9 Tryz.func90 rfl (by decide) rfl rfl (s:=[(0,.sl (gs.map scV) .ro),(1,.fn (.func F) [] [.pt 0 0])]) (by rfl) ?_
 refine wG TI TI ?_
 refine cC [0] h TI (A3 eJ fX hcs) (A3 nA oQ hr) ?_
 refine goG TI TI ?_
 rw[uJ]
 refine wG TI TI ?_
 exact bP (A3 eJ fX hcs)
def dErr:List Sec→List Sec→Int
 | _,[]=>0
 | seen,d::r=>if !nameT d.name then 3 else if seen.any (fun x=>eqS x.name d.name)then 8 else if 65536<d.data.length then 6 else dErr (seen++[d]) r
theorem Hy{l:List Sec}{m:Nat}(h:m<l.length):dErr (l.take m) (l.drop m)=if !nameT l[m].name then 3 else if(l.take m).any (fun x=>eqS x.name l[m].name)then 8 else if 65536<l[m].data.length then 6 else dErr (l.take (m+1)) (l.drop (m+1)):=by
 rw[List.drop_eq_getElem_cons h]
 rw[dErr,List.take_succ_eq_append_getElem h]
def FV(l:List Sec):Prop:= ∀s∈l,s.name.size≤9223372036854775807
def UD:=A3 @dN @vD @cY
theorem NH(x d:Sec):DC Tryz.prog 91 [scV x,.pt 0 0] [.box [.im (.string (d).name),.im (.int .u32 (d).addr),.sl ((d).data.map fun b=> .im (.int .u8 b.toNat)) .ro,.im (.bool (d).wr),.im (.bool (d).exe)]] (.im (.bool (eqS x.name d.name))) [.box [.im (.string (d).name),.im (.int .u32 (d).addr),.sl ((d).data.map fun b=> .im (.int .u8 b.toNat)) .ro,.im (.bool (d).wr),.im (.bool (d).exe)]]:=by
 refine DC.enter 9 Tryz.func91 rfl (by decide) rfl rfl (s:=[(0,scV x),(1,.pt 0 0)]) (by rfl) ?_
 simp only[Df]
 refine wG UD TI ?_
 exact bP (A3 eJ fX tP)
def lU:=A13 @vK @Cd @dN @Ca @vI @lI @vD @vC @rZ @uX @rX @cY @NY
theorem TU(l:List Sec)(hl:l.length≤4194304)(hf:FV l):PC Tryz.prog 42 [.sl (l.map scV) .ro] (.im (.int .i64 (dErr [] l))):=by
 refine PC.enter 29 Tryz.func42 rfl (by decide) rfl rfl (s:=[(0,.sl (l.map scV) .ro)]) (by rfl) ?_
 refine wG lU TI ?_
 refine aW ?_
 refine ALp.cutP 0 [(0,.sl (l.map scV) .ro),(5,.sl (l.map scV) .ro),(6,(.im (.int .i64 (l.length)))),(7,(.im (.int .i64 ((((0:Nat)):Int)))))] [] (A3 eJ fX tP) ?_
 refine ALp.upto l.length (fun m=>dErr (l.take m) (l.drop m)=dErr [] l) (fun m=>⟨dn 29 [(0,.sl (l.map scV) .ro),(5,.sl (l.map scV) .ro),(6,(.im (.int .i64 (l.length)))),(7,(.im (.int .i64 ((((m:Nat)):Int)))))],ofl []⟩) ?_ 0 (Nat.zero_le _) rfl
 intro m hm hV hnext
 rw[←hV]
 by_cases hlt:m<l.length
 ·have hlt':(m:Int)<(l.length:Int):=by omega
  have hm1:=aT hlt (by omega)
  have hg:=bJ hlt;have h1:=Es l[m].name (hf _ (List.getElem_mem hlt));have h2:=Kk (gs:=l.take m) (F:=91) (fun x=>eqS x.name l[m].name) (cs:=[.im (.string l[m].name),.im (.int .u32 l[m].addr),.sl (l[m].data.map fun b=> .im (.int .u8 b.toNat)) .ro,.im (.bool l[m].wr),.im (.bool l[m].exe)]) (by simp[V.idsL,V.ids,tP]) (by simp only[SR,Ko]) (by rw[List.length_take];omega) (fun x _=>NH x l[m])
  rw[Hy hlt];rw[Hy hlt]at hV;have hn2:=hnext (m+1) (by omega) (by omega)
  cases b1:nameT l[m].name with
  | false =>
   rw[b1]at h1;simp only[Bool.not_false,if_true];refine wG lU (A3 hlt' hg SCT) ?_;refine AR.callP h1 TI (A3 eJ fX tP) ?_;refine goG lU TI ?_;refine wG lU TI ?_;exact aD
  | true =>
   rw[b1]at h1 hV;simp only[Bool.not_true,Bool.false_eq_true,if_false]at hV ⊢;refine wG lU (A3 hlt' hg SCT) ?_;refine AR.callP h1 TI (A3 eJ fX tP) ?_;refine goG lU TI ?_;have hmi:(m:Int)≤(l.length:Int):=by omega
   have hne: ¬m=l.length:=by omega
   have htk:(l.map scV).take m=(l.take m).map scV:=List.map_take.symm;refine wG lU (A6 hmi hne htk DP Jj GDS) ?_;cases b2:(l.take m).any fun x=>eqS x.name l[m].name with
   | true =>
    rw[b2]at h2;simp only[if_true];refine cC [0] h2 TI (A3 eJ fX tP) (A3 nA oQ Ko) ?_;refine goG lU TI ?_;refine wG lU TI ?_;exact aD
   | false =>
    rw[b2]at h2 hV;simp only[Bool.false_eq_true,if_false]at hV ⊢;refine cC [0] h2 TI (A3 eJ fX tP) (A3 nA oQ Ko) ?_;refine goG lU TI ?_
    by_cases b3:65536<l[m].data.length
    ·have b3':(65536:Int)<(l[m].data.length:Int):=by omega
     rw[if_pos b3];refine wG lU (AI b3' @List.length_map.{0,0}) ?_;exact aD
    ·have b3': ¬(65536:Int)<(l[m].data.length:Int):=by omega
     rw[if_neg b3]at hV ⊢;refine wG lU (A3 b3' @List.length_map.{0,0} hm1) ?_;refine ALp.cutP 0 [(0,.sl (l.map scV) .ro),(5,.sl (l.map scV) .ro),(6,(.im (.int .i64 (l.length)))),(7,(.im (.int .i64 ((((m+1:Nat)):Int)))))] [] (A3 eJ fX tP) ?_;rw[hV];exact hn2 hV
 obtain rfl:m=l.length:=by omega
 clear hnext
 have e0:dErr (l.take l.length) (l.drop l.length)=0:=by rw[List.drop_length];cases l.take l.length<;>rfl
 rw[e0]
 refine wG lU @Int.lt_irrefl ?_
 exact aD
theorem Sim.ghostBO{B:Bd}{C:Cf}{a:Act}{N:Nat}{s:List (Nat×V)}{l:List Ent}{id j:Nat}{cs:List V}{e:TypeId}{z:Nat}(hS:Sim B C ⟨dn N s,ofl l⟩ a)
  (hi:l[id]? =some (.box cs)) (hj:cs[j]? =some (.sl [] .nl)): ∃D,Sim B D ⟨dn N s,ofl (l.set id (.box (cs.set j (.sl [] (.own l.length))))++[.tip e z 0])⟩ a∧D.w=C.w∧Ev C D:=by
 obtain⟨hil,hi'⟩:=List.getElem?_eq_some_iff.1 hi
 obtain⟨hjl,hj'⟩:=List.getElem?_eq_some_iff.1 hj
 have hf:C.st l.length= .free:=by rw[hS.st];exact uF l
 have hE1:Ev C (C.ghost l.length e z 0):=Ev.ghost hf
 have hO1:Ok (C.ghost l.length e z 0):=hS.ok.ghost hf
 have hst1:(C.ghost l.length e z 0).st=ofl (l++[.tip e z 0]):=by
  show upd C.st l.length (.tip e z 0)=_
  rw[hS.st];exact tE l _
 have hbox:C.st id= .box cs:=by rw[hS.st];simp[ofl,List.getD,hi]
 have hset: ∀i,ofl (l.set id (.box (cs.set j (.sl [] (.own l.length))))++[.tip e z 0]) i=if i=id then .box (cs.set j (.sl [] (.own l.length)))else ofl (l++[.tip e z 0]) i:=fun i=>by
  unfold ofl
  by_cases h:i=id
  ·subst h;simp[List.getD,List.getElem?_append,hil]
  ·have h':id≠i:=fun q=>h q.symm
   simp[List.getD,List.getElem?_append,List.getElem?_set,h,h']
 have hk:Kin (C.ghost l.length e z 0).st (ofl (l.set id (.box (cs.set j (.sl [] (.own l.length))))++[.tip e z 0])):=fun i=>by
  rw[hset,hst1]
  by_cases h:i=id
  ·subst h
   exact .inr ⟨cs,_,by simp[ofl,List.getD,List.getElem?_append,hil,hi'],if_pos rfl⟩
  ·exact .inl (if_neg h)
 refine⟨(C.ghost l.length e z 0).wst _,⟨rfl,hO1.wst hk fun i ds hd=> ?_,(hS.defers.mono hE1).mono (Ev.wst hk),hS.size,fun t ht=>((hS.slot t ht).mono hE1).wst hk⟩,rfl,hE1.trans (Ev.wst hk)⟩
 rw[hset]at hd
 by_cases h:i=id
 ·subst h
  rw[if_pos rfl]at hd;cases hd
  obtain⟨g,bs,t,h1,h2,h3,h4,h5⟩:=hS.ok.box i cs hbox;have hne:i≠l.length:=by omega
  refine⟨g,bs,t,?_,h2,by simpa using h3,fun q hq=>h4 q (by simpa using hq),fun q hq=> ?_⟩
  ·show(if i=l.length then none else C.σ i)=some g
   rw[if_neg hne];exact h1
  ·have hq':q<cs.length:=by simpa using hq
   rw[List.getElem_set];have h6:=h5 q hq'
   by_cases hjq:j=q
   ·subst hjq
    rw[if_pos rfl];rw[hj']at h6;exact(R.ghost (id:=l.length) (e:=e) (z:=z) (.inr rfl) hf h6 (fun x hx=>by cases hx)).wst hk
   ·rw[if_neg hjq]
    exact(h6.mono hE1).wst hk
 ·rw[if_neg h,←hst1]at hd
  obtain⟨g,bs,t,h1,h2,h3,h4,h5⟩:=hO1.box i ds hd;exact⟨g,bs,t,h1,h2,h3,h4,fun q hq=>(h5 q hq).wst hk⟩
theorem ALp.ghostB{K:Ro→Prop}{P:Program}{st0:Nat→Ent}{Q:Exit→St→Prop}{c:Code}{N:Nat}{s:List (Nat×V)}{l:List Ent}(id j:Nat)(cs:List V)(e:TypeId)(z:Nat)
  (h:ALp K P st0 c Q ⟨dn N s,ofl (l.set id (.box (cs.set j (.sl [] (.own l.length))))++[.tip e z 0])⟩) (hi:l[id]? =some (.box cs):=by rfl) (hj:cs[j]? =some (.sl [] .nl):=by rfl):ALp K P st0 c Q ⟨dn N s,ofl l⟩:=by
 intro C0 C a ro n hK h0 hE hS
 obtain⟨D,h1,h2,h3⟩:=hS.ghostBO (e:=e) (z:=z) hi hj
 have:=h C0 D a ro n hK h0 (hE.trans h3) h1
 rw[h2]at this
 exact this
def tsV(s:ByteArray):V:= .im (.string s)
theorem BU(s:ByteArray):tsV s= .im (.string s):=rfl
theorem Lz(v:ByteArray):(tsV v).live=true:=rfl
theorem Ly(v:ByteArray):(tsV v).size=1:=rfl
theorem Ma(v:ByteArray):(tsV v).isAg=false:=rfl
theorem Mb(v:ByteArray):(tsV v).firm=true:=rfl
theorem Gr(g:Bool)(v:ByteArray):strip g (tsV v)=tsV v:=rfl
theorem Gs(s:ByteArray):(tsV s).cells=[.im (.string s)]:=rfl
theorem PN(p:Nat→Bool)(v:ByteArray):(tsV v).ids p=true:=rfl
theorem nP(p:Nat→Bool)(l:List ByteArray):V.idsL p (l.map tsV)=true:=fY (PN p) l
theorem iP(g:Nat→Nat)(l:List ByteArray):V.renL g (l.map tsV)=l.map tsV:=V.renL_id g _ (nP _ l)
theorem TS:type_of%(A9 @Mb @Gr @Lz @Ly @Ma @Gs @BU @List.getElem?_map.{0,0} @Int.natCast_nonneg) :=
 A9 @Mb @Gr @Lz @Ly @Ma @Gs @BU @List.getElem?_map.{0,0} @Int.natCast_nonneg
def Kt:=A3 @dN @iW @cY
theorem HP(l:List ByteArray)(hl:l.length≤4194304)(s:ByteArray):PC Tryz.prog 93 [.sl (l.map tsV) .ro,.im (.string s)] (.im (.int .i64 (idx l fun x=>eqS s x))):=by
 refine PC.enter 19 Tryz.func93 rfl (by decide) rfl rfl (s:=[(0,.sl (l.map tsV) .ro),(1,.im (.string s))]) (by rfl) ?_
 refine wG Kt @List.length_map.{0,0} ?_
 refine aW ?_
 refine ALp.cutP 0 [(0,.sl (l.map tsV) .ro),(1,.im (.string s)),(7,(.im (.int .i64 (l.length)))),(8,(.im (.int .i64 ((((0:Nat)):Int)))))] [] (A5 nP @aC @aN @aE @aO) ?_
 refine ALp.upto l.length (AllTo (fun x=> !eqS s x) l) (fun m=>⟨dn 19 [(0,.sl (l.map tsV) .ro),(1,.im (.string s)),(7,(.im (.int .i64 (l.length)))),(8,(.im (.int .i64 ((((m:Nat)):Int)))))],ofl []⟩) ?_ 0 (Nat.zero_le _) (AllTo.zero _ _)
 intro m hm hI hnext
 by_cases hlt:m<l.length
 ·have hlt':(m:Int)<(l.length:Int):=by omega
  have hm1:=aT hlt (by omega)
  have hg:=bJ hlt;cases b:eqS s l[m]with
  | true =>
   have b':(s.toList==l[m].toList)=true:=b;rw[qG hlt hI b];refine wG Kt (A4 hlt' hg b' TS) ?_;exact aD
  | false =>
   have b':(s.toList==l[m].toList)=false:=b;refine wG Kt (A5 hlt' hg b' hm1 TS) ?_;refine ALp.cutP 0 [(0,.sl (l.map tsV) .ro),(1,.im (.string s)),(7,(.im (.int .i64 (l.length)))),(8,(.im (.int .i64 ((((m+1:Nat)):Int)))))] [] (A5 nP @aC @aN @aE @aO) ?_;exact hnext (m+1) (by omega) (by omega) (hI.succ hlt (by simp[b]))
 obtain rfl:m=l.length:=by omega
 clear hnext
 rw[qH hI]
 refine wG Kt @Int.lt_irrefl ?_
 exact aD
theorem oY(l:List ByteArray)(hl:l.length≤4194304)(s:ByteArray):PC Tryz.prog 44 [.sl (l.map tsV) .ro,.im (.string s)] (.im (.bool (l.any fun x=>eqS s x))):=by
 have h:=HP l hl s
 refine PC.enter 9 Tryz.func44 rfl (by decide) rfl rfl (s:=[(0,.sl (l.map tsV) .ro),(1,.im (.string s))]) (by rfl) ?_
 refine wG TI TI ?_
 refine AR.callP h TI (A5 nP @aC @aN @aE @aO) ?_
 refine goG TI TI ?_
 rw[uJ]
 refine wG TI TI ?_
 exact aD
def BN02:=A8 @aC @aN @aE @aO nP aJ aK aV
def BN04:=A14 @aC @aN @aE @aO nP aJ aK aV fU gQ eJ jX sX nT
def BN05:=A12 @aC @aN @aE @aO nP aJ aK aV fU gQ eJ jX
def Qd:=A8 @aQ @aR @bE @bD iP bL bQ cG
def OH:=A7 @aQ @aR @bE @bD iP bL bQ
def symT(vs:List Va)(fs ls:List ByteArray)(s:Nd):Bool:=s.e.all (knw vs)&&(if s.kind==1||s.kind==3 then has vs s.name else if s.kind==5 then fs.any (fun x=>eqS s.name x)else if s.kind==12 then ls.any (fun x=>eqS s.name x)else true)
def gL:=A16 @cN @Lq @iL @fM @Lm @dN @jV @gT @To @Tn @Fq @iE @mD @iV @cM (A5 @Li @iJ @dP @Lg @cY)
theorem Zo(vs:List Va)(hv:vs.length≤4194304)(fs ls sn:List ByteArray)(hfs:fs.length≤4194304)(hls:ls.length≤4194304)(s:Nd)(hf:fitN s)(hfm: ∀x∈s.e,efm x=true):DC Tryz.prog 164 [.pt 0 0,ndV s] [.box [(V.fn (.func 154) [] [.pt 1 0]),.sl (fs.map tsV) .ro,.sl (ls.map tsV) (.own 2),.sl ((sn).map tsV) (.own 3)],.box [(V.sl (vs.map vaV) .ro)],.tip 9 1 ls.length,.tip 9 1 (sn).length] (.im (.bool (symT vs fs ls s))) [.box [(V.fn (.func 154) [] [.pt 1 0]),.sl (fs.map tsV) .ro,.sl (ls.map tsV) (.own 2),.sl ((sn).map tsV) (.own 3)],.box [(V.sl (vs.map vaV) .ro)],.tip 9 1 ls.length,.tip 9 1 (sn).length]:=by
 obtain⟨hI,hsz,⟨he1,he2⟩,h4,h5,h6,h7⟩:=dR hf
 have h1:=Ey vs hv s.name
 have h2:=oY fs hfs s.name
 have h3:=oY ls hls s.name
 refine DC.enter 52 Tryz.func164 rfl (by decide) rfl rfl (s:=[(0,.pt 0 0),(1,ndV s)]) (by rfl) ?_
 rw[eS s]
 refine wG gL TI ?_
 refine aW ?_
 refine ALp.cutP 5 [(0,.pt 0 0),(3,.pt 4 0),(4,(.im (.bool (false)))),(8,.sl (s.e.map exV) .ro),(9,(.im (.int .i64 (s.e.length)))),(10,(.im (.int .i64 ((((0:Nat)):Int)))))] [.box [(V.fn (.func 154) [] [.pt 1 0]),.sl (fs.map tsV) .ro,.sl (ls.map tsV) (.own 2),.sl ((sn).map tsV) (.own 3)],.box [(V.sl (vs.map vaV) .ro)],.tip 9 1 ls.length,.tip 9 1 (sn).length,.box [.im (.int .i64 (s).kind),.im (.int .i64 (s).width),.im (.string (s).name),.sl ((s).e.map exV) .ro,.sl ((s).l.map ndV) .ro,.sl ((s).el.map ndV) .ro,.sl ((s).cs.map nlV) .ro]] BN02 ?_
 refine ALp.upto s.e.length (AllTo (knw vs) s.e) (fun m=>⟨dn 52 [(0,.pt 0 0),(3,.pt 4 0),(4,(.im (.bool (false)))),(8,.sl (s.e.map exV) .ro),(9,(.im (.int .i64 (s.e.length)))),(10,(.im (.int .i64 ((((m:Nat)):Int)))))],ofl [.box [(V.fn (.func 154) [] [.pt 1 0]),.sl (fs.map tsV) .ro,.sl (ls.map tsV) (.own 2),.sl ((sn).map tsV) (.own 3)],.box [(V.sl (vs.map vaV) .ro)],.tip 9 1 ls.length,.tip 9 1 (sn).length,.box [.im (.int .i64 (s).kind),.im (.int .i64 (s).width),.im (.string (s).name),.sl ((s).e.map exV) .ro,.sl ((s).l.map ndV) .ro,.sl ((s).el.map ndV) .ro,.sl ((s).cs.map nlV) .ro]]⟩) ?_ 0 (Nat.zero_le _) (AllTo.zero _ _)
 intro m hm hI hnext
 by_cases hlt:m<s.e.length
 ·have hlt':(m:Int)<(s.e.length:Int):=by omega
  have hm1:=aT hlt (by omega)
  have hg:=bJ hlt;have hc:=NA vs hv s.e[m] (he2 _ (List.getElem_mem hlt)) (hfm _ (List.getElem_mem hlt));refine wdG gL (A3 hlt' hg EX) ?_;cases b:knw vs s.e[m]with
  | false =>
   rw[b]at hc;have hr:symT vs fs ls s=false:=by unfold symT;rw[nR hlt b,Bool.false_and]
   rw[hr];refine cC [1] hc @bK BN02 OH ?_;refine goG gL TI ?_;refine wdG gL TI ?_;exact bP BN02
  | true =>
   rw[b]at hc;refine cC [1] hc @bK BN02 OH ?_;refine goG gL TI ?_;refine wdG gL hm1 ?_;refine ALp.cutP 5 [(0,.pt 0 0),(3,.pt 4 0),(4,(.im (.bool (false)))),(8,.sl (s.e.map exV) .ro),(9,(.im (.int .i64 (s.e.length)))),(10,(.im (.int .i64 ((((m+1:Nat)):Int)))))] [.box [(V.fn (.func 154) [] [.pt 1 0]),.sl (fs.map tsV) .ro,.sl (ls.map tsV) (.own 2),.sl ((sn).map tsV) (.own 3)],.box [(V.sl (vs.map vaV) .ro)],.tip 9 1 ls.length,.tip 9 1 (sn).length,.box [.im (.int .i64 (s).kind),.im (.int .i64 (s).width),.im (.string (s).name),.sl ((s).e.map exV) .ro,.sl ((s).l.map ndV) .ro,.sl ((s).el.map ndV) .ro,.sl ((s).cs.map nlV) .ro]] BN02 ?_;exact hnext (m+1) (by omega) (by omega) (hI.succ hlt b)
 obtain rfl:m=s.e.length:=by omega
 clear hnext
 have hall:s.e.all (knw vs)=true:=List.all_eq_true.2 fun x hx=>by
  obtain⟨j,hj,rfl⟩:=List.getElem_of_mem hx;exact hI j hj hj
 unfold symT
 rw[hall,Bool.true_and]
 by_cases k1:s.kind=1
 ·rw[if_pos (by simp[k1])]
  refine wdG gL (AI @Int.lt_irrefl k1) ?_;refine cC [1] h1 TI BN02 OH ?_;refine goG gL TI ?_;refine wdG gL TI ?_;exact bP BN02
 by_cases k3:s.kind=3
 ·rw[if_pos (by simp[k3])]
  refine wdG gL (AI @Int.lt_irrefl k3) ?_;refine cC [1] h1 TI BN02 OH ?_;refine goG gL TI ?_;refine wdG gL TI ?_;exact bP BN02
 rw[if_neg (by simp[k1,k3])]
 by_cases k5:s.kind=5
 ·rw[if_pos (by simp[k5])]
  refine wdG gL (AI @Int.lt_irrefl k5) ?_;refine AR.callP h2 TI BN02 ?_;refine goG gL TI ?_;refine wdG gL TI ?_;exact bP BN02
 rw[if_neg (by simp[k5])]
 by_cases k12:s.kind=12
 ·rw[if_pos (by simp[k12])]
  refine wdG gL (AI @Int.lt_irrefl k12) ?_;refine dD h3 TI BN02 ?_;refine goG gL TI ?_;refine wdG gL TI ?_;exact bP BN02
 rw[if_neg (by simp[k12])]
 refine wdG gL (A5 @Int.lt_irrefl k1 k3 k5 k12) ?_
 exact bP BN02
def Kz:=AI @fM @dP
theorem HY{x:Ex}{r:Bool}(h:PC Tryz.prog 73 [exV x,(.im (.int .i64 (64)))] (.im (.bool (r)))):PC Tryz.prog 163 [exV x] (.im (.bool (!r))):=by
 refine PC.enter 6 Tryz.func163 rfl (by decide) rfl rfl (s:=[(0,exV x)]) (by rfl) ?_
 rw[bK x]at h ⊢
 refine wG Kz TI ?_
 refine AR.callP h TI BN02 ?_
 refine goG Kz TI ?_
 refine wG Kz TI ?_
 exact aD
def scnR(s:Bs):List Tk×Int:=if 65536<s.length then([],6)else((Qz s).1,if(Qz s).2 then 0 else 3)
def fG:=A16 @oL @cN @Ce @dN @Qc @jO @Py @pC @mF @wT @wS @Fs @wR @wQ @Pu (A6 @tW @gR @cM @Bx @cY @gV)
set_option maxHeartbeats 2000000 in
theorem Ss(s:Bs)(hs:s.length≤4194304):PC Tryz.prog 28 [.im (.string ⟨(s).toArray⟩)] (.tu [.sl ((scnR s).1.map tkV) .ro,.im (.int .i64 (scnR s).2)]):=by
 by_cases hbig:65536<s.length
 ·have hb:(s.length:Int)>65536:=by omega
  rw[show scnR s=([],6)from if_pos hbig]
  refine PC.enter 73 Tryz.func28 rfl (by decide) rfl rfl (s:=[(0,.im (.string ⟨(s).toArray⟩))]) (by rfl) ?_
  refine wG fG (A3 BY dE hb) ?_;refine aI (rs:=[.tmp 2,.tmp 3]) rfl (by first|exact .inl rfl|exact .inr rfl) (finG fG) ?_
  all_goals exact wkG (A3 bC aX aB)
 have hb: ¬(s.length:Int)>65536:=by omega
 rw[show scnR s=((Qz s).1,if(Qz s).2 then 0 else 3)from if_neg hbig]
 refine PC.enter 73 Tryz.func28 rfl (by decide) rfl rfl (s:=[(0,.im (.string ⟨(s).toArray⟩))]) (by rfl) ?_
 refine AWp.seq ?_
 refine AWp.tail (fun _:Unit=>⟨dn 73 [(0,.im (.string ⟨(s).toArray⟩)),(2,.sl [] .nl),(3,.im (.int .i64 0))],ofl []⟩) (fun _=> ?_) (fun rest ht=> ?_)
 case refine_2 =>
  refine wG fG TI ?_;refine AWp.cutP 0 [(0,.im (.string ⟨(s).toArray⟩)),(2,.sl [] .nl),(3,.im (.int .i64 0))] [] (A4 bC aX aB TI) ?_;exact ht ()
 refine AWp.seq ?_
 refine AWp.tail (fun _:Unit=>⟨dn 73 [(0,.im (.string ⟨(s).toArray⟩)),(2,.sl [] .nl),(3,.im (.int .i64 0))],ofl []⟩) (fun _=> ?_) (fun rest ht=> ?_)
 case refine_2 =>
  refine wG fG (A3 BY dE hb) ?_;refine AWp.cutP 0 [(0,.im (.string ⟨(s).toArray⟩)),(2,.sl [] .nl),(3,.im (.int .i64 0))] [] (A4 bC aX aB TI) ?_;exact ht ()
 refine AWp.seq ?_
 refine AWp.tail (fun _:Unit=>⟨dn 73 [(0,.im (.string ⟨(s).toArray⟩)),(2,.sl [] .nl),(3,.im (.int .i64 0)),(4,.pt 0 0)],ofl [.box [.im (.string ⟨(s).toArray⟩),(.im (.int .i64 (1))),(.im (.int .i64 (1))),.sl [] .nl]]⟩) (fun _=> ?_) (fun rest ht=> ?_)
 case refine_2 =>
  refine wG fG BY ?_;refine AWp.cutP 1 [(0,.im (.string ⟨(s).toArray⟩)),(2,.sl [] .nl),(3,.im (.int .i64 0)),(4,.pt 0 0)] [.box [.im (.string ⟨(s).toArray⟩),(.im (.int .i64 (1))),(.im (.int .i64 (1))),.sl [] .nl]] (A4 bC aX aB TI) ?_;exact ht ()
 refine AWp.ghostB 0 3 [.im (.string ⟨(s).toArray⟩),(.im (.int .i64 (1))),(.im (.int .i64 (1))),.sl [] .nl] 122 5 ?_
 have qb:=Vt s (1,1) [] (by decide) (by decide) hs
 refine wG fG TI ?_
 refine aA [0,1] qb TI (A3 bC aX aB) (A3 eW eX cK) ?_
 refine goG fG TI ?_
 refine wG fG TI ?_
 refine aW ?_
 suffices H: ∀(k f:Nat) (x:Bs) (q:Int×Int) (ts:List Tk),x.length=k→x.length<f→skpG false x=x→Qz s=(ts++(qB f x q).1,(qB f x q).2)→ts.length+x.length≤s.length →
   (x=s.drop (s.length-x.length))→(q=advs (1,1) (s.take (s.length-x.length)))→ALp _ _ _ _ _ ⟨dn 73 [(0,.im (.string ⟨(s).toArray⟩)),(4,.pt 0 0)],ofl [.box [.im (.string ⟨(x).toArray⟩),(.im (.int .i64 (q.1))),(.im (.int .i64 (q.2))),.sl (ts.map tkV) (.mine 1)],.tip 122 5 ts.length]⟩ by
  refine ALp.cutP 2 [(0,.im (.string ⟨(s).toArray⟩)),(4,.pt 0 0)] [.box [.im (.string ⟨(skpG false s).toArray⟩),(.im (.int .i64 ((skq s (1,1)).1))),(.im (.int .i64 ((skq s (1,1)).2))),.sl (([]:List Tk).map tkV) (.mine 1)],.tip 122 5 ([]:List Tk).length] (A3 bC aX aB) ?_;exact H _ (s.length+1) _ _ [] rfl (by have:=pJ false s;omega) (mS s false) (by rw[List.nil_append,←Mu];rfl) (by have:=pJ false s;simp;exact this) (List.suffix_iff_eq_drop.1 (uC s false)) rfl
 intro k
 induction k using Nat.strongRecOn with
 | _ k ih =>
 intro f x q ts hk hf hx hE hts hq1 hq2
 refine dA ?_
 cases x with
 | nil =>
  have e0:(([]:Bs)==[])=true:=rfl;rw[DJ,List.append_nil]at hE;rw[hE];clear ih;refine wG fG (AI BY e0) ?_;refine aI (rs:=[.tmp 2,.tmp 3]) rfl (by first|exact .inl rfl|exact .inr rfl) (finG fG) ?_
  all_goals exact wkG (A3 bC aX aB)
 | cons c r =>
 have e0:((c::r)==([]:Bs))=false:=rfl
 have hxl:(c::r).length≤4194304:=by omega
 have qn:=TN (c::r) q ts hxl (by simp)
 cases f with
 | zero=>omega
 | succ f =>
 have hN:=KN (f:=f) hx (by simp)
 have hY:=KM (f:=f) hx (by simp)
 have hlen:=EN (s:=c::r) (by simp)
 generalize nxtR (c::r)=v at qn hN hY hlen
 obtain⟨tk,n,b⟩:=v
 have hal:ts.length+1≤140737488355328:=by rw[List.length_cons]at hts;omega
 cases b with
 | false =>
  rw[hN rfl q]at hE;rw[hE];obtain⟨B,hB⟩: ∃B,B=ts++[(⟨6,[],0,q.1,q.2⟩:Tk)]:=⟨_,rfl⟩
  have hAs:ts.map tkV++[V.ag [.im (.int .i64 6),.im (.string ByteArray.empty),.im (.int .u32 0),.im (.int .i64 q.1),.im (.int .i64 q.2)]]=B.map tkV:=by rw[hB,List.map_append];rfl
  have hAl:ts.length+1=B.length:=by rw[hB];simp
  have hbl:B.length*48≤140737488355328:=by rw[List.length_cons]at hts;omega
  simp only[←hB];clear ih hN hY hlen;refine wG fG (AI BY e0) ?_;refine cC [0,1] qn TI (A3 bC aX aB) (A3 eW eX cK) ?_;refine goG fG TKT ?_;refine wG fG TKT ?_;refine wdG fG (A7 BY GDS TKT hAs hAl hbl @List.length_map.{0,0}) ?_;refine aI (rs:=[.tmp 2,.tmp 3]) rfl (by first|exact .inl rfl|exact .inr rfl) (finG fG) ?_
  all_goals exact wkG (A3 bC aX aB)
 | true =>
  rw[hY rfl q]at hE;have hn:=hlen rfl;clear hN hY hlen;simp only at hn hE;obtain⟨B,hB⟩: ∃B,B=ts++[tk.at_ q]:=⟨_,rfl⟩
  have hAs:ts.map tkV++[V.ag [.im (.int .i64 tk.kind),.im (.string ⟨tk.text.toArray⟩),.im (.int .u32 tk.n),.im (.int .i64 q.1),.im (.int .i64 q.2)]]=B.map tkV:=by rw[hB,List.map_append];rfl
  have hAl:ts.length+1=B.length:=by rw[hB];simp
  have hbl:B.length*48≤140737488355328:=by rw[List.length_cons]at hts;omega
  obtain⟨a,ha⟩: ∃a,a=s.length-(c::r).length:=⟨_,rfl⟩
  rw[←ha]at hq1 hq2;have hal2:a+(c::r).length=s.length:=by omega
  have hbq:=rM (s.take a) (1,1) (by decide) (by decide)
  rw[←hq2,List.length_take]at hbq;have hs1:=HC (c::r) q B n hn.2 (by omega) (by omega) hxl
  have hq3:advs q ((c::r).take n)=advs (1,1) (s.take (a+n)):=by rw[hq2,hq1];exact zX (1,1) s a n
  have hx3:(c::r).drop n=s.drop (a+n):=by rw[hq1,List.drop_drop]
  have hbq2:=rM (s.take (a+n)) (1,1) (by decide) (by decide)
  rw[List.length_take]at hbq2;rw[hq3]at hs1 hE;rw[hx3]at hs1 hE;have hyl:(s.drop (a+n)).length=s.length-(a+n):=List.length_drop;have hs2:=Vt (s.drop (a+n)) (advs (1,1) (s.take (a+n))) B (by omega) (by omega) (by omega)
  have hle:=pJ false (s.drop (a+n))
  have hq4:skq (s.drop (a+n)) (advs (1,1) (s.take (a+n)))=advs (1,1) (s.take (s.length-(skpG false (s.drop (a+n))).length)):=by
   unfold skq;rw[zX,hyl,show a+n+(s.length-(a+n)-(skpG false (s.drop (a+n))).length)=s.length-(skpG false (s.drop (a+n))).length by omega]
  have hE2:Qz s=(B++(qB f (skpG false (s.drop (a+n))) (skq (s.drop (a+n)) (advs (1,1) (s.take (a+n))))).1,(qB f (skpG false (s.drop (a+n))) (skq (s.drop (a+n)) (advs (1,1) (s.take (a+n))))).2):=by
   rw[←Mu,hE,hB,List.append_assoc];rfl
  have hrec:=ih (skpG false (s.drop (a+n))).length (by omega) f _ _ B rfl (by omega) (mS _ false) hE2 (by omega) (List.suffix_iff_eq_drop.1 ((uC _ false).trans (List.drop_suffix _ _))) hq4
  clear ih hE hE2 hq4 hle hyl hbq hbq2 hq3 hx3 hq1 hq2 hts;generalize skq (s.drop (a+n)) (advs (1,1) (s.take (a+n)))=q4 at hs2 hrec;generalize skpG false (s.drop (a+n))=x4 at hs2 hrec;generalize advs (1,1) (s.take (a+n))=q3 at hs1 hs2;generalize s.drop (a+n)=x3 at hs1 hs2;refine wG fG (AI BY e0) ?_;refine cC [0,1] qn TI (A3 bC aX aB) (A3 eW eX cK) ?_;refine goG fG TKT ?_;refine wG fG TKT ?_;refine wdG fG (A7 BY GDS TKT hAs hAl hbl @List.length_map.{0,0}) ?_;refine aA [0,1] hs1 TI (A3 bC aX aB) (A3 eW eX cK) ?_;refine goG fG TI ?_;refine wG fG TI ?_;refine aA [0,1] hs2 TI (A3 bC aX aB) (A3 eW eX cK) ?_;refine goG fG TI ?_;refine wG fG TI ?_;refine ALp.cutP 2 [(0,.im (.string ⟨(s).toArray⟩)),(4,.pt 0 0)] [.box [.im (.string ⟨(x4).toArray⟩),(.im (.int .i64 (q4.1))),(.im (.int .i64 (q4.2))),.sl (B.map tkV) (.mine 1)],.tip 122 5 B.length] (A3 bC aX aB) ?_;exact hrec
end Go.Proofs.YtmbmmckagcdapaaGreatDoor
