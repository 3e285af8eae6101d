import Derived.Test.YtmbmmckagcdapaaGreatDoorQ16
set_option linter.all false
namespace Go.Proofs.YtmbmmckagcdapaaGreatDoor
open Go.RowKit Go.Shelf
theorem Nl{C:Cf}{az:List Value}{vs:Array Value}(hs:vs.size=(az.map V.im).length)(hR: ∀i (hi:i<(az.map V.im).length),R C (az.map V.im)[i] (vs.getD i undef)):vs=az.toArray:=by
 refine Array.ext (by simpa using hs) fun i h1 h2=> ?_
 have h3:i<az.length:=by simpa using h2
 have:=(hR i (by simpa using h3))
 simp only[List.getElem_map]at this
 have e:=this.im_eq
 simp[Array.getD,h1]at e
 simpa using e
theorem Od{P:Program}{f:FuncId}{az:List Value}{v:Value}(hf:Bj P f=true)(hv:v.oneCell'=true)(h: ∀C:Cf,Ok C→Calls P f az.toArray C.w fun e w'=>e= .returned v∧w'=C.w):PC P f (az.map V.im) (.im v):=by
 refine⟨hf,fun C vs hst hC hsz hR=> ?_⟩
 rw[Nl hsz hR]
 refine(h C hC).mono ?_
 rintro e w' ⟨rfl,rfl⟩
 exact⟨_,_,stF,rfl,⟨rfl,rfl⟩,C,rfl,hst,hC,Ev.refl C,.im hv⟩
theorem KS(l:Bs)(c:UInt8):PC Tryz.prog 241 [.im (.string ⟨l.toArray⟩),.im (.int .u8 c.toNat)] (.im (.int .i64 (Lib.indexByte l c))) :=
 Od (az:=[.string ⟨l.toArray⟩,.int .u8 c.toNat]) (by kernel_rfl) rfl fun C _=>by
  have h:=Any.stringslite_IndexByte {Tryz.laysM144 with} ⟨l.toArray⟩ c.toNat C.w
  rw[show((c.toNat:Int)).toNat.toUInt8=c by simp]at h
  exact h
theorem KT(l:Bs)(c:UInt8):PC Tryz.prog 132 [.im (.string ⟨l.toArray⟩),.im (.string ⟨#[c]⟩)] (.im (.int .i64 (Lib.indexByte l c))) :=
 Od (az:=[.string ⟨l.toArray⟩,.string ⟨#[c]⟩]) (by kernel_rfl) rfl fun C _=>by
  exact Any.strings_Index_one {Tryz.laysM144 with} ⟨l.toArray⟩ c C.w
end Go.Proofs.YtmbmmckagcdapaaGreatDoor
