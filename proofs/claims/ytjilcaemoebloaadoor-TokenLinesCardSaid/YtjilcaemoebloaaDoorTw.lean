/- Library: contracts of the shelf, said on trees. -/
import Derived.Test.YtjilcaemoebloaaDoorCt
import Derived.Test.YtjilcaemoebloaaDoorTv
namespace Go.Proofs.YtjilcaemoebloaaDoor
set_option linter.unusedSimpArgs false
set_option linter.unusedVariables false
set_option linter.unnecessarySimpa false
open Go.RowKit Go.Shelf
theorem args_im {C : Cf} {az : List Value} {vs : Array Value} (hs : vs.size = (az.map V.im).length) (hR : ∀ i (hi : i < (az.map V.im).length), R C (az.map V.im)[i] (vs.getD i undef)) : vs = az.toArray := by
  refine Array.ext (by simpa using hs) fun i h1 h2 => ?_
  have h3 : i < az.length := by simpa using h2
  have := (hR i (by simpa using h3))
  simp only [List.getElem_map] at this
  have e := this.im_eq
  simp [Array.getD, h1] at e
  simpa using e
/-- A function that leaves the world as it is. -/
theorem PC.ofIm {P : Program} {f : FuncId} {az : List Value} {v : Value} (hf : goFn P f = true) (hv : v.oneCell' = true) (h : ∀ C : Cf, Ok C → Calls P f az.toArray C.w fun e w' => e = .returned v ∧ w' = C.w) : PC P f (az.map V.im) (.im v) := by
  refine ⟨hf, fun C vs hst hC hsz hR => ?_⟩
  rw [args_im hsz hR]
  refine (h C hC).mono ?_
  rintro e w' ⟨rfl, rfl⟩
  exact ⟨_, _, stF, rfl, ⟨rfl, rfl⟩, C, rfl, hst, hC, Ev.refl C, .im hv⟩
theorem c_indexB (l : Bs) (c : UInt8) : PC Tryd.prog 69 [.im (.string ⟨l.toArray⟩), .im (.int .u8 c.toNat)] (.im (.int .i64 (Lib.indexByte l c))) :=
  PC.ofIm (az := [.string ⟨l.toArray⟩, .int .u8 c.toNat]) (by kernel_rfl) rfl fun C _ => by
    have h := Any.stringslite_IndexByte { Tryd.laysM144 with } ⟨l.toArray⟩ c.toNat C.w
    rw [show ((c.toNat : Int)).toNat.toUInt8 = c by simp] at h
    exact h
theorem c_index1 (l : Bs) (c : UInt8) : PC Tryd.prog 36 [.im (.string ⟨l.toArray⟩), .im (.string ⟨#[c]⟩)] (.im (.int .i64 (Lib.indexByte l c))) :=
  PC.ofIm (az := [.string ⟨l.toArray⟩, .string ⟨#[c]⟩]) (by kernel_rfl) rfl fun C _ => by
    exact Any.strings_Index_one { Tryd.laysM144 with } ⟨l.toArray⟩ c C.w
end Go.Proofs.YtjilcaemoebloaaDoor
