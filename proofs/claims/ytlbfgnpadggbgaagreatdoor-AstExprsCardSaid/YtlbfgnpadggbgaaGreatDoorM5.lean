/- Contracts of library functions at this program: the plain text of the shelf. The shelf's contracts as contracts on trees: strings.Join without a separator, strings.Repeat, strings.Fields, strconv.Itoa. -/
import Derived.Shelf.Strings.Builder1
import Derived.Shelf.Strings.Builder2
import Derived.Shelf.Strings.OnBuilder
import Derived.Shelf.Strings.BuilderF
import Derived.Shelf.Strings.BuilderK
import Derived.Shelf.Strconv.Itoa0
import Derived.Shelf.Strconv.Itoa1
import Derived.Shelf.LaysM
import Derived.Shelf.Strconv.Itoa2
import Derived.Shelf.Strconv.Itoa3
import Derived.Shelf.Strings.Search1
import Derived.Shelf.Strings.Search2
import Derived.Shelf.Strings.Search3
import Derived.Shelf.Strings.Shaped
import Derived.Shelf.Strings.Prefix
import Derived.Shelf.Strings.Fields
import Derived.Shelf.Unicode.Latin
import Derived.Shelf.Bits.Mul64
import Derived.Shelf.Strings.Repeat
import Derived.Shelf.Unicode.Is16White
import Derived.Shelf.Unicode.IsSpaceAny
import Derived.Shelf.Unicode.Is16Any
import Derived.Shelf.Unicode.Is32Any
import Derived.Shelf.Unicode.ExclAny
import Derived.Test.YtlbfgnpadggbgaaGreatDoorProg
import Derived.Test.YtlbfgnpadggbgaaGreatDoorM3
import Derived.Test.YtlbfgnpadggbgaaGreatDoorTa
import Derived.Lib.LaidTab
import Derived.Lib.SmallJoins
namespace Go.Proofs
open Go.Shelf
def Tryz.lays156_ren : Go.Shelf.Ren := ⟨fun | 156 => 63 | 165 => 80 | 166 => 72 | 169 => 25 | 240 => 83 | 241 => 97 | 276 => 99 | 277 => 113 | n => n, fun | 31 => 58 | 9 => 9 | 3 => 3 | 4 => 4 | 0 => 0 | 20 => 20 | 72 => 53 | 76 => 108 | 70 => 50 | 37 => 51 | 75 => 107 | 127 => 90 | 164 => 152 | 5 => 5 | 80 => 57 | n => n, fun | n => n⟩
theorem Tryz.lays156 : Go.Proofs.Lays.n156 Tryz.prog Tryz.lays156_ren := {
  mixed := by kernel_rfl
  f156 := Tryz.func63.trans (congrArg some (by kernel_rfl))
  f165 := Tryz.func80.trans (congrArg some (by kernel_rfl))
  f166 := Tryz.func72.trans (congrArg some (by kernel_rfl))
  f169 := Tryz.func25.trans (congrArg some (by kernel_rfl))
  f240 := Tryz.func83.trans (congrArg some (by kernel_rfl))
  f241 := Tryz.func97.trans (congrArg some (by kernel_rfl))
  f276 := Tryz.func99.trans (congrArg some (by kernel_rfl))
  f277 := Tryz.func113.trans (congrArg some (by kernel_rfl))
  t0 := Tryz.underlying0
  a0 := Tryz.isAgg0
  z0 := Tryz.sizeOf0
  v0 := Tryz.zeroValue0
  t3 := Tryz.underlying3
  a3 := Tryz.isAgg3
  z3 := Tryz.sizeOf3
  v3 := Tryz.zeroValue3
  t4 := Tryz.underlying4
  a4 := Tryz.isAgg4
  z4 := Tryz.sizeOf4
  v4 := Tryz.zeroValue4
  t9 := Tryz.underlying9
  a9 := Tryz.isAgg9
  z9 := Tryz.sizeOf9
  v9 := Tryz.zeroValue9
  t20 := Tryz.underlying20
  a20 := Tryz.isAgg20
  z20 := Tryz.sizeOf20
  v20 := Tryz.zeroValue20
  t31 := Tryz.underlying58
  a31 := Tryz.isAgg58
  z31 := Tryz.sizeOf58
  v31 := Tryz.zeroValue58
  t37 := Tryz.underlying51
  a37 := Tryz.isAgg51
  z37 := Tryz.sizeOf51
  v37 := Tryz.zeroValue51
  t70 := Tryz.underlying50
  a70 := Tryz.isAgg50
  z70 := Tryz.sizeOf50
  v70 := Tryz.zeroValue50
  t72 := Tryz.underlying53
  a72 := Tryz.isAgg53
  z72 := Tryz.sizeOf53
  v72 := Tryz.zeroValue53
  t75 := Tryz.underlying107
  a75 := Tryz.isAgg107
  z75 := Tryz.sizeOf107
  v75 := Tryz.zeroValue107
  t76 := Tryz.underlying108
  a76 := Tryz.isAgg108
  z76 := Tryz.sizeOf108
  v76 := Tryz.zeroValue108
  t127 := Tryz.underlying90
  a127 := Tryz.isAgg90
  z127 := Tryz.sizeOf90
  v127 := Tryz.zeroValue90
  t164 := Tryz.underlying152
  a164 := Tryz.isAgg152
  z164 := Tryz.sizeOf152
  v164 := Tryz.zeroValue152 }
theorem Tryz.Builder_Extra_156 : Builder.Extra Tryz.prog Tryz.lays156_ren := {
  sizeBuilder := by kernel_rfl
  liesBuilder := by kernel_rfl
  t5 := Tryz.underlying5
  a5 := Tryz.isAgg5
  z5 := Tryz.sizeOf5
  v5 := Tryz.zeroValue5
  infoByte := by kernel_rfl
  cellsByte := by kernel_rfl
  sizeByte := by kernel_rfl
  neB5 := by decide }
open Go.RowKit in
/-- No element: the empty string; the world is as it was. (Whatever the slice's address and capacity: a nil slice too.) (LAID: no walk: one application.) -/
theorem Tryz.strings_Join_none (a : Option Addr) (c : Nat) (sep : ByteArray) (w : World) :
    Calls Tryz.prog 63 #[.slice a 0 c, .string sep] w fun e w' => e = .returned (.string ⟨#[]⟩) ∧ w' = w := Any.strings_Join_none Tryz.lays156 Tryz.Builder_Extra_156 a c sep w
open Go.RowKit in
/-- strings.Join: "Join concatenates the elements of its first argument to create a single string. The separator string sep is placed between elements in the resulting string.": HOWEVER MANY ELEMENTS. Below the heap's end the world is as it was. (LAID: no walk: one application.) -/
theorem Tryz.strings_Join (bk o c : Nat) (xs : List ByteArray) (sep : ByteArray) (w : World) (hcells : ∀ (j : Nat) x, xs[j]? = some x → w.cell? ⟨bk, o + j, none⟩ = some (.string x)) (hbk : bk < w.heap.size) (hN : xs.length ≤ 140737488355328) (hcap : xs.length ≤ c) (hlen : (Lib.join (xs.map (·.data.toList)) sep.data.toList).length ≤ 140737488355328) :
    Calls Tryz.prog 63 #[.slice (some ⟨bk, o, none⟩) xs.length c, .string sep] w fun e w' => e = .returned (.string ⟨(Lib.join (xs.map (·.data.toList)) sep.data.toList).toArray⟩) ∧ Below w.heap.size w w' := Any.strings_Join Tryz.lays156 Tryz.Builder_Extra_156 bk o c xs sep w hcells hbk hN hcap hlen
def Tryz.laysM171_ren : Go.Shelf.Ren := ⟨fun | 171 => 38 | 243 => 61 | 246 => 78 | 283 => 93 | 284 => 94 | 285 => 95 | 286 => 96 | 129 => 109 | 317 => 108 | 318 => 110 | 319 => 111 | 320 => 112 | 337 => 116 | 338 => 117 | n => n, fun | 3 => 3 | 9 => 9 | 2 => 2 | 4 => 4 | 171 => 145 | 0 => 0 | 53 => 99 | 37 => 51 | 5 => 5 | 173 => 148 | 212 => 164 | 51 => 22 | 20 => 20 | 213 => 165 | 46 => 125 | 232 => 171 | 233 => 172 | n => n, fun | 17 => 3 | 18 => 4 | 19 => 5 | n => n⟩
theorem Tryz.laysM171 : Go.Proofs.LaysM.n171 Tryz.prog Tryz.laysM171_ren := {
  mixed := by kernel_rfl
  f129 := Tryz.func109.trans (congrArg some (by kernel_rfl))
  f171 := Tryz.func38.trans (congrArg some (by kernel_rfl))
  f243 := Tryz.func61.trans (congrArg some (by kernel_rfl))
  f246 := Tryz.func78.trans (congrArg some (by kernel_rfl))
  f283 := Tryz.func93.trans (congrArg some (by kernel_rfl))
  f284 := Tryz.func94.trans (congrArg some (by kernel_rfl))
  f285 := Tryz.func95.trans (congrArg some (by kernel_rfl))
  f286 := Tryz.func96.trans (congrArg some (by kernel_rfl))
  f317 := Tryz.func108.trans (congrArg some (by kernel_rfl))
  f318 := Tryz.func110.trans (congrArg some (by kernel_rfl))
  f319 := Tryz.func111.trans (congrArg some (by kernel_rfl))
  f320 := Tryz.func112.trans (congrArg some (by kernel_rfl))
  f337 := Tryz.func116.trans (congrArg some (by kernel_rfl))
  f338 := Tryz.func117.trans (congrArg some (by kernel_rfl))
  t0 := Tryz.underlying0
  a0 := Tryz.isAgg0
  z0 := Tryz.sizeOf0
  v0 := Tryz.zeroValue0
  t2 := Tryz.underlying2
  a2 := Tryz.isAgg2
  z2 := Tryz.sizeOf2
  v2 := Tryz.zeroValue2
  t3 := Tryz.underlying3
  a3 := Tryz.isAgg3
  z3 := Tryz.sizeOf3
  v3 := Tryz.zeroValue3
  t4 := Tryz.underlying4
  a4 := Tryz.isAgg4
  z4 := Tryz.sizeOf4
  v4 := Tryz.zeroValue4
  t5 := Tryz.underlying5
  a5 := Tryz.isAgg5
  z5 := Tryz.sizeOf5
  v5 := Tryz.zeroValue5
  t9 := Tryz.underlying9
  a9 := Tryz.isAgg9
  z9 := Tryz.sizeOf9
  v9 := Tryz.zeroValue9
  t20 := Tryz.underlying20
  a20 := Tryz.isAgg20
  z20 := Tryz.sizeOf20
  v20 := Tryz.zeroValue20
  t37 := Tryz.underlying51
  a37 := Tryz.isAgg51
  z37 := Tryz.sizeOf51
  v37 := Tryz.zeroValue51
  t46 := Tryz.underlying125
  a46 := Tryz.isAgg125
  z46 := Tryz.sizeOf125
  v46 := Tryz.zeroValue125
  t51 := Tryz.underlying22
  a51 := Tryz.isAgg22
  z51 := Tryz.sizeOf22
  v51 := Tryz.zeroValue22
  t53 := Tryz.underlying99
  a53 := Tryz.isAgg99
  z53 := Tryz.sizeOf99
  v53 := Tryz.zeroValue99
  t171 := Tryz.underlying145
  a171 := Tryz.isAgg145
  z171 := Tryz.sizeOf145
  v171 := Tryz.zeroValue145
  t173 := Tryz.underlying148
  a173 := Tryz.isAgg148
  z173 := Tryz.sizeOf148
  v173 := Tryz.zeroValue148
  t212 := Tryz.underlying164
  a212 := Tryz.isAgg164
  z212 := Tryz.sizeOf164
  v212 := Tryz.zeroValue164
  t213 := Tryz.underlying165
  a213 := Tryz.isAgg165
  z213 := Tryz.sizeOf165
  t232 := Tryz.underlying171
  a232 := Tryz.isAgg171
  z232 := Tryz.sizeOf171
  v232 := Tryz.zeroValue171
  t233 := Tryz.underlying172
  a233 := Tryz.isAgg172
  z233 := Tryz.sizeOf172
  v233 := Tryz.zeroValue172
  g17 := by kernel_rfl
  g18 := by kernel_rfl
  g19 := by kernel_rfl
  i0 := by kernel_rfl
  i2 := by kernel_rfl
  i3 := by kernel_rfl
  i4 := by kernel_rfl
  i5 := by kernel_rfl
  i9 := by kernel_rfl
  i20 := by kernel_rfl
  i37 := by kernel_rfl
  i46 := by kernel_rfl
  i51 := by kernel_rfl
  i53 := by kernel_rfl
  i171 := by kernel_rfl
  i173 := by kernel_rfl
  i212 := by kernel_rfl
  i232 := by kernel_rfl
  i233 := by kernel_rfl
  m17 := by kernel_rfl
  m18 := by kernel_rfl
  m19 := by kernel_rfl }
open Go.RowKit Go.Sort Go.Lib in
/-- strconv.Itoa: "Itoa is equivalent to FormatInt(int64(i), 10).": i's DECIMAL NUMERAL ('Lib.itoa': a '-' where i is negative, then the digits), FOR EVERY int. The world behind the call: the world before it, new blocks behind the heap (the library's 'var a [24]byte'), draws. (LAID: no walk: one application.) -/
theorem Tryz.strconv_Itoa (n : Int) (h0 : -9223372036854775808 ≤ n) (h1 : n ≤ 9223372036854775807) (w : World) (htab : Lib.TabIs Tryz.prog w "internal/strconv.uint64pow10" .u64 Lib.pow10Tab) :
    Calls Tryz.prog 38 #[.int .i64 n] w fun e w' => e = .returned (.string ⟨(Lib.itoa n).toArray⟩) ∧ ∃ k os, w' = grow (w.drewN k) os := Any.strconv_Itoa Tryz.laysM171 n h0 h1 w htab
def Tryz.lays157_ren : Go.Shelf.Ren := ⟨fun | 157 => 26 | 229 => 55 | 199 => 56 | 261 => 76 | 311 => 90 | 312 => 91 | n => n, fun | 9 => 9 | 31 => 58 | 3 => 3 | 5 => 5 | 4 => 4 | 119 => 91 | 0 => 0 | 40 => 93 | 152 => 113 | 21 => 21 | 154 => 115 | 51 => 22 | 141 => 117 | 196 => 137 | 193 => 134 | 198 => 140 | 49 => 138 | 194 => 135 | 201 => 143 | 226 => 159 | 46 => 125 | 227 => 160 | n => n, fun | 0 => 0 | 6 => 1 | n => n⟩
theorem Tryz.lays157 : Go.Proofs.Lays.n157 Tryz.prog Tryz.lays157_ren := {
  mixed := by kernel_rfl
  f157 := Tryz.func26.trans (congrArg some (by kernel_rfl))
  f199 := Tryz.func56.trans (congrArg some (by kernel_rfl))
  f229 := Tryz.func55.trans (congrArg some (by kernel_rfl))
  f261 := Tryz.func76.trans (congrArg some (by kernel_rfl))
  f311 := Tryz.func90.trans (congrArg some (by kernel_rfl))
  f312 := Tryz.func91.trans (congrArg some (by kernel_rfl))
  t0 := Tryz.underlying0
  a0 := Tryz.isAgg0
  z0 := Tryz.sizeOf0
  v0 := Tryz.zeroValue0
  t3 := Tryz.underlying3
  a3 := Tryz.isAgg3
  z3 := Tryz.sizeOf3
  v3 := Tryz.zeroValue3
  t4 := Tryz.underlying4
  a4 := Tryz.isAgg4
  z4 := Tryz.sizeOf4
  v4 := Tryz.zeroValue4
  t5 := Tryz.underlying5
  a5 := Tryz.isAgg5
  z5 := Tryz.sizeOf5
  v5 := Tryz.zeroValue5
  t9 := Tryz.underlying9
  a9 := Tryz.isAgg9
  z9 := Tryz.sizeOf9
  v9 := Tryz.zeroValue9
  t21 := Tryz.underlying21
  a21 := Tryz.isAgg21
  z21 := Tryz.sizeOf21
  v21 := Tryz.zeroValue21
  t31 := Tryz.underlying58
  a31 := Tryz.isAgg58
  z31 := Tryz.sizeOf58
  v31 := Tryz.zeroValue58
  t40 := Tryz.underlying93
  a40 := Tryz.isAgg93
  z40 := Tryz.sizeOf93
  v40 := Tryz.zeroValue93
  t46 := Tryz.underlying125
  a46 := Tryz.isAgg125
  z46 := Tryz.sizeOf125
  v46 := Tryz.zeroValue125
  t49 := Tryz.underlying138
  a49 := Tryz.isAgg138
  z49 := Tryz.sizeOf138
  v49 := Tryz.zeroValue138
  t51 := Tryz.underlying22
  a51 := Tryz.isAgg22
  z51 := Tryz.sizeOf22
  v51 := Tryz.zeroValue22
  t119 := Tryz.underlying91
  a119 := Tryz.isAgg91
  z119 := Tryz.sizeOf91
  t141 := Tryz.underlying117
  a141 := Tryz.isAgg117
  z141 := Tryz.sizeOf117
  v141 := Tryz.zeroValue117
  t152 := Tryz.underlying113
  a152 := Tryz.isAgg113
  z152 := Tryz.sizeOf113
  v152 := Tryz.zeroValue113
  t154 := Tryz.underlying115
  a154 := Tryz.isAgg115
  z154 := Tryz.sizeOf115
  v154 := Tryz.zeroValue115
  t193 := Tryz.underlying134
  a193 := Tryz.isAgg134
  z193 := Tryz.sizeOf134
  v193 := Tryz.zeroValue134
  t194 := Tryz.underlying135
  a194 := Tryz.isAgg135
  z194 := Tryz.sizeOf135
  v194 := Tryz.zeroValue135
  t196 := Tryz.underlying137
  a196 := Tryz.isAgg137
  z196 := Tryz.sizeOf137
  v196 := Tryz.zeroValue137
  t198 := Tryz.underlying140
  a198 := Tryz.isAgg140
  z198 := Tryz.sizeOf140
  v198 := Tryz.zeroValue140
  t201 := Tryz.underlying143
  a201 := Tryz.isAgg143
  z201 := Tryz.sizeOf143
  v201 := Tryz.zeroValue143
  t226 := Tryz.underlying159
  a226 := Tryz.isAgg159
  z226 := Tryz.sizeOf159
  v226 := Tryz.zeroValue159
  t227 := Tryz.underlying160
  a227 := Tryz.isAgg160
  z227 := Tryz.sizeOf160
  v227 := Tryz.zeroValue160
  g0 := by kernel_rfl
  g6 := by kernel_rfl }
open Go.RowKit Go.Lib in
/-- strings.Fields, the table by 'Lib.TabIs' (as strings.TrimSpace's contract). 'hg': the table's number, by its name: at a dump 'by kernel_rfl'. (LAID: no walk: one application.) -/
theorem Tryz.strings_Fields (s : ByteArray) (w : World) (hs : s.size < 4294967281) (hascii : ∀ (j : Nat) b, s.data.toList[j]? = some b → b.toNat < 128) (htab : Lib.TabIs Tryz.prog w "strings.asciiSpace" .u8 Lib.asciiSpaceTab) :
    Calls Tryz.prog 26 #[.string s] w fun e w' =>
      e = .returned (.slice (some ⟨w.heap.size, 0, none⟩) (Lib.fields s.data.toList).length (Lib.fields s.data.toList).length) ∧ w' = w.alloc (.cells ((Lib.fields s.data.toList).map fun l => Value.string ⟨l.toArray⟩).toArray 9) := Any.strings_Fields Tryz.lays157 (by kernel_rfl) (by kernel_rfl) s w hs hascii htab
def Tryz.lays105_ren : Go.Shelf.Ren := ⟨fun | 105 => 73 | 212 => 84 | 99 => 85 | 165 => 80 | 166 => 72 | 170 => 86 | 169 => 25 | 263 => 100 | 264 => 101 | 206 => 102 | 240 => 83 | 241 => 97 | 276 => 99 | 277 => 113 | n => n, fun | 9 => 9 | 3 => 3 | 4 => 4 | 20 => 20 | 0 => 0 | 46 => 125 | 109 => 126 | 5 => 5 | 72 => 53 | 76 => 108 | 51 => 22 | 146 => 154 | 53 => 99 | 148 => 156 | 70 => 50 | 37 => 51 | 75 => 107 | 127 => 90 | 164 => 152 | 80 => 57 | n => n, fun | n => n⟩
theorem Tryz.lays105 : Go.Proofs.Lays.n105 Tryz.prog Tryz.lays105_ren := {
  mixed := by kernel_rfl
  f99 := Tryz.func85.trans (congrArg some (by kernel_rfl))
  f105 := Tryz.func73.trans (congrArg some (by kernel_rfl))
  f165 := Tryz.func80.trans (congrArg some (by kernel_rfl))
  f166 := Tryz.func72.trans (congrArg some (by kernel_rfl))
  f169 := Tryz.func25.trans (congrArg some (by kernel_rfl))
  f170 := Tryz.func86.trans (congrArg some (by kernel_rfl))
  f206 := Tryz.func102.trans (congrArg some (by kernel_rfl))
  f212 := Tryz.func84.trans (congrArg some (by kernel_rfl))
  f240 := Tryz.func83.trans (congrArg some (by kernel_rfl))
  f241 := Tryz.func97.trans (congrArg some (by kernel_rfl))
  f263 := Tryz.func100.trans (congrArg some (by kernel_rfl))
  f264 := Tryz.func101.trans (congrArg some (by kernel_rfl))
  f276 := Tryz.func99.trans (congrArg some (by kernel_rfl))
  f277 := Tryz.func113.trans (congrArg some (by kernel_rfl))
  t0 := Tryz.underlying0
  a0 := Tryz.isAgg0
  z0 := Tryz.sizeOf0
  v0 := Tryz.zeroValue0
  t3 := Tryz.underlying3
  a3 := Tryz.isAgg3
  z3 := Tryz.sizeOf3
  v3 := Tryz.zeroValue3
  t4 := Tryz.underlying4
  a4 := Tryz.isAgg4
  z4 := Tryz.sizeOf4
  v4 := Tryz.zeroValue4
  t5 := Tryz.underlying5
  a5 := Tryz.isAgg5
  z5 := Tryz.sizeOf5
  v5 := Tryz.zeroValue5
  t9 := Tryz.underlying9
  a9 := Tryz.isAgg9
  z9 := Tryz.sizeOf9
  v9 := Tryz.zeroValue9
  t20 := Tryz.underlying20
  a20 := Tryz.isAgg20
  z20 := Tryz.sizeOf20
  v20 := Tryz.zeroValue20
  t37 := Tryz.underlying51
  a37 := Tryz.isAgg51
  z37 := Tryz.sizeOf51
  v37 := Tryz.zeroValue51
  t46 := Tryz.underlying125
  a46 := Tryz.isAgg125
  z46 := Tryz.sizeOf125
  v46 := Tryz.zeroValue125
  t51 := Tryz.underlying22
  a51 := Tryz.isAgg22
  z51 := Tryz.sizeOf22
  v51 := Tryz.zeroValue22
  t53 := Tryz.underlying99
  a53 := Tryz.isAgg99
  z53 := Tryz.sizeOf99
  v53 := Tryz.zeroValue99
  t70 := Tryz.underlying50
  a70 := Tryz.isAgg50
  z70 := Tryz.sizeOf50
  v70 := Tryz.zeroValue50
  t72 := Tryz.underlying53
  a72 := Tryz.isAgg53
  z72 := Tryz.sizeOf53
  v72 := Tryz.zeroValue53
  t75 := Tryz.underlying107
  a75 := Tryz.isAgg107
  z75 := Tryz.sizeOf107
  v75 := Tryz.zeroValue107
  t76 := Tryz.underlying108
  a76 := Tryz.isAgg108
  z76 := Tryz.sizeOf108
  v76 := Tryz.zeroValue108
  t109 := Tryz.underlying126
  a109 := Tryz.isAgg126
  z109 := Tryz.sizeOf126
  v109 := Tryz.zeroValue126
  t127 := Tryz.underlying90
  a127 := Tryz.isAgg90
  z127 := Tryz.sizeOf90
  v127 := Tryz.zeroValue90
  t146 := Tryz.underlying154
  a146 := Tryz.isAgg154
  z146 := Tryz.sizeOf154
  v146 := Tryz.zeroValue154
  t148 := Tryz.underlying156
  a148 := Tryz.isAgg156
  z148 := Tryz.sizeOf156
  v148 := Tryz.zeroValue156
  t164 := Tryz.underlying152
  a164 := Tryz.isAgg152
  z164 := Tryz.sizeOf152
  v164 := Tryz.zeroValue152 }
theorem Tryz.Builder_Extra_105 : Builder.Extra Tryz.prog Tryz.lays105_ren := {
  sizeBuilder := by kernel_rfl
  liesBuilder := by kernel_rfl
  t5 := Tryz.underlying5
  a5 := Tryz.isAgg5
  z5 := Tryz.sizeOf5
  v5 := Tryz.zeroValue5
  infoByte := by kernel_rfl
  cellsByte := by kernel_rfl
  sizeByte := by kernel_rfl
  neB5 := by decide }
open Go.RowKit Go.Lib in
/-- **strings.Repeat: count ≥ 0, the result within one allocation: count copies of s.** (LAID: no walk: one application.) -/
theorem Tryz.strings_Repeat (s : ByteArray) (c : Nat) (w : World) (hc : c ≤ 9223372036854775807) (hlen : s.size * c ≤ 140737488355328) :
    Calls Tryz.prog 73 #[.string s, .int .i64 c] w fun e w' => e = .returned (.string ⟨(Lib.repeatL s.data.toList c).toArray⟩) ∧ Below w.heap.size w w' := Any.strings_Repeat Tryz.lays105 Tryz.Builder_Extra_105 s c w hc hlen
end Go.Proofs
namespace Go.Proofs.YtlbfgnpadggbgaaGreatDoor
set_option linter.unusedSimpArgs false
set_option linter.unusedVariables false
set_option linter.unnecessarySimpa false
open Go.RowKit
theorem below_grow (w : World) (q : Nat) (os : Array Obj) : Below w.heap.size w (Sort.grow (w.drewN q) os) :=
  ⟨rfl, rfl, rfl, by simp [Sort.grow], fun i hi => by
    show ((w.drewN q).heap ++ os)[i]? = _
    rw [Array.getElem?_append_left (by show i < w.heap.size; omega)]
    rfl⟩
theorem one_arg {vs : Array Value} (h : vs.size = 1) : ∃ v0, vs = #[v0] := by
  match vs, h with
  | ⟨[v0]⟩, _ => exact ⟨v0, rfl⟩
theorem two_args {vs : Array Value} (h : vs.size = 2) : ∃ v0 v1, vs = #[v0, v1] := by
  match vs, h with
  | ⟨[v0, v1]⟩, _ => exact ⟨v0, v1, rfl⟩
/-- A listed table is at its values. -/
theorem tab_is {C : Cf} (hC : Ok C) {name : String} {g : Nat} {k : IntKind} {l : List Int} (hg : Tryz.prog.globalNamed name = some g) (hn : (g, l.length) ∈ glN) (hl : ∀ a ∈ glT g k l, a ∈ glL) : Lib.TabIs Tryz.prog C.w name k l := by
  obtain ⟨cs, t, fz, h1, h2⟩ := hC.gl.2.2 (g, l.length) hn
  have hcell : ∀ i, i < l.length → cs[i]? = some (Value.int k (l.getD i 0)) := fun i hi => by
    obtain ⟨v, k1, k2⟩ := hC.gl.1 (⟨g, i, none⟩, fun v => v = .int k (l.getD i 0)) (hl _ (List.mem_map.2 ⟨i, List.mem_range.2 hi, rfl⟩))
    have k3 := k1.1
    have k2 : v = .int k (l.getD i 0) := k2
    subst k2
    have h1 : C.w.heap[g]? = some (Obj.cells cs t fz) := h1
    simpa [World.cell?, h1] using k3
  unfold Lib.TabIs World.var?
  rw [hg]
  have h1 : C.w.heap[g]? = some (Obj.cells cs t fz) := h1
  show (match C.w.heap[g]? with | some (.cells cs _ _) => some cs | _ => none) = _
  rw [h1]
  show some cs = _
  congr 1
  have h2 : cs.size = l.length := h2
  apply Array.ext
  · rw [h2]; simp
  · intro i h3 h4
    have := hcell i (by rw [h2] at h3; exact h3)
    rw [Array.getElem?_eq_getElem h3] at this
    rw [Option.some.inj this]
    have h5 : i < l.length := by simpa using h4
    simp [List.getD, h5]
theorem c_Itoa (n : Int) (h0 : 0 ≤ n) (h1 : n ≤ 9223372036854775807) : PC Tryz.prog 38 [.im (.int .i64 n)] (.im (.string ⟨(Lib.itoa n).toArray⟩)) := by
  refine PC.ofBelow (by kernel_rfl) fun C vs hC hsz hR => ?_
  obtain ⟨v0, rfl⟩ := one_arg hsz
  have e0 : R C (.im (.int .i64 n)) v0 := hR 0 (by simp)
  obtain rfl : v0 = .int .i64 n := e0.im_eq
  have ht : Lib.TabIs Tryz.prog C.w "internal/strconv.uint64pow10" .u64 tab10 := tab_is hC (g := 3) (by kernel_rfl) (by simp [glN, tab10]) fun a ha => List.mem_append_right _ (List.mem_append_right _ (List.mem_append_right _ (List.mem_append_left _ ha)))
  rw [show tab10 = Lib.pow10Tab by decide] at ht
  refine (Tryz.strconv_Itoa n (by omega) h1 C.w ht).mono ?_
  rintro e w' ⟨rfl, k, os, rfl⟩
  exact ⟨_, rfl, fun _ => .im rfl, below_grow _ _ _⟩
theorem c_Repeat (s : Bs) (c : Nat) (hc : c ≤ 9223372036854775807) (hlen : s.length * c ≤ 140737488355328) : PC Tryz.prog 73 [.im (.string ⟨s.toArray⟩), .im (.int .i64 c)] (.im (.string ⟨(Lib.repeatL s c).toArray⟩)) := by
  refine PC.ofBelow (by kernel_rfl) fun C vs hC hsz hR => ?_
  obtain ⟨v0, v1, rfl⟩ := two_args hsz
  have e0 : R C (.im (.string ⟨s.toArray⟩)) v0 := hR 0 (by simp)
  have e1 : R C (.im (.int .i64 c)) v1 := hR 1 (by simp)
  obtain rfl : v0 = .string ⟨s.toArray⟩ := e0.im_eq
  obtain rfl : v1 = .int .i64 c := e1.im_eq
  refine (Tryz.strings_Repeat ⟨s.toArray⟩ c C.w hc (by simpa [ByteArray.size] using hlen)).mono ?_
  rintro e w' ⟨rfl, hb⟩
  exact ⟨_, rfl, fun _ => .im rfl, hb⟩
def sV (b : Bs) : V := .im (.string ⟨b.toArray⟩)
theorem cell_spot {w : World} {a : Addr} {v : Value} (h : w.cell? a = some v) : a.spot = none ∧ a.block < w.heap.size := by
  unfold World.cell? at h
  split at h
  · rename_i hb
    split at h
    · cases h
    · rename_i hs
      refine ⟨by simpa using hs, ?_⟩
      exact (Array.getElem?_eq_some_iff.1 hb).1
  · cases h
theorem join_flat (l : List Bs) : Lib.join l [] = l.flatten := by
  unfold Lib.join
  induction l with
  | nil => rfl
  | cons x r ih =>
    cases r with
    | nil => simp [List.intercalate, List.intersperse]
    | cons y r =>
      simp only [List.intercalate, List.intersperse] at ih ⊢
      simpa using ih
theorem c_joinE (l : List Bs) (hN : l.length ≤ 140737488355328) (hlen : l.flatten.length ≤ 140737488355328) : PC Tryz.prog 63 [.sl (l.map sV) .ro, .im (.string ⟨([] : Bs).toArray⟩)] (.im (.string ⟨l.flatten.toArray⟩)) := by
  refine PC.ofBelow (by kernel_rfl) fun C vs hC hsz hR => ?_
  obtain ⟨v0, v1, rfl⟩ := two_args hsz
  have h1 : R C (.im (.string ⟨([] : Bs).toArray⟩)) v1 := hR 1 (by simp)
  have h0 : R C (.sl (l.map sV) .ro) v0 := hR 0 (by simp)
  obtain rfl : v1 = .string ⟨([] : Bs).toArray⟩ := h1.im_eq
  cases h0 with
  | @sl _ _ a cap z u hc hm hz h hr hk =>
    cases l with
    | nil =>
      refine (Tryz.strings_Join_none a cap ⟨([] : Bs).toArray⟩ C.w).mono ?_
      rintro e w' ⟨rfl, rfl⟩
      exact ⟨_, rfl, fun _ => .im rfl, Below.refl _ _⟩
    | cons x r =>
      have hz1 : z = 1 := ((hz 0 (by simp)).1).symm
      subst hz1
      have hu : ∀ j (hj : j < ((x :: r).map sV).length), u j = .string ⟨((x :: r)[j]'(by simpa using hj)).toArray⟩ := fun j hj => by
        have h2 := h j hj
        rw [List.getElem_map] at h2
        exact h2.im_eq
      obtain ⟨ad, rfl, h3⟩ := hr 0 (by simp)
      have hrd : ∀ j (hj : j < ((x :: r).map sV).length), C.w.cell? ((ad.add (j * 1)).add 0) = some (.string ⟨((x :: r)[j]'(by simpa using hj)).toArray⟩) := fun j hj => by
        obtain ⟨ad', e1, h4⟩ := hr j hj
        cases e1
        exact (h4 0 _ (by rw [hu j hj]; rfl)).1
      have h4 := cell_spot (hrd 0 (by simp))
      obtain ⟨bk, o, sp⟩ := ad
      have hsp : sp = none := h4.1
      subst hsp
      have hid : List.map ((fun b : ByteArray => b.data.toList) ∘ fun b : Bs => (⟨b.toArray⟩ : ByteArray)) (x :: r) = x :: r := List.map_id' _
      have := Tryz.strings_Join bk o cap ((x :: r).map fun b => ⟨b.toArray⟩) ⟨([] : Bs).toArray⟩ C.w (fun j y hj => ?_) h4.2 (by rw [List.length_map]; exact hN) (by simpa using hc) (by
        rw [List.map_map, hid, show (ByteArray.mk ([] : Bs).toArray).data.toList = [] from rfl, join_flat]; exact hlen)
      · rw [List.map_map, hid, show (ByteArray.mk ([] : Bs).toArray).data.toList = [] from rfl, join_flat] at this
        rw [List.length_map] at this ⊢
        refine this.mono ?_
        rintro e w' ⟨rfl, hb⟩
        exact ⟨_, rfl, fun _ => .im rfl, hb⟩
      · obtain ⟨hlt, rfl⟩ := List.getElem?_eq_some_iff.1 hj
        have h5 := hrd j (by simpa using hlt)
        rw [Addr.add_lit, Addr.add_lit, Nat.mul_one] at h5
        rw [List.getElem_map]
        exact h5
/-- A function that makes one block and writes nowhere. -/
theorem PC.ofAlloc {P : Program} {f : FuncId} {xs : List V} {r : V} (hf : goFn P f = true) (h : ∀ (C : Cf) (vs : Array Value), Ok C → vs.size = xs.length → (∀ i (hi : i < xs.length), R C xs[i] (vs.getD i undef)) →
    Calls P f vs C.w fun e w' => ∃ v o, e = .returned v ∧ w' = C.w.alloc o ∧ R (C.withW (C.w.alloc o)) r v) : PC P f xs r := by
  refine ⟨hf, fun C vs hst hC hsz hR => ?_⟩
  refine (h C vs hC hsz hR).mono ?_
  rintro e w' ⟨v, o, rfl, rfl, hv⟩
  exact ⟨v, _, _, rfl, ⟨rfl, rfl⟩, C.withW (C.w.alloc o), rfl, hst, Ok.alloc hC o, Ev.alloc hC o, hv⟩
theorem new_fix {C : Cf} (hC : Ok C) (o : Obj) (k : Nat) : (C.withW (C.w.alloc o)).fix C.w.heap.size k := by
  refine ⟨fun h => Nat.lt_irrefl _ (hC.avl _ _ h), fun i hi => .inl ?_⟩
  have hi : C.σ i = some C.w.heap.size := hi
  show C.st i = .free
  have no : ∀ {x : Obj}, C.w.heap[C.w.heap.size]? ≠ some x := fun h => by
    rw [Array.getElem?_eq_none (Nat.le_refl _)] at h
    cases h
  cases hs : C.st i with
  | free => rfl
  | box cs =>
    obtain ⟨g, bs, t, h1, h2, _⟩ := hC.box i cs hs
    obtain rfl := Option.some.inj (hi.symm.trans h1)
    exact absurd h2 no
  | tip e z n =>
    obtain ⟨cur, h1, _⟩ := hC.tip i e z n _ hs hi
    exact absurd h1 no
  | iter s p =>
    obtain ⟨g, h1, h2⟩ := hC.iter i s p hs
    obtain rfl := Option.some.inj (hi.symm.trans h1)
    exact absurd h2 no
theorem tabSp_eq : tabSp = Lib.asciiSpaceTab := by decide +kernel
theorem c_Fields (s : Bs) (hs : s.length < 4294967281) (ha : ∀ b ∈ s, b.toNat < 128) (hl : (Lib.fields s).length ≤ 4194304) : PC Tryz.prog 26 [.im (.string ⟨s.toArray⟩)] (.sl ((Lib.fields s).map sV) .full) := by
  refine PC.ofAlloc (by kernel_rfl) fun C vs hC hsz hR => ?_
  obtain ⟨v0, rfl⟩ := one_arg hsz
  have e0 : R C (.im (.string ⟨s.toArray⟩)) v0 := hR 0 (by simp)
  obtain rfl : v0 = .string ⟨s.toArray⟩ := e0.im_eq
  have ht : Lib.TabIs Tryz.prog C.w "strings.asciiSpace" .u8 tabSp := tab_is hC (g := 0) (by kernel_rfl) (by simp [glN, tabSp]) fun a ha => List.mem_append_right _ (List.mem_append_right _ (List.mem_append_right _ (List.mem_append_right _ ha)))
  rw [tabSp_eq] at ht
  refine (Tryz.strings_Fields ⟨s.toArray⟩ C.w (by simpa [ByteArray.size] using hs) (fun j b hb => ha b (List.mem_of_getElem? hb)) ht).mono ?_
  rintro e w' ⟨rfl, rfl⟩
  have hsd : (ByteArray.mk s.toArray).data.toList = s := rfl
  rw [hsd]
  generalize Lib.fields s = l at hl ⊢
  refine ⟨_, _, rfl, rfl, ?_⟩
  have hlen : (l.map sV).length = l.length := List.length_map _
  rw [← hlen]
  refine .sl (z := 1) (u := fun i => .string ⟨(l.getD i []).toArray⟩) (Nat.le_refl _) (by rw [hlen]; exact Nat.le_trans hl (by decide)) (fun i hi => ?_) (fun i hi => ?_) (fun i hi => ?_) rfl
  · rw [List.getElem_map]; exact ⟨rfl, rfl⟩
  · rw [List.getElem_map]
    have hi' : i < l.length := by simpa using hi
    rw [show l.getD i [] = l[i] by simp [List.getD, List.getElem?_eq_getElem hi']]
    exact .im rfl
  · refine ⟨_, rfl, fun j c hj => ?_⟩
    have hi' : i < l.length := by simpa using hi
    obtain ⟨rfl, rfl⟩ : j = 0 ∧ c = .string ⟨(l.getD i []).toArray⟩ := by
      cases j with
      | zero => exact ⟨rfl, (Option.some.inj hj).symm⟩
      | succ j => cases hj
    rw [Addr.add_lit, Addr.add_lit]
    refine ⟨?_, new_fix hC _ _⟩
    show World.cell? (C.w.alloc _) _ = _
    rw [World.cell?, show (C.w.alloc _).heap[C.w.heap.size]? = _ from Array.getElem?_push_size]
    simp [List.getD, hi']
end Go.Proofs.YtlbfgnpadggbgaaGreatDoor
