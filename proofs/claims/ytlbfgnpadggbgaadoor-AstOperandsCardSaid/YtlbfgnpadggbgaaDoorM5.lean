/- Contracts of library functions at this program: the plain text of the shelf. The shelf's contracts as contracts on trees: strings.Join without a separator, strings.Repeat, strings.Fields, strconv.Itoa. -/
import Derived.Shelf.Strings.Builder1
import Derived.Shelf.Strings.Builder2
import Derived.Shelf.Strings.OnBuilder
import Derived.Shelf.Strings.BuilderF
import Derived.Shelf.Strings.BuilderK
import Derived.Shelf.Strconv.Itoa0
import Derived.Shelf.Strconv.Itoa1
import Derived.Shelf.LaysM
import Derived.Shelf.Strconv.Itoa2
import Derived.Shelf.Strconv.Itoa3
import Derived.Shelf.Strings.Search1
import Derived.Shelf.Strings.Search2
import Derived.Shelf.Strings.Search3
import Derived.Shelf.Strings.Shaped
import Derived.Shelf.Strings.Prefix
import Derived.Shelf.Strings.Fields
import Derived.Shelf.Unicode.Latin
import Derived.Shelf.Bits.Mul64
import Derived.Shelf.Strings.Repeat
import Derived.Shelf.Unicode.Is16White
import Derived.Shelf.Unicode.IsSpaceAny
import Derived.Shelf.Unicode.Is16Any
import Derived.Shelf.Unicode.Is32Any
import Derived.Shelf.Unicode.ExclAny
import Derived.Test.YtlbfgnpadggbgaaDoorProg
import Derived.Test.YtlbfgnpadggbgaaDoorM3
import Derived.Test.YtlbfgnpadggbgaaDoorTd
import Derived.Lib.LaidTab
import Derived.Lib.SmallJoins
namespace Go.Proofs
open Go.Shelf
def Tryd.lays156_ren : Go.Shelf.Ren := ⟨fun | 156 => 44 | 165 => 59 | 166 => 51 | 169 => 18 | 240 => 62 | 241 => 76 | 276 => 78 | 277 => 92 | n => n, fun | 31 => 54 | 9 => 9 | 3 => 3 | 4 => 4 | 0 => 0 | 20 => 20 | 72 => 49 | 76 => 99 | 70 => 46 | 37 => 47 | 75 => 98 | 127 => 83 | 164 => 143 | 5 => 5 | 80 => 53 | n => n, fun | n => n⟩
theorem Tryd.lays156 : Go.Proofs.Lays.n156 Tryd.prog Tryd.lays156_ren := {
  mixed := by kernel_rfl
  f156 := Tryd.func44.trans (congrArg some (by kernel_rfl))
  f165 := Tryd.func59.trans (congrArg some (by kernel_rfl))
  f166 := Tryd.func51.trans (congrArg some (by kernel_rfl))
  f169 := Tryd.func18.trans (congrArg some (by kernel_rfl))
  f240 := Tryd.func62.trans (congrArg some (by kernel_rfl))
  f241 := Tryd.func76.trans (congrArg some (by kernel_rfl))
  f276 := Tryd.func78.trans (congrArg some (by kernel_rfl))
  f277 := Tryd.func92.trans (congrArg some (by kernel_rfl))
  t0 := Tryd.underlying0
  a0 := Tryd.isAgg0
  z0 := Tryd.sizeOf0
  v0 := Tryd.zeroValue0
  t3 := Tryd.underlying3
  a3 := Tryd.isAgg3
  z3 := Tryd.sizeOf3
  v3 := Tryd.zeroValue3
  t4 := Tryd.underlying4
  a4 := Tryd.isAgg4
  z4 := Tryd.sizeOf4
  v4 := Tryd.zeroValue4
  t9 := Tryd.underlying9
  a9 := Tryd.isAgg9
  z9 := Tryd.sizeOf9
  v9 := Tryd.zeroValue9
  t20 := Tryd.underlying20
  a20 := Tryd.isAgg20
  z20 := Tryd.sizeOf20
  v20 := Tryd.zeroValue20
  t31 := Tryd.underlying54
  a31 := Tryd.isAgg54
  z31 := Tryd.sizeOf54
  v31 := Tryd.zeroValue54
  t37 := Tryd.underlying47
  a37 := Tryd.isAgg47
  z37 := Tryd.sizeOf47
  v37 := Tryd.zeroValue47
  t70 := Tryd.underlying46
  a70 := Tryd.isAgg46
  z70 := Tryd.sizeOf46
  v70 := Tryd.zeroValue46
  t72 := Tryd.underlying49
  a72 := Tryd.isAgg49
  z72 := Tryd.sizeOf49
  v72 := Tryd.zeroValue49
  t75 := Tryd.underlying98
  a75 := Tryd.isAgg98
  z75 := Tryd.sizeOf98
  v75 := Tryd.zeroValue98
  t76 := Tryd.underlying99
  a76 := Tryd.isAgg99
  z76 := Tryd.sizeOf99
  v76 := Tryd.zeroValue99
  t127 := Tryd.underlying83
  a127 := Tryd.isAgg83
  z127 := Tryd.sizeOf83
  v127 := Tryd.zeroValue83
  t164 := Tryd.underlying143
  a164 := Tryd.isAgg143
  z164 := Tryd.sizeOf143
  v164 := Tryd.zeroValue143 }
theorem Tryd.Builder_Extra_156 : Builder.Extra Tryd.prog Tryd.lays156_ren := {
  sizeBuilder := by kernel_rfl
  liesBuilder := by kernel_rfl
  t5 := Tryd.underlying5
  a5 := Tryd.isAgg5
  z5 := Tryd.sizeOf5
  v5 := Tryd.zeroValue5
  infoByte := by kernel_rfl
  cellsByte := by kernel_rfl
  sizeByte := by kernel_rfl
  neB5 := by decide }
open Go.RowKit in
/-- No element: the empty string; the world is as it was. (Whatever the slice's address and capacity: a nil slice too.) (LAID: no walk: one application.) -/
theorem Tryd.strings_Join_none (a : Option Addr) (c : Nat) (sep : ByteArray) (w : World) :
    Calls Tryd.prog 44 #[.slice a 0 c, .string sep] w fun e w' => e = .returned (.string ⟨#[]⟩) ∧ w' = w := Any.strings_Join_none Tryd.lays156 Tryd.Builder_Extra_156 a c sep w
open Go.RowKit in
/-- strings.Join: "Join concatenates the elements of its first argument to create a single string. The separator string sep is placed between elements in the resulting string.": HOWEVER MANY ELEMENTS. Below the heap's end the world is as it was. (LAID: no walk: one application.) -/
theorem Tryd.strings_Join (bk o c : Nat) (xs : List ByteArray) (sep : ByteArray) (w : World) (hcells : ∀ (j : Nat) x, xs[j]? = some x → w.cell? ⟨bk, o + j, none⟩ = some (.string x)) (hbk : bk < w.heap.size) (hN : xs.length ≤ 140737488355328) (hcap : xs.length ≤ c) (hlen : (Lib.join (xs.map (·.data.toList)) sep.data.toList).length ≤ 140737488355328) :
    Calls Tryd.prog 44 #[.slice (some ⟨bk, o, none⟩) xs.length c, .string sep] w fun e w' => e = .returned (.string ⟨(Lib.join (xs.map (·.data.toList)) sep.data.toList).toArray⟩) ∧ Below w.heap.size w w' := Any.strings_Join Tryd.lays156 Tryd.Builder_Extra_156 bk o c xs sep w hcells hbk hN hcap hlen
def Tryd.laysM171_ren : Go.Shelf.Ren := ⟨fun | 171 => 25 | 243 => 42 | 246 => 57 | 283 => 72 | 284 => 73 | 285 => 74 | 286 => 75 | 129 => 88 | 317 => 87 | 318 => 89 | 319 => 90 | 320 => 91 | 337 => 95 | 338 => 96 | n => n, fun | 3 => 3 | 9 => 9 | 2 => 2 | 4 => 4 | 171 => 136 | 0 => 0 | 53 => 90 | 37 => 47 | 5 => 5 | 173 => 139 | 212 => 155 | 51 => 22 | 20 => 20 | 213 => 156 | 46 => 116 | 232 => 162 | 233 => 163 | n => n, fun | 17 => 3 | 18 => 4 | 19 => 5 | n => n⟩
theorem Tryd.laysM171 : Go.Proofs.LaysM.n171 Tryd.prog Tryd.laysM171_ren := {
  mixed := by kernel_rfl
  f129 := Tryd.func88.trans (congrArg some (by kernel_rfl))
  f171 := Tryd.func25.trans (congrArg some (by kernel_rfl))
  f243 := Tryd.func42.trans (congrArg some (by kernel_rfl))
  f246 := Tryd.func57.trans (congrArg some (by kernel_rfl))
  f283 := Tryd.func72.trans (congrArg some (by kernel_rfl))
  f284 := Tryd.func73.trans (congrArg some (by kernel_rfl))
  f285 := Tryd.func74.trans (congrArg some (by kernel_rfl))
  f286 := Tryd.func75.trans (congrArg some (by kernel_rfl))
  f317 := Tryd.func87.trans (congrArg some (by kernel_rfl))
  f318 := Tryd.func89.trans (congrArg some (by kernel_rfl))
  f319 := Tryd.func90.trans (congrArg some (by kernel_rfl))
  f320 := Tryd.func91.trans (congrArg some (by kernel_rfl))
  f337 := Tryd.func95.trans (congrArg some (by kernel_rfl))
  f338 := Tryd.func96.trans (congrArg some (by kernel_rfl))
  t0 := Tryd.underlying0
  a0 := Tryd.isAgg0
  z0 := Tryd.sizeOf0
  v0 := Tryd.zeroValue0
  t2 := Tryd.underlying2
  a2 := Tryd.isAgg2
  z2 := Tryd.sizeOf2
  v2 := Tryd.zeroValue2
  t3 := Tryd.underlying3
  a3 := Tryd.isAgg3
  z3 := Tryd.sizeOf3
  v3 := Tryd.zeroValue3
  t4 := Tryd.underlying4
  a4 := Tryd.isAgg4
  z4 := Tryd.sizeOf4
  v4 := Tryd.zeroValue4
  t5 := Tryd.underlying5
  a5 := Tryd.isAgg5
  z5 := Tryd.sizeOf5
  v5 := Tryd.zeroValue5
  t9 := Tryd.underlying9
  a9 := Tryd.isAgg9
  z9 := Tryd.sizeOf9
  v9 := Tryd.zeroValue9
  t20 := Tryd.underlying20
  a20 := Tryd.isAgg20
  z20 := Tryd.sizeOf20
  v20 := Tryd.zeroValue20
  t37 := Tryd.underlying47
  a37 := Tryd.isAgg47
  z37 := Tryd.sizeOf47
  v37 := Tryd.zeroValue47
  t46 := Tryd.underlying116
  a46 := Tryd.isAgg116
  z46 := Tryd.sizeOf116
  v46 := Tryd.zeroValue116
  t51 := Tryd.underlying22
  a51 := Tryd.isAgg22
  z51 := Tryd.sizeOf22
  v51 := Tryd.zeroValue22
  t53 := Tryd.underlying90
  a53 := Tryd.isAgg90
  z53 := Tryd.sizeOf90
  v53 := Tryd.zeroValue90
  t171 := Tryd.underlying136
  a171 := Tryd.isAgg136
  z171 := Tryd.sizeOf136
  v171 := Tryd.zeroValue136
  t173 := Tryd.underlying139
  a173 := Tryd.isAgg139
  z173 := Tryd.sizeOf139
  v173 := Tryd.zeroValue139
  t212 := Tryd.underlying155
  a212 := Tryd.isAgg155
  z212 := Tryd.sizeOf155
  v212 := Tryd.zeroValue155
  t213 := Tryd.underlying156
  a213 := Tryd.isAgg156
  z213 := Tryd.sizeOf156
  t232 := Tryd.underlying162
  a232 := Tryd.isAgg162
  z232 := Tryd.sizeOf162
  v232 := Tryd.zeroValue162
  t233 := Tryd.underlying163
  a233 := Tryd.isAgg163
  z233 := Tryd.sizeOf163
  v233 := Tryd.zeroValue163
  g17 := by kernel_rfl
  g18 := by kernel_rfl
  g19 := by kernel_rfl
  i0 := by kernel_rfl
  i2 := by kernel_rfl
  i3 := by kernel_rfl
  i4 := by kernel_rfl
  i5 := by kernel_rfl
  i9 := by kernel_rfl
  i20 := by kernel_rfl
  i37 := by kernel_rfl
  i46 := by kernel_rfl
  i51 := by kernel_rfl
  i53 := by kernel_rfl
  i171 := by kernel_rfl
  i173 := by kernel_rfl
  i212 := by kernel_rfl
  i232 := by kernel_rfl
  i233 := by kernel_rfl
  m17 := by kernel_rfl
  m18 := by kernel_rfl
  m19 := by kernel_rfl }
open Go.RowKit Go.Sort Go.Lib in
/-- strconv.Itoa: "Itoa is equivalent to FormatInt(int64(i), 10).": i's DECIMAL NUMERAL ('Lib.itoa': a '-' where i is negative, then the digits), FOR EVERY int. The world behind the call: the world before it, new blocks behind the heap (the library's 'var a [24]byte'), draws. (LAID: no walk: one application.) -/
theorem Tryd.strconv_Itoa (n : Int) (h0 : -9223372036854775808 ≤ n) (h1 : n ≤ 9223372036854775807) (w : World) (htab : Lib.TabIs Tryd.prog w "internal/strconv.uint64pow10" .u64 Lib.pow10Tab) :
    Calls Tryd.prog 25 #[.int .i64 n] w fun e w' => e = .returned (.string ⟨(Lib.itoa n).toArray⟩) ∧ ∃ k os, w' = grow (w.drewN k) os := Any.strconv_Itoa Tryd.laysM171 n h0 h1 w htab
def Tryd.lays157_ren : Go.Shelf.Ren := ⟨fun | 157 => 19 | 229 => 38 | 199 => 39 | 261 => 55 | 311 => 69 | 312 => 70 | n => n, fun | 9 => 9 | 31 => 54 | 3 => 3 | 5 => 5 | 4 => 4 | 119 => 84 | 0 => 0 | 40 => 86 | 152 => 104 | 21 => 21 | 154 => 106 | 51 => 22 | 141 => 108 | 196 => 128 | 193 => 125 | 198 => 131 | 49 => 129 | 194 => 126 | 201 => 134 | 226 => 150 | 46 => 116 | 227 => 151 | n => n, fun | 0 => 0 | 6 => 1 | n => n⟩
theorem Tryd.lays157 : Go.Proofs.Lays.n157 Tryd.prog Tryd.lays157_ren := {
  mixed := by kernel_rfl
  f157 := Tryd.func19.trans (congrArg some (by kernel_rfl))
  f199 := Tryd.func39.trans (congrArg some (by kernel_rfl))
  f229 := Tryd.func38.trans (congrArg some (by kernel_rfl))
  f261 := Tryd.func55.trans (congrArg some (by kernel_rfl))
  f311 := Tryd.func69.trans (congrArg some (by kernel_rfl))
  f312 := Tryd.func70.trans (congrArg some (by kernel_rfl))
  t0 := Tryd.underlying0
  a0 := Tryd.isAgg0
  z0 := Tryd.sizeOf0
  v0 := Tryd.zeroValue0
  t3 := Tryd.underlying3
  a3 := Tryd.isAgg3
  z3 := Tryd.sizeOf3
  v3 := Tryd.zeroValue3
  t4 := Tryd.underlying4
  a4 := Tryd.isAgg4
  z4 := Tryd.sizeOf4
  v4 := Tryd.zeroValue4
  t5 := Tryd.underlying5
  a5 := Tryd.isAgg5
  z5 := Tryd.sizeOf5
  v5 := Tryd.zeroValue5
  t9 := Tryd.underlying9
  a9 := Tryd.isAgg9
  z9 := Tryd.sizeOf9
  v9 := Tryd.zeroValue9
  t21 := Tryd.underlying21
  a21 := Tryd.isAgg21
  z21 := Tryd.sizeOf21
  v21 := Tryd.zeroValue21
  t31 := Tryd.underlying54
  a31 := Tryd.isAgg54
  z31 := Tryd.sizeOf54
  v31 := Tryd.zeroValue54
  t40 := Tryd.underlying86
  a40 := Tryd.isAgg86
  z40 := Tryd.sizeOf86
  v40 := Tryd.zeroValue86
  t46 := Tryd.underlying116
  a46 := Tryd.isAgg116
  z46 := Tryd.sizeOf116
  v46 := Tryd.zeroValue116
  t49 := Tryd.underlying129
  a49 := Tryd.isAgg129
  z49 := Tryd.sizeOf129
  v49 := Tryd.zeroValue129
  t51 := Tryd.underlying22
  a51 := Tryd.isAgg22
  z51 := Tryd.sizeOf22
  v51 := Tryd.zeroValue22
  t119 := Tryd.underlying84
  a119 := Tryd.isAgg84
  z119 := Tryd.sizeOf84
  t141 := Tryd.underlying108
  a141 := Tryd.isAgg108
  z141 := Tryd.sizeOf108
  v141 := Tryd.zeroValue108
  t152 := Tryd.underlying104
  a152 := Tryd.isAgg104
  z152 := Tryd.sizeOf104
  v152 := Tryd.zeroValue104
  t154 := Tryd.underlying106
  a154 := Tryd.isAgg106
  z154 := Tryd.sizeOf106
  v154 := Tryd.zeroValue106
  t193 := Tryd.underlying125
  a193 := Tryd.isAgg125
  z193 := Tryd.sizeOf125
  v193 := Tryd.zeroValue125
  t194 := Tryd.underlying126
  a194 := Tryd.isAgg126
  z194 := Tryd.sizeOf126
  v194 := Tryd.zeroValue126
  t196 := Tryd.underlying128
  a196 := Tryd.isAgg128
  z196 := Tryd.sizeOf128
  v196 := Tryd.zeroValue128
  t198 := Tryd.underlying131
  a198 := Tryd.isAgg131
  z198 := Tryd.sizeOf131
  v198 := Tryd.zeroValue131
  t201 := Tryd.underlying134
  a201 := Tryd.isAgg134
  z201 := Tryd.sizeOf134
  v201 := Tryd.zeroValue134
  t226 := Tryd.underlying150
  a226 := Tryd.isAgg150
  z226 := Tryd.sizeOf150
  v226 := Tryd.zeroValue150
  t227 := Tryd.underlying151
  a227 := Tryd.isAgg151
  z227 := Tryd.sizeOf151
  v227 := Tryd.zeroValue151
  g0 := by kernel_rfl
  g6 := by kernel_rfl }
open Go.RowKit Go.Lib in
/-- strings.Fields, the table by 'Lib.TabIs' (as strings.TrimSpace's contract). 'hg': the table's number, by its name: at a dump 'by kernel_rfl'. (LAID: no walk: one application.) -/
theorem Tryd.strings_Fields (s : ByteArray) (w : World) (hs : s.size < 4294967281) (hascii : ∀ (j : Nat) b, s.data.toList[j]? = some b → b.toNat < 128) (htab : Lib.TabIs Tryd.prog w "strings.asciiSpace" .u8 Lib.asciiSpaceTab) :
    Calls Tryd.prog 19 #[.string s] w fun e w' =>
      e = .returned (.slice (some ⟨w.heap.size, 0, none⟩) (Lib.fields s.data.toList).length (Lib.fields s.data.toList).length) ∧ w' = w.alloc (.cells ((Lib.fields s.data.toList).map fun l => Value.string ⟨l.toArray⟩).toArray 9) := Any.strings_Fields Tryd.lays157 (by kernel_rfl) (by kernel_rfl) s w hs hascii htab
def Tryd.lays105_ren : Go.Shelf.Ren := ⟨fun | 105 => 52 | 212 => 63 | 99 => 64 | 165 => 59 | 166 => 51 | 170 => 65 | 169 => 18 | 263 => 79 | 264 => 80 | 206 => 81 | 240 => 62 | 241 => 76 | 276 => 78 | 277 => 92 | n => n, fun | 9 => 9 | 3 => 3 | 4 => 4 | 20 => 20 | 0 => 0 | 46 => 116 | 109 => 117 | 5 => 5 | 72 => 49 | 76 => 99 | 51 => 22 | 146 => 145 | 53 => 90 | 148 => 147 | 70 => 46 | 37 => 47 | 75 => 98 | 127 => 83 | 164 => 143 | 80 => 53 | n => n, fun | n => n⟩
theorem Tryd.lays105 : Go.Proofs.Lays.n105 Tryd.prog Tryd.lays105_ren := {
  mixed := by kernel_rfl
  f99 := Tryd.func64.trans (congrArg some (by kernel_rfl))
  f105 := Tryd.func52.trans (congrArg some (by kernel_rfl))
  f165 := Tryd.func59.trans (congrArg some (by kernel_rfl))
  f166 := Tryd.func51.trans (congrArg some (by kernel_rfl))
  f169 := Tryd.func18.trans (congrArg some (by kernel_rfl))
  f170 := Tryd.func65.trans (congrArg some (by kernel_rfl))
  f206 := Tryd.func81.trans (congrArg some (by kernel_rfl))
  f212 := Tryd.func63.trans (congrArg some (by kernel_rfl))
  f240 := Tryd.func62.trans (congrArg some (by kernel_rfl))
  f241 := Tryd.func76.trans (congrArg some (by kernel_rfl))
  f263 := Tryd.func79.trans (congrArg some (by kernel_rfl))
  f264 := Tryd.func80.trans (congrArg some (by kernel_rfl))
  f276 := Tryd.func78.trans (congrArg some (by kernel_rfl))
  f277 := Tryd.func92.trans (congrArg some (by kernel_rfl))
  t0 := Tryd.underlying0
  a0 := Tryd.isAgg0
  z0 := Tryd.sizeOf0
  v0 := Tryd.zeroValue0
  t3 := Tryd.underlying3
  a3 := Tryd.isAgg3
  z3 := Tryd.sizeOf3
  v3 := Tryd.zeroValue3
  t4 := Tryd.underlying4
  a4 := Tryd.isAgg4
  z4 := Tryd.sizeOf4
  v4 := Tryd.zeroValue4
  t5 := Tryd.underlying5
  a5 := Tryd.isAgg5
  z5 := Tryd.sizeOf5
  v5 := Tryd.zeroValue5
  t9 := Tryd.underlying9
  a9 := Tryd.isAgg9
  z9 := Tryd.sizeOf9
  v9 := Tryd.zeroValue9
  t20 := Tryd.underlying20
  a20 := Tryd.isAgg20
  z20 := Tryd.sizeOf20
  v20 := Tryd.zeroValue20
  t37 := Tryd.underlying47
  a37 := Tryd.isAgg47
  z37 := Tryd.sizeOf47
  v37 := Tryd.zeroValue47
  t46 := Tryd.underlying116
  a46 := Tryd.isAgg116
  z46 := Tryd.sizeOf116
  v46 := Tryd.zeroValue116
  t51 := Tryd.underlying22
  a51 := Tryd.isAgg22
  z51 := Tryd.sizeOf22
  v51 := Tryd.zeroValue22
  t53 := Tryd.underlying90
  a53 := Tryd.isAgg90
  z53 := Tryd.sizeOf90
  v53 := Tryd.zeroValue90
  t70 := Tryd.underlying46
  a70 := Tryd.isAgg46
  z70 := Tryd.sizeOf46
  v70 := Tryd.zeroValue46
  t72 := Tryd.underlying49
  a72 := Tryd.isAgg49
  z72 := Tryd.sizeOf49
  v72 := Tryd.zeroValue49
  t75 := Tryd.underlying98
  a75 := Tryd.isAgg98
  z75 := Tryd.sizeOf98
  v75 := Tryd.zeroValue98
  t76 := Tryd.underlying99
  a76 := Tryd.isAgg99
  z76 := Tryd.sizeOf99
  v76 := Tryd.zeroValue99
  t109 := Tryd.underlying117
  a109 := Tryd.isAgg117
  z109 := Tryd.sizeOf117
  v109 := Tryd.zeroValue117
  t127 := Tryd.underlying83
  a127 := Tryd.isAgg83
  z127 := Tryd.sizeOf83
  v127 := Tryd.zeroValue83
  t146 := Tryd.underlying145
  a146 := Tryd.isAgg145
  z146 := Tryd.sizeOf145
  v146 := Tryd.zeroValue145
  t148 := Tryd.underlying147
  a148 := Tryd.isAgg147
  z148 := Tryd.sizeOf147
  v148 := Tryd.zeroValue147
  t164 := Tryd.underlying143
  a164 := Tryd.isAgg143
  z164 := Tryd.sizeOf143
  v164 := Tryd.zeroValue143 }
theorem Tryd.Builder_Extra_105 : Builder.Extra Tryd.prog Tryd.lays105_ren := {
  sizeBuilder := by kernel_rfl
  liesBuilder := by kernel_rfl
  t5 := Tryd.underlying5
  a5 := Tryd.isAgg5
  z5 := Tryd.sizeOf5
  v5 := Tryd.zeroValue5
  infoByte := by kernel_rfl
  cellsByte := by kernel_rfl
  sizeByte := by kernel_rfl
  neB5 := by decide }
open Go.RowKit Go.Lib in
/-- **strings.Repeat: count ≥ 0, the result within one allocation: count copies of s.** (LAID: no walk: one application.) -/
theorem Tryd.strings_Repeat (s : ByteArray) (c : Nat) (w : World) (hc : c ≤ 9223372036854775807) (hlen : s.size * c ≤ 140737488355328) :
    Calls Tryd.prog 52 #[.string s, .int .i64 c] w fun e w' => e = .returned (.string ⟨(Lib.repeatL s.data.toList c).toArray⟩) ∧ Below w.heap.size w w' := Any.strings_Repeat Tryd.lays105 Tryd.Builder_Extra_105 s c w hc hlen
end Go.Proofs
namespace Go.Proofs.YtlbfgnpadggbgaaDoor
set_option linter.unusedSimpArgs false
set_option linter.unusedVariables false
set_option linter.unnecessarySimpa false
open Go.RowKit
theorem below_grow (w : World) (q : Nat) (os : Array Obj) : Below w.heap.size w (Sort.grow (w.drewN q) os) :=
  ⟨rfl, rfl, rfl, by simp [Sort.grow], fun i hi => by
    show ((w.drewN q).heap ++ os)[i]? = _
    rw [Array.getElem?_append_left (by show i < w.heap.size; omega)]
    rfl⟩
theorem one_arg {vs : Array Value} (h : vs.size = 1) : ∃ v0, vs = #[v0] := by
  match vs, h with
  | ⟨[v0]⟩, _ => exact ⟨v0, rfl⟩
theorem two_args {vs : Array Value} (h : vs.size = 2) : ∃ v0 v1, vs = #[v0, v1] := by
  match vs, h with
  | ⟨[v0, v1]⟩, _ => exact ⟨v0, v1, rfl⟩
/-- A listed table is at its values. -/
theorem tab_is {C : Cf} (hC : Ok C) {name : String} {g : Nat} {k : IntKind} {l : List Int} (hg : Tryd.prog.globalNamed name = some g) (hn : (g, l.length) ∈ glN) (hl : ∀ a ∈ glT g k l, a ∈ glL) : Lib.TabIs Tryd.prog C.w name k l := by
  obtain ⟨cs, t, fz, h1, h2⟩ := hC.gl.2.2 (g, l.length) hn
  have hcell : ∀ i, i < l.length → cs[i]? = some (Value.int k (l.getD i 0)) := fun i hi => by
    obtain ⟨v, k1, k2⟩ := hC.gl.1 (⟨g, i, none⟩, fun v => v = .int k (l.getD i 0)) (hl _ (List.mem_map.2 ⟨i, List.mem_range.2 hi, rfl⟩))
    have k3 := k1.1
    have k2 : v = .int k (l.getD i 0) := k2
    subst k2
    have h1 : C.w.heap[g]? = some (Obj.cells cs t fz) := h1
    simpa [World.cell?, h1] using k3
  unfold Lib.TabIs World.var?
  rw [hg]
  have h1 : C.w.heap[g]? = some (Obj.cells cs t fz) := h1
  show (match C.w.heap[g]? with | some (.cells cs _ _) => some cs | _ => none) = _
  rw [h1]
  show some cs = _
  congr 1
  have h2 : cs.size = l.length := h2
  apply Array.ext
  · rw [h2]; simp
  · intro i h3 h4
    have := hcell i (by rw [h2] at h3; exact h3)
    rw [Array.getElem?_eq_getElem h3] at this
    rw [Option.some.inj this]
    have h5 : i < l.length := by simpa using h4
    simp [List.getD, h5]
theorem c_Itoa (n : Int) (h0 : 0 ≤ n) (h1 : n ≤ 9223372036854775807) : PC Tryd.prog 25 [.im (.int .i64 n)] (.im (.string ⟨(Lib.itoa n).toArray⟩)) := by
  refine PC.ofBelow (by kernel_rfl) fun C vs hC hsz hR => ?_
  obtain ⟨v0, rfl⟩ := one_arg hsz
  have e0 : R C (.im (.int .i64 n)) v0 := hR 0 (by simp)
  obtain rfl : v0 = .int .i64 n := e0.im_eq
  have ht : Lib.TabIs Tryd.prog C.w "internal/strconv.uint64pow10" .u64 tab10 := tab_is hC (g := 3) (by kernel_rfl) (by simp [glN, tab10]) fun a ha => List.mem_append_right _ (List.mem_append_right _ (List.mem_append_right _ (List.mem_append_left _ ha)))
  rw [show tab10 = Lib.pow10Tab by decide] at ht
  refine (Tryd.strconv_Itoa n (by omega) h1 C.w ht).mono ?_
  rintro e w' ⟨rfl, k, os, rfl⟩
  exact ⟨_, rfl, fun _ => .im rfl, below_grow _ _ _⟩
theorem c_Repeat (s : Bs) (c : Nat) (hc : c ≤ 9223372036854775807) (hlen : s.length * c ≤ 140737488355328) : PC Tryd.prog 52 [.im (.string ⟨s.toArray⟩), .im (.int .i64 c)] (.im (.string ⟨(Lib.repeatL s c).toArray⟩)) := by
  refine PC.ofBelow (by kernel_rfl) fun C vs hC hsz hR => ?_
  obtain ⟨v0, v1, rfl⟩ := two_args hsz
  have e0 : R C (.im (.string ⟨s.toArray⟩)) v0 := hR 0 (by simp)
  have e1 : R C (.im (.int .i64 c)) v1 := hR 1 (by simp)
  obtain rfl : v0 = .string ⟨s.toArray⟩ := e0.im_eq
  obtain rfl : v1 = .int .i64 c := e1.im_eq
  refine (Tryd.strings_Repeat ⟨s.toArray⟩ c C.w hc (by simpa [ByteArray.size] using hlen)).mono ?_
  rintro e w' ⟨rfl, hb⟩
  exact ⟨_, rfl, fun _ => .im rfl, hb⟩
def sV (b : Bs) : V := .im (.string ⟨b.toArray⟩)
theorem cell_spot {w : World} {a : Addr} {v : Value} (h : w.cell? a = some v) : a.spot = none ∧ a.block < w.heap.size := by
  unfold World.cell? at h
  split at h
  · rename_i hb
    split at h
    · cases h
    · rename_i hs
      refine ⟨by simpa using hs, ?_⟩
      exact (Array.getElem?_eq_some_iff.1 hb).1
  · cases h
theorem join_flat (l : List Bs) : Lib.join l [] = l.flatten := by
  unfold Lib.join
  induction l with
  | nil => rfl
  | cons x r ih =>
    cases r with
    | nil => simp [List.intercalate, List.intersperse]
    | cons y r =>
      simp only [List.intercalate, List.intersperse] at ih ⊢
      simpa using ih
theorem c_joinE (l : List Bs) (hN : l.length ≤ 140737488355328) (hlen : l.flatten.length ≤ 140737488355328) : PC Tryd.prog 44 [.sl (l.map sV) .ro, .im (.string ⟨([] : Bs).toArray⟩)] (.im (.string ⟨l.flatten.toArray⟩)) := by
  refine PC.ofBelow (by kernel_rfl) fun C vs hC hsz hR => ?_
  obtain ⟨v0, v1, rfl⟩ := two_args hsz
  have h1 : R C (.im (.string ⟨([] : Bs).toArray⟩)) v1 := hR 1 (by simp)
  have h0 : R C (.sl (l.map sV) .ro) v0 := hR 0 (by simp)
  obtain rfl : v1 = .string ⟨([] : Bs).toArray⟩ := h1.im_eq
  cases h0 with
  | @sl _ _ a cap z u hc hm hz h hr hk =>
    cases l with
    | nil =>
      refine (Tryd.strings_Join_none a cap ⟨([] : Bs).toArray⟩ C.w).mono ?_
      rintro e w' ⟨rfl, rfl⟩
      exact ⟨_, rfl, fun _ => .im rfl, Below.refl _ _⟩
    | cons x r =>
      have hz1 : z = 1 := ((hz 0 (by simp)).1).symm
      subst hz1
      have hu : ∀ j (hj : j < ((x :: r).map sV).length), u j = .string ⟨((x :: r)[j]'(by simpa using hj)).toArray⟩ := fun j hj => by
        have h2 := h j hj
        rw [List.getElem_map] at h2
        exact h2.im_eq
      obtain ⟨ad, rfl, h3⟩ := hr 0 (by simp)
      have hrd : ∀ j (hj : j < ((x :: r).map sV).length), C.w.cell? ((ad.add (j * 1)).add 0) = some (.string ⟨((x :: r)[j]'(by simpa using hj)).toArray⟩) := fun j hj => by
        obtain ⟨ad', e1, h4⟩ := hr j hj
        cases e1
        exact (h4 0 _ (by rw [hu j hj]; rfl)).1
      have h4 := cell_spot (hrd 0 (by simp))
      obtain ⟨bk, o, sp⟩ := ad
      have hsp : sp = none := h4.1
      subst hsp
      have hid : List.map ((fun b : ByteArray => b.data.toList) ∘ fun b : Bs => (⟨b.toArray⟩ : ByteArray)) (x :: r) = x :: r := List.map_id' _
      have := Tryd.strings_Join bk o cap ((x :: r).map fun b => ⟨b.toArray⟩) ⟨([] : Bs).toArray⟩ C.w (fun j y hj => ?_) h4.2 (by rw [List.length_map]; exact hN) (by simpa using hc) (by
        rw [List.map_map, hid, show (ByteArray.mk ([] : Bs).toArray).data.toList = [] from rfl, join_flat]; exact hlen)
      · rw [List.map_map, hid, show (ByteArray.mk ([] : Bs).toArray).data.toList = [] from rfl, join_flat] at this
        rw [List.length_map] at this ⊢
        refine this.mono ?_
        rintro e w' ⟨rfl, hb⟩
        exact ⟨_, rfl, fun _ => .im rfl, hb⟩
      · obtain ⟨hlt, rfl⟩ := List.getElem?_eq_some_iff.1 hj
        have h5 := hrd j (by simpa using hlt)
        rw [Addr.add_lit, Addr.add_lit, Nat.mul_one] at h5
        rw [List.getElem_map]
        exact h5
/-- A function that makes one block and writes nowhere. -/
theorem PC.ofAlloc {P : Program} {f : FuncId} {xs : List V} {r : V} (hf : goFn P f = true) (h : ∀ (C : Cf) (vs : Array Value), Ok C → vs.size = xs.length → (∀ i (hi : i < xs.length), R C xs[i] (vs.getD i undef)) →
    Calls P f vs C.w fun e w' => ∃ v o, e = .returned v ∧ w' = C.w.alloc o ∧ R (C.withW (C.w.alloc o)) r v) : PC P f xs r := by
  refine ⟨hf, fun C vs hst hC hsz hR => ?_⟩
  refine (h C vs hC hsz hR).mono ?_
  rintro e w' ⟨v, o, rfl, rfl, hv⟩
  exact ⟨v, _, _, rfl, ⟨rfl, rfl⟩, C.withW (C.w.alloc o), rfl, hst, Ok.alloc hC o, Ev.alloc hC o, hv⟩
theorem new_fix {C : Cf} (hC : Ok C) (o : Obj) (k : Nat) : (C.withW (C.w.alloc o)).fix C.w.heap.size k := by
  refine ⟨fun h => Nat.lt_irrefl _ (hC.avl _ _ h), fun i hi => .inl ?_⟩
  have hi : C.σ i = some C.w.heap.size := hi
  show C.st i = .free
  have no : ∀ {x : Obj}, C.w.heap[C.w.heap.size]? ≠ some x := fun h => by
    rw [Array.getElem?_eq_none (Nat.le_refl _)] at h
    cases h
  cases hs : C.st i with
  | free => rfl
  | box cs =>
    obtain ⟨g, bs, t, h1, h2, _⟩ := hC.box i cs hs
    obtain rfl := Option.some.inj (hi.symm.trans h1)
    exact absurd h2 no
  | tip e z n =>
    obtain ⟨cur, h1, _⟩ := hC.tip i e z n _ hs hi
    exact absurd h1 no
  | iter s p =>
    obtain ⟨g, h1, h2⟩ := hC.iter i s p hs
    obtain rfl := Option.some.inj (hi.symm.trans h1)
    exact absurd h2 no
theorem tabSp_eq : tabSp = Lib.asciiSpaceTab := by decide +kernel
theorem c_Fields (s : Bs) (hs : s.length < 4294967281) (ha : ∀ b ∈ s, b.toNat < 128) (hl : (Lib.fields s).length ≤ 4194304) : PC Tryd.prog 19 [.im (.string ⟨s.toArray⟩)] (.sl ((Lib.fields s).map sV) .full) := by
  refine PC.ofAlloc (by kernel_rfl) fun C vs hC hsz hR => ?_
  obtain ⟨v0, rfl⟩ := one_arg hsz
  have e0 : R C (.im (.string ⟨s.toArray⟩)) v0 := hR 0 (by simp)
  obtain rfl : v0 = .string ⟨s.toArray⟩ := e0.im_eq
  have ht : Lib.TabIs Tryd.prog C.w "strings.asciiSpace" .u8 tabSp := tab_is hC (g := 0) (by kernel_rfl) (by simp [glN, tabSp]) fun a ha => List.mem_append_right _ (List.mem_append_right _ (List.mem_append_right _ (List.mem_append_right _ ha)))
  rw [tabSp_eq] at ht
  refine (Tryd.strings_Fields ⟨s.toArray⟩ C.w (by simpa [ByteArray.size] using hs) (fun j b hb => ha b (List.mem_of_getElem? hb)) ht).mono ?_
  rintro e w' ⟨rfl, rfl⟩
  have hsd : (ByteArray.mk s.toArray).data.toList = s := rfl
  rw [hsd]
  generalize Lib.fields s = l at hl ⊢
  refine ⟨_, _, rfl, rfl, ?_⟩
  have hlen : (l.map sV).length = l.length := List.length_map _
  rw [← hlen]
  refine .sl (z := 1) (u := fun i => .string ⟨(l.getD i []).toArray⟩) (Nat.le_refl _) (by rw [hlen]; exact Nat.le_trans hl (by decide)) (fun i hi => ?_) (fun i hi => ?_) (fun i hi => ?_) rfl
  · rw [List.getElem_map]; exact ⟨rfl, rfl⟩
  · rw [List.getElem_map]
    have hi' : i < l.length := by simpa using hi
    rw [show l.getD i [] = l[i] by simp [List.getD, List.getElem?_eq_getElem hi']]
    exact .im rfl
  · refine ⟨_, rfl, fun j c hj => ?_⟩
    have hi' : i < l.length := by simpa using hi
    obtain ⟨rfl, rfl⟩ : j = 0 ∧ c = .string ⟨(l.getD i []).toArray⟩ := by
      cases j with
      | zero => exact ⟨rfl, (Option.some.inj hj).symm⟩
      | succ j => cases hj
    rw [Addr.add_lit, Addr.add_lit]
    refine ⟨?_, new_fix hC _ _⟩
    show World.cell? (C.w.alloc _) _ = _
    rw [World.cell?, show (C.w.alloc _).heap[C.w.heap.size]? = _ from Array.getElem?_push_size]
    simp [List.getD, hi']
end Go.Proofs.YtlbfgnpadggbgaaDoor
