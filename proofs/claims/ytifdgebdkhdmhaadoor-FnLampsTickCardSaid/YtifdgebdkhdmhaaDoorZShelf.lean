/-
  DERIVED: THE SHELF's CONTRACTS AT THIS DUMP, IN PLAIN WORDS (tools/lay-plain.mjs out of 'YtifdgebdkhdmhaaDoorShelf.lean', which tools/lay-shelf.mjs wrote): THE SAME DECLARATIONS UNDER THE SAME NAMES: 'import', 'namespace', 'open', 'def', 'theorem' AND NOTHING ELSE: no command of the shelf's: FOR A HAND-IN. Each laying: the table of numbers ('.._ren') and one theorem, a field a fact of the dump's own or the kernel's comparison; each contract: ONE APPLICATION.
-/
import Derived.Shelf.Strings.SlTrimAscii
import Derived.Ground.NamesProg
import Derived.Shelf.Strings.Builder1
import Derived.Shelf.Strings.Builder2
import Derived.Shelf.Strings.OnBuilder
import Derived.Shelf.Strings.Trim
import Derived.Shelf.Small.Utf8
import Derived.Shelf.Small.Strs
import Derived.Shelf.Strings.BuilderF
import Derived.Shelf.Strconv.Itoa0
import Derived.Shelf.Strconv.Itoa1
import Derived.Shelf.LaysM
import Derived.Shelf.Strconv.Itoa2
import Derived.Shelf.Strconv.Itoa3
import Derived.Shelf.Strings.Search1
import Derived.Shelf.Strings.Search2
import Derived.Shelf.Strings.Search3
import Derived.Shelf.Strings.Cut
import Derived.Shelf.Strings.Count
import Derived.Shelf.Strings.Shaped
import Derived.Shelf.Strings.Split
import Derived.Shelf.Strings.Runes
import Derived.Shelf.Strings.AsciiSet
import Derived.Shelf.Unicode.DecodeSlow
import Derived.Test.YtifdgebdkhdmhaaDoorProg
namespace Go.Proofs
open Go.Shelf
def Tryd.lays160_ren : Go.Shelf.Ren := ⟨fun | 160 => 191 | 232 => 220 | 231 => 219 | 227 => 221 | 234 => 223 | 233 => 222 | 236 => 225 | 235 => 224 | 228 => 243 | 271 => 245 | 151 => 244 | 197 => 240 | 120 => 259 | 152 => 258 | 260 => 255 | 137 => 267 | 119 => 268 | 224 => 232 | 225 => 231 | 217 => 230 | 266 => 246 | n => n, fun | 9 => 9 | 4 => 4 | 3 => 3 | 5 => 5 | 117 => 183 | 116 => 182 | 0 => 0 | 124 => 186 | 21 => 21 | 105 => 196 | 46 => 188 | 119 => 226 | 139 => 229 | 138 => 228 | n => n, fun | 3 => 4 | 4 => 5 | n => n⟩
theorem Tryd.lays160 : Go.Proofs.Lays.n160 Tryd.prog Tryd.lays160_ren := {
  mixed := by kernel_rfl
  f119 := Tryd.func268.trans (congrArg some (by kernel_rfl))
  f120 := Tryd.func259.trans (congrArg some (by kernel_rfl))
  f137 := Tryd.func267.trans (congrArg some (by kernel_rfl))
  f151 := Tryd.func244.trans (congrArg some (by kernel_rfl))
  f152 := Tryd.func258.trans (congrArg some (by kernel_rfl))
  f160 := Tryd.func191.trans (congrArg some (by kernel_rfl))
  f197 := Tryd.func240.trans (congrArg some (by kernel_rfl))
  f217 := Tryd.func230.trans (congrArg some (by kernel_rfl))
  f224 := Tryd.func232.trans (congrArg some (by kernel_rfl))
  f225 := Tryd.func231.trans (congrArg some (by kernel_rfl))
  f227 := Tryd.func221.trans (congrArg some (by kernel_rfl))
  f228 := Tryd.func243.trans (congrArg some (by kernel_rfl))
  f231 := Tryd.func219.trans (congrArg some (by kernel_rfl))
  f232 := Tryd.func220.trans (congrArg some (by kernel_rfl))
  f233 := Tryd.func222.trans (congrArg some (by kernel_rfl))
  f234 := Tryd.func223.trans (congrArg some (by kernel_rfl))
  f235 := Tryd.func224.trans (congrArg some (by kernel_rfl))
  f236 := Tryd.func225.trans (congrArg some (by kernel_rfl))
  f260 := Tryd.func255.trans (congrArg some (by kernel_rfl))
  f266 := Tryd.func246.trans (congrArg some (by kernel_rfl))
  f271 := Tryd.func245.trans (congrArg some (by kernel_rfl))
  t0 := Tryd.underlying0
  a0 := Tryd.isAgg0
  z0 := Tryd.sizeOf0
  v0 := Tryd.zeroValue0
  t3 := Tryd.underlying3
  a3 := Tryd.isAgg3
  z3 := Tryd.sizeOf3
  v3 := Tryd.zeroValue3
  t4 := Tryd.underlying4
  a4 := Tryd.isAgg4
  z4 := Tryd.sizeOf4
  v4 := Tryd.zeroValue4
  t5 := Tryd.underlying5
  a5 := Tryd.isAgg5
  z5 := Tryd.sizeOf5
  v5 := Tryd.zeroValue5
  t9 := Tryd.underlying9
  a9 := Tryd.isAgg9
  z9 := Tryd.sizeOf9
  v9 := Tryd.zeroValue9
  t21 := Tryd.underlying21
  a21 := Tryd.isAgg21
  z21 := Tryd.sizeOf21
  v21 := Tryd.zeroValue21
  t46 := Tryd.underlying188
  a46 := Tryd.isAgg188
  z46 := Tryd.sizeOf188
  v46 := Tryd.zeroValue188
  t105 := Tryd.underlying196
  a105 := Tryd.isAgg196
  z105 := Tryd.sizeOf196
  v105 := Tryd.zeroValue196
  t116 := Tryd.underlying182
  a116 := Tryd.isAgg182
  z116 := Tryd.sizeOf182
  t117 := Tryd.underlying183
  a117 := Tryd.isAgg183
  z117 := Tryd.sizeOf183
  v117 := Tryd.zeroValue183
  t119 := Tryd.underlying226
  a119 := Tryd.isAgg226
  z119 := Tryd.sizeOf226
  t124 := Tryd.underlying186
  a124 := Tryd.isAgg186
  z124 := Tryd.sizeOf186
  v124 := Tryd.zeroValue186
  t138 := Tryd.underlying228
  a138 := Tryd.isAgg228
  z138 := Tryd.sizeOf228
  v138 := Tryd.zeroValue228
  t139 := Tryd.underlying229
  a139 := Tryd.isAgg229
  z139 := Tryd.sizeOf229
  v139 := Tryd.zeroValue229
  g3 := by kernel_rfl
  g4 := by kernel_rfl }
open Go.RowKit Go.Lib in
/-- strings.Trim at an ASCII cutset. -/
theorem Tryd.strings_Trim (s cutset : ByteArray) (w : World) (hs : s.size ≤ 9223372036854775807) (hcs : cutset.size < 4294967281) (hascii : ∀ (j : Nat) (b : UInt8), cutset.data.toList[j]? = some b → b.toNat < 128) :
    Calls Tryd.prog 191 #[.string s, .string cutset] w fun e w' => e = .returned (.string ⟨(Lib.trimS s.data.toList cutset.data.toList).toArray⟩) ∧ Below w.heap.size w w' := Any.strings_Trim_laid Tryd.lays160 (by kernel_rfl) s cutset w hs hcs hascii
end Go.Proofs
