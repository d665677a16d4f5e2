/-
  Contracts of library functions at this program.
-/
import Derived.Shelf.Strings.SlTrimAscii
import Derived.Shelf.Spec.SlicesGrow
import Derived.Shelf.Strings.Builder1
import Derived.Shelf.Strings.Trim
import Derived.Shelf.Small.Utf8
import Derived.Shelf.Small.Strs
import Derived.Shelf.Strings.BuilderF
import Derived.Shelf.Strings.BuilderK
import Derived.Shelf.Strconv.Itoa0
import Derived.Shelf.Strconv.Itoa1
import Derived.Shelf.LaysM
import Derived.Shelf.Strconv.Itoa2
import Derived.Shelf.Strconv.Itoa3
import Derived.Shelf.Strings.Search1
import Derived.Shelf.Strings.Search2
import Derived.Shelf.Strings.Search3
import Derived.Shelf.Strings.Count
import Derived.Shelf.Strings.Shaped
import Derived.Shelf.Strings.Prefix
import Derived.Shelf.Unicode.Latin
import Derived.Shelf.Strings.Runes
import Derived.Shelf.Strings.AsciiSet
import Derived.Shelf.Bits.Mul64
import Derived.Shelf.Unicode.DecodeSlow
import Derived.Shelf.Unicode.Is16White
import Derived.Shelf.Unicode.IsSpaceAny
import Derived.Shelf.Unicode.CaseLookup
import Derived.Shelf.Unicode.CaseConvert
import Derived.Shelf.Unicode.CaseTo
import Derived.Shelf.Unicode.CaseLaid
import Derived.Shelf.Unicode.Is16Any
import Derived.Shelf.Unicode.Is32Any
import Derived.Shelf.Unicode.ExclAny
import Derived.Shelf.Slices.Turned
import Derived.Shelf.Slices.Equal
import Derived.Ground.Names2Prog
import Derived.Shelf.Slices.Clone
import Derived.Test.YtahbajmkhjngiaaGreatDoorProg
set_option linter.all false
set_option maxRecDepth 1000000
namespace Go.Proofs.Tryz
open Go.Proofs Go.Lib Go.RowKit Go.Shelf Go.Sort
def lays169_ren : Ren := ⟨fun | 169 => 39 | n => n, fun | 70 => 59 | 9 => 9 | 0 => 0 | 72 => 61 | 37 => 58 | 127 => 94 | 3 => 3 | 5 => 5 | n => n, fun | n => n⟩
theorem lays169 : Lays.n169 prog lays169_ren := {mixed := by kernel_rfl, f169 := func39.trans (congrArg some (by kernel_rfl)), t0 := underlying0, a0 := isAgg0, z0 := sizeOf0, v0 := zeroValue0, t3 := underlying3, a3 := isAgg3, z3 := sizeOf3, v3 := zeroValue3, t9 := underlying9, a9 := isAgg9, z9 := sizeOf9, v9 := zeroValue9, t37 := underlying58, a37 := isAgg58, z37 := sizeOf58, v37 := zeroValue58, t70 := underlying59, a70 := isAgg59, z70 := sizeOf59, v70 := zeroValue59, t72 := underlying61, a72 := isAgg61, z72 := sizeOf61, v72 := zeroValue61, t127 := underlying94, a127 := isAgg94, z127 := sizeOf94, v127 := zeroValue94}
theorem Builder_Extra_169 : Builder.Extra prog lays169_ren := {sizeBuilder := by kernel_rfl, liesBuilder := by kernel_rfl, t5 := underlying5, a5 := isAgg5, z5 := sizeOf5, v5 := zeroValue5, infoByte := by kernel_rfl, cellsByte := by kernel_rfl, sizeByte := by kernel_rfl, neB5 := by decide}
theorem Builder_String (B b : Nat) (l : List UInt8) (w : World) (h : Lib.IsBuilder 61 5 B b (Lib.byteCells l) w) (h0 : l ≠ []) : Calls prog 39 #[.pointer (some ⟨b, 0, none⟩)] w fun e w' => e = .returned (.string ⟨l.toArray⟩) ∧ Below B w w' := Any.Builder_String lays169 Builder_Extra_169 B b l w h h0
theorem Builder_String_any (B b : Nat) (l : List UInt8) (w : World) (h : Lib.IsBuilder 61 5 B b (Lib.byteCells l) w) (hBw : B ≤ w.heap.size) : Calls prog 39 #[.pointer (some ⟨b, 0, none⟩)] w fun e w' => e = .returned (.string ⟨l.toArray⟩) ∧ Below B w w' := Any.Builder_String_any lays169 Builder_Extra_169 B b l w h hBw
def lays160_ren : Ren := ⟨fun | 160 => 69 | 232 => 105 | 231 => 104 | 227 => 106 | 234 => 108 | 233 => 107 | 236 => 110 | 235 => 109 | 228 => 151 | 271 => 154 | 151 => 153 | 197 => 152 | 120 => 185 | 152 => 184 | 260 => 183 | 137 => 217 | 119 => 218 | 224 => 188 | 225 => 187 | 217 => 186 | 266 => 219 | n => n, fun | 9 => 9 | 4 => 4 | 3 => 3 | 5 => 5 | 117 => 142 | 116 => 141 | 0 => 0 | 124 => 145 | 21 => 21 | 105 => 194 | 46 => 93 | 119 => 165 | 139 => 260 | 138 => 259 | n => n, fun | 3 => 4 | 4 => 5 | n => n⟩
theorem lays160 : Lays.n160 prog lays160_ren := {mixed := by kernel_rfl, f119 := func218.trans (congrArg some (by kernel_rfl)), f120 := func185.trans (congrArg some (by kernel_rfl)), f137 := func217.trans (congrArg some (by kernel_rfl)), f151 := func153.trans (congrArg some (by kernel_rfl)), f152 := func184.trans (congrArg some (by kernel_rfl)), f160 := func69.trans (congrArg some (by kernel_rfl)), f197 := func152.trans (congrArg some (by kernel_rfl)), f217 := func186.trans (congrArg some (by kernel_rfl)), f224 := func188.trans (congrArg some (by kernel_rfl)), f225 := func187.trans (congrArg some (by kernel_rfl)), f227 := func106.trans (congrArg some (by kernel_rfl)), f228 := func151.trans (congrArg some (by kernel_rfl)), f231 := func104.trans (congrArg some (by kernel_rfl)), f232 := func105.trans (congrArg some (by kernel_rfl)), f233 := func107.trans (congrArg some (by kernel_rfl)), f234 := func108.trans (congrArg some (by kernel_rfl)), f235 := func109.trans (congrArg some (by kernel_rfl)), f236 := func110.trans (congrArg some (by kernel_rfl)), f260 := func183.trans (congrArg some (by kernel_rfl)), f266 := func219.trans (congrArg some (by kernel_rfl)), f271 := func154.trans (congrArg some (by kernel_rfl)), t0 := underlying0, a0 := isAgg0, z0 := sizeOf0, v0 := zeroValue0, t3 := underlying3, a3 := isAgg3, z3 := sizeOf3, v3 := zeroValue3, t4 := underlying4, a4 := isAgg4, z4 := sizeOf4, v4 := zeroValue4, t5 := underlying5, a5 := isAgg5, z5 := sizeOf5, v5 := zeroValue5, t9 := underlying9, a9 := isAgg9, z9 := sizeOf9, v9 := zeroValue9, t21 := underlying21, a21 := isAgg21, z21 := sizeOf21, v21 := zeroValue21, t46 := underlying93, a46 := isAgg93, z46 := sizeOf93, v46 := zeroValue93, t105 := underlying194, a105 := isAgg194, z105 := sizeOf194, v105 := zeroValue194, t116 := underlying141, a116 := isAgg141, z116 := sizeOf141, t117 := underlying142, a117 := isAgg142, z117 := sizeOf142, v117 := zeroValue142, t119 := underlying165, a119 := isAgg165, z119 := sizeOf165, t124 := underlying145, a124 := isAgg145, z124 := sizeOf145, v124 := zeroValue145, t138 := underlying259, a138 := isAgg259, z138 := sizeOf259, v138 := zeroValue259, t139 := underlying260, a139 := isAgg260, z139 := sizeOf260, v139 := zeroValue260, g3 := by kernel_rfl, g4 := by kernel_rfl}
def laysM171_ren : Ren := ⟨fun | 171 => 37 | 243 => 58 | 246 => 76 | 283 => 117 | 284 => 118 | 285 => 119 | 286 => 120 | 129 => 163 | 317 => 162 | 318 => 164 | 319 => 165 | 320 => 166 | 337 => 199 | 338 => 200 | n => n, fun | 3 => 3 | 9 => 9 | 2 => 2 | 4 => 4 | 171 => 153 | 0 => 0 | 53 => 154 | 37 => 58 | 5 => 5 | 173 => 157 | 212 => 208 | 51 => 209 | 20 => 20 | 213 => 210 | 46 => 93 | 232 => 275 | 233 => 276 | n => n, fun | 17 => 1 | 18 => 6 | 19 => 7 | n => n⟩
theorem laysM171 : LaysM.n171 prog laysM171_ren := {mixed := by kernel_rfl, f129 := func163.trans (congrArg some (by kernel_rfl)), f171 := func37.trans (congrArg some (by kernel_rfl)), f243 := func58.trans (congrArg some (by kernel_rfl)), f246 := func76.trans (congrArg some (by kernel_rfl)), f283 := func117.trans (congrArg some (by kernel_rfl)), f284 := func118.trans (congrArg some (by kernel_rfl)), f285 := func119.trans (congrArg some (by kernel_rfl)), f286 := func120.trans (congrArg some (by kernel_rfl)), f317 := func162.trans (congrArg some (by kernel_rfl)), f318 := func164.trans (congrArg some (by kernel_rfl)), f319 := func165.trans (congrArg some (by kernel_rfl)), f320 := func166.trans (congrArg some (by kernel_rfl)), f337 := func199.trans (congrArg some (by kernel_rfl)), f338 := func200.trans (congrArg some (by kernel_rfl)), t0 := underlying0, a0 := isAgg0, z0 := sizeOf0, v0 := zeroValue0, t2 := underlying2, a2 := isAgg2, z2 := sizeOf2, v2 := zeroValue2, t3 := underlying3, a3 := isAgg3, z3 := sizeOf3, v3 := zeroValue3, t4 := underlying4, a4 := isAgg4, z4 := sizeOf4, v4 := zeroValue4, t5 := underlying5, a5 := isAgg5, z5 := sizeOf5, v5 := zeroValue5, t9 := underlying9, a9 := isAgg9, z9 := sizeOf9, v9 := zeroValue9, t20 := underlying20, a20 := isAgg20, z20 := sizeOf20, v20 := zeroValue20, t37 := underlying58, a37 := isAgg58, z37 := sizeOf58, v37 := zeroValue58, t46 := underlying93, a46 := isAgg93, z46 := sizeOf93, v46 := zeroValue93, t51 := underlying209, a51 := isAgg209, z51 := sizeOf209, v51 := zeroValue209, t53 := underlying154, a53 := isAgg154, z53 := sizeOf154, v53 := zeroValue154, t171 := underlying153, a171 := isAgg153, z171 := sizeOf153, v171 := zeroValue153, t173 := underlying157, a173 := isAgg157, z173 := sizeOf157, v173 := zeroValue157, t212 := underlying208, a212 := isAgg208, z212 := sizeOf208, v212 := zeroValue208, t213 := underlying210, a213 := isAgg210, z213 := sizeOf210, t232 := underlying275, a232 := isAgg275, z232 := sizeOf275, v232 := zeroValue275, t233 := underlying276, a233 := isAgg276, z233 := sizeOf276, v233 := zeroValue276, g17 := by kernel_rfl, g18 := by kernel_rfl, g19 := by kernel_rfl, i0 := by kernel_rfl, i2 := by kernel_rfl, i3 := by kernel_rfl, i4 := by kernel_rfl, i5 := by kernel_rfl, i9 := by kernel_rfl, i20 := by kernel_rfl, i37 := by kernel_rfl, i46 := by kernel_rfl, i51 := by kernel_rfl, i53 := by kernel_rfl, i171 := by kernel_rfl, i173 := by kernel_rfl, i212 := by kernel_rfl, i232 := by kernel_rfl, i233 := by kernel_rfl, m17 := by kernel_rfl, m18 := by kernel_rfl, m19 := by kernel_rfl}
theorem strconv_Itoa (n : Int) (h0 : -9223372036854775808 ≤ n) (h1 : n ≤ 9223372036854775807) (w : World) (htab : Lib.TabIs prog w "internal/strconv.uint64pow10" .u64 Lib.pow10Tab) : Calls prog 37 #[.int .i64 n] w fun e w' => e = .returned (.string ⟨(Lib.itoa n).toArray⟩) ∧ ∃ k os, w' = grow (w.drewN k) os := Any.strconv_Itoa laysM171 n h0 h1 w htab
theorem strings_Trim (s cutset : ByteArray) (w : World) (hs : s.size ≤ 9223372036854775807) (hcs : cutset.size < 4294967281) (hascii : ∀ (j : Nat) b, cutset.data.toList[j]? = some b → b.toNat < 128) : Calls prog 69 #[.string s, .string cutset] w fun e w' => e = .returned (.string ⟨(Lib.trimS s.data.toList cutset.data.toList).toArray⟩) ∧ Go.RowKit.Below w.heap.size w w' := Any.strings_Trim_laid lays160 (by kernel_rfl) s cutset w hs hcs hascii
end Go.Proofs.Tryz
