/- Texts Shelf PW P23 P24 P25 of the proof, merged: contracts of functions of chapter 10, of the program and of the reference, and plain laws. -/
import Derived.Defers
import Derived.Recover
import Derived.Shelf.LaysC
import Derived.Shelf.LaysM
import Derived.Shelf.Small.Wraps
import Derived.Shelf.Strconv.Atoi
import Derived.Shelf.Strconv.AtoiAll
import Derived.Shelf.Strconv.AtoiErrFast
import Derived.Shelf.Strconv.AtoiFail
import Derived.Shelf.Strconv.AtoiInnerAll
import Derived.Shelf.Strconv.AtoiLong
import Derived.Shelf.Strconv.Clone
import Derived.Shelf.Strconv.Itoa0
import Derived.Shelf.Strconv.Itoa1
import Derived.Shelf.Strconv.Itoa2
import Derived.Shelf.Strconv.Itoa3
import Derived.Shelf.Strconv.Lower
import Derived.Shelf.Strconv.ParseInt10
import Derived.Shelf.Strconv.ParseIntEmpty
import Derived.Shelf.Strconv.ParseUint10
import Derived.Shelf.Strconv.ParseUint10Any
import Derived.Shelf.Strconv.ParseUint10Empty
import Derived.Shelf.Strconv.RangeError
import Derived.Shelf.Strconv.SyntaxError
import Derived.Shelf.Strconv.ToError
import Derived.Shelf.Strconv.ToErrorRange
import Derived.Shelf.Strings.Builder1
import Derived.Shelf.Strings.BuilderF
import Derived.Shelf.Strings.BuilderK
import Derived.Shelf.Strings.Count
import Derived.Shelf.Strings.Explode
import Derived.Shelf.Strings.Prefix
import Derived.Shelf.Strings.RuneCount
import Derived.Shelf.Strings.Search1
import Derived.Shelf.Strings.Search2
import Derived.Shelf.Strings.Search3
import Derived.Shelf.Strings.Shaped
import Derived.Shelf.Strings.Split
import Derived.Shelf.Strings.SplitShaped
import Derived.Shelf.Unicode.Decode
import Derived.Shelf.Unicode.DecodeAny
import Derived.Shelf.Unicode.DecodeSlow
import Derived.Shelf.Utf8.RuneCount
import Derived.Test.YthomnkgiaapljaaGreatDoorD07
import Derived.Test.YthomnkgiaapljaaGreatDoorProg
section
namespace Go.Proofs
open Go.Shelf
def Tryz.lays169_ren : Go.Shelf.Ren := ⟨fun | 169 => 86 | n => n, fun | 70 => 113 | 9 => 9 | 0 => 0 | 72 => 115 | 37 => 58 | 127 => 145 | 3 => 3 | 5 => 5 | n => n, fun | n => n⟩
theorem Tryz.lays169 : Go.Proofs.Lays.n169 Tryz.prog Tryz.lays169_ren := {
  mixed := by kernel_rfl
  f169 := Tryz.func86.trans (congrArg some (by kernel_rfl))
  t0 := Tryz.underlying0
  a0 := Tryz.isAgg0
  z0 := Tryz.sizeOf0
  v0 := Tryz.zeroValue0
  t3 := Tryz.underlying3
  a3 := Tryz.isAgg3
  z3 := Tryz.sizeOf3
  v3 := Tryz.zeroValue3
  t9 := Tryz.underlying9
  a9 := Tryz.isAgg9
  z9 := Tryz.sizeOf9
  v9 := Tryz.zeroValue9
  t37 := Tryz.underlying58
  a37 := Tryz.isAgg58
  z37 := Tryz.sizeOf58
  v37 := Tryz.zeroValue58
  t70 := Tryz.underlying113
  a70 := Tryz.isAgg113
  z70 := Tryz.sizeOf113
  v70 := Tryz.zeroValue113
  t72 := Tryz.underlying115
  a72 := Tryz.isAgg115
  z72 := Tryz.sizeOf115
  v72 := Tryz.zeroValue115
  t127 := Tryz.underlying145
  a127 := Tryz.isAgg145
  z127 := Tryz.sizeOf145
  v127 := Tryz.zeroValue145 }
theorem Tryz.Builder_Extra_169 : Builder.Extra Tryz.prog Tryz.lays169_ren := {
  sizeBuilder := by kernel_rfl
  liesBuilder := by kernel_rfl
  t5 := Tryz.underlying5
  a5 := Tryz.isAgg5
  z5 := Tryz.sizeOf5
  v5 := Tryz.zeroValue5
  infoByte := by kernel_rfl
  cellsByte := by kernel_rfl
  sizeByte := by kernel_rfl
  neB5 := by decide }
open Go.RowKit in
/-- (*strings.Builder).String: "String returns the accumulated string.": WHATEVER THE BUILDER HOLDS. (LAID: no walk: one application.) -/
theorem Tryz.Builder_String_any (B b : Nat) (l : List UInt8) (w : World) (h : Lib.IsBuilder 115 5 B b (Lib.byteCells l) w) (hBw : B ≤ w.heap.size) :
    Calls Tryz.prog 86 #[.pointer (some ⟨b, 0, none⟩)] w fun e w' => e = .returned (.string ⟨l.toArray⟩) ∧ Below B w w' := Any.Builder_String_any Tryz.lays169 Tryz.Builder_Extra_169 B b l w h hBw
def Tryz.lays104_ren : Go.Shelf.Ren := ⟨fun | 104 => 89 | 211 => 115 | 207 => 125 | n => n, fun | 9 => 9 | 4 => 4 | 24 => 125 | 3 => 3 | n => n, fun | n => n⟩
theorem Tryz.lays104 : Go.Proofs.Lays.n104 Tryz.prog Tryz.lays104_ren := {
  mixed := by kernel_rfl
  f104 := Tryz.func89.trans (congrArg some (by kernel_rfl))
  f207 := Tryz.func125.trans (congrArg some (by kernel_rfl))
  f211 := Tryz.func115.trans (congrArg some (by kernel_rfl))
  t3 := Tryz.underlying3
  a3 := Tryz.isAgg3
  z3 := Tryz.sizeOf3
  v3 := Tryz.zeroValue3
  t4 := Tryz.underlying4
  a4 := Tryz.isAgg4
  z4 := Tryz.sizeOf4
  v4 := Tryz.zeroValue4
  t9 := Tryz.underlying9
  a9 := Tryz.isAgg9
  z9 := Tryz.sizeOf9
  v9 := Tryz.zeroValue9
  t24 := Tryz.underlying125
  a24 := Tryz.isAgg125
  z24 := Tryz.sizeOf125
  v24 := Tryz.zeroValue125 }
open Go.RowKit in
/-- strings.CutSuffix: "CutSuffix returns s without the provided ending suffix string and reports whether it found the suffix. If s doesn't end with suffix, CutSuffix returns s, false. If suffix is the empty string, CutSuffix returns s, true.": IT RETURNS '(Lib.trimSuffix s p, Lib.hasSuffix s p)'; the world is as it was. (LAID: no walk: one application.) -/
theorem Tryz.strings_CutSuffix (s p : ByteArray) (w : World) (hs : s.size ≤ 9223372036854775807) :
    Calls Tryz.prog 89 #[.string s, .string p] w fun e w' => e = .returned (.tuple #[.string ⟨(Lib.trimSuffix s.data.toList p.data.toList).toArray⟩, .bool (Lib.hasSuffix s.data.toList p.data.toList)]) ∧ w' = w := Any.strings_CutSuffix Tryz.lays104 s p w hs
def Tryz.laysM171_ren : Go.Shelf.Ren := ⟨fun | 171 => 83 | 243 => 113 | 246 => 124 | 283 => 131 | 284 => 132 | 285 => 133 | 286 => 134 | 129 => 145 | 317 => 144 | 318 => 146 | 319 => 147 | 320 => 148 | 337 => 157 | 338 => 158 | n => n, fun | 3 => 3 | 9 => 9 | 2 => 2 | 4 => 4 | 171 => 157 | 0 => 0 | 53 => 158 | 37 => 58 | 5 => 5 | 173 => 161 | 212 => 173 | 51 => 174 | 20 => 20 | 213 => 175 | 46 => 176 | 232 => 195 | 233 => 196 | n => n, fun | 17 => 0 | 18 => 6 | 19 => 7 | n => n⟩
theorem Tryz.laysM171 : Go.Proofs.LaysM.n171 Tryz.prog Tryz.laysM171_ren := {
  mixed := by kernel_rfl
  f129 := Tryz.func145.trans (congrArg some (by kernel_rfl))
  f171 := Tryz.func83.trans (congrArg some (by kernel_rfl))
  f243 := Tryz.func113.trans (congrArg some (by kernel_rfl))
  f246 := Tryz.func124.trans (congrArg some (by kernel_rfl))
  f283 := Tryz.func131.trans (congrArg some (by kernel_rfl))
  f284 := Tryz.func132.trans (congrArg some (by kernel_rfl))
  f285 := Tryz.func133.trans (congrArg some (by kernel_rfl))
  f286 := Tryz.func134.trans (congrArg some (by kernel_rfl))
  f317 := Tryz.func144.trans (congrArg some (by kernel_rfl))
  f318 := Tryz.func146.trans (congrArg some (by kernel_rfl))
  f319 := Tryz.func147.trans (congrArg some (by kernel_rfl))
  f320 := Tryz.func148.trans (congrArg some (by kernel_rfl))
  f337 := Tryz.func157.trans (congrArg some (by kernel_rfl))
  f338 := Tryz.func158.trans (congrArg some (by kernel_rfl))
  t0 := Tryz.underlying0
  a0 := Tryz.isAgg0
  z0 := Tryz.sizeOf0
  v0 := Tryz.zeroValue0
  t2 := Tryz.underlying2
  a2 := Tryz.isAgg2
  z2 := Tryz.sizeOf2
  v2 := Tryz.zeroValue2
  t3 := Tryz.underlying3
  a3 := Tryz.isAgg3
  z3 := Tryz.sizeOf3
  v3 := Tryz.zeroValue3
  t4 := Tryz.underlying4
  a4 := Tryz.isAgg4
  z4 := Tryz.sizeOf4
  v4 := Tryz.zeroValue4
  t5 := Tryz.underlying5
  a5 := Tryz.isAgg5
  z5 := Tryz.sizeOf5
  v5 := Tryz.zeroValue5
  t9 := Tryz.underlying9
  a9 := Tryz.isAgg9
  z9 := Tryz.sizeOf9
  v9 := Tryz.zeroValue9
  t20 := Tryz.underlying20
  a20 := Tryz.isAgg20
  z20 := Tryz.sizeOf20
  v20 := Tryz.zeroValue20
  t37 := Tryz.underlying58
  a37 := Tryz.isAgg58
  z37 := Tryz.sizeOf58
  v37 := Tryz.zeroValue58
  t46 := Tryz.underlying176
  a46 := Tryz.isAgg176
  z46 := Tryz.sizeOf176
  v46 := Tryz.zeroValue176
  t51 := Tryz.underlying174
  a51 := Tryz.isAgg174
  z51 := Tryz.sizeOf174
  v51 := Tryz.zeroValue174
  t53 := Tryz.underlying158
  a53 := Tryz.isAgg158
  z53 := Tryz.sizeOf158
  v53 := Tryz.zeroValue158
  t171 := Tryz.underlying157
  a171 := Tryz.isAgg157
  z171 := Tryz.sizeOf157
  v171 := Tryz.zeroValue157
  t173 := Tryz.underlying161
  a173 := Tryz.isAgg161
  z173 := Tryz.sizeOf161
  v173 := Tryz.zeroValue161
  t212 := Tryz.underlying173
  a212 := Tryz.isAgg173
  z212 := Tryz.sizeOf173
  v212 := Tryz.zeroValue173
  t213 := Tryz.underlying175
  a213 := Tryz.isAgg175
  z213 := Tryz.sizeOf175
  t232 := Tryz.underlying195
  a232 := Tryz.isAgg195
  z232 := Tryz.sizeOf195
  v232 := Tryz.zeroValue195
  t233 := Tryz.underlying196
  a233 := Tryz.isAgg196
  z233 := Tryz.sizeOf196
  v233 := Tryz.zeroValue196
  g17 := by kernel_rfl
  g18 := by kernel_rfl
  g19 := by kernel_rfl
  i0 := by kernel_rfl
  i2 := by kernel_rfl
  i3 := by kernel_rfl
  i4 := by kernel_rfl
  i5 := by kernel_rfl
  i9 := by kernel_rfl
  i20 := by kernel_rfl
  i37 := by kernel_rfl
  i46 := by kernel_rfl
  i51 := by kernel_rfl
  i53 := by kernel_rfl
  i171 := by kernel_rfl
  i173 := by kernel_rfl
  i212 := by kernel_rfl
  i232 := by kernel_rfl
  i233 := by kernel_rfl
  m17 := by kernel_rfl
  m18 := by kernel_rfl
  m19 := by kernel_rfl }
open Go.RowKit Go.Sort Go.Lib in
/-- strconv.Itoa: "Itoa is equivalent to FormatInt(int64(i), 10).": i's DECIMAL NUMERAL ('Lib.itoa': a '-' where i is negative, then the digits), FOR EVERY int. The world behind the call: the world before it, new blocks behind the heap (the library's 'var a [24]byte'), draws. (LAID: no walk: one application.) -/
theorem Tryz.strconv_Itoa (n : Int) (h0 : -9223372036854775808 ≤ n) (h1 : n ≤ 9223372036854775807) (w : World) (htab : Lib.TabIs Tryz.prog w "internal/strconv.uint64pow10" .u64 Lib.pow10Tab) :
    Calls Tryz.prog 83 #[.int .i64 n] w fun e w' => e = .returned (.string ⟨(Lib.itoa n).toArray⟩) ∧ ∃ k os, w' = grow (w.drewN k) os := Any.strconv_Itoa Tryz.laysM171 n h0 h1 w htab
def Tryz.laysC172_ren : Go.Shelf.Ren := ⟨fun | 172 => 117 | 244 => 129 | 245 => 130 | 247 => 139 | 279 => 140 | 280 => 141 | 281 => 142 | 282 => 143 | 287 => 154 | 316 => 155 | 171 => 83 | 205 => 156 | 321 => 161 | 322 => 162 | 243 => 113 | 246 => 124 | 283 => 131 | 284 => 132 | 285 => 133 | 286 => 134 | 129 => 145 | 317 => 144 | 318 => 146 | 319 => 147 | 320 => 148 | 337 => 157 | 338 => 158 | n => n, fun | 9 => 9 | 3 => 3 | 75 => 117 | 76 => 118 | 4 => 4 | 5 => 5 | 167 => 166 | 37 => 58 | 0 => 0 | 85 => 167 | 2 => 2 | 168 => 169 | 53 => 158 | 175 => 178 | 46 => 176 | 210 => 182 | 127 => 145 | 145 => 194 | 143 => 192 | 21 => 21 | 171 => 157 | 173 => 161 | 212 => 173 | 51 => 174 | 20 => 20 | 213 => 175 | 232 => 195 | 233 => 196 | 80 => 123 | n => n, fun | 15 => 2 | 16 => 3 | 17 => 0 | 18 => 6 | 19 => 7 | n => n⟩
theorem Tryz.laysC172 : Go.Proofs.LaysC.n172 Tryz.prog Tryz.laysC172_ren := {
  mixed := by kernel_rfl
  f129 := Tryz.func145.trans (congrArg some (by kernel_rfl))
  f171 := Tryz.func83.trans (congrArg some (by kernel_rfl))
  f172 := Tryz.func117.trans (congrArg some (by kernel_rfl))
  f205 := Tryz.func156.trans (congrArg some (by kernel_rfl))
  f243 := Tryz.func113.trans (congrArg some (by kernel_rfl))
  f244 := Tryz.func129.trans (congrArg some (by kernel_rfl))
  f245 := Tryz.func130.trans (congrArg some (by kernel_rfl))
  f246 := Tryz.func124.trans (congrArg some (by kernel_rfl))
  f247 := Tryz.func139.trans (congrArg some (by kernel_rfl))
  f279 := Tryz.func140.trans (congrArg some (by kernel_rfl))
  f280 := Tryz.func141.trans (congrArg some (by kernel_rfl))
  f281 := Tryz.func142.trans (congrArg some (by kernel_rfl))
  f282 := Tryz.func143.trans (congrArg some (by kernel_rfl))
  f283 := Tryz.func131.trans (congrArg some (by kernel_rfl))
  f284 := Tryz.func132.trans (congrArg some (by kernel_rfl))
  f285 := Tryz.func133.trans (congrArg some (by kernel_rfl))
  f286 := Tryz.func134.trans (congrArg some (by kernel_rfl))
  f287 := Tryz.func154.trans (congrArg some (by kernel_rfl))
  f316 := Tryz.func155.trans (congrArg some (by kernel_rfl))
  f317 := Tryz.func144.trans (congrArg some (by kernel_rfl))
  f318 := Tryz.func146.trans (congrArg some (by kernel_rfl))
  f319 := Tryz.func147.trans (congrArg some (by kernel_rfl))
  f320 := Tryz.func148.trans (congrArg some (by kernel_rfl))
  f321 := Tryz.func161.trans (congrArg some (by kernel_rfl))
  f322 := Tryz.func162.trans (congrArg some (by kernel_rfl))
  f337 := Tryz.func157.trans (congrArg some (by kernel_rfl))
  f338 := Tryz.func158.trans (congrArg some (by kernel_rfl))
  t0 := Tryz.underlying0
  a0 := Tryz.isAgg0
  z0 := Tryz.sizeOf0
  v0 := Tryz.zeroValue0
  t2 := Tryz.underlying2
  a2 := Tryz.isAgg2
  z2 := Tryz.sizeOf2
  v2 := Tryz.zeroValue2
  t3 := Tryz.underlying3
  a3 := Tryz.isAgg3
  z3 := Tryz.sizeOf3
  v3 := Tryz.zeroValue3
  t4 := Tryz.underlying4
  a4 := Tryz.isAgg4
  z4 := Tryz.sizeOf4
  v4 := Tryz.zeroValue4
  t5 := Tryz.underlying5
  a5 := Tryz.isAgg5
  z5 := Tryz.sizeOf5
  v5 := Tryz.zeroValue5
  t9 := Tryz.underlying9
  a9 := Tryz.isAgg9
  z9 := Tryz.sizeOf9
  v9 := Tryz.zeroValue9
  t20 := Tryz.underlying20
  a20 := Tryz.isAgg20
  z20 := Tryz.sizeOf20
  v20 := Tryz.zeroValue20
  t21 := Tryz.underlying21
  a21 := Tryz.isAgg21
  z21 := Tryz.sizeOf21
  v21 := Tryz.zeroValue21
  t37 := Tryz.underlying58
  a37 := Tryz.isAgg58
  z37 := Tryz.sizeOf58
  v37 := Tryz.zeroValue58
  t46 := Tryz.underlying176
  a46 := Tryz.isAgg176
  z46 := Tryz.sizeOf176
  v46 := Tryz.zeroValue176
  t51 := Tryz.underlying174
  a51 := Tryz.isAgg174
  z51 := Tryz.sizeOf174
  v51 := Tryz.zeroValue174
  t53 := Tryz.underlying158
  a53 := Tryz.isAgg158
  z53 := Tryz.sizeOf158
  v53 := Tryz.zeroValue158
  t75 := Tryz.underlying117
  a75 := Tryz.isAgg117
  z75 := Tryz.sizeOf117
  v75 := Tryz.zeroValue117
  t76 := Tryz.underlying118
  a76 := Tryz.isAgg118
  z76 := Tryz.sizeOf118
  v76 := Tryz.zeroValue118
  t85 := Tryz.underlying167
  a85 := Tryz.isAgg167
  z85 := Tryz.sizeOf167
  v85 := Tryz.zeroValue167
  t127 := Tryz.underlying145
  a127 := Tryz.isAgg145
  z127 := Tryz.sizeOf145
  v127 := Tryz.zeroValue145
  t143 := Tryz.underlying192
  a143 := Tryz.isAgg192
  z143 := Tryz.sizeOf192
  v143 := Tryz.zeroValue192
  t145 := Tryz.underlying194
  a145 := Tryz.isAgg194
  z145 := Tryz.sizeOf194
  v145 := Tryz.zeroValue194
  t167 := Tryz.underlying166
  a167 := Tryz.isAgg166
  z167 := Tryz.sizeOf166
  v167 := Tryz.zeroValue166
  t168 := Tryz.underlying169
  a168 := Tryz.isAgg169
  z168 := Tryz.sizeOf169
  v168 := Tryz.zeroValue169
  t171 := Tryz.underlying157
  a171 := Tryz.isAgg157
  z171 := Tryz.sizeOf157
  v171 := Tryz.zeroValue157
  t173 := Tryz.underlying161
  a173 := Tryz.isAgg161
  z173 := Tryz.sizeOf161
  v173 := Tryz.zeroValue161
  t175 := Tryz.underlying178
  a175 := Tryz.isAgg178
  z175 := Tryz.sizeOf178
  v175 := Tryz.zeroValue178
  t210 := Tryz.underlying182
  a210 := Tryz.isAgg182
  z210 := Tryz.sizeOf182
  v210 := Tryz.zeroValue182
  t212 := Tryz.underlying173
  a212 := Tryz.isAgg173
  z212 := Tryz.sizeOf173
  v212 := Tryz.zeroValue173
  t213 := Tryz.underlying175
  a213 := Tryz.isAgg175
  z213 := Tryz.sizeOf175
  t232 := Tryz.underlying195
  a232 := Tryz.isAgg195
  z232 := Tryz.sizeOf195
  v232 := Tryz.zeroValue195
  t233 := Tryz.underlying196
  a233 := Tryz.isAgg196
  z233 := Tryz.sizeOf196
  v233 := Tryz.zeroValue196
  g15 := by kernel_rfl
  g16 := by kernel_rfl
  g17 := by kernel_rfl
  g18 := by kernel_rfl
  g19 := by kernel_rfl
  t80 := Tryz.underlying123
  a80 := Tryz.isAgg123
  z80 := Tryz.sizeOf123
  v80 := Tryz.zeroValue123
  i0 := by kernel_rfl
  i2 := by kernel_rfl
  i3 := by kernel_rfl
  i4 := by kernel_rfl
  i5 := by kernel_rfl
  i9 := by kernel_rfl
  i20 := by kernel_rfl
  i21 := by kernel_rfl
  i37 := by kernel_rfl
  i46 := by kernel_rfl
  i51 := by kernel_rfl
  i53 := by kernel_rfl
  i75 := by kernel_rfl
  i76 := by kernel_rfl
  i80 := by kernel_rfl
  i85 := by kernel_rfl
  i127 := by kernel_rfl
  i143 := by kernel_rfl
  i145 := by kernel_rfl
  i167 := by kernel_rfl
  i168 := by kernel_rfl
  i171 := by kernel_rfl
  i173 := by kernel_rfl
  i175 := by kernel_rfl
  i210 := by kernel_rfl
  i212 := by kernel_rfl
  i232 := by kernel_rfl
  i233 := by kernel_rfl
  m15 := by kernel_rfl
  m16 := by kernel_rfl
  m17 := by kernel_rfl
  m18 := by kernel_rfl
  m19 := by kernel_rfl
  c0 := by kernel_rfl
  c2 := by kernel_rfl
  c3 := by kernel_rfl
  c4 := by kernel_rfl
  c5 := by kernel_rfl
  c9 := by kernel_rfl
  c20 := by kernel_rfl
  c21 := by kernel_rfl
  c37 := by kernel_rfl
  c46 := by kernel_rfl
  c51 := by kernel_rfl
  c53 := by kernel_rfl
  c75 := by kernel_rfl
  c76 := by kernel_rfl
  c80 := by kernel_rfl
  c85 := by kernel_rfl
  c127 := by kernel_rfl
  c143 := by kernel_rfl
  c145 := by kernel_rfl
  c167 := by kernel_rfl
  c168 := by kernel_rfl
  c171 := by kernel_rfl
  c173 := by kernel_rfl
  c175 := by kernel_rfl
  c210 := by kernel_rfl
  c212 := by kernel_rfl
  c213 := by kernel_rfl
  c232 := by kernel_rfl
  c233 := by kernel_rfl }
open Go.RowKit in
/-- strconv.Atoi, AT EVERY STRING THAT SPELLS AN int ('Lib.atoiAll .. = .ok v'; of whatever length: leading zeros count): v, AND NO ERROR. The world: as it was, or with the one new row that '[]byte(..)' lays. (LAID: no walk: one application.) -/
theorem Tryz.strconv_Atoi_ok (s : ByteArray) (hmax : s.size ≤ 9223372036854775806) (v : Int) (h : Lib.atoiAll s.data.toList = .ok v) (w : World) :
    Calls Tryz.prog 117 #[.string s] w fun e w' => e = .returned (.tuple #[.int .i64 v, .nilIface]) ∧ (w' = w ∨ ∃ t, w' = Lib.bytesWorld w 5 t) := Any.strconv_Atoi_ok Tryz.laysC172 s hmax v h w
open Go.RowKit in
/-- strconv.Atoi, AT EVERY NUMERAL THAT NO int HOLDS ('.range'): THE GREATEST OR THE LEAST int, BY THE SIGN ('Lib.atoiSat'), AND AN ERROR THAT IS NOT nil: a *NumError in a new block N: {Func: "Atoi", Num: s's bytes, Err: what the variable ErrRange holds}. Of what was there nothing has turned. (LAID: no walk: one application.) -/
theorem Tryz.strconv_Atoi_range (s : ByteArray) (hlim : s.size ≤ 281474976710656) (h : Lib.atoiAll s.data.toList = .range) (ev : Value) (w : World) (hv : w.cell? ⟨3, 0, none⟩ = some ev) (hev : ev = .nilIface ∨ ∃ te pe, ev = .iface te pe) :
    Calls Tryz.prog 117 #[.string s] w fun e w' => ∃ N, e = .returned (.tuple #[.int .i64 (Lib.atoiSat s.data.toList), .iface 169 (.pointer (some ⟨N, 0, none⟩))]) ∧ w.heap.size ≤ N ∧ w'.heap[N]? = some (.cells #[.string ⟨#[65, 116, 111, 105]⟩, .string s, ev] 182 (0, 0)) ∧ Below w.heap.size w w' := Any.strconv_Atoi_range Tryz.laysC172 s hlim h ev w hv hev
def Tryz.lays146_ren : Go.Shelf.Ren := ⟨fun | 146 => 91 | 221 => 116 | 268 => 126 | 138 => 127 | 143 => 128 | 195 => 135 | 197 => 136 | 218 => 137 | 219 => 138 | 260 => 149 | 217 => 150 | 225 => 151 | 224 => 152 | 267 => 153 | 266 => 159 | 314 => 160 | n => n, fun | 9 => 9 | 31 => 23 | 3 => 3 | 4 => 4 | 0 => 0 | 105 => 163 | 21 => 21 | 5 => 5 | 46 => 176 | 119 => 185 | 139 => 188 | 138 => 187 | 146 => 189 | 51 => 174 | n => n, fun | 1 => 1 | 3 => 4 | 4 => 5 | n => n⟩
theorem Tryz.lays146 : Go.Proofs.Lays.n146 Tryz.prog Tryz.lays146_ren := {
  mixed := by kernel_rfl
  f138 := Tryz.func127.trans (congrArg some (by kernel_rfl))
  f143 := Tryz.func128.trans (congrArg some (by kernel_rfl))
  f146 := Tryz.func91.trans (congrArg some (by kernel_rfl))
  f195 := Tryz.func135.trans (congrArg some (by kernel_rfl))
  f197 := Tryz.func136.trans (congrArg some (by kernel_rfl))
  f217 := Tryz.func150.trans (congrArg some (by kernel_rfl))
  f218 := Tryz.func137.trans (congrArg some (by kernel_rfl))
  f219 := Tryz.func138.trans (congrArg some (by kernel_rfl))
  f221 := Tryz.func116.trans (congrArg some (by kernel_rfl))
  f224 := Tryz.func152.trans (congrArg some (by kernel_rfl))
  f225 := Tryz.func151.trans (congrArg some (by kernel_rfl))
  f260 := Tryz.func149.trans (congrArg some (by kernel_rfl))
  f266 := Tryz.func159.trans (congrArg some (by kernel_rfl))
  f267 := Tryz.func153.trans (congrArg some (by kernel_rfl))
  f268 := Tryz.func126.trans (congrArg some (by kernel_rfl))
  f314 := Tryz.func160.trans (congrArg some (by kernel_rfl))
  t0 := Tryz.underlying0
  a0 := Tryz.isAgg0
  z0 := Tryz.sizeOf0
  v0 := Tryz.zeroValue0
  t3 := Tryz.underlying3
  a3 := Tryz.isAgg3
  z3 := Tryz.sizeOf3
  v3 := Tryz.zeroValue3
  t4 := Tryz.underlying4
  a4 := Tryz.isAgg4
  z4 := Tryz.sizeOf4
  v4 := Tryz.zeroValue4
  t5 := Tryz.underlying5
  a5 := Tryz.isAgg5
  z5 := Tryz.sizeOf5
  v5 := Tryz.zeroValue5
  t9 := Tryz.underlying9
  a9 := Tryz.isAgg9
  z9 := Tryz.sizeOf9
  v9 := Tryz.zeroValue9
  t21 := Tryz.underlying21
  a21 := Tryz.isAgg21
  z21 := Tryz.sizeOf21
  v21 := Tryz.zeroValue21
  t31 := Tryz.underlying23
  a31 := Tryz.isAgg23
  z31 := Tryz.sizeOf23
  v31 := Tryz.zeroValue23
  t46 := Tryz.underlying176
  a46 := Tryz.isAgg176
  z46 := Tryz.sizeOf176
  v46 := Tryz.zeroValue176
  t51 := Tryz.underlying174
  a51 := Tryz.isAgg174
  z51 := Tryz.sizeOf174
  v51 := Tryz.zeroValue174
  t105 := Tryz.underlying163
  a105 := Tryz.isAgg163
  z105 := Tryz.sizeOf163
  v105 := Tryz.zeroValue163
  t119 := Tryz.underlying185
  a119 := Tryz.isAgg185
  z119 := Tryz.sizeOf185
  t138 := Tryz.underlying187
  a138 := Tryz.isAgg187
  z138 := Tryz.sizeOf187
  v138 := Tryz.zeroValue187
  t139 := Tryz.underlying188
  a139 := Tryz.isAgg188
  z139 := Tryz.sizeOf188
  v139 := Tryz.zeroValue188
  t146 := Tryz.underlying189
  a146 := Tryz.isAgg189
  z146 := Tryz.sizeOf189
  v146 := Tryz.zeroValue189
  g1 := by kernel_rfl
  g3 := by kernel_rfl
  g4 := by kernel_rfl }
open Go.RowKit Go.Lib in
/-- strings.Split. (LAID: no walk: one application.) -/
theorem Tryz.strings_Split (s sep : ByteArray) (m : Int) (w : World) (hs : s.size < 4294967281) (hm : w.cell? ⟨1, 0, none⟩ = some (.int .i64 m)) (h1 : 1 ≤ sep.size) :
    Calls Tryz.prog 91 #[.string s, .string sep] w fun e w' =>
      e = .returned (.slice (some ⟨w.heap.size, 0, none⟩) (Lib.countB s sep + 1) (Lib.countB s sep + 1)) ∧ w' = w.alloc (.cells ((Lib.splitB sep 0 (Lib.countB s sep) s).map Value.string).toArray 9) := Any.strings_Split Tryz.lays146 (by kernel_rfl) s sep m w hs hm h1
end Go.Proofs
end
section
set_option maxRecDepth 100000
set_option linter.unusedSimpArgs false
set_option linter.unusedVariables false
namespace Go.Bp
open Go.RowKit Go.Proofs
theorem TabIs.ext {P : Program} {w w' : World} {name : String} {k : IntKind} {zs : List Int} (h : Lib.TabIs P w name k zs) (e : Ext w w') : Lib.TabIs P w' name k zs := by
  unfold Lib.TabIs World.var? at h ⊢
  cases hg : P.globalNamed name with
  | none => rw [hg] at h; cases h
  | some g =>
    rw [hg] at h
    simp only [Option.bind_some] at h ⊢
    cases ho : w.heap[g]? with
    | none => rw [ho] at h; cases h
    | some o => rw [ho] at h; rw [e.heap_some ho]; exact h
/-- What the library's variables hold. -/
structure Env (w : World) : Prop where
  maxLen : ∃ m, w.cell? ⟨1, 0, none⟩ = some (.int .i64 m)
  syn : ∃ te pe, w.cell? ⟨2, 0, none⟩ = some (.iface te pe)
  rng : ∃ te pe, w.cell? ⟨3, 0, none⟩ = some (.iface te pe)
  tab : Lib.TabIs Tryz.prog w "internal/strconv.uint64pow10" .u64 Lib.pow10Tab
theorem Env.ext {w w' : World} (h : Env w) (e : Ext w w') : Env w' :=
  ⟨let ⟨m, hm⟩ := h.maxLen; ⟨m, e.cell_some hm⟩, let ⟨a, b, hm⟩ := h.syn; ⟨a, b, e.cell_some hm⟩, let ⟨a, b, hm⟩ := h.rng; ⟨a, b, e.cell_some hm⟩, TabIs.ext h.tab e⟩
theorem Env.d {w : World} (h : Env w) : Env w.drew := h.ext (Ext.todrew (Ext.refl w))
theorem ext_grow (w : World) (k : Nat) (os : Array Obj) : Ext w (Sort.grow (w.drewN k) os) :=
  ⟨rfl, rfl, rfl, by simp [Sort.grow], fun i hi => by simp only [Sort.grow]; exact Array.getElem?_append_left hi⟩
theorem PItoa_any (n : Int) (h0 : -9223372036854775808 ≤ n) (h1 : n ≤ 9223372036854775807) (w : World) (hv : Env w) :
    Calls Tryz.prog 83 #[.int .i64 n] w fun e w' => e = .returned (.string (S (Lib.itoa n))) ∧ Ext w w' := by
  refine (Tryz.strconv_Itoa n h0 h1 w hv.tab).mono ?_
  rintro e w' ⟨rfl, k, os, rfl⟩
  exact ⟨rfl, ext_grow w k os⟩
theorem size115 : (Tryz.prog.info? 115).map TypeInfo.size = some 2 := by kernel_rfl
theorem lies115 : liesAt Tryz.prog Tryz.prog.depth 115 (2 / Tryz.prog.cellsOf 115) 0 115 1 = true := by kernel_rfl
/-- What a builder's writer leaves: all but the builder and rows of bytes. -/
structure KeptB (b : Nat) (w w' : World) : Prop where
  size : w.heap.size ≤ w'.heap.size
  block : ∀ (k : Nat) (o : Obj), w.heap[k]? = some o → k ≠ b → (∀ cs fr, o ≠ .cells cs 5 fr) → w'.heap[k]? = some o
theorem KeptB.trans {b : Nat} {x y z : World} (h : KeptB b x y) (k : KeptB b y z) : KeptB b x z := ⟨Nat.le_trans h.size k.size, fun i o ho hi hc => k.block i o (h.block i o ho hi hc) hi hc⟩
theorem KeptB.ofExt {x y : World} (b : Nat) (h : Ext x y) : KeptB b x y := ⟨h.size, fun i o ho _ _ => h.heap_some ho⟩
theorem KeptB.set (b i : Nat) (w : World) (v : Value) : KeptB b w (w.setCell ⟨b, i, none⟩ v) := ⟨by simp [World.setCell], fun k o ho hk _ => (Below.heap_setCell w ⟨b, i, none⟩ v k (fun e => hk (by rw [e]))).trans ho⟩
theorem KeptB.blk {b g : Nat} {x y : World} {t : TypeId} {cs : Array Value} (h : KeptB b x y) (hb : Blk x g t cs) (hg : g ≠ b) (ht : t ≠ 5) : Blk y g t cs := h.block g _ hb hg (fun cs' fr e => by injection e with _ e; exact ht e)
theorem KeptB.ownS {b B : Nat} {x y : World} {v : Value} {xs : List ByteArray} (h : KeptB b x y) (hO : OwnS B x v xs) (hv : v.ownBlock ≠ some b) : OwnS B y v xs := by
  refine ⟨hO.1, ?_⟩
  rcases hO.2 with h1 | ⟨g, cap, cur, h3, h4, h5, h6⟩
  · exact .inl h1
  · exact .inr ⟨g, cap, cur, h3, h4, h.block g _ h5 (fun e => hv (by rw [h3, ← e]; rfl)) (fun cs' fr e => by injection e with _ e; cases e), h6⟩
set_option maxHeartbeats 1000000 in
theorem pcopy_any (B b : Nat) (bs : List Value) (w : World) (h : Lib.IsBuilder 115 5 B b bs w) :
    Calls Tryz.prog 112 #[.pointer (some ⟨b, 0, none⟩)] w fun e w' => e = .returned (.tuple #[]) ∧ Lib.BuilderAt 115 5 B b (.pointer (some ⟨b, 0, none⟩)) bs w' ∧ Below B w w' ∧ KeptB b w w' := by
  obtain ⟨j, hj, hjs⟩ := size_of size115
  rcases h with h | h
  · have h0 := h.cell0; have hsh := h.shape; have hfz := h.frozen0
    go_enter Tryz.func112, Tryz.ntmps112
    go_wp2
    rw [Lib.run_to_unsafe w ⟨b, 0, none⟩ Tryz.underlying113 Tryz.underlying150 hj (by rw [hjs]; decide) hsh (Nat.zero_lt_succ 1)]
    simp only [Result.andThen]
    rw [Oper.upon_value]
    go_wp2
    rw [run_callFunc_extern Tryz.func123 (by kernel_rfl) (by kernel_rfl) (by kernel_rfl) (e := Extern.AbiNoEscape.same) (by kernel_rfl), Lib.run_noEscape]
    simp only [Result.andThen]
    rw [Oper.upon_value]
    go_wp2
    rw [Lib.run_from_unsafe w ⟨b, 0, none⟩ Tryz.underlying150 Tryz.underlying113 hj hsh lies115]
    simp only [Result.andThen]
    rw [Oper.upon_value]
    go_wp2
    go_end0
    exact ⟨rfl, h.used _, (Below.refl B w).setCell (p := ⟨b, 0, none⟩) h.1 _, KeptB.set b 0 w _⟩
  · have h0 := h.cell0
    go_enter Tryz.func112, Tryz.ntmps112
    go_wp2
    rw [Lib.run_neq_ptr_same w _ Tryz.underlying113 hj]
    go_wp2
    go_end0
    exact ⟨rfl, h, Below.refl B _, KeptB.ofExt b (Ext.refl _)⟩
theorem info5i : ∃ i, Tryz.prog.info? 5 = some i ∧ i.zero = some (.int .u8 0) ∧ i.size = 1 ∧ i.bytes = 1 := info_parts ti5
set_option maxHeartbeats 1000000 in
theorem pwrite_any (B b : Nat) (bs : List Value) (s : ByteArray) (w : World) (h : Lib.IsBuilder 115 5 B b bs w) (hlen : bs.length + s.size ≤ 1000000) (hBw : B ≤ w.heap.size) :
    Calls Tryz.prog 82 #[.pointer (some ⟨b, 0, none⟩), .string s] w fun e w' => e = .returned (.tuple #[.int .i64 s.size, .nilIface]) ∧ Lib.IsBuilder 115 5 B b (bs ++ Lib.strCells s) w' ∧ Below B w w' ∧ KeptB b w w' := by
  obtain ⟨i0, hi, hz0, hz1, hz2⟩ := info5i
  go_enter Tryz.func82, Tryz.ntmps82
  go_wp2_with (go_at_call 112; refine (pcopy_any B b bs _ h).mono ?_)
  rintro e w1 ⟨rfl, h1, hb1, hk1⟩
  obtain ⟨hB, v, hbk, hown, hne⟩ := h1
  have hB1 : Blk w1 b 115 #[.pointer (some ⟨b, 0, none⟩), v] := hbk
  have c0 := hB1.cell 0; have c1 := hB1.cell 1
  simp at c0 c1
  have hsz := hb1.size
  have hlt := hB1.lt
  go_wp2_with (at_builtin; refine Lib.wpList_append_own_string _ rfl _ _ 58 9 rfl B 5 i0 Tryz.underlying58 Tryz.underlying9 hi hz0 hz1 hz2 _ _ _ rfl hown s rfl ?c3 ?c4 ?c5 ?_)
  case c3 => unfold maxLen; omega
  case c4 => omega
  case c5 => omega
  intro v' w2 hown' hgrow _
  have hb2 : Blk w2 b 115 #[.pointer (some ⟨b, 0, none⟩), v] := hB1.grown hgrow (fun e => hne e.symm)
  have d0 := hb2.cell 0; have d1 := hb2.cell 1
  simp at d0 d1
  have f1 : w2.frozen? ⟨b, 1, none⟩ = false := hb2.frozen 1
  obtain ⟨ao, n', cap, rfl⟩ : ∃ ao n' cap, v' = .slice ao n' cap := by
    rcases hown'.2 with ⟨hv, _⟩ | ⟨g, cap, cur, hv, _⟩ <;> exact ⟨_, _, _, hv⟩
  go_wp2
  go_ret2
  refine ⟨rfl, .inr ?_, ?_, ?_⟩
  · exact Lib.BuilderAt.put (T := 115) (e := 5) hB hb2 (bs' := bs ++ Lib.strCells s) (by simpa [Lib.strCells_length] using hown') (by decide)
  · exact (hb1.grown hgrow (by omega) (fun k hk => (hown.lt k hk).1)).setCell (p := ⟨b, 1, none⟩) hB _
  · refine (hk1.trans ⟨hgrow.size, fun k o ho hk hc => (hgrow.block k (Array.getElem?_eq_some_iff.1 ho).1 (fun e => ?_)).trans ho⟩).trans (KeptB.set b 1 _ _)
    rcases hown.2 with ⟨hv, _⟩ | ⟨g, cap, cur, hv, _, hg, _⟩
    · rw [hv] at e; cases e
    · rw [hv] at e
      have : k = g := by simpa [Value.ownBlock] using e
      subst this
      rw [ho] at hg; injection hg with hg
      exact hc _ _ hg
end Go.Bp
end
section
set_option maxRecDepth 100000
set_option linter.unusedSimpArgs false
set_option linter.unusedVariables false
namespace Go.Bp
open Go.RowKit Go.Proofs
theorem isB_ext {T e : TypeId} {B b : Nat} {bs : List Value} {w w' : World} (h : Lib.IsBuilder T e B b bs w) (k : Ext w w') : Lib.IsBuilder T e B b bs w' := by
  rcases h with ⟨h1, v, h2, h3, h4⟩ | ⟨h1, v, h2, h3, h4⟩
  · exact .inl ⟨h1, v, k.heap_some h2, own_ext h3 k, h4⟩
  · exact .inr ⟨h1, v, k.heap_some h2, own_ext h3 k, h4⟩
set_option maxHeartbeats 4000000 in
theorem pline_any (B b g9 B' : Nat) (c : Code) (x : Line) (l : List UInt8) (nv : Value) (m : Int) (w : World) (hx : LineOk c m x) (hm : m ≤ 12) (ho : c.Ok) (hv : Env w) (hB : Lib.IsBuilder 115 5 B b (Lib.byteCells l) w) (h9b : Blk w g9 23 #[nv]) (hN : OwnS B' w nv c.names) (hlen : l.length ≤ 10000) (hBw : B ≤ w.heap.size) :
    Calls Tryz.prog 85 #[.agg #[.int .i64 x.no, .int .i64 x.what, .int .i64 x.sum], .pointer (some ⟨b, 0, none⟩), .pointer (some ⟨g9, 0, none⟩)] w fun e w' => e = .returned (.tuple #[]) ∧ Lib.IsBuilder 115 5 B b (Lib.byteCells (l ++ rowText c x)) w' ∧ Below B w w' ∧ KeptB b w w' := by
  have hns := hN.strs
  obtain ⟨A, cp, rfl, a1, a2, a3, a4⟩ := hns
  have hnl : c.names.length = c.things := Code.names_len c
  have h1 := hx.no1; have h2 := hx.no2; have h3 := hx.what1; have h4 := hx.what2; have h5 := hx.sum1; have h6 := hx.sum2
  obtain ⟨ad, rfl, hcN⟩ := a4 (by omega)
  obtain ⟨j, hj⟩ := Int.eq_ofNat_of_zero_le h3
  have hjl : j < c.names.length := by omega
  have eN := hcN.s hjl
  have hnm := ho.nameSize (i := j) (by omega)
  obtain ⟨nm, hnme⟩ : ∃ nm, c.names[j] = nm := ⟨_, rfl⟩
  have hgd : c.names.getD j ByteArray.empty = nm := by rw [name_at (by omega), hnme]
  rw [hgd] at hnm
  rw [hnme] at eN
  have hna : nameAt c x.what = nm.data.toList := by unfold nameAt; rw [hj]; simp only [Int.toNat_natCast]; rw [hgd]
  obtain ⟨D1, hD1⟩ : ∃ D1, digits x.no.toNat = D1 := ⟨_, rfl⟩
  obtain ⟨D2, hD2⟩ : ∃ D2, digits x.sum.toNat = D2 := ⟨_, rfl⟩
  have hl1 : D1.length ≤ 300 := by have := digits_len x.no.toNat; rw [hD1] at this; omega
  have hl2 : D2.length ≤ 300 := by have := digits_len x.sum.toNat; rw [hD2] at this; omega
  have hrow : S (D1 ++ [32]) ++ nm = S (D1 ++ [32] ++ nm.data.toList) := by rw [← S_app (D1 ++ [32]) nm.data.toList, S_data]
  have hrt : rowText c x = D1 ++ [32] ++ nm.data.toList ++ [32] ++ D2 ++ [10] := by unfold rowText; rw [hna, hD1, hD2]
  have hi1 : ∀ W, Env W → Calls Tryz.prog 83 #[.int .i64 x.no] W fun e w' => e = .returned (.string (S D1)) ∧ Ext W w' := fun W hW => by
    have := PItoa_any x.no (by omega) (by omega) W hW
    rw [itoa_digits (by omega), hD1] at this; exact this
  have hi2 : ∀ W, Env W → Calls Tryz.prog 83 #[.int .i64 x.sum] W fun e w' => e = .returned (.string (S D2)) ∧ Ext W w' := fun W hW => by
    have := PItoa_any x.sum (by omega) (by omega) W hW
    rw [itoa_digits (by omega), hD2] at this; exact this
  have hns1 : nm.data.toList.length = nm.size := rfl
  have Hi1 := Lib.hid hi1; have Hi2 := Lib.hid hi2; have Hrow := Lib.hid hrow; have Hrt := Lib.hid hrt
  rw [hj]
  have h9 := cell_blk h9b
  have HN := Lib.hid hN; have Hnm := Lib.hid hnme
  clear hnl hj h3 h4 hi1 hi2 hrow hrt a1 a2 a3 a4 hcN hna hgd hnme hD1 hD2 hx hN
  have hE := Ext.refl w
  go_enter Tryz.func85, Tryz.ntmps85
  go_wp2_with (first | ((with_reducible refine q_box (d := some 3) ?_); intro W3 g3 hE3 hB3 hg3; simp [Act.eval, Act.put, Value.cells] at hB3; (try replace hE := hE.trans hE3); (try replace hB3 := hB3.ext hE3); (try replace h9 := Ext.cell_some hE3 h9); (try replace eN := Ext.cell_some hE3 eN); (try replace hb3_0 := Ext.cell_some hE3 hb3_0); (try replace hb3_1 := Ext.cell_some hE3 hb3_1); (try replace hb3_2 := Ext.cell_some hE3 hb3_2); have hb3_0 := hB3.cell 0; have hb3_1 := hB3.cell 1; have hb3_2 := hB3.cell 2; simp at hb3_0 hb3_1 hb3_2; clear hE3))
  have hb2 := isB_ext hB hE
  have h99 := h9b.ext hE
  refine wp_region_tree (.take 0 (.take 1 (.take 4 (.take 5 (.take 6 (.take 7 (.take 8 (.take 11 (.take 12 (.one 2 (.take 3 (.take 9 (.take 10 (.one 13 (.take 14 (.take 15 (.one 16 .nil))))))))))))))))) (fun w' => w'.cell? ⟨g3, 0, none⟩ = some (.int .i64 x.no) ∧ w'.cell? ⟨g3, 1, none⟩ = some (.int .i64 j) ∧ w'.cell? ⟨g3, 2, none⟩ = some (.int .i64 x.sum) ∧ w'.cell? ⟨g9, 0, none⟩ = some (.slice (some ad) c.names.length cp) ∧ w'.cell? (ad.add j) = some (.string nm)) (by kernel_rfl) (by kernel_rfl) (by kernel_rfl) (by kernel_rfl) (fun _ _ _ _ _ h => h) ?_ (fun hHeld => ?_)
  · (first | exact True.intro | ((try dsimp only); (repeat' apply And.intro) <;> first | assumption | (refine Ext.cell_some (Ext.todrew (Ext.refl _)) ?_; assumption)))
  refine t_take (i := 0) (v := ?_) (by (simp only [List.getElem?_toArray, List.getElem?_cons_succ, List.getElem?_cons_zero]); rfl) (by rfl) ?_ (by exact hHeld) ?_
  rotate_left
  · (intro wq hSw; (try dsimp only at hSw); go_simp; (try with_reducible rfl))
  (try simp only [Act.put, List.setIfInBounds_toArray, List.set_cons_zero, List.set_cons_succ])
  refine t_take (i := 1) (v := ?_) (by (simp only [List.getElem?_toArray, List.getElem?_cons_succ, List.getElem?_cons_zero]); rfl) (by rfl) ?_ (by exact hHeld) ?_
  rotate_left
  · (intro wq hSw; (try dsimp only at hSw); go_simp; (try with_reducible rfl))
  (try simp only [Act.put, List.setIfInBounds_toArray, List.set_cons_zero, List.set_cons_succ])
  refine t_take (i := 4) (v := ?_) (by (simp only [List.getElem?_toArray, List.getElem?_cons_succ, List.getElem?_cons_zero]); rfl) (by rfl) ?_ (by exact hHeld) ?_
  rotate_left
  · (intro wq hSw; (try dsimp only at hSw); go_simp; (try with_reducible rfl))
  (try simp only [Act.put, List.setIfInBounds_toArray, List.set_cons_zero, List.set_cons_succ])
  refine t_take (i := 5) (v := ?_) (by (simp only [List.getElem?_toArray, List.getElem?_cons_succ, List.getElem?_cons_zero]); rfl) (by rfl) ?_ (by exact hHeld) ?_
  rotate_left
  · (intro wq hSw; (try dsimp only at hSw); go_simp; (try with_reducible rfl))
  (try simp only [Act.put, List.setIfInBounds_toArray, List.set_cons_zero, List.set_cons_succ])
  refine t_take (i := 6) (v := ?_) (by (simp only [List.getElem?_toArray, List.getElem?_cons_succ, List.getElem?_cons_zero]); rfl) (by rfl) ?_ (by exact hHeld) ?_
  rotate_left
  · (intro wq hSw; (try dsimp only at hSw); go_simp; (try with_reducible rfl))
  (try simp only [Act.put, List.setIfInBounds_toArray, List.set_cons_zero, List.set_cons_succ])
  refine t_take (i := 7) (v := ?_) (by (simp only [List.getElem?_toArray, List.getElem?_cons_succ, List.getElem?_cons_zero]); rfl) (by rfl) ?_ (by exact hHeld) ?_
  rotate_left
  · (intro wq hSw; (try dsimp only at hSw); go_simp; (try with_reducible rfl))
  (try simp only [Act.put, List.setIfInBounds_toArray, List.set_cons_zero, List.set_cons_succ])
  refine t_take (i := 8) (v := ?_) (by (simp only [List.getElem?_toArray, List.getElem?_cons_succ, List.getElem?_cons_zero]); rfl) (by rfl) ?_ (by exact hHeld) ?_
  rotate_left
  · (intro wq hSw; (try dsimp only at hSw); go_simp; (try with_reducible rfl))
  (try simp only [Act.put, List.setIfInBounds_toArray, List.set_cons_zero, List.set_cons_succ])
  refine t_take (i := 11) (v := ?_) (by (simp only [List.getElem?_toArray, List.getElem?_cons_succ, List.getElem?_cons_zero]); rfl) (by rfl) ?_ (by exact hHeld) ?_
  rotate_left
  · (intro wq hSw; (try dsimp only at hSw); go_simp; (try with_reducible rfl))
  (try simp only [Act.put, List.setIfInBounds_toArray, List.set_cons_zero, List.set_cons_succ])
  refine t_take (i := 12) (v := ?_) (by (simp only [List.getElem?_toArray, List.getElem?_cons_succ, List.getElem?_cons_zero]); rfl) (by rfl) ?_ (by exact hHeld) ?_
  rotate_left
  · (intro wq hSw; (try dsimp only at hSw); go_simp; (try with_reducible rfl))
  (try simp only [Act.put, List.setIfInBounds_toArray, List.set_cons_zero, List.set_cons_succ])
  refine t_one (i := 2) (by (simp only [List.getElem?_toArray, List.getElem?_cons_succ, List.getElem?_cons_zero]); rfl) ?_
  ((refine q_call (by rfl) (Hi1.out _ (by exact (hv.ext hE).d)) (by go_simp) ?_; rintro e W6 ⟨rfl, hE6⟩; refine ⟨_, rfl, ?_⟩; have hz6 := hE6.undrew; have s0 := Ext.cell_some hz6 hb3_0; have s1 := Ext.cell_some hz6 hb3_1; have s2 := Ext.cell_some hz6 hb3_2; have s9 := Ext.cell_some hz6 h9; have sN := Ext.cell_some hz6 eN))
  clear hHeld; refine t_next ?_ (fun hHeld => ?_)
  · (first | exact True.intro | ((try dsimp only); (repeat' apply And.intro) <;> first | assumption | (refine Ext.cell_some (Ext.todrew (Ext.refl _)) ?_; assumption)))
  (try simp only [Act.put, List.setIfInBounds_toArray, List.set_cons_zero, List.set_cons_succ])
  refine t_take (i := 3) (v := .string (S (D1 ++ [32]))) (by (simp only [List.getElem?_toArray, List.getElem?_cons_succ, List.getElem?_cons_zero]); rfl) (by rfl) ?_ (by exact hHeld) ?_
  · exact run_cat (p := S D1) (q := S [32]) (by rfl) (by rfl) (S_app D1 [32]) (by simp [S_size]; omega)
  (try simp only [Act.put, List.setIfInBounds_toArray, List.set_cons_zero, List.set_cons_succ])
  refine t_take (i := 9) (v := .string (S (D1 ++ [32] ++ nm.data.toList))) (by (simp only [List.getElem?_toArray, List.getElem?_cons_succ, List.getElem?_cons_zero]); rfl) (by rfl) ?_ (by exact hHeld) ?_
  · exact run_cat (p := S (D1 ++ [32])) (q := nm) (by rfl) (by rfl) Hrow.out (by simp [S_size]; omega)
  (try simp only [Act.put, List.setIfInBounds_toArray, List.set_cons_zero, List.set_cons_succ])
  refine t_take (i := 10) (v := .string (S (D1 ++ [32] ++ nm.data.toList ++ [32]))) (by (simp only [List.getElem?_toArray, List.getElem?_cons_succ, List.getElem?_cons_zero]); rfl) (by rfl) ?_ (by exact hHeld) ?_
  · exact run_cat (p := S (D1 ++ [32] ++ nm.data.toList)) (q := S [32]) (by rfl) (by rfl) (S_app _ _) (by simp [S_size]; omega)
  (try simp only [Act.put, List.setIfInBounds_toArray, List.set_cons_zero, List.set_cons_succ])
  refine t_one (i := 13) (by (simp only [List.getElem?_toArray, List.getElem?_cons_succ, List.getElem?_cons_zero]); rfl) ?_
  ((refine q_call (by rfl) (Hi2.out _ (by exact hv.ext (hE.trans hz6))) (by go_simp) ?_; rintro e W17 ⟨rfl, hE17⟩; refine ⟨_, rfl, ?_⟩; have u0 := Ext.cell_some hE17 s0; have u1 := Ext.cell_some hE17 s1; have u2 := Ext.cell_some hE17 s2; have u9 := Ext.cell_some hE17 s9; have uN := Ext.cell_some hE17 sN))
  clear hHeld; refine t_next ?_ (fun hHeld => ?_)
  · (first | exact True.intro | ((try dsimp only); (repeat' apply And.intro) <;> first | assumption | (refine Ext.cell_some (Ext.todrew (Ext.refl _)) ?_; assumption)))
  (try simp only [Act.put, List.setIfInBounds_toArray, List.set_cons_zero, List.set_cons_succ])
  refine t_take (i := 14) (v := .string (S (D1 ++ [32] ++ nm.data.toList ++ [32] ++ D2))) (by (simp only [List.getElem?_toArray, List.getElem?_cons_succ, List.getElem?_cons_zero]); rfl) (by rfl) ?_ (by exact hHeld) ?_
  · exact run_cat (p := S (D1 ++ [32] ++ nm.data.toList ++ [32])) (q := S D2) (by rfl) (by rfl) (S_app _ _) (by simp [S_size]; omega)
  (try simp only [Act.put, List.setIfInBounds_toArray, List.set_cons_zero, List.set_cons_succ])
  refine t_take (i := 15) (v := .string (S (D1 ++ [32] ++ nm.data.toList ++ [32] ++ D2 ++ [10]))) (by (simp only [List.getElem?_toArray, List.getElem?_cons_succ, List.getElem?_cons_zero]); rfl) (by rfl) ?_ (by exact hHeld) ?_
  · exact run_cat (p := S (D1 ++ [32] ++ nm.data.toList ++ [32] ++ D2)) (q := S [10]) (by rfl) (by rfl) (S_app _ _) (by simp [S_size]; omega)
  (try simp only [Act.put, List.setIfInBounds_toArray, List.set_cons_zero, List.set_cons_succ])
  refine t_one (i := 16) (by (simp only [List.getElem?_toArray, List.getElem?_cons_succ, List.getElem?_cons_zero]); rfl) ?_
  ((have hEz : Ext w W17 := (hE.trans hz6).trans hE17; have hbz := isB_ext hb2 (hz6.trans hE17); have hBz : B ≤ W17.heap.size := Nat.le_trans hBw hEz.size; refine q_call (by rfl) (pwrite_any B b (Lib.byteCells l) (S (D1 ++ [32] ++ nm.data.toList ++ [32] ++ D2 ++ [10])) _ hbz (by simp [S_size, Lib.byteCells_length]; omega) hBz) (by go_simp) ?_; rintro e W20 ⟨rfl, hB20, hbel, hkept⟩; refine ⟨_, rfl, ?_⟩; have hb115 : ∃ pv, Blk W17 b 115 pv := (by rcases hbz with ⟨_, vv, h2, _⟩ | ⟨_, vv, h2, _⟩ <;> exact ⟨_, h2⟩); (obtain ⟨pv, hb115⟩ := hb115); have hB3z := (hB3.ext hz6).ext hE17; have h9z := (h99.ext hz6).ext hE17; have hB3y := hkept.blk hB3z (blk_ne hB3z hb115 (by decide)) (by decide); have h9y := hkept.blk h9z (blk_ne h9z hb115 (by decide)) (by decide); have v0 := hB3y.cell 0; have v1 := hB3y.cell 1; have v2 := hB3y.cell 2; simp at v0 v1 v2; have v9 := cell_blk h9y; have hNz := OwnS.ext HN.out hEz; have hNy := hkept.ownS hNz (own_ne hNz hb115 (.inl (by decide))); (obtain ⟨A2, cp2, hve, _, _, _, hc4⟩ := hNy.strs); (injection hve with e1 e2 e3; obtain ⟨ad2, hA2, hcc⟩ := hc4 (by omega); rw [← e1] at hA2; injection hA2 with hA2; subst hA2; have vN := hcc.s hjl; rw [Hnm.out] at vN)))
  clear hHeld; refine t_next ?_ (fun hHeld => ?_)
  · (first | exact True.intro | ((try dsimp only); (repeat' apply And.intro) <;> first | assumption | (refine Ext.cell_some (Ext.todrew (Ext.refl _)) ?_; assumption)))
  (try simp only [Act.put, List.setIfInBounds_toArray, List.set_cons_zero, List.set_cons_succ])
  refine t_done ?_
  go_end0
  have hL : Lib.byteCells l ++ Lib.strCells (S (D1 ++ [32] ++ nm.data.toList ++ [32] ++ D2 ++ [10])) = Lib.byteCells (l ++ rowText c x) := by rw [Lib.strCells_eq, S_list, ← Lib.byteCells_append, Hrt.out]
  rw [hL] at hB20
  exact ⟨rfl, hB20, (hEz.mono hBw).trans hbel, (KeptB.ofExt b hEz).trans hkept⟩
theorem enters85 : ∀ (args : Array Value) (W : World), (callFunc 85 args).run Tryz.prog W = .ok (.enter 85 args) W := enters_of Tryz.func85 (by kernel_rfl) rfl
theorem ld_lineB {w : World} {g : Nat} {a b c : Value} (h : Blk w g 99 #[a, b, c]) : (loadVar 99 ⟨g, 0, none⟩).run Tryz.prog w = .ok (.agg #[a, b, c]) w := by
  obtain ⟨i, hi, hs⟩ := info99
  exact load_struct (cs := [a, b, c]) Tryz.underlying99 hi (by rw [hs]; rfl) h.cells
set_option maxHeartbeats 4000000 in
theorem peachL_any (b g9 B' : Nat) (c : Code) (s : Sheet) (kv nv : Value) (w0 w : World) (hK : Lines w0 kv s.kept) (ho : c.Ok) (hs : s.Ok c) (hv : Env w0) (hE : Ext w0 w) (hB : Lib.IsBuilder 115 5 w0.heap.size b (Lib.byteCells (textTo c s 0)) w) (h9 : Blk w g9 23 #[nv]) (hN : OwnS B' w nv c.names) :
    Calls Tryz.prog 84 #[kv, .func (.func 85) #[] #[.pointer (some ⟨b, 0, none⟩), .pointer (some ⟨g9, 0, none⟩)]] w fun e w' => e = .returned (.tuple #[]) ∧ Ext w0 w' ∧ Lib.IsBuilder 115 5 w0.heap.size b (Lib.byteCells (textOf c s)) w' := by
  obtain ⟨A, cp, rfl, a1, a2, a3, a4⟩ := id hK
  unfold maxLen at a2
  have Ha4 := Lib.hid a4; have Ho := Lib.hid ho; have Hs := Lib.hid hs
  have hk12 := hs.keptLen
  have hent := enters85
  have HW := Lib.hid (show Ext w0 w ∧ Lib.IsBuilder 115 5 w0.heap.size b (Lib.byteCells (textTo c s 0)) w ∧ Blk w g9 23 #[nv] ∧ OwnS B' w nv c.names from ⟨hE, hB, h9, hN⟩)
  clear a3 a4 ho hs hE hB h9 hN
  go_enter Tryz.func84, Tryz.ntmps84
  go_wp2
  go_loopw [8] (fun i Wr => ∃ k : Nat, k ≤ s.kept.length ∧ i = .int .i64 k ∧ Ext w0 Wr ∧ Lib.IsBuilder 115 5 w0.heap.size b (Lib.byteCells (textTo c s k)) Wr ∧ Blk Wr g9 23 #[nv] ∧ OwnS B' Wr nv c.names) (fun i _ => s.kept.length - (intOf i).toNat)
  case atStart => exact ⟨0, by omega, rfl, HW.out.1, HW.out.2.1, HW.out.2.2.1, HW.out.2.2.2⟩
  case round =>
    obtain ⟨k, hk, rfl, hEr, hB, h9, hN⟩ := hrel
    clear HW
    by_cases hlt : k < s.kept.length
    · obtain ⟨ad, rfl, hca⟩ := Ha4.out (by omega)
      have hcr := hca.ext hEr
      have hx := Hs.out.line _ (List.getElem_mem hlt)
      have htl := textTo_len Ho.out Hs.out k (by omega)
      have hts := textTo_succ c s hlt
      obtain ⟨x, hxe⟩ : ∃ x, s.kept[k] = x := ⟨_, rfl⟩
      have eL := ld_l hcr hlt
      rw [hxe] at hx hts eL
      have Hx := Lib.hid hx; have Hts := Lib.hid hts
      have hl2 := Hs.out.l2
      clear hx hts hcr hca
      go_wp2_with (first | ((with_reducible refine q_load (d := some 11) (hl := eL) ?_ ?_); rfl) | ((with_reducible refine q_newvar (e := 99) (u := 5) (v := .agg #[.int .i64 x.no, .int .i64 x.what, .int .i64 x.sum]) ti99 ?_ ?_ ?_ ?_ ?_ ?_); (intro g; rfl); (intro g; rfl); rfl; rfl; (simp [Value.cells, Value.oneCell']); intro W5 g5 hE5 hB5 hg5; simp [Value.cells] at hB5; have hEr5 := hEr.trans hE5; have hBr5 := isB_ext hB hE5; have h95 := h9.ext hE5; have hN5 := OwnS.ext hN hE5) | ((with_reducible refine q_load (d := some 13) (hl := ld_lineB hB5) ?_ ?_); rfl))
      refine (pline_any w0.heap.size b g9 B' c x (textTo c s k) nv s.lines _ Hx.out hl2 Ho.out (hv.ext hEr5) hBr5 h95 hN5 (by omega) hEr5.size).mono ?_
      rintro e W85 ⟨rfl, hB85, hbel, hkept⟩
      have hb115 : ∃ pv, Blk W5 b 115 pv := by rcases hBr5 with ⟨_, vv, h2, _⟩ | ⟨_, vv, h2, _⟩ <;> exact ⟨_, h2⟩
      obtain ⟨pv, hb115⟩ := hb115
      have h9y := hkept.blk h95 (blk_ne h95 hb115 (by decide)) (by decide)
      have hNy := hkept.ownS hN5 (own_ne hN5 hb115 (.inl (by decide)))
      have hEy : Ext w0 W85 := Below.trans hEr5 hbel
      rw [← Hts.out] at hB85
      go_wp2
      go_roundw
      case rel => exact ⟨k + 1, by omega, by go_num, hEy, hB85, h9y, hNy⟩
      case measure => simp [intOf]; omega
    · obtain rfl : k = s.kept.length := by omega
      have hto : textTo c s s.kept.length = textOf c s := by unfold textTo textOf; rw [List.take_length]
      rw [hto] at hB
      go_wp2
      go_end0
      exact ⟨rfl, hEr, hB⟩
end Go.Bp
end
section
set_option maxRecDepth 100000
set_option linter.unusedSimpArgs false
set_option linter.unusedVariables false
namespace Go.Bp
open Go.RowKit Go.Proofs
theorem ti115 : (Tryz.prog.info? 115).map (fun i => (i.zero, i.size, i.bytes)) = some (some (.agg #[.pointer none, .slice none 0 0]), 2, 32) := by kernel_rfl
theorem ti23 : (Tryz.prog.info? 23).map (fun i => (i.zero, i.size, i.bytes)) = some (some (.slice none 0 0), 1, 24) := by kernel_rfl
theorem isB_fresh {w : World} {B b : Nat} (h : Blk w b 115 #[.pointer none, .slice none 0 0]) (hB : B ≤ b) : Lib.IsBuilder 115 5 B b [] w :=
  .inl ⟨hB, .slice none 0 0, h, World.ownsRow_nil w B 5 1, by simp [Value.ownBlock]⟩
set_option maxHeartbeats 4000000 in
theorem PWrite_any (cv sv : Value) (c : Code) (s : Sheet) (w : World) (h : CodeV w cv c) (hsv : SheetV w sv s) (hv : Env w) :
    Calls Tryz.prog 38 #[cv, sv] w (RetTI w (writeAns c s).1 (writeAns c s).2) := by
  obtain ⟨fv, mv, rfl, hF, hM, hW⟩ := h
  obtain ⟨kv, rfl, hK⟩ := hsv
  have hE := Ext.refl w
  have HW := Lib.hid hW
  clear hW
  obtain ⟨A, cp, rfl, a1, a2, a3, a4⟩ := id hK
  clear a3 a4
  have hKw := hK
  have hFw := hF; have hMw := hM
  by_cases ha : s.asked c = 0
  · obtain ⟨ho, hs⟩ := asked_zero ha
    have Ho := Lib.hid ho; have Hs := Lib.hid hs
    have q1 : (s.asked c != 0) = false := by simp [ha]
    have Ha := Lib.hid ha
    have Hr := Lib.hid (show writeAns c s = (textOf c s, 0) by unfold writeAns; rw [if_neg (by simp [ha])])
    have Hcb := Lib.hid (show c.faults.length ≤ 1000000 ∧ c.man.length ≤ 1000000 from ⟨by have := ho.nf2; omega, by have := ho.nm; omega⟩)
    have h1 := hs.l1; have h2 := hs.l2
    have hmf : ∀ (fn : Fn) (first cap : Array Value) (w : World), (Instr.makeFunc fn first cap).run Tryz.prog w = .ok (.func fn first cap) w := fun _ _ _ _ => rfl
    clear ha ho hs
    obtain ⟨D, hD⟩ : ∃ D, digits s.lines.toNat = D := ⟨_, rfl⟩
    have hDl : D.length ≤ 300 := by have := digits_len s.lines.toNat; rw [hD] at this; omega
    have hi1 : ∀ W, Env W → Calls Tryz.prog 83 #[.int .i64 s.lines] W fun e w' => e = .returned (.string (S D)) ∧ Ext W w' := fun W hW => by
      have := PItoa_any s.lines (by omega) (by omega) W hW
      rw [itoa_digits (by omega), hD] at this; exact this
    have Hi1 := Lib.hid hi1
    have Ht0 := Lib.hid (show textTo c s 0 = D ++ [10] by unfold textTo; rw [hD]; simp)
    clear hi1 hD
    rw [Hr.out]
    go_enter Tryz.func38, Tryz.ntmps38
    go_wp2_with (first | ((go_at_call 72; ((with_reducible refine (popen_any _ _ _ c s _ (by exact hF) (by exact hM) HW.out (by exact SheetV.of hK)).mono ?_)); rintro e W72 ⟨v72, rfl, hE72, hN72, hT72⟩; replace hE := hE.trans hE72; replace hb2_0 := Ext.cell_some hE72 hb2_0; replace hb2_1 := Ext.cell_some hE72 hb2_1; replace hb2_2 := Ext.cell_some hE72 hb2_2; replace hb3_0 := Ext.cell_some hE72 hb3_0; replace hb3_1 := Ext.cell_some hE72 hb3_1; replace hB2 := hB2.ext hE72; replace hB3 := hB3.ext hE72; clear hT72 hN72)) | (((with_reducible refine q_alloc (d := some 8) ti115 ?_); intro W8 b hE8 hB8 hb8; have hb0 := Nat.le_trans hE.size hb8; simp [Value.cells] at hB8; replace hE := hE.trans hE8; replace hB2 := hB2.ext hE8; replace hB3 := hB3.ext hE8; replace hb3_0 := Ext.cell_some hE8 hb3_0; replace hb3_1 := Ext.cell_some hE8 hb3_1)) | ((with_reducible refine q_box (d := some 2) ?_); intro W2 g2 hE2 hB2 hg2; simp [Act.eval, Act.put, Value.cells] at hB2; (try replace hE := hE.trans hE2); (try replace hF := hF.ext hE2); (try replace hM := hM.ext hE2); (try replace hK := hK.ext hE2); (try replace hB2 := hB2.ext hE2); (try replace hB3 := hB3.ext hE2); (try replace hb2_0 := Ext.cell_some hE2 hb2_0); (try replace hb2_1 := Ext.cell_some hE2 hb2_1); (try replace hb2_2 := Ext.cell_some hE2 hb2_2); (try replace hb3_0 := Ext.cell_some hE2 hb3_0); (try replace hb3_1 := Ext.cell_some hE2 hb3_1); have hb2_0 := hB2.cell 0; have hb2_1 := hB2.cell 1; have hb2_2 := hB2.cell 2; simp at hb2_0 hb2_1 hb2_2; clear hE2) | ((with_reducible refine q_box (d := some 3) ?_); intro W3 g3 hE3 hB3 hg3; simp [Act.eval, Act.put, Value.cells] at hB3; (try replace hE := hE.trans hE3); (try replace hF := hF.ext hE3); (try replace hM := hM.ext hE3); (try replace hK := hK.ext hE3); (try replace hB2 := hB2.ext hE3); (try replace hB3 := hB3.ext hE3); (try replace hb2_0 := Ext.cell_some hE3 hb2_0); (try replace hb2_1 := Ext.cell_some hE3 hb2_1); (try replace hb2_2 := Ext.cell_some hE3 hb2_2); (try replace hb3_0 := Ext.cell_some hE3 hb3_0); (try replace hb3_1 := Ext.cell_some hE3 hb3_1); have hb3_0 := hB3.cell 0; have hb3_1 := hB3.cell 1; simp at hb3_0 hb3_1; clear hE3))
    refine (Hi1.out _ (hv.ext hE)).mono ?_
    rintro e W83 ⟨rfl, hE83⟩
    replace hE := hE.trans hE83; replace hB2 := hB2.ext hE83; replace hB3 := hB3.ext hE83; replace hB8 := hB8.ext hE83
    have n28 := blk_ne hB2 hB8 (by decide); have n38 := blk_ne hB3 hB8 (by decide)
    go_wp2_with (first | ((with_reducible refine q_cat (d := some 22) (p := S D) (q := S [10]) ?_ ?_ (S_app D [10]) (by simp [S_size]; omega) ?_); rfl; rfl) | (go_at_call 82; refine (pwrite_any w.heap.size b [] (S (D ++ [10])) _ (isB_fresh hB8 hb0) (by simp [S_size]; omega) hE.size).mono ?_; rintro e W82 ⟨rfl, hB82, hbel, hkept⟩; have hE2 : Ext w W82 := Below.trans hE hbel; have hL : [] ++ Lib.strCells (S (D ++ [10])) = Lib.byteCells (textTo c s 0) := (by rw [Lib.strCells_eq, S_list, Ht0.out]; rfl); rw [hL] at hB82; have k2 := hkept.blk hB2 n28 (by decide); have k3 := hkept.blk hB3 n38 (by decide); have b20 := k2.cell 0; have b21 := k2.cell 1; have b22 := k2.cell 2; have b30 := k3.cell 0; have b31 := k3.cell 1; simp at b20 b21 b22 b30 b31; clear hL) | (go_at_call 53; refine (PNames_any _ c _ (CodeV.of (hFw.ext hE2) (hMw.ext hE2) HW.out) Hcb.out).mono ?_; rintro e W53 ⟨nv, rfl, hN, hE53⟩; (obtain ⟨An, cn, hnve, _, _, _, _⟩ := hN.strs); subst hnve; have hE3 := hE2.trans hE53; have b31' := Ext.cell_some hE53 b31; have hB53 := isB_ext hB82 hE53) | ((with_reducible refine q_newvar (e := 23) (u := 9) (v := .slice An c.names.length cn) ti23 ?_ ?_ ?_ ?_ ?_ ?_); (intro g; rfl); (intro g; rfl); rfl; rfl; (simp [Value.cells, Value.oneCell']); intro W9 g9 hE9 hB9 hg9; simp [Value.cells] at hB9; have hE4 := hE3.trans hE9; have b31'' := Ext.cell_some hE9 b31'; have hB54 := isB_ext hB53 hE9; have hN4 := OwnS.ext hN hE9) | (go_at_call 84; refine (peachL_any b g9 _ c s _ _ w _ hKw Ho.out Hs.out hv hE4 hB54 hB9 hN4).mono ?_; rintro e W84 ⟨rfl, hE84, hB84⟩) | (go_at_call 86; refine (Tryz.Builder_String_any w.heap.size b (textOf c s) _ hB84 hE84.size).mono ?_; rintro e W86 ⟨rfl, hbel86⟩))
    go_ret2
    exact ⟨rfl, Below.trans hE84 hbel86⟩
  · have q1 : (s.asked c != 0) = true := by simp [ha]
    have Hr := Lib.hid (show writeAns c s = ([], s.asked c) by unfold writeAns; rw [if_pos ha])
    have Ha := Lib.hid ha
    clear ha
    rw [Hr.out]
    go_enter Tryz.func38, Tryz.ntmps38
    go_wp2_with (first | ((go_at_call 72; ((with_reducible refine (popen_any _ _ _ c s _ (by exact hF) (by exact hM) HW.out (by exact SheetV.of hK)).mono ?_)); rintro e W72 ⟨v72, rfl, hE72, hN72, hT72⟩; replace hE := hE.trans hE72; have hv72 := hN72 Ha.out; subst hv72)) | ((with_reducible refine q_box (d := some 2) ?_); intro W2 g2 hE2 hB2 hg2; simp [Act.eval, Act.put, Value.cells] at hB2; (try replace hE := hE.trans hE2); (try replace hF := hF.ext hE2); (try replace hM := hM.ext hE2); (try replace hK := hK.ext hE2); (try replace hB2 := hB2.ext hE2); (try replace hB3 := hB3.ext hE2); (try replace hb2_0 := Ext.cell_some hE2 hb2_0); (try replace hb2_1 := Ext.cell_some hE2 hb2_1); (try replace hb2_2 := Ext.cell_some hE2 hb2_2); (try replace hb3_0 := Ext.cell_some hE2 hb3_0); (try replace hb3_1 := Ext.cell_some hE2 hb3_1); have hb2_0 := hB2.cell 0; have hb2_1 := hB2.cell 1; have hb2_2 := hB2.cell 2; simp at hb2_0 hb2_1 hb2_2; clear hE2) | ((with_reducible refine q_box (d := some 3) ?_); intro W3 g3 hE3 hB3 hg3; simp [Act.eval, Act.put, Value.cells] at hB3; (try replace hE := hE.trans hE3); (try replace hF := hF.ext hE3); (try replace hM := hM.ext hE3); (try replace hK := hK.ext hE3); (try replace hB2 := hB2.ext hE3); (try replace hB3 := hB3.ext hE3); (try replace hb2_0 := Ext.cell_some hE3 hb2_0); (try replace hb2_1 := Ext.cell_some hE3 hb2_1); (try replace hb2_2 := Ext.cell_some hE3 hb2_2); (try replace hb3_0 := Ext.cell_some hE3 hb3_0); (try replace hb3_1 := Ext.cell_some hE3 hb3_1); have hb3_0 := hB3.cell 0; have hb3_1 := hB3.cell 1; simp at hb3_0 hb3_1; clear hE3))
    go_ret2
    exact ⟨rfl, hE⟩
end Go.Bp
end
section
set_option maxRecDepth 100000
set_option linter.unusedSimpArgs false
set_option linter.unusedVariables false
namespace Go.Bp
open Go.RowKit Go.Proofs
/-- The panic of 'must'. -/
def noForm : List PanicEntry := [{ v := .iface 27 (.int .i64 6), recovered := false }]
theorem pmust_t (w : World) : Calls Tryz.prog 90 #[.bool true] w fun e w' => e = .returned (.tuple #[]) ∧ w' = w := by
  go_enter Tryz.func90, Tryz.ntmps90
  go_wp2
  go_end0
  exact ⟨rfl, rfl⟩
theorem pmust_f (w : World) : Calls Tryz.prog 90 #[.bool false] w fun e w' => e = .panicked noForm ∧ w' = w := by
  go_enter Tryz.func90, Tryz.ntmps90
  go_wp2
  exact ⟨rfl, rfl, rfl⟩
theorem ext_bytes (w : World) (t : TypeId) (s : ByteArray) : Ext w (Lib.bytesWorld w t s) := by
  exact Lib.bytesWorld_below w t s
/-- What Atoi answers. -/
theorem pAtoi_any (s : ByteArray) (hs : s.size ≤ 1000) (w : World) (hv : Env w) :
    Calls Tryz.prog 117 #[.string s] w fun e w' => Ext w w' ∧ ∃ n ev, e = .returned (.tuple #[.int .i64 n, ev]) ∧ ((Lib.atoiAll s.data.toList = .ok n ∧ ev = .nilIface) ∨ ((∀ m, Lib.atoiAll s.data.toList ≠ .ok m) ∧ ∃ te pe, ev = .iface te pe)) := by
  obtain ⟨te, pe, hsy⟩ := hv.syn
  obtain ⟨te2, pe2, hra⟩ := hv.rng
  cases h : Lib.atoiAll s.data.toList
  · rename_i n
    refine (Tryz.strconv_Atoi_ok s (by omega) n h w).mono ?_
    rintro e w' ⟨rfl, hw⟩
    refine ⟨?_, n, .nilIface, rfl, .inl ⟨rfl, rfl⟩⟩
    rcases hw with rfl | ⟨t, rfl⟩
    · exact Ext.refl _
    · exact ext_bytes w 5 t
  · refine (Any.strconv_Atoi_syntax Tryz.laysC172 s (by omega) h _ w hsy (.inr ⟨te, pe, rfl⟩)).mono ?_
    rintro e w' ⟨N, rfl, _, _, hb⟩
    exact ⟨hb, _, _, rfl, .inr ⟨(fun m e => by cases e), _, _, rfl⟩⟩
  · refine (Tryz.strconv_Atoi_range s (by omega) h _ w hra (.inr ⟨te2, pe2, rfl⟩)).mono ?_
    rintro e w' ⟨N, rfl, _, _, hb⟩
    exact ⟨hb, _, _, rfl, .inr ⟨(fun m e => by cases e), _, _, rfl⟩⟩
theorem atoi_bd {l : List UInt8} {n : Int} (h : Lib.atoiAll l = .ok n) : -9223372036854775808 ≤ n ∧ n ≤ 9223372036854775807 := by
  unfold Lib.atoiAll at h
  split at h
  · cases h
  · simp only at h
    split at h
    · cases h
    · cases h
    · split at h
      · cases h
      · split at h
        · cases h
        · rename_i h1 h2
          injection h with h
          rw [← h]
          split <;> omega
/-- What number answers. -/
theorem pnumber_any (s : ByteArray) (hs : s.size ≤ 1000) (w : World) (hv : Env w) :
    Calls Tryz.prog 92 #[.string s] w fun e w' => Ext w w' ∧ ((∃ n, numL s.data.toList = some n ∧ e = .returned (.int .i64 n)) ∨ (numL s.data.toList = none ∧ e = .panicked noForm)) := by
  have hat := pAtoi_any s hs w hv
  have Hat := Lib.hid hat
  clear hat
  go_enter Tryz.func92, Tryz.ntmps92
  go_wp2_with fail
  refine Hat.out.mono ?_
  rintro e W1 ⟨hE, n, ev, rfl, (⟨hok, rfl⟩ | ⟨hno, te, pe, rfl⟩)⟩
  · have hb := atoi_bd hok
    by_cases hq : Lib.itoa n = s.data.toList
    · have Hn := Lib.hid (show numL s.data.toList = some n by unfold numL; rw [hok]; simp [hq])
      have hI : ∀ W, Env W → Calls Tryz.prog 83 #[.int .i64 n] W fun e w' => e = .returned (.string s) ∧ Ext W w' := fun W hW => by
        have := PItoa_any n hb.1 hb.2 W hW
        rw [hq, S_data] at this; exact this
      have HI := Lib.hid hI
      clear hI hq hok hb
      go_wp2_with (first | (go_at_call 83; refine (HI.out _ (hv.ext hE)).mono ?_; rintro e W2 ⟨rfl, hE2⟩) | (go_at_call 90; refine (pmust_t _).mono ?_; rintro e W3 ⟨rfl, rfl⟩))
      go_ret
      exact ⟨hE.trans hE2, .inl ⟨n, Hn.out, rfl⟩⟩
    · have Hn := Lib.hid (show numL s.data.toList = none by unfold numL; rw [hok]; simp [hq])
      obtain ⟨T, hT⟩ : ∃ T, S (Lib.itoa n) = T := ⟨_, rfl⟩
      have hTs : ¬ T = s := by rintro rfl; exact hq (by rw [← hT, S_list])
      have hTb : (T.toList == s.toList) = false := by rw [ba_tl]; simp [hTs]
      have hI : ∀ W, Env W → Calls Tryz.prog 83 #[.int .i64 n] W fun e w' => e = .returned (.string T) ∧ Ext W w' := fun W hW => by
        have := PItoa_any n hb.1 hb.2 W hW
        rw [hT] at this; exact this
      have HI := Lib.hid hI
      clear hI hq hok hb hT
      go_wp2_with (first | (go_at_call 83; refine (HI.out _ (hv.ext hE)).mono ?_; rintro e W2 ⟨rfl, hE2⟩) | (go_at_call 90; refine (pmust_f _).mono ?_; rintro e W3 ⟨rfl, rfl⟩))
      exact ⟨rfl, hE.trans hE2, .inr ⟨Hn.out, rfl⟩⟩
  · have Hn := Lib.hid (show numL s.data.toList = none by unfold numL; cases h : Lib.atoiAll s.data.toList <;> first | rfl | exact absurd h (hno _))
    clear hno
    go_wp2_with (first | (go_at_call 90; refine (pmust_f _).mono ?_; rintro e W3 ⟨rfl, rfl⟩))
    exact ⟨rfl, hE, .inr ⟨Hn.out, rfl⟩⟩
theorem tassert (w : World) : (Instr.typeAssert (.iface 27 (.int .i64 6)) 20 27 false).run Tryz.prog w = .ok (.int .i64 6) w := by kernel_rfl
set_option maxHeartbeats 2000000 in
/-- The deferred closure of Read, behind a panic of 'must'. -/
theorem pcatch_any (g4 g5 : Nat) (a0 a1 a5 : Value) (w : World) (h4 : Blk w g4 39 #[a0, a1]) (h5 : Blk w g5 27 #[a5]) :
    CallsD Tryz.prog 88 #[.pointer (some ⟨g4, 0, none⟩), .pointer (some ⟨g5, 0, none⟩)] (.panicking noForm) w fun e u' w' =>
      e = .returned (.tuple #[]) ∧ u' = .panicking [{ v := .iface 27 (.int .i64 6), recovered := true }] ∧ Blk w' g4 39 #[.int .i64 0, .slice none 0 0] ∧ Blk w' g5 27 #[.int .i64 6] ∧ Near [g4, g5] w w' := by
  have n45 : g4 ≠ g5 := blk_ne h4 h5 (by decide)
  refine callsD_of_wpS Tryz.func88 rfl fun c₀ cs hu => ?_
  apply wpS_seq
  apply wpS_region
  simp [wpOpsS, go_sem, recoverD, hu, noForm, Tryz.ntmps88, Exit.thenS]
  apply wpS_seq
  apply wpS_region
  simp [wpOpsS, go_sem, Tryz.ntmps88, Exit.thenS]
  refine wpS_cond (t := true) (by simp [Act.eval, Array.replicate]) ?_
  simp only [if_true]
  apply wpS_of_wp
  refine wp_region_tree (.take 0 (.take 1 (.take 2 (.one 3 (.one 4 .nil))))) (fun w' => True) (by kernel_rfl) (by kernel_rfl) (by kernel_rfl) (by kernel_rfl) (fun _ _ _ _ _ h => h) ?_ (fun hHeld => ?_)
  · (first | exact True.intro | ((try dsimp only); (repeat' apply And.intro) <;> first | assumption | (refine Ext.cell_some (Ext.todrew (Ext.refl _)) ?_; assumption)))
  refine t_take (i := 0) (v := .agg #[.int .i64 0, .slice none 0 0]) (by (simp only [List.getElem?_toArray, List.getElem?_cons_succ, List.getElem?_cons_zero]); rfl) (by rfl) ?_ (by exact hHeld) ?_
  · (intro wq _; go_simp)
  (try simp only [Act.put, List.setIfInBounds_toArray, List.set_cons_zero, List.set_cons_succ])
  refine t_take (i := 1) (v := ?_) (by (simp only [List.getElem?_toArray, List.getElem?_cons_succ, List.getElem?_cons_zero]); rfl) (by rfl) ?_ (by exact hHeld) ?_
  rotate_left
  · (intro wq hSw; (try dsimp only at hSw); go_simp; (try with_reducible rfl))
  (try simp only [Act.put, List.setIfInBounds_toArray, List.set_cons_zero, List.set_cons_succ])
  refine t_take (i := 2) (v := .int .i64 6) (by (simp only [List.getElem?_toArray, List.getElem?_cons_succ, List.getElem?_cons_zero]); rfl) (by rfl) ?_ (by exact hHeld) ?_
  · (intro wq _; have hta := tassert wq; go_simp)
  (try simp only [Act.put, List.setIfInBounds_toArray, List.set_cons_zero, List.set_cons_succ])
  refine t_one (i := 3) (by (simp only [List.getElem?_toArray, List.getElem?_cons_succ, List.getElem?_cons_zero]); rfl) ?_
  ((first | ((with_reducible refine q_store (t := 39) (e := 39) (g := g4) (off := 0) (n := 2) (v := .agg #[.int .i64 0, .slice none 0 0]) ?_ ?_ h4.d size39 ?_ ?_ ?_ ?_); rfl; rfl; rfl; (simp); (simp [Value.cells, Value.oneCell']); intro W3 hB3 hgr3; simp [putAt, Value.cells] at hB3; have hB5a := (h5.d).grown hgr3 (fun e => n45 (Option.some.inj e).symm); have h01 : 0 < (#[a5] : Array Value).size := (by simp)) | ((with_reducible refine q_store1 (t := 27) (g := g5) (off := 0) (v := .int .i64 6) ?_ ?_ hB5a size27 ?_ h01 ?_ ?_); rfl; rfl; rfl; rfl; intro W4 hB4 hgr4; simp at hB4)))
  clear hHeld; refine t_next ?_ (fun hHeld => ?_)
  · (first | exact True.intro | ((try dsimp only); (repeat' apply And.intro) <;> first | assumption | (refine Ext.cell_some (Ext.todrew (Ext.refl _)) ?_; assumption)))
  (try simp only [Act.put, List.setIfInBounds_toArray, List.set_cons_zero, List.set_cons_succ])
  refine t_one (i := 4) (by (simp only [List.getElem?_toArray, List.getElem?_cons_succ, List.getElem?_cons_zero]); rfl) ?_
  ((first | ((with_reducible refine q_store (t := 39) (e := 39) (g := g4) (off := 0) (n := 2) (v := .agg #[.int .i64 0, .slice none 0 0]) ?_ ?_ h4.d size39 ?_ ?_ ?_ ?_); rfl; rfl; rfl; (simp); (simp [Value.cells, Value.oneCell']); intro W3 hB3 hgr3; simp [putAt, Value.cells] at hB3; have hB5a := (h5.d).grown hgr3 (fun e => n45 (Option.some.inj e).symm); have h01 : 0 < (#[a5] : Array Value).size := (by simp)) | ((with_reducible refine q_store1 (t := 27) (g := g5) (off := 0) (v := .int .i64 6) ?_ ?_ hB5a size27 ?_ h01 ?_ ?_); rfl; rfl; rfl; rfl; intro W4 hB4 hgr4; simp at hB4)))
  clear hHeld; refine t_next ?_ (fun hHeld => ?_)
  · (first | exact True.intro | ((try dsimp only); (repeat' apply And.intro) <;> first | assumption | (refine Ext.cell_some (Ext.todrew (Ext.refl _)) ?_; assumption)))
  (try simp only [Act.put, List.setIfInBounds_toArray, List.set_cons_zero, List.set_cons_succ])
  refine t_done ?_
  have hn : Near [g4, g5] w W4 := ((Near.ofExt [g4, g5] (Ext.todrew (Ext.refl w))).grown hgr3 (fun g e => by cases e; simp)).grown hgr4 (fun g e => by cases e; simp)
  exact ⟨rfl, _, rfl, .tuple #[], by simp [results, Tryz.results88], rfl, rfl, hB3.grown hgr4 (fun e => n45 (Option.some.inj e)), hB4, hn⟩
theorem pidle_any (g4 g5 : Nat) (w : World) :
    CallsD Tryz.prog 88 #[.pointer (some ⟨g4, 0, none⟩), .pointer (some ⟨g5, 0, none⟩)] .returning w fun e u' w' => e = .returned (.tuple #[]) ∧ u' = .returning ∧ w' = w := by
  refine callsD_of_wpS Tryz.func88 rfl fun c₀ cs hu => ?_
  apply wpS_seq
  apply wpS_region
  simp [wpOpsS, go_sem, recoverD, hu, Tryz.ntmps88, Exit.thenS]
  apply wpS_seq
  apply wpS_region
  simp [wpOpsS, go_sem, Tryz.ntmps88, Exit.thenS]
  refine wpS_cond (t := false) (by simp [Act.eval, Array.replicate]) ?_
  simp only [Bool.false_eq_true, if_false]
  refine wpS_of_wp (wp_skip ?_)
  cases c₀
  simp_all [bodyPostS, results, Tryz.results88]
end Go.Bp
end
