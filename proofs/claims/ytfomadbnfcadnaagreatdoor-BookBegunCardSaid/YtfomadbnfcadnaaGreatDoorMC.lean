/- Joined texts: Lb, Lc, Gd, Ty. -/
import Derived.Shelf.Strings.Builder1
import Derived.Shelf.Strings.OnBuilder
import Derived.Shelf.Strings.BuilderF
import Derived.Shelf.Strings.BuilderK
import Derived.Shelf.Small.Wraps
import Derived.Shelf.Strconv.Itoa4
import Derived.Shelf.Strconv.ParseIntPublic10
import Derived.Shelf.Strings.Split
import Derived.Shelf.Strings.SlTrimAscii
import Derived.Shelf.Strings.Repeat
import Derived.Test.YtfomadbnfcadnaaGreatDoorProg
import Derived.Test.YtfomadbnfcadnaaGreatDoorMB
import Derived.Lib.ParseIntBCases
import Derived.Lib.SplitLaws
set_option linter.unusedVariables false
set_option linter.unusedSimpArgs false
set_option linter.unusedSectionVars false
set_option linter.unnecessarySimpa false
namespace Go.Proofs
open Go.Shelf
def Tryz.lays169_ren : Go.Shelf.Ren := ⟨fun | 169 => 87 | n => n, fun | 70 => 109 | 9 => 9 | 0 => 0 | 72 => 112 | 37 => 110 | 127 => 154 | 3 => 3 | 5 => 5 | n => n, fun | n => n⟩
theorem Tryz.lays169 : Go.Proofs.Lays.n169 Tryz.prog Tryz.lays169_ren := {
  mixed := by kernel_rfl
  f169 := Tryz.func87.trans (congrArg some (by kernel_rfl))
  t0 := Tryz.underlying0
  a0 := Tryz.isAgg0
  z0 := Tryz.sizeOf0
  v0 := Tryz.zeroValue0
  t3 := Tryz.underlying3
  a3 := Tryz.isAgg3
  z3 := Tryz.sizeOf3
  v3 := Tryz.zeroValue3
  t9 := Tryz.underlying9
  a9 := Tryz.isAgg9
  z9 := Tryz.sizeOf9
  v9 := Tryz.zeroValue9
  t37 := Tryz.underlying110
  a37 := Tryz.isAgg110
  z37 := Tryz.sizeOf110
  v37 := Tryz.zeroValue110
  t70 := Tryz.underlying109
  a70 := Tryz.isAgg109
  z70 := Tryz.sizeOf109
  v70 := Tryz.zeroValue109
  t72 := Tryz.underlying112
  a72 := Tryz.isAgg112
  z72 := Tryz.sizeOf112
  v72 := Tryz.zeroValue112
  t127 := Tryz.underlying154
  a127 := Tryz.isAgg154
  z127 := Tryz.sizeOf154
  v127 := Tryz.zeroValue154 }
theorem Tryz.Builder_Extra_169 : Builder.Extra Tryz.prog Tryz.lays169_ren := {
  sizeBuilder := by kernel_rfl
  liesBuilder := by kernel_rfl
  t5 := Tryz.underlying5
  a5 := Tryz.isAgg5
  z5 := Tryz.sizeOf5
  v5 := Tryz.zeroValue5
  infoByte := by kernel_rfl
  cellsByte := by kernel_rfl
  sizeByte := by kernel_rfl
  neB5 := by decide }
open Go.RowKit in
theorem Tryz.Builder_String_any (B b : Nat) (l : List UInt8) (w : World) (h : Lib.IsBuilder 112 5 B b (Lib.byteCells l) w) (hBw : B ≤ w.heap.size) :
    Calls Tryz.prog 87 #[.pointer (some ⟨b, 0, none⟩)] w fun e w' => e = .returned (.string ⟨l.toArray⟩) ∧ Below B w w' := Any.Builder_String_any Tryz.lays169 Tryz.Builder_Extra_169 B b l w h hBw
def Tryz.lays156_ren : Go.Shelf.Ren := ⟨fun | 156 => 109 | 165 => 134 | 166 => 85 | 169 => 87 | 240 => 115 | 241 => 163 | 276 => 145 | 277 => 183 | n => n, fun | 31 => 56 | 9 => 9 | 3 => 3 | 4 => 4 | 0 => 0 | 20 => 20 | 72 => 112 | 76 => 115 | 70 => 109 | 37 => 110 | 75 => 114 | 127 => 154 | 164 => 180 | 5 => 5 | 80 => 117 | n => n, fun | n => n⟩
theorem Tryz.lays156 : Go.Proofs.Lays.n156 Tryz.prog Tryz.lays156_ren := {
  mixed := by kernel_rfl
  f156 := Tryz.func109.trans (congrArg some (by kernel_rfl))
  f165 := Tryz.func134.trans (congrArg some (by kernel_rfl))
  f166 := Tryz.func85.trans (congrArg some (by kernel_rfl))
  f169 := Tryz.func87.trans (congrArg some (by kernel_rfl))
  f240 := Tryz.func115.trans (congrArg some (by kernel_rfl))
  f241 := Tryz.func163.trans (congrArg some (by kernel_rfl))
  f276 := Tryz.func145.trans (congrArg some (by kernel_rfl))
  f277 := Tryz.func183.trans (congrArg some (by kernel_rfl))
  t0 := Tryz.underlying0
  a0 := Tryz.isAgg0
  z0 := Tryz.sizeOf0
  v0 := Tryz.zeroValue0
  t3 := Tryz.underlying3
  a3 := Tryz.isAgg3
  z3 := Tryz.sizeOf3
  v3 := Tryz.zeroValue3
  t4 := Tryz.underlying4
  a4 := Tryz.isAgg4
  z4 := Tryz.sizeOf4
  v4 := Tryz.zeroValue4
  t9 := Tryz.underlying9
  a9 := Tryz.isAgg9
  z9 := Tryz.sizeOf9
  v9 := Tryz.zeroValue9
  t20 := Tryz.underlying20
  a20 := Tryz.isAgg20
  z20 := Tryz.sizeOf20
  v20 := Tryz.zeroValue20
  t31 := Tryz.underlying56
  a31 := Tryz.isAgg56
  z31 := Tryz.sizeOf56
  v31 := Tryz.zeroValue56
  t37 := Tryz.underlying110
  a37 := Tryz.isAgg110
  z37 := Tryz.sizeOf110
  v37 := Tryz.zeroValue110
  t70 := Tryz.underlying109
  a70 := Tryz.isAgg109
  z70 := Tryz.sizeOf109
  v70 := Tryz.zeroValue109
  t72 := Tryz.underlying112
  a72 := Tryz.isAgg112
  z72 := Tryz.sizeOf112
  v72 := Tryz.zeroValue112
  t75 := Tryz.underlying114
  a75 := Tryz.isAgg114
  z75 := Tryz.sizeOf114
  v75 := Tryz.zeroValue114
  t76 := Tryz.underlying115
  a76 := Tryz.isAgg115
  z76 := Tryz.sizeOf115
  v76 := Tryz.zeroValue115
  t127 := Tryz.underlying154
  a127 := Tryz.isAgg154
  z127 := Tryz.sizeOf154
  v127 := Tryz.zeroValue154
  t164 := Tryz.underlying180
  a164 := Tryz.isAgg180
  z164 := Tryz.sizeOf180
  v164 := Tryz.zeroValue180 }
theorem Tryz.Builder_Extra_156 : Builder.Extra Tryz.prog Tryz.lays156_ren := {
  sizeBuilder := by kernel_rfl
  liesBuilder := by kernel_rfl
  t5 := Tryz.underlying5
  a5 := Tryz.isAgg5
  z5 := Tryz.sizeOf5
  v5 := Tryz.zeroValue5
  infoByte := by kernel_rfl
  cellsByte := by kernel_rfl
  sizeByte := by kernel_rfl
  neB5 := by decide }
open Go.RowKit in
theorem Tryz.strings_Join_none (a : Option Addr) (c : Nat) (sep : ByteArray) (w : World) :
    Calls Tryz.prog 109 #[.slice a 0 c, .string sep] w fun e w' => e = .returned (.string ⟨#[]⟩) ∧ w' = w := Any.strings_Join_none Tryz.lays156 Tryz.Builder_Extra_156 a c sep w
open Go.RowKit in
theorem Tryz.strings_Join (bk o c : Nat) (xs : List ByteArray) (sep : ByteArray) (w : World) (hcells : ∀ (j : Nat) x, xs[j]? = some x → w.cell? ⟨bk, o + j, none⟩ = some (.string x)) (hbk : bk < w.heap.size) (hN : xs.length ≤ 140737488355328) (hcap : xs.length ≤ c) (hlen : (Lib.join (xs.map (·.data.toList)) sep.data.toList).length ≤ 140737488355328) :
    Calls Tryz.prog 109 #[.slice (some ⟨bk, o, none⟩) xs.length c, .string sep] w fun e w' => e = .returned (.string ⟨(Lib.join (xs.map (·.data.toList)) sep.data.toList).toArray⟩) ∧ Below w.heap.size w w' := Any.strings_Join Tryz.lays156 Tryz.Builder_Extra_156 bk o c xs sep w hcells hbk hN hcap hlen
def Tryz.lays160_ren : Go.Shelf.Ren := ⟨fun | 160 => 91 | 232 => 122 | 231 => 121 | 227 => 123 | 234 => 125 | 233 => 124 | 236 => 127 | 235 => 126 | 228 => 155 | 271 => 158 | 151 => 157 | 197 => 156 | 120 => 178 | 152 => 177 | 260 => 176 | 137 => 194 | 119 => 195 | 224 => 187 | 225 => 186 | 217 => 185 | 266 => 198 | n => n, fun | 9 => 9 | 4 => 4 | 3 => 3 | 5 => 5 | 117 => 161 | 116 => 160 | 0 => 0 | 124 => 164 | 21 => 21 | 105 => 191 | 46 => 151 | 119 => 225 | 139 => 228 | 138 => 227 | n => n, fun | 3 => 2 | 4 => 3 | n => n⟩
theorem Tryz.lays160 : Go.Proofs.Lays.n160 Tryz.prog Tryz.lays160_ren := {
  mixed := by kernel_rfl
  f119 := Tryz.func195.trans (congrArg some (by kernel_rfl))
  f120 := Tryz.func178.trans (congrArg some (by kernel_rfl))
  f137 := Tryz.func194.trans (congrArg some (by kernel_rfl))
  f151 := Tryz.func157.trans (congrArg some (by kernel_rfl))
  f152 := Tryz.func177.trans (congrArg some (by kernel_rfl))
  f160 := Tryz.func91.trans (congrArg some (by kernel_rfl))
  f197 := Tryz.func156.trans (congrArg some (by kernel_rfl))
  f217 := Tryz.func185.trans (congrArg some (by kernel_rfl))
  f224 := Tryz.func187.trans (congrArg some (by kernel_rfl))
  f225 := Tryz.func186.trans (congrArg some (by kernel_rfl))
  f227 := Tryz.func123.trans (congrArg some (by kernel_rfl))
  f228 := Tryz.func155.trans (congrArg some (by kernel_rfl))
  f231 := Tryz.func121.trans (congrArg some (by kernel_rfl))
  f232 := Tryz.func122.trans (congrArg some (by kernel_rfl))
  f233 := Tryz.func124.trans (congrArg some (by kernel_rfl))
  f234 := Tryz.func125.trans (congrArg some (by kernel_rfl))
  f235 := Tryz.func126.trans (congrArg some (by kernel_rfl))
  f236 := Tryz.func127.trans (congrArg some (by kernel_rfl))
  f260 := Tryz.func176.trans (congrArg some (by kernel_rfl))
  f266 := Tryz.func198.trans (congrArg some (by kernel_rfl))
  f271 := Tryz.func158.trans (congrArg some (by kernel_rfl))
  t0 := Tryz.underlying0
  a0 := Tryz.isAgg0
  z0 := Tryz.sizeOf0
  v0 := Tryz.zeroValue0
  t3 := Tryz.underlying3
  a3 := Tryz.isAgg3
  z3 := Tryz.sizeOf3
  v3 := Tryz.zeroValue3
  t4 := Tryz.underlying4
  a4 := Tryz.isAgg4
  z4 := Tryz.sizeOf4
  v4 := Tryz.zeroValue4
  t5 := Tryz.underlying5
  a5 := Tryz.isAgg5
  z5 := Tryz.sizeOf5
  v5 := Tryz.zeroValue5
  t9 := Tryz.underlying9
  a9 := Tryz.isAgg9
  z9 := Tryz.sizeOf9
  v9 := Tryz.zeroValue9
  t21 := Tryz.underlying21
  a21 := Tryz.isAgg21
  z21 := Tryz.sizeOf21
  v21 := Tryz.zeroValue21
  t46 := Tryz.underlying151
  a46 := Tryz.isAgg151
  z46 := Tryz.sizeOf151
  v46 := Tryz.zeroValue151
  t105 := Tryz.underlying191
  a105 := Tryz.isAgg191
  z105 := Tryz.sizeOf191
  v105 := Tryz.zeroValue191
  t116 := Tryz.underlying160
  a116 := Tryz.isAgg160
  z116 := Tryz.sizeOf160
  t117 := Tryz.underlying161
  a117 := Tryz.isAgg161
  z117 := Tryz.sizeOf161
  v117 := Tryz.zeroValue161
  t119 := Tryz.underlying225
  a119 := Tryz.isAgg225
  z119 := Tryz.sizeOf225
  t124 := Tryz.underlying164
  a124 := Tryz.isAgg164
  z124 := Tryz.sizeOf164
  v124 := Tryz.zeroValue164
  t138 := Tryz.underlying227
  a138 := Tryz.isAgg227
  z138 := Tryz.sizeOf227
  v138 := Tryz.zeroValue227
  t139 := Tryz.underlying228
  a139 := Tryz.isAgg228
  z139 := Tryz.sizeOf228
  v139 := Tryz.zeroValue228
  g3 := by kernel_rfl
  g4 := by kernel_rfl }
def Tryz.lays103_ren : Go.Shelf.Ren := ⟨fun | 103 => 90 | 210 => 120 | 206 => 154 | n => n, fun | 9 => 9 | 4 => 4 | 24 => 120 | 3 => 3 | n => n, fun | n => n⟩
theorem Tryz.lays103 : Go.Proofs.Lays.n103 Tryz.prog Tryz.lays103_ren := {
  mixed := by kernel_rfl
  f103 := Tryz.func90.trans (congrArg some (by kernel_rfl))
  f206 := Tryz.func154.trans (congrArg some (by kernel_rfl))
  f210 := Tryz.func120.trans (congrArg some (by kernel_rfl))
  t3 := Tryz.underlying3
  a3 := Tryz.isAgg3
  z3 := Tryz.sizeOf3
  v3 := Tryz.zeroValue3
  t4 := Tryz.underlying4
  a4 := Tryz.isAgg4
  z4 := Tryz.sizeOf4
  v4 := Tryz.zeroValue4
  t9 := Tryz.underlying9
  a9 := Tryz.isAgg9
  z9 := Tryz.sizeOf9
  v9 := Tryz.zeroValue9
  t24 := Tryz.underlying120
  a24 := Tryz.isAgg120
  z24 := Tryz.sizeOf120
  v24 := Tryz.zeroValue120 }
open Go.RowKit in
theorem Tryz.strings_CutPrefix (s p : ByteArray) (w : World) :
    Calls Tryz.prog 90 #[.string s, .string p] w fun e w' => e = .returned (.tuple #[.string ⟨(Lib.trimPrefix s.data.toList p.data.toList).toArray⟩, .bool (Lib.hasPrefix s.data.toList p.data.toList)]) ∧ w' = w := Any.strings_CutPrefix Tryz.lays103 s p w
def Tryz.laysM173_ren : Go.Shelf.Ren := ⟨fun | 173 => 108 | 246 => 133 | 283 => 159 | 284 => 160 | 285 => 161 | 286 => 162 | 129 => 144 | 317 => 179 | 318 => 180 | 319 => 181 | 320 => 182 | 337 => 196 | 338 => 197 | n => n, fun | 2 => 2 | 3 => 3 | 9 => 9 | 4 => 4 | 171 => 195 | 0 => 0 | 53 => 32 | 37 => 110 | 5 => 5 | 173 => 197 | 212 => 213 | 51 => 68 | 20 => 20 | 213 => 214 | 46 => 151 | 232 => 237 | 233 => 238 | n => n, fun | 17 => 0 | 18 => 6 | 19 => 7 | n => n⟩
theorem Tryz.laysM173 : Go.Proofs.LaysM.n173 Tryz.prog Tryz.laysM173_ren := {
  mixed := by kernel_rfl
  f129 := Tryz.func144.trans (congrArg some (by kernel_rfl))
  f173 := Tryz.func108.trans (congrArg some (by kernel_rfl))
  f246 := Tryz.func133.trans (congrArg some (by kernel_rfl))
  f283 := Tryz.func159.trans (congrArg some (by kernel_rfl))
  f284 := Tryz.func160.trans (congrArg some (by kernel_rfl))
  f285 := Tryz.func161.trans (congrArg some (by kernel_rfl))
  f286 := Tryz.func162.trans (congrArg some (by kernel_rfl))
  f317 := Tryz.func179.trans (congrArg some (by kernel_rfl))
  f318 := Tryz.func180.trans (congrArg some (by kernel_rfl))
  f319 := Tryz.func181.trans (congrArg some (by kernel_rfl))
  f320 := Tryz.func182.trans (congrArg some (by kernel_rfl))
  f337 := Tryz.func196.trans (congrArg some (by kernel_rfl))
  f338 := Tryz.func197.trans (congrArg some (by kernel_rfl))
  t0 := Tryz.underlying0
  a0 := Tryz.isAgg0
  z0 := Tryz.sizeOf0
  v0 := Tryz.zeroValue0
  t2 := Tryz.underlying2
  a2 := Tryz.isAgg2
  z2 := Tryz.sizeOf2
  v2 := Tryz.zeroValue2
  t3 := Tryz.underlying3
  a3 := Tryz.isAgg3
  z3 := Tryz.sizeOf3
  v3 := Tryz.zeroValue3
  t4 := Tryz.underlying4
  a4 := Tryz.isAgg4
  z4 := Tryz.sizeOf4
  v4 := Tryz.zeroValue4
  t5 := Tryz.underlying5
  a5 := Tryz.isAgg5
  z5 := Tryz.sizeOf5
  v5 := Tryz.zeroValue5
  t9 := Tryz.underlying9
  a9 := Tryz.isAgg9
  z9 := Tryz.sizeOf9
  v9 := Tryz.zeroValue9
  t20 := Tryz.underlying20
  a20 := Tryz.isAgg20
  z20 := Tryz.sizeOf20
  v20 := Tryz.zeroValue20
  t37 := Tryz.underlying110
  a37 := Tryz.isAgg110
  z37 := Tryz.sizeOf110
  v37 := Tryz.zeroValue110
  t46 := Tryz.underlying151
  a46 := Tryz.isAgg151
  z46 := Tryz.sizeOf151
  v46 := Tryz.zeroValue151
  t51 := Tryz.underlying68
  a51 := Tryz.isAgg68
  z51 := Tryz.sizeOf68
  v51 := Tryz.zeroValue68
  t53 := Tryz.underlying32
  a53 := Tryz.isAgg32
  z53 := Tryz.sizeOf32
  v53 := Tryz.zeroValue32
  t171 := Tryz.underlying195
  a171 := Tryz.isAgg195
  z171 := Tryz.sizeOf195
  v171 := Tryz.zeroValue195
  t173 := Tryz.underlying197
  a173 := Tryz.isAgg197
  z173 := Tryz.sizeOf197
  v173 := Tryz.zeroValue197
  t212 := Tryz.underlying213
  a212 := Tryz.isAgg213
  z212 := Tryz.sizeOf213
  v212 := Tryz.zeroValue213
  t213 := Tryz.underlying214
  a213 := Tryz.isAgg214
  z213 := Tryz.sizeOf214
  t232 := Tryz.underlying237
  a232 := Tryz.isAgg237
  z232 := Tryz.sizeOf237
  v232 := Tryz.zeroValue237
  t233 := Tryz.underlying238
  a233 := Tryz.isAgg238
  z233 := Tryz.sizeOf238
  v233 := Tryz.zeroValue238
  g17 := by kernel_rfl
  g18 := by kernel_rfl
  g19 := by kernel_rfl
  i0 := by kernel_rfl
  i2 := by kernel_rfl
  i3 := by kernel_rfl
  i4 := by kernel_rfl
  i5 := by kernel_rfl
  i9 := by kernel_rfl
  i20 := by kernel_rfl
  i37 := by kernel_rfl
  i46 := by kernel_rfl
  i51 := by kernel_rfl
  i53 := by kernel_rfl
  i171 := by kernel_rfl
  i173 := by kernel_rfl
  i212 := by kernel_rfl
  i232 := by kernel_rfl
  i233 := by kernel_rfl
  m17 := by kernel_rfl
  m18 := by kernel_rfl
  m19 := by kernel_rfl }
open Go.RowKit Go.Sort Go.Lib in
theorem Tryz.strconv_FormatInt_10 (n : Int) (h0 : -9223372036854775808 ≤ n) (h1 : n ≤ 9223372036854775807) (w : World) (htab : Lib.TabIs Tryz.prog w "internal/strconv.uint64pow10" .u64 Lib.pow10Tab) :
    Calls Tryz.prog 108 #[.int .i64 n, .int .i64 10] w fun e w' => e = .returned (.string ⟨(Lib.itoa n).toArray⟩) ∧ ∃ k os, w' = grow (w.drewN k) os := Any.strconv_FormatInt_10 Tryz.laysM173 n h0 h1 w htab
def Tryz.laysC174_ren : Go.Shelf.Ren := ⟨fun | 174 => 153 | 247 => 174 | 245 => 175 | 287 => 189 | 279 => 190 | 280 => 191 | 281 => 192 | 282 => 193 | 321 => 200 | 322 => 201 | 316 => 202 | 171 => 204 | 205 => 203 | 243 => 205 | 246 => 133 | 283 => 159 | 284 => 160 | 285 => 161 | 286 => 162 | 129 => 144 | 317 => 179 | 318 => 180 | 319 => 181 | 320 => 182 | 337 => 196 | 338 => 197 | n => n, fun | 9 => 9 | 3 => 3 | 2 => 2 | 75 => 114 | 85 => 188 | 4 => 4 | 167 => 219 | 5 => 5 | 53 => 32 | 175 => 220 | 46 => 151 | 168 => 222 | 37 => 110 | 0 => 0 | 210 => 235 | 21 => 21 | 127 => 154 | 145 => 241 | 143 => 239 | 171 => 195 | 173 => 197 | 212 => 213 | 51 => 68 | 20 => 20 | 213 => 214 | 232 => 237 | 233 => 238 | 80 => 117 | n => n, fun | 15 => 4 | 16 => 5 | 17 => 0 | 18 => 6 | 19 => 7 | n => n⟩
theorem Tryz.laysC174 : Go.Proofs.LaysC.n174 Tryz.prog Tryz.laysC174_ren := {
  mixed := by kernel_rfl
  f129 := Tryz.func144.trans (congrArg some (by kernel_rfl))
  f171 := Tryz.func204.trans (congrArg some (by kernel_rfl))
  f174 := Tryz.func153.trans (congrArg some (by kernel_rfl))
  f205 := Tryz.func203.trans (congrArg some (by kernel_rfl))
  f243 := Tryz.func205.trans (congrArg some (by kernel_rfl))
  f245 := Tryz.func175.trans (congrArg some (by kernel_rfl))
  f246 := Tryz.func133.trans (congrArg some (by kernel_rfl))
  f247 := Tryz.func174.trans (congrArg some (by kernel_rfl))
  f279 := Tryz.func190.trans (congrArg some (by kernel_rfl))
  f280 := Tryz.func191.trans (congrArg some (by kernel_rfl))
  f281 := Tryz.func192.trans (congrArg some (by kernel_rfl))
  f282 := Tryz.func193.trans (congrArg some (by kernel_rfl))
  f283 := Tryz.func159.trans (congrArg some (by kernel_rfl))
  f284 := Tryz.func160.trans (congrArg some (by kernel_rfl))
  f285 := Tryz.func161.trans (congrArg some (by kernel_rfl))
  f286 := Tryz.func162.trans (congrArg some (by kernel_rfl))
  f287 := Tryz.func189.trans (congrArg some (by kernel_rfl))
  f316 := Tryz.func202.trans (congrArg some (by kernel_rfl))
  f317 := Tryz.func179.trans (congrArg some (by kernel_rfl))
  f318 := Tryz.func180.trans (congrArg some (by kernel_rfl))
  f319 := Tryz.func181.trans (congrArg some (by kernel_rfl))
  f320 := Tryz.func182.trans (congrArg some (by kernel_rfl))
  f321 := Tryz.func200.trans (congrArg some (by kernel_rfl))
  f322 := Tryz.func201.trans (congrArg some (by kernel_rfl))
  f337 := Tryz.func196.trans (congrArg some (by kernel_rfl))
  f338 := Tryz.func197.trans (congrArg some (by kernel_rfl))
  t0 := Tryz.underlying0
  a0 := Tryz.isAgg0
  z0 := Tryz.sizeOf0
  v0 := Tryz.zeroValue0
  t2 := Tryz.underlying2
  a2 := Tryz.isAgg2
  z2 := Tryz.sizeOf2
  v2 := Tryz.zeroValue2
  t3 := Tryz.underlying3
  a3 := Tryz.isAgg3
  z3 := Tryz.sizeOf3
  v3 := Tryz.zeroValue3
  t4 := Tryz.underlying4
  a4 := Tryz.isAgg4
  z4 := Tryz.sizeOf4
  v4 := Tryz.zeroValue4
  t5 := Tryz.underlying5
  a5 := Tryz.isAgg5
  z5 := Tryz.sizeOf5
  v5 := Tryz.zeroValue5
  t9 := Tryz.underlying9
  a9 := Tryz.isAgg9
  z9 := Tryz.sizeOf9
  v9 := Tryz.zeroValue9
  t20 := Tryz.underlying20
  a20 := Tryz.isAgg20
  z20 := Tryz.sizeOf20
  v20 := Tryz.zeroValue20
  t21 := Tryz.underlying21
  a21 := Tryz.isAgg21
  z21 := Tryz.sizeOf21
  v21 := Tryz.zeroValue21
  t37 := Tryz.underlying110
  a37 := Tryz.isAgg110
  z37 := Tryz.sizeOf110
  v37 := Tryz.zeroValue110
  t46 := Tryz.underlying151
  a46 := Tryz.isAgg151
  z46 := Tryz.sizeOf151
  v46 := Tryz.zeroValue151
  t51 := Tryz.underlying68
  a51 := Tryz.isAgg68
  z51 := Tryz.sizeOf68
  v51 := Tryz.zeroValue68
  t53 := Tryz.underlying32
  a53 := Tryz.isAgg32
  z53 := Tryz.sizeOf32
  v53 := Tryz.zeroValue32
  t75 := Tryz.underlying114
  a75 := Tryz.isAgg114
  z75 := Tryz.sizeOf114
  v75 := Tryz.zeroValue114
  t85 := Tryz.underlying188
  a85 := Tryz.isAgg188
  z85 := Tryz.sizeOf188
  v85 := Tryz.zeroValue188
  t127 := Tryz.underlying154
  a127 := Tryz.isAgg154
  z127 := Tryz.sizeOf154
  v127 := Tryz.zeroValue154
  t143 := Tryz.underlying239
  a143 := Tryz.isAgg239
  z143 := Tryz.sizeOf239
  v143 := Tryz.zeroValue239
  t145 := Tryz.underlying241
  a145 := Tryz.isAgg241
  z145 := Tryz.sizeOf241
  v145 := Tryz.zeroValue241
  t167 := Tryz.underlying219
  a167 := Tryz.isAgg219
  z167 := Tryz.sizeOf219
  v167 := Tryz.zeroValue219
  t168 := Tryz.underlying222
  a168 := Tryz.isAgg222
  z168 := Tryz.sizeOf222
  v168 := Tryz.zeroValue222
  t171 := Tryz.underlying195
  a171 := Tryz.isAgg195
  z171 := Tryz.sizeOf195
  v171 := Tryz.zeroValue195
  t173 := Tryz.underlying197
  a173 := Tryz.isAgg197
  z173 := Tryz.sizeOf197
  v173 := Tryz.zeroValue197
  t175 := Tryz.underlying220
  a175 := Tryz.isAgg220
  z175 := Tryz.sizeOf220
  v175 := Tryz.zeroValue220
  t210 := Tryz.underlying235
  a210 := Tryz.isAgg235
  z210 := Tryz.sizeOf235
  v210 := Tryz.zeroValue235
  t212 := Tryz.underlying213
  a212 := Tryz.isAgg213
  z212 := Tryz.sizeOf213
  v212 := Tryz.zeroValue213
  t213 := Tryz.underlying214
  a213 := Tryz.isAgg214
  z213 := Tryz.sizeOf214
  t232 := Tryz.underlying237
  a232 := Tryz.isAgg237
  z232 := Tryz.sizeOf237
  v232 := Tryz.zeroValue237
  t233 := Tryz.underlying238
  a233 := Tryz.isAgg238
  z233 := Tryz.sizeOf238
  v233 := Tryz.zeroValue238
  g15 := by kernel_rfl
  g16 := by kernel_rfl
  g17 := by kernel_rfl
  g18 := by kernel_rfl
  g19 := by kernel_rfl
  t80 := Tryz.underlying117
  a80 := Tryz.isAgg117
  z80 := Tryz.sizeOf117
  v80 := Tryz.zeroValue117
  i0 := by kernel_rfl
  i2 := by kernel_rfl
  i3 := by kernel_rfl
  i4 := by kernel_rfl
  i5 := by kernel_rfl
  i9 := by kernel_rfl
  i20 := by kernel_rfl
  i21 := by kernel_rfl
  i37 := by kernel_rfl
  i46 := by kernel_rfl
  i51 := by kernel_rfl
  i53 := by kernel_rfl
  i75 := by kernel_rfl
  i80 := by kernel_rfl
  i85 := by kernel_rfl
  i127 := by kernel_rfl
  i143 := by kernel_rfl
  i145 := by kernel_rfl
  i167 := by kernel_rfl
  i168 := by kernel_rfl
  i171 := by kernel_rfl
  i173 := by kernel_rfl
  i175 := by kernel_rfl
  i210 := by kernel_rfl
  i212 := by kernel_rfl
  i232 := by kernel_rfl
  i233 := by kernel_rfl
  m15 := by kernel_rfl
  m16 := by kernel_rfl
  m17 := by kernel_rfl
  m18 := by kernel_rfl
  m19 := by kernel_rfl
  c0 := by kernel_rfl
  c2 := by kernel_rfl
  c3 := by kernel_rfl
  c4 := by kernel_rfl
  c5 := by kernel_rfl
  c9 := by kernel_rfl
  c20 := by kernel_rfl
  c21 := by kernel_rfl
  c37 := by kernel_rfl
  c46 := by kernel_rfl
  c51 := by kernel_rfl
  c53 := by kernel_rfl
  c75 := by kernel_rfl
  c80 := by kernel_rfl
  c85 := by kernel_rfl
  c127 := by kernel_rfl
  c143 := by kernel_rfl
  c145 := by kernel_rfl
  c167 := by kernel_rfl
  c168 := by kernel_rfl
  c171 := by kernel_rfl
  c173 := by kernel_rfl
  c175 := by kernel_rfl
  c210 := by kernel_rfl
  c212 := by kernel_rfl
  c213 := by kernel_rfl
  c232 := by kernel_rfl
  c233 := by kernel_rfl }
open Go.RowKit in
theorem Tryz.strconv_ParseInt_10_at64_ok (s : ByteArray) (hmax : s.size ≤ 9223372036854775806) (v : Int) (h : Lib.parseIntB 64 s.data.toList = .ok v) (w : World) :
    Calls Tryz.prog 153 #[.string s, .int .i64 10, .int .i64 64] w fun e w' => e = .returned (.tuple #[.int .i64 v, .nilIface]) ∧ (w' = w ∨ ∃ t, w' = Lib.bytesWorld w 5 t) := Any.strconv_ParseInt_10_at64_ok Tryz.laysC174 s hmax v h w
open Go.RowKit in
theorem Tryz.strconv_ParseInt_10_at64_syntax (s : ByteArray) (hlim : s.size ≤ 281474976710656) (h : Lib.parseIntB 64 s.data.toList = Lib.NumEnd.syntax) (ev : Value) (w : World) (hv : w.cell? ⟨4, 0, none⟩ = some ev) (hev : ev = .nilIface ∨ ∃ te pe, ev = .iface te pe) :
    Calls Tryz.prog 153 #[.string s, .int .i64 10, .int .i64 64] w fun e w' => ∃ N, e = .returned (.tuple #[.int .i64 (0), .iface 222 (.pointer (some ⟨N, 0, none⟩))]) ∧ w.heap.size ≤ N ∧ w'.heap[N]? = some (.cells #[.string ⟨#[80, 97, 114, 115, 101, 73, 110, 116]⟩, .string s, ev] 235 (0, 0)) ∧ Below w.heap.size w w' := Any.strconv_ParseInt_10_at64_syntax Tryz.laysC174 s hlim h ev w hv hev
open Go.RowKit in
theorem Tryz.strconv_ParseInt_10_at64_range (s : ByteArray) (hlim : s.size ≤ 281474976710656) (h : Lib.parseIntB 64 s.data.toList = .range) (ev : Value) (w : World) (hv : w.cell? ⟨5, 0, none⟩ = some ev) (hev : ev = .nilIface ∨ ∃ te pe, ev = .iface te pe) :
    Calls Tryz.prog 153 #[.string s, .int .i64 10, .int .i64 64] w fun e w' => ∃ N, e = .returned (.tuple #[.int .i64 (Lib.intSat 64 s.data.toList), .iface 222 (.pointer (some ⟨N, 0, none⟩))]) ∧ w.heap.size ≤ N ∧ w'.heap[N]? = some (.cells #[.string ⟨#[80, 97, 114, 115, 101, 73, 110, 116]⟩, .string s, ev] 235 (0, 0)) ∧ Below w.heap.size w w' := Any.strconv_ParseInt_10_at64_range Tryz.laysC174 s hlim h ev w hv hev
def Tryz.lays146_ren : Go.Shelf.Ren := ⟨fun | 146 => 88 | 221 => 118 | 268 => 150 | 138 => 151 | 143 => 152 | 195 => 171 | 197 => 156 | 218 => 172 | 219 => 173 | 260 => 176 | 217 => 185 | 225 => 186 | 224 => 187 | 267 => 188 | 266 => 198 | 314 => 199 | n => n, fun | 9 => 9 | 31 => 56 | 3 => 3 | 4 => 4 | 0 => 0 | 105 => 191 | 21 => 21 | 5 => 5 | 46 => 151 | 119 => 225 | 139 => 228 | 138 => 227 | 146 => 204 | 51 => 68 | n => n, fun | 1 => 1 | 3 => 2 | 4 => 3 | n => n⟩
theorem Tryz.lays146 : Go.Proofs.Lays.n146 Tryz.prog Tryz.lays146_ren := {
  mixed := by kernel_rfl
  f138 := Tryz.func151.trans (congrArg some (by kernel_rfl))
  f143 := Tryz.func152.trans (congrArg some (by kernel_rfl))
  f146 := Tryz.func88.trans (congrArg some (by kernel_rfl))
  f195 := Tryz.func171.trans (congrArg some (by kernel_rfl))
  f197 := Tryz.func156.trans (congrArg some (by kernel_rfl))
  f217 := Tryz.func185.trans (congrArg some (by kernel_rfl))
  f218 := Tryz.func172.trans (congrArg some (by kernel_rfl))
  f219 := Tryz.func173.trans (congrArg some (by kernel_rfl))
  f221 := Tryz.func118.trans (congrArg some (by kernel_rfl))
  f224 := Tryz.func187.trans (congrArg some (by kernel_rfl))
  f225 := Tryz.func186.trans (congrArg some (by kernel_rfl))
  f260 := Tryz.func176.trans (congrArg some (by kernel_rfl))
  f266 := Tryz.func198.trans (congrArg some (by kernel_rfl))
  f267 := Tryz.func188.trans (congrArg some (by kernel_rfl))
  f268 := Tryz.func150.trans (congrArg some (by kernel_rfl))
  f314 := Tryz.func199.trans (congrArg some (by kernel_rfl))
  t0 := Tryz.underlying0
  a0 := Tryz.isAgg0
  z0 := Tryz.sizeOf0
  v0 := Tryz.zeroValue0
  t3 := Tryz.underlying3
  a3 := Tryz.isAgg3
  z3 := Tryz.sizeOf3
  v3 := Tryz.zeroValue3
  t4 := Tryz.underlying4
  a4 := Tryz.isAgg4
  z4 := Tryz.sizeOf4
  v4 := Tryz.zeroValue4
  t5 := Tryz.underlying5
  a5 := Tryz.isAgg5
  z5 := Tryz.sizeOf5
  v5 := Tryz.zeroValue5
  t9 := Tryz.underlying9
  a9 := Tryz.isAgg9
  z9 := Tryz.sizeOf9
  v9 := Tryz.zeroValue9
  t21 := Tryz.underlying21
  a21 := Tryz.isAgg21
  z21 := Tryz.sizeOf21
  v21 := Tryz.zeroValue21
  t31 := Tryz.underlying56
  a31 := Tryz.isAgg56
  z31 := Tryz.sizeOf56
  v31 := Tryz.zeroValue56
  t46 := Tryz.underlying151
  a46 := Tryz.isAgg151
  z46 := Tryz.sizeOf151
  v46 := Tryz.zeroValue151
  t51 := Tryz.underlying68
  a51 := Tryz.isAgg68
  z51 := Tryz.sizeOf68
  v51 := Tryz.zeroValue68
  t105 := Tryz.underlying191
  a105 := Tryz.isAgg191
  z105 := Tryz.sizeOf191
  v105 := Tryz.zeroValue191
  t119 := Tryz.underlying225
  a119 := Tryz.isAgg225
  z119 := Tryz.sizeOf225
  t138 := Tryz.underlying227
  a138 := Tryz.isAgg227
  z138 := Tryz.sizeOf227
  v138 := Tryz.zeroValue227
  t139 := Tryz.underlying228
  a139 := Tryz.isAgg228
  z139 := Tryz.sizeOf228
  v139 := Tryz.zeroValue228
  t146 := Tryz.underlying204
  a146 := Tryz.isAgg204
  z146 := Tryz.sizeOf204
  v146 := Tryz.zeroValue204
  g1 := by kernel_rfl
  g3 := by kernel_rfl
  g4 := by kernel_rfl }
open Go.RowKit Go.Lib in
theorem Tryz.strings_Split (s sep : ByteArray) (m : Int) (w : World) (hs : s.size < 4294967281) (hm : w.cell? ⟨1, 0, none⟩ = some (.int .i64 m)) (h1 : 1 ≤ sep.size) :
    Calls Tryz.prog 88 #[.string s, .string sep] w fun e w' =>
      e = .returned (.slice (some ⟨w.heap.size, 0, none⟩) (Lib.countB s sep + 1) (Lib.countB s sep + 1)) ∧ w' = w.alloc (.cells ((Lib.splitB sep 0 (Lib.countB s sep) s).map Value.string).toArray 9) := Any.strings_Split Tryz.lays146 (by kernel_rfl) s sep m w hs hm h1
def Tryz.lays105_ren : Go.Shelf.Ren := ⟨fun | 105 => 117 | 212 => 147 | 99 => 148 | 165 => 134 | 166 => 85 | 170 => 149 | 169 => 87 | 263 => 169 | 264 => 170 | 206 => 154 | 240 => 115 | 241 => 163 | 276 => 145 | 277 => 183 | n => n, fun | 9 => 9 | 3 => 3 | 4 => 4 | 20 => 20 | 0 => 0 | 46 => 151 | 109 => 182 | 5 => 5 | 72 => 112 | 76 => 115 | 51 => 68 | 146 => 204 | 53 => 32 | 148 => 206 | 70 => 109 | 37 => 110 | 75 => 114 | 127 => 154 | 164 => 180 | 80 => 117 | n => n, fun | n => n⟩
theorem Tryz.lays105 : Go.Proofs.Lays.n105 Tryz.prog Tryz.lays105_ren := {
  mixed := by kernel_rfl
  f99 := Tryz.func148.trans (congrArg some (by kernel_rfl))
  f105 := Tryz.func117.trans (congrArg some (by kernel_rfl))
  f165 := Tryz.func134.trans (congrArg some (by kernel_rfl))
  f166 := Tryz.func85.trans (congrArg some (by kernel_rfl))
  f169 := Tryz.func87.trans (congrArg some (by kernel_rfl))
  f170 := Tryz.func149.trans (congrArg some (by kernel_rfl))
  f206 := Tryz.func154.trans (congrArg some (by kernel_rfl))
  f212 := Tryz.func147.trans (congrArg some (by kernel_rfl))
  f240 := Tryz.func115.trans (congrArg some (by kernel_rfl))
  f241 := Tryz.func163.trans (congrArg some (by kernel_rfl))
  f263 := Tryz.func169.trans (congrArg some (by kernel_rfl))
  f264 := Tryz.func170.trans (congrArg some (by kernel_rfl))
  f276 := Tryz.func145.trans (congrArg some (by kernel_rfl))
  f277 := Tryz.func183.trans (congrArg some (by kernel_rfl))
  t0 := Tryz.underlying0
  a0 := Tryz.isAgg0
  z0 := Tryz.sizeOf0
  v0 := Tryz.zeroValue0
  t3 := Tryz.underlying3
  a3 := Tryz.isAgg3
  z3 := Tryz.sizeOf3
  v3 := Tryz.zeroValue3
  t4 := Tryz.underlying4
  a4 := Tryz.isAgg4
  z4 := Tryz.sizeOf4
  v4 := Tryz.zeroValue4
  t5 := Tryz.underlying5
  a5 := Tryz.isAgg5
  z5 := Tryz.sizeOf5
  v5 := Tryz.zeroValue5
  t9 := Tryz.underlying9
  a9 := Tryz.isAgg9
  z9 := Tryz.sizeOf9
  v9 := Tryz.zeroValue9
  t20 := Tryz.underlying20
  a20 := Tryz.isAgg20
  z20 := Tryz.sizeOf20
  v20 := Tryz.zeroValue20
  t37 := Tryz.underlying110
  a37 := Tryz.isAgg110
  z37 := Tryz.sizeOf110
  v37 := Tryz.zeroValue110
  t46 := Tryz.underlying151
  a46 := Tryz.isAgg151
  z46 := Tryz.sizeOf151
  v46 := Tryz.zeroValue151
  t51 := Tryz.underlying68
  a51 := Tryz.isAgg68
  z51 := Tryz.sizeOf68
  v51 := Tryz.zeroValue68
  t53 := Tryz.underlying32
  a53 := Tryz.isAgg32
  z53 := Tryz.sizeOf32
  v53 := Tryz.zeroValue32
  t70 := Tryz.underlying109
  a70 := Tryz.isAgg109
  z70 := Tryz.sizeOf109
  v70 := Tryz.zeroValue109
  t72 := Tryz.underlying112
  a72 := Tryz.isAgg112
  z72 := Tryz.sizeOf112
  v72 := Tryz.zeroValue112
  t75 := Tryz.underlying114
  a75 := Tryz.isAgg114
  z75 := Tryz.sizeOf114
  v75 := Tryz.zeroValue114
  t76 := Tryz.underlying115
  a76 := Tryz.isAgg115
  z76 := Tryz.sizeOf115
  v76 := Tryz.zeroValue115
  t109 := Tryz.underlying182
  a109 := Tryz.isAgg182
  z109 := Tryz.sizeOf182
  v109 := Tryz.zeroValue182
  t127 := Tryz.underlying154
  a127 := Tryz.isAgg154
  z127 := Tryz.sizeOf154
  v127 := Tryz.zeroValue154
  t146 := Tryz.underlying204
  a146 := Tryz.isAgg204
  z146 := Tryz.sizeOf204
  v146 := Tryz.zeroValue204
  t148 := Tryz.underlying206
  a148 := Tryz.isAgg206
  z148 := Tryz.sizeOf206
  v148 := Tryz.zeroValue206
  t164 := Tryz.underlying180
  a164 := Tryz.isAgg180
  z164 := Tryz.sizeOf180
  v164 := Tryz.zeroValue180 }
theorem Tryz.Builder_Extra_105 : Builder.Extra Tryz.prog Tryz.lays105_ren := {
  sizeBuilder := by kernel_rfl
  liesBuilder := by kernel_rfl
  t5 := Tryz.underlying5
  a5 := Tryz.isAgg5
  z5 := Tryz.sizeOf5
  v5 := Tryz.zeroValue5
  infoByte := by kernel_rfl
  cellsByte := by kernel_rfl
  sizeByte := by kernel_rfl
  neB5 := by decide }
open Go.RowKit Go.Lib in
theorem Tryz.strings_Repeat (s : ByteArray) (c : Nat) (w : World) (hc : c ≤ 9223372036854775807) (hlen : s.size * c ≤ 140737488355328) :
    Calls Tryz.prog 117 #[.string s, .int .i64 c] w fun e w' => e = .returned (.string ⟨(Lib.repeatL s.data.toList c).toArray⟩) ∧ Below w.heap.size w w' := Any.strings_Repeat Tryz.lays105 Tryz.Builder_Extra_105 s c w hc hlen
theorem Tryz.lays166 : Go.Proofs.Lays.n166 Tryz.prog Tryz.lays156_ren := { Tryz.lays156 with }
end Go.Proofs
namespace Go.Fip
open Go.Proofs Go.Shelf Go.RowKit Go.Sort
structure Gl (w : World) : Prop where
  tab : Lib.TabIs Tryz.prog w "internal/strconv.uint64pow10" .u64 Lib.pow10Tab
  len : ∃ m, w.cell? ⟨1, 0, none⟩ = some (.int .i64 m)
  syn : ∃ te pe, w.cell? ⟨4, 0, none⟩ = some (.iface te pe)
  rng : ∃ te pe, w.cell? ⟨5, 0, none⟩ = some (.iface te pe)
  tz : w.cell? ⟨7, 15, none⟩ = some (.int .u8 4)
theorem blockAt {w : World} {a : Addr} {v : Value} (h : w.cell? a = some v) : ∃ o, w.heap[a.block]? = some o := by
  unfold World.cell? at h
  cases ho : w.heap[a.block]? with
  | none => rw [ho] at h; simp at h
  | some o => exact ⟨o, rfl⟩
theorem cell_below {w w' : World} {a : Addr} {v : Value} (hb : Below w.heap.size w w') (h : w.cell? a = some v) : w'.cell? a = some v := by
  obtain ⟨o, ho⟩ := blockAt h
  rw [← h]
  exact World.cell?_of_block (w := w) (hb.block _ (Array.getElem?_eq_some_iff.1 ho).1)
theorem tabIs_below {P : Program} {w w' : World} {n : String} {k : IntKind} {zs : List Int} (h : Lib.TabIs P w n k zs) (hb : Below w.heap.size w w') : Lib.TabIs P w' n k zs := by
  unfold Lib.TabIs World.var? at *
  cases hg : P.globalNamed n with
  | none => rw [hg] at h; simp at h
  | some g =>
    rw [hg] at h
    simp only [Option.bind_some] at h ⊢
    cases ho : w.heap[g]? with
    | none => rw [ho] at h; simp at h
    | some o => rw [hb.block g (Array.getElem?_eq_some_iff.1 ho).1, ho]; rw [ho] at h; exact h
theorem Gl.below {w w' : World} (h : Gl w) (hb : Below w.heap.size w w') : Gl w' := by
  obtain ⟨m, hm⟩ := h.len
  obtain ⟨t1, p1, h1⟩ := h.syn
  obtain ⟨t2, p2, h2⟩ := h.rng
  exact ⟨tabIs_below h.tab hb, ⟨m, cell_below hb hm⟩, ⟨t1, p1, cell_below hb h1⟩, ⟨t2, p2, cell_below hb h2⟩, cell_below hb h.tz⟩
theorem Gl.now {w w' : World} (h : Gl w) {H : List Item} {n : Nat} (hH : Heap H w') (hn : H[n]? = some (base w)) : Gl w' := h.below (hH.get hn)
section
variable {P : Program} {f : FuncId} {args : Array Value} {w : World} {R : Value → World → Prop}
theorem fn_calls (hen : ∀ w', (callFunc f args).run P w' = .ok (.enter f args) w') (h : Calls P f args w fun e w' => ∃ v, e = .returned v ∧ Below w.heap.size w w' ∧ ∀ w'', Agree w.heap.size w'.heap.size w' w'' → R v w'') : Fn P f args w R := ⟨hen, callsIn_wide.2 h⟩
theorem fn_value {v : Value} (hen : ∀ w', (callFunc f args).run P w' = .ok (.enter f args) w') (h : Calls P f args w fun e w' => e = .returned v ∧ Below w.heap.size w w') : Fn P f args w (fun u _ => u = v) :=
  fn_calls hen (h.mono fun _ _ ⟨he, hb⟩ => ⟨v, he, hb, fun _ _ => rfl⟩)
end
theorem below_grow (w : World) (k : Nat) (os : Array Obj) : Below w.heap.size w (grow (w.drewN k) os) := ⟨rfl, rfl, rfl, by simp [grow, World.drewN], fun i hi => by
  show (w.heap ++ os)[i]? = _
  rw [Array.getElem?_append_left hi]⟩
theorem below_bytes (w : World) (e : TypeId) (s : ByteArray) : Below w.heap.size w (Lib.bytesWorld w e s) := by
  have h1 : Below w.heap.size w (w.drew.alloc (.cells (Lib.bytesCells w e s) e)) := ⟨rfl, rfl, rfl, by simp, fun k hk => Below.heap_alloc w.drew _ k hk⟩
  refine h1.trans ?_
  unfold Lib.bytesWorld World.freeze
  refine ⟨rfl, rfl, rfl, by simp, fun k hk => ?_⟩
  simp [Array.getElem?_modify]
  intro e
  omega
theorem parse_bd {l : List UInt8} {v : Int} (h : Lib.parseIntB 64 l = .ok v) : -9223372036854775808 ≤ v ∧ v ≤ 9223372036854775807 := by
  have e63 : (2 : Nat) ^ (64 - 1) = 9223372036854775808 := by decide
  cases l with
  | nil => simp [Lib.parseIntB] at h
  | cons c r =>
    simp only [Lib.parseIntB, e63] at h
    match hu : Lib.parseUintB 64 (if c.toNat = 43 ∨ c.toNat = 45 then r else c :: r) with
    | Lib.NumEnd.syntax => rw [hu] at h; simp at h
    | Lib.NumEnd.range => rw [hu] at h; simp at h
    | Lib.NumEnd.ok u =>
      rw [hu] at h
      simp only at h
      by_cases c1 : ¬ c.toNat = 45 ∧ 9223372036854775808 ≤ u
      · rw [if_pos c1] at h; cases h
      · rw [if_neg c1] at h
        by_cases c2 : c.toNat = 45 ∧ 9223372036854775808 < u
        · rw [if_pos c2] at h; cases h
        · rw [if_neg c2] at h
          simp only [Lib.NumEnd.ok.injEq] at h
          subst h
          split <;> omega
theorem c108 {n : Int} {w : World} (hG : Gl w) (h0 : -9223372036854775808 ≤ n) (h1 : n ≤ 9223372036854775807) : Fn Tryz.prog 108 #[.int .i64 n, .int .i64 10] w (fun u _ => u = str (Lib.itoa n)) :=
  fn_value (ent Tryz.func108 (by kernel_rfl) rfl _) ((Tryz.strconv_FormatInt_10 n h0 h1 w hG.tab).mono fun _ _ ⟨he, k, os, hw⟩ => ⟨he, hw ▸ below_grow w k os⟩)
theorem c109 {v : Value} {xs : List (List UInt8)} {sep : List UInt8} {w : World} (h0 : Rd encT 1 v xs w) (hN : xs.length ≤ 1000) (hlen : (Lib.join xs sep).length ≤ 140737488355328) :
    Fn Tryz.prog 109 #[v, str sep] w (fun u _ => u = str (Lib.join xs sep)) := by
  refine fn_value (ent Tryz.func109 (by kernel_rfl) rfl _) ?_
  obtain ⟨a, c, e1, hc, ha⟩ := h0.1
  by_cases hx : xs = []
  · subst hx
    rw [e1]
    exact (Tryz.strings_Join_none a c ⟨sep.toArray⟩ w).mono fun _ _ ⟨he, hw⟩ => ⟨by rw [he]; rfl, hw ▸ Below.refl _ _⟩
  · rcases ha with ⟨rfl, rfl⟩ | ⟨b, o, rfl⟩
    · exact absurd (List.eq_nil_of_length_eq_zero (by omega)) hx
    · have hcell : ∀ (j : Nat) (x : List UInt8), xs[j]? = some x → w.cell? ⟨b, o + j, none⟩ = some (str x) := fun j x hj => by
        have := h0.2 j x hj 0 (str x) rfl
        rw [e1] at this
        simpa [eb, eo] using this
      obtain ⟨x, xs', rfl⟩ := List.exists_cons_of_ne_nil hx
      obtain ⟨ob, hob⟩ := blockAt (hcell 0 x rfl)
      have hb : b < w.heap.size := (Array.getElem?_eq_some_iff.1 hob).1
      have hm : ((x :: xs').map fun l => (⟨l.toArray⟩ : ByteArray)).map (·.data.toList) = x :: xs' := by
        rw [List.map_map]; conv => rhs; rw [← List.map_id (x :: xs')]
        exact List.map_congr_left fun l _ => rfl
      have h := Tryz.strings_Join b o c ((x :: xs').map fun l => (⟨l.toArray⟩ : ByteArray)) ⟨sep.toArray⟩ w (fun j y hj => by
          rw [List.getElem?_map] at hj
          cases hq : (x :: xs')[j]? with
          | none => rw [hq] at hj; simp at hj
          | some z =>
            rw [hq] at hj
            simp at hj
            subst hj
            exact hcell j z hq) hb (by simpa using by have : (x :: xs').length ≤ 1000 := hN; simp at this; omega) (by simpa using hc) (by rw [hm]; exact hlen)
      rw [hm] at h
      rw [e1, show (x :: xs').length = ((x :: xs').map fun l => (⟨l.toArray⟩ : ByteArray)).length from (List.length_map _).symm]
      exact h
theorem c117 {l : List UInt8} {n : Nat} {w : World} (hn : l.length * n ≤ 1000000) (hn2 : n ≤ 1000000) : Fn Tryz.prog 117 #[str l, .int .i64 (n : Int)] w (fun u _ => u = str (Lib.repeatL l n)) :=
  fn_value (ent Tryz.func117 (by kernel_rfl) rfl _) (Tryz.strings_Repeat ⟨l.toArray⟩ n w (by omega) (by rw [size_str]; omega))
theorem c90 {l p : List UInt8} {w : World} : Fn Tryz.prog 90 #[str l, str p] w (fun u _ => u = .tuple #[str (Lib.trimPrefix l p), .bool (Lib.hasPrefix l p)]) :=
  fn_value (ent Tryz.func90 (by kernel_rfl) rfl _) ((Tryz.strings_CutPrefix ⟨l.toArray⟩ ⟨p.toArray⟩ w).mono fun _ _ ⟨he, hw⟩ => ⟨he, hw ▸ Below.refl _ _⟩)
theorem c91 {l cs : List UInt8} {w : World} (hl : l.length ≤ 1000000) (hc : cs.length ≤ 1000000) (ha : cs.all (fun b => decide (b.toNat < 128)) = true) : Fn Tryz.prog 91 #[str l, str cs] w (fun u _ => u = str (Lib.trimS l cs)) :=
  fn_value (ent Tryz.func91 (by kernel_rfl) rfl _) (Any.strings_Trim_laid Tryz.lays160 (by kernel_rfl) ⟨l.toArray⟩ ⟨cs.toArray⟩ w (by rw [size_str]; omega) (by rw [size_str]; omega) (ascii_of_all ha))
theorem c153 {l : List UInt8} {w : World} (hG : Gl w) (hl : l.length ≤ 1000000) : Fn Tryz.prog 153 #[str l, .int .i64 10, .int .i64 64] w (fun u _ => ∃ n e, u = .tuple #[.int .i64 n, e] ∧ (-9223372036854775808 ≤ n ∧ n ≤ 9223372036854775807) ∧ ((Lib.parseIntB 64 l = .ok n ∧ e = .nilIface) ∨ ((∀ v, Lib.parseIntB 64 l ≠ .ok v) ∧ ∃ te pe, e = .iface te pe))) := by
  refine fn_calls (ent Tryz.func153 (by kernel_rfl) rfl _) ?_
  obtain ⟨t1, p1, h1⟩ := hG.syn
  obtain ⟨t2, p2, h2⟩ := hG.rng
  have hs : (⟨l.toArray⟩ : ByteArray).size ≤ 1000000 := by rw [size_str]; exact hl
  match h : Lib.parseIntB 64 l with
  | Lib.NumEnd.ok v =>
    refine (Tryz.strconv_ParseInt_10_at64_ok ⟨l.toArray⟩ (by omega) v h w).mono fun e w' ⟨he, hw⟩ => ⟨_, he, ?_, fun _ _ => ⟨v, .nilIface, rfl, ?_, .inl ⟨rfl, rfl⟩⟩⟩
    · rcases hw with rfl | ⟨t, rfl⟩
      · exact Below.refl _ _
      · exact below_bytes _ _ _
    · exact parse_bd h
  | Lib.NumEnd.syntax =>
    exact (Tryz.strconv_ParseInt_10_at64_syntax ⟨l.toArray⟩ (by omega) h _ w h1 (.inr ⟨t1, p1, rfl⟩)).mono fun e w' ⟨N, he, _, _, hb⟩ => ⟨_, he, hb, fun _ _ => ⟨0, _, rfl, by decide, .inr ⟨fun v => (by simp), _, _, rfl⟩⟩⟩
  | Lib.NumEnd.range =>
    refine (Tryz.strconv_ParseInt_10_at64_range ⟨l.toArray⟩ (by omega) h _ w h2 (.inr ⟨t2, p2, rfl⟩)).mono fun e w' ⟨N, he, _, _, hb⟩ => ⟨_, he, hb, fun _ _ => ⟨_, _, rfl, ?_, .inr ⟨fun v => (by simp), _, _, rfl⟩⟩⟩
    unfold Lib.intSat
    have e63 : (2 : Nat) ^ (64 - 1) = 9223372036854775808 := by decide
    rw [e63]
    split <;> omega
end Go.Fip
namespace Go.Fip
open Go.RowKit
def intsB (C : List Int) : List Value := C.map (Value.int .u8)
theorem intsB_len {C : List Int} : (intsB C).length = C.length := by simp [intsB]
theorem intsB_splice {C : List Int} {i z : Int} (h : 0 ≤ i ∧ i < (C.length : Int)) : splice (intsB C) i.toNat [.int .u8 z] = intsB (C.set i.toNat z) := by
  unfold splice intsB
  rw [List.map_set, List.set_eq_take_append_cons_drop, if_pos (by rw [List.length_map]; omega)]
  simp
section
variable {r : Option Nat} {P : Program} {N : Nat} {ds : List Deferred} {env : Env} {w : World} {Q : Post} {all : Array Oper} {rest : List Oper} {H : List Item} {x y : Operand} {ty : TypeId} {pos : String} {after : Array Edge}
theorem op_setAB {T b n t : Nat} {C : List Int} {i z : Int} (hp : ev env x = some (.pointer (some ⟨b, 0 + i.toNat * 1, none⟩))) (hx : ev env y = some (.int .u8 z)) (hH : Heap H w) (hn : H[n]? = some (bx b t (intsB C))) (hsz : (P.info? T).map (·.size) = some 1) (hi : 0 ≤ i ∧ i < (C.length : Int))
    (h : ∀ w', Heap (H.set n (bx b t (intsB (C.set i.toNat z)))) w' → Ops r P N all rest ds env w' Q) : Ops r P N all (⟨none, .store T x y, ty, pos, after, none⟩ :: rest) ds env w Q :=
  op_store (j := i.toNat) (us := [.int .u8 z]) (by rw [hp]; simp) hx hH hn hsz rfl rfl (by rw [Nat.ble_eq, intsB_len]; simp; omega) rfl (fun w' hw => h w' (by rwa [intsB_splice hi] at hw))
theorem yv_arrFrom {S : World → Prop} {T n E sz b : Nat} {k : IntKind} {i : Int} (hT : TArr P T n E sz) (hsz : sz = 1) (hx : ev env x = some (.pointer (some ⟨b, 0, none⟩))) (hy : ev env y = some (.int k i)) (hi : 0 ≤ i ∧ i < (n : Int)) : Yv P N ds env (.slice T x (some y) none none) (.slice (some ⟨b, i.toNat, none⟩) (n - i.toNat) (n - i.toNat)) S := fun a ha w _ _ _ _ _ _ => by
  subst hsz
  have e2 := run_bound (P := P) (w := w) (k := k) (i := i) (n := n) (code := .sliceB) hi.1 (by omega)
  have e : (⟨b, 0, none⟩ : Addr).add i.toNat = ⟨b, i.toNat, none⟩ := by
    unfold Addr.add
    split
    · simp_all
    · simp
  have hne : ¬ (n - i.toNat = 0) := by omega
  simp [execOp, ha.ev hx, ha.ev hy, Instr.sliceAt, run_underlying hT.1, Instr.sliceBounds, e2, run_size hT.2, Result.andThen, Instr.sureAddr, asAddr, e, hne]
  intro h; omega
theorem yv_bin {S : World → Prop} {o : BinOp} {T T' : TypeId} {a b v : Value} (hx : ev env x = some a) (hy : ev env y = some b) (h : ∀ w, ((do eqGuard o T x y a b; binOp o T a b : Sem Value)).run P w = .ok v w) : Yv P N ds env (.binOp o T x y T') v S := fun act hact w _ _ _ _ _ _ => by
  have := h w
  simp only [Sem.run_bind] at this
  simp only [execOp, hact.ev hx, hact.ev hy, Sem.run_bind]
  simp only [Result.andThen] at this ⊢
  rw [this]; rfl
theorem yv_un {S : World → Prop} {o : UnOp} {T : TypeId} {a v : Value} (hx : ev env x = some a) (h : ∀ w, (Op.unary o a).run P w = .ok v w) : Yv P N ds env (.unOp o T x) v S := fun act hact w _ _ _ _ _ _ => by
  have := h w
  simp only [execOp, hact.ev hx, Sem.run_bind, this, Result.andThen]; rfl
theorem yv_and15 {S : World → Prop} {T T' : TypeId} {m : Nat} (hx : ev env x = some (.int .u64 (m : Int))) (hy : ev env y = some (.int .u64 15)) (h : m < 18446744073709551616) : Yv P N ds env (.binOp .and T x y T') (.int .u64 ((m % 16 : Nat) : Int)) S := fun act hact w _ _ _ _ _ _ => by
  have e : IntKind.u64.bits = 64 := rfl
  have h3 : m % 2 ^ IntKind.u64.bits &&& 15 % 2 ^ IntKind.u64.bits = m % 16 := by
    rw [e, Nat.mod_eq_of_lt (by omega), show 15 % 2 ^ 64 = 2 ^ 4 - 1 from rfl, Nat.and_two_pow_sub_one_eq_mod]
  simp only [execOp, hact.ev hx, hact.ev hy, eqGuard, binOp, Op.intBits, Sem.run_bind]
  simp [Result.andThen, h3]
  exact IntWalk.u64_in _ ⟨by omega, by omega⟩
theorem yv_shr4 {S : World → Prop} {T T' : TypeId} {m : Nat} {k2 : IntKind} (hx : ev env x = some (.int .u64 (m : Int))) (hy : ev env y = some (.int k2 4)) : Yv P N ds env (.binOp .shr T x y T') (.int .u64 ((m / 16 : Nat) : Int)) S := fun act hact w _ _ _ _ _ _ => by
  have e := shift_shr .u64 k2 (m : Int) 4 (by omega) (show (4 : Int) ≤ IntKind.u64.bits by decide)
  have e2 : (m : Int) / 2 ^ (4 : Int).toNat = ((m / 16 : Nat) : Int) := by
    show (m : Int) / 16 = _
    omega
  rw [e2] at e
  simp only [execOp, hact.ev hx, hact.ev hy, eqGuard, binOp, Sem.run_bind]
  rw [e]
  rfl
end
theorem Bx.rdB {b t : Nat} {C : List Int} {i : Nat} {w : World} (h : Bx b t (intsB C) w) (hi : i ≤ C.length) : Rd encB 1 (.slice (some ⟨b, i, none⟩) (C.length - i) (C.length - i)) (C.drop i) w := by
  refine ⟨⟨some ⟨b, i, none⟩, C.length - i, by rw [List.length_drop], by rw [List.length_drop]; exact Nat.le_refl _, .inr ⟨b, i, rfl⟩⟩, fun j x hj k u hk => ?_⟩
  match k, hk with
  | 0, hk =>
    simp [encB] at hk
    subst hk
    rw [List.getElem?_drop] at hj
    simp only [eb, eo, Nat.mul_one, Nat.add_zero]
    exact bx_cell h (by unfold intsB; rw [List.getElem?_map, hj]; rfl)
  | k + 1, hk => simp [encB] at hk
end Go.Fip
namespace Go.Fip
open Go.Proofs
namespace T
theorem mixed : Tryz.prog.follows .mixedOrders = true := by kernel_rfl
theorem sz2 : (Tryz.prog.info? 2).map (·.size) = some 1 := by kernel_rfl
theorem one2 : TOne Tryz.prog 2 := fun _ => by kernel_rfl
theorem sz3 : (Tryz.prog.info? 3).map (·.size) = some 1 := by kernel_rfl
theorem one3 : TOne Tryz.prog 3 := fun _ => by kernel_rfl
theorem one4 : TOne Tryz.prog 4 := fun _ => by kernel_rfl
theorem sz5 : (Tryz.prog.info? 5).map (·.size) = some 1 := by kernel_rfl
theorem one5 : TOne Tryz.prog 5 := fun _ => by kernel_rfl
theorem one9 : TOne Tryz.prog 9 := fun _ => by kernel_rfl
theorem sz22 : (Tryz.prog.info? 22).map (·.size) = some 1 := by kernel_rfl
theorem sl22 : TSlice Tryz.prog 22 38 5 := ⟨by kernel_rfl, by kernel_rfl⟩
theorem one22 : TOne Tryz.prog 22 := fun _ => by kernel_rfl
theorem sz24 : (Tryz.prog.info? 24).map (·.size) = some 1 := by kernel_rfl
theorem agg24 : TAgg Tryz.prog 24 1 := ⟨fun _ => by kernel_rfl, by kernel_rfl⟩
theorem f24_0 : TField Tryz.prog 24 0 0 := tfield_of Tryz.underlying24 rfl rfl ⟨0, by kernel_rfl⟩
theorem one32 : TOne Tryz.prog 32 := fun _ => by kernel_rfl
theorem sz38 : (Tryz.prog.info? 38).map (·.size) = some 5 := by kernel_rfl
theorem agg38 : TAgg Tryz.prog 38 5 := ⟨fun _ => by kernel_rfl, by kernel_rfl⟩
theorem f38_0 : TField Tryz.prog 38 0 0 := tfield_of Tryz.underlying38 rfl rfl ⟨0, by kernel_rfl⟩
theorem f38_1 : TField Tryz.prog 38 1 1 := tfield_of Tryz.underlying38 rfl rfl ⟨0, by kernel_rfl⟩
theorem f38_2 : TField Tryz.prog 38 2 2 := tfield_of Tryz.underlying38 rfl rfl ⟨0, by kernel_rfl⟩
theorem f38_3 : TField Tryz.prog 38 3 3 := tfield_of Tryz.underlying38 rfl rfl ⟨0, by kernel_rfl⟩
theorem f38_4 : TField Tryz.prog 38 4 4 := tfield_of Tryz.underlying38 rfl rfl ⟨0, by kernel_rfl⟩
theorem sz39 : (Tryz.prog.info? 39).map (·.size) = some 1 := by kernel_rfl
theorem sl39 : TSlice Tryz.prog 39 32 1 := ⟨by kernel_rfl, by kernel_rfl⟩
theorem one39 : TOne Tryz.prog 39 := fun _ => by kernel_rfl
theorem sl56 : TSlice Tryz.prog 56 9 1 := ⟨by kernel_rfl, by kernel_rfl⟩
theorem one77 : TOne Tryz.prog 77 := fun _ => by kernel_rfl
theorem sz82 : (Tryz.prog.info? 82).map (·.size) = some 10 := by kernel_rfl
theorem arr82 : TArr Tryz.prog 82 10 2 1 := ⟨by kernel_rfl, by kernel_rfl⟩
theorem agg82 : TAgg Tryz.prog 82 10 := ⟨fun _ => by kernel_rfl, by kernel_rfl⟩
theorem sz95 : (Tryz.prog.info? 95).map (·.size) = some 1 := by kernel_rfl
theorem sl95 : TSlice Tryz.prog 95 4 1 := ⟨by kernel_rfl, by kernel_rfl⟩
theorem one95 : TOne Tryz.prog 95 := fun _ => by kernel_rfl
theorem sl110 : TSlice Tryz.prog 110 5 1 := ⟨by kernel_rfl, by kernel_rfl⟩
theorem sl131 : TSlice Tryz.prog 131 2 1 := ⟨by kernel_rfl, by kernel_rfl⟩
theorem one136 : TOne Tryz.prog 136 := fun _ => by kernel_rfl
theorem f138_0 : TField Tryz.prog 138 0 0 := tfield_of Tryz.underlying138 rfl rfl ⟨0, by kernel_rfl⟩
theorem f138_1 : TField Tryz.prog 138 1 1 := tfield_of Tryz.underlying138 rfl rfl ⟨0, by kernel_rfl⟩
theorem sz143 : (Tryz.prog.info? 143).map (·.size) = some 2 := by kernel_rfl
theorem agg143 : TAgg Tryz.prog 143 2 := ⟨fun _ => by kernel_rfl, by kernel_rfl⟩
theorem f143_0 : TField Tryz.prog 143 0 0 := tfield_of Tryz.underlying143 rfl rfl ⟨0, by kernel_rfl⟩
theorem f143_1 : TField Tryz.prog 143 1 1 := tfield_of Tryz.underlying143 rfl rfl ⟨0, by kernel_rfl⟩
theorem sl168 : TSlice Tryz.prog 168 3 1 := ⟨by kernel_rfl, by kernel_rfl⟩
theorem arr214 : TArr Tryz.prog 214 65 5 1 := ⟨by kernel_rfl, by kernel_rfl⟩
theorem arr238 : TArr Tryz.prog 238 64 5 1 := ⟨by kernel_rfl, by kernel_rfl⟩
theorem el22_encE : El Tryz.prog 22 38 5 encE := el_of (z := (.agg #[(.int .i64 0), (.int .i64 0), (.int .i64 0), (.int .i64 0), (.int .i64 0)])) (bytes := 40) (by kernel_rfl) (by kernel_rfl) rfl rfl rfl (fun _ => rfl) (by simp [encE, Value.oneCell'])
theorem el39_encW : El Tryz.prog 39 32 1 encW := el_of (z := (.int .u64 0)) (bytes := 8) (by kernel_rfl) (by kernel_rfl) rfl rfl rfl (fun _ => rfl) (by simp [encW, Value.oneCell'])
theorem el95_encBo : El Tryz.prog 95 4 1 encBo := el_of (z := (.bool false)) (bytes := 1) (by kernel_rfl) (by kernel_rfl) rfl rfl rfl (fun _ => rfl) (by simp [encBo, Value.oneCell'])
theorem el110_encB : El Tryz.prog 110 5 1 encB := el_of (z := (.int .u8 0)) (bytes := 1) (by kernel_rfl) (by kernel_rfl) rfl rfl rfl (fun _ => rfl) (by simp [encB, Value.oneCell'])
theorem el131_encI : El Tryz.prog 131 2 1 encI := el_of (z := (.int .i64 0)) (bytes := 8) (by kernel_rfl) (by kernel_rfl) rfl rfl rfl (fun _ => rfl) (by simp [encI, Value.oneCell'])
theorem el168_encI : El Tryz.prog 168 3 1 encI := el_of (z := (.int .i64 0)) (bytes := 8) (by kernel_rfl) (by kernel_rfl) rfl rfl rfl (fun _ => rfl) (by simp [encI, Value.oneCell'])
theorem eqi38 : EqI Tryz.prog 38 5 := eqi_struct' (by kernel_rfl) (by kernel_rfl) (by kernel_rfl) (by kernel_rfl) (by kernel_rfl)
theorem z131_encI : ∀ i, Tryz.prog.info? 2 = some i → i.zero.map (·.cells.toList) = some (encI (0 : Int)) := z_of (z := (.int .i64 0)) (by kernel_rfl) rfl
theorem z39_encW : ∀ i, Tryz.prog.info? 32 = some i → i.zero.map (·.cells.toList) = some (encW (0 : UInt64)) := z_of (z := (.int .u64 0)) (by kernel_rfl) rfl
end T
end Go.Fip
