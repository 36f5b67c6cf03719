/- Own text, part Fnd 1: walks of the package acl and of its reference, and the plain laws that they lean on; no statement of the seat is here. -/
import Derived.Test.YtgcjejajljhnaaaGreatDoorBase2
import Derived.Shelf.Small.Strs
import Derived.Shelf.Utf8.RuneCount
import Derived.Shelf.Strconv.Atoi
import Derived.Shelf.Strconv.Itoa0
import Derived.Shelf.Strconv.Itoa1
import Derived.Shelf.LaysM
import Derived.Shelf.Strconv.Itoa2
import Derived.Shelf.Strconv.Itoa3
import Derived.Shelf.Strconv.AtoiErrFast
import Derived.Shelf.Strconv.ParseIntEmpty
import Derived.Shelf.Strconv.AtoiFail
import Derived.Shelf.Strconv.Clone
import Derived.Shelf.Strconv.SyntaxError
import Derived.Shelf.LaysC
import Derived.Shelf.Strconv.ToError
import Derived.Shelf.Strconv.Lower
import Derived.Shelf.Strconv.ParseUint10
import Derived.Shelf.Strconv.ParseUint10Empty
import Derived.Shelf.Strconv.ParseUint10Any
import Derived.Shelf.Strconv.ParseInt10
import Derived.Shelf.Strconv.AtoiLong
import Derived.Shelf.Strconv.AtoiInnerAll
import Derived.Shelf.Strconv.RangeError
import Derived.Shelf.Strconv.ToErrorRange
import Derived.Shelf.Strconv.AtoiAll
import Derived.Shelf.Strings.Search1
import Derived.Shelf.Strings.Search2
import Derived.Shelf.Strings.Search3
import Derived.Shelf.Strings.Count
import Derived.Shelf.Strings.Shaped
import Derived.Shelf.Strings.Prefix
import Derived.Shelf.Strings.Split
import Derived.Shelf.Strings.SplitShaped
import Derived.Shelf.Unicode.Decode
import Derived.Shelf.Strings.RuneCount
import Derived.Shelf.Strings.Explode
import Derived.Shelf.Unicode.DecodeSlow
import Derived.Shelf.Unicode.DecodeAny
import Derived.Shelf.Slices.Turned
import Derived.Ground.Names2Prog
import Derived.Shelf.Slices.Clone
import Derived.Ground.SlgnProg
import Derived.Shelf.SlicesE.Clone
import Derived.Test.YtgcjejajljhnaaaGreatDoorProg
import Derived.Test.YtgcjejajljhnaaaGreatDoorBase3
import Derived.Laws.IdiomStrings
import Derived.Lib.AtoiErrMem
import Derived.Lib.AppendIntMem
import Derived.Lib.SmallJoins
set_option linter.all false
namespace Go.Proofs
open Go.Shelf
def Tryz.laysM171_ren : Go.Shelf.Ren := ⟨fun | 171 => 82 | 243 => 127 | 246 => 160 | 283 => 186 | 284 => 187 | 285 => 188 | 286 => 189 | 129 => 206 | 317 => 205 | 318 => 207 | 319 => 208 | 320 => 209 | 337 => 223 | 338 => 224 | n => n, fun | 3 => 3 | 9 => 9 | 2 => 2 | 4 => 4 | 171 => 195 | 0 => 0 | 53 => 196 | 37 => 117 | 5 => 5 | 173 => 199 | 212 => 214 | 51 => 215 | 20 => 20 | 213 => 216 | 46 => 217 | 232 => 240 | 233 => 241 | n => n, fun | 17 => 0 | 18 => 6 | 19 => 7 | n => n⟩
theorem Tryz.laysM171 : Go.Proofs.LaysM.n171 Tryz.prog Tryz.laysM171_ren := {
  mixed := by kernel_rfl
  f129 := Tryz.func206.trans (congrArg some (by kernel_rfl))
  f171 := Tryz.func82.trans (congrArg some (by kernel_rfl))
  f243 := Tryz.func127.trans (congrArg some (by kernel_rfl))
  f246 := Tryz.func160.trans (congrArg some (by kernel_rfl))
  f283 := Tryz.func186.trans (congrArg some (by kernel_rfl))
  f284 := Tryz.func187.trans (congrArg some (by kernel_rfl))
  f285 := Tryz.func188.trans (congrArg some (by kernel_rfl))
  f286 := Tryz.func189.trans (congrArg some (by kernel_rfl))
  f317 := Tryz.func205.trans (congrArg some (by kernel_rfl))
  f318 := Tryz.func207.trans (congrArg some (by kernel_rfl))
  f319 := Tryz.func208.trans (congrArg some (by kernel_rfl))
  f320 := Tryz.func209.trans (congrArg some (by kernel_rfl))
  f337 := Tryz.func223.trans (congrArg some (by kernel_rfl))
  f338 := Tryz.func224.trans (congrArg some (by kernel_rfl))
  t0 := Tryz.underlying0
  a0 := Tryz.isAgg0
  z0 := Tryz.sizeOf0
  v0 := Tryz.zeroValue0
  t2 := Tryz.underlying2
  a2 := Tryz.isAgg2
  z2 := Tryz.sizeOf2
  v2 := Tryz.zeroValue2
  t3 := Tryz.underlying3
  a3 := Tryz.isAgg3
  z3 := Tryz.sizeOf3
  v3 := Tryz.zeroValue3
  t4 := Tryz.underlying4
  a4 := Tryz.isAgg4
  z4 := Tryz.sizeOf4
  v4 := Tryz.zeroValue4
  t5 := Tryz.underlying5
  a5 := Tryz.isAgg5
  z5 := Tryz.sizeOf5
  v5 := Tryz.zeroValue5
  t9 := Tryz.underlying9
  a9 := Tryz.isAgg9
  z9 := Tryz.sizeOf9
  v9 := Tryz.zeroValue9
  t20 := Tryz.underlying20
  a20 := Tryz.isAgg20
  z20 := Tryz.sizeOf20
  v20 := Tryz.zeroValue20
  t37 := Tryz.underlying117
  a37 := Tryz.isAgg117
  z37 := Tryz.sizeOf117
  v37 := Tryz.zeroValue117
  t46 := Tryz.underlying217
  a46 := Tryz.isAgg217
  z46 := Tryz.sizeOf217
  v46 := Tryz.zeroValue217
  t51 := Tryz.underlying215
  a51 := Tryz.isAgg215
  z51 := Tryz.sizeOf215
  v51 := Tryz.zeroValue215
  t53 := Tryz.underlying196
  a53 := Tryz.isAgg196
  z53 := Tryz.sizeOf196
  v53 := Tryz.zeroValue196
  t171 := Tryz.underlying195
  a171 := Tryz.isAgg195
  z171 := Tryz.sizeOf195
  v171 := Tryz.zeroValue195
  t173 := Tryz.underlying199
  a173 := Tryz.isAgg199
  z173 := Tryz.sizeOf199
  v173 := Tryz.zeroValue199
  t212 := Tryz.underlying214
  a212 := Tryz.isAgg214
  z212 := Tryz.sizeOf214
  v212 := Tryz.zeroValue214
  t213 := Tryz.underlying216
  a213 := Tryz.isAgg216
  z213 := Tryz.sizeOf216
  t232 := Tryz.underlying240
  a232 := Tryz.isAgg240
  z232 := Tryz.sizeOf240
  v232 := Tryz.zeroValue240
  t233 := Tryz.underlying241
  a233 := Tryz.isAgg241
  z233 := Tryz.sizeOf241
  v233 := Tryz.zeroValue241
  g17 := by kernel_rfl
  g18 := by kernel_rfl
  g19 := by kernel_rfl
  i0 := by kernel_rfl
  i2 := by kernel_rfl
  i3 := by kernel_rfl
  i4 := by kernel_rfl
  i5 := by kernel_rfl
  i9 := by kernel_rfl
  i20 := by kernel_rfl
  i37 := by kernel_rfl
  i46 := by kernel_rfl
  i51 := by kernel_rfl
  i53 := by kernel_rfl
  i171 := by kernel_rfl
  i173 := by kernel_rfl
  i212 := by kernel_rfl
  i232 := by kernel_rfl
  i233 := by kernel_rfl
  m17 := by kernel_rfl
  m18 := by kernel_rfl
  m19 := by kernel_rfl }
open Go.RowKit Go.Sort Go.Lib in
theorem Tryz.strconv_Itoa (n : Int) (h0 : -9223372036854775808 ≤ n) (h1 : n ≤ 9223372036854775807) (w : World) (htab : Lib.TabIs Tryz.prog w "internal/strconv.uint64pow10" .u64 Lib.pow10Tab) :
    Calls Tryz.prog 82 #[.int .i64 n] w fun e w' => e = .returned (.string ⟨(Lib.itoa n).toArray⟩) ∧ ∃ k os, w' = grow (w.drewN k) os := Any.strconv_Itoa Tryz.laysM171 n h0 h1 w htab
def Tryz.laysC172_ren : Go.Shelf.Ren := ⟨fun | 172 => 130 | 244 => 164 | 245 => 165 | 247 => 194 | 279 => 195 | 280 => 196 | 281 => 197 | 282 => 198 | 287 => 215 | 316 => 216 | 171 => 82 | 205 => 217 | 321 => 227 | 322 => 228 | 243 => 127 | 246 => 160 | 283 => 186 | 284 => 187 | 285 => 188 | 286 => 189 | 129 => 206 | 317 => 205 | 318 => 207 | 319 => 208 | 320 => 209 | 337 => 223 | 338 => 224 | n => n, fun | 9 => 9 | 3 => 3 | 75 => 152 | 76 => 153 | 4 => 4 | 5 => 5 | 167 => 204 | 37 => 117 | 0 => 0 | 85 => 205 | 2 => 2 | 168 => 207 | 53 => 196 | 175 => 219 | 46 => 217 | 210 => 222 | 127 => 234 | 145 => 237 | 143 => 235 | 21 => 21 | 171 => 195 | 173 => 199 | 212 => 214 | 51 => 215 | 20 => 20 | 213 => 216 | 232 => 240 | 233 => 241 | 80 => 194 | n => n, fun | 15 => 2 | 16 => 3 | 17 => 0 | 18 => 6 | 19 => 7 | n => n⟩
theorem Tryz.laysC172 : Go.Proofs.LaysC.n172 Tryz.prog Tryz.laysC172_ren := {
  mixed := by kernel_rfl
  f129 := Tryz.func206.trans (congrArg some (by kernel_rfl))
  f171 := Tryz.func82.trans (congrArg some (by kernel_rfl))
  f172 := Tryz.func130.trans (congrArg some (by kernel_rfl))
  f205 := Tryz.func217.trans (congrArg some (by kernel_rfl))
  f243 := Tryz.func127.trans (congrArg some (by kernel_rfl))
  f244 := Tryz.func164.trans (congrArg some (by kernel_rfl))
  f245 := Tryz.func165.trans (congrArg some (by kernel_rfl))
  f246 := Tryz.func160.trans (congrArg some (by kernel_rfl))
  f247 := Tryz.func194.trans (congrArg some (by kernel_rfl))
  f279 := Tryz.func195.trans (congrArg some (by kernel_rfl))
  f280 := Tryz.func196.trans (congrArg some (by kernel_rfl))
  f281 := Tryz.func197.trans (congrArg some (by kernel_rfl))
  f282 := Tryz.func198.trans (congrArg some (by kernel_rfl))
  f283 := Tryz.func186.trans (congrArg some (by kernel_rfl))
  f284 := Tryz.func187.trans (congrArg some (by kernel_rfl))
  f285 := Tryz.func188.trans (congrArg some (by kernel_rfl))
  f286 := Tryz.func189.trans (congrArg some (by kernel_rfl))
  f287 := Tryz.func215.trans (congrArg some (by kernel_rfl))
  f316 := Tryz.func216.trans (congrArg some (by kernel_rfl))
  f317 := Tryz.func205.trans (congrArg some (by kernel_rfl))
  f318 := Tryz.func207.trans (congrArg some (by kernel_rfl))
  f319 := Tryz.func208.trans (congrArg some (by kernel_rfl))
  f320 := Tryz.func209.trans (congrArg some (by kernel_rfl))
  f321 := Tryz.func227.trans (congrArg some (by kernel_rfl))
  f322 := Tryz.func228.trans (congrArg some (by kernel_rfl))
  f337 := Tryz.func223.trans (congrArg some (by kernel_rfl))
  f338 := Tryz.func224.trans (congrArg some (by kernel_rfl))
  t0 := Tryz.underlying0
  a0 := Tryz.isAgg0
  z0 := Tryz.sizeOf0
  v0 := Tryz.zeroValue0
  t2 := Tryz.underlying2
  a2 := Tryz.isAgg2
  z2 := Tryz.sizeOf2
  v2 := Tryz.zeroValue2
  t3 := Tryz.underlying3
  a3 := Tryz.isAgg3
  z3 := Tryz.sizeOf3
  v3 := Tryz.zeroValue3
  t4 := Tryz.underlying4
  a4 := Tryz.isAgg4
  z4 := Tryz.sizeOf4
  v4 := Tryz.zeroValue4
  t5 := Tryz.underlying5
  a5 := Tryz.isAgg5
  z5 := Tryz.sizeOf5
  v5 := Tryz.zeroValue5
  t9 := Tryz.underlying9
  a9 := Tryz.isAgg9
  z9 := Tryz.sizeOf9
  v9 := Tryz.zeroValue9
  t20 := Tryz.underlying20
  a20 := Tryz.isAgg20
  z20 := Tryz.sizeOf20
  v20 := Tryz.zeroValue20
  t21 := Tryz.underlying21
  a21 := Tryz.isAgg21
  z21 := Tryz.sizeOf21
  v21 := Tryz.zeroValue21
  t37 := Tryz.underlying117
  a37 := Tryz.isAgg117
  z37 := Tryz.sizeOf117
  v37 := Tryz.zeroValue117
  t46 := Tryz.underlying217
  a46 := Tryz.isAgg217
  z46 := Tryz.sizeOf217
  v46 := Tryz.zeroValue217
  t51 := Tryz.underlying215
  a51 := Tryz.isAgg215
  z51 := Tryz.sizeOf215
  v51 := Tryz.zeroValue215
  t53 := Tryz.underlying196
  a53 := Tryz.isAgg196
  z53 := Tryz.sizeOf196
  v53 := Tryz.zeroValue196
  t75 := Tryz.underlying152
  a75 := Tryz.isAgg152
  z75 := Tryz.sizeOf152
  v75 := Tryz.zeroValue152
  t76 := Tryz.underlying153
  a76 := Tryz.isAgg153
  z76 := Tryz.sizeOf153
  v76 := Tryz.zeroValue153
  t85 := Tryz.underlying205
  a85 := Tryz.isAgg205
  z85 := Tryz.sizeOf205
  v85 := Tryz.zeroValue205
  t127 := Tryz.underlying234
  a127 := Tryz.isAgg234
  z127 := Tryz.sizeOf234
  v127 := Tryz.zeroValue234
  t143 := Tryz.underlying235
  a143 := Tryz.isAgg235
  z143 := Tryz.sizeOf235
  v143 := Tryz.zeroValue235
  t145 := Tryz.underlying237
  a145 := Tryz.isAgg237
  z145 := Tryz.sizeOf237
  v145 := Tryz.zeroValue237
  t167 := Tryz.underlying204
  a167 := Tryz.isAgg204
  z167 := Tryz.sizeOf204
  v167 := Tryz.zeroValue204
  t168 := Tryz.underlying207
  a168 := Tryz.isAgg207
  z168 := Tryz.sizeOf207
  v168 := Tryz.zeroValue207
  t171 := Tryz.underlying195
  a171 := Tryz.isAgg195
  z171 := Tryz.sizeOf195
  v171 := Tryz.zeroValue195
  t173 := Tryz.underlying199
  a173 := Tryz.isAgg199
  z173 := Tryz.sizeOf199
  v173 := Tryz.zeroValue199
  t175 := Tryz.underlying219
  a175 := Tryz.isAgg219
  z175 := Tryz.sizeOf219
  v175 := Tryz.zeroValue219
  t210 := Tryz.underlying222
  a210 := Tryz.isAgg222
  z210 := Tryz.sizeOf222
  v210 := Tryz.zeroValue222
  t212 := Tryz.underlying214
  a212 := Tryz.isAgg214
  z212 := Tryz.sizeOf214
  v212 := Tryz.zeroValue214
  t213 := Tryz.underlying216
  a213 := Tryz.isAgg216
  z213 := Tryz.sizeOf216
  t232 := Tryz.underlying240
  a232 := Tryz.isAgg240
  z232 := Tryz.sizeOf240
  v232 := Tryz.zeroValue240
  t233 := Tryz.underlying241
  a233 := Tryz.isAgg241
  z233 := Tryz.sizeOf241
  v233 := Tryz.zeroValue241
  g15 := by kernel_rfl
  g16 := by kernel_rfl
  g17 := by kernel_rfl
  g18 := by kernel_rfl
  g19 := by kernel_rfl
  t80 := Tryz.underlying194
  a80 := Tryz.isAgg194
  z80 := Tryz.sizeOf194
  v80 := Tryz.zeroValue194
  i0 := by kernel_rfl
  i2 := by kernel_rfl
  i3 := by kernel_rfl
  i4 := by kernel_rfl
  i5 := by kernel_rfl
  i9 := by kernel_rfl
  i20 := by kernel_rfl
  i21 := by kernel_rfl
  i37 := by kernel_rfl
  i46 := by kernel_rfl
  i51 := by kernel_rfl
  i53 := by kernel_rfl
  i75 := by kernel_rfl
  i76 := by kernel_rfl
  i80 := by kernel_rfl
  i85 := by kernel_rfl
  i127 := by kernel_rfl
  i143 := by kernel_rfl
  i145 := by kernel_rfl
  i167 := by kernel_rfl
  i168 := by kernel_rfl
  i171 := by kernel_rfl
  i173 := by kernel_rfl
  i175 := by kernel_rfl
  i210 := by kernel_rfl
  i212 := by kernel_rfl
  i232 := by kernel_rfl
  i233 := by kernel_rfl
  m15 := by kernel_rfl
  m16 := by kernel_rfl
  m17 := by kernel_rfl
  m18 := by kernel_rfl
  m19 := by kernel_rfl
  c0 := by kernel_rfl
  c2 := by kernel_rfl
  c3 := by kernel_rfl
  c4 := by kernel_rfl
  c5 := by kernel_rfl
  c9 := by kernel_rfl
  c20 := by kernel_rfl
  c21 := by kernel_rfl
  c37 := by kernel_rfl
  c46 := by kernel_rfl
  c51 := by kernel_rfl
  c53 := by kernel_rfl
  c75 := by kernel_rfl
  c76 := by kernel_rfl
  c80 := by kernel_rfl
  c85 := by kernel_rfl
  c127 := by kernel_rfl
  c143 := by kernel_rfl
  c145 := by kernel_rfl
  c167 := by kernel_rfl
  c168 := by kernel_rfl
  c171 := by kernel_rfl
  c173 := by kernel_rfl
  c175 := by kernel_rfl
  c210 := by kernel_rfl
  c212 := by kernel_rfl
  c213 := by kernel_rfl
  c232 := by kernel_rfl
  c233 := by kernel_rfl }
open Go.RowKit in
theorem Tryz.strconv_Atoi_ok (s : ByteArray) (hmax : s.size ≤ 9223372036854775806) (v : Int) (h : Lib.atoiAll s.data.toList = .ok v) (w : World) :
    Calls Tryz.prog 130 #[.string s] w fun e w' => e = .returned (.tuple #[.int .i64 v, .nilIface]) ∧ (w' = w ∨ ∃ t, w' = Lib.bytesWorld w 5 t) := Any.strconv_Atoi_ok Tryz.laysC172 s hmax v h w
open Go.RowKit in
theorem Tryz.strconv_Atoi_range (s : ByteArray) (hlim : s.size ≤ 281474976710656) (h : Lib.atoiAll s.data.toList = .range) (ev : Value) (w : World) (hv : w.cell? ⟨3, 0, none⟩ = some ev) (hev : ev = .nilIface ∨ ∃ te pe, ev = .iface te pe) :
    Calls Tryz.prog 130 #[.string s] w fun e w' => ∃ N, e = .returned (.tuple #[.int .i64 (Lib.atoiSat s.data.toList), .iface 207 (.pointer (some ⟨N, 0, none⟩))]) ∧ w.heap.size ≤ N ∧ w'.heap[N]? = some (.cells #[.string ⟨#[65, 116, 111, 105]⟩, .string s, ev] 222 (0, 0)) ∧ Below w.heap.size w w' := Any.strconv_Atoi_range Tryz.laysC172 s hlim h ev w hv hev
def Tryz.lays146_ren : Go.Shelf.Ren := ⟨fun | 146 => 84 | 221 => 129 | 268 => 161 | 138 => 162 | 143 => 163 | 195 => 190 | 197 => 191 | 218 => 192 | 219 => 193 | 260 => 210 | 217 => 211 | 225 => 212 | 224 => 213 | 267 => 214 | 266 => 225 | 314 => 226 | n => n, fun | 9 => 9 | 31 => 35 | 3 => 3 | 4 => 4 | 0 => 0 | 105 => 201 | 21 => 21 | 5 => 5 | 46 => 217 | 119 => 227 | 139 => 230 | 138 => 229 | 146 => 231 | 51 => 215 | n => n, fun | 1 => 1 | 3 => 4 | 4 => 5 | n => n⟩
theorem Tryz.lays146 : Go.Proofs.Lays.n146 Tryz.prog Tryz.lays146_ren := {
  mixed := by kernel_rfl
  f138 := Tryz.func162.trans (congrArg some (by kernel_rfl))
  f143 := Tryz.func163.trans (congrArg some (by kernel_rfl))
  f146 := Tryz.func84.trans (congrArg some (by kernel_rfl))
  f195 := Tryz.func190.trans (congrArg some (by kernel_rfl))
  f197 := Tryz.func191.trans (congrArg some (by kernel_rfl))
  f217 := Tryz.func211.trans (congrArg some (by kernel_rfl))
  f218 := Tryz.func192.trans (congrArg some (by kernel_rfl))
  f219 := Tryz.func193.trans (congrArg some (by kernel_rfl))
  f221 := Tryz.func129.trans (congrArg some (by kernel_rfl))
  f224 := Tryz.func213.trans (congrArg some (by kernel_rfl))
  f225 := Tryz.func212.trans (congrArg some (by kernel_rfl))
  f260 := Tryz.func210.trans (congrArg some (by kernel_rfl))
  f266 := Tryz.func225.trans (congrArg some (by kernel_rfl))
  f267 := Tryz.func214.trans (congrArg some (by kernel_rfl))
  f268 := Tryz.func161.trans (congrArg some (by kernel_rfl))
  f314 := Tryz.func226.trans (congrArg some (by kernel_rfl))
  t0 := Tryz.underlying0
  a0 := Tryz.isAgg0
  z0 := Tryz.sizeOf0
  v0 := Tryz.zeroValue0
  t3 := Tryz.underlying3
  a3 := Tryz.isAgg3
  z3 := Tryz.sizeOf3
  v3 := Tryz.zeroValue3
  t4 := Tryz.underlying4
  a4 := Tryz.isAgg4
  z4 := Tryz.sizeOf4
  v4 := Tryz.zeroValue4
  t5 := Tryz.underlying5
  a5 := Tryz.isAgg5
  z5 := Tryz.sizeOf5
  v5 := Tryz.zeroValue5
  t9 := Tryz.underlying9
  a9 := Tryz.isAgg9
  z9 := Tryz.sizeOf9
  v9 := Tryz.zeroValue9
  t21 := Tryz.underlying21
  a21 := Tryz.isAgg21
  z21 := Tryz.sizeOf21
  v21 := Tryz.zeroValue21
  t31 := Tryz.underlying35
  a31 := Tryz.isAgg35
  z31 := Tryz.sizeOf35
  v31 := Tryz.zeroValue35
  t46 := Tryz.underlying217
  a46 := Tryz.isAgg217
  z46 := Tryz.sizeOf217
  v46 := Tryz.zeroValue217
  t51 := Tryz.underlying215
  a51 := Tryz.isAgg215
  z51 := Tryz.sizeOf215
  v51 := Tryz.zeroValue215
  t105 := Tryz.underlying201
  a105 := Tryz.isAgg201
  z105 := Tryz.sizeOf201
  v105 := Tryz.zeroValue201
  t119 := Tryz.underlying227
  a119 := Tryz.isAgg227
  z119 := Tryz.sizeOf227
  t138 := Tryz.underlying229
  a138 := Tryz.isAgg229
  z138 := Tryz.sizeOf229
  v138 := Tryz.zeroValue229
  t139 := Tryz.underlying230
  a139 := Tryz.isAgg230
  z139 := Tryz.sizeOf230
  v139 := Tryz.zeroValue230
  t146 := Tryz.underlying231
  a146 := Tryz.isAgg231
  z146 := Tryz.sizeOf231
  v146 := Tryz.zeroValue231
  g1 := by kernel_rfl
  g3 := by kernel_rfl
  g4 := by kernel_rfl }
open Go.RowKit Go.Lib in
theorem Tryz.strings_Split (s sep : ByteArray) (m : Int) (w : World) (hs : s.size < 4294967281) (hm : w.cell? ⟨1, 0, none⟩ = some (.int .i64 m)) (h1 : 1 ≤ sep.size) :
    Calls Tryz.prog 84 #[.string s, .string sep] w fun e w' =>
      e = .returned (.slice (some ⟨w.heap.size, 0, none⟩) (Lib.countB s sep + 1) (Lib.countB s sep + 1)) ∧ w' = w.alloc (.cells ((Lib.splitB sep 0 (Lib.countB s sep) s).map Value.string).toArray 9) := Any.strings_Split Tryz.lays146 (by kernel_rfl) s sep m w hs hm h1
end Go.Proofs
namespace Go.Hp
open Go.RowKit
section
variable {P : Program} {o : Oper} {a : Act} {w0 w : World} {rs : List Res} {Q : Exit → Act → World → Prop} {K : Act → World → Prop}
theorem row_block {e size n c : Nat} {A : Option Addr} {xs : List Value} {B : Nat} (h : (Res.row e size (.slice A n c) n xs).holds B w) (hn : 0 < n) : ∃ g, A = some ⟨g, 0, none⟩ ∧ ∀ j u, xs[j]? = some u → w.cell? ⟨g, j, none⟩ = some u := by
  rcases h.2 with ⟨hv, h0⟩ | ⟨g, cap, cur, hv, hbase, hg, hnc, hcap, hsz, htake⟩
  · omega
  · injection hv with h1
    refine ⟨g, h1, fun j u hj => ?_⟩
    rw [cell_of_row w g j cur e (0, 0) hg]
    rw [← htake, List.getElem?_take] at hj
    split at hj
    · simpa using hj
    · cases hj
end
end Go.Hp
namespace Go.Proofs.YtgcjejajljhnaaaGreatDoor
open Go.RowKit Go.Hp
namespace L
def isDig (c : UInt8) : Bool := decide (48 ≤ c.toNat) && decide (c.toNat ≤ 57)
def val (w : List UInt8) : Nat := w.foldl (fun n c => 10 * n + (c.toNat - 48)) 0
def AllDig (w : List UInt8) : Prop := ∀ c ∈ w, isDig c = true
theorem val_snoc (w : List UInt8) (c : UInt8) : val (w ++ [c]) = 10 * val w + (c.toNat - 48) := by unfold val; rw [List.foldl_append]; rfl
theorem isDig_le {c : UInt8} (h : isDig c = true) : 48 ≤ c.toNat ∧ c.toNat ≤ 57 := by simpa [isDig] using h
theorem snocInd {p : List UInt8 → Prop} (h0 : p []) (h1 : ∀ w c, p w → p (w ++ [c])) : ∀ w, p w := by
  intro w
  rw [← List.reverse_reverse w]
  generalize w.reverse = l
  induction l with
  | nil => exact h0
  | cons c l ih => rw [List.reverse_cons]; exact h1 _ _ ih
theorem AllDig.left {w : List UInt8} {c : UInt8} (h : AllDig (w ++ [c])) : AllDig w := fun x hx => h x (List.mem_append_left _ hx)
theorem val_lt : ∀ w, AllDig w → val w < 10 ^ w.length := by
  refine snocInd (fun _ => by simp [val]) fun w c ih h => ?_
  have h1 := ih h.left
  have h2 := isDig_le (h c (by simp))
  rw [val_snoc, List.length_append, List.length_singleton, Nat.pow_succ]
  omega
theorem val_pos : ∀ w, AllDig w → w.head? ≠ some 48 → w ≠ [] → 1 ≤ val w := by
  refine snocInd (fun _ _ h => absurd rfl h) fun w c ih h hh _ => ?_
  rw [val_snoc]
  have h2 := isDig_le (h c (by simp))
  rcases w with _ | ⟨a, w⟩
  · simp only [List.nil_append, List.head?_cons, ne_eq, Option.some.injEq] at hh
    have : c.toNat ≠ 48 := fun e => hh (UInt8.toNat_inj.1 (by rw [e]; rfl))
    omega
  · have := ih h.left (by simpa using hh) (by simp)
    omega
theorem dig_of (d : Nat) (h : d < 10) : (UInt8.ofNat (48 + d)).toNat = 48 + d := by
  have : (UInt8.ofNat (48 + d)).toNat = (48 + d) % 256 := by simp
  omega
theorem isDig_of (d : Nat) (h : d < 10) : isDig (UInt8.ofNat (48 + d)) = true := by
  have := dig_of d h
  simp [isDig]; omega
theorem dd_small {u : Nat} (h : u < 10) : Lib.decDigits u = [UInt8.ofNat (48 + u)] := by rw [Lib.decDigits, dif_pos h]
theorem dd_big {u : Nat} (h : ¬ u < 10) : Lib.decDigits u = Lib.decDigits (u / 10) ++ [UInt8.ofNat (48 + u % 10)] := by rw [Lib.decDigits, dif_neg h]
theorem dd_all : ∀ u, AllDig (Lib.decDigits u) := by
  intro u
  induction u using Nat.strongRecOn with
  | _ u ih =>
    by_cases h : u < 10
    · rw [dd_small h]; intro c hc; obtain rfl := List.mem_singleton.1 hc; exact isDig_of u h
    · rw [dd_big h]; intro c hc
      rcases List.mem_append.1 hc with hc | hc
      · exact ih (u / 10) (by omega) c hc
      · obtain rfl := List.mem_singleton.1 hc; exact isDig_of (u % 10) (by omega)
theorem val_dd : ∀ u, val (Lib.decDigits u) = u := by
  intro u
  induction u using Nat.strongRecOn with
  | _ u ih =>
    by_cases h : u < 10
    · rw [dd_small h, ← List.nil_append [_], val_snoc, dig_of u h]; simp [val]
    · rw [dd_big h, val_snoc, ih (u / 10) (by omega), dig_of (u % 10) (by omega)]; omega
theorem dd_ne (u : Nat) : Lib.decDigits u ≠ [] := by
  by_cases h : u < 10
  · rw [dd_small h]; simp
  · rw [dd_big h]; simp
theorem dd_head : ∀ u, (Lib.decDigits u).head? = some 48 → u = 0 := by
  intro u
  induction u using Nat.strongRecOn with
  | _ u ih =>
    by_cases h : u < 10
    · rw [dd_small h]
      intro e
      have e1 : UInt8.ofNat (48 + u) = 48 := by simpa using e
      have := dig_of u h
      rw [e1] at this
      have : (48 : UInt8).toNat = 48 := rfl
      omega
    · rw [dd_big h]
      intro e
      have e1 : (Lib.decDigits (u / 10)).head? = some 48 := by
        rcases hd : Lib.decDigits (u / 10) with _ | ⟨a, l⟩
        · exact absurd hd (dd_ne _)
        · rw [hd] at e; simpa using e
      have := ih (u / 10) (by omega) e1
      omega
theorem dd_val : ∀ w, AllDig w → w ≠ [] → (w.head? = some 48 → w.length ≤ 1) → Lib.decDigits (val w) = w := by
  refine snocInd (fun _ h => absurd rfl h) fun w c ih h _ hz => ?_
  rw [val_snoc]
  have h2 := isDig_le (h c (by simp))
  have hc : UInt8.ofNat (48 + (c.toNat - 48)) = c := by
    apply UInt8.toNat_inj.1
    rw [dig_of _ (by omega)]; omega
  rcases w with _ | ⟨a, w⟩
  · have : val ([] : List UInt8) = 0 := rfl
    rw [this, Nat.mul_zero, Nat.zero_add, dd_small (by omega), hc]; rfl
  · have hh : ¬ a = 48 := by
      intro e
      have := hz (by rw [e]; rfl)
      simp at this
    have hp := val_pos (a :: w) h.left (by simpa using hh) (by simp)
    rw [dd_big (by omega), show (10 * val (a :: w) + (c.toNat - 48)) / 10 = val (a :: w) by omega, show (10 * val (a :: w) + (c.toNat - 48)) % 10 = c.toNat - 48 by omega, hc]
    rw [ih h.left (by simp) (fun e => absurd (by simpa using e) hh)]
theorem itoa_nat (n : Nat) : Lib.itoa (n : Int) = Lib.decDigits n := by unfold Lib.itoa; rw [if_neg (by omega), Int.toNat_natCast]
theorem dd_len {u k : Nat} (h : u < 10 ^ k) (h1 : 1 ≤ k) : (Lib.decDigits u).length ≤ k := by
  induction k generalizing u with
  | zero => omega
  | succ k ih =>
    by_cases hu : u < 10
    · rw [dd_small hu]; simp
    · rw [dd_big hu, List.length_append, List.length_singleton]
      have hk : 1 ≤ k := by
        rcases k with _ | k
        · simp at h; omega
        · omega
      have := ih (u := u / 10) (by rw [Nat.pow_succ] at h; omega) hk
      omega
def byt (l : List UInt8) : List Value := l.map fun b => .int .u8 ((b.toNat : Nat) : Int)
theorem byt_append (l m : List UInt8) : byt (l ++ m) = byt l ++ byt m := List.map_append ..
theorem byt_length (l : List UInt8) : (byt l).length = l.length := List.length_map ..
theorem parse_dig : ∀ (l : List UInt8) (acc u : Nat), AllDig l → Lib.parseUint10 acc l = .ok u → u = l.foldl (fun n c => 10 * n + (c.toNat - 48)) acc
  | [], acc, u, _, h => by
    simp only [Lib.parseUint10] at h
    injection h with h
    exact h.symm
  | c :: r, acc, u, hd, h => by
    have hc := isDig_le (hd c (List.mem_cons_self ..))
    simp only [Lib.parseUint10] at h
    rw [if_pos hc] at h
    split at h
    · cases h
    · split at h
      · cases h
      · rw [List.foldl_cons, parse_dig r _ u (fun x hx => hd x (List.mem_cons_of_mem _ hx)) h]
        congr 1
        omega
theorem parse_small : ∀ (l : List UInt8) (acc : Nat), AllDig l → (acc + 1) * 10 ^ l.length ≤ 1000000000000 → ∃ u, Lib.parseUint10 acc l = .ok u
  | [], acc, _, _ => ⟨acc, rfl⟩
  | c :: r, acc, hd, h => by
    have hc := isDig_le (hd c (List.mem_cons_self ..))
    have hp : 1 ≤ 10 ^ r.length := Nat.one_le_pow _ _ (by decide)
    rw [List.length_cons, Nat.pow_succ] at h
    have hb : acc * 10 + (c.toNat - 48) + 1 ≤ (acc + 1) * 10 := by omega
    have h2 : (acc * 10 + (c.toNat - 48) + 1) * 10 ^ r.length ≤ 1000000000000 := by
      refine Nat.le_trans (Nat.mul_le_mul_right _ hb) ?_
      rw [Nat.mul_assoc, Nat.mul_comm 10]
      exact h
    have h3 : acc * 10 + (c.toNat - 48) + 1 ≤ 1000000000000 := Nat.le_trans (Nat.le_mul_of_pos_right _ (by omega)) h2
    simp only [Lib.parseUint10]
    rw [if_pos hc, if_neg (by omega), if_neg (by omega)]
    exact parse_small r _ (fun x hx => hd x (List.mem_cons_of_mem _ hx)) h2
theorem parse_two : ∀ (l : List UInt8) (acc : Nat), AllDig l → (∃ u, Lib.parseUint10 acc l = .ok u) ∨ Lib.parseUint10 acc l = .range
  | [], acc, _ => .inl ⟨acc, rfl⟩
  | c :: r, acc, hd => by
    have hc := isDig_le (hd c (List.mem_cons_self ..))
    simp only [Lib.parseUint10]
    rw [if_pos hc]
    split
    · exact .inr rfl
    · split
      · exact .inr rfl
      · exact parse_two r _ fun x hx => hd x (List.mem_cons_of_mem _ hx)
theorem atoi_dig {w : List UInt8} (hd : AllDig w) (h0 : 0 < w.length) : (∃ u, u = val w ∧ Lib.atoiAll w = .ok (u : Int)) ∨ Lib.atoiAll w = .range ∧ 9 < w.length := by
  rcases w with _ | ⟨c, r⟩
  · simp at h0
  have hc := isDig_le (hd c (List.mem_cons_self ..))
  have e1 : ¬ (c.toNat = 43 ∨ c.toNat = 45) := by omega
  have e2 : ¬ c.toNat = 45 := by omega
  have hmag : Lib.parseMag (c :: r) = Lib.parseUint10 0 (c :: r) := by unfold Lib.parseMag; rw [if_neg (by simp)]
  rcases parse_two (c :: r) 0 hd with ⟨u, hp⟩ | hp
  · have hv := parse_dig _ 0 u hd hp
    have hat : Lib.atoiAll (c :: r) = if 9223372036854775808 ≤ u then .range else .ok (u : Int) := by
      unfold Lib.atoiAll
      simp only [if_neg e1, hmag, hp]
      simp only [e2, not_false_eq_true, true_and, false_and, if_false]
    by_cases hu : 9223372036854775808 ≤ u
    · rw [if_pos hu] at hat
      refine .inr ⟨hat, ?_⟩
      by_cases h9 : 9 < (c :: r).length
      · exact h9
      · have h1 := val_lt (c :: r) hd
        have h2 : 10 ^ (c :: r).length ≤ 10 ^ 9 := Nat.pow_le_pow_right (by decide) (by omega)
        have h3 : (10 : Nat) ^ 9 = 1000000000 := by decide
        have h4 : u = val (c :: r) := hv
        omega
    · rw [if_neg hu] at hat
      exact .inl ⟨u, hv, hat⟩
  · have hat : Lib.atoiAll (c :: r) = .range := by
      unfold Lib.atoiAll
      simp only [if_neg e1, hmag, hp]
    refine .inr ⟨hat, ?_⟩
    by_cases h9 : 9 < (c :: r).length
    · exact h9
    · obtain ⟨u, hu⟩ := parse_small (c :: r) 0 hd (by
        have h2 : 10 ^ (c :: r).length ≤ 10 ^ 9 := Nat.pow_le_pow_right (by decide) (by omega)
        have h3 : (10 : Nat) ^ 9 = 1000000000 := by decide
        omega)
      rw [hp] at hu; cases hu
theorem str_append (x y : List UInt8) : (⟨x.toArray⟩ : ByteArray) ++ ⟨y.toArray⟩ = ⟨(x ++ y).toArray⟩ := by
  apply ByteArray.ext
  simp
def ddz (n : Nat) : List UInt8 := if n = 0 then [] else Lib.decDigits n
theorem ddz_step (n : Nat) (h : 0 < n) (s : List UInt8) : ddz n ++ s = ddz (n / 10) ++ (UInt8.ofNat (48 + n % 10) :: s) := by
  unfold ddz
  rw [if_neg (by omega)]
  by_cases h1 : n < 10
  · rw [dd_small h1, if_pos (by omega), Nat.mod_eq_of_lt h1]; rfl
  · rw [dd_big h1, if_neg (by omega), List.append_assoc]; rfl
end L
instance : SliceT Tryz.prog 117 5 (.int .u8 0) 1 1 := ⟨by kernel_rfl, by kernel_rfl, rfl, by decide⟩
abbrev byteRow (v : Value) (n : Nat) (l : List UInt8) : Res := .row 5 1 v n (L.byt l)
theorem bytes_one (l : List UInt8) : ∀ u ∈ L.byt l, u.oneCell' = true := by
  intro u hu
  obtain ⟨b, _, rfl⟩ := List.mem_map.1 hu
  rfl
theorem byteRow_len {w w0 : World} {rs : List Res} {i n : Nat} {v : Value} {l : List UInt8} (st : St w0 w rs) (hi : rs[i]? = some (byteRow v n l)) : n = l.length := by
  have := (st.get hi).1
  rw [L.byt_length] at this
  omega
section
variable {o : Oper} {a : Act} {w0 w : World} {rs : List Res} {Q : Exit → Act → World → Prop} {K : Act → World → Prop}
theorem run_string {src e dst i n c : Nat} {P : Program} {A : Option Addr} {l : List UInt8} (hs : P.underlying src = some (.slice e)) (he : P.underlying e = some (.int .u8)) (hd : P.underlying dst = some .string) (st : St w0 w rs) (hi : rs[i]? = some (byteRow (.slice A n c) n l)) (hn : 0 < n) :
    (convert src dst (.slice A n c)).run P w = .ok (.string ⟨l.toArray⟩) w := by
  have hl := byteRow_len st hi
  obtain ⟨g, rfl, hc⟩ := row_block (st.get hi) hn
  subst hl
  refine run_convert_bytes_back w src dst e ⟨g, 0, none⟩ c l hs he hd fun j hj => ?_
  rw [add_lit, Nat.zero_add]
  exact hc j _ (by unfold L.byt; rw [List.getElem?_map, List.getElem?_eq_getElem hj]; rfl)
theorem ow_string {n c : Nat} {x : Operand} {A : Option Addr} {l : List UInt8} (i : Nat) (st : St w0 w rs) (ho : o.op = .convert 117 9 x) (hx : a.eval x = .slice A n c) (hi : rs[i]? = some (byteRow (.slice A n c) n l)) (hn : 0 < n)
    (h : K (a.put o.dst (.string ⟨l.toArray⟩)) w) : OW Tryz.prog o a w K Q := by
  refine OW.mk (wp_value ?_ h)
  have := run_string (P := Tryz.prog) (src := 117) (e := 5) (dst := 9) (by kernel_rfl) (by kernel_rfl) (by kernel_rfl) st hi hn
  simp [execOp, ho, hx, this]
end
section
variable {P : Program} {o : Oper} {a : Act} {w : World} {Q : Exit → Act → World → Prop} {K : Act → World → Prop}
theorem ow_cat {t ty : TypeId} {x y : Operand} {l m : List UInt8} (ho : o.op = .binOp .add t x y ty) (hx : a.eval x = .string ⟨l.toArray⟩) (hy : a.eval y = .string ⟨m.toArray⟩) (hlen : (l ++ m).length ≤ 1000000000)
    (h : K (a.put o.dst (.string ⟨(l ++ m).toArray⟩)) w) : OW P o a w K Q := by
  refine OW.mk (wp_value (w' := w) ?_ h)
  have h1 : ((⟨l.toArray⟩ : ByteArray).size + (⟨m.toArray⟩ : ByteArray).size : Nat) = (l ++ m).length := by
    show l.toArray.size + m.toArray.size = _
    simp
  have h2 : ¬ ((((⟨l.toArray⟩ : ByteArray).size + (⟨m.toArray⟩ : ByteArray).size : Nat) : Int) > IntKind.i64.max) := by
    rw [h1]
    have : IntKind.i64.max = 9223372036854775807 := by decide
    rw [this]
    omega
  have h3 : (Op.stringOp .add (⟨l.toArray⟩ : ByteArray) ⟨m.toArray⟩).run P w = .ok (.string ⟨(l ++ m).toArray⟩) w := by
    unfold Op.stringOp
    simp only [if_neg h2, L.str_append]
    rfl
  simp [execOp, ho, hx, hy, binOp_string_add, h3, eqGuard]
end
theorem st_oneByte {w0 w : World} {rs : List Res} {b : Nat} {x : Int} (c : UInt8) (hx : x = (c.toNat : Int)) (st : St w0 w (.box b 5 [.int .u8 x] :: rs)) : St w0 w (byteRow (.slice (some ⟨b, 0, none⟩) 1 1) 1 [c] :: rs) := by
  subst hx
  exact st.toRow (n := 1) (size := 1) rfl (by decide)
structure Env (w : World) : Prop where
  tab : Lib.TabIs Tryz.prog w "internal/strconv.uint64pow10" .u64 Lib.pow10Tab
  max : ∃ m, w.cell? ⟨1, 0, none⟩ = some (.int .i64 m)
  syn : ∃ ev, w.cell? ⟨2, 0, none⟩ = some ev ∧ (ev = .nilIface ∨ ∃ te pe, ev = .iface te pe)
  rng : ∃ ev, w.cell? ⟨3, 0, none⟩ = some ev ∧ (ev = .nilIface ∨ ∃ te pe, ev = .iface te pe)
theorem Env.later {w w' : World} (h : Env w) (hb : Below w.heap.size w w') : Env w' := by
  obtain ⟨h1, ⟨m, h2⟩, ⟨e3, h3, h3'⟩, ⟨e4, h4, h4'⟩⟩ := h
  exact ⟨Go.Joins.tab_stays (g := 0) (by kernel_rfl) h1 hb (Nat.le_refl _), ⟨m, (hb.cell (p := ⟨1, 0, none⟩) (Lib.lt_of_cell h2)).trans h2⟩, ⟨e3, (hb.cell (p := ⟨2, 0, none⟩) (Lib.lt_of_cell h3)).trans h3, h3'⟩, ⟨e4, (hb.cell (p := ⟨3, 0, none⟩) (Lib.lt_of_cell h4)).trans h4, h4'⟩⟩
theorem itoa_env {w : World} (h : Env w) (n : Int) (h0 : -9223372036854775808 ≤ n) (h1 : n ≤ 9223372036854775807) : Calls Tryz.prog 82 #[.int .i64 n] w fun e w' => e = .returned (.string ⟨(Lib.itoa n).toArray⟩) ∧ Below w.heap.size w w' :=
  (Tryz.strconv_Itoa n h0 h1 w h.tab).mono fun e w' ⟨he, k, os, hw⟩ => ⟨he, hw ▸ Lib.below_grow w.heap.size w (Nat.le_refl _) k os⟩
theorem bytes_size (l : List UInt8) : (ByteArray.mk l.toArray).size = l.length := by show l.toArray.size = _; simp
theorem atoi_ok (d : List UInt8) (v : Int) (w : World) (h : Lib.atoiAll d = .ok v) (hl : d.length ≤ 100000) : Calls Tryz.prog 130 #[.string ⟨d.toArray⟩] w fun e w' => e = .returned (.tuple #[.int .i64 v, .nilIface]) ∧ Below w.heap.size w w' := by
  have hz := bytes_size d
  exact (Tryz.strconv_Atoi_ok ⟨d.toArray⟩ (by omega) _ h w).mono fun e w' ⟨h1, h2⟩ => ⟨h1, by
    rcases h2 with rfl | ⟨t, rfl⟩
    · exact Below.refl _ _
    · exact Lib.bytesWorld_below _ _ _⟩
theorem atoi_err (d : List UInt8) (w : World) (h : ∀ v, Lib.atoiAll d ≠ .ok v) (hl : d.length ≤ 100000) (hE : Env w) : Calls Tryz.prog 130 #[.string ⟨d.toArray⟩] w fun e w' => ∃ (v : Int) (te : TypeId) (pe : Value), e = .returned (.tuple #[.int .i64 v, .iface te pe]) ∧ Below w.heap.size w w' := by
  have hz := bytes_size d
  obtain ⟨_, _, ⟨e2, s1, s2⟩, ⟨e3, r1, r2⟩⟩ := hE
  rcases hx : Lib.atoiAll d with v | _ | _
  · exact absurd hx (h v)
  · exact (Any.strconv_Atoi_syntax Tryz.laysC172 ⟨d.toArray⟩ (by omega) hx e2 w s1 s2).mono fun e w' ⟨N, h1, _, _, h4⟩ => ⟨_, _, _, h1, h4⟩
  · exact (Tryz.strconv_Atoi_range ⟨d.toArray⟩ (by omega) hx e3 w r1 r2).mono fun e w' ⟨N, h1, _, _, h4⟩ => ⟨_, _, _, h1, h4⟩
def strs (l : List (List UInt8)) : List Value := l.map fun x => .string ⟨x.toArray⟩
theorem split_any (l : List UInt8) (w : World) (hl : l.length ≤ 100000) (hE : Env w) : Calls Tryz.prog 84 #[.string ⟨l.toArray⟩, .string ⟨#[32]⟩] w fun e w' => ∃ b, e = .returned (.slice (some ⟨b, 0, none⟩) (Lib.split l [32]).length (Lib.split l [32]).length) ∧ St w w' [.box b 9 (strs (Lib.split l [32]))] := by
  obtain ⟨m, hm⟩ := hE.max
  have hlen : (Lib.split l [32]).length = Lib.countB ⟨l.toArray⟩ ⟨#[32]⟩ + 1 := by
    have h1 := Lib.splitB_data ⟨#[32]⟩ 0 (Lib.countB ⟨l.toArray⟩ ⟨#[32]⟩) ⟨l.toArray⟩
    have h2 := congrArg List.length h1
    rw [List.length_map, Lib.splitB_all ⟨#[32]⟩ (by decide) 0 _ _ rfl] at h2
    exact h2.symm
  have hcells : ((Lib.splitB ⟨#[32]⟩ 0 (Lib.countB ⟨l.toArray⟩ ⟨#[32]⟩) ⟨l.toArray⟩).map Value.string) = strs (Lib.split l [32]) := by
    have h1 := Lib.splitB_data ⟨#[32]⟩ 0 (Lib.countB ⟨l.toArray⟩ ⟨#[32]⟩) ⟨l.toArray⟩
    have h2 : Lib.split l [32] = (Lib.splitB ⟨#[32]⟩ 0 (Lib.countB ⟨l.toArray⟩ ⟨#[32]⟩) ⟨l.toArray⟩).map (·.data.toList) := h1.symm
    rw [h2]
    unfold strs
    rw [List.map_map]
    apply List.map_congr_left
    intro x _
    simp only [Function.comp]
  exact (Tryz.strings_Split ⟨l.toArray⟩ ⟨#[32]⟩ m w (by rw [bytes_size]; omega) hm (by decide)).mono fun e w' ⟨h1, h2⟩ => ⟨w.heap.size, by rw [h1, hlen], by
    subst h2
    rw [hcells]
    exact (St.start w).fresh ((Below.refl _ _).alloc (Nat.le_refl _) _) ⟨Nat.le_refl _, heap_alloc_new _ _⟩⟩
namespace L
def n5 (s : List UInt8) : Bool := s.all isDig && decide (0 < s.length) && decide (s.length ≤ 5) && !(s.head? == some 48 && decide (1 < s.length))
theorem n5_iff (s : List UInt8) : n5 s = true ↔ AllDig s ∧ 0 < s.length ∧ s.length ≤ 5 ∧ (s.head? = some 48 → s.length ≤ 1) := by
  unfold n5
  simp only [Bool.and_eq_true, List.all_eq_true, decide_eq_true_eq, Bool.not_eq_true', Bool.and_eq_false_iff, decide_eq_false_iff_not, and_assoc]
  refine and_congr Iff.rfl (and_congr Iff.rfl (and_congr Iff.rfl ?_))
  by_cases h : s.head? = some 48
  · simp [h]
  · simp [h]
theorem n5_itoa {s : List UInt8} (h : n5 s = true) : Lib.atoiAll s = .ok ((val s : Nat) : Int) ∧ Lib.itoa ((val s : Nat) : Int) = s ∧ val s ≤ 99999 := by
  obtain ⟨h1, h2, h3, h4⟩ := (n5_iff s).1 h
  have h5 := val_lt s h1
  have h6 : 10 ^ s.length ≤ 10 ^ 5 := Nat.pow_le_pow_right (by decide) h3
  have h7 : (10 : Nat) ^ 5 = 100000 := by decide
  refine ⟨?_, ?_, by omega⟩
  · rcases atoi_dig h1 h2 with ⟨u, hu, e⟩ | ⟨_, h9⟩
    · rw [e, hu]
    · omega
  · rw [itoa_nat]
    exact dd_val s h1 (by intro e; rw [e] at h2; simp at h2) h4
theorem n5_of {s : List UInt8} {v : Int} (h0 : 0 ≤ v) (h5 : s.length ≤ 5) (h : Lib.itoa v = s) : n5 s = true ∧ v = ((val s : Nat) : Int) := by
  obtain ⟨n, rfl⟩ := Int.eq_ofNat_of_zero_le h0
  rw [itoa_nat] at h
  subst h
  refine ⟨(n5_iff _).2 ⟨dd_all n, List.length_pos_iff.2 (dd_ne n), h5, fun e => ?_⟩, by rw [val_dd]⟩
  have := dd_head n e
  subst this
  rw [dd_small (by decide)]
  simp
theorem n5_cases (s : List UInt8) : (n5 s = true ∧ Lib.atoiAll s = .ok ((val s : Nat) : Int) ∧ Lib.itoa ((val s : Nat) : Int) = s ∧ s.length ≤ 5) ∨ (n5 s = false ∧ ∃ v, Lib.atoiAll s = .ok v ∧ -9223372036854775808 ≤ v ∧ v ≤ 9223372036854775807 ∧ (v < 0 ∨ (0 ≤ v ∧ 5 < s.length) ∨ (0 ≤ v ∧ s.length ≤ 5 ∧ (Lib.itoa v == s) = false))) ∨ (n5 s = false ∧ ∀ v, Lib.atoiAll s ≠ .ok v) := by
  cases hn : n5 s with
  | true =>
    obtain ⟨h1, h2, _⟩ := n5_itoa hn
    exact .inl ⟨rfl, h1, h2, ((n5_iff s).1 hn).2.2.1⟩
  | false =>
    by_cases hv : ∃ v, Lib.atoiAll s = .ok v
    · obtain ⟨v, hv⟩ := hv
      have hb : -9223372036854775808 ≤ v ∧ v ≤ 9223372036854775807 := by
        unfold Lib.atoiAll at hv
        split at hv
        · cases hv
        · simp only at hv
          split at hv
          · cases hv
          · cases hv
          · rename_i u hu
            split at hv
            · cases hv
            · split at hv
              · cases hv
              · rename_i q1 q2
                injection hv with hv
                subst hv
                split <;> omega
      refine .inr (.inl ⟨rfl, v, hv, hb.1, hb.2, ?_⟩)
      by_cases h0 : v < 0
      · exact .inl h0
      · by_cases h5 : 5 < s.length
        · exact .inr (.inl ⟨by omega, h5⟩)
        · refine .inr (.inr ⟨by omega, by omega, ?_⟩)
          rw [beq_eq_false_iff_ne]
          intro e
          rw [(n5_of (by omega) (by omega) e).1] at hn
          cases hn
    · exact .inr (.inr ⟨rfl, fun v e => hv ⟨v, e⟩⟩)
end L
end Go.Proofs.YtgcjejajljhnaaaGreatDoor
namespace Go.Proofs.YtgcjejajljhnaaaGreatDoor
open Go.RowKit Go.Hp
theorem Size_any (n : Int) (w : World) (h0 : -1000 ≤ n) (h1 : n ≤ 1000) :
    Calls Tryz.prog 128 #[.int .i64 n] w fun e w' => e = .returned (.int .i64 (n.natAbs : Nat)) ∧ w = w' := by
  have HN := Lib.hid (show max n (-n) = ((n.natAbs : Nat) : Int) by omega)
  go_enter Tryz.func128, Tryz.ntmps128
  go_wp2
  go_ret
  exact ⟨by show Ending.returned (.int .i64 (max n (-n))) = _; rw [HN.out], rfl⟩
theorem itoa_neg {n : Int} (h : n < 0) : Lib.itoa n = 45 :: L.ddz n.natAbs := by
  unfold Lib.itoa L.ddz
  rw [if_pos h, if_neg (by omega)]
theorem itoa_pos {n : Int} (h : 0 < n) : Lib.itoa n = L.ddz n.natAbs := by
  unfold Lib.itoa L.ddz
  rw [if_neg (by omega), if_neg (by omega), show n.toNat = n.natAbs by omega]
theorem ddz_len (n : Nat) (h : n < 100000000000000000000) : (L.ddz n).length ≤ 20 := by
  unfold L.ddz
  split
  · simp
  · exact L.dd_len (k := 20) (by have : (10 : Nat) ^ 20 = 100000000000000000000 := by decide
                                 omega) (by decide)
set_option maxHeartbeats 2000000 in
theorem Decimal_any (n : Int) (w : World) (h0 : -9223372036854775808 ≤ n) (h1 : n ≤ 9223372036854775807) :
    Calls Tryz.prog 83 #[.int .i64 n] w fun e w' => e = .returned (.string ⟨(Lib.itoa n).toArray⟩) ∧ Below w.heap.size w w' := by
  have st := St.start w
  by_cases hz : n = 0
  · subst hz
    go_enter Tryz.func83, Tryz.ntmps83
    go_wp2_with (refine WL.out ?_; (repeat (first | (refine WL.op ?_ ?_; (first | exact rfl | (simp [Region.wanted, yielded, *] <;> done) | (simp [Region.wanted, yielded] <;> omega)); intro K hK; (first | ((first | ((with_reducible apply ow_move); exact rfl) | ((with_reducible apply ow_assign); exact rfl)); (go_simp <;> (try simp (disch := omega) only [wrap_id, sub_left, zac]) <;> rfl)) | ((first | ((with_reducible apply ow_load1 st); exact rfl; exact inferInstance; exact rfl; (first | exact get0 | exact get1 | exact get2 | exact get3 | exact get4 | exact get5 | exact get6 | exact get7)) | ((with_reducible apply ow_loadN st); exact rfl; exact inferInstance; exact rfl; (first | exact get0 | exact get1 | exact get2 | exact get3 | exact get4 | exact get5 | exact get6 | exact get7); ((try simp only [zta, ztz, zda, zdz, zca, zcn, zan, zsz, zss]) <;> exact rfl))); exact rfl) | ((first | ((with_reducible apply ow_box st); exact rfl; (go_simp <;> (try simp (disch := omega) only [wrap_id, sub_left, zac]) <;> rfl); (go_simp <;> (try simp (disch := omega) only [wrap_id, sub_left, zac]) <;> rfl)) | ((with_reducible apply ow_newSlice st); exact rfl; (go_simp <;> (try simp (disch := omega) only [wrap_id, sub_left, zac]) <;> rfl); exact rfl) | ((with_reducible apply ow_alloc st); exact rfl; exact inferInstance; (go_simp <;> (try simp (disch := omega) only [wrap_id, sub_left, zac]) <;> rfl))); (try clear st); intro b w' st) | ((first | ((with_reducible apply ow_store1' st); exact rfl; exact inferInstance; exact rfl; (first | exact get0 | exact get1 | exact get2 | exact get3 | exact get4 | exact get5 | exact get6 | exact get7); (go_simp <;> (try simp (disch := omega) only [wrap_id, sub_left, zac]) <;> rfl)) | ((with_reducible apply ow_storeN' st); exact rfl; exact inferInstance; exact rfl; (first | exact get0 | exact get1 | exact get2 | exact get3 | exact get4 | exact get5 | exact get6 | exact get7); exact rfl)); exact rfl; exact rfl; (simp <;> done); ((try simp only [zta, ztz, zda, zdz, zca, zcn, zan, zsz, zss]) <;> exact rfl); (try clear st); intro w' st) | ((with_reducible apply ow_old1 st); exact rfl; exact inferInstance; exact rfl; assumption; assumption) | ((with_reducible apply ow_old4 st); exact rfl; exact inferInstance; exact rfl; assumption; assumption; assumption; assumption; assumption) | fail | ((with_reducible apply ow_eval); (go_simp <;> (try simp (disch := omega) only [wrap_id, sub_left, zac]) <;> rfl); first | (with_reducible apply up_value) | (with_reducible apply up_skip) | ((with_reducible apply up_enter); first | fail))); refine WL.next hK (by simp only [Act.put, zpt, zsz, zss]; exact rfl) ?_; clear hK K) | (refine WL.skip ?_ (by simp only [Act.put, zpt, zsz, zss]; exact rfl) ?_; (first | exact rfl | (simp [Region.wanted, yielded, *] <;> done) | (simp [Region.wanted, yielded] <;> omega))))); (try refine WL.nil ?_))
    go_ret
    have e0 : Lib.itoa 0 = [48] := by rw [show ((0 : Int)) = ((0 : Nat) : Int) from rfl, L.itoa_nat, L.dd_small (by decide)]; rfl
    exact ⟨by rw [e0]; rfl, st.below⟩
  · have hz1 : (n == 0) = false := by rw [beq_eq_false_iff_ne]; exact hz
    have HL := Lib.hid (ddz_len n.natAbs (by omega))
    have HN := Lib.hid (And.intro h0 h1)
    obtain ⟨N, hN⟩ : ∃ N, N = n.natAbs := ⟨_, rfl⟩
    rw [← hN] at HL
    have HNN := Lib.hid hN
    have hN20 : N ≤ 9223372036854775808 := by omega
    clear h0 h1 hN
    by_cases hneg : n < 0
    all_goals
      have HG := Lib.hid hneg
      go_enter Tryz.func83, Tryz.ntmps83
      go_wp2_with (refine WL.out ?_; (repeat (first | (refine WL.op ?_ ?_; (first | exact rfl | (simp [Region.wanted, yielded, *] <;> done) | (simp [Region.wanted, yielded] <;> omega)); intro K hK; (first | ((first | ((with_reducible apply ow_move); exact rfl) | ((with_reducible apply ow_assign); exact rfl)); (go_simp <;> (try simp (disch := omega) only [wrap_id, sub_left, zac]) <;> rfl)) | ((first | ((with_reducible apply ow_load1 st); exact rfl; exact inferInstance; exact rfl; (first | exact get0 | exact get1 | exact get2 | exact get3 | exact get4 | exact get5 | exact get6 | exact get7)) | ((with_reducible apply ow_loadN st); exact rfl; exact inferInstance; exact rfl; (first | exact get0 | exact get1 | exact get2 | exact get3 | exact get4 | exact get5 | exact get6 | exact get7); ((try simp only [zta, ztz, zda, zdz, zca, zcn, zan, zsz, zss]) <;> exact rfl))); exact rfl) | ((first | ((with_reducible apply ow_box st); exact rfl; (go_simp <;> (try simp (disch := omega) only [wrap_id, sub_left, zac]) <;> rfl); (go_simp <;> (try simp (disch := omega) only [wrap_id, sub_left, zac]) <;> rfl)) | ((with_reducible apply ow_newSlice st); exact rfl; (go_simp <;> (try simp (disch := omega) only [wrap_id, sub_left, zac]) <;> rfl); exact rfl) | ((with_reducible apply ow_alloc st); exact rfl; exact inferInstance; (go_simp <;> (try simp (disch := omega) only [wrap_id, sub_left, zac]) <;> rfl))); (try clear st); intro b w' st) | ((first | ((with_reducible apply ow_store1' st); exact rfl; exact inferInstance; exact rfl; (first | exact get0 | exact get1 | exact get2 | exact get3 | exact get4 | exact get5 | exact get6 | exact get7); (go_simp <;> (try simp (disch := omega) only [wrap_id, sub_left, zac]) <;> rfl)) | ((with_reducible apply ow_storeN' st); exact rfl; exact inferInstance; exact rfl; (first | exact get0 | exact get1 | exact get2 | exact get3 | exact get4 | exact get5 | exact get6 | exact get7); exact rfl)); exact rfl; exact rfl; (simp <;> done); ((try simp only [zta, ztz, zda, zdz, zca, zcn, zan, zsz, zss]) <;> exact rfl); (try clear st); intro w' st) | ((with_reducible apply ow_old1 st); exact rfl; exact inferInstance; exact rfl; assumption; assumption) | ((with_reducible apply ow_old4 st); exact rfl; exact inferInstance; exact rfl; assumption; assumption; assumption; assumption; assumption) | fail | ((with_reducible apply ow_eval); (go_simp <;> (try simp (disch := omega) only [wrap_id, sub_left, zac]) <;> rfl); first | (with_reducible apply up_value) | (with_reducible apply up_skip) | ((with_reducible apply up_enter); first | fail))); refine WL.next hK (by simp only [Act.put, zpt, zsz, zss]; exact rfl) ?_; clear hK K) | (refine WL.skip ?_ (by simp only [Act.put, zpt, zsz, zss]; exact rfl) ?_; (first | exact rfl | (simp [Region.wanted, yielded, *] <;> done) | (simp [Region.wanted, yielded] <;> omega))))); (try refine WL.nil ?_))
      go_loopw [0, 3] (fun x v wr => ∃ (m : Int) (s : List UInt8), m.natAbs ≤ N ∧ x = .int .i64 m ∧ v = .string ⟨s.toArray⟩ ∧ Hid (L.ddz N = L.ddz m.natAbs ++ s) ∧ St w wr []) (fun x _ _ => (intOf x).natAbs)
      case atStart => exact ⟨n, [], by rw [HNN.out]; exact Nat.le_refl _, rfl, rfl, Lib.hid (by rw [HNN.out]; simp), st⟩
      case round =>
        clear st
        obtain ⟨m, s, hm, rfl, rfl, hs, st⟩ := hrel
        by_cases h0 : m = 0
        · subst h0
          have hs' : Hid (L.ddz N = s) := Lib.hid (by rw [hs.out]; rfl)
          have hln : s.length ≤ 20 := by have h1 := HL.out; rw [hs'.out] at h1; omega
          go_wp2_with (refine WL.out ?_; (repeat (first | (refine WL.op ?_ ?_; (first | exact rfl | (simp [Region.wanted, yielded, *] <;> done) | (simp [Region.wanted, yielded] <;> omega)); intro K hK; (first | ((first | ((with_reducible apply ow_move); exact rfl) | ((with_reducible apply ow_assign); exact rfl)); (go_simp <;> (try simp (disch := omega) only [wrap_id, sub_left, zac]) <;> rfl)) | ((first | ((with_reducible apply ow_load1 st); exact rfl; exact inferInstance; exact rfl; (first | exact get0 | exact get1 | exact get2 | exact get3 | exact get4 | exact get5 | exact get6 | exact get7)) | ((with_reducible apply ow_loadN st); exact rfl; exact inferInstance; exact rfl; (first | exact get0 | exact get1 | exact get2 | exact get3 | exact get4 | exact get5 | exact get6 | exact get7); ((try simp only [zta, ztz, zda, zdz, zca, zcn, zan, zsz, zss]) <;> exact rfl))); exact rfl) | ((first | ((with_reducible apply ow_box st); exact rfl; (go_simp <;> (try simp (disch := omega) only [wrap_id, sub_left, zac]) <;> rfl); (go_simp <;> (try simp (disch := omega) only [wrap_id, sub_left, zac]) <;> rfl)) | ((with_reducible apply ow_newSlice st); exact rfl; (go_simp <;> (try simp (disch := omega) only [wrap_id, sub_left, zac]) <;> rfl); exact rfl) | ((with_reducible apply ow_alloc st); exact rfl; exact inferInstance; (go_simp <;> (try simp (disch := omega) only [wrap_id, sub_left, zac]) <;> rfl))); (try clear st); intro b w' st) | ((first | ((with_reducible apply ow_store1' st); exact rfl; exact inferInstance; exact rfl; (first | exact get0 | exact get1 | exact get2 | exact get3 | exact get4 | exact get5 | exact get6 | exact get7); (go_simp <;> (try simp (disch := omega) only [wrap_id, sub_left, zac]) <;> rfl)) | ((with_reducible apply ow_storeN' st); exact rfl; exact inferInstance; exact rfl; (first | exact get0 | exact get1 | exact get2 | exact get3 | exact get4 | exact get5 | exact get6 | exact get7); exact rfl)); exact rfl; exact rfl; (simp <;> done); ((try simp only [zta, ztz, zda, zdz, zca, zcn, zan, zsz, zss]) <;> exact rfl); (try clear st); intro w' st) | ((with_reducible apply ow_old1 st); exact rfl; exact inferInstance; exact rfl; assumption; assumption) | ((with_reducible apply ow_old4 st); exact rfl; exact inferInstance; exact rfl; assumption; assumption; assumption; assumption; assumption) | ((with_reducible apply ow_cat); exact rfl; exact rfl; exact rfl; (focus (simp only [List.length_append, List.length_cons, List.length_nil]; omega))) | ((with_reducible apply ow_eval); (go_simp <;> (try simp (disch := omega) only [wrap_id, sub_left, zac]) <;> rfl); first | (with_reducible apply up_value) | (with_reducible apply up_skip) | ((with_reducible apply up_enter); first | fail))); refine WL.next hK (by simp only [Act.put, zpt, zsz, zss]; exact rfl) ?_; clear hK K) | (refine WL.skip ?_ (by simp only [Act.put, zpt, zsz, zss]; exact rfl) ?_; (first | exact rfl | (simp [Region.wanted, yielded, *] <;> done) | (simp [Region.wanted, yielded] <;> omega))))); (try refine WL.nil ?_))
          go_ret
          first
            | exact ⟨by rw [itoa_neg HG.out, ← HNN.out, hs'.out]; rfl, st.below⟩
            | exact ⟨by rw [itoa_pos (by have := HG.out; omega), ← HNN.out, hs'.out]; rfl, st.below⟩
        · have hs' := Lib.hid (hs.out.trans (L.ddz_step m.natAbs (by omega) s))
          have hln : s.length ≤ 20 := by have h1 := HL.out; rw [hs.out, List.length_append] at h1; omega
          have hm1 : (m == 0) = false := by rw [beq_eq_false_iff_ne]; exact h0
          have hda : (m.tmod 10).natAbs = m.natAbs % 10 := by rw [Int.natAbs_tmod]; rfl
          have hqa : (m.tdiv 10).natAbs = m.natAbs / 10 := by rw [Int.natAbs_tdiv]; rfl
          have hdb : -1000 ≤ m.tmod 10 ∧ m.tmod 10 ≤ 1000 := by omega
          have HM := Lib.hid h0
          obtain ⟨d, hd⟩ : ∃ d, d = m.tmod 10 := ⟨_, rfl⟩
          obtain ⟨q, hq⟩ : ∃ q, q = m.tdiv 10 := ⟨_, rfl⟩
          rw [← hd] at hda hdb
          rw [← hq] at hqa
          have hmd : m.tmod 10 = d := hd.symm
          have hqd : m.tdiv 10 = q := hq.symm
          have hcb := Lib.hid (show IntKind.u8.wrap (48 + ((d.natAbs : Nat) : Int)) = ((UInt8.ofNat (48 + m.natAbs % 10)).toNat : Int) by
            have hw : IntKind.u8.wrap (48 + ((d.natAbs : Nat) : Int)) = (48 + ((d.natAbs : Nat) : Int)) % 256 := by simp [IntKind.wrap, IntKind.bits, IntKind.signed]
            rw [L.dig_of _ (by omega), hw]
            omega)
          obtain ⟨c, hc⟩ : ∃ c, UInt8.ofNat (48 + m.natAbs % 10) = c := ⟨_, rfl⟩
          rw [hc] at hs' hcb
          have hqN : q.natAbs ≤ N := by omega
          have hqm : q.natAbs < m.natAbs := by omega
          have hs2 : Hid (L.ddz N = L.ddz q.natAbs ++ c :: s) := Lib.hid (by rw [hs'.out, hqa])
          have HQ := Lib.hid (And.intro hqN hqm)
          have hqb0 : -9223372036854775808 ≤ q := by omega
          have hqb1 : q ≤ 9223372036854775807 := by omega
          obtain ⟨e, he⟩ : ∃ e : Nat, e = d.natAbs := ⟨_, rfl⟩
          rw [← he] at hcb
          have HS : Hid (∀ W, Calls Tryz.prog 128 #[.int .i64 d] W fun x w' => x = .returned (.int .i64 (e : Nat)) ∧ W = w') := Lib.hid fun W => by rw [he]; exact Size_any d W hdb.1 hdb.2
          have hee : e ≤ 9 := by omega
          clear hd hq hc hda hqa hdb hqN hqm he h0
          go_wp2_with (refine WL.out ?_; (repeat (first | (refine WL.op ?_ ?_; (first | exact rfl | (simp [Region.wanted, yielded, *] <;> done) | (simp [Region.wanted, yielded] <;> omega)); intro K hK; (first | ((first | ((with_reducible apply ow_move); exact rfl) | ((with_reducible apply ow_assign); exact rfl)); (go_simp <;> (try simp (disch := omega) only [wrap_id, sub_left, zac]) <;> rfl)) | ((first | ((with_reducible apply ow_load1 st); exact rfl; exact inferInstance; exact rfl; (first | exact get0 | exact get1 | exact get2 | exact get3 | exact get4 | exact get5 | exact get6 | exact get7)) | ((with_reducible apply ow_loadN st); exact rfl; exact inferInstance; exact rfl; (first | exact get0 | exact get1 | exact get2 | exact get3 | exact get4 | exact get5 | exact get6 | exact get7); ((try simp only [zta, ztz, zda, zdz, zca, zcn, zan, zsz, zss]) <;> exact rfl))); exact rfl) | ((first | ((with_reducible apply ow_box st); exact rfl; (go_simp <;> (try simp (disch := omega) only [wrap_id, sub_left, zac]) <;> rfl); (go_simp <;> (try simp (disch := omega) only [wrap_id, sub_left, zac]) <;> rfl)) | ((with_reducible apply ow_newSlice st); exact rfl; (go_simp <;> (try simp (disch := omega) only [wrap_id, sub_left, zac]) <;> rfl); exact rfl) | ((with_reducible apply ow_alloc st); exact rfl; exact inferInstance; (go_simp <;> (try simp (disch := omega) only [wrap_id, sub_left, zac]) <;> rfl))); (try clear st); intro b w' st) | ((first | ((with_reducible apply ow_store1' st); exact rfl; exact inferInstance; exact rfl; (first | exact get0 | exact get1 | exact get2 | exact get3 | exact get4 | exact get5 | exact get6 | exact get7); (go_simp <;> (try simp (disch := omega) only [wrap_id, sub_left, zac]) <;> rfl)) | ((with_reducible apply ow_storeN' st); exact rfl; exact inferInstance; exact rfl; (first | exact get0 | exact get1 | exact get2 | exact get3 | exact get4 | exact get5 | exact get6 | exact get7); exact rfl)); exact rfl; exact rfl; (simp <;> done); ((try simp only [zta, ztz, zda, zdz, zca, zcn, zan, zsz, zss]) <;> exact rfl); (try clear st); intro w' st) | ((with_reducible apply ow_old1 st); exact rfl; exact inferInstance; exact rfl; assumption; assumption) | ((with_reducible apply ow_old4 st); exact rfl; exact inferInstance; exact rfl; assumption; assumption; assumption; assumption; assumption) | ((with_reducible apply ow_cat); exact rfl; exact rfl; exact rfl; (focus (simp only [List.length_append, List.length_cons, List.length_nil]; omega))) | ((with_reducible apply ow_string 0 (st_oneByte _ hcb.out st)); exact rfl; exact rfl; exact rfl; exact (by decide)) | ((with_reducible apply ow_eval); (go_simp <;> (try simp (disch := omega) only [wrap_id, sub_left, zac]) <;> rfl); first | (with_reducible apply up_value) | (with_reducible apply up_skip) | ((with_reducible apply up_enter); first | (go_at_call 128; refine (HS.out _).mono ?_; rintro e w' ⟨rfl, rfl⟩; refine ⟨_, rfl, ?_⟩)))); refine WL.next hK (by simp only [Act.put, zpt, zsz, zss]; exact rfl) ?_; clear hK K) | (refine WL.skip ?_ (by simp only [Act.put, zpt, zsz, zss]; exact rfl) ?_; (first | exact rfl | (simp [Region.wanted, yielded, *] <;> done) | (simp [Region.wanted, yielded] <;> omega))))); (try refine WL.nil ?_))
          exact ⟨⟨q, c :: s, HQ.out.1, rfl, rfl, hs2, st.tail⟩, by simpa [intOf] using HQ.out.2⟩
set_option maxRecDepth 8000 in
set_option maxHeartbeats 2000000 in
theorem number_any (s : List UInt8) (w : World) (hl : s.length ≤ 100000) (hE : Env w) : Calls Tryz.prog 85 #[.string ⟨s.toArray⟩] w fun e w' => ∃ v : Int, (L.n5 s = true → v = ((L.val s : Nat) : Int)) ∧ e = .returned (.tuple #[.int .i64 v, .bool (L.n5 s)]) ∧ Below w.heap.size w w' := by
  have hsz := bytes_size
  have HE := Lib.hid hE
  have st := St.start w
  clear hE
  rcases L.n5_cases s with ⟨hn, ha, hi, h5⟩ | ⟨hn, v, ha, hv0, hv1, hc⟩ | ⟨hn, ha⟩
  · have HN := Lib.hid hn
    have HA := Lib.hid (fun W => atoi_ok s _ W ha hl)
    obtain ⟨v, hv⟩ : ∃ v : Int, v = ((L.val s : Nat) : Int) := ⟨_, rfl⟩
    rw [← hv] at HA hi
    have hv0 : 0 ≤ v := by omega
    have hv9 : v ≤ 99999 := by have := (L.n5_itoa hn).2.2; omega
    have HI : Hid (∀ W, Below w.heap.size w W → Calls Tryz.prog 82 #[.int .i64 v] W fun e w' => e = .returned (.string ⟨s.toArray⟩) ∧ Below W.heap.size W w') := Lib.hid fun W hb => by
      have := itoa_env (HE.out.later hb) v (by omega) (by omega)
      rwa [hi] at this
    have HV := Lib.hid hv
    clear hn ha hi hv
    have h5' : (s.length : Int) ≤ 5 := by omega
    go_enter Tryz.func85, Tryz.ntmps85
    go_wp2_with (refine WL.out ?_; (repeat (first | (refine WL.op ?_ ?_; (first | exact rfl | (simp [Region.wanted, yielded, *] <;> done) | (simp [Region.wanted, yielded] <;> omega)); intro K hK; (first | ((first | ((with_reducible apply ow_move); exact rfl) | ((with_reducible apply ow_assign); exact rfl)); (go_simp <;> (try simp (disch := omega) only [wrap_id, sub_left, zac]) <;> rfl)) | ((first | ((with_reducible apply ow_load1 st); exact rfl; exact inferInstance; exact rfl; (first | exact get0 | exact get1 | exact get2 | exact get3 | exact get4 | exact get5 | exact get6 | exact get7)) | ((with_reducible apply ow_loadN st); exact rfl; exact inferInstance; exact rfl; (first | exact get0 | exact get1 | exact get2 | exact get3 | exact get4 | exact get5 | exact get6 | exact get7); ((try simp only [zta, ztz, zda, zdz, zca, zcn, zan, zsz, zss]) <;> exact rfl))); exact rfl) | ((first | ((with_reducible apply ow_box st); exact rfl; (go_simp <;> (try simp (disch := omega) only [wrap_id, sub_left, zac]) <;> rfl); (go_simp <;> (try simp (disch := omega) only [wrap_id, sub_left, zac]) <;> rfl)) | ((with_reducible apply ow_newSlice st); exact rfl; (go_simp <;> (try simp (disch := omega) only [wrap_id, sub_left, zac]) <;> rfl); exact rfl) | ((with_reducible apply ow_alloc st); exact rfl; exact inferInstance; (go_simp <;> (try simp (disch := omega) only [wrap_id, sub_left, zac]) <;> rfl))); (try clear st); intro b w' st) | ((first | ((with_reducible apply ow_store1' st); exact rfl; exact inferInstance; exact rfl; (first | exact get0 | exact get1 | exact get2 | exact get3 | exact get4 | exact get5 | exact get6 | exact get7); (go_simp <;> (try simp (disch := omega) only [wrap_id, sub_left, zac]) <;> rfl)) | ((with_reducible apply ow_storeN' st); exact rfl; exact inferInstance; exact rfl; (first | exact get0 | exact get1 | exact get2 | exact get3 | exact get4 | exact get5 | exact get6 | exact get7); exact rfl)); exact rfl; exact rfl; (simp <;> done); ((try simp only [zta, ztz, zda, zdz, zca, zcn, zan, zsz, zss]) <;> exact rfl); (try clear st); intro w' st) | ((with_reducible apply ow_old1 st); exact rfl; exact inferInstance; exact rfl; assumption; assumption) | ((with_reducible apply ow_old4 st); exact rfl; exact inferInstance; exact rfl; assumption; assumption; assumption; assumption; assumption) | fail | ((with_reducible apply ow_eval); (go_simp <;> (try simp (disch := omega) only [wrap_id, sub_left, zac]) <;> rfl); first | (with_reducible apply up_value) | (with_reducible apply up_skip) | ((with_reducible apply up_enter); first | (go_at_call 130; refine (HA.out _).mono ?_; rintro e w' ⟨rfl, hb⟩; replace st := st.call hb; clear hb; refine ⟨_, rfl, ?_⟩) | (go_at_call 82; refine (HI.out _ st.below).mono ?_; rintro e w' ⟨rfl, hb⟩; replace st := st.call hb; clear hb; refine ⟨_, rfl, ?_⟩)))); refine WL.next hK (by simp only [Act.put, zpt, zsz, zss]; exact rfl) ?_; clear hK K) | (refine WL.skip ?_ (by simp only [Act.put, zpt, zsz, zss]; exact rfl) ?_; (first | exact rfl | (simp [Region.wanted, yielded, *] <;> done) | (simp [Region.wanted, yielded] <;> omega))))); (try refine WL.nil ?_))
    go_ret2
    exact ⟨v, fun _ => HV.out, by rw [HN.out]; rfl, st.below⟩
  · have HN := Lib.hid hn
    have HA := Lib.hid (fun W => atoi_ok s v W ha hl)
    have no : ∀ u : Int, (L.n5 s = true → u = ((L.val s : Nat) : Int)) := fun u h => by rw [hn] at h; cases h
    have NO := Lib.hid no
    clear hn ha no
    rcases hc with h | ⟨h, h5⟩ | ⟨h, h5, hi⟩
    · have hv : ¬ (0 : Int) ≤ v := by omega
      clear h hv0 hv1
      go_enter Tryz.func85, Tryz.ntmps85
      go_wp2_with (refine WL.out ?_; (repeat (first | (refine WL.op ?_ ?_; (first | exact rfl | (simp [Region.wanted, yielded, *] <;> done) | (simp [Region.wanted, yielded] <;> omega)); intro K hK; (first | ((first | ((with_reducible apply ow_move); exact rfl) | ((with_reducible apply ow_assign); exact rfl)); (go_simp <;> (try simp (disch := omega) only [wrap_id, sub_left, zac]) <;> rfl)) | ((first | ((with_reducible apply ow_load1 st); exact rfl; exact inferInstance; exact rfl; (first | exact get0 | exact get1 | exact get2 | exact get3 | exact get4 | exact get5 | exact get6 | exact get7)) | ((with_reducible apply ow_loadN st); exact rfl; exact inferInstance; exact rfl; (first | exact get0 | exact get1 | exact get2 | exact get3 | exact get4 | exact get5 | exact get6 | exact get7); ((try simp only [zta, ztz, zda, zdz, zca, zcn, zan, zsz, zss]) <;> exact rfl))); exact rfl) | ((first | ((with_reducible apply ow_box st); exact rfl; (go_simp <;> (try simp (disch := omega) only [wrap_id, sub_left, zac]) <;> rfl); (go_simp <;> (try simp (disch := omega) only [wrap_id, sub_left, zac]) <;> rfl)) | ((with_reducible apply ow_newSlice st); exact rfl; (go_simp <;> (try simp (disch := omega) only [wrap_id, sub_left, zac]) <;> rfl); exact rfl) | ((with_reducible apply ow_alloc st); exact rfl; exact inferInstance; (go_simp <;> (try simp (disch := omega) only [wrap_id, sub_left, zac]) <;> rfl))); (try clear st); intro b w' st) | ((first | ((with_reducible apply ow_store1' st); exact rfl; exact inferInstance; exact rfl; (first | exact get0 | exact get1 | exact get2 | exact get3 | exact get4 | exact get5 | exact get6 | exact get7); (go_simp <;> (try simp (disch := omega) only [wrap_id, sub_left, zac]) <;> rfl)) | ((with_reducible apply ow_storeN' st); exact rfl; exact inferInstance; exact rfl; (first | exact get0 | exact get1 | exact get2 | exact get3 | exact get4 | exact get5 | exact get6 | exact get7); exact rfl)); exact rfl; exact rfl; (simp <;> done); ((try simp only [zta, ztz, zda, zdz, zca, zcn, zan, zsz, zss]) <;> exact rfl); (try clear st); intro w' st) | ((with_reducible apply ow_old1 st); exact rfl; exact inferInstance; exact rfl; assumption; assumption) | ((with_reducible apply ow_old4 st); exact rfl; exact inferInstance; exact rfl; assumption; assumption; assumption; assumption; assumption) | fail | ((with_reducible apply ow_eval); (go_simp <;> (try simp (disch := omega) only [wrap_id, sub_left, zac]) <;> rfl); first | (with_reducible apply up_value) | (with_reducible apply up_skip) | ((with_reducible apply up_enter); first | (go_at_call 130; refine (HA.out _).mono ?_; rintro e w' ⟨rfl, hb⟩; replace st := st.call hb; clear hb; refine ⟨_, rfl, ?_⟩)))); refine WL.next hK (by simp only [Act.put, zpt, zsz, zss]; exact rfl) ?_; clear hK K) | (refine WL.skip ?_ (by simp only [Act.put, zpt, zsz, zss]; exact rfl) ?_; (first | exact rfl | (simp [Region.wanted, yielded, *] <;> done) | (simp [Region.wanted, yielded] <;> omega))))); (try refine WL.nil ?_))
      go_ret2
      exact ⟨v, NO.out v, by rw [HN.out]; rfl, st.below⟩
    · have h5' : ¬ (s.length : Int) ≤ 5 := by omega
      clear h5
      go_enter Tryz.func85, Tryz.ntmps85
      go_wp2_with (refine WL.out ?_; (repeat (first | (refine WL.op ?_ ?_; (first | exact rfl | (simp [Region.wanted, yielded, *] <;> done) | (simp [Region.wanted, yielded] <;> omega)); intro K hK; (first | ((first | ((with_reducible apply ow_move); exact rfl) | ((with_reducible apply ow_assign); exact rfl)); (go_simp <;> (try simp (disch := omega) only [wrap_id, sub_left, zac]) <;> rfl)) | ((first | ((with_reducible apply ow_load1 st); exact rfl; exact inferInstance; exact rfl; (first | exact get0 | exact get1 | exact get2 | exact get3 | exact get4 | exact get5 | exact get6 | exact get7)) | ((with_reducible apply ow_loadN st); exact rfl; exact inferInstance; exact rfl; (first | exact get0 | exact get1 | exact get2 | exact get3 | exact get4 | exact get5 | exact get6 | exact get7); ((try simp only [zta, ztz, zda, zdz, zca, zcn, zan, zsz, zss]) <;> exact rfl))); exact rfl) | ((first | ((with_reducible apply ow_box st); exact rfl; (go_simp <;> (try simp (disch := omega) only [wrap_id, sub_left, zac]) <;> rfl); (go_simp <;> (try simp (disch := omega) only [wrap_id, sub_left, zac]) <;> rfl)) | ((with_reducible apply ow_newSlice st); exact rfl; (go_simp <;> (try simp (disch := omega) only [wrap_id, sub_left, zac]) <;> rfl); exact rfl) | ((with_reducible apply ow_alloc st); exact rfl; exact inferInstance; (go_simp <;> (try simp (disch := omega) only [wrap_id, sub_left, zac]) <;> rfl))); (try clear st); intro b w' st) | ((first | ((with_reducible apply ow_store1' st); exact rfl; exact inferInstance; exact rfl; (first | exact get0 | exact get1 | exact get2 | exact get3 | exact get4 | exact get5 | exact get6 | exact get7); (go_simp <;> (try simp (disch := omega) only [wrap_id, sub_left, zac]) <;> rfl)) | ((with_reducible apply ow_storeN' st); exact rfl; exact inferInstance; exact rfl; (first | exact get0 | exact get1 | exact get2 | exact get3 | exact get4 | exact get5 | exact get6 | exact get7); exact rfl)); exact rfl; exact rfl; (simp <;> done); ((try simp only [zta, ztz, zda, zdz, zca, zcn, zan, zsz, zss]) <;> exact rfl); (try clear st); intro w' st) | ((with_reducible apply ow_old1 st); exact rfl; exact inferInstance; exact rfl; assumption; assumption) | ((with_reducible apply ow_old4 st); exact rfl; exact inferInstance; exact rfl; assumption; assumption; assumption; assumption; assumption) | fail | ((with_reducible apply ow_eval); (go_simp <;> (try simp (disch := omega) only [wrap_id, sub_left, zac]) <;> rfl); first | (with_reducible apply up_value) | (with_reducible apply up_skip) | ((with_reducible apply up_enter); first | (go_at_call 130; refine (HA.out _).mono ?_; rintro e w' ⟨rfl, hb⟩; replace st := st.call hb; clear hb; refine ⟨_, rfl, ?_⟩)))); refine WL.next hK (by simp only [Act.put, zpt, zsz, zss]; exact rfl) ?_; clear hK K) | (refine WL.skip ?_ (by simp only [Act.put, zpt, zsz, zss]; exact rfl) ?_; (first | exact rfl | (simp [Region.wanted, yielded, *] <;> done) | (simp [Region.wanted, yielded] <;> omega))))); (try refine WL.nil ?_))
      go_ret2
      exact ⟨v, NO.out v, by rw [HN.out]; rfl, st.below⟩
    · have h5' : (s.length : Int) ≤ 5 := by omega
      clear h5
      have HI : Hid (∀ W, Below w.heap.size w W → Calls Tryz.prog 82 #[.int .i64 v] W fun e w' => e = .returned (.string ⟨(Lib.itoa v).toArray⟩) ∧ Below W.heap.size W w') := Lib.hid fun W hb => itoa_env (HE.out.later hb) v hv0 hv1
      obtain ⟨t, ht⟩ : ∃ t, t = Lib.itoa v := ⟨_, rfl⟩
      rw [← ht] at HI hi
      clear ht hv0 hv1
      go_enter Tryz.func85, Tryz.ntmps85
      go_wp2_with (refine WL.out ?_; (repeat (first | (refine WL.op ?_ ?_; (first | exact rfl | (simp [Region.wanted, yielded, *] <;> done) | (simp [Region.wanted, yielded] <;> omega)); intro K hK; (first | ((first | ((with_reducible apply ow_move); exact rfl) | ((with_reducible apply ow_assign); exact rfl)); (go_simp <;> (try simp (disch := omega) only [wrap_id, sub_left, zac]) <;> rfl)) | ((first | ((with_reducible apply ow_load1 st); exact rfl; exact inferInstance; exact rfl; (first | exact get0 | exact get1 | exact get2 | exact get3 | exact get4 | exact get5 | exact get6 | exact get7)) | ((with_reducible apply ow_loadN st); exact rfl; exact inferInstance; exact rfl; (first | exact get0 | exact get1 | exact get2 | exact get3 | exact get4 | exact get5 | exact get6 | exact get7); ((try simp only [zta, ztz, zda, zdz, zca, zcn, zan, zsz, zss]) <;> exact rfl))); exact rfl) | ((first | ((with_reducible apply ow_box st); exact rfl; (go_simp <;> (try simp (disch := omega) only [wrap_id, sub_left, zac]) <;> rfl); (go_simp <;> (try simp (disch := omega) only [wrap_id, sub_left, zac]) <;> rfl)) | ((with_reducible apply ow_newSlice st); exact rfl; (go_simp <;> (try simp (disch := omega) only [wrap_id, sub_left, zac]) <;> rfl); exact rfl) | ((with_reducible apply ow_alloc st); exact rfl; exact inferInstance; (go_simp <;> (try simp (disch := omega) only [wrap_id, sub_left, zac]) <;> rfl))); (try clear st); intro b w' st) | ((first | ((with_reducible apply ow_store1' st); exact rfl; exact inferInstance; exact rfl; (first | exact get0 | exact get1 | exact get2 | exact get3 | exact get4 | exact get5 | exact get6 | exact get7); (go_simp <;> (try simp (disch := omega) only [wrap_id, sub_left, zac]) <;> rfl)) | ((with_reducible apply ow_storeN' st); exact rfl; exact inferInstance; exact rfl; (first | exact get0 | exact get1 | exact get2 | exact get3 | exact get4 | exact get5 | exact get6 | exact get7); exact rfl)); exact rfl; exact rfl; (simp <;> done); ((try simp only [zta, ztz, zda, zdz, zca, zcn, zan, zsz, zss]) <;> exact rfl); (try clear st); intro w' st) | ((with_reducible apply ow_old1 st); exact rfl; exact inferInstance; exact rfl; assumption; assumption) | ((with_reducible apply ow_old4 st); exact rfl; exact inferInstance; exact rfl; assumption; assumption; assumption; assumption; assumption) | fail | ((with_reducible apply ow_eval); (go_simp <;> (try simp (disch := omega) only [wrap_id, sub_left, zac]) <;> rfl); first | (with_reducible apply up_value) | (with_reducible apply up_skip) | ((with_reducible apply up_enter); first | (go_at_call 130; refine (HA.out _).mono ?_; rintro e w' ⟨rfl, hb⟩; replace st := st.call hb; clear hb; refine ⟨_, rfl, ?_⟩) | (go_at_call 82; refine (HI.out _ st.below).mono ?_; rintro e w' ⟨rfl, hb⟩; replace st := st.call hb; clear hb; refine ⟨_, rfl, ?_⟩)))); refine WL.next hK (by simp only [Act.put, zpt, zsz, zss]; exact rfl) ?_; clear hK K) | (refine WL.skip ?_ (by simp only [Act.put, zpt, zsz, zss]; exact rfl) ?_; (first | exact rfl | (simp [Region.wanted, yielded, *] <;> done) | (simp [Region.wanted, yielded] <;> omega))))); (try refine WL.nil ?_))
      go_ret2
      exact ⟨v, NO.out v, by rw [HN.out]; rfl, st.below⟩
  · have HN := Lib.hid hn
    have no : ∀ u : Int, (L.n5 s = true → u = ((L.val s : Nat) : Int)) := fun u h => by rw [hn] at h; cases h
    have NO := Lib.hid no
    have HA := Lib.hid ha
    clear hn ha no
    go_enter Tryz.func85, Tryz.ntmps85
    go_wp2_with (refine WL.out ?_; (repeat (first | (refine WL.op ?_ ?_; (first | exact rfl | (simp [Region.wanted, yielded, *] <;> done) | (simp [Region.wanted, yielded] <;> omega)); intro K hK; (first | ((first | ((with_reducible apply ow_move); exact rfl) | ((with_reducible apply ow_assign); exact rfl)); (go_simp <;> (try simp (disch := omega) only [wrap_id, sub_left, zac]) <;> rfl)) | ((first | ((with_reducible apply ow_load1 st); exact rfl; exact inferInstance; exact rfl; (first | exact get0 | exact get1 | exact get2 | exact get3 | exact get4 | exact get5 | exact get6 | exact get7)) | ((with_reducible apply ow_loadN st); exact rfl; exact inferInstance; exact rfl; (first | exact get0 | exact get1 | exact get2 | exact get3 | exact get4 | exact get5 | exact get6 | exact get7); ((try simp only [zta, ztz, zda, zdz, zca, zcn, zan, zsz, zss]) <;> exact rfl))); exact rfl) | ((first | ((with_reducible apply ow_box st); exact rfl; (go_simp <;> (try simp (disch := omega) only [wrap_id, sub_left, zac]) <;> rfl); (go_simp <;> (try simp (disch := omega) only [wrap_id, sub_left, zac]) <;> rfl)) | ((with_reducible apply ow_newSlice st); exact rfl; (go_simp <;> (try simp (disch := omega) only [wrap_id, sub_left, zac]) <;> rfl); exact rfl) | ((with_reducible apply ow_alloc st); exact rfl; exact inferInstance; (go_simp <;> (try simp (disch := omega) only [wrap_id, sub_left, zac]) <;> rfl))); (try clear st); intro b w' st) | ((first | ((with_reducible apply ow_store1' st); exact rfl; exact inferInstance; exact rfl; (first | exact get0 | exact get1 | exact get2 | exact get3 | exact get4 | exact get5 | exact get6 | exact get7); (go_simp <;> (try simp (disch := omega) only [wrap_id, sub_left, zac]) <;> rfl)) | ((with_reducible apply ow_storeN' st); exact rfl; exact inferInstance; exact rfl; (first | exact get0 | exact get1 | exact get2 | exact get3 | exact get4 | exact get5 | exact get6 | exact get7); exact rfl)); exact rfl; exact rfl; (simp <;> done); ((try simp only [zta, ztz, zda, zdz, zca, zcn, zan, zsz, zss]) <;> exact rfl); (try clear st); intro w' st) | ((with_reducible apply ow_old1 st); exact rfl; exact inferInstance; exact rfl; assumption; assumption) | ((with_reducible apply ow_old4 st); exact rfl; exact inferInstance; exact rfl; assumption; assumption; assumption; assumption; assumption) | fail | ((with_reducible apply ow_eval); (go_simp <;> (try simp (disch := omega) only [wrap_id, sub_left, zac]) <;> rfl); first | (with_reducible apply up_value) | (with_reducible apply up_skip) | ((with_reducible apply up_enter); first | (go_at_call 130; ((with_reducible refine (atoi_err s _ HA.out hl (HE.out.later st.below)).mono ?_)); rintro e w' ⟨v5, te5, pe5, rfl, hb⟩; replace st := st.call hb; clear hb; refine ⟨_, rfl, ?_⟩)))); refine WL.next hK (by simp only [Act.put, zpt, zsz, zss]; exact rfl) ?_; clear hK K) | (refine WL.skip ?_ (by simp only [Act.put, zpt, zsz, zss]; exact rfl) ?_; (first | exact rfl | (simp [Region.wanted, yielded, *] <;> done) | (simp [Region.wanted, yielded] <;> omega))))); (try refine WL.nil ?_))
    go_ret2
    exact ⟨v5, NO.out v5, by rw [HN.out]; rfl, st.below⟩
end Go.Proofs.YtgcjejajljhnaaaGreatDoor
namespace Go.Proofs.YtgcjejajljhnaaaGreatDoor
open Go.RowKit Go.Hp
namespace L
theorem pre1 (c b : UInt8) (l : List UInt8) : [c].isPrefixOf (b :: l) = (c == b) := by simp [List.isPrefixOf]
theorem index_app (c : UInt8) : ∀ (p r : List UInt8), c ∉ p → Lib.index (p ++ c :: r) [c] = p.length
  | [], r, _ => by rw [List.nil_append]; unfold Lib.index; rw [pre1]; simp
  | a :: p, r, h => by
    have ih := index_app c p r fun hx => h (List.mem_cons_of_mem _ hx)
    have hne : ¬ (c == a) = true := fun e => h (by have : c = a := by simpa using e
                                                   subst this; exact List.mem_cons_self ..)
    rw [List.cons_append]
    unfold Lib.index
    rw [pre1, if_neg hne, ih, if_neg (by simp), List.length_cons]
    push_cast; rfl
theorem index_not (c : UInt8) : ∀ (s : List UInt8), c ∉ s → Lib.index s [c] = -1
  | [], _ => by simp [Lib.index]
  | a :: p, h => by
    have ih := index_not c p fun hx => h (List.mem_cons_of_mem _ hx)
    have hne : ¬ (c == a) = true := fun e => h (by have : c = a := by simpa using e
                                                   subst this; exact List.mem_cons_self ..)
    unfold Lib.index
    rw [pre1, if_neg hne, ih]; rfl
theorem cut_app (c : UInt8) (p r : List UInt8) (h : c ∉ p) : Lib.cut (p ++ c :: r) [c] = (p, r, true) := by
  unfold Lib.cut
  rw [index_app c p r h, if_pos (by omega)]
  simp
theorem cut_not (c : UInt8) (s : List UInt8) (h : c ∉ s) : Lib.cut s [c] = (s, [], false) := by
  unfold Lib.cut
  rw [index_not c s h]; rfl
theorem split_not (c : UInt8) (s : List UInt8) (h : c ∉ s) : Lib.split s [c] = [s] := by
  unfold Lib.split
  rw [Lib.count_miss (index_not c s h)]; rfl
theorem split_app (c : UInt8) (p r : List UInt8) (h : c ∉ p) : Lib.split (p ++ c :: r) [c] = p :: Lib.split r [c] := by
  have hi := index_app c p r h
  unfold Lib.split
  rw [Lib.count_hit (by simp) hi, Nat.add_comm]
  have h1 : (p ++ c :: r).take p.length = p := by simp
  have h2 : (p ++ c :: r).drop (p.length + 1) = r := by rw [List.drop_append, List.drop_eq_nil_of_le (by omega), show p.length + 1 - p.length = 1 by omega]; rfl
  rw [Lib.splitK, hi, if_neg (by simp)]
  simp only [Int.toNat_natCast, Nat.add_zero, List.length_singleton, h1, h2]
theorem mem_parts {c : UInt8} {s : List UInt8} (h : c ∈ s) : ∃ p r, s = p ++ c :: r ∧ c ∉ p := by
  induction s with
  | nil => cases h
  | cons a l ih =>
    by_cases e : c = a
    · subst e; exact ⟨[], l, rfl, by simp⟩
    · obtain ⟨p, r, h1, h2⟩ := ih (by rcases List.mem_cons.1 h with h | h
                                      · exact absurd h e
                                      · exact h)
      exact ⟨a :: p, r, by rw [h1]; rfl, by simp [e, h2]⟩
theorem split_or (c : UInt8) (s : List UInt8) : (c ∉ s ∧ Lib.split s [c] = [s]) ∨ ∃ p r, s = p ++ c :: r ∧ c ∉ p ∧ Lib.split s [c] = p :: Lib.split r [c] := by
  by_cases h : c ∈ s
  · obtain ⟨p, r, rfl, hp⟩ := mem_parts h
    exact .inr ⟨p, r, rfl, hp, split_app c p r hp⟩
  · exact .inl ⟨h, split_not c s h⟩
def cutL (c : UInt8) : List UInt8 → List (List UInt8)
  | [] => [[]]
  | x :: r => if x = c then [] :: cutL c r else match cutL c r with
    | [] => [[x]]
    | p :: ps => (x :: p) :: ps
theorem cutL_not (c : UInt8) : ∀ (s : List UInt8), c ∉ s → cutL c s = [s]
  | [], _ => rfl
  | x :: r, h => by
    have h1 : x ≠ c := fun e => h (by simp [e])
    have h2 := cutL_not c r fun hx => h (List.mem_cons_of_mem _ hx)
    unfold cutL
    rw [if_neg h1, h2]
theorem cutL_app (c : UInt8) : ∀ (p r : List UInt8), c ∉ p → cutL c (p ++ c :: r) = p :: cutL c r
  | [], r, _ => by show cutL c (c :: r) = _; unfold cutL; rw [if_pos rfl]; cases r <;> rfl
  | x :: p, r, h => by
    have h1 : x ≠ c := fun e => h (by simp [e])
    have h2 := cutL_app c p r fun hx => h (List.mem_cons_of_mem _ hx)
    show cutL c (x :: (p ++ c :: r)) = _
    rw [cutL, if_neg h1, h2]
theorem cutL_split (c : UInt8) : ∀ (n : Nat) (s : List UInt8), s.length ≤ n → Lib.split s [c] = cutL c s := by
  intro n
  induction n with
  | zero =>
    intro s h
    obtain rfl := List.eq_nil_of_length_eq_zero (Nat.le_zero.1 h)
    rw [split_not c [] (by simp)]
    rfl
  | succ n ih =>
    intro s h
    rcases split_or c s with ⟨h1, h2⟩ | ⟨p, r, rfl, hp, h2⟩
    · rw [h2, cutL_not c s h1]
    · rw [h2, cutL_app c p r hp, ih r (by simp at h; omega)]
theorem cutL_le (c : UInt8) : ∀ (s : List UInt8) (p : List UInt8), p ∈ cutL c s → p.length ≤ s.length
  | [], p, h => by obtain rfl := List.mem_singleton.1 h; exact Nat.le_refl _
  | x :: r, p, h => by
    unfold cutL at h
    split at h
    · rcases List.mem_cons.1 h with rfl | h
      · simp
      · have := cutL_le c r p h
        simp only [List.length_cons]; omega
    · split at h
      · obtain rfl := List.mem_singleton.1 h
        simp
      · rename_i q ps hq
        rcases List.mem_cons.1 h with rfl | h
        · have := cutL_le c r q (by rw [hq]; simp)
          simp only [List.length_cons]; omega
        · have := cutL_le c r p (by rw [hq]; simp [h])
          simp only [List.length_cons]; omega
theorem cutL_len (c : UInt8) : ∀ (s : List UInt8), 0 < (cutL c s).length ∧ (cutL c s).length ≤ s.length + 1
  | [] => by simp [cutL]
  | x :: r => by
    have := cutL_len c r
    unfold cutL
    split
    · simp only [List.length_cons]; omega
    · split
      · simp
      · rename_i q ps hq
        rw [hq] at this
        simp only [List.length_cons] at this ⊢; omega
structure CutAt (c : UInt8) (s : List UInt8) (f i : Nat) (O : List (List UInt8)) : Prop where
  fi : f ≤ i
  il : i ≤ s.length
  eq : cutL c s = O ++ cutL c (s.drop f)
  no : c ∉ (s.drop f).take (i - f)
theorem CutAt.zero (c : UInt8) (s : List UInt8) : CutAt c s 0 0 [] := ⟨Nat.le_refl _, Nat.zero_le _, rfl, by simp⟩
theorem CutAt.parts {c : UInt8} {s : List UInt8} {f i : Nat} {O : List (List UInt8)} (h : CutAt c s f i O) (hi : i < s.length) : s.drop f = (s.drop f).take (i - f) ++ s[i] :: s.drop (i + 1) := by
  have h1 := List.take_append_drop (i - f) (s.drop f)
  rw [List.drop_drop, show f + (i - f) = i by have := h.fi; omega, List.drop_eq_getElem_cons hi] at h1
  exact h1.symm
theorem CutAt.hit {c : UInt8} {s : List UInt8} {f i : Nat} {O : List (List UInt8)} (h : CutAt c s f i O) (hi : i < s.length) (hc : s[i] = c) : CutAt c s (i + 1) (i + 1) (O ++ [(s.drop f).take (i - f)]) := by
  refine ⟨Nat.le_refl _, hi, ?_, by simp⟩
  rw [h.eq]
  have h1 := h.parts hi
  rw [hc] at h1
  conv => lhs; rw [h1]
  rw [cutL_app c _ _ h.no, List.append_assoc]
  rfl
theorem CutAt.miss {c : UInt8} {s : List UInt8} {f i : Nat} {O : List (List UInt8)} (h : CutAt c s f i O) (hi : i < s.length) (hc : s[i] ≠ c) : CutAt c s f (i + 1) O := by
  refine ⟨by have := h.fi; omega, hi, h.eq, ?_⟩
  have hfi := h.fi
  have e : (s.drop f).take (i + 1 - f) = (s.drop f).take (i - f) ++ [s[i]] := by
    rw [show i + 1 - f = (i - f) + 1 by omega, List.take_succ_eq_append_getElem (by rw [List.length_drop]; omega)]
    congr 2
    rw [List.getElem_drop]
    congr 1
    omega
  rw [e]
  intro hm
  rcases List.mem_append.1 hm with hm | hm
  · exact h.no hm
  · exact hc (List.mem_singleton.1 hm).symm
theorem CutAt.done {c : UInt8} {s : List UInt8} {f i : Nat} {O : List (List UInt8)} (h : CutAt c s f i O) (hi : i = s.length) : cutL c s = O ++ [s.drop f] := by
  rw [h.eq]
  have := h.no
  rw [List.take_of_length_le (by rw [List.length_drop]; omega)] at this
  rw [cutL_not c _ this]
theorem CutAt.len {c : UInt8} {s : List UInt8} {f i : Nat} {O : List (List UInt8)} (h : CutAt c s f i O) : O.length ≤ s.length := by
  have h1 := (cutL_len c s).2
  have h2 := (cutL_len c (s.drop f)).1
  rw [h.eq, List.length_append] at h1
  omega
end L
theorem strs_app (a b : List (List UInt8)) : strs (a ++ b) = strs a ++ strs b := List.map_append ..
theorem strs_len (a : List (List UInt8)) : (strs a).length = a.length := List.length_map ..
theorem strs_one (l : List (List UInt8)) : ∀ u ∈ strs l, u.oneCell' = true := by
  intro u hu
  obtain ⟨b, _, rfl⟩ := List.mem_map.1 hu
  rfl
instance sliceStr : SliceT Tryz.prog 35 9 (.string ⟨#[]⟩) 1 16 := ⟨by kernel_rfl, by kernel_rfl, rfl, by decide⟩
theorem bytes_list (l : List UInt8) : (ByteArray.mk l.toArray).toList = l := by rw [Lib.toList_data]
theorem extract_mk (l : List UInt8) (i j : Nat) : (ByteArray.mk l.toArray).extract i j = ⟨((l.drop i).take (j - i)).toArray⟩ := Lib.extract_eq _ _ _
section
variable {P : Program} {ops : Array Oper} {o : Oper} {a : Act} {w0 w : World} {rs : List Res} {Q : Exit → Act → World → Prop} {K : Act → World → Prop}
theorem run_sub {t : TypeId} {k k' : IntKind} {l : List UInt8} {i j : Nat} (ht : P.underlying t = some .string) (hij : i ≤ j) (hj : j ≤ l.length) :
    (Instr.sliceAt t (.string ⟨l.toArray⟩) (some (.int k (i : Int))) (some (.int k' (j : Int))) none).run P w = .ok (.string ⟨((l.drop i).take (j - i)).toArray⟩) w := by
  have hs := bytes_size l
  rw [run_sliceAt_string w t _ _ _ _ ht, run_slice_string_if w t _ _ _ _ _ ht, if_pos ⟨by omega, by omega⟩, if_pos ⟨by omega, by omega⟩, extract_mk]
  simp
theorem run_from {t : TypeId} {k : IntKind} {l : List UInt8} {i : Nat} (ht : P.underlying t = some .string) (hi : i ≤ l.length) :
    (Instr.sliceAt t (.string ⟨l.toArray⟩) (some (.int k (i : Int))) none none).run P w = .ok (.string ⟨(l.drop i).toArray⟩) w := by
  have hs := bytes_size l
  rw [run_sliceAt_string w t _ _ _ _ ht, run_slice_string_l w t _ ht _ _ (by omega) (by omega), hs, extract_mk]
  rw [List.take_of_length_le (by simp)]
  simp
theorem run_to {t : TypeId} {k : IntKind} {l : List UInt8} {j : Nat} (ht : P.underlying t = some .string) (hj : j ≤ l.length) :
    (Instr.sliceAt t (.string ⟨l.toArray⟩) none (some (.int k (j : Int))) none).run P w = .ok (.string ⟨(l.take j).toArray⟩) w := by
  have hs := bytes_size l
  rw [run_sliceAt_string w t _ _ _ _ ht, run_slice_string_h w t _ ht _ _ (by omega) (by omega), extract_mk]
  simp
theorem ow_sub {t : TypeId} {x y z : Operand} {k k' : IntKind} {l : List UInt8} {iv jv : Int} {i j : Nat} (ho : o.op = .slice t x (some y) (some z) none) (ht : P.underlying t = some .string) (hx : a.eval x = .string ⟨l.toArray⟩) (hy : a.eval y = .int k iv) (hz : a.eval z = .int k' jv)
    (hi : iv = (i : Int)) (hj : jv = (j : Int)) (hij : i ≤ j) (hjl : j ≤ l.length) (h : K (a.put o.dst (.string ⟨((l.drop i).take (j - i)).toArray⟩)) w) : OW P o a w K Q := by
  subst hi hj
  refine OW.mk (wp_value ?_ h)
  simp [execOp, ho, hx, hy, hz, run_sub (P := P) (k := k) (k' := k') ht hij hjl]
theorem ow_from {t : TypeId} {x y : Operand} {k : IntKind} {l : List UInt8} {iv : Int} {i : Nat} (ho : o.op = .slice t x (some y) none none) (ht : P.underlying t = some .string) (hx : a.eval x = .string ⟨l.toArray⟩) (hy : a.eval y = .int k iv) (hi : iv = (i : Int)) (hil : i ≤ l.length)
    (h : K (a.put o.dst (.string ⟨(l.drop i).toArray⟩)) w) : OW P o a w K Q := by
  subst hi
  refine OW.mk (wp_value ?_ h)
  simp [execOp, ho, hx, hy, run_from (P := P) (k := k) ht hil]
theorem ow_to {t : TypeId} {x y : Operand} {k : IntKind} {l : List UInt8} {jv : Int} {j : Nat} (ho : o.op = .slice t x none (some y) none) (ht : P.underlying t = some .string) (hx : a.eval x = .string ⟨l.toArray⟩) (hy : a.eval y = .int k jv) (hj : jv = (j : Int)) (hjl : j ≤ l.length)
    (h : K (a.put o.dst (.string ⟨(l.take j).toArray⟩)) w) : OW P o a w K Q := by
  subst hj
  refine OW.mk (wp_value ?_ h)
  simp [execOp, ho, hx, hy, run_to (P := P) (k := k) ht hjl]
theorem Yphi.from {t : TypeId} {x y : Operand} {k : IntKind} {l : List UInt8} {iv : Int} {i : Nat} (hw : Region.wanted o (yielded ops a.tmps) = true) (ho : o.op = .slice t x (some y) none none) (ht : P.underlying t = some .string) (hx : a.eval x = .string ⟨l.toArray⟩) (hy : a.eval y = .int k iv) (hi : iv = (i : Int)) (hil : i ≤ l.length) :
    Yphi P ops o a w (isV (.string ⟨(l.drop i).toArray⟩)) := .inl ⟨hw, (ow_from ho ht hx hy hi hil ⟨_, rfl, Below.refl _ _, rfl⟩).out⟩
theorem Yphi.sub {t : TypeId} {x y z : Operand} {k k' : IntKind} {l : List UInt8} {iv jv : Int} {i j : Nat} (hw : Region.wanted o (yielded ops a.tmps) = true) (ho : o.op = .slice t x (some y) (some z) none) (ht : P.underlying t = some .string) (hx : a.eval x = .string ⟨l.toArray⟩) (hy : a.eval y = .int k iv) (hz : a.eval z = .int k' jv)
    (hi : iv = (i : Int)) (hj : jv = (j : Int)) (hij : i ≤ j) (hjl : j ≤ l.length) : Yphi P ops o a w (isV (.string ⟨((l.drop i).take (j - i)).toArray⟩)) := .inl ⟨hw, (ow_sub ho ht hx hy hz hi hj hij hjl ⟨_, rfl, Below.refl _ _, rfl⟩).out⟩
end
abbrev strRow (v : Value) (n : Nat) (l : List (List UInt8)) : Res := .row 9 1 v n (strs l)
set_option maxHeartbeats 2000000 in
theorem Cut_any (s : List UInt8) (c : UInt8) (w : World) (hl : s.length ≤ 100000) :
    Calls Tryz.prog 86 #[.string ⟨s.toArray⟩, .int .u8 (c.toNat : Int)] w fun e w' => ∃ A cap, e = .returned (.slice A (L.cutL c s).length cap) ∧ St w w' [strRow (.slice A (L.cutL c s).length cap) (L.cutL c s).length (L.cutL c s)] := by
  have hsz := bytes_size
  have st := St.start w
  go_enter Tryz.func86, Tryz.ntmps86
  go_wp2_with (refine WL.out ?_; (repeat (first | (refine WL.op ?_ ?_; (first | exact rfl | (simp [Region.wanted, yielded, *] <;> done) | (simp [Region.wanted, yielded] <;> omega)); intro K hK; (first | ((first | ((with_reducible apply ow_move); exact rfl) | ((with_reducible apply ow_assign); exact rfl)); (go_simp <;> (try simp (disch := omega) only [wrap_id, sub_left, zac]) <;> rfl)) | ((first | ((with_reducible apply ow_load1 st); exact rfl; exact inferInstance; exact rfl; (first | exact get0 | exact get1 | exact get2 | exact get3 | exact get4 | exact get5 | exact get6 | exact get7)) | ((with_reducible apply ow_loadN st); exact rfl; exact inferInstance; exact rfl; (first | exact get0 | exact get1 | exact get2 | exact get3 | exact get4 | exact get5 | exact get6 | exact get7); ((try simp only [zta, ztz, zda, zdz, zca, zcn, zan, zsz, zss]) <;> exact rfl))); exact rfl) | ((first | ((with_reducible apply ow_box st); exact rfl; (go_simp <;> (try simp (disch := omega) only [wrap_id, sub_left, zac]) <;> rfl); (go_simp <;> (try simp (disch := omega) only [wrap_id, sub_left, zac]) <;> rfl)) | ((with_reducible apply ow_newSlice st); exact rfl; (go_simp <;> (try simp (disch := omega) only [wrap_id, sub_left, zac]) <;> rfl); exact rfl) | ((with_reducible apply ow_alloc st); exact rfl; exact inferInstance; (go_simp <;> (try simp (disch := omega) only [wrap_id, sub_left, zac]) <;> rfl))); (try clear st); intro b w' st) | ((first | ((with_reducible apply ow_store1' st); exact rfl; exact inferInstance; exact rfl; (first | exact get0 | exact get1 | exact get2 | exact get3 | exact get4 | exact get5 | exact get6 | exact get7); (go_simp <;> (try simp (disch := omega) only [wrap_id, sub_left, zac]) <;> rfl)) | ((with_reducible apply ow_storeN' st); exact rfl; exact inferInstance; exact rfl; (first | exact get0 | exact get1 | exact get2 | exact get3 | exact get4 | exact get5 | exact get6 | exact get7); exact rfl)); exact rfl; exact rfl; (simp <;> done); ((try simp only [zta, ztz, zda, zdz, zca, zcn, zan, zsz, zss]) <;> exact rfl); (try clear st); intro w' st) | ((with_reducible apply ow_old1 st); exact rfl; exact inferInstance; exact rfl; assumption; assumption) | ((with_reducible apply ow_old4 st); exact rfl; exact inferInstance; exact rfl; assumption; assumption; assumption; assumption; assumption) | fail | ((with_reducible apply ow_eval); (go_simp <;> (try simp (disch := omega) only [wrap_id, sub_left, zac]) <;> rfl); first | (with_reducible apply up_value) | (with_reducible apply up_skip) | ((with_reducible apply up_enter); first | fail))); refine WL.next hK (by simp only [Act.put, zpt, zsz, zss]; exact rfl) ?_; clear hK K) | (refine WL.skip ?_ (by simp only [Act.put, zpt, zsz, zss]; exact rfl) ?_; (first | exact rfl | (simp [Region.wanted, yielded, *] <;> done) | (simp [Region.wanted, yielded] <;> omega))))); (try refine WL.nil ?_))
  have st := st.nilRow 9 1
  go_loopw [5, 6, 7] (fun v fv iv wr => ∃ (f i : Nat) (O : List (List UInt8)) (A : Option Addr) (cap : Nat), fv = .int .i64 f ∧ iv = .int .i64 i ∧ v = .slice A O.length cap ∧ Hid (L.CutAt c s f i O) ∧ St w wr [strRow (.slice A O.length cap) O.length O]) (fun _ _ i _ => s.length - (intOf i).toNat)
  case atStart => exact ⟨0, 0, [], none, 0, rfl, rfl, rfl, Lib.hid (L.CutAt.zero c s), st⟩
  case round =>
    clear st
    obtain ⟨f, i, O, A, cap, rfl, rfl, rfl, hc, st⟩ := hrel
    have hfi := hc.out.fi
    have hil := hc.out.il
    have hO := hc.out.len
    obtain ⟨n, hn⟩ : ∃ n, n = O.length := ⟨_, rfl⟩
    rw [← hn] at st hO ⊢
    have HN := Lib.hid hn
    clear hn
    by_cases hlt : i < s.length
    · have hat : Ck.at_ 0 s i = s[i] := Ck.at_eq 0 s i hlt
      by_cases he : s[i] = c
      · have hc2 := Lib.hid (hc.out.hit hlt he)
        have heq : (((Ck.at_ 0 s i).toNat : Int) == (c.toNat : Int)) = true := by rw [hat, he]; simp
        obtain ⟨p, hp⟩ : ∃ p, p = (s.drop f).take (i - f) := ⟨_, rfl⟩
        rw [← hp] at hc2
        have hpp : (s.drop f).take (i - f) = p := hp.symm
        clear hp hat he
        go_wp2_with (refine WL.out ?_; (repeat (first | (refine WL.op ?_ ?_; (first | exact rfl | (simp [Region.wanted, yielded, *] <;> done) | (simp [Region.wanted, yielded] <;> omega)); intro K hK; (first | ((first | ((with_reducible apply ow_move); exact rfl) | ((with_reducible apply ow_assign); exact rfl)); (go_simp <;> (try simp (disch := omega) only [wrap_id, sub_left, zac]) <;> rfl)) | ((first | ((with_reducible apply ow_load1 st); exact rfl; exact inferInstance; exact rfl; (first | exact get0 | exact get1 | exact get2 | exact get3 | exact get4 | exact get5 | exact get6 | exact get7)) | ((with_reducible apply ow_loadN st); exact rfl; exact inferInstance; exact rfl; (first | exact get0 | exact get1 | exact get2 | exact get3 | exact get4 | exact get5 | exact get6 | exact get7); ((try simp only [zta, ztz, zda, zdz, zca, zcn, zan, zsz, zss]) <;> exact rfl))); exact rfl) | ((first | ((with_reducible apply ow_box st); exact rfl; (go_simp <;> (try simp (disch := omega) only [wrap_id, sub_left, zac]) <;> rfl); (go_simp <;> (try simp (disch := omega) only [wrap_id, sub_left, zac]) <;> rfl)) | ((with_reducible apply ow_newSlice st); exact rfl; (go_simp <;> (try simp (disch := omega) only [wrap_id, sub_left, zac]) <;> rfl); exact rfl) | ((with_reducible apply ow_alloc st); exact rfl; exact inferInstance; (go_simp <;> (try simp (disch := omega) only [wrap_id, sub_left, zac]) <;> rfl))); (try clear st); intro b w' st) | ((first | ((with_reducible apply ow_store1' st); exact rfl; exact inferInstance; exact rfl; (first | exact get0 | exact get1 | exact get2 | exact get3 | exact get4 | exact get5 | exact get6 | exact get7); (go_simp <;> (try simp (disch := omega) only [wrap_id, sub_left, zac]) <;> rfl)) | ((with_reducible apply ow_storeN' st); exact rfl; exact inferInstance; exact rfl; (first | exact get0 | exact get1 | exact get2 | exact get3 | exact get4 | exact get5 | exact get6 | exact get7); exact rfl)); exact rfl; exact rfl; (simp <;> done); ((try simp only [zta, ztz, zda, zdz, zca, zcn, zan, zsz, zss]) <;> exact rfl); (try clear st); intro w' st) | ((with_reducible apply ow_old1 st); exact rfl; exact inferInstance; exact rfl; assumption; assumption) | ((with_reducible apply ow_old4 st); exact rfl; exact inferInstance; exact rfl; assumption; assumption; assumption; assumption; assumption) | ((with_reducible apply ow_char (i)); exact rfl; exact Tryz.underlying9; exact rfl; exact rfl; (focus (first | exact rfl | exact (by omega))); (focus omega)) | ((with_reducible apply ow_sub (i := f) (j := i)); exact rfl; exact Tryz.underlying9; exact rfl; exact rfl; exact rfl; exact rfl; exact rfl; exact hfi; exact hil; rw [hpp]) | ((with_reducible apply ow_append 1 st); exact rfl; exact inferInstance; exact rfl; exact rfl; exact rfl; exact st.rdBox (i := 0) (n := 1) (size := 1) rfl rfl; (focus (first | exact cells_one _ | (simp [Value.oneCell']; done))); (focus (unfold maxLen; omega)); (focus omega); (try clear st); intro A' c' w' st; (try simp only [List.set_cons_zero, List.set_cons_succ, Nat.zero_add, List.nil_append] at st)) | ((with_reducible apply ow_eval); (go_simp <;> (try simp (disch := omega) only [wrap_id, sub_left, zac]) <;> rfl); first | (with_reducible apply up_value) | (with_reducible apply up_skip) | ((with_reducible apply up_enter); first | fail))); refine WL.next hK (by simp only [Act.put, zpt, zsz, zss]; exact rfl) ?_; clear hK K) | (refine WL.skip ?_ (by simp only [Act.put, zpt, zsz, zss]; exact rfl) ?_; (first | exact rfl | (simp [Region.wanted, yielded, *] <;> done) | (simp [Region.wanted, yielded] <;> omega))))); (try refine WL.nil ?_))
        have hlen : (O ++ [p]).length = n + 1 := by rw [List.length_append, ← HN.out]; rfl
        exact ⟨⟨i + 1, i + 1, O ++ [p], A', c', by go_num, by go_num, by rw [hlen], hc2, by
          have st := st.tail
          unfold strRow
          rw [hlen, strs_app]
          exact st⟩, by simp [intOf]; omega⟩
      · have hc2 := Lib.hid (hc.out.miss hlt he)
        have heq : (((Ck.at_ 0 s i).toNat : Int) == (c.toNat : Int)) = false := by
          rw [hat, beq_eq_false_iff_ne]
          intro e
          exact he (UInt8.toNat_inj.1 (by omega))
        clear hat he
        go_wp2_with (refine WL.out ?_; (repeat (first | (refine WL.op ?_ ?_; (first | exact rfl | (simp [Region.wanted, yielded, *] <;> done) | (simp [Region.wanted, yielded] <;> omega)); intro K hK; (first | ((first | ((with_reducible apply ow_move); exact rfl) | ((with_reducible apply ow_assign); exact rfl)); (go_simp <;> (try simp (disch := omega) only [wrap_id, sub_left, zac]) <;> rfl)) | ((first | ((with_reducible apply ow_load1 st); exact rfl; exact inferInstance; exact rfl; (first | exact get0 | exact get1 | exact get2 | exact get3 | exact get4 | exact get5 | exact get6 | exact get7)) | ((with_reducible apply ow_loadN st); exact rfl; exact inferInstance; exact rfl; (first | exact get0 | exact get1 | exact get2 | exact get3 | exact get4 | exact get5 | exact get6 | exact get7); ((try simp only [zta, ztz, zda, zdz, zca, zcn, zan, zsz, zss]) <;> exact rfl))); exact rfl) | ((first | ((with_reducible apply ow_box st); exact rfl; (go_simp <;> (try simp (disch := omega) only [wrap_id, sub_left, zac]) <;> rfl); (go_simp <;> (try simp (disch := omega) only [wrap_id, sub_left, zac]) <;> rfl)) | ((with_reducible apply ow_newSlice st); exact rfl; (go_simp <;> (try simp (disch := omega) only [wrap_id, sub_left, zac]) <;> rfl); exact rfl) | ((with_reducible apply ow_alloc st); exact rfl; exact inferInstance; (go_simp <;> (try simp (disch := omega) only [wrap_id, sub_left, zac]) <;> rfl))); (try clear st); intro b w' st) | ((first | ((with_reducible apply ow_store1' st); exact rfl; exact inferInstance; exact rfl; (first | exact get0 | exact get1 | exact get2 | exact get3 | exact get4 | exact get5 | exact get6 | exact get7); (go_simp <;> (try simp (disch := omega) only [wrap_id, sub_left, zac]) <;> rfl)) | ((with_reducible apply ow_storeN' st); exact rfl; exact inferInstance; exact rfl; (first | exact get0 | exact get1 | exact get2 | exact get3 | exact get4 | exact get5 | exact get6 | exact get7); exact rfl)); exact rfl; exact rfl; (simp <;> done); ((try simp only [zta, ztz, zda, zdz, zca, zcn, zan, zsz, zss]) <;> exact rfl); (try clear st); intro w' st) | ((with_reducible apply ow_old1 st); exact rfl; exact inferInstance; exact rfl; assumption; assumption) | ((with_reducible apply ow_old4 st); exact rfl; exact inferInstance; exact rfl; assumption; assumption; assumption; assumption; assumption) | ((with_reducible apply ow_char (i)); exact rfl; exact Tryz.underlying9; exact rfl; exact rfl; (focus (first | exact rfl | exact (by omega))); (focus omega)) | ((with_reducible apply ow_eval); (go_simp <;> (try simp (disch := omega) only [wrap_id, sub_left, zac]) <;> rfl); first | (with_reducible apply up_value) | (with_reducible apply up_skip) | ((with_reducible apply up_enter); first | fail))); refine WL.next hK (by simp only [Act.put, zpt, zsz, zss]; exact rfl) ?_; clear hK K) | (refine WL.skip ?_ (by simp only [Act.put, zpt, zsz, zss]; exact rfl) ?_; (first | exact rfl | (simp [Region.wanted, yielded, *] <;> done) | (simp [Region.wanted, yielded] <;> omega))))); (try refine WL.nil ?_))
        exact ⟨⟨f, i + 1, O, A, cap, rfl, by go_num, by rw [HN.out], hc2, by rw [HN.out] at st; exact st⟩, by simp [intOf]; omega⟩
    · obtain rfl : s.length = i := by omega
      have hd := Lib.hid (hc.out.done rfl)
      go_wp2_with (refine WL.out ?_; (repeat (first | (refine WL.op ?_ ?_; (first | exact rfl | (simp [Region.wanted, yielded, *] <;> done) | (simp [Region.wanted, yielded] <;> omega)); intro K hK; (first | ((first | ((with_reducible apply ow_move); exact rfl) | ((with_reducible apply ow_assign); exact rfl)); (go_simp <;> (try simp (disch := omega) only [wrap_id, sub_left, zac]) <;> rfl)) | ((first | ((with_reducible apply ow_load1 st); exact rfl; exact inferInstance; exact rfl; (first | exact get0 | exact get1 | exact get2 | exact get3 | exact get4 | exact get5 | exact get6 | exact get7)) | ((with_reducible apply ow_loadN st); exact rfl; exact inferInstance; exact rfl; (first | exact get0 | exact get1 | exact get2 | exact get3 | exact get4 | exact get5 | exact get6 | exact get7); ((try simp only [zta, ztz, zda, zdz, zca, zcn, zan, zsz, zss]) <;> exact rfl))); exact rfl) | ((first | ((with_reducible apply ow_box st); exact rfl; (go_simp <;> (try simp (disch := omega) only [wrap_id, sub_left, zac]) <;> rfl); (go_simp <;> (try simp (disch := omega) only [wrap_id, sub_left, zac]) <;> rfl)) | ((with_reducible apply ow_newSlice st); exact rfl; (go_simp <;> (try simp (disch := omega) only [wrap_id, sub_left, zac]) <;> rfl); exact rfl) | ((with_reducible apply ow_alloc st); exact rfl; exact inferInstance; (go_simp <;> (try simp (disch := omega) only [wrap_id, sub_left, zac]) <;> rfl))); (try clear st); intro b w' st) | ((first | ((with_reducible apply ow_store1' st); exact rfl; exact inferInstance; exact rfl; (first | exact get0 | exact get1 | exact get2 | exact get3 | exact get4 | exact get5 | exact get6 | exact get7); (go_simp <;> (try simp (disch := omega) only [wrap_id, sub_left, zac]) <;> rfl)) | ((with_reducible apply ow_storeN' st); exact rfl; exact inferInstance; exact rfl; (first | exact get0 | exact get1 | exact get2 | exact get3 | exact get4 | exact get5 | exact get6 | exact get7); exact rfl)); exact rfl; exact rfl; (simp <;> done); ((try simp only [zta, ztz, zda, zdz, zca, zcn, zan, zsz, zss]) <;> exact rfl); (try clear st); intro w' st) | ((with_reducible apply ow_old1 st); exact rfl; exact inferInstance; exact rfl; assumption; assumption) | ((with_reducible apply ow_old4 st); exact rfl; exact inferInstance; exact rfl; assumption; assumption; assumption; assumption; assumption) | ((with_reducible apply ow_from); exact rfl; exact Tryz.underlying9; exact rfl; exact rfl; (focus (first | exact rfl | exact (by omega))); (focus omega)) | ((with_reducible apply ow_append 1 st); exact rfl; exact inferInstance; exact rfl; exact rfl; exact rfl; exact st.rdBox (i := 0) (n := 1) (size := 1) rfl rfl; (focus (first | exact cells_one _ | (simp [Value.oneCell']; done))); (focus (unfold maxLen; omega)); (focus omega); (try clear st); intro A' c' w' st; (try simp only [List.set_cons_zero, List.set_cons_succ, Nat.zero_add, List.nil_append] at st)) | ((with_reducible apply ow_eval); (go_simp <;> (try simp (disch := omega) only [wrap_id, sub_left, zac]) <;> rfl); first | (with_reducible apply up_value) | (with_reducible apply up_skip) | ((with_reducible apply up_enter); first | fail))); refine WL.next hK (by simp only [Act.put, zpt, zsz, zss]; exact rfl) ?_; clear hK K) | (refine WL.skip ?_ (by simp only [Act.put, zpt, zsz, zss]; exact rfl) ?_; (first | exact rfl | (simp [Region.wanted, yielded, *] <;> done) | (simp [Region.wanted, yielded] <;> omega))))); (try refine WL.nil ?_))
      go_ret
      have hlen : (L.cutL c s).length = n + 1 := by rw [hd.out, List.length_append, ← HN.out]; rfl
      exact ⟨A', c', by rw [hlen]; rfl, by
        have st := st.tail
        unfold strRow
        rw [hlen, hd.out, strs_app]
        exact st⟩
end Go.Proofs.YtgcjejajljhnaaaGreatDoor
namespace Go.Proofs.YtgcjejajljhnaaaGreatDoor
open Go.RowKit Go.Hp
namespace L
theorem isDig_iff (c : UInt8) : isDig c = true ↔ 48 ≤ c.toNat ∧ c.toNat ≤ 57 := by simp [isDig]
theorem take_step {d : List UInt8} {j x : Nat} (h : j < d.length) (hx : d[j].toNat = x) (h48 : 48 ≤ x) : ((val (d.take (j + 1)) : Nat) : Int) = 10 * ((val (d.take j) : Nat) : Int) + ((x : Int) - 48) := by
  rw [List.take_succ_eq_append_getElem h, val_snoc, hx]
  omega
theorem dig_step {d : List UInt8} {j x : Nat} (h : j < d.length) (hx : d[j].toNat = x) (hd : AllDig (d.take j)) (h48 : 48 ≤ x) (h57 : x ≤ 57) : AllDig (d.take (j + 1)) := by
  rw [List.take_succ_eq_append_getElem h]
  intro c hc
  rcases List.mem_append.1 hc with hc | hc
  · exact hd c hc
  · obtain rfl := List.mem_singleton.1 hc
    exact (isDig_iff _).2 ⟨by omega, by omega⟩
theorem val_small {d : List UInt8} {j : Nat} (hd : AllDig (d.take j)) (h5 : d.length ≤ 5) : val (d.take j) ≤ 99999 := by
  have h1 := val_lt _ hd
  have h2 : 10 ^ (d.take j).length ≤ 10 ^ 5 := Nat.pow_le_pow_right (by decide) (by rw [List.length_take]; omega)
  have h3 : (10 : Nat) ^ 5 = 100000 := by decide
  omega
theorem n5_no {s : List UInt8} {k : Nat} (hk : k < s.length) (h : ¬ (48 ≤ (Ck.at_ 0 s k).toNat ∧ (Ck.at_ 0 s k).toNat ≤ 57)) : n5 s = false := by
  cases hn : n5 s with
  | false => rfl
  | true =>
    have h1 := ((n5_iff s).1 hn).1 s[k] (List.getElem_mem hk)
    rw [isDig_iff, ← Ck.at_eq 0 s k hk] at h1
    exact absurd h1 h
theorem n5_long {s : List UInt8} (h : s.length = 0 ∨ 5 < s.length ∨ ((Ck.at_ 0 s 0).toNat = 48 ∧ 1 < s.length)) : n5 s = false := by
  cases hn : n5 s with
  | false => rfl
  | true =>
    obtain ⟨_, h1, h2, h3⟩ := (n5_iff s).1 hn
    rcases h with h | h | ⟨h, h4⟩
    · omega
    · omega
    · have : s.head? = some 48 := by
        rcases s with _ | ⟨a, t⟩
        · simp at h1
        · have e : Ck.at_ 0 (a :: t) 0 = a := rfl
          rw [e] at h
          have : a = 48 := UInt8.toNat_inj.1 (by rw [h]; rfl)
          rw [this]
          rfl
      have := h3 this
      omega
theorem n5_yes {s : List UInt8} (hd : AllDig s) (h0 : 0 < s.length) (h5 : s.length ≤ 5) (hz : ¬ ((Ck.at_ 0 s 0).toNat = 48 ∧ 1 < s.length)) : n5 s = true := by
  refine (n5_iff s).2 ⟨hd, h0, h5, fun e => ?_⟩
  rcases s with _ | ⟨a, t⟩
  · simp at h0
  · have e2 : a = 48 := by simpa using e
    have e3 : (Ck.at_ 0 (a :: t) 0).toNat = 48 := by
      show a.toNat = 48
      rw [e2]; rfl
    have h := fun q => hz ⟨e3, q⟩
    omega
end L
namespace L
def q5 (d : List UInt8) : Bool := d.all isDig && (decide (0 < d.length) && (decide (d.length ≤ 5) && !(d.head? == some 48)))
theorem q5_iff (d : List UInt8) : q5 d = true ↔ AllDig d ∧ 0 < d.length ∧ d.length ≤ 5 ∧ d.head? ≠ some 48 := by
  unfold q5
  simp only [Bool.and_eq_true, List.all_eq_true, decide_eq_true_eq, Bool.not_eq_true', beq_eq_false_iff_ne]
  rfl
def rNum (s : List UInt8) : Int × Bool := if n5 s then ((val s : Nat), true) else if s.head? == some 45 && q5 (s.drop 1) then (-((val (s.drop 1) : Nat) : Int), true) else (0, false)
theorem rNum_yes {s : List UInt8} (h : n5 s = true) : rNum s = (((val s : Nat) : Int), true) := by unfold rNum; rw [h]; rfl
theorem rNum_no {s : List UInt8} (h : n5 s = false) (h2 : s.head? = some 45 → q5 (s.drop 1) = true → False) : rNum s = (0, false) := by
  unfold rNum
  rw [h, if_neg Bool.false_ne_true, if_neg]
  intro e
  rw [Bool.and_eq_true, beq_iff_eq] at e
  exact h2 e.1 e.2
theorem rNum_neg {s : List UInt8} (h : n5 s = false) (h1 : s.head? = some 45) (h2 : q5 (s.drop 1) = true) : rNum s = (-((val (s.drop 1) : Nat) : Int), true) := by
  unfold rNum
  rw [h, if_neg Bool.false_ne_true, h1, h2]
  rfl
theorem head_at {s : List UInt8} (h : 0 < s.length) : s.head? = some (Ck.at_ 0 s 0) := by
  rcases s with _ | ⟨a, t⟩
  · simp at h
  · rfl
theorem head_drop {s : List UInt8} (h : 1 < s.length) : (s.drop 1).head? = some (Ck.at_ 0 s 1) := by
  rw [List.head?_drop]
  unfold Ck.at_
  rw [List.getElem?_eq_getElem h]
  rfl
theorem rNum_bad (s : List UInt8) (h : n5 s = false) : (rNum s).2 = false ∨ (rNum s).1 < 0 := by
  unfold rNum
  rw [h, if_neg Bool.false_ne_true]
  split
  · rename_i e
    rw [Bool.and_eq_true] at e
    obtain ⟨h1, h2, _, h3⟩ := (q5_iff _).1 e.2
    have := val_pos _ h1 h3 (by intro e; rw [e] at h2; simp at h2)
    right
    show -((val (s.drop 1) : Nat) : Int) < 0
    omega
  · exact .inl rfl
end L
set_option maxRecDepth 8000 in
set_option maxHeartbeats 4000000 in
theorem Number_any (s : List UInt8) (w : World) (hl : s.length ≤ 100000) :
    Calls Tryz.prog 87 #[.string ⟨s.toArray⟩, .int .i64 5] w fun e w' => e = .returned (.tuple #[.int .i64 (L.rNum s).1, .bool (L.rNum s).2]) ∧ Below w.heap.size w w' := by
  have hsz := bytes_size
  have st := St.start w
  have no : L.rNum s = (0, false) → Ending.returned (.tuple #[.int .i64 0, .bool false]) = Ending.returned (.tuple #[.int .i64 (L.rNum s).1, .bool (L.rNum s).2]) := fun hn => by rw [hn]
  have NO := Lib.hid no
  clear no
  have hw8 : ∀ x : Int, 48 ≤ x → x ≤ 57 → IntKind.u8.wrap (x - 48) = x - 48 := by
    intro x h1 h2
    have hw : IntKind.u8.wrap (x - 48) = (x - 48) % 256 := by simp [IntKind.wrap, IntKind.bits, IntKind.signed]
    rw [hw]; omega
  have HW8 := Lib.hid hw8
  clear hw8
  rcases Nat.eq_zero_or_pos s.length with h0 | h0
  · have hx := Lib.hid (L.rNum_no (L.n5_long (.inl h0)) fun e => by rw [List.eq_nil_of_length_eq_zero h0] at e; simp at e)
    have h0' : (s.length : Int) = 0 := by omega
    go_enter Tryz.func87, Tryz.ntmps87
    go_wp2_with (refine WL.out ?_; (repeat (first | (refine WL.op ?_ ?_; (first | exact rfl | (simp [Region.wanted, yielded, *] <;> done) | (simp [Region.wanted, yielded] <;> omega)); intro K hK; (first | ((first | ((with_reducible apply ow_move); exact rfl) | ((with_reducible apply ow_assign); exact rfl)); (go_simp <;> (try simp (disch := omega) only [wrap_id, sub_left, zac]) <;> rfl)) | ((first | ((with_reducible apply ow_load1 st); exact rfl; exact inferInstance; exact rfl; (first | exact get0 | exact get1 | exact get2 | exact get3 | exact get4 | exact get5 | exact get6 | exact get7)) | ((with_reducible apply ow_loadN st); exact rfl; exact inferInstance; exact rfl; (first | exact get0 | exact get1 | exact get2 | exact get3 | exact get4 | exact get5 | exact get6 | exact get7); ((try simp only [zta, ztz, zda, zdz, zca, zcn, zan, zsz, zss]) <;> exact rfl))); exact rfl) | ((first | ((with_reducible apply ow_box st); exact rfl; (go_simp <;> (try simp (disch := omega) only [wrap_id, sub_left, zac]) <;> rfl); (go_simp <;> (try simp (disch := omega) only [wrap_id, sub_left, zac]) <;> rfl)) | ((with_reducible apply ow_newSlice st); exact rfl; (go_simp <;> (try simp (disch := omega) only [wrap_id, sub_left, zac]) <;> rfl); exact rfl) | ((with_reducible apply ow_alloc st); exact rfl; exact inferInstance; (go_simp <;> (try simp (disch := omega) only [wrap_id, sub_left, zac]) <;> rfl))); (try clear st); intro b w' st) | ((first | ((with_reducible apply ow_store1' st); exact rfl; exact inferInstance; exact rfl; (first | exact get0 | exact get1 | exact get2 | exact get3 | exact get4 | exact get5 | exact get6 | exact get7); (go_simp <;> (try simp (disch := omega) only [wrap_id, sub_left, zac]) <;> rfl)) | ((with_reducible apply ow_storeN' st); exact rfl; exact inferInstance; exact rfl; (first | exact get0 | exact get1 | exact get2 | exact get3 | exact get4 | exact get5 | exact get6 | exact get7); exact rfl)); exact rfl; exact rfl; (simp <;> done); ((try simp only [zta, ztz, zda, zdz, zca, zcn, zan, zsz, zss]) <;> exact rfl); (try clear st); intro w' st) | ((with_reducible apply ow_old1 st); exact rfl; exact inferInstance; exact rfl; assumption; assumption) | ((with_reducible apply ow_old4 st); exact rfl; exact inferInstance; exact rfl; assumption; assumption; assumption; assumption; assumption) | ((with_reducible apply ow_char (0)); exact rfl; exact Tryz.underlying9; exact rfl; exact rfl; (focus (first | exact rfl | exact (by omega))); (focus omega)) | ((with_reducible apply ow_eval); (go_simp <;> (try simp (disch := omega) only [wrap_id, sub_left, zac]) <;> rfl); first | (with_reducible apply up_value) | (with_reducible apply up_skip) | ((with_reducible apply up_enter); first | fail))); refine WL.next hK (by simp only [Act.put, zpt, zsz, zss]; exact rfl) ?_; clear hK K) | (refine WL.skip ?_ (by simp only [Act.put, zpt, zsz, zss]; exact rfl) ?_; (first | exact rfl | (simp [Region.wanted, yielded, *] <;> done) | (simp [Region.wanted, yielded] <;> omega))))); (try refine WL.nil ?_))
    go_ret2
    exact ⟨NO.out hx.out, st.below⟩
  have i0 : (0 : Int) < (s.length : Int) := by omega
  have i1 : ((s.length : Int) == 0) = false := by rw [beq_eq_false_iff_ne]; omega
  obtain ⟨x0, hx0⟩ : ∃ x, (Ck.at_ 0 s 0).toNat = x := ⟨_, rfl⟩
  have HX0 := Lib.hid hx0
  by_cases h45 : x0 = 45
  · subst h45
    have hn5 := Lib.hid (L.n5_no h0 (by rw [HX0.out]; omega))
    have l1 : ((s.length : Int) == 1) = decide (s.length = 1) := by
      by_cases h : s.length = 1
      · rw [h]; rfl
      · rw [decide_eq_false h, beq_eq_false_iff_ne]; omega
    by_cases h1 : s.length = 1
    · have h1' : (s.length : Int) = 1 := by omega
      have hx := Lib.hid (L.rNum_no hn5.out fun _ e => by
        have := ((L.q5_iff _).1 e).2.1
        rw [List.length_drop] at this
        omega)
      go_enter Tryz.func87, Tryz.ntmps87
      go_wp2_with (refine WL.out ?_; (repeat (first | (refine WL.op ?_ ?_; (first | exact rfl | (simp [Region.wanted, yielded, *] <;> done) | (simp [Region.wanted, yielded] <;> omega)); intro K hK; (first | ((first | ((with_reducible apply ow_move); exact rfl) | ((with_reducible apply ow_assign); exact rfl)); (go_simp <;> (try simp (disch := omega) only [wrap_id, sub_left, zac]) <;> rfl)) | ((first | ((with_reducible apply ow_load1 st); exact rfl; exact inferInstance; exact rfl; (first | exact get0 | exact get1 | exact get2 | exact get3 | exact get4 | exact get5 | exact get6 | exact get7)) | ((with_reducible apply ow_loadN st); exact rfl; exact inferInstance; exact rfl; (first | exact get0 | exact get1 | exact get2 | exact get3 | exact get4 | exact get5 | exact get6 | exact get7); ((try simp only [zta, ztz, zda, zdz, zca, zcn, zan, zsz, zss]) <;> exact rfl))); exact rfl) | ((first | ((with_reducible apply ow_box st); exact rfl; (go_simp <;> (try simp (disch := omega) only [wrap_id, sub_left, zac]) <;> rfl); (go_simp <;> (try simp (disch := omega) only [wrap_id, sub_left, zac]) <;> rfl)) | ((with_reducible apply ow_newSlice st); exact rfl; (go_simp <;> (try simp (disch := omega) only [wrap_id, sub_left, zac]) <;> rfl); exact rfl) | ((with_reducible apply ow_alloc st); exact rfl; exact inferInstance; (go_simp <;> (try simp (disch := omega) only [wrap_id, sub_left, zac]) <;> rfl))); (try clear st); intro b w' st) | ((first | ((with_reducible apply ow_store1' st); exact rfl; exact inferInstance; exact rfl; (first | exact get0 | exact get1 | exact get2 | exact get3 | exact get4 | exact get5 | exact get6 | exact get7); (go_simp <;> (try simp (disch := omega) only [wrap_id, sub_left, zac]) <;> rfl)) | ((with_reducible apply ow_storeN' st); exact rfl; exact inferInstance; exact rfl; (first | exact get0 | exact get1 | exact get2 | exact get3 | exact get4 | exact get5 | exact get6 | exact get7); exact rfl)); exact rfl; exact rfl; (simp <;> done); ((try simp only [zta, ztz, zda, zdz, zca, zcn, zan, zsz, zss]) <;> exact rfl); (try clear st); intro w' st) | ((with_reducible apply ow_old1 st); exact rfl; exact inferInstance; exact rfl; assumption; assumption) | ((with_reducible apply ow_old4 st); exact rfl; exact inferInstance; exact rfl; assumption; assumption; assumption; assumption; assumption) | ((with_reducible apply ow_char (0)); exact rfl; exact Tryz.underlying9; exact rfl; exact rfl; (focus (first | exact rfl | exact (by omega))); (focus omega)) | ((with_reducible apply ow_eval); (go_simp <;> (try simp (disch := omega) only [wrap_id, sub_left, zac]) <;> rfl); first | (with_reducible apply up_value) | (with_reducible apply up_skip) | ((with_reducible apply up_enter); first | fail))); refine WL.next hK (by simp only [Act.put, zpt, zsz, zss]; exact rfl) ?_; clear hK K) | (refine WL.skip ?_ (by simp only [Act.put, zpt, zsz, zss]; exact rfl) ?_; (first | exact rfl | (simp [Region.wanted, yielded, *] <;> done) | (simp [Region.wanted, yielded] <;> omega))))); (try refine WL.nil ?_))
      go_ret2
      exact ⟨NO.out hx.out, st.below⟩
    have i2 : ((s.length : Int) == 1) = false := by rw [beq_eq_false_iff_ne]; omega
    have h2 : 1 < s.length := by omega
    clear l1 h1
    by_cases h5 : 5 < (s.length : Int) - 1
    · have hx := Lib.hid (L.rNum_no hn5.out fun _ e => by
        have := ((L.q5_iff _).1 e).2.2.1
        rw [List.length_drop] at this
        omega)
      go_enter Tryz.func87, Tryz.ntmps87
      go_wp2_with (refine WL.out ?_; (repeat (first | (refine WL.op ?_ ?_; (first | exact rfl | (simp [Region.wanted, yielded, *] <;> done) | (simp [Region.wanted, yielded] <;> omega)); intro K hK; (first | ((first | ((with_reducible apply ow_move); exact rfl) | ((with_reducible apply ow_assign); exact rfl)); (go_simp <;> (try simp (disch := omega) only [wrap_id, sub_left, zac]) <;> rfl)) | ((first | ((with_reducible apply ow_load1 st); exact rfl; exact inferInstance; exact rfl; (first | exact get0 | exact get1 | exact get2 | exact get3 | exact get4 | exact get5 | exact get6 | exact get7)) | ((with_reducible apply ow_loadN st); exact rfl; exact inferInstance; exact rfl; (first | exact get0 | exact get1 | exact get2 | exact get3 | exact get4 | exact get5 | exact get6 | exact get7); ((try simp only [zta, ztz, zda, zdz, zca, zcn, zan, zsz, zss]) <;> exact rfl))); exact rfl) | ((first | ((with_reducible apply ow_box st); exact rfl; (go_simp <;> (try simp (disch := omega) only [wrap_id, sub_left, zac]) <;> rfl); (go_simp <;> (try simp (disch := omega) only [wrap_id, sub_left, zac]) <;> rfl)) | ((with_reducible apply ow_newSlice st); exact rfl; (go_simp <;> (try simp (disch := omega) only [wrap_id, sub_left, zac]) <;> rfl); exact rfl) | ((with_reducible apply ow_alloc st); exact rfl; exact inferInstance; (go_simp <;> (try simp (disch := omega) only [wrap_id, sub_left, zac]) <;> rfl))); (try clear st); intro b w' st) | ((first | ((with_reducible apply ow_store1' st); exact rfl; exact inferInstance; exact rfl; (first | exact get0 | exact get1 | exact get2 | exact get3 | exact get4 | exact get5 | exact get6 | exact get7); (go_simp <;> (try simp (disch := omega) only [wrap_id, sub_left, zac]) <;> rfl)) | ((with_reducible apply ow_storeN' st); exact rfl; exact inferInstance; exact rfl; (first | exact get0 | exact get1 | exact get2 | exact get3 | exact get4 | exact get5 | exact get6 | exact get7); exact rfl)); exact rfl; exact rfl; (simp <;> done); ((try simp only [zta, ztz, zda, zdz, zca, zcn, zan, zsz, zss]) <;> exact rfl); (try clear st); intro w' st) | ((with_reducible apply ow_old1 st); exact rfl; exact inferInstance; exact rfl; assumption; assumption) | ((with_reducible apply ow_old4 st); exact rfl; exact inferInstance; exact rfl; assumption; assumption; assumption; assumption; assumption) | ((with_reducible apply ow_char (0)); exact rfl; exact Tryz.underlying9; exact rfl; exact rfl; (focus (first | exact rfl | exact (by omega))); (focus omega)) | ((with_reducible apply ow_eval); (go_simp <;> (try simp (disch := omega) only [wrap_id, sub_left, zac]) <;> rfl); first | (with_reducible apply up_value) | (with_reducible apply up_skip) | ((with_reducible apply up_enter); first | fail))); refine WL.next hK (by simp only [Act.put, zpt, zsz, zss]; exact rfl) ?_; clear hK K) | (refine WL.skip ?_ (by simp only [Act.put, zpt, zsz, zss]; exact rfl) ?_; (first | exact rfl | (simp [Region.wanted, yielded, *] <;> done) | (simp [Region.wanted, yielded] <;> omega))))); (try refine WL.nil ?_))
      go_ret2
      exact ⟨NO.out hx.out, st.below⟩
    obtain ⟨x1, hx1⟩ : ∃ x, (Ck.at_ 0 s 1).toNat = x := ⟨_, rfl⟩
    have HX1 := Lib.hid hx1
    by_cases h48 : x1 = 48
    · have i3 : ((x1 : Int) == 48) = true := by rw [h48]; rfl
      have i4 : (1 : Int) < (s.length : Int) := by omega
      have hx := Lib.hid (L.rNum_no hn5.out fun _ e => by
        have := ((L.q5_iff _).1 e).2.2.2
        rw [L.head_drop h2] at this
        exact this (by congr 1; exact UInt8.toNat_inj.1 (by rw [hx1, h48]; rfl)))
      clear h48
      go_enter Tryz.func87, Tryz.ntmps87
      go_wp2_with (refine WL.out ?_; (repeat (first | (refine WL.op ?_ ?_; (first | exact rfl | (simp [Region.wanted, yielded, *] <;> done) | (simp [Region.wanted, yielded] <;> omega)); intro K hK; (first | ((first | ((with_reducible apply ow_move); exact rfl) | ((with_reducible apply ow_assign); exact rfl)); (go_simp <;> (try simp (disch := omega) only [wrap_id, sub_left, zac]) <;> rfl)) | ((first | ((with_reducible apply ow_load1 st); exact rfl; exact inferInstance; exact rfl; (first | exact get0 | exact get1 | exact get2 | exact get3 | exact get4 | exact get5 | exact get6 | exact get7)) | ((with_reducible apply ow_loadN st); exact rfl; exact inferInstance; exact rfl; (first | exact get0 | exact get1 | exact get2 | exact get3 | exact get4 | exact get5 | exact get6 | exact get7); ((try simp only [zta, ztz, zda, zdz, zca, zcn, zan, zsz, zss]) <;> exact rfl))); exact rfl) | ((first | ((with_reducible apply ow_box st); exact rfl; (go_simp <;> (try simp (disch := omega) only [wrap_id, sub_left, zac]) <;> rfl); (go_simp <;> (try simp (disch := omega) only [wrap_id, sub_left, zac]) <;> rfl)) | ((with_reducible apply ow_newSlice st); exact rfl; (go_simp <;> (try simp (disch := omega) only [wrap_id, sub_left, zac]) <;> rfl); exact rfl) | ((with_reducible apply ow_alloc st); exact rfl; exact inferInstance; (go_simp <;> (try simp (disch := omega) only [wrap_id, sub_left, zac]) <;> rfl))); (try clear st); intro b w' st) | ((first | ((with_reducible apply ow_store1' st); exact rfl; exact inferInstance; exact rfl; (first | exact get0 | exact get1 | exact get2 | exact get3 | exact get4 | exact get5 | exact get6 | exact get7); (go_simp <;> (try simp (disch := omega) only [wrap_id, sub_left, zac]) <;> rfl)) | ((with_reducible apply ow_storeN' st); exact rfl; exact inferInstance; exact rfl; (first | exact get0 | exact get1 | exact get2 | exact get3 | exact get4 | exact get5 | exact get6 | exact get7); exact rfl)); exact rfl; exact rfl; (simp <;> done); ((try simp only [zta, ztz, zda, zdz, zca, zcn, zan, zsz, zss]) <;> exact rfl); (try clear st); intro w' st) | ((with_reducible apply ow_old1 st); exact rfl; exact inferInstance; exact rfl; assumption; assumption) | ((with_reducible apply ow_old4 st); exact rfl; exact inferInstance; exact rfl; assumption; assumption; assumption; assumption; assumption) | ((with_reducible apply ow_char (0)); exact rfl; exact Tryz.underlying9; exact rfl; exact rfl; (focus (first | exact rfl | exact (by omega))); (focus omega)) | ((with_reducible apply ow_char (1)); exact rfl; exact Tryz.underlying9; exact rfl; exact rfl; (focus (first | exact rfl | exact (by omega))); (focus omega)) | ((with_reducible apply ow_eval); (go_simp <;> (try simp (disch := omega) only [wrap_id, sub_left, zac]) <;> rfl); first | (with_reducible apply up_value) | (with_reducible apply up_skip) | ((with_reducible apply up_enter); first | fail))); refine WL.next hK (by simp only [Act.put, zpt, zsz, zss]; exact rfl) ?_; clear hK K) | (refine WL.skip ?_ (by simp only [Act.put, zpt, zsz, zss]; exact rfl) ?_; (first | exact rfl | (simp [Region.wanted, yielded, *] <;> done) | (simp [Region.wanted, yielded] <;> omega))))); (try refine WL.nil ?_))
      go_ret2
      exact ⟨NO.out hx.out, st.below⟩
    have i3 : ((x1 : Int) == 48) = false := by rw [beq_eq_false_iff_ne]; omega
    have H48 := Lib.hid h48
    clear h48
    have hdl : (s.drop 1).length = s.length - 1 := List.length_drop ..
    have HDL := Lib.hid hdl
    clear hdl
    go_enter Tryz.func87, Tryz.ntmps87
    go_wp2_with (refine WL.out ?_; (repeat (first | (refine WL.op ?_ ?_; (first | exact rfl | (simp [Region.wanted, yielded, *] <;> done) | (simp [Region.wanted, yielded] <;> omega)); intro K hK; (first | ((first | ((with_reducible apply ow_move); exact rfl) | ((with_reducible apply ow_assign); exact rfl)); (go_simp <;> (try simp (disch := omega) only [wrap_id, sub_left, zac]) <;> rfl)) | ((first | ((with_reducible apply ow_load1 st); exact rfl; exact inferInstance; exact rfl; (first | exact get0 | exact get1 | exact get2 | exact get3 | exact get4 | exact get5 | exact get6 | exact get7)) | ((with_reducible apply ow_loadN st); exact rfl; exact inferInstance; exact rfl; (first | exact get0 | exact get1 | exact get2 | exact get3 | exact get4 | exact get5 | exact get6 | exact get7); ((try simp only [zta, ztz, zda, zdz, zca, zcn, zan, zsz, zss]) <;> exact rfl))); exact rfl) | ((first | ((with_reducible apply ow_box st); exact rfl; (go_simp <;> (try simp (disch := omega) only [wrap_id, sub_left, zac]) <;> rfl); (go_simp <;> (try simp (disch := omega) only [wrap_id, sub_left, zac]) <;> rfl)) | ((with_reducible apply ow_newSlice st); exact rfl; (go_simp <;> (try simp (disch := omega) only [wrap_id, sub_left, zac]) <;> rfl); exact rfl) | ((with_reducible apply ow_alloc st); exact rfl; exact inferInstance; (go_simp <;> (try simp (disch := omega) only [wrap_id, sub_left, zac]) <;> rfl))); (try clear st); intro b w' st) | ((first | ((with_reducible apply ow_store1' st); exact rfl; exact inferInstance; exact rfl; (first | exact get0 | exact get1 | exact get2 | exact get3 | exact get4 | exact get5 | exact get6 | exact get7); (go_simp <;> (try simp (disch := omega) only [wrap_id, sub_left, zac]) <;> rfl)) | ((with_reducible apply ow_storeN' st); exact rfl; exact inferInstance; exact rfl; (first | exact get0 | exact get1 | exact get2 | exact get3 | exact get4 | exact get5 | exact get6 | exact get7); exact rfl)); exact rfl; exact rfl; (simp <;> done); ((try simp only [zta, ztz, zda, zdz, zca, zcn, zan, zsz, zss]) <;> exact rfl); (try clear st); intro w' st) | ((with_reducible apply ow_old1 st); exact rfl; exact inferInstance; exact rfl; assumption; assumption) | ((with_reducible apply ow_old4 st); exact rfl; exact inferInstance; exact rfl; assumption; assumption; assumption; assumption; assumption) | ((with_reducible apply ow_char (0)); exact rfl; exact Tryz.underlying9; exact rfl; exact rfl; (focus (first | exact rfl | exact (by omega))); (focus omega)) | ((with_reducible apply ow_char (1)); exact rfl; exact Tryz.underlying9; exact rfl; exact rfl; (focus (first | exact rfl | exact (by omega))); (focus omega)) | ((with_reducible apply ow_eval); (go_simp <;> (try simp (disch := omega) only [wrap_id, sub_left, zac]) <;> rfl); first | (with_reducible apply up_value) | (with_reducible apply up_skip) | ((with_reducible apply up_enter); first | fail))); refine WL.next hK (by simp only [Act.put, zpt, zsz, zss]; exact rfl) ?_; clear hK K) | (refine WL.skip ?_ (by simp only [Act.put, zpt, zsz, zss]; exact rfl) ?_; (first | exact rfl | (simp [Region.wanted, yielded, *] <;> done) | (simp [Region.wanted, yielded] <;> omega))))); (try refine WL.nil ?_))
    go_loopw [7, 8] (fun v i wr => ∃ j : Nat, 1 + j ≤ s.length ∧ i = .int .i64 ((1 + j : Nat) : Int) ∧ v = .int .i64 (L.val ((s.drop 1).take j) : Nat) ∧ Hid (L.AllDig ((s.drop 1).take j)) ∧ St w wr []) (fun _ i _ => s.length - (intOf i).toNat)
    case atStart => exact ⟨0, by omega, rfl, rfl, Lib.hid (by intro c hc; simp at hc), st⟩
    case round =>
      clear st
      obtain ⟨j, hk, rfl, rfl, hd, st⟩ := hrel
      have hv := L.val_small hd.out (by rw [HDL.out]; omega)
      obtain ⟨k, hkj⟩ : ∃ k, k = 1 + j := ⟨_, rfl⟩
      rw [← hkj] at hk ⊢
      have HKJ := Lib.hid hkj
      clear hkj
      by_cases hlt : k < s.length
      · obtain ⟨x, hxk⟩ : ∃ x, (Ck.at_ 0 s k).toNat = x := ⟨_, rfl⟩
        have HXK := Lib.hid hxk
        have hdj : Hid (∀ h : j < (s.drop 1).length, (s.drop 1)[j].toNat = x) := Lib.hid fun h => by
          rw [← HXK.out, Ck.at_eq 0 s k hlt, List.getElem_drop]
          congr 2
          exact HKJ.out.symm
        have hj : Hid (j < (s.drop 1).length) := Lib.hid (by rw [HDL.out]; have := HKJ.out; omega)
        have bad : Hid (¬ (48 ≤ x ∧ x ≤ 57) → L.rNum s = (0, false)) := Lib.hid fun hb => L.rNum_no hn5.out fun _ e => by
          have h1 := ((L.q5_iff _).1 e).1 _ (List.getElem_mem hj.out)
          rw [L.isDig_iff, hdj.out hj.out] at h1
          exact hb h1
        obtain ⟨V, hV⟩ : ∃ V, V = L.val ((s.drop 1).take j) := ⟨_, rfl⟩
        rw [← hV] at hv ⊢
        have HV := Lib.hid hV
        clear hV
        by_cases c0 : x < 48
        · have hx := Lib.hid (bad.out (by omega))
          go_wp2_with (refine WL.out ?_; (repeat (first | (refine WL.op ?_ ?_; (first | exact rfl | (simp [Region.wanted, yielded, *] <;> done) | (simp [Region.wanted, yielded] <;> omega)); intro K hK; (first | ((first | ((with_reducible apply ow_move); exact rfl) | ((with_reducible apply ow_assign); exact rfl)); (go_simp <;> (try simp (disch := omega) only [wrap_id, sub_left, zac]) <;> rfl)) | ((first | ((with_reducible apply ow_load1 st); exact rfl; exact inferInstance; exact rfl; (first | exact get0 | exact get1 | exact get2 | exact get3 | exact get4 | exact get5 | exact get6 | exact get7)) | ((with_reducible apply ow_loadN st); exact rfl; exact inferInstance; exact rfl; (first | exact get0 | exact get1 | exact get2 | exact get3 | exact get4 | exact get5 | exact get6 | exact get7); ((try simp only [zta, ztz, zda, zdz, zca, zcn, zan, zsz, zss]) <;> exact rfl))); exact rfl) | ((first | ((with_reducible apply ow_box st); exact rfl; (go_simp <;> (try simp (disch := omega) only [wrap_id, sub_left, zac]) <;> rfl); (go_simp <;> (try simp (disch := omega) only [wrap_id, sub_left, zac]) <;> rfl)) | ((with_reducible apply ow_newSlice st); exact rfl; (go_simp <;> (try simp (disch := omega) only [wrap_id, sub_left, zac]) <;> rfl); exact rfl) | ((with_reducible apply ow_alloc st); exact rfl; exact inferInstance; (go_simp <;> (try simp (disch := omega) only [wrap_id, sub_left, zac]) <;> rfl))); (try clear st); intro b w' st) | ((first | ((with_reducible apply ow_store1' st); exact rfl; exact inferInstance; exact rfl; (first | exact get0 | exact get1 | exact get2 | exact get3 | exact get4 | exact get5 | exact get6 | exact get7); (go_simp <;> (try simp (disch := omega) only [wrap_id, sub_left, zac]) <;> rfl)) | ((with_reducible apply ow_storeN' st); exact rfl; exact inferInstance; exact rfl; (first | exact get0 | exact get1 | exact get2 | exact get3 | exact get4 | exact get5 | exact get6 | exact get7); exact rfl)); exact rfl; exact rfl; (simp <;> done); ((try simp only [zta, ztz, zda, zdz, zca, zcn, zan, zsz, zss]) <;> exact rfl); (try clear st); intro w' st) | ((with_reducible apply ow_old1 st); exact rfl; exact inferInstance; exact rfl; assumption; assumption) | ((with_reducible apply ow_old4 st); exact rfl; exact inferInstance; exact rfl; assumption; assumption; assumption; assumption; assumption) | ((with_reducible apply ow_char (k)); exact rfl; exact Tryz.underlying9; exact rfl; exact rfl; (focus (first | exact rfl | exact (by omega))); (focus omega)) | ((with_reducible apply ow_eval); (go_simp <;> (try simp (disch := omega) only [wrap_id, sub_left, zac]) <;> rfl); first | (with_reducible apply up_value) | (with_reducible apply up_skip) | ((with_reducible apply up_enter); first | fail))); refine WL.next hK (by simp only [Act.put, zpt, zsz, zss]; exact rfl) ?_; clear hK K) | (refine WL.skip ?_ (by simp only [Act.put, zpt, zsz, zss]; exact rfl) ?_; (first | exact rfl | (simp [Region.wanted, yielded, *] <;> done) | (simp [Region.wanted, yielded] <;> omega))))); (try refine WL.nil ?_))
          go_ret2
          exact ⟨NO.out hx.out, st.below⟩
        by_cases c1 : 57 < x
        · have hx := Lib.hid (bad.out (by omega))
          go_wp2_with (refine WL.out ?_; (repeat (first | (refine WL.op ?_ ?_; (first | exact rfl | (simp [Region.wanted, yielded, *] <;> done) | (simp [Region.wanted, yielded] <;> omega)); intro K hK; (first | ((first | ((with_reducible apply ow_move); exact rfl) | ((with_reducible apply ow_assign); exact rfl)); (go_simp <;> (try simp (disch := omega) only [wrap_id, sub_left, zac]) <;> rfl)) | ((first | ((with_reducible apply ow_load1 st); exact rfl; exact inferInstance; exact rfl; (first | exact get0 | exact get1 | exact get2 | exact get3 | exact get4 | exact get5 | exact get6 | exact get7)) | ((with_reducible apply ow_loadN st); exact rfl; exact inferInstance; exact rfl; (first | exact get0 | exact get1 | exact get2 | exact get3 | exact get4 | exact get5 | exact get6 | exact get7); ((try simp only [zta, ztz, zda, zdz, zca, zcn, zan, zsz, zss]) <;> exact rfl))); exact rfl) | ((first | ((with_reducible apply ow_box st); exact rfl; (go_simp <;> (try simp (disch := omega) only [wrap_id, sub_left, zac]) <;> rfl); (go_simp <;> (try simp (disch := omega) only [wrap_id, sub_left, zac]) <;> rfl)) | ((with_reducible apply ow_newSlice st); exact rfl; (go_simp <;> (try simp (disch := omega) only [wrap_id, sub_left, zac]) <;> rfl); exact rfl) | ((with_reducible apply ow_alloc st); exact rfl; exact inferInstance; (go_simp <;> (try simp (disch := omega) only [wrap_id, sub_left, zac]) <;> rfl))); (try clear st); intro b w' st) | ((first | ((with_reducible apply ow_store1' st); exact rfl; exact inferInstance; exact rfl; (first | exact get0 | exact get1 | exact get2 | exact get3 | exact get4 | exact get5 | exact get6 | exact get7); (go_simp <;> (try simp (disch := omega) only [wrap_id, sub_left, zac]) <;> rfl)) | ((with_reducible apply ow_storeN' st); exact rfl; exact inferInstance; exact rfl; (first | exact get0 | exact get1 | exact get2 | exact get3 | exact get4 | exact get5 | exact get6 | exact get7); exact rfl)); exact rfl; exact rfl; (simp <;> done); ((try simp only [zta, ztz, zda, zdz, zca, zcn, zan, zsz, zss]) <;> exact rfl); (try clear st); intro w' st) | ((with_reducible apply ow_old1 st); exact rfl; exact inferInstance; exact rfl; assumption; assumption) | ((with_reducible apply ow_old4 st); exact rfl; exact inferInstance; exact rfl; assumption; assumption; assumption; assumption; assumption) | ((with_reducible apply ow_char (k)); exact rfl; exact Tryz.underlying9; exact rfl; exact rfl; (focus (first | exact rfl | exact (by omega))); (focus omega)) | ((with_reducible apply ow_eval); (go_simp <;> (try simp (disch := omega) only [wrap_id, sub_left, zac]) <;> rfl); first | (with_reducible apply up_value) | (with_reducible apply up_skip) | ((with_reducible apply up_enter); first | fail))); refine WL.next hK (by simp only [Act.put, zpt, zsz, zss]; exact rfl) ?_; clear hK K) | (refine WL.skip ?_ (by simp only [Act.put, zpt, zsz, zss]; exact rfl) ?_; (first | exact rfl | (simp [Region.wanted, yielded, *] <;> done) | (simp [Region.wanted, yielded] <;> omega))))); (try refine WL.nil ?_))
          go_ret2
          exact ⟨NO.out hx.out, st.below⟩
        have hst := Lib.hid (L.take_step hj.out (hdj.out hj.out) (by omega))
        have hd2 := Lib.hid (L.dig_step hj.out (hdj.out hj.out) hd.out (by omega) (by omega))
        have hw := HW8.out (x : Int) (by omega) (by omega)
        go_wp2_with (refine WL.out ?_; (repeat (first | (refine WL.op ?_ ?_; (first | exact rfl | (simp [Region.wanted, yielded, *] <;> done) | (simp [Region.wanted, yielded] <;> omega)); intro K hK; (first | ((first | ((with_reducible apply ow_move); exact rfl) | ((with_reducible apply ow_assign); exact rfl)); (go_simp <;> (try simp (disch := omega) only [wrap_id, sub_left, zac]) <;> rfl)) | ((first | ((with_reducible apply ow_load1 st); exact rfl; exact inferInstance; exact rfl; (first | exact get0 | exact get1 | exact get2 | exact get3 | exact get4 | exact get5 | exact get6 | exact get7)) | ((with_reducible apply ow_loadN st); exact rfl; exact inferInstance; exact rfl; (first | exact get0 | exact get1 | exact get2 | exact get3 | exact get4 | exact get5 | exact get6 | exact get7); ((try simp only [zta, ztz, zda, zdz, zca, zcn, zan, zsz, zss]) <;> exact rfl))); exact rfl) | ((first | ((with_reducible apply ow_box st); exact rfl; (go_simp <;> (try simp (disch := omega) only [wrap_id, sub_left, zac]) <;> rfl); (go_simp <;> (try simp (disch := omega) only [wrap_id, sub_left, zac]) <;> rfl)) | ((with_reducible apply ow_newSlice st); exact rfl; (go_simp <;> (try simp (disch := omega) only [wrap_id, sub_left, zac]) <;> rfl); exact rfl) | ((with_reducible apply ow_alloc st); exact rfl; exact inferInstance; (go_simp <;> (try simp (disch := omega) only [wrap_id, sub_left, zac]) <;> rfl))); (try clear st); intro b w' st) | ((first | ((with_reducible apply ow_store1' st); exact rfl; exact inferInstance; exact rfl; (first | exact get0 | exact get1 | exact get2 | exact get3 | exact get4 | exact get5 | exact get6 | exact get7); (go_simp <;> (try simp (disch := omega) only [wrap_id, sub_left, zac]) <;> rfl)) | ((with_reducible apply ow_storeN' st); exact rfl; exact inferInstance; exact rfl; (first | exact get0 | exact get1 | exact get2 | exact get3 | exact get4 | exact get5 | exact get6 | exact get7); exact rfl)); exact rfl; exact rfl; (simp <;> done); ((try simp only [zta, ztz, zda, zdz, zca, zcn, zan, zsz, zss]) <;> exact rfl); (try clear st); intro w' st) | ((with_reducible apply ow_old1 st); exact rfl; exact inferInstance; exact rfl; assumption; assumption) | ((with_reducible apply ow_old4 st); exact rfl; exact inferInstance; exact rfl; assumption; assumption; assumption; assumption; assumption) | ((with_reducible apply ow_char (k)); exact rfl; exact Tryz.underlying9; exact rfl; exact rfl; (focus (first | exact rfl | exact (by omega))); (focus omega)) | ((with_reducible apply ow_eval); (go_simp <;> (try simp (disch := omega) only [wrap_id, sub_left, zac]) <;> rfl); first | (with_reducible apply up_value) | (with_reducible apply up_skip) | ((with_reducible apply up_enter); first | fail))); refine WL.next hK (by simp only [Act.put, zpt, zsz, zss]; exact rfl) ?_; clear hK K) | (refine WL.skip ?_ (by simp only [Act.put, zpt, zsz, zss]; exact rfl) ?_; (first | exact rfl | (simp [Region.wanted, yielded, *] <;> done) | (simp [Region.wanted, yielded] <;> omega))))); (try refine WL.nil ?_))
        exact ⟨⟨j + 1, by have := HKJ.out; omega, by rw [HKJ.out]; go_num, by rw [hst.out, ← HV.out], hd2, st⟩, by simp [intOf]; omega⟩
      · have hle : Hid ((s.drop 1).take j = s.drop 1) := Lib.hid (List.take_of_length_le (by rw [HDL.out]; have := HKJ.out; omega))
        have hneg : Hid (L.rNum s = (-((L.val ((s.drop 1).take j) : Nat) : Int), true)) := Lib.hid (by
          rw [hle.out]
          refine L.rNum_neg hn5.out (by rw [L.head_at h0]; congr 1; exact UInt8.toNat_inj.1 (by rw [HX0.out]; rfl)) ((L.q5_iff _).2 ⟨?_, ?_, ?_, ?_⟩)
          · have h1 := hd.out
            rw [hle.out] at h1
            exact h1
          · rw [HDL.out]; omega
          · rw [HDL.out]; omega
          · rw [L.head_drop h2]
            intro e
            have e2 : Ck.at_ 0 s 1 = 48 := Option.some.inj e
            exact H48.out (by rw [← HX1.out, e2]; rfl))
        obtain ⟨V, hV⟩ : ∃ V, V = L.val ((s.drop 1).take j) := ⟨_, rfl⟩
        rw [← hV] at hv hneg ⊢
        clear hV
        go_wp2_with (refine WL.out ?_; (repeat (first | (refine WL.op ?_ ?_; (first | exact rfl | (simp [Region.wanted, yielded, *] <;> done) | (simp [Region.wanted, yielded] <;> omega)); intro K hK; (first | ((first | ((with_reducible apply ow_move); exact rfl) | ((with_reducible apply ow_assign); exact rfl)); (go_simp <;> (try simp (disch := omega) only [wrap_id, sub_left, zac]) <;> rfl)) | ((first | ((with_reducible apply ow_load1 st); exact rfl; exact inferInstance; exact rfl; (first | exact get0 | exact get1 | exact get2 | exact get3 | exact get4 | exact get5 | exact get6 | exact get7)) | ((with_reducible apply ow_loadN st); exact rfl; exact inferInstance; exact rfl; (first | exact get0 | exact get1 | exact get2 | exact get3 | exact get4 | exact get5 | exact get6 | exact get7); ((try simp only [zta, ztz, zda, zdz, zca, zcn, zan, zsz, zss]) <;> exact rfl))); exact rfl) | ((first | ((with_reducible apply ow_box st); exact rfl; (go_simp <;> (try simp (disch := omega) only [wrap_id, sub_left, zac]) <;> rfl); (go_simp <;> (try simp (disch := omega) only [wrap_id, sub_left, zac]) <;> rfl)) | ((with_reducible apply ow_newSlice st); exact rfl; (go_simp <;> (try simp (disch := omega) only [wrap_id, sub_left, zac]) <;> rfl); exact rfl) | ((with_reducible apply ow_alloc st); exact rfl; exact inferInstance; (go_simp <;> (try simp (disch := omega) only [wrap_id, sub_left, zac]) <;> rfl))); (try clear st); intro b w' st) | ((first | ((with_reducible apply ow_store1' st); exact rfl; exact inferInstance; exact rfl; (first | exact get0 | exact get1 | exact get2 | exact get3 | exact get4 | exact get5 | exact get6 | exact get7); (go_simp <;> (try simp (disch := omega) only [wrap_id, sub_left, zac]) <;> rfl)) | ((with_reducible apply ow_storeN' st); exact rfl; exact inferInstance; exact rfl; (first | exact get0 | exact get1 | exact get2 | exact get3 | exact get4 | exact get5 | exact get6 | exact get7); exact rfl)); exact rfl; exact rfl; (simp <;> done); ((try simp only [zta, ztz, zda, zdz, zca, zcn, zan, zsz, zss]) <;> exact rfl); (try clear st); intro w' st) | ((with_reducible apply ow_old1 st); exact rfl; exact inferInstance; exact rfl; assumption; assumption) | ((with_reducible apply ow_old4 st); exact rfl; exact inferInstance; exact rfl; assumption; assumption; assumption; assumption; assumption) | fail | ((with_reducible apply ow_eval); (go_simp <;> (try simp (disch := omega) only [wrap_id, sub_left, zac]) <;> rfl); first | (with_reducible apply up_value) | (with_reducible apply up_skip) | ((with_reducible apply up_enter); first | fail))); refine WL.next hK (by simp only [Act.put, zpt, zsz, zss]; exact rfl) ?_; clear hK K) | (refine WL.skip ?_ (by simp only [Act.put, zpt, zsz, zss]; exact rfl) ?_; (first | exact rfl | (simp [Region.wanted, yielded, *] <;> done) | (simp [Region.wanted, yielded] <;> omega))))); (try refine WL.nil ?_))
        go_ret2
        exact ⟨by rw [hneg.out]; rfl, st.below⟩
  · have i2 : ((x0 : Int) == 45) = false := by rw [beq_eq_false_iff_ne]; omega
    have hno : Hid (L.n5 s = false → L.rNum s = (0, false)) := Lib.hid fun h => L.rNum_no h fun e => by
      rw [L.head_at h0] at e
      have e2 : Ck.at_ 0 s 0 = 45 := Option.some.inj e
      exact absurd (hx0.symm.trans (by rw [e2]; rfl)) h45
    clear h45
    by_cases h5 : 5 < s.length
    · have hx := Lib.hid (hno.out (L.n5_long (.inr (.inl h5))))
      have h5' : (5 : Int) < (s.length : Int) := by omega
      clear h5
      go_enter Tryz.func87, Tryz.ntmps87
      go_wp2_with (refine WL.out ?_; (repeat (first | (refine WL.op ?_ ?_; (first | exact rfl | (simp [Region.wanted, yielded, *] <;> done) | (simp [Region.wanted, yielded] <;> omega)); intro K hK; (first | ((first | ((with_reducible apply ow_move); exact rfl) | ((with_reducible apply ow_assign); exact rfl)); (go_simp <;> (try simp (disch := omega) only [wrap_id, sub_left, zac]) <;> rfl)) | ((first | ((with_reducible apply ow_load1 st); exact rfl; exact inferInstance; exact rfl; (first | exact get0 | exact get1 | exact get2 | exact get3 | exact get4 | exact get5 | exact get6 | exact get7)) | ((with_reducible apply ow_loadN st); exact rfl; exact inferInstance; exact rfl; (first | exact get0 | exact get1 | exact get2 | exact get3 | exact get4 | exact get5 | exact get6 | exact get7); ((try simp only [zta, ztz, zda, zdz, zca, zcn, zan, zsz, zss]) <;> exact rfl))); exact rfl) | ((first | ((with_reducible apply ow_box st); exact rfl; (go_simp <;> (try simp (disch := omega) only [wrap_id, sub_left, zac]) <;> rfl); (go_simp <;> (try simp (disch := omega) only [wrap_id, sub_left, zac]) <;> rfl)) | ((with_reducible apply ow_newSlice st); exact rfl; (go_simp <;> (try simp (disch := omega) only [wrap_id, sub_left, zac]) <;> rfl); exact rfl) | ((with_reducible apply ow_alloc st); exact rfl; exact inferInstance; (go_simp <;> (try simp (disch := omega) only [wrap_id, sub_left, zac]) <;> rfl))); (try clear st); intro b w' st) | ((first | ((with_reducible apply ow_store1' st); exact rfl; exact inferInstance; exact rfl; (first | exact get0 | exact get1 | exact get2 | exact get3 | exact get4 | exact get5 | exact get6 | exact get7); (go_simp <;> (try simp (disch := omega) only [wrap_id, sub_left, zac]) <;> rfl)) | ((with_reducible apply ow_storeN' st); exact rfl; exact inferInstance; exact rfl; (first | exact get0 | exact get1 | exact get2 | exact get3 | exact get4 | exact get5 | exact get6 | exact get7); exact rfl)); exact rfl; exact rfl; (simp <;> done); ((try simp only [zta, ztz, zda, zdz, zca, zcn, zan, zsz, zss]) <;> exact rfl); (try clear st); intro w' st) | ((with_reducible apply ow_old1 st); exact rfl; exact inferInstance; exact rfl; assumption; assumption) | ((with_reducible apply ow_old4 st); exact rfl; exact inferInstance; exact rfl; assumption; assumption; assumption; assumption; assumption) | ((with_reducible apply ow_char (0)); exact rfl; exact Tryz.underlying9; exact rfl; exact rfl; (focus (first | exact rfl | exact (by omega))); (focus omega)) | ((with_reducible apply ow_eval); (go_simp <;> (try simp (disch := omega) only [wrap_id, sub_left, zac]) <;> rfl); first | (with_reducible apply up_value) | (with_reducible apply up_skip) | ((with_reducible apply up_enter); first | fail))); refine WL.next hK (by simp only [Act.put, zpt, zsz, zss]; exact rfl) ?_; clear hK K) | (refine WL.skip ?_ (by simp only [Act.put, zpt, zsz, zss]; exact rfl) ?_; (first | exact rfl | (simp [Region.wanted, yielded, *] <;> done) | (simp [Region.wanted, yielded] <;> omega))))); (try refine WL.nil ?_))
      go_ret2
      exact ⟨NO.out hx.out, st.below⟩
    have h5' : ¬ (5 : Int) < (s.length : Int) := by omega
    by_cases hz : x0 = 48 ∧ 1 < s.length
    · obtain ⟨hz1, hz2⟩ := hz
      have hx := Lib.hid (hno.out (L.n5_long (.inr (.inr ⟨HX0.out.trans hz1, hz2⟩))))
      have i3 : ((x0 : Int) == 48) = true := by rw [hz1]; rfl
      have h1 : (1 : Int) < (s.length : Int) := by omega
      clear h5 hz2 hz1
      go_enter Tryz.func87, Tryz.ntmps87
      go_wp2_with (refine WL.out ?_; (repeat (first | (refine WL.op ?_ ?_; (first | exact rfl | (simp [Region.wanted, yielded, *] <;> done) | (simp [Region.wanted, yielded] <;> omega)); intro K hK; (first | ((first | ((with_reducible apply ow_move); exact rfl) | ((with_reducible apply ow_assign); exact rfl)); (go_simp <;> (try simp (disch := omega) only [wrap_id, sub_left, zac]) <;> rfl)) | ((first | ((with_reducible apply ow_load1 st); exact rfl; exact inferInstance; exact rfl; (first | exact get0 | exact get1 | exact get2 | exact get3 | exact get4 | exact get5 | exact get6 | exact get7)) | ((with_reducible apply ow_loadN st); exact rfl; exact inferInstance; exact rfl; (first | exact get0 | exact get1 | exact get2 | exact get3 | exact get4 | exact get5 | exact get6 | exact get7); ((try simp only [zta, ztz, zda, zdz, zca, zcn, zan, zsz, zss]) <;> exact rfl))); exact rfl) | ((first | ((with_reducible apply ow_box st); exact rfl; (go_simp <;> (try simp (disch := omega) only [wrap_id, sub_left, zac]) <;> rfl); (go_simp <;> (try simp (disch := omega) only [wrap_id, sub_left, zac]) <;> rfl)) | ((with_reducible apply ow_newSlice st); exact rfl; (go_simp <;> (try simp (disch := omega) only [wrap_id, sub_left, zac]) <;> rfl); exact rfl) | ((with_reducible apply ow_alloc st); exact rfl; exact inferInstance; (go_simp <;> (try simp (disch := omega) only [wrap_id, sub_left, zac]) <;> rfl))); (try clear st); intro b w' st) | ((first | ((with_reducible apply ow_store1' st); exact rfl; exact inferInstance; exact rfl; (first | exact get0 | exact get1 | exact get2 | exact get3 | exact get4 | exact get5 | exact get6 | exact get7); (go_simp <;> (try simp (disch := omega) only [wrap_id, sub_left, zac]) <;> rfl)) | ((with_reducible apply ow_storeN' st); exact rfl; exact inferInstance; exact rfl; (first | exact get0 | exact get1 | exact get2 | exact get3 | exact get4 | exact get5 | exact get6 | exact get7); exact rfl)); exact rfl; exact rfl; (simp <;> done); ((try simp only [zta, ztz, zda, zdz, zca, zcn, zan, zsz, zss]) <;> exact rfl); (try clear st); intro w' st) | ((with_reducible apply ow_old1 st); exact rfl; exact inferInstance; exact rfl; assumption; assumption) | ((with_reducible apply ow_old4 st); exact rfl; exact inferInstance; exact rfl; assumption; assumption; assumption; assumption; assumption) | ((with_reducible apply ow_char (0)); exact rfl; exact Tryz.underlying9; exact rfl; exact rfl; (focus (first | exact rfl | exact (by omega))); (focus omega)) | ((with_reducible apply ow_eval); (go_simp <;> (try simp (disch := omega) only [wrap_id, sub_left, zac]) <;> rfl); first | (with_reducible apply up_value) | (with_reducible apply up_skip) | ((with_reducible apply up_enter); first | fail))); refine WL.next hK (by simp only [Act.put, zpt, zsz, zss]; exact rfl) ?_; clear hK K) | (refine WL.skip ?_ (by simp only [Act.put, zpt, zsz, zss]; exact rfl) ?_; (first | exact rfl | (simp [Region.wanted, yielded, *] <;> done) | (simp [Region.wanted, yielded] <;> omega))))); (try refine WL.nil ?_))
      go_ret2
      exact ⟨NO.out hx.out, st.below⟩
    have HZ : Hid (¬ ((Ck.at_ 0 s 0).toNat = 48 ∧ 1 < s.length)) := Lib.hid (by rw [HX0.out]; exact hz)
    have hcase : (x0 = 48 ∧ ¬ (1 : Int) < (s.length : Int)) ∨ ((x0 : Int) == 48) = false := by
      by_cases e : x0 = 48
      · exact .inl ⟨e, by have := fun q => hz ⟨e, q⟩; omega⟩
      · exact .inr (by rw [beq_eq_false_iff_ne]; omega)
    have H5 := Lib.hid h5
    clear hz h5
    rcases hcase with ⟨rfl, z2⟩ | z1
    all_goals
      go_enter Tryz.func87, Tryz.ntmps87
      go_wp2_with (refine WL.out ?_; (repeat (first | (refine WL.op ?_ ?_; (first | exact rfl | (simp [Region.wanted, yielded, *] <;> done) | (simp [Region.wanted, yielded] <;> omega)); intro K hK; (first | ((first | ((with_reducible apply ow_move); exact rfl) | ((with_reducible apply ow_assign); exact rfl)); (go_simp <;> (try simp (disch := omega) only [wrap_id, sub_left, zac]) <;> rfl)) | ((first | ((with_reducible apply ow_load1 st); exact rfl; exact inferInstance; exact rfl; (first | exact get0 | exact get1 | exact get2 | exact get3 | exact get4 | exact get5 | exact get6 | exact get7)) | ((with_reducible apply ow_loadN st); exact rfl; exact inferInstance; exact rfl; (first | exact get0 | exact get1 | exact get2 | exact get3 | exact get4 | exact get5 | exact get6 | exact get7); ((try simp only [zta, ztz, zda, zdz, zca, zcn, zan, zsz, zss]) <;> exact rfl))); exact rfl) | ((first | ((with_reducible apply ow_box st); exact rfl; (go_simp <;> (try simp (disch := omega) only [wrap_id, sub_left, zac]) <;> rfl); (go_simp <;> (try simp (disch := omega) only [wrap_id, sub_left, zac]) <;> rfl)) | ((with_reducible apply ow_newSlice st); exact rfl; (go_simp <;> (try simp (disch := omega) only [wrap_id, sub_left, zac]) <;> rfl); exact rfl) | ((with_reducible apply ow_alloc st); exact rfl; exact inferInstance; (go_simp <;> (try simp (disch := omega) only [wrap_id, sub_left, zac]) <;> rfl))); (try clear st); intro b w' st) | ((first | ((with_reducible apply ow_store1' st); exact rfl; exact inferInstance; exact rfl; (first | exact get0 | exact get1 | exact get2 | exact get3 | exact get4 | exact get5 | exact get6 | exact get7); (go_simp <;> (try simp (disch := omega) only [wrap_id, sub_left, zac]) <;> rfl)) | ((with_reducible apply ow_storeN' st); exact rfl; exact inferInstance; exact rfl; (first | exact get0 | exact get1 | exact get2 | exact get3 | exact get4 | exact get5 | exact get6 | exact get7); exact rfl)); exact rfl; exact rfl; (simp <;> done); ((try simp only [zta, ztz, zda, zdz, zca, zcn, zan, zsz, zss]) <;> exact rfl); (try clear st); intro w' st) | ((with_reducible apply ow_old1 st); exact rfl; exact inferInstance; exact rfl; assumption; assumption) | ((with_reducible apply ow_old4 st); exact rfl; exact inferInstance; exact rfl; assumption; assumption; assumption; assumption; assumption) | ((with_reducible apply ow_char (0)); exact rfl; exact Tryz.underlying9; exact rfl; exact rfl; (focus (first | exact rfl | exact (by omega))); (focus omega)) | ((with_reducible apply ow_eval); (go_simp <;> (try simp (disch := omega) only [wrap_id, sub_left, zac]) <;> rfl); first | (with_reducible apply up_value) | (with_reducible apply up_skip) | ((with_reducible apply up_enter); first | fail))); refine WL.next hK (by simp only [Act.put, zpt, zsz, zss]; exact rfl) ?_; clear hK K) | (refine WL.skip ?_ (by simp only [Act.put, zpt, zsz, zss]; exact rfl) ?_; (first | exact rfl | (simp [Region.wanted, yielded, *] <;> done) | (simp [Region.wanted, yielded] <;> omega))))); (try refine WL.nil ?_))
      go_loopw [7, 8] (fun v i wr => ∃ k : Nat, k ≤ s.length ∧ i = .int .i64 (k : Int) ∧ v = .int .i64 (L.val (s.take k) : Nat) ∧ Hid (L.AllDig (s.take k)) ∧ St w wr []) (fun _ i _ => s.length - (intOf i).toNat)
      case atStart => exact ⟨0, by omega, rfl, rfl, Lib.hid (by intro c hc; simp at hc), st⟩
      case round =>
        clear st
        obtain ⟨k, hk, rfl, rfl, hd, st⟩ := hrel
        have hv := L.val_small hd.out (by have := H5.out; omega)
        by_cases hlt : k < s.length
        · obtain ⟨x, hxk⟩ : ∃ x, (Ck.at_ 0 s k).toNat = x := ⟨_, rfl⟩
          have HXK := Lib.hid hxk
          have hdj : Hid (s[k].toNat = x) := Lib.hid (by rw [← HXK.out, Ck.at_eq 0 s k hlt])
          have HLT := Lib.hid hlt
          obtain ⟨V, hV⟩ : ∃ V, V = L.val (s.take k) := ⟨_, rfl⟩
          rw [← hV] at hv ⊢
          have HV := Lib.hid hV
          clear hV
          by_cases c0 : x < 48
          · have hx := Lib.hid (hno.out (L.n5_no hlt (by rw [HXK.out]; omega)))
            go_wp2_with (refine WL.out ?_; (repeat (first | (refine WL.op ?_ ?_; (first | exact rfl | (simp [Region.wanted, yielded, *] <;> done) | (simp [Region.wanted, yielded] <;> omega)); intro K hK; (first | ((first | ((with_reducible apply ow_move); exact rfl) | ((with_reducible apply ow_assign); exact rfl)); (go_simp <;> (try simp (disch := omega) only [wrap_id, sub_left, zac]) <;> rfl)) | ((first | ((with_reducible apply ow_load1 st); exact rfl; exact inferInstance; exact rfl; (first | exact get0 | exact get1 | exact get2 | exact get3 | exact get4 | exact get5 | exact get6 | exact get7)) | ((with_reducible apply ow_loadN st); exact rfl; exact inferInstance; exact rfl; (first | exact get0 | exact get1 | exact get2 | exact get3 | exact get4 | exact get5 | exact get6 | exact get7); ((try simp only [zta, ztz, zda, zdz, zca, zcn, zan, zsz, zss]) <;> exact rfl))); exact rfl) | ((first | ((with_reducible apply ow_box st); exact rfl; (go_simp <;> (try simp (disch := omega) only [wrap_id, sub_left, zac]) <;> rfl); (go_simp <;> (try simp (disch := omega) only [wrap_id, sub_left, zac]) <;> rfl)) | ((with_reducible apply ow_newSlice st); exact rfl; (go_simp <;> (try simp (disch := omega) only [wrap_id, sub_left, zac]) <;> rfl); exact rfl) | ((with_reducible apply ow_alloc st); exact rfl; exact inferInstance; (go_simp <;> (try simp (disch := omega) only [wrap_id, sub_left, zac]) <;> rfl))); (try clear st); intro b w' st) | ((first | ((with_reducible apply ow_store1' st); exact rfl; exact inferInstance; exact rfl; (first | exact get0 | exact get1 | exact get2 | exact get3 | exact get4 | exact get5 | exact get6 | exact get7); (go_simp <;> (try simp (disch := omega) only [wrap_id, sub_left, zac]) <;> rfl)) | ((with_reducible apply ow_storeN' st); exact rfl; exact inferInstance; exact rfl; (first | exact get0 | exact get1 | exact get2 | exact get3 | exact get4 | exact get5 | exact get6 | exact get7); exact rfl)); exact rfl; exact rfl; (simp <;> done); ((try simp only [zta, ztz, zda, zdz, zca, zcn, zan, zsz, zss]) <;> exact rfl); (try clear st); intro w' st) | ((with_reducible apply ow_old1 st); exact rfl; exact inferInstance; exact rfl; assumption; assumption) | ((with_reducible apply ow_old4 st); exact rfl; exact inferInstance; exact rfl; assumption; assumption; assumption; assumption; assumption) | ((with_reducible apply ow_char (k)); exact rfl; exact Tryz.underlying9; exact rfl; exact rfl; (focus (first | exact rfl | exact (by omega))); (focus omega)) | ((with_reducible apply ow_eval); (go_simp <;> (try simp (disch := omega) only [wrap_id, sub_left, zac]) <;> rfl); first | (with_reducible apply up_value) | (with_reducible apply up_skip) | ((with_reducible apply up_enter); first | fail))); refine WL.next hK (by simp only [Act.put, zpt, zsz, zss]; exact rfl) ?_; clear hK K) | (refine WL.skip ?_ (by simp only [Act.put, zpt, zsz, zss]; exact rfl) ?_; (first | exact rfl | (simp [Region.wanted, yielded, *] <;> done) | (simp [Region.wanted, yielded] <;> omega))))); (try refine WL.nil ?_))
            go_ret2
            exact ⟨NO.out hx.out, st.below⟩
          by_cases c1 : 57 < x
          · have hx := Lib.hid (hno.out (L.n5_no hlt (by rw [HXK.out]; omega)))
            go_wp2_with (refine WL.out ?_; (repeat (first | (refine WL.op ?_ ?_; (first | exact rfl | (simp [Region.wanted, yielded, *] <;> done) | (simp [Region.wanted, yielded] <;> omega)); intro K hK; (first | ((first | ((with_reducible apply ow_move); exact rfl) | ((with_reducible apply ow_assign); exact rfl)); (go_simp <;> (try simp (disch := omega) only [wrap_id, sub_left, zac]) <;> rfl)) | ((first | ((with_reducible apply ow_load1 st); exact rfl; exact inferInstance; exact rfl; (first | exact get0 | exact get1 | exact get2 | exact get3 | exact get4 | exact get5 | exact get6 | exact get7)) | ((with_reducible apply ow_loadN st); exact rfl; exact inferInstance; exact rfl; (first | exact get0 | exact get1 | exact get2 | exact get3 | exact get4 | exact get5 | exact get6 | exact get7); ((try simp only [zta, ztz, zda, zdz, zca, zcn, zan, zsz, zss]) <;> exact rfl))); exact rfl) | ((first | ((with_reducible apply ow_box st); exact rfl; (go_simp <;> (try simp (disch := omega) only [wrap_id, sub_left, zac]) <;> rfl); (go_simp <;> (try simp (disch := omega) only [wrap_id, sub_left, zac]) <;> rfl)) | ((with_reducible apply ow_newSlice st); exact rfl; (go_simp <;> (try simp (disch := omega) only [wrap_id, sub_left, zac]) <;> rfl); exact rfl) | ((with_reducible apply ow_alloc st); exact rfl; exact inferInstance; (go_simp <;> (try simp (disch := omega) only [wrap_id, sub_left, zac]) <;> rfl))); (try clear st); intro b w' st) | ((first | ((with_reducible apply ow_store1' st); exact rfl; exact inferInstance; exact rfl; (first | exact get0 | exact get1 | exact get2 | exact get3 | exact get4 | exact get5 | exact get6 | exact get7); (go_simp <;> (try simp (disch := omega) only [wrap_id, sub_left, zac]) <;> rfl)) | ((with_reducible apply ow_storeN' st); exact rfl; exact inferInstance; exact rfl; (first | exact get0 | exact get1 | exact get2 | exact get3 | exact get4 | exact get5 | exact get6 | exact get7); exact rfl)); exact rfl; exact rfl; (simp <;> done); ((try simp only [zta, ztz, zda, zdz, zca, zcn, zan, zsz, zss]) <;> exact rfl); (try clear st); intro w' st) | ((with_reducible apply ow_old1 st); exact rfl; exact inferInstance; exact rfl; assumption; assumption) | ((with_reducible apply ow_old4 st); exact rfl; exact inferInstance; exact rfl; assumption; assumption; assumption; assumption; assumption) | ((with_reducible apply ow_char (k)); exact rfl; exact Tryz.underlying9; exact rfl; exact rfl; (focus (first | exact rfl | exact (by omega))); (focus omega)) | ((with_reducible apply ow_eval); (go_simp <;> (try simp (disch := omega) only [wrap_id, sub_left, zac]) <;> rfl); first | (with_reducible apply up_value) | (with_reducible apply up_skip) | ((with_reducible apply up_enter); first | fail))); refine WL.next hK (by simp only [Act.put, zpt, zsz, zss]; exact rfl) ?_; clear hK K) | (refine WL.skip ?_ (by simp only [Act.put, zpt, zsz, zss]; exact rfl) ?_; (first | exact rfl | (simp [Region.wanted, yielded, *] <;> done) | (simp [Region.wanted, yielded] <;> omega))))); (try refine WL.nil ?_))
            go_ret2
            exact ⟨NO.out hx.out, st.below⟩
          have hst := Lib.hid (L.take_step HLT.out hdj.out (by omega))
          have hd2 := Lib.hid (L.dig_step HLT.out hdj.out hd.out (by omega) (by omega))
          have hw := HW8.out (x : Int) (by omega) (by omega)
          go_wp2_with (refine WL.out ?_; (repeat (first | (refine WL.op ?_ ?_; (first | exact rfl | (simp [Region.wanted, yielded, *] <;> done) | (simp [Region.wanted, yielded] <;> omega)); intro K hK; (first | ((first | ((with_reducible apply ow_move); exact rfl) | ((with_reducible apply ow_assign); exact rfl)); (go_simp <;> (try simp (disch := omega) only [wrap_id, sub_left, zac]) <;> rfl)) | ((first | ((with_reducible apply ow_load1 st); exact rfl; exact inferInstance; exact rfl; (first | exact get0 | exact get1 | exact get2 | exact get3 | exact get4 | exact get5 | exact get6 | exact get7)) | ((with_reducible apply ow_loadN st); exact rfl; exact inferInstance; exact rfl; (first | exact get0 | exact get1 | exact get2 | exact get3 | exact get4 | exact get5 | exact get6 | exact get7); ((try simp only [zta, ztz, zda, zdz, zca, zcn, zan, zsz, zss]) <;> exact rfl))); exact rfl) | ((first | ((with_reducible apply ow_box st); exact rfl; (go_simp <;> (try simp (disch := omega) only [wrap_id, sub_left, zac]) <;> rfl); (go_simp <;> (try simp (disch := omega) only [wrap_id, sub_left, zac]) <;> rfl)) | ((with_reducible apply ow_newSlice st); exact rfl; (go_simp <;> (try simp (disch := omega) only [wrap_id, sub_left, zac]) <;> rfl); exact rfl) | ((with_reducible apply ow_alloc st); exact rfl; exact inferInstance; (go_simp <;> (try simp (disch := omega) only [wrap_id, sub_left, zac]) <;> rfl))); (try clear st); intro b w' st) | ((first | ((with_reducible apply ow_store1' st); exact rfl; exact inferInstance; exact rfl; (first | exact get0 | exact get1 | exact get2 | exact get3 | exact get4 | exact get5 | exact get6 | exact get7); (go_simp <;> (try simp (disch := omega) only [wrap_id, sub_left, zac]) <;> rfl)) | ((with_reducible apply ow_storeN' st); exact rfl; exact inferInstance; exact rfl; (first | exact get0 | exact get1 | exact get2 | exact get3 | exact get4 | exact get5 | exact get6 | exact get7); exact rfl)); exact rfl; exact rfl; (simp <;> done); ((try simp only [zta, ztz, zda, zdz, zca, zcn, zan, zsz, zss]) <;> exact rfl); (try clear st); intro w' st) | ((with_reducible apply ow_old1 st); exact rfl; exact inferInstance; exact rfl; assumption; assumption) | ((with_reducible apply ow_old4 st); exact rfl; exact inferInstance; exact rfl; assumption; assumption; assumption; assumption; assumption) | ((with_reducible apply ow_char (k)); exact rfl; exact Tryz.underlying9; exact rfl; exact rfl; (focus (first | exact rfl | exact (by omega))); (focus omega)) | ((with_reducible apply ow_eval); (go_simp <;> (try simp (disch := omega) only [wrap_id, sub_left, zac]) <;> rfl); first | (with_reducible apply up_value) | (with_reducible apply up_skip) | ((with_reducible apply up_enter); first | fail))); refine WL.next hK (by simp only [Act.put, zpt, zsz, zss]; exact rfl) ?_; clear hK K) | (refine WL.skip ?_ (by simp only [Act.put, zpt, zsz, zss]; exact rfl) ?_; (first | exact rfl | (simp [Region.wanted, yielded, *] <;> done) | (simp [Region.wanted, yielded] <;> omega))))); (try refine WL.nil ?_))
          exact ⟨⟨k + 1, by omega, by go_num, by rw [hst.out, ← HV.out], hd2, st⟩, by simp [intOf]; omega⟩
        · have hle : s.take k = s := List.take_of_length_le (by omega)
          have hd2 := hd.out
          rw [hle] at hd2 ⊢
          have hx := Lib.hid (L.rNum_yes (L.n5_yes hd2 h0 (by have := H5.out; omega) HZ.out))
          clear hd hd2 hle
          go_wp2_with (refine WL.out ?_; (repeat (first | (refine WL.op ?_ ?_; (first | exact rfl | (simp [Region.wanted, yielded, *] <;> done) | (simp [Region.wanted, yielded] <;> omega)); intro K hK; (first | ((first | ((with_reducible apply ow_move); exact rfl) | ((with_reducible apply ow_assign); exact rfl)); (go_simp <;> (try simp (disch := omega) only [wrap_id, sub_left, zac]) <;> rfl)) | ((first | ((with_reducible apply ow_load1 st); exact rfl; exact inferInstance; exact rfl; (first | exact get0 | exact get1 | exact get2 | exact get3 | exact get4 | exact get5 | exact get6 | exact get7)) | ((with_reducible apply ow_loadN st); exact rfl; exact inferInstance; exact rfl; (first | exact get0 | exact get1 | exact get2 | exact get3 | exact get4 | exact get5 | exact get6 | exact get7); ((try simp only [zta, ztz, zda, zdz, zca, zcn, zan, zsz, zss]) <;> exact rfl))); exact rfl) | ((first | ((with_reducible apply ow_box st); exact rfl; (go_simp <;> (try simp (disch := omega) only [wrap_id, sub_left, zac]) <;> rfl); (go_simp <;> (try simp (disch := omega) only [wrap_id, sub_left, zac]) <;> rfl)) | ((with_reducible apply ow_newSlice st); exact rfl; (go_simp <;> (try simp (disch := omega) only [wrap_id, sub_left, zac]) <;> rfl); exact rfl) | ((with_reducible apply ow_alloc st); exact rfl; exact inferInstance; (go_simp <;> (try simp (disch := omega) only [wrap_id, sub_left, zac]) <;> rfl))); (try clear st); intro b w' st) | ((first | ((with_reducible apply ow_store1' st); exact rfl; exact inferInstance; exact rfl; (first | exact get0 | exact get1 | exact get2 | exact get3 | exact get4 | exact get5 | exact get6 | exact get7); (go_simp <;> (try simp (disch := omega) only [wrap_id, sub_left, zac]) <;> rfl)) | ((with_reducible apply ow_storeN' st); exact rfl; exact inferInstance; exact rfl; (first | exact get0 | exact get1 | exact get2 | exact get3 | exact get4 | exact get5 | exact get6 | exact get7); exact rfl)); exact rfl; exact rfl; (simp <;> done); ((try simp only [zta, ztz, zda, zdz, zca, zcn, zan, zsz, zss]) <;> exact rfl); (try clear st); intro w' st) | ((with_reducible apply ow_old1 st); exact rfl; exact inferInstance; exact rfl; assumption; assumption) | ((with_reducible apply ow_old4 st); exact rfl; exact inferInstance; exact rfl; assumption; assumption; assumption; assumption; assumption) | fail | ((with_reducible apply ow_eval); (go_simp <;> (try simp (disch := omega) only [wrap_id, sub_left, zac]) <;> rfl); first | (with_reducible apply up_value) | (with_reducible apply up_skip) | ((with_reducible apply up_enter); first | fail))); refine WL.next hK (by simp only [Act.put, zpt, zsz, zss]; exact rfl) ?_; clear hK K) | (refine WL.skip ?_ (by simp only [Act.put, zpt, zsz, zss]; exact rfl) ?_; (first | exact rfl | (simp [Region.wanted, yielded, *] <;> done) | (simp [Region.wanted, yielded] <;> omega))))); (try refine WL.nil ?_))
          go_ret2
          exact ⟨by rw [hx.out]; rfl, st.below⟩
end Go.Proofs.YtgcjejajljhnaaaGreatDoor
namespace Go.Proofs.YtgcjejajljhnaaaGreatDoor
open Go.RowKit Go.Hp
namespace L
def fmtF (k r i : Int) : List UInt8 := Lib.itoa k ++ [32] ++ Lib.itoa r ++ [32] ++ Lib.itoa i
def parseF (s : List UInt8) : (Int × Int × Int) × Int :=
  match cutL 32 s with
  | [a, b, c] => if n5 a && (n5 b && n5 c) then (if (11 : Int) ≤ (val a : Nat) then ((0, 0, 0), 15) else (((val a : Nat), (val b : Nat), (val c : Nat)), 0)) else ((0, 0, 0), 7)
  | _ => ((0, 0, 0), 7)
theorem itoa_len {n : Int} (h0 : -9223372036854775808 ≤ n) (h1 : n ≤ 9223372036854775807) : (Lib.itoa n).length ≤ 21 := by
  by_cases hz : n = 0
  · subst hz
    rw [show ((0 : Int)) = ((0 : Nat) : Int) from rfl, itoa_nat, dd_small (by decide)]
    simp
  · have := ddz_len n.natAbs (by omega)
    by_cases hn : n < 0
    · rw [itoa_neg hn]; simp only [List.length_cons]; omega
    · rw [itoa_pos (by omega)]; omega
end L
theorem results_cell {fn : Func} {a u : Tmp} {t : TypeId} (h : fn.results = #[.cell a t, .tmp u]) (tmps : Array Value) (P : Program) (w : World) {b : Nat} {v : Value} (ha : tmps.getD a undef = .pointer (some ⟨b, 0, none⟩)) (hl : (loadVar t ⟨b, 0, none⟩).run P w = .ok v w) : (results fn tmps).run P w = .ok (.tuple #[v, tmps.getD u undef]) w := by
  rw [Array.getD_eq_getD_getElem?] at ha
  simp [results, h, ha, hl, asAddr]
theorem load_cells {P : Program} {t n : Nat} [hT : AggT P t n] {b : Nat} {vs : List Value} {w : World} (hn : vs.length = n) (hc : OldC w b 0 vs) : (loadVar t ⟨b, 0, none⟩).run P w = .ok (.agg vs.toArray) w := by
  have h := run_loadN (P := P) (t := t) (w := w) (b := b) (o := 0) (vs := vs) hn hc
  simpa [Instr.loadAt, Instr.sureAddr] using h
theorem Yphi.cat {P : Program} {ops : Array Oper} {o : Oper} {a : Act} {w : World} {t ty : TypeId} {x y : Operand} {l m : List UInt8} (hw : Region.wanted o (yielded ops a.tmps) = true) (ho : o.op = .binOp .add t x y ty) (hx : a.eval x = .string ⟨l.toArray⟩) (hy : a.eval y = .string ⟨m.toArray⟩) (hlen : (l ++ m).length ≤ 1000000000) :
    Yphi P ops o a w (isV (.string ⟨(l ++ m).toArray⟩)) :=
  .inl ⟨hw, (ow_cat ho hx hy hlen ⟨_, rfl, Below.refl _ _, rfl⟩).out⟩
set_option maxHeartbeats 1000000 in
theorem FormatFinding_any (k r i : Int) (w : World) (hE : Env w) (k0 : -9223372036854775808 ≤ k) (k1 : k ≤ 9223372036854775807) (r0 : -9223372036854775808 ≤ r) (r1 : r ≤ 9223372036854775807) (i0 : -9223372036854775808 ≤ i) (i1 : i ≤ 9223372036854775807) :
    Calls Tryz.prog 41 #[.agg #[.int .i64 k, .int .i64 r, .int .i64 i]] w fun e w' => e = .returned (.string ⟨(L.fmtF k r i).toArray⟩) ∧ Below w.heap.size w w' := by
  have HE := Lib.hid hE
  clear hE
  have lk := L.itoa_len k0 k1
  have lr := L.itoa_len r0 r1
  have li := L.itoa_len i0 i1
  have st := St.start w
  go_enter Tryz.func41, Tryz.ntmps41
  go_wp2_with (refine WL.out ?_; (repeat (first | (refine WL.op ?_ ?_; (first | exact rfl | (simp [Region.wanted, yielded, *] <;> done) | (simp [Region.wanted, yielded] <;> omega)); intro K hK; (first | ((first | ((with_reducible apply ow_move); exact rfl) | ((with_reducible apply ow_assign); exact rfl)); (go_simp <;> (try simp (disch := omega) only [wrap_id, sub_left, zac]) <;> rfl)) | ((first | ((with_reducible apply ow_load1 st); exact rfl; exact inferInstance; exact rfl; (first | exact get0 | exact get1 | exact get2 | exact get3 | exact get4 | exact get5 | exact get6 | exact get7)) | ((with_reducible apply ow_loadN st); exact rfl; exact inferInstance; exact rfl; (first | exact get0 | exact get1 | exact get2 | exact get3 | exact get4 | exact get5 | exact get6 | exact get7); ((try simp only [zta, ztz, zda, zdz, zca, zcn, zan, zsz, zss]) <;> exact rfl))); exact rfl) | ((first | ((with_reducible apply ow_box st); exact rfl; (go_simp <;> (try simp (disch := omega) only [wrap_id, sub_left, zac]) <;> rfl); (go_simp <;> (try simp (disch := omega) only [wrap_id, sub_left, zac]) <;> rfl)) | ((with_reducible apply ow_newSlice st); exact rfl; (go_simp <;> (try simp (disch := omega) only [wrap_id, sub_left, zac]) <;> rfl); exact rfl) | ((with_reducible apply ow_alloc st); exact rfl; exact inferInstance; (go_simp <;> (try simp (disch := omega) only [wrap_id, sub_left, zac]) <;> rfl))); (try clear st); intro b w' st) | ((first | ((with_reducible apply ow_store1' st); exact rfl; exact inferInstance; exact rfl; (first | exact get0 | exact get1 | exact get2 | exact get3 | exact get4 | exact get5 | exact get6 | exact get7); (go_simp <;> (try simp (disch := omega) only [wrap_id, sub_left, zac]) <;> rfl)) | ((with_reducible apply ow_storeN' st); exact rfl; exact inferInstance; exact rfl; (first | exact get0 | exact get1 | exact get2 | exact get3 | exact get4 | exact get5 | exact get6 | exact get7); exact rfl)); exact rfl; exact rfl; (simp <;> done); ((try simp only [zta, ztz, zda, zdz, zca, zcn, zan, zsz, zss]) <;> exact rfl); (try clear st); intro w' st) | ((with_reducible apply ow_old1 st); exact rfl; exact inferInstance; exact rfl; assumption; assumption) | ((with_reducible apply ow_old4 st); exact rfl; exact inferInstance; exact rfl; assumption; assumption; assumption; assumption; assumption) | fail | ((with_reducible apply ow_eval); (go_simp <;> (try simp (disch := omega) only [wrap_id, sub_left, zac]) <;> rfl); first | (with_reducible apply up_value) | (with_reducible apply up_skip) | ((with_reducible apply up_enter); first | fail))); refine WL.next hK (by simp only [Act.put, zpt, zsz, zss]; exact rfl) ?_; clear hK K) | (refine WL.skip ?_ (by simp only [Act.put, zpt, zsz, zss]; exact rfl) ?_; (first | exact rfl | (simp [Region.wanted, yielded, *] <;> done) | (simp [Region.wanted, yielded] <;> omega))))); (try refine WL.nil ?_))
  refine wp_region_plan 13 (by kernel_rfl) (by kernel_rfl) ?_; replace st := st.drew; generalize World.drew _ = W at st ⊢
  (apply Plan.val'; (focus (intro x0 x1 x2 x3 x4 x5 x6 x7 x8 x9 xa xb xc w1 hb; (try simp only [depF, fillA, Act.put, zta, ztz, zpt, zsz, zss, zl0, zls]); (repeat (first | rintro rfl | intro lo hi hlo hhi hphi | intro _)); have st := st.call hb; (first | (apply Yphi.run; (first | exact rfl | (simp [Region.wanted, yielded, *] <;> done) | (simp [Region.wanted, yielded] <;> omega)); (go_simp <;> (try simp (disch := omega) only [wrap_id, sub_left, zac]) <;> rfl); exact rfl) | (apply Yphi.load1 st; exact rfl; exact inferInstance; (first | exact rfl | (simp [Region.wanted, yielded, *] <;> done) | (simp [Region.wanted, yielded] <;> omega)); exact rfl; (first | exact get0 | exact get1 | exact get2 | exact get3 | exact get4 | exact get5 | exact get6 | exact get7); exact rfl) | (apply Yphi.loadN st; exact rfl; exact inferInstance; (first | exact rfl | (simp [Region.wanted, yielded, *] <;> done) | (simp [Region.wanted, yielded] <;> omega)); exact rfl; (first | exact get0 | exact get1 | exact get2 | exact get3 | exact get4 | exact get5 | exact get6 | exact get7); ((try simp only [zta, ztz, zda, zdz, zca, zcn, zan, zsz, zss]) <;> exact rfl); exact rfl) | (apply Yphi.old1 st; exact rfl; exact inferInstance; (first | exact rfl | (simp [Region.wanted, yielded, *] <;> done) | (simp [Region.wanted, yielded] <;> omega)); exact rfl; assumption; assumption) | (apply Yphi.old4 st; exact rfl; exact inferInstance; (first | exact rfl | (simp [Region.wanted, yielded, *] <;> done) | (simp [Region.wanted, yielded] <;> omega)); exact rfl; assumption; assumption; assumption; assumption; assumption)))); (simp only [zca, zcn] <;> exact rfl))
  (apply Plan.val'; (focus (intro x0 x1 x2 x3 x4 x5 x6 x7 x8 x9 xa xb xc w1 hb; (try simp only [depF, fillA, Act.put, zta, ztz, zpt, zsz, zss, zl0, zls]); (repeat (first | rintro rfl | intro lo hi hlo hhi hphi | intro _)); have st := st.call hb; (first | (apply Yphi.run; (first | exact rfl | (simp [Region.wanted, yielded, *] <;> done) | (simp [Region.wanted, yielded] <;> omega)); (go_simp <;> (try simp (disch := omega) only [wrap_id, sub_left, zac]) <;> rfl); exact rfl) | (apply Yphi.load1 st; exact rfl; exact inferInstance; (first | exact rfl | (simp [Region.wanted, yielded, *] <;> done) | (simp [Region.wanted, yielded] <;> omega)); exact rfl; (first | exact get0 | exact get1 | exact get2 | exact get3 | exact get4 | exact get5 | exact get6 | exact get7); exact rfl) | (apply Yphi.loadN st; exact rfl; exact inferInstance; (first | exact rfl | (simp [Region.wanted, yielded, *] <;> done) | (simp [Region.wanted, yielded] <;> omega)); exact rfl; (first | exact get0 | exact get1 | exact get2 | exact get3 | exact get4 | exact get5 | exact get6 | exact get7); ((try simp only [zta, ztz, zda, zdz, zca, zcn, zan, zsz, zss]) <;> exact rfl); exact rfl) | (apply Yphi.old1 st; exact rfl; exact inferInstance; (first | exact rfl | (simp [Region.wanted, yielded, *] <;> done) | (simp [Region.wanted, yielded] <;> omega)); exact rfl; assumption; assumption) | (apply Yphi.old4 st; exact rfl; exact inferInstance; (first | exact rfl | (simp [Region.wanted, yielded, *] <;> done) | (simp [Region.wanted, yielded] <;> omega)); exact rfl; assumption; assumption; assumption; assumption; assumption)))); (simp only [zca, zcn] <;> exact rfl))
  (apply Plan.val'; (focus (intro x0 x1 x2 x3 x4 x5 x6 x7 x8 x9 xa xb xc w1 hb; (try simp only [depF, fillA, Act.put, zta, ztz, zpt, zsz, zss, zl0, zls]); (repeat (first | rintro rfl | intro lo hi hlo hhi hphi | intro _)); have st := st.call hb; apply Yphi.call; (first | exact rfl | (simp [Region.wanted, yielded, *] <;> done) | (simp [Region.wanted, yielded] <;> omega)); (go_simp <;> (try simp (disch := omega) only [wrap_id, sub_left, zac]) <;> rfl); exact rfl; refine (itoa_env (HE.out.later st.below) k k0 k1).mono ?_; rintro e w' ⟨rfl, hb'⟩; exact ⟨_, rfl, hb', rfl⟩)); (simp only [zca, zcn] <;> exact rfl))
  (apply Plan.val'; (focus (intro x0 x1 x2 x3 x4 x5 x6 x7 x8 x9 xa xb xc w1 hb; (try simp only [depF, fillA, Act.put, zta, ztz, zpt, zsz, zss, zl0, zls]); (repeat (first | rintro rfl | intro lo hi hlo hhi hphi | intro _)); have st := st.call hb; apply Yphi.cat; (first | exact rfl | (simp [Region.wanted, yielded, *] <;> done) | (simp [Region.wanted, yielded] <;> omega)); exact rfl; exact rfl; exact rfl; (focus (simp only [List.length_append, List.length_cons, List.length_nil]; omega)))); (simp only [zca, zcn] <;> exact rfl))
  (apply Plan.val'; (focus (intro x0 x1 x2 x3 x4 x5 x6 x7 x8 x9 xa xb xc w1 hb; (try simp only [depF, fillA, Act.put, zta, ztz, zpt, zsz, zss, zl0, zls]); (repeat (first | rintro rfl | intro lo hi hlo hhi hphi | intro _)); have st := st.call hb; (first | (apply Yphi.run; (first | exact rfl | (simp [Region.wanted, yielded, *] <;> done) | (simp [Region.wanted, yielded] <;> omega)); (go_simp <;> (try simp (disch := omega) only [wrap_id, sub_left, zac]) <;> rfl); exact rfl) | (apply Yphi.load1 st; exact rfl; exact inferInstance; (first | exact rfl | (simp [Region.wanted, yielded, *] <;> done) | (simp [Region.wanted, yielded] <;> omega)); exact rfl; (first | exact get0 | exact get1 | exact get2 | exact get3 | exact get4 | exact get5 | exact get6 | exact get7); exact rfl) | (apply Yphi.loadN st; exact rfl; exact inferInstance; (first | exact rfl | (simp [Region.wanted, yielded, *] <;> done) | (simp [Region.wanted, yielded] <;> omega)); exact rfl; (first | exact get0 | exact get1 | exact get2 | exact get3 | exact get4 | exact get5 | exact get6 | exact get7); ((try simp only [zta, ztz, zda, zdz, zca, zcn, zan, zsz, zss]) <;> exact rfl); exact rfl) | (apply Yphi.old1 st; exact rfl; exact inferInstance; (first | exact rfl | (simp [Region.wanted, yielded, *] <;> done) | (simp [Region.wanted, yielded] <;> omega)); exact rfl; assumption; assumption) | (apply Yphi.old4 st; exact rfl; exact inferInstance; (first | exact rfl | (simp [Region.wanted, yielded, *] <;> done) | (simp [Region.wanted, yielded] <;> omega)); exact rfl; assumption; assumption; assumption; assumption; assumption)))); (simp only [zca, zcn] <;> exact rfl))
  (apply Plan.val'; (focus (intro x0 x1 x2 x3 x4 x5 x6 x7 x8 x9 xa xb xc w1 hb; (try simp only [depF, fillA, Act.put, zta, ztz, zpt, zsz, zss, zl0, zls]); (repeat (first | rintro rfl | intro lo hi hlo hhi hphi | intro _)); have st := st.call hb; (first | (apply Yphi.run; (first | exact rfl | (simp [Region.wanted, yielded, *] <;> done) | (simp [Region.wanted, yielded] <;> omega)); (go_simp <;> (try simp (disch := omega) only [wrap_id, sub_left, zac]) <;> rfl); exact rfl) | (apply Yphi.load1 st; exact rfl; exact inferInstance; (first | exact rfl | (simp [Region.wanted, yielded, *] <;> done) | (simp [Region.wanted, yielded] <;> omega)); exact rfl; (first | exact get0 | exact get1 | exact get2 | exact get3 | exact get4 | exact get5 | exact get6 | exact get7); exact rfl) | (apply Yphi.loadN st; exact rfl; exact inferInstance; (first | exact rfl | (simp [Region.wanted, yielded, *] <;> done) | (simp [Region.wanted, yielded] <;> omega)); exact rfl; (first | exact get0 | exact get1 | exact get2 | exact get3 | exact get4 | exact get5 | exact get6 | exact get7); ((try simp only [zta, ztz, zda, zdz, zca, zcn, zan, zsz, zss]) <;> exact rfl); exact rfl) | (apply Yphi.old1 st; exact rfl; exact inferInstance; (first | exact rfl | (simp [Region.wanted, yielded, *] <;> done) | (simp [Region.wanted, yielded] <;> omega)); exact rfl; assumption; assumption) | (apply Yphi.old4 st; exact rfl; exact inferInstance; (first | exact rfl | (simp [Region.wanted, yielded, *] <;> done) | (simp [Region.wanted, yielded] <;> omega)); exact rfl; assumption; assumption; assumption; assumption; assumption)))); (simp only [zca, zcn] <;> exact rfl))
  (apply Plan.val'; (focus (intro x0 x1 x2 x3 x4 x5 x6 x7 x8 x9 xa xb xc w1 hb; (try simp only [depF, fillA, Act.put, zta, ztz, zpt, zsz, zss, zl0, zls]); (repeat (first | rintro rfl | intro lo hi hlo hhi hphi | intro _)); have st := st.call hb; apply Yphi.call; (first | exact rfl | (simp [Region.wanted, yielded, *] <;> done) | (simp [Region.wanted, yielded] <;> omega)); (go_simp <;> (try simp (disch := omega) only [wrap_id, sub_left, zac]) <;> rfl); exact rfl; refine (itoa_env (HE.out.later st.below) r r0 r1).mono ?_; rintro e w' ⟨rfl, hb'⟩; exact ⟨_, rfl, hb', rfl⟩)); (simp only [zca, zcn] <;> exact rfl))
  (apply Plan.val'; (focus (intro x0 x1 x2 x3 x4 x5 x6 x7 x8 x9 xa xb xc w1 hb; (try simp only [depF, fillA, Act.put, zta, ztz, zpt, zsz, zss, zl0, zls]); (repeat (first | rintro rfl | intro lo hi hlo hhi hphi | intro _)); have st := st.call hb; apply Yphi.cat; (first | exact rfl | (simp [Region.wanted, yielded, *] <;> done) | (simp [Region.wanted, yielded] <;> omega)); exact rfl; exact rfl; exact rfl; (focus (simp only [List.length_append, List.length_cons, List.length_nil]; omega)))); (simp only [zca, zcn] <;> exact rfl))
  (apply Plan.val'; (focus (intro x0 x1 x2 x3 x4 x5 x6 x7 x8 x9 xa xb xc w1 hb; (try simp only [depF, fillA, Act.put, zta, ztz, zpt, zsz, zss, zl0, zls]); (repeat (first | rintro rfl | intro lo hi hlo hhi hphi | intro _)); have st := st.call hb; apply Yphi.cat; (first | exact rfl | (simp [Region.wanted, yielded, *] <;> done) | (simp [Region.wanted, yielded] <;> omega)); exact rfl; exact rfl; exact rfl; (focus (simp only [List.length_append, List.length_cons, List.length_nil]; omega)))); (simp only [zca, zcn] <;> exact rfl))
  (apply Plan.val'; (focus (intro x0 x1 x2 x3 x4 x5 x6 x7 x8 x9 xa xb xc w1 hb; (try simp only [depF, fillA, Act.put, zta, ztz, zpt, zsz, zss, zl0, zls]); (repeat (first | rintro rfl | intro lo hi hlo hhi hphi | intro _)); have st := st.call hb; (first | (apply Yphi.run; (first | exact rfl | (simp [Region.wanted, yielded, *] <;> done) | (simp [Region.wanted, yielded] <;> omega)); (go_simp <;> (try simp (disch := omega) only [wrap_id, sub_left, zac]) <;> rfl); exact rfl) | (apply Yphi.load1 st; exact rfl; exact inferInstance; (first | exact rfl | (simp [Region.wanted, yielded, *] <;> done) | (simp [Region.wanted, yielded] <;> omega)); exact rfl; (first | exact get0 | exact get1 | exact get2 | exact get3 | exact get4 | exact get5 | exact get6 | exact get7); exact rfl) | (apply Yphi.loadN st; exact rfl; exact inferInstance; (first | exact rfl | (simp [Region.wanted, yielded, *] <;> done) | (simp [Region.wanted, yielded] <;> omega)); exact rfl; (first | exact get0 | exact get1 | exact get2 | exact get3 | exact get4 | exact get5 | exact get6 | exact get7); ((try simp only [zta, ztz, zda, zdz, zca, zcn, zan, zsz, zss]) <;> exact rfl); exact rfl) | (apply Yphi.old1 st; exact rfl; exact inferInstance; (first | exact rfl | (simp [Region.wanted, yielded, *] <;> done) | (simp [Region.wanted, yielded] <;> omega)); exact rfl; assumption; assumption) | (apply Yphi.old4 st; exact rfl; exact inferInstance; (first | exact rfl | (simp [Region.wanted, yielded, *] <;> done) | (simp [Region.wanted, yielded] <;> omega)); exact rfl; assumption; assumption; assumption; assumption; assumption)))); (simp only [zca, zcn] <;> exact rfl))
  (apply Plan.val'; (focus (intro x0 x1 x2 x3 x4 x5 x6 x7 x8 x9 xa xb xc w1 hb; (try simp only [depF, fillA, Act.put, zta, ztz, zpt, zsz, zss, zl0, zls]); (repeat (first | rintro rfl | intro lo hi hlo hhi hphi | intro _)); have st := st.call hb; (first | (apply Yphi.run; (first | exact rfl | (simp [Region.wanted, yielded, *] <;> done) | (simp [Region.wanted, yielded] <;> omega)); (go_simp <;> (try simp (disch := omega) only [wrap_id, sub_left, zac]) <;> rfl); exact rfl) | (apply Yphi.load1 st; exact rfl; exact inferInstance; (first | exact rfl | (simp [Region.wanted, yielded, *] <;> done) | (simp [Region.wanted, yielded] <;> omega)); exact rfl; (first | exact get0 | exact get1 | exact get2 | exact get3 | exact get4 | exact get5 | exact get6 | exact get7); exact rfl) | (apply Yphi.loadN st; exact rfl; exact inferInstance; (first | exact rfl | (simp [Region.wanted, yielded, *] <;> done) | (simp [Region.wanted, yielded] <;> omega)); exact rfl; (first | exact get0 | exact get1 | exact get2 | exact get3 | exact get4 | exact get5 | exact get6 | exact get7); ((try simp only [zta, ztz, zda, zdz, zca, zcn, zan, zsz, zss]) <;> exact rfl); exact rfl) | (apply Yphi.old1 st; exact rfl; exact inferInstance; (first | exact rfl | (simp [Region.wanted, yielded, *] <;> done) | (simp [Region.wanted, yielded] <;> omega)); exact rfl; assumption; assumption) | (apply Yphi.old4 st; exact rfl; exact inferInstance; (first | exact rfl | (simp [Region.wanted, yielded, *] <;> done) | (simp [Region.wanted, yielded] <;> omega)); exact rfl; assumption; assumption; assumption; assumption; assumption)))); (simp only [zca, zcn] <;> exact rfl))
  (apply Plan.val'; (focus (intro x0 x1 x2 x3 x4 x5 x6 x7 x8 x9 xa xb xc w1 hb; (try simp only [depF, fillA, Act.put, zta, ztz, zpt, zsz, zss, zl0, zls]); (repeat (first | rintro rfl | intro lo hi hlo hhi hphi | intro _)); have st := st.call hb; apply Yphi.call; (first | exact rfl | (simp [Region.wanted, yielded, *] <;> done) | (simp [Region.wanted, yielded] <;> omega)); (go_simp <;> (try simp (disch := omega) only [wrap_id, sub_left, zac]) <;> rfl); exact rfl; refine (itoa_env (HE.out.later st.below) i i0 i1).mono ?_; rintro e w' ⟨rfl, hb'⟩; exact ⟨_, rfl, hb', rfl⟩)); (simp only [zca, zcn] <;> exact rfl))
  (apply Plan.val'; (focus (intro x0 x1 x2 x3 x4 x5 x6 x7 x8 x9 xa xb xc w1 hb; (try simp only [depF, fillA, Act.put, zta, ztz, zpt, zsz, zss, zl0, zls]); (repeat (first | rintro rfl | intro lo hi hlo hhi hphi | intro _)); have st := st.call hb; apply Yphi.cat; (first | exact rfl | (simp [Region.wanted, yielded, *] <;> done) | (simp [Region.wanted, yielded] <;> omega)); exact rfl; exact rfl; exact rfl; (focus (simp only [List.length_append, List.length_cons, List.length_nil]; omega)))); (simp only [zca, zcn] <;> exact rfl))
  intro x0 x1 x2 x3 x4 x5 x6 x7 x8 x9 xa xb xc lo hi w1 hb hap
  rintro rfl rfl rfl rfl rfl rfl rfl rfl rfl rfl rfl rfl rfl
  simp only [allPhi, fillA, Act.put, zta, ztz, zpt, zsz, zss, zda, zdz]
  have st := st.call hb
  clear hap hb
  go_wp2_with (refine WL.out ?_; (repeat (first | (refine WL.op ?_ ?_; (first | exact rfl | (simp [Region.wanted, yielded, *] <;> done) | (simp [Region.wanted, yielded] <;> omega)); intro K hK; (first | ((first | ((with_reducible apply ow_move); exact rfl) | ((with_reducible apply ow_assign); exact rfl)); (go_simp <;> (try simp (disch := omega) only [wrap_id, sub_left, zac]) <;> rfl)) | ((first | ((with_reducible apply ow_load1 st); exact rfl; exact inferInstance; exact rfl; (first | exact get0 | exact get1 | exact get2 | exact get3 | exact get4 | exact get5 | exact get6 | exact get7)) | ((with_reducible apply ow_loadN st); exact rfl; exact inferInstance; exact rfl; (first | exact get0 | exact get1 | exact get2 | exact get3 | exact get4 | exact get5 | exact get6 | exact get7); ((try simp only [zta, ztz, zda, zdz, zca, zcn, zan, zsz, zss]) <;> exact rfl))); exact rfl) | ((first | ((with_reducible apply ow_box st); exact rfl; (go_simp <;> (try simp (disch := omega) only [wrap_id, sub_left, zac]) <;> rfl); (go_simp <;> (try simp (disch := omega) only [wrap_id, sub_left, zac]) <;> rfl)) | ((with_reducible apply ow_newSlice st); exact rfl; (go_simp <;> (try simp (disch := omega) only [wrap_id, sub_left, zac]) <;> rfl); exact rfl) | ((with_reducible apply ow_alloc st); exact rfl; exact inferInstance; (go_simp <;> (try simp (disch := omega) only [wrap_id, sub_left, zac]) <;> rfl))); (try clear st); intro b w' st) | ((first | ((with_reducible apply ow_store1' st); exact rfl; exact inferInstance; exact rfl; (first | exact get0 | exact get1 | exact get2 | exact get3 | exact get4 | exact get5 | exact get6 | exact get7); (go_simp <;> (try simp (disch := omega) only [wrap_id, sub_left, zac]) <;> rfl)) | ((with_reducible apply ow_storeN' st); exact rfl; exact inferInstance; exact rfl; (first | exact get0 | exact get1 | exact get2 | exact get3 | exact get4 | exact get5 | exact get6 | exact get7); exact rfl)); exact rfl; exact rfl; (simp <;> done); ((try simp only [zta, ztz, zda, zdz, zca, zcn, zan, zsz, zss]) <;> exact rfl); (try clear st); intro w' st) | ((with_reducible apply ow_old1 st); exact rfl; exact inferInstance; exact rfl; assumption; assumption) | ((with_reducible apply ow_old4 st); exact rfl; exact inferInstance; exact rfl; assumption; assumption; assumption; assumption; assumption) | fail | ((with_reducible apply ow_eval); (go_simp <;> (try simp (disch := omega) only [wrap_id, sub_left, zac]) <;> rfl); first | (with_reducible apply up_value) | (with_reducible apply up_skip) | ((with_reducible apply up_enter); first | fail))); refine WL.next hK (by simp only [Act.put, zpt, zsz, zss]; exact rfl) ?_; clear hK K) | (refine WL.skip ?_ (by simp only [Act.put, zpt, zsz, zss]; exact rfl) ?_; (first | exact rfl | (simp [Region.wanted, yielded, *] <;> done) | (simp [Region.wanted, yielded] <;> omega))))); (try refine WL.nil ?_))
  go_ret
  exact ⟨rfl, st.below⟩
set_option maxHeartbeats 1000000 in
theorem rFormat_any (k r i : Int) (w : World) (k0 : -9223372036854775808 ≤ k) (k1 : k ≤ 9223372036854775807) (r0 : -9223372036854775808 ≤ r) (r1 : r ≤ 9223372036854775807) (i0 : -9223372036854775808 ≤ i) (i1 : i ≤ 9223372036854775807) :
    Calls Tryz.prog 42 #[.agg #[.int .i64 k, .int .i64 r, .int .i64 i]] w fun e w' => e = .returned (.string ⟨(L.fmtF k r i).toArray⟩) ∧ Below w.heap.size w w' := by
  have lk := L.itoa_len k0 k1
  have lr := L.itoa_len r0 r1
  have li := L.itoa_len i0 i1
  have st := St.start w
  go_enter Tryz.func42, Tryz.ntmps42
  go_wp2_with (refine WL.out ?_; (repeat (first | (refine WL.op ?_ ?_; (first | exact rfl | (simp [Region.wanted, yielded, *] <;> done) | (simp [Region.wanted, yielded] <;> omega)); intro K hK; (first | ((first | ((with_reducible apply ow_move); exact rfl) | ((with_reducible apply ow_assign); exact rfl)); (go_simp <;> (try simp (disch := omega) only [wrap_id, sub_left, zac]) <;> rfl)) | ((first | ((with_reducible apply ow_load1 st); exact rfl; exact inferInstance; exact rfl; (first | exact get0 | exact get1 | exact get2 | exact get3 | exact get4 | exact get5 | exact get6 | exact get7)) | ((with_reducible apply ow_loadN st); exact rfl; exact inferInstance; exact rfl; (first | exact get0 | exact get1 | exact get2 | exact get3 | exact get4 | exact get5 | exact get6 | exact get7); ((try simp only [zta, ztz, zda, zdz, zca, zcn, zan, zsz, zss]) <;> exact rfl))); exact rfl) | ((first | ((with_reducible apply ow_box st); exact rfl; (go_simp <;> (try simp (disch := omega) only [wrap_id, sub_left, zac]) <;> rfl); (go_simp <;> (try simp (disch := omega) only [wrap_id, sub_left, zac]) <;> rfl)) | ((with_reducible apply ow_newSlice st); exact rfl; (go_simp <;> (try simp (disch := omega) only [wrap_id, sub_left, zac]) <;> rfl); exact rfl) | ((with_reducible apply ow_alloc st); exact rfl; exact inferInstance; (go_simp <;> (try simp (disch := omega) only [wrap_id, sub_left, zac]) <;> rfl))); (try clear st); intro b w' st) | ((first | ((with_reducible apply ow_store1' st); exact rfl; exact inferInstance; exact rfl; (first | exact get0 | exact get1 | exact get2 | exact get3 | exact get4 | exact get5 | exact get6 | exact get7); (go_simp <;> (try simp (disch := omega) only [wrap_id, sub_left, zac]) <;> rfl)) | ((with_reducible apply ow_storeN' st); exact rfl; exact inferInstance; exact rfl; (first | exact get0 | exact get1 | exact get2 | exact get3 | exact get4 | exact get5 | exact get6 | exact get7); exact rfl)); exact rfl; exact rfl; (simp <;> done); ((try simp only [zta, ztz, zda, zdz, zca, zcn, zan, zsz, zss]) <;> exact rfl); (try clear st); intro w' st) | ((with_reducible apply ow_old1 st); exact rfl; exact inferInstance; exact rfl; assumption; assumption) | ((with_reducible apply ow_old4 st); exact rfl; exact inferInstance; exact rfl; assumption; assumption; assumption; assumption; assumption) | fail | ((with_reducible apply ow_eval); (go_simp <;> (try simp (disch := omega) only [wrap_id, sub_left, zac]) <;> rfl); first | (with_reducible apply up_value) | (with_reducible apply up_skip) | ((with_reducible apply up_enter); first | fail))); refine WL.next hK (by simp only [Act.put, zpt, zsz, zss]; exact rfl) ?_; clear hK K) | (refine WL.skip ?_ (by simp only [Act.put, zpt, zsz, zss]; exact rfl) ?_; (first | exact rfl | (simp [Region.wanted, yielded, *] <;> done) | (simp [Region.wanted, yielded] <;> omega))))); (try refine WL.nil ?_))
  refine wp_region_plan 13 (by kernel_rfl) (by kernel_rfl) ?_; replace st := st.drew; generalize World.drew _ = W at st ⊢
  (apply Plan.val'; (focus (intro x0 x1 x2 x3 x4 x5 x6 x7 x8 x9 xa xb xc w1 hb; (try simp only [depF, fillA, Act.put, zta, ztz, zpt, zsz, zss, zl0, zls]); (repeat (first | rintro rfl | intro lo hi hlo hhi hphi | intro _)); have st := st.call hb; (first | (apply Yphi.run; (first | exact rfl | (simp [Region.wanted, yielded, *] <;> done) | (simp [Region.wanted, yielded] <;> omega)); (go_simp <;> (try simp (disch := omega) only [wrap_id, sub_left, zac]) <;> rfl); exact rfl) | (apply Yphi.load1 st; exact rfl; exact inferInstance; (first | exact rfl | (simp [Region.wanted, yielded, *] <;> done) | (simp [Region.wanted, yielded] <;> omega)); exact rfl; (first | exact get0 | exact get1 | exact get2 | exact get3 | exact get4 | exact get5 | exact get6 | exact get7); exact rfl) | (apply Yphi.loadN st; exact rfl; exact inferInstance; (first | exact rfl | (simp [Region.wanted, yielded, *] <;> done) | (simp [Region.wanted, yielded] <;> omega)); exact rfl; (first | exact get0 | exact get1 | exact get2 | exact get3 | exact get4 | exact get5 | exact get6 | exact get7); ((try simp only [zta, ztz, zda, zdz, zca, zcn, zan, zsz, zss]) <;> exact rfl); exact rfl) | (apply Yphi.old1 st; exact rfl; exact inferInstance; (first | exact rfl | (simp [Region.wanted, yielded, *] <;> done) | (simp [Region.wanted, yielded] <;> omega)); exact rfl; assumption; assumption) | (apply Yphi.old4 st; exact rfl; exact inferInstance; (first | exact rfl | (simp [Region.wanted, yielded, *] <;> done) | (simp [Region.wanted, yielded] <;> omega)); exact rfl; assumption; assumption; assumption; assumption; assumption)))); (simp only [zca, zcn] <;> exact rfl))
  (apply Plan.val'; (focus (intro x0 x1 x2 x3 x4 x5 x6 x7 x8 x9 xa xb xc w1 hb; (try simp only [depF, fillA, Act.put, zta, ztz, zpt, zsz, zss, zl0, zls]); (repeat (first | rintro rfl | intro lo hi hlo hhi hphi | intro _)); have st := st.call hb; (first | (apply Yphi.run; (first | exact rfl | (simp [Region.wanted, yielded, *] <;> done) | (simp [Region.wanted, yielded] <;> omega)); (go_simp <;> (try simp (disch := omega) only [wrap_id, sub_left, zac]) <;> rfl); exact rfl) | (apply Yphi.load1 st; exact rfl; exact inferInstance; (first | exact rfl | (simp [Region.wanted, yielded, *] <;> done) | (simp [Region.wanted, yielded] <;> omega)); exact rfl; (first | exact get0 | exact get1 | exact get2 | exact get3 | exact get4 | exact get5 | exact get6 | exact get7); exact rfl) | (apply Yphi.loadN st; exact rfl; exact inferInstance; (first | exact rfl | (simp [Region.wanted, yielded, *] <;> done) | (simp [Region.wanted, yielded] <;> omega)); exact rfl; (first | exact get0 | exact get1 | exact get2 | exact get3 | exact get4 | exact get5 | exact get6 | exact get7); ((try simp only [zta, ztz, zda, zdz, zca, zcn, zan, zsz, zss]) <;> exact rfl); exact rfl) | (apply Yphi.old1 st; exact rfl; exact inferInstance; (first | exact rfl | (simp [Region.wanted, yielded, *] <;> done) | (simp [Region.wanted, yielded] <;> omega)); exact rfl; assumption; assumption) | (apply Yphi.old4 st; exact rfl; exact inferInstance; (first | exact rfl | (simp [Region.wanted, yielded, *] <;> done) | (simp [Region.wanted, yielded] <;> omega)); exact rfl; assumption; assumption; assumption; assumption; assumption)))); (simp only [zca, zcn] <;> exact rfl))
  (apply Plan.val'; (focus (intro x0 x1 x2 x3 x4 x5 x6 x7 x8 x9 xa xb xc w1 hb; (try simp only [depF, fillA, Act.put, zta, ztz, zpt, zsz, zss, zl0, zls]); (repeat (first | rintro rfl | intro lo hi hlo hhi hphi | intro _)); have st := st.call hb; apply Yphi.call; (first | exact rfl | (simp [Region.wanted, yielded, *] <;> done) | (simp [Region.wanted, yielded] <;> omega)); (go_simp <;> (try simp (disch := omega) only [wrap_id, sub_left, zac]) <;> rfl); exact rfl; refine (Decimal_any k _ k0 k1).mono ?_; rintro e w' ⟨rfl, hb'⟩; exact ⟨_, rfl, hb', rfl⟩)); (simp only [zca, zcn] <;> exact rfl))
  (apply Plan.val'; (focus (intro x0 x1 x2 x3 x4 x5 x6 x7 x8 x9 xa xb xc w1 hb; (try simp only [depF, fillA, Act.put, zta, ztz, zpt, zsz, zss, zl0, zls]); (repeat (first | rintro rfl | intro lo hi hlo hhi hphi | intro _)); have st := st.call hb; apply Yphi.cat; (first | exact rfl | (simp [Region.wanted, yielded, *] <;> done) | (simp [Region.wanted, yielded] <;> omega)); exact rfl; exact rfl; exact rfl; (focus (simp only [List.length_append, List.length_cons, List.length_nil]; omega)))); (simp only [zca, zcn] <;> exact rfl))
  (apply Plan.val'; (focus (intro x0 x1 x2 x3 x4 x5 x6 x7 x8 x9 xa xb xc w1 hb; (try simp only [depF, fillA, Act.put, zta, ztz, zpt, zsz, zss, zl0, zls]); (repeat (first | rintro rfl | intro lo hi hlo hhi hphi | intro _)); have st := st.call hb; (first | (apply Yphi.run; (first | exact rfl | (simp [Region.wanted, yielded, *] <;> done) | (simp [Region.wanted, yielded] <;> omega)); (go_simp <;> (try simp (disch := omega) only [wrap_id, sub_left, zac]) <;> rfl); exact rfl) | (apply Yphi.load1 st; exact rfl; exact inferInstance; (first | exact rfl | (simp [Region.wanted, yielded, *] <;> done) | (simp [Region.wanted, yielded] <;> omega)); exact rfl; (first | exact get0 | exact get1 | exact get2 | exact get3 | exact get4 | exact get5 | exact get6 | exact get7); exact rfl) | (apply Yphi.loadN st; exact rfl; exact inferInstance; (first | exact rfl | (simp [Region.wanted, yielded, *] <;> done) | (simp [Region.wanted, yielded] <;> omega)); exact rfl; (first | exact get0 | exact get1 | exact get2 | exact get3 | exact get4 | exact get5 | exact get6 | exact get7); ((try simp only [zta, ztz, zda, zdz, zca, zcn, zan, zsz, zss]) <;> exact rfl); exact rfl) | (apply Yphi.old1 st; exact rfl; exact inferInstance; (first | exact rfl | (simp [Region.wanted, yielded, *] <;> done) | (simp [Region.wanted, yielded] <;> omega)); exact rfl; assumption; assumption) | (apply Yphi.old4 st; exact rfl; exact inferInstance; (first | exact rfl | (simp [Region.wanted, yielded, *] <;> done) | (simp [Region.wanted, yielded] <;> omega)); exact rfl; assumption; assumption; assumption; assumption; assumption)))); (simp only [zca, zcn] <;> exact rfl))
  (apply Plan.val'; (focus (intro x0 x1 x2 x3 x4 x5 x6 x7 x8 x9 xa xb xc w1 hb; (try simp only [depF, fillA, Act.put, zta, ztz, zpt, zsz, zss, zl0, zls]); (repeat (first | rintro rfl | intro lo hi hlo hhi hphi | intro _)); have st := st.call hb; (first | (apply Yphi.run; (first | exact rfl | (simp [Region.wanted, yielded, *] <;> done) | (simp [Region.wanted, yielded] <;> omega)); (go_simp <;> (try simp (disch := omega) only [wrap_id, sub_left, zac]) <;> rfl); exact rfl) | (apply Yphi.load1 st; exact rfl; exact inferInstance; (first | exact rfl | (simp [Region.wanted, yielded, *] <;> done) | (simp [Region.wanted, yielded] <;> omega)); exact rfl; (first | exact get0 | exact get1 | exact get2 | exact get3 | exact get4 | exact get5 | exact get6 | exact get7); exact rfl) | (apply Yphi.loadN st; exact rfl; exact inferInstance; (first | exact rfl | (simp [Region.wanted, yielded, *] <;> done) | (simp [Region.wanted, yielded] <;> omega)); exact rfl; (first | exact get0 | exact get1 | exact get2 | exact get3 | exact get4 | exact get5 | exact get6 | exact get7); ((try simp only [zta, ztz, zda, zdz, zca, zcn, zan, zsz, zss]) <;> exact rfl); exact rfl) | (apply Yphi.old1 st; exact rfl; exact inferInstance; (first | exact rfl | (simp [Region.wanted, yielded, *] <;> done) | (simp [Region.wanted, yielded] <;> omega)); exact rfl; assumption; assumption) | (apply Yphi.old4 st; exact rfl; exact inferInstance; (first | exact rfl | (simp [Region.wanted, yielded, *] <;> done) | (simp [Region.wanted, yielded] <;> omega)); exact rfl; assumption; assumption; assumption; assumption; assumption)))); (simp only [zca, zcn] <;> exact rfl))
  (apply Plan.val'; (focus (intro x0 x1 x2 x3 x4 x5 x6 x7 x8 x9 xa xb xc w1 hb; (try simp only [depF, fillA, Act.put, zta, ztz, zpt, zsz, zss, zl0, zls]); (repeat (first | rintro rfl | intro lo hi hlo hhi hphi | intro _)); have st := st.call hb; apply Yphi.call; (first | exact rfl | (simp [Region.wanted, yielded, *] <;> done) | (simp [Region.wanted, yielded] <;> omega)); (go_simp <;> (try simp (disch := omega) only [wrap_id, sub_left, zac]) <;> rfl); exact rfl; refine (Decimal_any r _ r0 r1).mono ?_; rintro e w' ⟨rfl, hb'⟩; exact ⟨_, rfl, hb', rfl⟩)); (simp only [zca, zcn] <;> exact rfl))
  (apply Plan.val'; (focus (intro x0 x1 x2 x3 x4 x5 x6 x7 x8 x9 xa xb xc w1 hb; (try simp only [depF, fillA, Act.put, zta, ztz, zpt, zsz, zss, zl0, zls]); (repeat (first | rintro rfl | intro lo hi hlo hhi hphi | intro _)); have st := st.call hb; apply Yphi.cat; (first | exact rfl | (simp [Region.wanted, yielded, *] <;> done) | (simp [Region.wanted, yielded] <;> omega)); exact rfl; exact rfl; exact rfl; (focus (simp only [List.length_append, List.length_cons, List.length_nil]; omega)))); (simp only [zca, zcn] <;> exact rfl))
  (apply Plan.val'; (focus (intro x0 x1 x2 x3 x4 x5 x6 x7 x8 x9 xa xb xc w1 hb; (try simp only [depF, fillA, Act.put, zta, ztz, zpt, zsz, zss, zl0, zls]); (repeat (first | rintro rfl | intro lo hi hlo hhi hphi | intro _)); have st := st.call hb; apply Yphi.cat; (first | exact rfl | (simp [Region.wanted, yielded, *] <;> done) | (simp [Region.wanted, yielded] <;> omega)); exact rfl; exact rfl; exact rfl; (focus (simp only [List.length_append, List.length_cons, List.length_nil]; omega)))); (simp only [zca, zcn] <;> exact rfl))
  (apply Plan.val'; (focus (intro x0 x1 x2 x3 x4 x5 x6 x7 x8 x9 xa xb xc w1 hb; (try simp only [depF, fillA, Act.put, zta, ztz, zpt, zsz, zss, zl0, zls]); (repeat (first | rintro rfl | intro lo hi hlo hhi hphi | intro _)); have st := st.call hb; (first | (apply Yphi.run; (first | exact rfl | (simp [Region.wanted, yielded, *] <;> done) | (simp [Region.wanted, yielded] <;> omega)); (go_simp <;> (try simp (disch := omega) only [wrap_id, sub_left, zac]) <;> rfl); exact rfl) | (apply Yphi.load1 st; exact rfl; exact inferInstance; (first | exact rfl | (simp [Region.wanted, yielded, *] <;> done) | (simp [Region.wanted, yielded] <;> omega)); exact rfl; (first | exact get0 | exact get1 | exact get2 | exact get3 | exact get4 | exact get5 | exact get6 | exact get7); exact rfl) | (apply Yphi.loadN st; exact rfl; exact inferInstance; (first | exact rfl | (simp [Region.wanted, yielded, *] <;> done) | (simp [Region.wanted, yielded] <;> omega)); exact rfl; (first | exact get0 | exact get1 | exact get2 | exact get3 | exact get4 | exact get5 | exact get6 | exact get7); ((try simp only [zta, ztz, zda, zdz, zca, zcn, zan, zsz, zss]) <;> exact rfl); exact rfl) | (apply Yphi.old1 st; exact rfl; exact inferInstance; (first | exact rfl | (simp [Region.wanted, yielded, *] <;> done) | (simp [Region.wanted, yielded] <;> omega)); exact rfl; assumption; assumption) | (apply Yphi.old4 st; exact rfl; exact inferInstance; (first | exact rfl | (simp [Region.wanted, yielded, *] <;> done) | (simp [Region.wanted, yielded] <;> omega)); exact rfl; assumption; assumption; assumption; assumption; assumption)))); (simp only [zca, zcn] <;> exact rfl))
  (apply Plan.val'; (focus (intro x0 x1 x2 x3 x4 x5 x6 x7 x8 x9 xa xb xc w1 hb; (try simp only [depF, fillA, Act.put, zta, ztz, zpt, zsz, zss, zl0, zls]); (repeat (first | rintro rfl | intro lo hi hlo hhi hphi | intro _)); have st := st.call hb; (first | (apply Yphi.run; (first | exact rfl | (simp [Region.wanted, yielded, *] <;> done) | (simp [Region.wanted, yielded] <;> omega)); (go_simp <;> (try simp (disch := omega) only [wrap_id, sub_left, zac]) <;> rfl); exact rfl) | (apply Yphi.load1 st; exact rfl; exact inferInstance; (first | exact rfl | (simp [Region.wanted, yielded, *] <;> done) | (simp [Region.wanted, yielded] <;> omega)); exact rfl; (first | exact get0 | exact get1 | exact get2 | exact get3 | exact get4 | exact get5 | exact get6 | exact get7); exact rfl) | (apply Yphi.loadN st; exact rfl; exact inferInstance; (first | exact rfl | (simp [Region.wanted, yielded, *] <;> done) | (simp [Region.wanted, yielded] <;> omega)); exact rfl; (first | exact get0 | exact get1 | exact get2 | exact get3 | exact get4 | exact get5 | exact get6 | exact get7); ((try simp only [zta, ztz, zda, zdz, zca, zcn, zan, zsz, zss]) <;> exact rfl); exact rfl) | (apply Yphi.old1 st; exact rfl; exact inferInstance; (first | exact rfl | (simp [Region.wanted, yielded, *] <;> done) | (simp [Region.wanted, yielded] <;> omega)); exact rfl; assumption; assumption) | (apply Yphi.old4 st; exact rfl; exact inferInstance; (first | exact rfl | (simp [Region.wanted, yielded, *] <;> done) | (simp [Region.wanted, yielded] <;> omega)); exact rfl; assumption; assumption; assumption; assumption; assumption)))); (simp only [zca, zcn] <;> exact rfl))
  (apply Plan.val'; (focus (intro x0 x1 x2 x3 x4 x5 x6 x7 x8 x9 xa xb xc w1 hb; (try simp only [depF, fillA, Act.put, zta, ztz, zpt, zsz, zss, zl0, zls]); (repeat (first | rintro rfl | intro lo hi hlo hhi hphi | intro _)); have st := st.call hb; apply Yphi.call; (first | exact rfl | (simp [Region.wanted, yielded, *] <;> done) | (simp [Region.wanted, yielded] <;> omega)); (go_simp <;> (try simp (disch := omega) only [wrap_id, sub_left, zac]) <;> rfl); exact rfl; refine (Decimal_any i _ i0 i1).mono ?_; rintro e w' ⟨rfl, hb'⟩; exact ⟨_, rfl, hb', rfl⟩)); (simp only [zca, zcn] <;> exact rfl))
  (apply Plan.val'; (focus (intro x0 x1 x2 x3 x4 x5 x6 x7 x8 x9 xa xb xc w1 hb; (try simp only [depF, fillA, Act.put, zta, ztz, zpt, zsz, zss, zl0, zls]); (repeat (first | rintro rfl | intro lo hi hlo hhi hphi | intro _)); have st := st.call hb; apply Yphi.cat; (first | exact rfl | (simp [Region.wanted, yielded, *] <;> done) | (simp [Region.wanted, yielded] <;> omega)); exact rfl; exact rfl; exact rfl; (focus (simp only [List.length_append, List.length_cons, List.length_nil]; omega)))); (simp only [zca, zcn] <;> exact rfl))
  intro x0 x1 x2 x3 x4 x5 x6 x7 x8 x9 xa xb xc lo hi w1 hb hap
  rintro rfl rfl rfl rfl rfl rfl rfl rfl rfl rfl rfl rfl rfl
  simp only [allPhi, fillA, Act.put, zta, ztz, zpt, zsz, zss, zda, zdz]
  have st := st.call hb
  clear hap hb
  go_wp2_with (refine WL.out ?_; (repeat (first | (refine WL.op ?_ ?_; (first | exact rfl | (simp [Region.wanted, yielded, *] <;> done) | (simp [Region.wanted, yielded] <;> omega)); intro K hK; (first | ((first | ((with_reducible apply ow_move); exact rfl) | ((with_reducible apply ow_assign); exact rfl)); (go_simp <;> (try simp (disch := omega) only [wrap_id, sub_left, zac]) <;> rfl)) | ((first | ((with_reducible apply ow_load1 st); exact rfl; exact inferInstance; exact rfl; (first | exact get0 | exact get1 | exact get2 | exact get3 | exact get4 | exact get5 | exact get6 | exact get7)) | ((with_reducible apply ow_loadN st); exact rfl; exact inferInstance; exact rfl; (first | exact get0 | exact get1 | exact get2 | exact get3 | exact get4 | exact get5 | exact get6 | exact get7); ((try simp only [zta, ztz, zda, zdz, zca, zcn, zan, zsz, zss]) <;> exact rfl))); exact rfl) | ((first | ((with_reducible apply ow_box st); exact rfl; (go_simp <;> (try simp (disch := omega) only [wrap_id, sub_left, zac]) <;> rfl); (go_simp <;> (try simp (disch := omega) only [wrap_id, sub_left, zac]) <;> rfl)) | ((with_reducible apply ow_newSlice st); exact rfl; (go_simp <;> (try simp (disch := omega) only [wrap_id, sub_left, zac]) <;> rfl); exact rfl) | ((with_reducible apply ow_alloc st); exact rfl; exact inferInstance; (go_simp <;> (try simp (disch := omega) only [wrap_id, sub_left, zac]) <;> rfl))); (try clear st); intro b w' st) | ((first | ((with_reducible apply ow_store1' st); exact rfl; exact inferInstance; exact rfl; (first | exact get0 | exact get1 | exact get2 | exact get3 | exact get4 | exact get5 | exact get6 | exact get7); (go_simp <;> (try simp (disch := omega) only [wrap_id, sub_left, zac]) <;> rfl)) | ((with_reducible apply ow_storeN' st); exact rfl; exact inferInstance; exact rfl; (first | exact get0 | exact get1 | exact get2 | exact get3 | exact get4 | exact get5 | exact get6 | exact get7); exact rfl)); exact rfl; exact rfl; (simp <;> done); ((try simp only [zta, ztz, zda, zdz, zca, zcn, zan, zsz, zss]) <;> exact rfl); (try clear st); intro w' st) | ((with_reducible apply ow_old1 st); exact rfl; exact inferInstance; exact rfl; assumption; assumption) | ((with_reducible apply ow_old4 st); exact rfl; exact inferInstance; exact rfl; assumption; assumption; assumption; assumption; assumption) | fail | ((with_reducible apply ow_eval); (go_simp <;> (try simp (disch := omega) only [wrap_id, sub_left, zac]) <;> rfl); first | (with_reducible apply up_value) | (with_reducible apply up_skip) | ((with_reducible apply up_enter); first | fail))); refine WL.next hK (by simp only [Act.put, zpt, zsz, zss]; exact rfl) ?_; clear hK K) | (refine WL.skip ?_ (by simp only [Act.put, zpt, zsz, zss]; exact rfl) ?_; (first | exact rfl | (simp [Region.wanted, yielded, *] <;> done) | (simp [Region.wanted, yielded] <;> omega))))); (try refine WL.nil ?_))
  go_ret
  exact ⟨rfl, st.below⟩
end Go.Proofs.YtgcjejajljhnaaaGreatDoor
namespace Go.Proofs.YtgcjejajljhnaaaGreatDoor
open Go.RowKit Go.Hp
namespace L
def findV (x : (Int × Int × Int) × Int) : Value := .tuple #[.agg #[.int .i64 x.1.1, .int .i64 x.1.2.1, .int .i64 x.1.2.2], .int .i64 x.2]
theorem parse_other {s : List UInt8} (h : (cutL 32 s).length ≠ 3) : parseF s = ((0, 0, 0), 7) := by
  unfold parseF
  split
  · rename_i e; rw [e] at h; exact absurd rfl h
  · rfl
theorem parse_three {s a b c : List UInt8} (h : cutL 32 s = [a, b, c]) : parseF s = if n5 a && (n5 b && n5 c) then (if (11 : Int) ≤ ((val a : Nat) : Int) then ((0, 0, 0), 15) else ((((val a : Nat) : Int), ((val b : Nat) : Int), ((val c : Nat) : Int)), 0)) else ((0, 0, 0), 7) := by
  unfold parseF
  rw [h]
end L
theorem numT {s : List UInt8} {w : World} (hl : s.length ≤ 100000) (hE : Env w) (h : L.n5 s = true) : Calls Tryz.prog 85 #[.string ⟨s.toArray⟩] w fun e w' => e = .returned (.tuple #[.int .i64 ((L.val s : Nat) : Int), .bool true]) ∧ Below w.heap.size w w' :=
  (number_any s w hl hE).mono fun e w' ⟨v, h1, h2, h3⟩ => ⟨by rw [h2, h1 h, h], h3⟩
theorem numG {s : List UInt8} {w : World} (hl : s.length ≤ 100000) (hE : Env w) {q : Bool} (h : L.n5 s = q) : Calls Tryz.prog 85 #[.string ⟨s.toArray⟩] w fun e w' => ∃ v : Int, e = .returned (.tuple #[.int .i64 v, .bool q]) ∧ Below w.heap.size w w' :=
  (number_any s w hl hE).mono fun e w' ⟨v, h1, h2, h3⟩ => ⟨v, by rw [h2, h], h3⟩
theorem split_cut (s : List UInt8) (w : World) (hl : s.length ≤ 100000) (hE : Env w) : Calls Tryz.prog 84 #[.string ⟨s.toArray⟩, .string ⟨#[32]⟩] w fun e w' => ∃ b, e = .returned (.slice (some ⟨b, 0, none⟩) (L.cutL 32 s).length (L.cutL 32 s).length) ∧ St w w' [.box b 9 (strs (L.cutL 32 s))] := by
  have := split_any s w hl hE
  rwa [L.cutL_split 32 s.length s (Nat.le_refl _)] at this
set_option maxRecDepth 8000 in
set_option maxHeartbeats 4000000 in
theorem ParseFinding_any (s : List UInt8) (w : World) (hl : s.length ≤ 100000) (hE : Env w) :
    Calls Tryz.prog 43 #[.string ⟨s.toArray⟩] w fun e w' => e = .returned (L.findV (L.parseF s)) ∧ Below w.heap.size w w' := by
  have HE := Lib.hid hE
  have hle := L.cutL_le 32 s
  have HS : Hid (∀ W, Below w.heap.size w W → Calls Tryz.prog 84 #[.string ⟨s.toArray⟩, .string ⟨#[32]⟩] W fun e w' => ∃ b, e = .returned (.slice (some ⟨b, 0, none⟩) (L.cutL 32 s).length (L.cutL 32 s).length) ∧ St W w' [.box b 9 (strs (L.cutL 32 s))]) := Lib.hid fun W hb => split_cut s W hl (hE.later hb)
  clear hE
  have st := St.start w
  by_cases h3 : (L.cutL 32 s).length = 3
  rotate_left
  · have HP := Lib.hid (L.parse_other h3)
    have hne : (((L.cutL 32 s).length : Int) != 3) = true := by rw [bne_iff_ne]; omega
    obtain ⟨l, hL⟩ : ∃ l, l = L.cutL 32 s := ⟨_, rfl⟩
    rw [← hL] at HS hne
    clear hL h3 hle
    go_enter Tryz.func43, Tryz.ntmps43
    go_wp2_with (refine WL.out ?_; (repeat (first | (refine WL.op ?_ ?_; (first | exact rfl | (simp [Region.wanted, yielded, *] <;> done) | (simp [Region.wanted, yielded] <;> omega)); intro K hK; (first | ((first | ((with_reducible apply ow_move); exact rfl) | ((with_reducible apply ow_assign); exact rfl)); (go_simp <;> (try simp (disch := omega) only [wrap_id, sub_left, zac]) <;> rfl)) | ((first | ((with_reducible apply ow_load1 st); exact rfl; exact inferInstance; exact rfl; (first | exact get0 | exact get1 | exact get2 | exact get3 | exact get4 | exact get5 | exact get6 | exact get7)) | ((with_reducible apply ow_loadN st); exact rfl; exact inferInstance; exact rfl; (first | exact get0 | exact get1 | exact get2 | exact get3 | exact get4 | exact get5 | exact get6 | exact get7); ((try simp only [zta, ztz, zda, zdz, zca, zcn, zan, zsz, zss]) <;> exact rfl))); exact rfl) | ((first | ((with_reducible apply ow_box st); exact rfl; (go_simp <;> (try simp (disch := omega) only [wrap_id, sub_left, zac]) <;> rfl); (go_simp <;> (try simp (disch := omega) only [wrap_id, sub_left, zac]) <;> rfl)) | ((with_reducible apply ow_newSlice st); exact rfl; (go_simp <;> (try simp (disch := omega) only [wrap_id, sub_left, zac]) <;> rfl); exact rfl) | ((with_reducible apply ow_alloc st); exact rfl; exact inferInstance; (go_simp <;> (try simp (disch := omega) only [wrap_id, sub_left, zac]) <;> rfl))); (try clear st); intro b w' st) | ((first | ((with_reducible apply ow_store1' st); exact rfl; exact inferInstance; exact rfl; (first | exact get0 | exact get1 | exact get2 | exact get3 | exact get4 | exact get5 | exact get6 | exact get7); (go_simp <;> (try simp (disch := omega) only [wrap_id, sub_left, zac]) <;> rfl)) | ((with_reducible apply ow_storeN' st); exact rfl; exact inferInstance; exact rfl; (first | exact get0 | exact get1 | exact get2 | exact get3 | exact get4 | exact get5 | exact get6 | exact get7); exact rfl)); exact rfl; exact rfl; (simp <;> done); ((try simp only [zta, ztz, zda, zdz, zca, zcn, zan, zsz, zss]) <;> exact rfl); (try clear st); intro w' st) | ((with_reducible apply ow_old1 st); exact rfl; exact inferInstance; exact rfl; assumption; assumption) | ((with_reducible apply ow_old4 st); exact rfl; exact inferInstance; exact rfl; assumption; assumption; assumption; assumption; assumption) | fail | ((with_reducible apply ow_eval); (go_simp <;> (try simp (disch := omega) only [wrap_id, sub_left, zac]) <;> rfl); first | (with_reducible apply up_value) | (with_reducible apply up_skip) | ((with_reducible apply up_enter); first | (go_at_call 84; ((with_reducible refine (HS.out _ st.below).mono ?_)); rintro e w' ⟨b4, rfl, st'⟩; replace st := st.join st'; clear st'; simp only [List.cons_append, List.nil_append] at st; refine ⟨_, rfl, ?_⟩)))); refine WL.next hK (by simp only [Act.put, zpt, zsz, zss]; exact rfl) ?_; clear hK K) | (refine WL.skip ?_ (by simp only [Act.put, zpt, zsz, zss]; exact rfl) ?_; (first | exact rfl | (simp [Region.wanted, yielded, *] <;> done) | (simp [Region.wanted, yielded] <;> omega))))); (try refine WL.nil ?_))
    refine bodyPost_ret (results_cell rfl _ _ _ rfl (load_cells rfl (st.boxC (i := 1) rfl))) rfl ?_
    exact ⟨by rw [HP.out]; rfl, st.below⟩
  obtain ⟨a, b, c, hL⟩ : ∃ a b c, L.cutL 32 s = [a, b, c] := by
    revert h3
    generalize L.cutL 32 s = l
    intro h
    rcases l with _ | ⟨a, _ | ⟨b, _ | ⟨c, _ | ⟨d, l⟩⟩⟩⟩ <;> simp at h
    exact ⟨a, b, c, rfl⟩
  have HP := Lib.hid (L.parse_three hL)
  rw [hL] at HS hle
  have la : a.length ≤ 100000 := Nat.le_trans (hle a (by simp)) hl
  have lb : b.length ≤ 100000 := Nat.le_trans (hle b (by simp)) hl
  have lc : c.length ≤ 100000 := Nat.le_trans (hle c (by simp)) hl
  have HS : Hid (∀ W, Below w.heap.size w W → Calls Tryz.prog 84 #[.string ⟨s.toArray⟩, .string ⟨#[32]⟩] W fun e w' => ∃ p, e = .returned (.slice (some ⟨p, 0, none⟩) 3 3) ∧ St W w' [.box p 9 [.string ⟨a.toArray⟩, .string ⟨b.toArray⟩, .string ⟨c.toArray⟩]]) := HS
  clear h3 hle hL
  have HN : Hid (∀ d : List UInt8, d.length ≤ 100000 → ∀ q, L.n5 d = q → ∀ W, Below w.heap.size w W → Calls Tryz.prog 85 #[.string ⟨d.toArray⟩] W fun e w' => ∃ v : Int, e = .returned (.tuple #[.int .i64 v, .bool q]) ∧ Below W.heap.size W w') := Lib.hid fun d hd q hq W hb => numG hd (HE.out.later hb) hq
  have HT : Hid (∀ d : List UInt8, d.length ≤ 100000 → L.n5 d = true → ∀ W, Below w.heap.size w W → Calls Tryz.prog 85 #[.string ⟨d.toArray⟩] W fun e w' => e = .returned (.tuple #[.int .i64 ((L.val d : Nat) : Int), .bool true]) ∧ Below W.heap.size W w') := Lib.hid fun d hd hq W hb => numT hd (HE.out.later hb) hq
  obtain ⟨qa, hqa⟩ : ∃ q, L.n5 a = q := ⟨_, rfl⟩
  obtain ⟨qb, hqb⟩ : ∃ q, L.n5 b = q := ⟨_, rfl⟩
  obtain ⟨qc, hqc⟩ : ∃ q, L.n5 c = q := ⟨_, rfl⟩
  rw [hqa, hqb, hqc] at HP
  have Ha := Lib.hid (HN.out a la qa hqa)
  have Hb := Lib.hid (HN.out b lb qb hqb)
  have Hc := Lib.hid (HN.out c lc qc hqc)
  by_cases hall : qa = true ∧ qb = true ∧ qc = true
  · obtain ⟨rfl, rfl, rfl⟩ := hall
    have Ta := Lib.hid (HT.out a la hqa)
    have Tb := Lib.hid (HT.out b lb hqb)
    have Tc := Lib.hid (HT.out c lc hqc)
    obtain ⟨va, hva⟩ : ∃ v : Nat, v = L.val a := ⟨_, rfl⟩
    obtain ⟨vb, hvb⟩ : ∃ v : Nat, v = L.val b := ⟨_, rfl⟩
    obtain ⟨vc, hvc⟩ : ∃ v : Nat, v = L.val c := ⟨_, rfl⟩
    rw [← hva] at Ta HP
    rw [← hvb] at Tb HP
    rw [← hvc] at Tc HP
    clear hqa hqb hqc hva hvb hvc Ha Hb Hc HN HT
    by_cases h11 : (11 : Int) ≤ (va : Int)
    · have HQ : Hid (L.parseF s = ((0, 0, 0), 15)) := Lib.hid (by rw [HP.out]; exact if_pos h11)
      go_enter Tryz.func43, Tryz.ntmps43
      go_wp2_with (refine WL.out ?_; (repeat (first | (refine WL.op ?_ ?_; (first | exact rfl | (simp [Region.wanted, yielded, *] <;> done) | (simp [Region.wanted, yielded] <;> omega)); intro K hK; (first | ((first | ((with_reducible apply ow_move); exact rfl) | ((with_reducible apply ow_assign); exact rfl)); (go_simp <;> (try simp (disch := omega) only [wrap_id, sub_left, zac]) <;> rfl)) | ((first | ((with_reducible apply ow_load1 st); exact rfl; exact inferInstance; exact rfl; (first | exact get0 | exact get1 | exact get2 | exact get3 | exact get4 | exact get5 | exact get6 | exact get7)) | ((with_reducible apply ow_loadN st); exact rfl; exact inferInstance; exact rfl; (first | exact get0 | exact get1 | exact get2 | exact get3 | exact get4 | exact get5 | exact get6 | exact get7); ((try simp only [zta, ztz, zda, zdz, zca, zcn, zan, zsz, zss]) <;> exact rfl))); exact rfl) | ((first | ((with_reducible apply ow_box st); exact rfl; (go_simp <;> (try simp (disch := omega) only [wrap_id, sub_left, zac]) <;> rfl); (go_simp <;> (try simp (disch := omega) only [wrap_id, sub_left, zac]) <;> rfl)) | ((with_reducible apply ow_newSlice st); exact rfl; (go_simp <;> (try simp (disch := omega) only [wrap_id, sub_left, zac]) <;> rfl); exact rfl) | ((with_reducible apply ow_alloc st); exact rfl; exact inferInstance; (go_simp <;> (try simp (disch := omega) only [wrap_id, sub_left, zac]) <;> rfl))); (try clear st); intro b w' st) | ((first | ((with_reducible apply ow_store1' st); exact rfl; exact inferInstance; exact rfl; (first | exact get0 | exact get1 | exact get2 | exact get3 | exact get4 | exact get5 | exact get6 | exact get7); (go_simp <;> (try simp (disch := omega) only [wrap_id, sub_left, zac]) <;> rfl)) | ((with_reducible apply ow_storeN' st); exact rfl; exact inferInstance; exact rfl; (first | exact get0 | exact get1 | exact get2 | exact get3 | exact get4 | exact get5 | exact get6 | exact get7); exact rfl)); exact rfl; exact rfl; (simp <;> done); ((try simp only [zta, ztz, zda, zdz, zca, zcn, zan, zsz, zss]) <;> exact rfl); (try clear st); intro w' st) | ((with_reducible apply ow_old1 st); exact rfl; exact inferInstance; exact rfl; assumption; assumption) | ((with_reducible apply ow_old4 st); exact rfl; exact inferInstance; exact rfl; assumption; assumption; assumption; assumption; assumption) | fail | ((with_reducible apply ow_eval); (go_simp <;> (try simp (disch := omega) only [wrap_id, sub_left, zac]) <;> rfl); first | (with_reducible apply up_value) | (with_reducible apply up_skip) | ((with_reducible apply up_enter); first | (go_at_call 84; ((with_reducible refine (HS.out _ st.below).mono ?_)); rintro e w' ⟨b4, rfl, st'⟩; replace st := st.join st'; clear st'; simp only [List.cons_append, List.nil_append] at st; refine ⟨_, rfl, ?_⟩) | (go_at_call 85; ((with_reducible refine (Ta.out _ st.below).mono ?_)); rintro e w' ⟨rfl, hb⟩; replace st := st.call hb; clear hb; refine ⟨_, rfl, ?_⟩) | (go_at_call 85; ((with_reducible refine (Tb.out _ st.below).mono ?_)); rintro e w' ⟨rfl, hb⟩; replace st := st.call hb; clear hb; refine ⟨_, rfl, ?_⟩) | (go_at_call 85; ((with_reducible refine (Tc.out _ st.below).mono ?_)); rintro e w' ⟨rfl, hb⟩; replace st := st.call hb; clear hb; refine ⟨_, rfl, ?_⟩)))); refine WL.next hK (by simp only [Act.put, zpt, zsz, zss]; exact rfl) ?_; clear hK K) | (refine WL.skip ?_ (by simp only [Act.put, zpt, zsz, zss]; exact rfl) ?_; (first | exact rfl | (simp [Region.wanted, yielded, *] <;> done) | (simp [Region.wanted, yielded] <;> omega))))); (try refine WL.nil ?_))
      refine bodyPost_ret (results_cell rfl _ _ _ rfl (load_cells rfl (st.boxC (i := 1) rfl))) rfl ?_
      exact ⟨by rw [HQ.out]; rfl, st.below⟩
    · have HQ : Hid (L.parseF s = (((va : Int), (vb : Int), (vc : Int)), 0)) := Lib.hid (by rw [HP.out]; exact if_neg h11)
      go_enter Tryz.func43, Tryz.ntmps43
      go_wp2_with (refine WL.out ?_; (repeat (first | (refine WL.op ?_ ?_; (first | exact rfl | (simp [Region.wanted, yielded, *] <;> done) | (simp [Region.wanted, yielded] <;> omega)); intro K hK; (first | ((first | ((with_reducible apply ow_move); exact rfl) | ((with_reducible apply ow_assign); exact rfl)); (go_simp <;> (try simp (disch := omega) only [wrap_id, sub_left, zac]) <;> rfl)) | ((first | ((with_reducible apply ow_load1 st); exact rfl; exact inferInstance; exact rfl; (first | exact get0 | exact get1 | exact get2 | exact get3 | exact get4 | exact get5 | exact get6 | exact get7)) | ((with_reducible apply ow_loadN st); exact rfl; exact inferInstance; exact rfl; (first | exact get0 | exact get1 | exact get2 | exact get3 | exact get4 | exact get5 | exact get6 | exact get7); ((try simp only [zta, ztz, zda, zdz, zca, zcn, zan, zsz, zss]) <;> exact rfl))); exact rfl) | ((first | ((with_reducible apply ow_box st); exact rfl; (go_simp <;> (try simp (disch := omega) only [wrap_id, sub_left, zac]) <;> rfl); (go_simp <;> (try simp (disch := omega) only [wrap_id, sub_left, zac]) <;> rfl)) | ((with_reducible apply ow_newSlice st); exact rfl; (go_simp <;> (try simp (disch := omega) only [wrap_id, sub_left, zac]) <;> rfl); exact rfl) | ((with_reducible apply ow_alloc st); exact rfl; exact inferInstance; (go_simp <;> (try simp (disch := omega) only [wrap_id, sub_left, zac]) <;> rfl))); (try clear st); intro b w' st) | ((first | ((with_reducible apply ow_store1' st); exact rfl; exact inferInstance; exact rfl; (first | exact get0 | exact get1 | exact get2 | exact get3 | exact get4 | exact get5 | exact get6 | exact get7); (go_simp <;> (try simp (disch := omega) only [wrap_id, sub_left, zac]) <;> rfl)) | ((with_reducible apply ow_storeN' st); exact rfl; exact inferInstance; exact rfl; (first | exact get0 | exact get1 | exact get2 | exact get3 | exact get4 | exact get5 | exact get6 | exact get7); exact rfl)); exact rfl; exact rfl; (simp <;> done); ((try simp only [zta, ztz, zda, zdz, zca, zcn, zan, zsz, zss]) <;> exact rfl); (try clear st); intro w' st) | ((with_reducible apply ow_old1 st); exact rfl; exact inferInstance; exact rfl; assumption; assumption) | ((with_reducible apply ow_old4 st); exact rfl; exact inferInstance; exact rfl; assumption; assumption; assumption; assumption; assumption) | fail | ((with_reducible apply ow_eval); (go_simp <;> (try simp (disch := omega) only [wrap_id, sub_left, zac]) <;> rfl); first | (with_reducible apply up_value) | (with_reducible apply up_skip) | ((with_reducible apply up_enter); first | (go_at_call 84; ((with_reducible refine (HS.out _ st.below).mono ?_)); rintro e w' ⟨b4, rfl, st'⟩; replace st := st.join st'; clear st'; simp only [List.cons_append, List.nil_append] at st; refine ⟨_, rfl, ?_⟩) | (go_at_call 85; ((with_reducible refine (Ta.out _ st.below).mono ?_)); rintro e w' ⟨rfl, hb⟩; replace st := st.call hb; clear hb; refine ⟨_, rfl, ?_⟩) | (go_at_call 85; ((with_reducible refine (Tb.out _ st.below).mono ?_)); rintro e w' ⟨rfl, hb⟩; replace st := st.call hb; clear hb; refine ⟨_, rfl, ?_⟩) | (go_at_call 85; ((with_reducible refine (Tc.out _ st.below).mono ?_)); rintro e w' ⟨rfl, hb⟩; replace st := st.call hb; clear hb; refine ⟨_, rfl, ?_⟩)))); refine WL.next hK (by simp only [Act.put, zpt, zsz, zss]; exact rfl) ?_; clear hK K) | (refine WL.skip ?_ (by simp only [Act.put, zpt, zsz, zss]; exact rfl) ?_; (first | exact rfl | (simp [Region.wanted, yielded, *] <;> done) | (simp [Region.wanted, yielded] <;> omega))))); (try refine WL.nil ?_))
      refine bodyPost_ret (results_cell rfl _ _ _ rfl (load_cells rfl (st.boxC (i := 1) rfl))) rfl ?_
      exact ⟨by rw [HQ.out]; rfl, st.below⟩
  · have HQ : Hid (L.parseF s = ((0, 0, 0), 7)) := Lib.hid (by
      rw [HP.out]
      cases qa <;> cases qb <;> cases qc <;> first | rfl | (exfalso; exact hall ⟨rfl, rfl, rfl⟩))
    have hcase : qa = false ∨ (qa = true ∧ qb = false) ∨ (qa = true ∧ qb = true ∧ qc = false) := by
      cases qa <;> cases qb <;> cases qc <;> simp at hall ⊢
    clear hall HP hqa hqb hqc HN HT
    rcases hcase with rfl | ⟨rfl, rfl⟩ | ⟨rfl, rfl, rfl⟩
    all_goals
      go_enter Tryz.func43, Tryz.ntmps43
      go_wp2_with (refine WL.out ?_; (repeat (first | (refine WL.op ?_ ?_; (first | exact rfl | (simp [Region.wanted, yielded, *] <;> done) | (simp [Region.wanted, yielded] <;> omega)); intro K hK; (first | ((first | ((with_reducible apply ow_move); exact rfl) | ((with_reducible apply ow_assign); exact rfl)); (go_simp <;> (try simp (disch := omega) only [wrap_id, sub_left, zac]) <;> rfl)) | ((first | ((with_reducible apply ow_load1 st); exact rfl; exact inferInstance; exact rfl; (first | exact get0 | exact get1 | exact get2 | exact get3 | exact get4 | exact get5 | exact get6 | exact get7)) | ((with_reducible apply ow_loadN st); exact rfl; exact inferInstance; exact rfl; (first | exact get0 | exact get1 | exact get2 | exact get3 | exact get4 | exact get5 | exact get6 | exact get7); ((try simp only [zta, ztz, zda, zdz, zca, zcn, zan, zsz, zss]) <;> exact rfl))); exact rfl) | ((first | ((with_reducible apply ow_box st); exact rfl; (go_simp <;> (try simp (disch := omega) only [wrap_id, sub_left, zac]) <;> rfl); (go_simp <;> (try simp (disch := omega) only [wrap_id, sub_left, zac]) <;> rfl)) | ((with_reducible apply ow_newSlice st); exact rfl; (go_simp <;> (try simp (disch := omega) only [wrap_id, sub_left, zac]) <;> rfl); exact rfl) | ((with_reducible apply ow_alloc st); exact rfl; exact inferInstance; (go_simp <;> (try simp (disch := omega) only [wrap_id, sub_left, zac]) <;> rfl))); (try clear st); intro b w' st) | ((first | ((with_reducible apply ow_store1' st); exact rfl; exact inferInstance; exact rfl; (first | exact get0 | exact get1 | exact get2 | exact get3 | exact get4 | exact get5 | exact get6 | exact get7); (go_simp <;> (try simp (disch := omega) only [wrap_id, sub_left, zac]) <;> rfl)) | ((with_reducible apply ow_storeN' st); exact rfl; exact inferInstance; exact rfl; (first | exact get0 | exact get1 | exact get2 | exact get3 | exact get4 | exact get5 | exact get6 | exact get7); exact rfl)); exact rfl; exact rfl; (simp <;> done); ((try simp only [zta, ztz, zda, zdz, zca, zcn, zan, zsz, zss]) <;> exact rfl); (try clear st); intro w' st) | ((with_reducible apply ow_old1 st); exact rfl; exact inferInstance; exact rfl; assumption; assumption) | ((with_reducible apply ow_old4 st); exact rfl; exact inferInstance; exact rfl; assumption; assumption; assumption; assumption; assumption) | fail | ((with_reducible apply ow_eval); (go_simp <;> (try simp (disch := omega) only [wrap_id, sub_left, zac]) <;> rfl); first | (with_reducible apply up_value) | (with_reducible apply up_skip) | ((with_reducible apply up_enter); first | (go_at_call 84; ((with_reducible refine (HS.out _ st.below).mono ?_)); rintro e w' ⟨b4, rfl, st'⟩; replace st := st.join st'; clear st'; simp only [List.cons_append, List.nil_append] at st; refine ⟨_, rfl, ?_⟩) | (go_at_call 85; ((with_reducible refine (Ha.out _ st.below).mono ?_)); rintro e w' ⟨vq, rfl, hb⟩; replace st := st.call hb; clear hb; refine ⟨_, rfl, ?_⟩) | (go_at_call 85; ((with_reducible refine (Hb.out _ st.below).mono ?_)); rintro e w' ⟨vq, rfl, hb⟩; replace st := st.call hb; clear hb; refine ⟨_, rfl, ?_⟩) | (go_at_call 85; ((with_reducible refine (Hc.out _ st.below).mono ?_)); rintro e w' ⟨vq, rfl, hb⟩; replace st := st.call hb; clear hb; refine ⟨_, rfl, ?_⟩)))); refine WL.next hK (by simp only [Act.put, zpt, zsz, zss]; exact rfl) ?_; clear hK K) | (refine WL.skip ?_ (by simp only [Act.put, zpt, zsz, zss]; exact rfl) ?_; (first | exact rfl | (simp [Region.wanted, yielded, *] <;> done) | (simp [Region.wanted, yielded] <;> omega))))); (try refine WL.nil ?_))
      refine bodyPost_ret (results_cell rfl _ _ _ rfl (load_cells rfl (st.boxC (i := 1) rfl))) rfl ?_
      exact ⟨by rw [HQ.out]; rfl, st.below⟩
end Go.Proofs.YtgcjejajljhnaaaGreatDoor
