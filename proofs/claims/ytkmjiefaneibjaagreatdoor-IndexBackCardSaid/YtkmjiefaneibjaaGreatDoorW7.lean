/- Part 7 of the library of this proof. -/
import Derived.Test.YtkmjiefaneibjaaGreatDoorW6
import Derived.Shelf.Small.Strs
import Derived.Shelf.Strconv.Itoa3
import Derived.Shelf.Strconv.Atoi
import Derived.Shelf.Strconv.ErrVarAll
import Derived.Lib.AppendIntMem
import Derived.Shelf.Strings.Prefix
import Derived.Test.YtkmjiefaneibjaaGreatDoorProg
import Derived.KernelRfl
import Derived.Shelf.Strings.Builder2
import Derived.Lib.ItoaNum
import Derived.Lib.AtoiAll
import Derived.Lib.Bytealg
import Derived.Shelf.Strings.Search1
set_option linter.all false
namespace Go.Proofs
open Go.Shelf
def Tryz.lays169_ren : Go.Shelf.Ren := ⟨fun | 169 => 22 | n => n, fun | 70 => 50 | 9 => 9 | 0 => 0 | 72 => 53 | 37 => 51 | 127 => 114 | 3 => 3 | 5 => 5 | n => n, fun | n => n⟩
theorem Tryz.lays169 : Go.Proofs.Lays.n169 Tryz.prog Tryz.lays169_ren := {
  mixed := by kernel_rfl
  f169 := Tryz.func22.trans (congrArg some (by kernel_rfl))
  t0 := Tryz.underlying0
  a0 := Tryz.isAgg0
  z0 := Tryz.sizeOf0
  v0 := Tryz.zeroValue0
  t3 := Tryz.underlying3
  a3 := Tryz.isAgg3
  z3 := Tryz.sizeOf3
  v3 := Tryz.zeroValue3
  t9 := Tryz.underlying9
  a9 := Tryz.isAgg9
  z9 := Tryz.sizeOf9
  v9 := Tryz.zeroValue9
  t37 := Tryz.underlying51
  a37 := Tryz.isAgg51
  z37 := Tryz.sizeOf51
  v37 := Tryz.zeroValue51
  t70 := Tryz.underlying50
  a70 := Tryz.isAgg50
  z70 := Tryz.sizeOf50
  v70 := Tryz.zeroValue50
  t72 := Tryz.underlying53
  a72 := Tryz.isAgg53
  z72 := Tryz.sizeOf53
  v72 := Tryz.zeroValue53
  t127 := Tryz.underlying114
  a127 := Tryz.isAgg114
  z127 := Tryz.sizeOf114
  v127 := Tryz.zeroValue114 }
theorem Tryz.Builder_Extra_169 : Builder.Extra Tryz.prog Tryz.lays169_ren := {
  sizeBuilder := by kernel_rfl
  liesBuilder := by kernel_rfl
  t5 := Tryz.underlying5
  a5 := Tryz.isAgg5
  z5 := Tryz.sizeOf5
  v5 := Tryz.zeroValue5
  infoByte := by kernel_rfl
  cellsByte := by kernel_rfl
  sizeByte := by kernel_rfl
  neB5 := by decide }
def Tryz.laysM171_ren : Go.Shelf.Ren := ⟨fun | 171 => 42 | 243 => 79 | 246 => 118 | 283 => 145 | 284 => 146 | 285 => 147 | 286 => 148 | 129 => 167 | 317 => 166 | 318 => 168 | 319 => 169 | 320 => 170 | 337 => 179 | 338 => 180 | n => n, fun | 3 => 3 | 9 => 9 | 2 => 2 | 4 => 4 | 171 => 243 | 0 => 0 | 53 => 236 | 37 => 51 | 5 => 5 | 173 => 246 | 212 => 273 | 51 => 233 | 20 => 20 | 213 => 274 | 46 => 197 | 232 => 287 | 233 => 288 | n => n, fun | 17 => 5 | 18 => 6 | 19 => 7 | n => n⟩
theorem Tryz.laysM171 : Go.Proofs.LaysM.n171 Tryz.prog Tryz.laysM171_ren := {
  mixed := by kernel_rfl
  f129 := Tryz.func167.trans (congrArg some (by kernel_rfl))
  f171 := Tryz.func42.trans (congrArg some (by kernel_rfl))
  f243 := Tryz.func79.trans (congrArg some (by kernel_rfl))
  f246 := Tryz.func118.trans (congrArg some (by kernel_rfl))
  f283 := Tryz.func145.trans (congrArg some (by kernel_rfl))
  f284 := Tryz.func146.trans (congrArg some (by kernel_rfl))
  f285 := Tryz.func147.trans (congrArg some (by kernel_rfl))
  f286 := Tryz.func148.trans (congrArg some (by kernel_rfl))
  f317 := Tryz.func166.trans (congrArg some (by kernel_rfl))
  f318 := Tryz.func168.trans (congrArg some (by kernel_rfl))
  f319 := Tryz.func169.trans (congrArg some (by kernel_rfl))
  f320 := Tryz.func170.trans (congrArg some (by kernel_rfl))
  f337 := Tryz.func179.trans (congrArg some (by kernel_rfl))
  f338 := Tryz.func180.trans (congrArg some (by kernel_rfl))
  t0 := Tryz.underlying0
  a0 := Tryz.isAgg0
  z0 := Tryz.sizeOf0
  v0 := Tryz.zeroValue0
  t2 := Tryz.underlying2
  a2 := Tryz.isAgg2
  z2 := Tryz.sizeOf2
  v2 := Tryz.zeroValue2
  t3 := Tryz.underlying3
  a3 := Tryz.isAgg3
  z3 := Tryz.sizeOf3
  v3 := Tryz.zeroValue3
  t4 := Tryz.underlying4
  a4 := Tryz.isAgg4
  z4 := Tryz.sizeOf4
  v4 := Tryz.zeroValue4
  t5 := Tryz.underlying5
  a5 := Tryz.isAgg5
  z5 := Tryz.sizeOf5
  v5 := Tryz.zeroValue5
  t9 := Tryz.underlying9
  a9 := Tryz.isAgg9
  z9 := Tryz.sizeOf9
  v9 := Tryz.zeroValue9
  t20 := Tryz.underlying20
  a20 := Tryz.isAgg20
  z20 := Tryz.sizeOf20
  v20 := Tryz.zeroValue20
  t37 := Tryz.underlying51
  a37 := Tryz.isAgg51
  z37 := Tryz.sizeOf51
  v37 := Tryz.zeroValue51
  t46 := Tryz.underlying197
  a46 := Tryz.isAgg197
  z46 := Tryz.sizeOf197
  v46 := Tryz.zeroValue197
  t51 := Tryz.underlying233
  a51 := Tryz.isAgg233
  z51 := Tryz.sizeOf233
  v51 := Tryz.zeroValue233
  t53 := Tryz.underlying236
  a53 := Tryz.isAgg236
  z53 := Tryz.sizeOf236
  v53 := Tryz.zeroValue236
  t171 := Tryz.underlying243
  a171 := Tryz.isAgg243
  z171 := Tryz.sizeOf243
  v171 := Tryz.zeroValue243
  t173 := Tryz.underlying246
  a173 := Tryz.isAgg246
  z173 := Tryz.sizeOf246
  v173 := Tryz.zeroValue246
  t212 := Tryz.underlying273
  a212 := Tryz.isAgg273
  z212 := Tryz.sizeOf273
  v212 := Tryz.zeroValue273
  t213 := Tryz.underlying274
  a213 := Tryz.isAgg274
  z213 := Tryz.sizeOf274
  t232 := Tryz.underlying287
  a232 := Tryz.isAgg287
  z232 := Tryz.sizeOf287
  v232 := Tryz.zeroValue287
  t233 := Tryz.underlying288
  a233 := Tryz.isAgg288
  z233 := Tryz.sizeOf288
  v233 := Tryz.zeroValue288
  g17 := by kernel_rfl
  g18 := by kernel_rfl
  g19 := by kernel_rfl
  i0 := by kernel_rfl
  i2 := by kernel_rfl
  i3 := by kernel_rfl
  i4 := by kernel_rfl
  i5 := by kernel_rfl
  i9 := by kernel_rfl
  i20 := by kernel_rfl
  i37 := by kernel_rfl
  i46 := by kernel_rfl
  i51 := by kernel_rfl
  i53 := by kernel_rfl
  i171 := by kernel_rfl
  i173 := by kernel_rfl
  i212 := by kernel_rfl
  i232 := by kernel_rfl
  i233 := by kernel_rfl
  m17 := by kernel_rfl
  m18 := by kernel_rfl
  m19 := by kernel_rfl }
def Tryz.laysC172_ren : Go.Shelf.Ren := ⟨fun | 172 => 41 | 244 => 77 | 245 => 78 | 247 => 113 | 279 => 114 | 280 => 115 | 281 => 116 | 282 => 117 | 287 => 142 | 316 => 143 | 171 => 42 | 205 => 144 | 321 => 164 | 322 => 165 | 243 => 79 | 246 => 118 | 283 => 145 | 284 => 146 | 285 => 147 | 286 => 148 | 129 => 167 | 317 => 166 | 318 => 168 | 319 => 169 | 320 => 170 | 337 => 179 | 338 => 180 | n => n, fun | 9 => 9 | 3 => 3 | 75 => 57 | 76 => 58 | 4 => 4 | 5 => 5 | 167 => 201 | 37 => 51 | 0 => 0 | 85 => 202 | 2 => 2 | 168 => 204 | 53 => 236 | 175 => 237 | 46 => 197 | 210 => 241 | 127 => 114 | 145 => 271 | 143 => 269 | 21 => 21 | 171 => 243 | 173 => 246 | 212 => 273 | 51 => 233 | 20 => 20 | 213 => 274 | 232 => 287 | 233 => 288 | 80 => 60 | n => n, fun | 15 => 1 | 16 => 2 | 17 => 5 | 18 => 6 | 19 => 7 | n => n⟩
theorem Tryz.laysC172 : Go.Proofs.LaysC.n172 Tryz.prog Tryz.laysC172_ren := {
  mixed := by kernel_rfl
  f129 := Tryz.func167.trans (congrArg some (by kernel_rfl))
  f171 := Tryz.func42.trans (congrArg some (by kernel_rfl))
  f172 := Tryz.func41.trans (congrArg some (by kernel_rfl))
  f205 := Tryz.func144.trans (congrArg some (by kernel_rfl))
  f243 := Tryz.func79.trans (congrArg some (by kernel_rfl))
  f244 := Tryz.func77.trans (congrArg some (by kernel_rfl))
  f245 := Tryz.func78.trans (congrArg some (by kernel_rfl))
  f246 := Tryz.func118.trans (congrArg some (by kernel_rfl))
  f247 := Tryz.func113.trans (congrArg some (by kernel_rfl))
  f279 := Tryz.func114.trans (congrArg some (by kernel_rfl))
  f280 := Tryz.func115.trans (congrArg some (by kernel_rfl))
  f281 := Tryz.func116.trans (congrArg some (by kernel_rfl))
  f282 := Tryz.func117.trans (congrArg some (by kernel_rfl))
  f283 := Tryz.func145.trans (congrArg some (by kernel_rfl))
  f284 := Tryz.func146.trans (congrArg some (by kernel_rfl))
  f285 := Tryz.func147.trans (congrArg some (by kernel_rfl))
  f286 := Tryz.func148.trans (congrArg some (by kernel_rfl))
  f287 := Tryz.func142.trans (congrArg some (by kernel_rfl))
  f316 := Tryz.func143.trans (congrArg some (by kernel_rfl))
  f317 := Tryz.func166.trans (congrArg some (by kernel_rfl))
  f318 := Tryz.func168.trans (congrArg some (by kernel_rfl))
  f319 := Tryz.func169.trans (congrArg some (by kernel_rfl))
  f320 := Tryz.func170.trans (congrArg some (by kernel_rfl))
  f321 := Tryz.func164.trans (congrArg some (by kernel_rfl))
  f322 := Tryz.func165.trans (congrArg some (by kernel_rfl))
  f337 := Tryz.func179.trans (congrArg some (by kernel_rfl))
  f338 := Tryz.func180.trans (congrArg some (by kernel_rfl))
  t0 := Tryz.underlying0
  a0 := Tryz.isAgg0
  z0 := Tryz.sizeOf0
  v0 := Tryz.zeroValue0
  t2 := Tryz.underlying2
  a2 := Tryz.isAgg2
  z2 := Tryz.sizeOf2
  v2 := Tryz.zeroValue2
  t3 := Tryz.underlying3
  a3 := Tryz.isAgg3
  z3 := Tryz.sizeOf3
  v3 := Tryz.zeroValue3
  t4 := Tryz.underlying4
  a4 := Tryz.isAgg4
  z4 := Tryz.sizeOf4
  v4 := Tryz.zeroValue4
  t5 := Tryz.underlying5
  a5 := Tryz.isAgg5
  z5 := Tryz.sizeOf5
  v5 := Tryz.zeroValue5
  t9 := Tryz.underlying9
  a9 := Tryz.isAgg9
  z9 := Tryz.sizeOf9
  v9 := Tryz.zeroValue9
  t20 := Tryz.underlying20
  a20 := Tryz.isAgg20
  z20 := Tryz.sizeOf20
  v20 := Tryz.zeroValue20
  t21 := Tryz.underlying21
  a21 := Tryz.isAgg21
  z21 := Tryz.sizeOf21
  v21 := Tryz.zeroValue21
  t37 := Tryz.underlying51
  a37 := Tryz.isAgg51
  z37 := Tryz.sizeOf51
  v37 := Tryz.zeroValue51
  t46 := Tryz.underlying197
  a46 := Tryz.isAgg197
  z46 := Tryz.sizeOf197
  v46 := Tryz.zeroValue197
  t51 := Tryz.underlying233
  a51 := Tryz.isAgg233
  z51 := Tryz.sizeOf233
  v51 := Tryz.zeroValue233
  t53 := Tryz.underlying236
  a53 := Tryz.isAgg236
  z53 := Tryz.sizeOf236
  v53 := Tryz.zeroValue236
  t75 := Tryz.underlying57
  a75 := Tryz.isAgg57
  z75 := Tryz.sizeOf57
  v75 := Tryz.zeroValue57
  t76 := Tryz.underlying58
  a76 := Tryz.isAgg58
  z76 := Tryz.sizeOf58
  v76 := Tryz.zeroValue58
  t85 := Tryz.underlying202
  a85 := Tryz.isAgg202
  z85 := Tryz.sizeOf202
  v85 := Tryz.zeroValue202
  t127 := Tryz.underlying114
  a127 := Tryz.isAgg114
  z127 := Tryz.sizeOf114
  v127 := Tryz.zeroValue114
  t143 := Tryz.underlying269
  a143 := Tryz.isAgg269
  z143 := Tryz.sizeOf269
  v143 := Tryz.zeroValue269
  t145 := Tryz.underlying271
  a145 := Tryz.isAgg271
  z145 := Tryz.sizeOf271
  v145 := Tryz.zeroValue271
  t167 := Tryz.underlying201
  a167 := Tryz.isAgg201
  z167 := Tryz.sizeOf201
  v167 := Tryz.zeroValue201
  t168 := Tryz.underlying204
  a168 := Tryz.isAgg204
  z168 := Tryz.sizeOf204
  v168 := Tryz.zeroValue204
  t171 := Tryz.underlying243
  a171 := Tryz.isAgg243
  z171 := Tryz.sizeOf243
  v171 := Tryz.zeroValue243
  t173 := Tryz.underlying246
  a173 := Tryz.isAgg246
  z173 := Tryz.sizeOf246
  v173 := Tryz.zeroValue246
  t175 := Tryz.underlying237
  a175 := Tryz.isAgg237
  z175 := Tryz.sizeOf237
  v175 := Tryz.zeroValue237
  t210 := Tryz.underlying241
  a210 := Tryz.isAgg241
  z210 := Tryz.sizeOf241
  v210 := Tryz.zeroValue241
  t212 := Tryz.underlying273
  a212 := Tryz.isAgg273
  z212 := Tryz.sizeOf273
  v212 := Tryz.zeroValue273
  t213 := Tryz.underlying274
  a213 := Tryz.isAgg274
  z213 := Tryz.sizeOf274
  t232 := Tryz.underlying287
  a232 := Tryz.isAgg287
  z232 := Tryz.sizeOf287
  v232 := Tryz.zeroValue287
  t233 := Tryz.underlying288
  a233 := Tryz.isAgg288
  z233 := Tryz.sizeOf288
  v233 := Tryz.zeroValue288
  g15 := by kernel_rfl
  g16 := by kernel_rfl
  g17 := by kernel_rfl
  g18 := by kernel_rfl
  g19 := by kernel_rfl
  t80 := Tryz.underlying60
  a80 := Tryz.isAgg60
  z80 := Tryz.sizeOf60
  v80 := Tryz.zeroValue60
  i0 := by kernel_rfl
  i2 := by kernel_rfl
  i3 := by kernel_rfl
  i4 := by kernel_rfl
  i5 := by kernel_rfl
  i9 := by kernel_rfl
  i20 := by kernel_rfl
  i21 := by kernel_rfl
  i37 := by kernel_rfl
  i46 := by kernel_rfl
  i51 := by kernel_rfl
  i53 := by kernel_rfl
  i75 := by kernel_rfl
  i76 := by kernel_rfl
  i80 := by kernel_rfl
  i85 := by kernel_rfl
  i127 := by kernel_rfl
  i143 := by kernel_rfl
  i145 := by kernel_rfl
  i167 := by kernel_rfl
  i168 := by kernel_rfl
  i171 := by kernel_rfl
  i173 := by kernel_rfl
  i175 := by kernel_rfl
  i210 := by kernel_rfl
  i212 := by kernel_rfl
  i232 := by kernel_rfl
  i233 := by kernel_rfl
  m15 := by kernel_rfl
  m16 := by kernel_rfl
  m17 := by kernel_rfl
  m18 := by kernel_rfl
  m19 := by kernel_rfl
  c0 := by kernel_rfl
  c2 := by kernel_rfl
  c3 := by kernel_rfl
  c4 := by kernel_rfl
  c5 := by kernel_rfl
  c9 := by kernel_rfl
  c20 := by kernel_rfl
  c21 := by kernel_rfl
  c37 := by kernel_rfl
  c46 := by kernel_rfl
  c51 := by kernel_rfl
  c53 := by kernel_rfl
  c75 := by kernel_rfl
  c76 := by kernel_rfl
  c80 := by kernel_rfl
  c85 := by kernel_rfl
  c127 := by kernel_rfl
  c143 := by kernel_rfl
  c145 := by kernel_rfl
  c167 := by kernel_rfl
  c168 := by kernel_rfl
  c171 := by kernel_rfl
  c173 := by kernel_rfl
  c175 := by kernel_rfl
  c210 := by kernel_rfl
  c212 := by kernel_rfl
  c213 := by kernel_rfl
  c232 := by kernel_rfl
  c233 := by kernel_rfl }
end Go.Proofs
namespace Go.Vc
open Go.Proofs
def c3 : VFn := ⟨64,.seq (.reg .false [⟨.some 4,.mov (.c (.bool .false)),.none⟩]) (.seq (.seq (.reg .false [⟨.some 12,.mov (.t 0),.none⟩,⟨.some 13,.len .false (.t 12),.none⟩,⟨.some 14,.bin .gtr (.t 13) (.c (.int .i64 100)),.none⟩,⟨.some 15,.mov (.t 14),.none⟩,⟨.some 16,.mov (.t 1),.some ((.t 15),.false)⟩,⟨.some 17,.len .true (.t 16),.some ((.t 15),.false)⟩,⟨.some 18,.bin .gtr (.t 17) (.c (.int .i64 2000)),.some ((.t 15),.false)⟩,⟨.some 19,.pick (.t 15) (.c (.bool .true)) (.t 18),.none⟩]) (.cond (.t 19) (.seq (.reg .false [⟨.some 20,.call (.c (.fn 5 [])) [],.none⟩,⟨.some 4,.mov (.t 20),.none⟩]) .ret) .skip)) (.seq (.reg .false [⟨.some 21,.bslice 38 3 [],.none⟩,⟨.some 22,.mov (.t 0),.none⟩,⟨.some 23,.append 38 3 24 (.t 21) (.t 22),.none⟩,⟨.some 5,.mov (.t 23),.none⟩]) (.seq (.reg .false [⟨.some 25,.mov (.t 1),.none⟩,⟨.some 26,.call (.c (.fn 6 [])) [.t 25],.none⟩,⟨.some 24,.mov (.t 26),.none⟩,⟨.some 27,.ext 0 (.t 24),.none⟩,⟨.some 28,.ext 1 (.t 24),.none⟩,⟨.some 29,.ext 2 (.t 24),.none⟩,⟨.some 6,.mov (.t 27),.none⟩,⟨.some 7,.mov (.t 28),.none⟩,⟨.some 8,.mov (.t 29),.none⟩]) (.seq (.reg .false [⟨.some 31,.mov (.t 1),.none⟩,⟨.some 32,.call (.c (.fn 7 [])) [.t 31],.none⟩,⟨.some 30,.mov (.t 32),.none⟩,⟨.some 33,.ext 0 (.t 30),.none⟩,⟨.some 34,.ext 1 (.t 30),.none⟩,⟨.some 35,.ext 2 (.t 30),.none⟩,⟨.some 9,.mov (.t 33),.none⟩,⟨.some 10,.mov (.t 34),.none⟩,⟨.some 11,.mov (.t 35),.none⟩]) (.seq (.reg .false [⟨.some 36,.mov (.t 5),.none⟩,⟨.some 37,.call (.c (.fn 8 [])) [.t 36],.none⟩,⟨.some 38,.mov (.t 0),.none⟩,⟨.some 39,.call (.c (.fn 9 [])) [.t 38],.none⟩,⟨.some 40,.bin .eql (.t 37) (.t 39),.none⟩,⟨.some 41,.mov (.t 40),.none⟩,⟨.some 42,.mov (.t 6),.some ((.t 41),.true)⟩,⟨.some 43,.mov (.t 9),.some ((.t 41),.true)⟩,⟨.some 44,.call (.c (.fn 10 [])) [.t 42,.t 43],.some ((.t 41),.true)⟩,⟨.some 45,.pick (.t 41) (.t 44) (.c (.bool .false)),.none⟩,⟨.some 46,.mov (.t 45),.none⟩,⟨.some 47,.mov (.t 7),.some ((.t 46),.true)⟩,⟨.some 48,.mov (.t 10),.some ((.t 46),.true)⟩,⟨.some 49,.bin .eql (.t 47) (.t 48),.some ((.t 46),.true)⟩,⟨.some 50,.pick (.t 46) (.t 49) (.c (.bool .false)),.none⟩,⟨.some 51,.mov (.t 50),.none⟩,⟨.some 52,.mov (.t 8),.some ((.t 51),.true)⟩,⟨.some 53,.mov (.t 11),.some ((.t 51),.true)⟩,⟨.some 54,.bin .eql (.t 52) (.t 53),.some ((.t 51),.true)⟩,⟨.some 55,.pick (.t 51) (.t 54) (.c (.bool .false)),.none⟩,⟨.some 56,.mov (.t 55),.none⟩,⟨.some 57,.mov (.t 5),.some ((.t 56),.true)⟩,⟨.some 58,.mov (.t 0),.some ((.t 56),.true)⟩,⟨.some 59,.call (.c (.fn 10 [])) [.t 57,.t 58],.some ((.t 56),.true)⟩,⟨.some 60,.pick (.t 56) (.t 59) (.c (.bool .false)),.none⟩,⟨.some 61,.mov (.t 60),.none⟩,⟨.some 62,.call (.c (.fn 5 [])) [],.some ((.t 61),.true)⟩,⟨.some 63,.pick (.t 61) (.t 62) (.c (.bool .false)),.none⟩,⟨.some 4,.mov (.t 63),.none⟩]) .ret))))),[.tmp (.t 4)]⟩
theorem e3 : cfn Tryz.prog Tryz.f3 = some c3 := by kernel_rfl
theorem k3 : callable Tryz.prog 3 = true := by kernel_rfl
def c4 : VFn := ⟨79,.seq (.reg .false [⟨.some 4,.mov (.c (.bool .false)),.none⟩]) (.seq (.seq (.reg .false [⟨.some 12,.mov (.t 0),.none⟩,⟨.some 13,.len .false (.t 12),.none⟩,⟨.some 14,.bin .gtr (.t 13) (.c (.int .i64 100)),.none⟩,⟨.some 15,.mov (.t 14),.none⟩,⟨.some 16,.mov (.t 1),.some ((.t 15),.false)⟩,⟨.some 17,.len .true (.t 16),.some ((.t 15),.false)⟩,⟨.some 18,.bin .gtr (.t 17) (.c (.int .i64 2000)),.some ((.t 15),.false)⟩,⟨.some 19,.pick (.t 15) (.c (.bool .true)) (.t 18),.none⟩]) (.cond (.t 19) (.seq (.reg .false [⟨.some 20,.call (.c (.fn 5 [])) [],.none⟩,⟨.some 4,.mov (.t 20),.none⟩]) .ret) .skip)) (.seq (.reg .false [⟨.some 21,.mov (.t 0),.none⟩,⟨.some 22,.call (.c (.fn 8 [])) [.t 21],.none⟩,⟨.some 5,.mov (.t 22),.none⟩]) (.seq (.reg .false [⟨.some 24,.mov (.t 5),.none⟩,⟨.some 25,.call (.c (.fn 6 [])) [.t 24],.none⟩,⟨.some 23,.mov (.t 25),.none⟩,⟨.some 26,.ext 0 (.t 23),.none⟩,⟨.some 27,.ext 1 (.t 23),.none⟩,⟨.some 28,.ext 2 (.t 23),.none⟩,⟨.some 6,.mov (.t 26),.none⟩,⟨.some 7,.mov (.t 27),.none⟩,⟨.some 8,.mov (.t 28),.none⟩]) (.seq (.seq (.reg .false [⟨.some 29,.mov (.t 8),.none⟩,⟨.some 30,.bin .neq (.t 29) (.c (.int .i64 0)),.none⟩,⟨.some 31,.mov (.t 30),.none⟩,⟨.some 32,.mov (.t 7),.some ((.t 31),.false)⟩,⟨.some 33,.bin .neq (.t 32) (.c (.int .i64 0)),.some ((.t 31),.false)⟩,⟨.some 34,.pick (.t 31) (.c (.bool .true)) (.t 33),.none⟩,⟨.some 35,.mov (.t 34),.none⟩,⟨.some 36,.mov (.t 5),.some ((.t 35),.false)⟩,⟨.some 37,.bin .neq (.t 36) (.c (.str [])),.some ((.t 35),.false)⟩,⟨.some 38,.mov (.t 37),.some ((.t 35),.false)⟩,⟨.some 39,.mov (.t 6),.some ((.t 38),.true)⟩,⟨.some 40,.mov (.t 0),.some ((.t 38),.true)⟩,⟨.some 41,.call (.c (.fn 10 [])) [.t 39,.t 40],.some ((.t 38),.true)⟩,⟨.some 42,.not (.t 41),.some ((.t 38),.true)⟩,⟨.some 43,.pick (.t 38) (.t 42) (.c (.bool .false)),.some ((.t 35),.false)⟩,⟨.some 44,.pick (.t 35) (.c (.bool .true)) (.t 43),.none⟩,⟨.some 45,.mov (.t 44),.none⟩,⟨.some 46,.mov (.t 5),.some ((.t 45),.false)⟩,⟨.some 47,.bin .eql (.t 46) (.c (.str [])),.some ((.t 45),.false)⟩,⟨.some 48,.mov (.t 47),.some ((.t 45),.false)⟩,⟨.some 49,.mov (.t 6),.some ((.t 48),.true)⟩,⟨.some 50,.len .false (.t 49),.some ((.t 48),.true)⟩,⟨.some 51,.bin .gtr (.t 50) (.c (.int .i64 0)),.some ((.t 48),.true)⟩,⟨.some 52,.pick (.t 48) (.t 51) (.c (.bool .false)),.some ((.t 45),.false)⟩,⟨.some 53,.pick (.t 45) (.c (.bool .true)) (.t 52),.none⟩]) (.cond (.t 53) (.seq (.reg .false [⟨.some 4,.mov (.c (.bool .false)),.none⟩]) .ret) .skip)) (.seq (.reg .false [⟨.some 55,.mov (.t 1),.none⟩,⟨.some 56,.call (.c (.fn 6 [])) [.t 55],.none⟩,⟨.some 54,.mov (.t 56),.none⟩,⟨.some 57,.ext 0 (.t 54),.none⟩,⟨.some 58,.ext 1 (.t 54),.none⟩,⟨.some 59,.ext 2 (.t 54),.none⟩,⟨.some 9,.mov (.t 57),.none⟩,⟨.some 10,.mov (.t 58),.none⟩,⟨.some 11,.mov (.t 59),.none⟩]) (.seq (.seq (.reg .false [⟨.some 60,.mov (.t 11),.none⟩,⟨.some 61,.bin .neq (.t 60) (.c (.int .i64 0)),.none⟩]) (.cond (.t 61) (.seq (.reg .false [⟨.some 62,.mov (.t 9),.none⟩,⟨.some 63,.len .false (.t 62),.none⟩,⟨.some 64,.bin .eql (.t 63) (.c (.int .i64 0)),.none⟩,⟨.some 65,.mov (.t 64),.none⟩,⟨.some 66,.mov (.t 10),.some ((.t 65),.true)⟩,⟨.some 67,.bin .gtr (.t 66) (.c (.int .i64 0)),.some ((.t 65),.true)⟩,⟨.some 68,.pick (.t 65) (.t 67) (.c (.bool .false)),.none⟩,⟨.some 69,.mov (.t 68),.none⟩,⟨.some 70,.call (.c (.fn 5 [])) [],.some ((.t 69),.true)⟩,⟨.some 71,.pick (.t 69) (.t 70) (.c (.bool .false)),.none⟩,⟨.some 4,.mov (.t 71),.none⟩]) .ret) .skip)) (.seq (.reg .false [⟨.some 72,.mov (.t 9),.none⟩,⟨.some 73,.call (.c (.fn 8 [])) [.t 72],.none⟩,⟨.some 74,.mov (.t 1),.none⟩,⟨.some 75,.bin .eql (.t 73) (.t 74),.none⟩,⟨.some 76,.mov (.t 75),.none⟩,⟨.some 77,.call (.c (.fn 5 [])) [],.some ((.t 76),.true)⟩,⟨.some 78,.pick (.t 76) (.t 77) (.c (.bool .false)),.none⟩,⟨.some 4,.mov (.t 78),.none⟩]) .ret))))))),[.tmp (.t 4)]⟩
theorem e4 : cfn Tryz.prog Tryz.f4 = some c4 := by kernel_rfl
theorem k4 : callable Tryz.prog 4 = true := by kernel_rfl
def c5 : VFn := ⟨58,.seq (.reg .false [⟨.some 0,.mov (.c (.bool .false)),.none⟩]) (.seq (.reg .false [⟨.some 10,.call (.c (.fn 11 [])) [.c (.str [91,104,50,32,123,51,32,57,125,91,104,49,32,123,51,32,57,125,123,51,32,57,125,93,60,76,32,50,32,52,62,93])],.none⟩,⟨.some 9,.mov (.t 10),.none⟩,⟨.some 11,.ext 0 (.t 9),.none⟩,⟨.some 12,.ext 1 (.t 9),.none⟩,⟨.some 13,.ext 2 (.t 9),.none⟩,⟨.some 1,.mov (.t 11),.none⟩,⟨.some 2,.mov (.t 12),.none⟩,⟨.some 3,.mov (.t 13),.none⟩]) (.seq (.reg .false [⟨.some 15,.mov (.t 1),.none⟩,⟨.some 16,.call (.c (.fn 12 [])) [.t 15,.c (.int .i64 8),.c (.int .i64 20)],.none⟩,⟨.some 14,.mov (.t 16),.none⟩,⟨.some 17,.ext 0 (.t 14),.none⟩,⟨.some 18,.ext 1 (.t 14),.none⟩,⟨.some 4,.mov (.t 17),.none⟩,⟨.some 5,.mov (.t 18),.none⟩]) (.seq (.reg .false [⟨.some 20,.call (.c (.fn 6 [])) [.c (.str [49,32,50,32,51,10,48,49,32,50,32,51,10])],.none⟩,⟨.some 19,.mov (.t 20),.none⟩,⟨.some 21,.ext 0 (.t 19),.none⟩,⟨.some 22,.ext 1 (.t 19),.none⟩,⟨.some 23,.ext 2 (.t 19),.none⟩,⟨.some 6,.mov (.t 21),.none⟩,⟨.some 7,.mov (.t 22),.none⟩,⟨.some 8,.mov (.t 23),.none⟩]) (.seq (.reg .false [⟨.some 24,.mov (.t 1),.none⟩,⟨.some 25,.mov (.t 4),.none⟩,⟨.some 26,.call (.c (.fn 13 [])) [.t 24,.t 25],.none⟩,⟨.some 27,.build [.int .i64 0,.int .i64 0,.int .i64 0] [(0,(1,(.c (.int .i64 0)))),(1,(1,(.c (.int .i64 0)))),(2,(1,(.c (.int .i64 1))))],.none⟩,⟨.some 28,.build [.int .i64 0,.int .i64 0,.int .i64 0] [(0,(1,(.c (.int .i64 1)))),(1,(1,(.c (.int .i64 2)))),(2,(1,(.c (.int .i64 2))))],.none⟩,⟨.some 29,.bslice 38 3 [.t 27,.t 28],.none⟩,⟨.some 30,.call (.c (.fn 10 [])) [.t 26,.t 29],.none⟩,⟨.some 31,.mov (.t 30),.none⟩,⟨.some 32,.mov (.t 1),.some ((.t 31),.true)⟩,⟨.some 33,.call (.c (.fn 14 [])) [.t 32,.c .nils],.some ((.t 31),.true)⟩,⟨.some 34,.len .false (.t 33),.some ((.t 31),.true)⟩,⟨.some 35,.bin .eql (.t 34) (.c (.int .i64 0)),.some ((.t 31),.true)⟩,⟨.some 36,.pick (.t 31) (.t 35) (.c (.bool .false)),.none⟩,⟨.some 37,.mov (.t 36),.none⟩,⟨.some 38,.build [.int .i64 0,.int .i64 0,.int .i64 0] [(0,(1,(.c (.int .i64 (-1)))))],.some ((.t 37),.true)⟩,⟨.some 39,.bslice 38 3 [.t 38],.some ((.t 37),.true)⟩,⟨.some 40,.call (.c (.fn 8 [])) [.t 39],.some ((.t 37),.true)⟩,⟨.some 41,.bin .eql (.t 40) (.c (.str [])),.some ((.t 37),.true)⟩,⟨.some 42,.pick (.t 37) (.t 41) (.c (.bool .false)),.none⟩,⟨.some 43,.mov (.t 42),.none⟩,⟨.some 44,.mov (.t 7),.some ((.t 43),.true)⟩,⟨.some 45,.bin .eql (.t 44) (.c (.int .i64 2)),.some ((.t 43),.true)⟩,⟨.some 46,.pick (.t 43) (.t 45) (.c (.bool .false)),.none⟩,⟨.some 47,.mov (.t 46),.none⟩,⟨.some 48,.mov (.t 8),.some ((.t 47),.true)⟩,⟨.some 49,.bin .eql (.t 48) (.c (.int .i64 1)),.some ((.t 47),.true)⟩,⟨.some 50,.pick (.t 47) (.t 49) (.c (.bool .false)),.none⟩,⟨.some 51,.mov (.t 50),.none⟩,⟨.some 52,.mov (.t 1),.some ((.t 51),.true)⟩,⟨.some 53,.mov (.t 4),.some ((.t 51),.true)⟩,⟨.some 54,.call (.c (.fn 16 [])) [.t 52,.t 53,.c (.int .i64 2)],.some ((.t 51),.true)⟩,⟨.some 55,.bslice 3 1 [.c (.int .i64 0),.c (.int .i64 2),.c (.int .i64 3)],.some ((.t 51),.true)⟩,⟨.some 56,.call (.c (.fn 15 [])) [.t 54,.t 55],.some ((.t 51),.true)⟩,⟨.some 57,.pick (.t 51) (.t 56) (.c (.bool .false)),.none⟩,⟨.some 0,.mov (.t 57),.none⟩]) .ret)))),[.tmp (.t 0)]⟩
theorem e5 : cfn Tryz.prog Tryz.f5 = some c5 := by kernel_rfl
def c6 : VFn := ⟨38,.seq (.reg .false [⟨.some 2,.mov (.c .nils),.none⟩,⟨.some 3,.mov (.c (.int .i64 0)),.none⟩,⟨.some 4,.mov (.c (.int .i64 0)),.none⟩]) (.seq (.block 0 (.loop (.seq (.seq (.reg .false [⟨.some 10,.mov (.t 0),.none⟩,⟨.some 11,.bin .neq (.t 10) (.c (.str [])),.none⟩]) (.cond (.t 11) .skip (.exit 0))) (.block 1 (.seq (.reg .false [⟨.some 12,.mov (.t 3),.none⟩,⟨.some 13,.bin .add (.t 12) (.c (.int .i64 1)),.none⟩,⟨.some 3,.mov (.t 13),.none⟩]) (.seq (.reg .false [⟨.some 15,.mov (.t 0),.none⟩,⟨.some 16,.call (.c (.fn 17 [])) [.t 15,.c (.str [10])],.none⟩,⟨.some 14,.mov (.t 16),.none⟩,⟨.some 17,.ext 0 (.t 14),.none⟩,⟨.some 18,.ext 1 (.t 14),.none⟩,⟨.some 19,.ext 2 (.t 14),.none⟩,⟨.some 5,.mov (.t 17),.none⟩,⟨.some 6,.mov (.t 18),.none⟩,⟨.some 7,.mov (.t 19),.none⟩]) (.seq (.reg .false [⟨.some 21,.mov (.t 5),.none⟩,⟨.some 22,.call (.c (.fn 18 [])) [.t 21],.none⟩,⟨.some 20,.mov (.t 22),.none⟩,⟨.some 23,.ext 0 (.t 20),.none⟩,⟨.some 24,.ext 1 (.t 20),.none⟩,⟨.some 8,.alloc 38 3 (.agg [.int .i64 0,.int .i64 0,.int .i64 0]),.none⟩,⟨.none,.store 3 (.t 8) (.t 23),.none⟩,⟨.some 9,.mov (.t 24),.none⟩]) (.seq (.seq (.reg .false [⟨.some 25,.mov (.t 7),.none⟩,⟨.some 26,.not (.t 25),.none⟩,⟨.some 27,.mov (.t 26),.none⟩,⟨.some 28,.mov (.t 9),.some ((.t 27),.false)⟩,⟨.some 29,.not (.t 28),.some ((.t 27),.false)⟩,⟨.some 30,.pick (.t 27) (.c (.bool .true)) (.t 29),.none⟩]) (.cond (.t 30) (.seq (.reg .false [⟨.some 31,.mov (.t 3),.none⟩,⟨.some 2,.mov (.c .nils),.none⟩,⟨.some 3,.mov (.t 31),.none⟩,⟨.some 4,.mov (.c (.int .i64 1)),.none⟩]) .ret) .skip)) (.reg .false [⟨.some 32,.mov (.t 2),.none⟩,⟨.some 33,.load .true 3 (.t 8),.none⟩,⟨.some 34,.bslice 38 3 [.t 33],.none⟩,⟨.some 35,.append 38 3 24 (.t 32) (.t 34),.none⟩,⟨.some 36,.mov (.t 6),.none⟩,⟨.some 2,.mov (.t 35),.none⟩,⟨.some 0,.mov (.t 36),.none⟩]))))))))) (.seq (.reg .false [⟨.some 37,.mov (.t 2),.none⟩,⟨.some 2,.mov (.t 37),.none⟩,⟨.some 3,.mov (.c (.int .i64 0)),.none⟩,⟨.some 4,.mov (.c (.int .i64 0)),.none⟩]) .ret)),[.tmp (.t 2),.tmp (.t 3),.tmp (.t 4)]⟩
theorem e6 : cfn Tryz.prog Tryz.f6 = some c6 := by kernel_rfl
theorem k6 : callable Tryz.prog 6 = true := by kernel_rfl
def c7 : VFn := ⟨52,.seq (.reg .false [⟨.some 2,.mov (.c .nils),.none⟩,⟨.some 3,.mov (.c (.int .i64 0)),.none⟩,⟨.some 4,.mov (.c (.int .i64 0)),.none⟩]) (.seq (.reg .false [⟨.some 5,.mov (.c .nils),.none⟩]) (.seq (.seq (.reg .false [⟨.some 6,.mov (.c (.int .i64 1)),.none⟩]) (.block 0 (.loop (.seq (.seq (.reg .false [⟨.some 13,.mov (.t 0),.none⟩,⟨.some 14,.bin .neq (.t 13) (.c (.str [])),.none⟩]) (.cond (.t 14) .skip (.exit 0))) (.seq (.block 1 (.seq (.reg .false [⟨.some 18,.mov (.t 0),.none⟩,⟨.some 19,.call (.c (.fn 19 [])) [.t 18,.c (.int .u8 32)],.none⟩,⟨.some 17,.mov (.t 19),.none⟩,⟨.some 20,.ext 0 (.t 17),.none⟩,⟨.some 21,.ext 1 (.t 17),.none⟩,⟨.some 7,.mov (.t 20),.none⟩,⟨.some 8,.mov (.t 21),.none⟩]) (.seq (.reg .false [⟨.some 23,.mov (.t 8),.none⟩,⟨.some 24,.call (.c (.fn 19 [])) [.t 23,.c (.int .u8 32)],.none⟩,⟨.some 22,.mov (.t 24),.none⟩,⟨.some 25,.ext 0 (.t 22),.none⟩,⟨.some 26,.ext 1 (.t 22),.none⟩,⟨.some 9,.mov (.t 25),.none⟩,⟨.some 10,.mov (.t 26),.none⟩]) (.seq (.reg .false [⟨.some 28,.mov (.t 10),.none⟩,⟨.some 29,.call (.c (.fn 19 [])) [.t 28,.c (.int .u8 10)],.none⟩,⟨.some 27,.mov (.t 29),.none⟩,⟨.some 30,.ext 0 (.t 27),.none⟩,⟨.some 31,.ext 1 (.t 27),.none⟩,⟨.some 11,.mov (.t 30),.none⟩,⟨.some 12,.mov (.t 31),.none⟩]) (.seq (.seq (.reg .false [⟨.some 32,.mov (.t 7),.none⟩,⟨.some 33,.bin .lss (.t 32) (.c (.int .i64 0)),.none⟩,⟨.some 34,.mov (.t 33),.none⟩,⟨.some 35,.mov (.t 9),.some ((.t 34),.false)⟩,⟨.some 36,.bin .lss (.t 35) (.c (.int .i64 0)),.some ((.t 34),.false)⟩,⟨.some 37,.pick (.t 34) (.c (.bool .true)) (.t 36),.none⟩,⟨.some 38,.mov (.t 37),.none⟩,⟨.some 39,.mov (.t 11),.some ((.t 38),.false)⟩,⟨.some 40,.bin .lss (.t 39) (.c (.int .i64 0)),.some ((.t 38),.false)⟩,⟨.some 41,.pick (.t 38) (.c (.bool .true)) (.t 40),.none⟩]) (.cond (.t 41) (.seq (.reg .false [⟨.some 42,.mov (.t 6),.none⟩,⟨.some 2,.mov (.c .nils),.none⟩,⟨.some 3,.mov (.t 42),.none⟩,⟨.some 4,.mov (.c (.int .i64 1)),.none⟩]) .ret) .skip)) (.seq (.reg .false [⟨.some 43,.mov (.t 5),.none⟩,⟨.some 44,.mov (.t 7),.none⟩,⟨.some 45,.mov (.t 9),.none⟩,⟨.some 46,.mov (.t 11),.none⟩,⟨.some 47,.build [.int .i64 0,.int .i64 0,.int .i64 0] [(0,(1,(.t 44))),(1,(1,(.t 45))),(2,(1,(.t 46)))],.none⟩,⟨.some 48,.bslice 38 3 [.t 47],.none⟩,⟨.some 49,.append 38 3 24 (.t 43) (.t 48),.none⟩,⟨.some 5,.mov (.t 49),.none⟩]) (.reg .false [⟨.some 50,.mov (.t 12),.none⟩,⟨.some 0,.mov (.t 50),.none⟩]))))))) (.reg .false [⟨.some 15,.mov (.t 6),.none⟩,⟨.some 16,.bin .add (.t 15) (.c (.int .i64 1)),.none⟩,⟨.some 6,.mov (.t 16),.none⟩])))))) (.seq (.reg .false [⟨.some 51,.mov (.t 5),.none⟩,⟨.some 2,.mov (.t 51),.none⟩,⟨.some 3,.mov (.c (.int .i64 0)),.none⟩,⟨.some 4,.mov (.c (.int .i64 0)),.none⟩]) .ret))),[.tmp (.t 2),.tmp (.t 3),.tmp (.t 4)]⟩
theorem e7 : cfn Tryz.prog Tryz.f7 = some c7 := by kernel_rfl
def c8 : VFn := ⟨31,.seq (.reg .false [⟨.some 2,.mov (.c (.str [])),.none⟩]) (.seq (.reg .false [⟨.some 3,.alloc 53 2 (.agg [.nilp,.nils]),.none⟩]) (.seq (.seq (.reg .false [⟨.some 8,.mov (.t 0),.none⟩,⟨.some 9,.len .false (.t 8),.none⟩,⟨.some 10,.mov (.c (.int .i64 0)),.none⟩]) (.block 0 (.loop (.seq (.reg .false [⟨.some 11,.bin .lss (.t 10) (.t 9),.none⟩]) (.seq (.cond (.t 11) .skip (.exit 0)) (.seq (.block 1 (.seq (.reg .false [⟨.some 12,.idxA 3 (.t 8) (.t 10),.none⟩,⟨.some 13,.load .true 3 (.t 12),.none⟩,⟨.some 5,.alloc 38 3 (.agg [.int .i64 0,.int .i64 0,.int .i64 0]),.none⟩,⟨.none,.store 3 (.t 5) (.t 13),.none⟩]) (.seq (.reg .false [⟨.some 15,.fldA .false 0 1 (.t 5),.none⟩,⟨.some 16,.load .false 1 (.t 15),.none⟩,⟨.some 17,.fldA .false 1 1 (.t 5),.none⟩,⟨.some 18,.load .false 1 (.t 17),.none⟩,⟨.some 19,.fldA .false 2 1 (.t 5),.none⟩,⟨.some 20,.load .false 1 (.t 19),.none⟩,⟨.some 21,.bslice 3 1 [.t 16,.t 18,.t 20],.none⟩,⟨.some 22,.call (.c (.fn 20 [])) [.t 21],.none⟩,⟨.some 14,.mov (.t 22),.none⟩,⟨.some 23,.ext 0 (.t 14),.none⟩,⟨.some 24,.ext 1 (.t 14),.none⟩,⟨.some 6,.mov (.t 23),.none⟩,⟨.some 7,.mov (.t 24),.none⟩]) (.seq (.seq (.reg .false [⟨.some 25,.mov (.t 7),.none⟩,⟨.some 26,.not (.t 25),.none⟩]) (.cond (.t 26) (.seq (.reg .false [⟨.some 2,.mov (.c (.str [])),.none⟩]) .ret) .skip)) (.reg .false [⟨.some 27,.mov (.t 6),.none⟩,⟨.some 28,.call (.c (.fn 21 [])) [.t 3,.t 27],.none⟩]))))) (.reg .false [⟨.some 29,.bin .add (.t 10) (.c (.int .i64 1)),.none⟩,⟨.some 10,.mov (.t 29),.none⟩]))))))) (.seq (.reg .false [⟨.some 30,.call (.c (.fn 22 [])) [.t 3],.none⟩,⟨.some 2,.mov (.t 30),.none⟩]) .ret))),[.tmp (.t 2)]⟩
theorem e8 : cfn Tryz.prog Tryz.f8 = some c8 := by kernel_rfl
theorem k8 : callable Tryz.prog 8 = true := by kernel_rfl
def c9 : VFn := ⟨25,.seq (.reg .false [⟨.some 2,.mov (.c (.str [])),.none⟩]) (.seq (.reg .false [⟨.some 3,.mov (.c (.str [])),.none⟩]) (.seq (.seq (.reg .false [⟨.some 4,.mov (.c (.int .i64 0)),.none⟩]) (.block 0 (.loop (.seq (.seq (.reg .false [⟨.some 5,.mov (.t 4),.none⟩,⟨.some 6,.mov (.t 0),.none⟩,⟨.some 7,.len .false (.t 6),.none⟩,⟨.some 8,.bin .lss (.t 5) (.t 7),.none⟩]) (.cond (.t 8) .skip (.exit 0))) (.seq (.block 1 (.seq (.seq (.reg .false [⟨.some 11,.mov (.t 0),.none⟩,⟨.some 12,.mov (.t 4),.none⟩,⟨.some 13,.idxA 3 (.t 11) (.t 12),.none⟩,⟨.some 14,.load .true 3 (.t 13),.none⟩,⟨.some 15,.call (.c (.fn 23 [])) [.t 14],.none⟩,⟨.some 16,.bin .eql (.t 15) (.c (.str [])),.none⟩]) (.cond (.t 16) (.seq (.reg .false [⟨.some 2,.mov (.c (.str [])),.none⟩]) .ret) .skip)) (.reg .false [⟨.some 17,.mov (.t 3),.none⟩,⟨.some 18,.mov (.t 0),.none⟩,⟨.some 19,.mov (.t 4),.none⟩,⟨.some 20,.idxA 3 (.t 18) (.t 19),.none⟩,⟨.some 21,.load .true 3 (.t 20),.none⟩,⟨.some 22,.call (.c (.fn 23 [])) [.t 21],.none⟩,⟨.some 23,.bin .add (.t 17) (.t 22),.none⟩,⟨.some 3,.mov (.t 23),.none⟩]))) (.reg .false [⟨.some 9,.mov (.t 4),.none⟩,⟨.some 10,.bin .add (.t 9) (.c (.int .i64 1)),.none⟩,⟨.some 4,.mov (.t 10),.none⟩])))))) (.seq (.reg .false [⟨.some 24,.mov (.t 3),.none⟩,⟨.some 2,.mov (.t 24),.none⟩]) .ret))),[.tmp (.t 2)]⟩
def c10 : VFn := ⟨26,.seq (.reg .false [⟨.some 4,.mov (.c (.bool .false)),.none⟩]) (.seq (.seq (.reg .false [⟨.some 6,.mov (.t 0),.none⟩,⟨.some 7,.len .false (.t 6),.none⟩,⟨.some 8,.mov (.t 1),.none⟩,⟨.some 9,.len .false (.t 8),.none⟩,⟨.some 10,.bin .neq (.t 7) (.t 9),.none⟩]) (.cond (.t 10) (.seq (.reg .false [⟨.some 4,.mov (.c (.bool .false)),.none⟩]) .ret) .skip)) (.seq (.seq (.reg .false [⟨.some 5,.mov (.c (.int .i64 0)),.none⟩]) (.block 0 (.loop (.seq (.seq (.reg .false [⟨.some 11,.mov (.t 5),.none⟩,⟨.some 12,.mov (.t 0),.none⟩,⟨.some 13,.len .false (.t 12),.none⟩,⟨.some 14,.bin .lss (.t 11) (.t 13),.none⟩]) (.cond (.t 14) .skip (.exit 0))) (.seq (.block 1 (.seq (.reg .true [⟨.some 17,.mov (.t 0),.none⟩,⟨.some 18,.mov (.t 5),.none⟩,⟨.some 19,.idxA 3 (.t 17) (.t 18),.none⟩,⟨.some 20,.load .true 3 (.t 19),.none⟩,⟨.some 21,.mov (.t 1),.none⟩,⟨.some 22,.mov (.t 5),.none⟩,⟨.some 23,.idxA 3 (.t 21) (.t 22),.none⟩,⟨.some 24,.load .true 3 (.t 23),.none⟩,⟨.some 25,.eqS .true [0,0,0] (.t 20) (.t 24),.none⟩]) (.cond (.t 25) (.seq (.reg .false [⟨.some 4,.mov (.c (.bool .false)),.none⟩]) .ret) .skip))) (.reg .false [⟨.some 15,.mov (.t 5),.none⟩,⟨.some 16,.bin .add (.t 15) (.c (.int .i64 1)),.none⟩,⟨.some 5,.mov (.t 16),.none⟩])))))) (.seq (.reg .false [⟨.some 4,.mov (.c (.bool .true)),.none⟩]) .ret))),[.tmp (.t 4)]⟩
theorem e10 : cfn Tryz.prog Tryz.f10 = some c10 := by kernel_rfl
theorem k10 : callable Tryz.prog 10 = true := by kernel_rfl
def c17 : VFn := ⟨13,.seq (.reg .false [⟨.some 4,.mov (.c (.str [])),.none⟩,⟨.some 5,.mov (.c (.str [])),.none⟩,⟨.some 6,.mov (.c (.bool .false)),.none⟩]) (.seq (.reg .false [⟨.some 7,.mov (.t 0),.none⟩,⟨.some 8,.mov (.t 1),.none⟩,⟨.some 9,.call (.c (.fn 39 [])) [.t 7,.t 8],.none⟩,⟨.some 10,.ext 0 (.t 9),.none⟩,⟨.some 11,.ext 1 (.t 9),.none⟩,⟨.some 12,.ext 2 (.t 9),.none⟩,⟨.some 4,.mov (.t 10),.none⟩,⟨.some 5,.mov (.t 11),.none⟩,⟨.some 6,.mov (.t 12),.none⟩]) .ret),[.tmp (.t 4),.tmp (.t 5),.tmp (.t 6)]⟩
theorem e17 : cfn Tryz.prog Tryz.f17 = some c17 := by kernel_rfl
theorem k17 : callable Tryz.prog 17 = true := by kernel_rfl
def c18 : VFn := ⟨48,.seq (.reg .false [⟨.some 2,.alloc 38 3 (.agg [.int .i64 0,.int .i64 0,.int .i64 0]),.none⟩,⟨.some 3,.mov (.c (.bool .false)),.none⟩]) (.seq (.reg .false [⟨.some 4,.alloc 42 1 .nils,.none⟩]) (.seq (.seq (.reg .false [⟨.some 10,.mov (.t 0),.none⟩,⟨.some 11,.call (.c (.fn 40 [])) [.t 10,.c (.str [32])],.none⟩]) (.block 0 (.rangeF (.t 11) [12] (.reg .false [⟨.some 5,.mov (.t 12),.none⟩]) (.block 1 (.seq (.reg .false [⟨.some 14,.mov (.t 5),.none⟩,⟨.some 15,.call (.c (.fn 41 [])) [.t 14],.none⟩,⟨.some 13,.mov (.t 15),.none⟩,⟨.some 16,.ext 0 (.t 13),.none⟩,⟨.some 17,.ext 1 (.t 13),.none⟩,⟨.some 6,.mov (.t 16),.none⟩,⟨.some 7,.mov (.t 17),.none⟩]) (.reg .false [⟨.some 18,.load .false 1 (.t 4),.none⟩,⟨.some 19,.mov (.t 6),.none⟩,⟨.some 20,.bslice 3 1 [.t 19],.none⟩,⟨.some 21,.append 3 1 8 (.t 18) (.t 20),.none⟩,⟨.none,.store 1 (.t 4) (.t 21),.none⟩])))))) (.seq (.seq (.reg .false [⟨.some 22,.load .false 1 (.t 4),.none⟩,⟨.some 23,.len .false (.t 22),.none⟩,⟨.some 24,.bin .neq (.t 23) (.c (.int .i64 3)),.none⟩]) (.cond (.t 24) (.seq (.reg .false [⟨.some 25,.build [.int .i64 0,.int .i64 0,.int .i64 0] [],.none⟩,⟨.none,.store 3 (.t 2) (.t 25),.none⟩,⟨.some 3,.mov (.c (.bool .false)),.none⟩]) .ret) .skip)) (.seq (.reg .false [⟨.some 27,.load .false 1 (.t 4),.none⟩,⟨.some 28,.call (.c (.fn 20 [])) [.t 27],.none⟩,⟨.some 26,.mov (.t 28),.none⟩,⟨.some 29,.ext 0 (.t 26),.none⟩,⟨.some 30,.ext 1 (.t 26),.none⟩,⟨.some 8,.mov (.t 29),.none⟩,⟨.some 9,.mov (.t 30),.none⟩]) (.seq (.reg .true [⟨.some 31,.load .false 1 (.t 4),.none⟩,⟨.some 32,.idxA 1 (.t 31) (.c (.int .i64 0)),.none⟩,⟨.some 33,.load .false 1 (.t 32),.none⟩,⟨.some 34,.load .false 1 (.t 4),.none⟩,⟨.some 35,.idxA 1 (.t 34) (.c (.int .i64 1)),.none⟩,⟨.some 36,.load .false 1 (.t 35),.none⟩,⟨.some 37,.load .false 1 (.t 4),.none⟩,⟨.some 38,.idxA 1 (.t 37) (.c (.int .i64 2)),.none⟩,⟨.some 39,.load .false 1 (.t 38),.none⟩,⟨.some 40,.build [.int .i64 0,.int .i64 0,.int .i64 0] [(0,(1,(.t 33))),(1,(1,(.t 36))),(2,(1,(.t 39)))],.none⟩,⟨.some 41,.mov (.t 9),.none⟩,⟨.some 42,.mov (.t 41),.none⟩,⟨.some 43,.mov (.t 8),.some ((.t 42),.true)⟩,⟨.some 44,.mov (.t 0),.some ((.t 42),.true)⟩,⟨.some 45,.bin .add (.t 44) (.c (.str [10])),.some ((.t 42),.true)⟩,⟨.some 46,.bin .eql (.t 43) (.t 45),.some ((.t 42),.true)⟩,⟨.some 47,.pick (.t 42) (.t 46) (.c (.bool .false)),.none⟩,⟨.none,.store 3 (.t 2) (.t 40),.none⟩,⟨.some 3,.mov (.t 47),.none⟩]) .ret))))),[.cell .true 3 (.t 2),.tmp (.t 3)]⟩
theorem e18 : cfn Tryz.prog Tryz.f18 = some c18 := by kernel_rfl
theorem k18 : callable Tryz.prog 18 = true := by kernel_rfl
def c20 : VFn := ⟨28,.seq (.reg .false [⟨.some 2,.mov (.c (.str [])),.none⟩,⟨.some 3,.mov (.c (.bool .false)),.none⟩]) (.seq (.reg .false [⟨.some 4,.mov (.c .nils),.none⟩]) (.seq (.seq (.reg .false [⟨.some 7,.mov (.t 0),.none⟩,⟨.some 8,.len .false (.t 7),.none⟩,⟨.some 9,.mov (.c (.int .i64 0)),.none⟩]) (.block 0 (.loop (.seq (.reg .false [⟨.some 10,.bin .lss (.t 9) (.t 8),.none⟩]) (.seq (.cond (.t 10) .skip (.exit 0)) (.seq (.block 1 (.seq (.reg .false [⟨.some 11,.idxA 1 (.t 7) (.t 9),.none⟩,⟨.some 12,.load .false 1 (.t 11),.none⟩,⟨.some 6,.mov (.t 12),.none⟩]) (.seq (.seq (.reg .false [⟨.some 13,.mov (.t 6),.none⟩,⟨.some 14,.bin .lss (.t 13) (.c (.int .i64 0)),.none⟩,⟨.some 15,.mov (.t 14),.none⟩,⟨.some 16,.mov (.t 6),.some ((.t 15),.false)⟩,⟨.some 17,.bin .gtr (.t 16) (.c (.int .i64 999999)),.some ((.t 15),.false)⟩,⟨.some 18,.pick (.t 15) (.c (.bool .true)) (.t 17),.none⟩]) (.cond (.t 18) (.seq (.reg .false [⟨.some 2,.mov (.c (.str [])),.none⟩,⟨.some 3,.mov (.c (.bool .false)),.none⟩]) .ret) .skip)) (.reg .false [⟨.some 19,.mov (.t 4),.none⟩,⟨.some 20,.mov (.t 6),.none⟩,⟨.some 21,.call (.c (.fn 42 [])) [.t 20],.none⟩,⟨.some 22,.bslice 9 1 [.t 21],.none⟩,⟨.some 23,.append 9 1 16 (.t 19) (.t 22),.none⟩,⟨.some 4,.mov (.t 23),.none⟩])))) (.reg .false [⟨.some 24,.bin .add (.t 9) (.c (.int .i64 1)),.none⟩,⟨.some 9,.mov (.t 24),.none⟩]))))))) (.seq (.reg .false [⟨.some 25,.mov (.t 4),.none⟩,⟨.some 26,.call (.c (.fn 43 [])) [.t 25,.c (.str [32])],.none⟩,⟨.some 27,.bin .add (.t 26) (.c (.str [10])),.none⟩,⟨.some 2,.mov (.t 27),.none⟩,⟨.some 3,.mov (.c (.bool .true)),.none⟩]) .ret))),[.tmp (.t 2),.tmp (.t 3)]⟩
theorem e20 : cfn Tryz.prog Tryz.f20 = some c20 := by kernel_rfl
theorem k20 : callable Tryz.prog 20 = true := by kernel_rfl
def c21 : VFn := ⟨19,.seq (.reg .false [⟨.some 4,.mov (.c (.int .i64 0)),.none⟩,⟨.some 5,.mov (.c .niliface),.none⟩]) (.seq (.reg .false [⟨.some 6,.mov (.t 0),.none⟩,⟨.some 7,.call (.c (.fn 44 [])) [.t 6],.none⟩]) (.seq (.reg .false [⟨.some 8,.mov (.t 0),.none⟩,⟨.some 9,.mov (.t 0),.none⟩,⟨.some 10,.nilCheck (.t 9),.none⟩,⟨.some 11,.fldA .false 1 1 (.t 10),.none⟩,⟨.some 12,.load .false 1 (.t 11),.none⟩,⟨.some 13,.mov (.t 1),.none⟩,⟨.some 14,.append 5 1 1 (.t 12) (.t 13),.none⟩,⟨.some 15,.nilCheck (.t 8),.none⟩,⟨.some 16,.fldA .false 1 1 (.t 15),.none⟩,⟨.none,.store 1 (.t 16) (.t 14),.none⟩]) (.seq (.reg .false [⟨.some 17,.mov (.t 1),.none⟩,⟨.some 18,.len .true (.t 17),.none⟩,⟨.some 4,.mov (.t 18),.none⟩,⟨.some 5,.mov (.c .niliface),.none⟩]) .ret))),[.tmp (.t 4),.tmp (.t 5)]⟩
theorem e21 : cfn Tryz.prog Tryz.f21 = some c21 := by kernel_rfl
theorem k21 : callable Tryz.prog 21 = true := by kernel_rfl
def c39 : VFn := ⟨23,.seq (.reg .false [⟨.some 4,.mov (.c (.str [])),.none⟩,⟨.some 5,.mov (.c (.str [])),.none⟩,⟨.some 6,.mov (.c (.bool .false)),.none⟩]) (.seq (.seq (.reg .false [⟨.some 8,.mov (.t 0),.none⟩,⟨.some 9,.mov (.t 1),.none⟩,⟨.some 10,.call (.c (.fn 75 [])) [.t 8,.t 9],.none⟩,⟨.some 7,.mov (.t 10),.none⟩]) (.seq (.reg .false [⟨.some 11,.mov (.t 7),.none⟩,⟨.some 12,.bin .geq (.t 11) (.c (.int .i64 0)),.none⟩]) (.cond (.t 12) (.seq (.reg .true [⟨.some 13,.mov (.t 0),.none⟩,⟨.some 14,.mov (.t 7),.none⟩,⟨.some 15,.sliceS (.t 13) .none (.some (.t 14)),.none⟩,⟨.some 16,.mov (.t 0),.none⟩,⟨.some 17,.mov (.t 7),.none⟩,⟨.some 18,.mov (.t 1),.none⟩,⟨.some 19,.len .true (.t 18),.none⟩,⟨.some 20,.bin .add (.t 17) (.t 19),.none⟩,⟨.some 21,.sliceS (.t 16) (.some (.t 20)) .none,.none⟩,⟨.some 4,.mov (.t 15),.none⟩,⟨.some 5,.mov (.t 21),.none⟩,⟨.some 6,.mov (.c (.bool .true)),.none⟩]) .ret) .skip))) (.seq (.reg .false [⟨.some 22,.mov (.t 0),.none⟩,⟨.some 4,.mov (.t 22),.none⟩,⟨.some 5,.mov (.c (.str [])),.none⟩,⟨.some 6,.mov (.c (.bool .false)),.none⟩]) .ret)),[.tmp (.t 4),.tmp (.t 5),.tmp (.t 6)]⟩
theorem e39 : cfn Tryz.prog Tryz.f39 = some c39 := by kernel_rfl
theorem k39 : callable Tryz.prog 39 = true := by kernel_rfl
def c40 : VFn := ⟨8,.seq (.reg .false [⟨.some 4,.mov (.c .nilfn),.none⟩]) (.seq (.reg .false [⟨.some 5,.mov (.t 0),.none⟩,⟨.some 6,.mov (.t 1),.none⟩,⟨.some 7,.call (.c (.fn 76 [])) [.t 5,.t 6,.c (.int .i64 0)],.none⟩,⟨.some 4,.mov (.t 7),.none⟩]) .ret),[.tmp (.t 4)]⟩
theorem e40 : cfn Tryz.prog Tryz.f40 = some c40 := by kernel_rfl
theorem k40 : callable Tryz.prog 40 = true := by kernel_rfl
def c43 : VFn := ⟨75,.seq (.reg .false [⟨.some 4,.mov (.c (.str [])),.none⟩]) (.seq (.seq (.reg .false [⟨.some 11,.mov (.t 0),.none⟩,⟨.some 12,.len .false (.t 11),.none⟩]) (.block 0 (.seq (.reg .false [⟨.some 14,.bin .eql (.t 12) (.c (.int .i64 0)),.none⟩,⟨.some 13,.mov (.t 14),.none⟩]) (.cond (.t 13) (.seq (.reg .false [⟨.some 4,.mov (.c (.str [])),.none⟩]) .ret) (.seq (.reg .false [⟨.some 16,.bin .eql (.t 12) (.c (.int .i64 1)),.none⟩,⟨.some 15,.mov (.t 16),.none⟩]) (.cond (.t 15) (.seq (.reg .false [⟨.some 17,.mov (.t 0),.none⟩,⟨.some 18,.idxA 1 (.t 17) (.c (.int .i64 0)),.none⟩,⟨.some 19,.load .false 1 (.t 18),.none⟩,⟨.some 4,.mov (.t 19),.none⟩]) .ret) .skip)))))) (.seq (.reg .false [⟨.some 5,.mov (.c (.int .i64 0)),.none⟩]) (.seq (.seq (.reg .false [⟨.some 20,.mov (.t 1),.none⟩,⟨.some 21,.len .true (.t 20),.none⟩,⟨.some 22,.bin .gtr (.t 21) (.c (.int .i64 0)),.none⟩]) (.cond (.t 22) (.seq (.seq (.reg .false [⟨.some 23,.mov (.t 1),.none⟩,⟨.some 24,.len .true (.t 23),.none⟩,⟨.some 25,.mov (.t 0),.none⟩,⟨.some 26,.len .false (.t 25),.none⟩,⟨.some 27,.bin .sub (.t 26) (.c (.int .i64 1)),.none⟩,⟨.some 28,.bin .quo (.c (.int .i64 9223372036854775807)) (.t 27),.none⟩,⟨.some 29,.bin .geq (.t 24) (.t 28),.none⟩]) (.cond (.t 29) (.reg .false [⟨.some 30,.more (.mkI 9) [.c (.str [115,116,114,105,110,103,115,58,32,74,111,105,110,32,111,117,116,112,117,116,32,108,101,110,103,116,104,32,111,118,101,114,102,108,111,119])],.none⟩,⟨.none,.bad,.none⟩]) .skip)) (.reg .false [⟨.some 31,.mov (.t 5),.none⟩,⟨.some 32,.mov (.t 1),.none⟩,⟨.some 33,.len .true (.t 32),.none⟩,⟨.some 34,.mov (.t 0),.none⟩,⟨.some 35,.len .false (.t 34),.none⟩,⟨.some 36,.bin .sub (.t 35) (.c (.int .i64 1)),.none⟩,⟨.some 37,.bin .mul (.t 33) (.t 36),.none⟩,⟨.some 38,.bin .add (.t 31) (.t 37),.none⟩,⟨.some 5,.mov (.t 38),.none⟩])) .skip)) (.seq (.seq (.reg .false [⟨.some 39,.mov (.t 0),.none⟩,⟨.some 40,.len .false (.t 39),.none⟩,⟨.some 41,.mov (.c (.int .i64 0)),.none⟩]) (.block 1 (.loop (.seq (.reg .false [⟨.some 42,.bin .lss (.t 41) (.t 40),.none⟩]) (.seq (.cond (.t 42) .skip (.exit 1)) (.seq (.block 2 (.seq (.reg .false [⟨.some 43,.idxA 1 (.t 39) (.t 41),.none⟩,⟨.some 44,.load .false 1 (.t 43),.none⟩,⟨.some 7,.mov (.t 44),.none⟩]) (.seq (.seq (.reg .false [⟨.some 45,.mov (.t 7),.none⟩,⟨.some 46,.len .true (.t 45),.none⟩,⟨.some 47,.mov (.t 5),.none⟩,⟨.some 48,.bin .sub (.c (.int .i64 9223372036854775807)) (.t 47),.none⟩,⟨.some 49,.bin .gtr (.t 46) (.t 48),.none⟩]) (.cond (.t 49) (.reg .false [⟨.some 50,.more (.mkI 9) [.c (.str [115,116,114,105,110,103,115,58,32,74,111,105,110,32,111,117,116,112,117,116,32,108,101,110,103,116,104,32,111,118,101,114,102,108,111,119])],.none⟩,⟨.none,.bad,.none⟩]) .skip)) (.reg .false [⟨.some 51,.mov (.t 5),.none⟩,⟨.some 52,.mov (.t 7),.none⟩,⟨.some 53,.len .true (.t 52),.none⟩,⟨.some 54,.bin .add (.t 51) (.t 53),.none⟩,⟨.some 5,.mov (.t 54),.none⟩])))) (.reg .false [⟨.some 55,.bin .add (.t 41) (.c (.int .i64 1)),.none⟩,⟨.some 41,.mov (.t 55),.none⟩]))))))) (.seq (.reg .false [⟨.some 8,.alloc 53 2 (.agg [.nilp,.nils]),.none⟩]) (.seq (.reg .false [⟨.some 56,.mov (.t 5),.none⟩,⟨.some 57,.call (.c (.fn 80 [])) [.t 8,.t 56],.none⟩]) (.seq (.reg .false [⟨.some 58,.mov (.t 0),.none⟩,⟨.some 59,.idxA 1 (.t 58) (.c (.int .i64 0)),.none⟩,⟨.some 60,.load .false 1 (.t 59),.none⟩,⟨.some 61,.call (.c (.fn 21 [])) [.t 8,.t 60],.none⟩]) (.seq (.seq (.reg .false [⟨.some 62,.mov (.t 0),.none⟩,⟨.some 63,.slice 1 (.t 62) (.some (.c (.int .i64 1))) .none .none,.none⟩,⟨.some 64,.len .false (.t 63),.none⟩,⟨.some 65,.mov (.c (.int .i64 0)),.none⟩]) (.block 3 (.loop (.seq (.reg .false [⟨.some 66,.bin .lss (.t 65) (.t 64),.none⟩]) (.seq (.cond (.t 66) .skip (.exit 3)) (.seq (.block 4 (.seq (.reg .false [⟨.some 67,.idxA 1 (.t 63) (.t 65),.none⟩,⟨.some 68,.load .false 1 (.t 67),.none⟩,⟨.some 10,.mov (.t 68),.none⟩]) (.seq (.reg .false [⟨.some 69,.mov (.t 1),.none⟩,⟨.some 70,.call (.c (.fn 21 [])) [.t 8,.t 69],.none⟩]) (.reg .false [⟨.some 71,.mov (.t 10),.none⟩,⟨.some 72,.call (.c (.fn 21 [])) [.t 8,.t 71],.none⟩])))) (.reg .false [⟨.some 73,.bin .add (.t 65) (.c (.int .i64 1)),.none⟩,⟨.some 65,.mov (.t 73),.none⟩]))))))) (.seq (.reg .false [⟨.some 74,.call (.c (.fn 22 [])) [.t 8],.none⟩,⟨.some 4,.mov (.t 74),.none⟩]) .ret))))))))),[.tmp (.t 4)]⟩
theorem e43 : cfn Tryz.prog Tryz.f43 = some c43 := by kernel_rfl
theorem k43 : callable Tryz.prog 43 = true := by kernel_rfl
def c75 : VFn := ⟨143,.seq (.reg .false [⟨.some 4,.mov (.c (.int .i64 0)),.none⟩]) (.seq (.reg .false [⟨.some 14,.mov (.t 1),.none⟩,⟨.some 15,.len .true (.t 14),.none⟩,⟨.some 5,.mov (.t 15),.none⟩]) (.seq (.block 0 (.seq (.reg .false [⟨.some 17,.mov (.t 5),.none⟩,⟨.some 18,.bin .eql (.t 17) (.c (.int .i64 0)),.none⟩,⟨.some 19,.mov (.t 18),.none⟩,⟨.some 20,.mov (.t 1),.some ((.t 19),.false)⟩,⟨.some 21,.mov (.t 0),.some ((.t 19),.false)⟩,⟨.some 22,.bin .eql (.t 20) (.t 21),.some ((.t 19),.false)⟩,⟨.some 23,.pick (.t 19) (.c (.bool .true)) (.t 22),.none⟩,⟨.some 16,.mov (.t 23),.none⟩]) (.cond (.t 16) (.seq (.reg .false [⟨.some 4,.mov (.c (.int .i64 0)),.none⟩]) .ret) (.seq (.reg .false [⟨.some 25,.mov (.t 5),.none⟩,⟨.some 26,.bin .eql (.t 25) (.c (.int .i64 1)),.none⟩,⟨.some 24,.mov (.t 26),.none⟩]) (.cond (.t 24) (.seq (.reg .false [⟨.some 27,.mov (.t 0),.none⟩,⟨.some 28,.mov (.t 1),.none⟩,⟨.some 29,.idxS (.t 28) (.c (.int .i64 0)),.none⟩,⟨.some 30,.call (.c (.fn 106 [])) [.t 27,.t 29],.none⟩,⟨.some 4,.mov (.t 30),.none⟩]) .ret) (.seq (.reg .false [⟨.some 32,.mov (.t 5),.none⟩,⟨.some 33,.mov (.t 0),.none⟩,⟨.some 34,.len .true (.t 33),.none⟩,⟨.some 35,.bin .geq (.t 32) (.t 34),.none⟩,⟨.some 31,.mov (.t 35),.none⟩]) (.cond (.t 31) (.seq (.reg .false [⟨.some 4,.mov (.c (.int .i64 (-1))),.none⟩]) .ret) (.seq (.reg .false [⟨.some 37,.mov (.t 5),.none⟩,⟨.some 38,.load .false 1 (.c (.raw (.pointer (.some ⟨0,0,.none⟩)))),.none⟩,⟨.some 39,.bin .leq (.t 37) (.t 38),.none⟩,⟨.some 40,.mov (.t 39),.none⟩,⟨.some 41,.mov (.t 0),.some ((.t 40),.true)⟩,⟨.some 42,.len .true (.t 41),.some ((.t 40),.true)⟩,⟨.some 43,.bin .leq (.t 42) (.c (.int .i64 64)),.some ((.t 40),.true)⟩,⟨.some 44,.pick (.t 40) (.t 43) (.c (.bool .false)),.none⟩,⟨.some 36,.mov (.t 44),.none⟩]) (.cond (.t 36) (.seq (.reg .false [⟨.some 45,.mov (.t 0),.none⟩,⟨.some 46,.mov (.t 1),.none⟩,⟨.some 47,.call (.c (.fn 107 [])) [.t 45,.t 46],.none⟩,⟨.some 4,.mov (.t 47),.none⟩]) .ret) .skip))))))))) (.seq (.reg .false [⟨.some 48,.mov (.t 1),.none⟩,⟨.some 49,.idxS (.t 48) (.c (.int .i64 0)),.none⟩,⟨.some 6,.mov (.t 49),.none⟩]) (.seq (.reg .false [⟨.some 50,.mov (.t 1),.none⟩,⟨.some 51,.idxS (.t 50) (.c (.int .i64 1)),.none⟩,⟨.some 7,.mov (.t 51),.none⟩]) (.seq (.reg .false [⟨.some 8,.mov (.c (.int .i64 0)),.none⟩]) (.seq (.reg .false [⟨.some 52,.mov (.t 0),.none⟩,⟨.some 53,.len .true (.t 52),.none⟩,⟨.some 54,.mov (.t 5),.none⟩,⟨.some 55,.bin .sub (.t 53) (.t 54),.none⟩,⟨.some 56,.bin .add (.t 55) (.c (.int .i64 1)),.none⟩,⟨.some 9,.mov (.t 56),.none⟩]) (.seq (.reg .false [⟨.some 10,.mov (.c (.int .i64 0)),.none⟩]) (.seq (.block 1 (.loop (.seq (.seq (.reg .false [⟨.some 57,.mov (.t 8),.none⟩,⟨.some 58,.mov (.t 9),.none⟩,⟨.some 59,.bin .lss (.t 57) (.t 58),.none⟩]) (.cond (.t 59) .skip (.exit 1))) (.block 2 (.seq (.seq (.reg .false [⟨.some 60,.mov (.t 0),.none⟩,⟨.some 61,.mov (.t 8),.none⟩,⟨.some 62,.idxS (.t 60) (.t 61),.none⟩,⟨.some 63,.mov (.t 6),.none⟩,⟨.some 64,.bin .neq (.t 62) (.t 63),.none⟩]) (.cond (.t 64) (.seq (.reg .false [⟨.some 65,.mov (.t 0),.none⟩,⟨.some 66,.mov (.t 8),.none⟩,⟨.some 67,.bin .add (.t 66) (.c (.int .i64 1)),.none⟩,⟨.some 68,.mov (.t 9),.none⟩,⟨.some 69,.sliceS (.t 65) (.some (.t 67)) (.some (.t 68)),.none⟩,⟨.some 70,.mov (.t 6),.none⟩,⟨.some 71,.call (.c (.fn 106 [])) [.t 69,.t 70],.none⟩,⟨.some 11,.mov (.t 71),.none⟩]) (.seq (.seq (.reg .false [⟨.some 72,.mov (.t 11),.none⟩,⟨.some 73,.bin .lss (.t 72) (.c (.int .i64 0)),.none⟩]) (.cond (.t 73) (.seq (.reg .false [⟨.some 4,.mov (.c (.int .i64 (-1))),.none⟩]) .ret) .skip)) (.reg .false [⟨.some 74,.mov (.t 8),.none⟩,⟨.some 75,.mov (.t 11),.none⟩,⟨.some 76,.bin .add (.t 75) (.c (.int .i64 1)),.none⟩,⟨.some 77,.bin .add (.t 74) (.t 76),.none⟩,⟨.some 8,.mov (.t 77),.none⟩]))) .skip)) (.seq (.seq (.reg .false [⟨.some 78,.mov (.t 0),.none⟩,⟨.some 79,.mov (.t 8),.none⟩,⟨.some 80,.bin .add (.t 79) (.c (.int .i64 1)),.none⟩,⟨.some 81,.idxS (.t 78) (.t 80),.none⟩,⟨.some 82,.mov (.t 7),.none⟩,⟨.some 83,.bin .eql (.t 81) (.t 82),.none⟩,⟨.some 84,.mov (.t 83),.none⟩,⟨.some 85,.mov (.t 0),.some ((.t 84),.true)⟩,⟨.some 86,.mov (.t 8),.some ((.t 84),.true)⟩,⟨.some 87,.mov (.t 8),.some ((.t 84),.true)⟩,⟨.some 88,.mov (.t 5),.some ((.t 84),.true)⟩,⟨.some 89,.bin .add (.t 87) (.t 88),.some ((.t 84),.true)⟩,⟨.some 90,.sliceS (.t 85) (.some (.t 86)) (.some (.t 89)),.some ((.t 84),.true)⟩,⟨.some 91,.mov (.t 1),.some ((.t 84),.true)⟩,⟨.some 92,.bin .eql (.t 90) (.t 91),.some ((.t 84),.true)⟩,⟨.some 93,.pick (.t 84) (.t 92) (.c (.bool .false)),.none⟩]) (.cond (.t 93) (.seq (.reg .false [⟨.some 94,.mov (.t 8),.none⟩,⟨.some 4,.mov (.t 94),.none⟩]) .ret) .skip)) (.seq (.reg .false [⟨.some 95,.mov (.t 8),.none⟩,⟨.some 96,.bin .add (.t 95) (.c (.int .i64 1)),.none⟩,⟨.some 8,.mov (.t 96),.none⟩]) (.seq (.reg .false [⟨.some 97,.mov (.t 10),.none⟩,⟨.some 98,.bin .add (.t 97) (.c (.int .i64 1)),.none⟩,⟨.some 10,.mov (.t 98),.none⟩]) (.seq (.reg .false [⟨.some 99,.mov (.t 5),.none⟩,⟨.some 100,.load .false 1 (.c (.raw (.pointer (.some ⟨0,0,.none⟩)))),.none⟩,⟨.some 101,.bin .leq (.t 99) (.t 100),.none⟩,⟨.some 102,.mov (.t 101),.none⟩,⟨.some 103,.mov (.t 10),.some ((.t 102),.true)⟩,⟨.some 104,.mov (.t 8),.some ((.t 102),.true)⟩,⟨.some 105,.call (.c (.fn 108 [])) [.t 104],.some ((.t 102),.true)⟩,⟨.some 106,.bin .gtr (.t 103) (.t 105),.some ((.t 102),.true)⟩,⟨.some 107,.pick (.t 102) (.t 106) (.c (.bool .false)),.none⟩]) (.cond (.t 107) (.seq (.reg .false [⟨.some 108,.mov (.t 0),.none⟩,⟨.some 109,.mov (.t 8),.none⟩,⟨.some 110,.sliceS (.t 108) (.some (.t 109)) .none,.none⟩,⟨.some 111,.mov (.t 1),.none⟩,⟨.some 112,.call (.c (.fn 107 [])) [.t 110,.t 111],.none⟩,⟨.some 12,.mov (.t 112),.none⟩]) (.seq (.seq (.reg .false [⟨.some 113,.mov (.t 12),.none⟩,⟨.some 114,.bin .geq (.t 113) (.c (.int .i64 0)),.none⟩]) (.cond (.t 114) (.seq (.reg .false [⟨.some 115,.mov (.t 12),.none⟩,⟨.some 116,.mov (.t 8),.none⟩,⟨.some 117,.bin .add (.t 115) (.t 116),.none⟩,⟨.some 4,.mov (.t 117),.none⟩]) .ret) .skip)) (.seq (.reg .false [⟨.some 4,.mov (.c (.int .i64 (-1))),.none⟩]) .ret))) (.seq (.reg .false [⟨.some 118,.mov (.t 5),.none⟩,⟨.some 119,.load .false 1 (.c (.raw (.pointer (.some ⟨0,0,.none⟩)))),.none⟩,⟨.some 120,.bin .gtr (.t 118) (.t 119),.none⟩,⟨.some 121,.mov (.t 120),.none⟩,⟨.some 122,.mov (.t 10),.some ((.t 121),.true)⟩,⟨.some 123,.mov (.t 8),.some ((.t 121),.true)⟩,⟨.some 124,.bin .shr (.t 123) (.c (.int .u64 4)),.some ((.t 121),.true)⟩,⟨.some 125,.bin .add (.c (.int .i64 4)) (.t 124),.some ((.t 121),.true)⟩,⟨.some 126,.bin .geq (.t 122) (.t 125),.some ((.t 121),.true)⟩,⟨.some 127,.pick (.t 121) (.t 126) (.c (.bool .false)),.none⟩,⟨.some 128,.mov (.t 127),.none⟩,⟨.some 129,.mov (.t 8),.some ((.t 128),.true)⟩,⟨.some 130,.mov (.t 9),.some ((.t 128),.true)⟩,⟨.some 131,.bin .lss (.t 129) (.t 130),.some ((.t 128),.true)⟩,⟨.some 132,.pick (.t 128) (.t 131) (.c (.bool .false)),.none⟩]) (.cond (.t 132) (.seq (.reg .false [⟨.some 133,.mov (.t 0),.none⟩,⟨.some 134,.mov (.t 8),.none⟩,⟨.some 135,.sliceS (.t 133) (.some (.t 134)) .none,.none⟩,⟨.some 136,.mov (.t 1),.none⟩,⟨.some 137,.call (.c (.fn 109 [])) [.t 135,.t 136],.none⟩,⟨.some 13,.mov (.t 137),.none⟩]) (.seq (.seq (.reg .false [⟨.some 138,.mov (.t 13),.none⟩,⟨.some 139,.bin .lss (.t 138) (.c (.int .i64 0)),.none⟩]) (.cond (.t 139) (.seq (.reg .false [⟨.some 4,.mov (.c (.int .i64 (-1))),.none⟩]) .ret) .skip)) (.seq (.reg .false [⟨.some 140,.mov (.t 8),.none⟩,⟨.some 141,.mov (.t 13),.none⟩,⟨.some 142,.bin .add (.t 140) (.t 141),.none⟩,⟨.some 4,.mov (.t 142),.none⟩]) .ret))) .skip)))))))))))) (.seq (.reg .false [⟨.some 4,.mov (.c (.int .i64 (-1))),.none⟩]) .ret))))))))),[.tmp (.t 4)]⟩
theorem e75 : cfn Tryz.prog Tryz.f75 = some c75 := by kernel_rfl
theorem k75 : callable Tryz.prog 75 = true := by kernel_rfl
def c76 : VFn := ⟨8,.seq (.reg .false [⟨.some 3,.box 9 1 (.t 0),.none⟩,⟨.some 4,.box 9 1 (.t 1),.none⟩,⟨.some 5,.box 3 1 (.t 2),.none⟩,⟨.some 6,.mov (.c .nilfn),.none⟩]) (.seq (.reg .false [⟨.some 7,.mkfn 110 [.t 4,.t 3,.t 5],.none⟩,⟨.some 6,.mov (.t 7),.none⟩]) .ret),[.tmp (.t 6)]⟩
theorem e76 : cfn Tryz.prog Tryz.f76 = some c76 := by kernel_rfl
theorem k76 : callable Tryz.prog 76 = true := by kernel_rfl
def c80 : VFn := ⟨25,.seq (.reg .false [⟨.some 4,.mov (.t 0),.none⟩,⟨.some 5,.call (.c (.fn 44 [])) [.t 4],.none⟩]) (.seq (.seq (.reg .false [⟨.some 6,.mov (.t 1),.none⟩,⟨.some 7,.bin .lss (.t 6) (.c (.int .i64 0)),.none⟩]) (.cond (.t 7) (.reg .false [⟨.some 8,.more (.mkI 9) [.c (.str [115,116,114,105,110,103,115,46,66,117,105,108,100,101,114,46,71,114,111,119,58,32,110,101,103,97,116,105,118,101,32,99,111,117,110,116])],.none⟩,⟨.none,.bad,.none⟩]) .skip)) (.seq (.reg .true [⟨.some 9,.mov (.t 0),.none⟩,⟨.some 10,.nilCheck (.t 9),.none⟩,⟨.some 11,.fldA .false 1 1 (.t 10),.none⟩,⟨.some 12,.load .false 1 (.t 11),.none⟩,⟨.some 13,.cap (.t 12),.none⟩,⟨.some 14,.mov (.t 0),.none⟩,⟨.some 15,.nilCheck (.t 14),.none⟩,⟨.some 16,.fldA .false 1 1 (.t 15),.none⟩,⟨.some 17,.load .false 1 (.t 16),.none⟩,⟨.some 18,.len .false (.t 17),.none⟩,⟨.some 19,.bin .sub (.t 13) (.t 18),.none⟩,⟨.some 20,.mov (.t 1),.none⟩,⟨.some 21,.bin .lss (.t 19) (.t 20),.none⟩]) (.cond (.t 21) (.reg .false [⟨.some 22,.mov (.t 0),.none⟩,⟨.some 23,.mov (.t 1),.none⟩,⟨.some 24,.call (.c (.fn 119 [])) [.t 22,.t 23],.none⟩]) .skip))),[]⟩
theorem e80 : cfn Tryz.prog Tryz.f80 = some c80 := by kernel_rfl
theorem k80 : callable Tryz.prog 80 = true := by kernel_rfl
def c110 : VFn := ⟨52,.seq (.seq (.reg .false [⟨.some 9,.load .false 1 (.t 1),.none⟩,⟨.some 10,.len .true (.t 9),.none⟩,⟨.some 11,.bin .eql (.t 10) (.c (.int .i64 0)),.none⟩]) (.cond (.t 11) (.seq (.block 0 (.loop (.seq (.seq (.reg .false [⟨.some 12,.load .false 1 (.t 2),.none⟩,⟨.some 13,.len .true (.t 12),.none⟩,⟨.some 14,.bin .gtr (.t 13) (.c (.int .i64 0)),.none⟩]) (.cond (.t 14) .skip (.exit 0))) (.block 1 (.seq (.reg .false [⟨.some 16,.load .false 1 (.t 2),.none⟩,⟨.some 17,.call (.c (.fn 111 [])) [.t 16],.none⟩,⟨.some 15,.mov (.t 17),.none⟩,⟨.some 18,.ext 0 (.t 15),.none⟩,⟨.some 19,.ext 1 (.t 15),.none⟩,⟨.some 5,.mov (.t 18),.none⟩,⟨.some 6,.mov (.t 19),.none⟩]) (.seq (.seq (.reg .false [⟨.some 20,.mov (.t 0),.none⟩,⟨.some 21,.load .false 1 (.t 2),.none⟩,⟨.some 22,.mov (.t 6),.none⟩,⟨.some 23,.sliceS (.t 21) .none (.some (.t 22)),.none⟩,⟨.some 24,.call (.t 20) [.t 23],.none⟩,⟨.some 25,.not (.t 24),.none⟩]) (.cond (.t 25) .ret .skip)) (.reg .false [⟨.some 26,.load .false 1 (.t 2),.none⟩,⟨.some 27,.mov (.t 6),.none⟩,⟨.some 28,.sliceS (.t 26) (.some (.t 27)) .none,.none⟩,⟨.none,.store 1 (.t 2) (.t 28),.none⟩]))))))) .ret) .skip)) (.seq (.block 2 (.loop (.block 3 (.seq (.reg .false [⟨.some 29,.load .false 1 (.t 2),.none⟩,⟨.some 30,.load .false 1 (.t 1),.none⟩,⟨.some 31,.call (.c (.fn 112 [])) [.t 29,.t 30],.none⟩,⟨.some 7,.mov (.t 31),.none⟩]) (.seq (.seq (.reg .false [⟨.some 32,.mov (.t 7),.none⟩,⟨.some 33,.bin .lss (.t 32) (.c (.int .i64 0)),.none⟩]) (.cond (.t 33) (.exit 2) .skip)) (.seq (.reg .false [⟨.some 34,.load .false 1 (.t 2),.none⟩,⟨.some 35,.mov (.t 7),.none⟩,⟨.some 36,.load .false 1 (.t 3),.none⟩,⟨.some 37,.bin .add (.t 35) (.t 36),.none⟩,⟨.some 38,.sliceS (.t 34) .none (.some (.t 37)),.none⟩,⟨.some 8,.mov (.t 38),.none⟩]) (.seq (.seq (.reg .false [⟨.some 39,.mov (.t 0),.none⟩,⟨.some 40,.mov (.t 8),.none⟩,⟨.some 41,.call (.t 39) [.t 40],.none⟩,⟨.some 42,.not (.t 41),.none⟩]) (.cond (.t 42) .ret .skip)) (.reg .false [⟨.some 43,.load .false 1 (.t 2),.none⟩,⟨.some 44,.mov (.t 7),.none⟩,⟨.some 45,.load .false 1 (.t 1),.none⟩,⟨.some 46,.len .true (.t 45),.none⟩,⟨.some 47,.bin .add (.t 44) (.t 46),.none⟩,⟨.some 48,.sliceS (.t 43) (.some (.t 47)) .none,.none⟩,⟨.none,.store 1 (.t 2) (.t 48),.none⟩])))))))) (.reg .false [⟨.some 49,.mov (.t 0),.none⟩,⟨.some 50,.load .false 1 (.t 2),.none⟩,⟨.some 51,.call (.t 49) [.t 50],.none⟩])),[]⟩
theorem e110 : cfn Tryz.prog Tryz.f110 = some c110 := by kernel_rfl
theorem k110 : callable Tryz.prog 110 = true := by kernel_rfl
def c112 : VFn := ⟨8,.seq (.reg .false [⟨.some 4,.mov (.c (.int .i64 0)),.none⟩]) (.seq (.reg .false [⟨.some 5,.mov (.t 0),.none⟩,⟨.some 6,.mov (.t 1),.none⟩,⟨.some 7,.call (.c (.fn 75 [])) [.t 5,.t 6],.none⟩,⟨.some 4,.mov (.t 7),.none⟩]) .ret),[.tmp (.t 4)]⟩
theorem e112 : cfn Tryz.prog Tryz.f112 = some c112 := by kernel_rfl
theorem k112 : callable Tryz.prog 112 = true := by kernel_rfl
end Go.Vc
namespace Go.Vc
abbrev vI (n : Int) : V := .int .i64 n
structure Sty where
  (top bottom padTop padBottom inset orphans widows head before after inside clear : Int)
deriving DecidableEq
def Sty.cells (s : Sty) : List V := [vI s.top, vI s.bottom, vI s.padTop, vI s.padBottom, vI s.inset, vI s.orphans, vI s.widows, vI s.head, vI s.before, vI s.after, vI s.inside, vI s.clear]
structure Nd where
  (kind size : Int)
  (st : Sty)
  (line space : Int)
  (words : List Int)
  (side w h : Int)
deriving DecidableEq
def encI (l : List Int) : V := .sl 1 (l.map vI)
def Nd.cells (x : Nd) : List V := [vI x.kind, vI x.size, vI x.st.top, vI x.st.bottom, vI x.st.padTop, vI x.st.padBottom, vI x.st.inset, vI x.st.orphans, vI x.st.widows, vI x.st.head, vI x.st.before, vI x.st.after, vI x.st.inside, vI x.st.clear,
  vI x.line, vI x.space, encI x.words, vI x.side, vI x.w, vI x.h]
def mx : Int := 1099511627776
def isFrom (n a b : Int) : Bool := decide (n ≥ a ∧ n ≤ b)
def Sty.ok (s : Sty) : Bool := isFrom s.top 0 mx && isFrom s.bottom 0 mx && isFrom s.padTop 0 mx && isFrom s.padBottom 0 mx && isFrom s.inset 0 mx && isFrom s.orphans 1 mx && isFrom s.widows 1 mx && isFrom s.head 0 mx &&
  isFrom s.before 0 4 && isFrom s.after 0 4 && isFrom s.inside 0 1 && isFrom s.clear 0 3
def Sty.zero : Sty := ⟨0, 0, 0, 0, 0, 0, 0, 0, 0, 0, 0, 0⟩
end Go.Vc
namespace Go.Vc
open Go.Proofs Go.RowKit Go.Shelf
set_option maxHeartbeats 1000000 in
set_option maxRecDepth 100000 in
theorem copyCheck : CopyCheck Tryz.prog 44 53 where
  callable := by kernel_rfl
  fresh := by
    intro b T w n hn h0 hsh hlies hfz
    obtain ⟨j, hj, hjs⟩ := Option.map_eq_some_iff.1 (show (Tryz.prog.info? 53).map (·.size) = some 2 by kernel_rfl)
    go_enter Tryz.func44, Tryz.ntmps44
    go_wp2
    rw [Lib.run_to_unsafe w ⟨b, 0, none⟩ Tryz.underlying50 Tryz.underlying170 hj (by rw [hjs]; decide) hsh hn]
    simp only [Result.andThen]
    rw [Oper.upon_value]
    go_wp2
    rw [run_callFunc_extern Tryz.func81 (by kernel_rfl) (by kernel_rfl) (by kernel_rfl) (e := Extern.AbiNoEscape.same) (by kernel_rfl)]
    rw [Lib.run_noEscape]
    simp only [Result.andThen]
    rw [Oper.upon_value]
    go_wp2
    rw [Lib.run_from_unsafe w ⟨b, 0, none⟩ Tryz.underlying170 Tryz.underlying50 hj hsh hlies]
    simp only [Result.andThen]
    rw [Oper.upon_value]
    go_wp2
    go_end0
    exact ⟨rfl, rfl⟩
  used := by
    intro b w h0
    obtain ⟨j, hj, _⟩ := Option.map_eq_some_iff.1 (show (Tryz.prog.info? 53).map (·.size) = some 2 by kernel_rfl)
    go_enter Tryz.func44, Tryz.ntmps44
    go_wp2
    rw [Lib.run_neq_ptr_same w _ Tryz.underlying50 hj]
    go_wp2
    go_end0
    exact ⟨rfl, rfl⟩
theorem Sat.below {w0 w w' : World} {ow0 : Nat → Prop} {μ : Mu} {σ : Store} (h : Sat w0 ow0 μ σ w) (hb : Below w.heap.size w w') : Sat w0 ow0 μ σ w' := by
  have hk : Keeps (Owned μ σ) (Owned μ σ) w w' := fun b hlt hn => ⟨hn, hb.block b hlt⟩
  refine ⟨Nat.le_trans h.size hb.size, hb.os.trans h.os, hb.tape.trans h.tape, hb.output.trans h.output, fun b hlt hn => (hb.block b (Nat.lt_of_lt_of_le hlt h.size)).trans (h.same b hlt hn), h.fin, h.inj,
    fun id ob ho => ?_, h.fresh, h.glob⟩
  exact (h.obj id ob ho).mono (MuLe.refl μ) hk hb.size fun b sz cap hp => hb.block b (Owned.lt h ⟨id, ob, sz, cap, ho, hp⟩)
theorem PFun.libG {P : Program} {f : FuncId} {args : List V} {v : V} {vals : List Value} (hcl : callable P f = true) (hargs : ∀ μ ow w l, RepAll μ ow w args l → l = vals)
    (h : ∀ w, Orig w → Calls P f vals.toArray w fun e w' => ∃ x, e = .returned x ∧ (∀ μ ow, Rep μ ow w' v x) ∧ Below w.heap.size w w') : PFun P f args v := by
  intro σ
  refine ⟨hcl, fun μ w l hs hr => ?_⟩
  obtain rfl := hargs _ _ _ _ hr
  obtain ⟨b, ho, _, hb⟩ := hs.globHere
  refine (h w (Orig.keep (fun i hi => (hb i hi).2) ho)).mono ?_
  rintro e w' ⟨x, rfl, hx, hb⟩
  exact ⟨v, σ, μ, x, rfl, ⟨rfl, rfl⟩, MuLe.refl μ, hs.below hb, hx _ _⟩
theorem itoaN_c (n : Int) (h0 : -9223372036854775808 ≤ n) (h1 : n ≤ 9223372036854775807) : PFun Tryz.prog 42 [vI n] (.str (Lib.itoa n)) := by
  refine PFun.libG (vals := [.int .i64 n]) (by kernel_rfl) (fun μ ow w l h => ?_) fun w hO => ?_
  · simpa [RepAll, Rep] using h
  · refine (Any.strconv_Itoa Tryz.laysM171 n h0 h1 w hO.1).mono ?_
    rintro e w' ⟨rfl, k, os, rfl⟩
    exact ⟨_, rfl, fun _ _ => by simp [Rep], Lib.below_grow _ w (Nat.le_refl _) k os⟩
def encB (l : List UInt8) : List V := l.map fun b => .int .u8 b.toNat
structure BT (T : TypeId) : Prop where
  lies : rowAt Tryz.prog (sameLayout Tryz.prog Tryz.prog.depth · 53) Tryz.prog.depth T 1 0 1 = true
  cells : Tryz.prog.cellsOf T = 2
theorem IsB.step {T u8 : TypeId} {K σ : Store} {id : Nat} {rows : List V} {l : List UInt8} {a : V} {idn : Nat} (hK : SubStore K σ) (hn : K id = none) (hid : σ id = some (bRow T a (.own idn 0 rows.length))) (ha : a = .nilp ∨ a = .ptr id 0 0) (hne : idn ≠ id) (hKn : K idn = none)
    (hrow : σ idn = some ⟨u8, 1, rows⟩) (hl : rows = l.map fun b => .int .u8 b.toNat) : IsB T u8 K σ id l := by
  subst hl
  exact ⟨hK, hn, a, _, hid, ha, .inr ⟨idn, rfl, hrow, by simp [Vc.upd, hne, hKn]⟩⟩
set_option maxRecDepth 100000 in
theorem wstr_c {T : TypeId} (bt : BT T) {K σ : Store} {id : Nat} {l : List UInt8} (s : List UInt8) (h : IsB T 5 K σ id l) (hl : l.length + s.length ≤ 1000000000) :
    Contract Tryz.prog 21 [.ptr id 0 0, .str s] σ fun r σ' => r = .tup [vI s.length, .niliface] ∧ IsB T 5 K σ' id (l ++ s) := by
  obtain ⟨hK, hn, a, buf, hid, ha, hout⟩ := h
  refine Contract.of_runs Tryz.func21 e21 k21 (by simp [c21]) ?_
  refine Runs.mix 9 ?_
  (refine Runs.of_step Orc.nothing 300 ?_; simp -implicitDefEqProofs only [BB,seval,← decide_not,okind,vpre,vpure,intBin,intPre,strBin,strPre,popTo,argSlots,fldV,fldAV,subCells,idxVV,idxAAV,idxSV,sliceV,sliceSV,boundV,szIs,storeOp,storeS,setRowV,eff,extV,buildV,splice,eqSV,fitsL,eqCells,eqCell,minmaxV,capV,binBV,nilCheckV,bytesV,V.cells,V.stays,Orc.nothing,c21])
  refine Runs.call rfl rfl rfl (bcheck_c copyCheck bt.cells bt.lies hid ha) ?_
  rintro r σ1 ⟨rfl, rfl⟩
  have hK1 : SubStore (upd K id (bRow T (.ptr id 0 0) buf)) (upd σ id (bRow T (.ptr id 0 0) buf)) := hK.upd2
  have hout1 : OutV (upd K id (bRow T (.ptr id 0 0) buf)) (upd σ id (bRow T (.ptr id 0 0) buf)) 5 1 buf (encB l) := by
    rcases hout with h1 | ⟨i, h1, h2, h3⟩
    · exact .inl h1
    · have : i ≠ id := by rintro rfl; simp [Vc.upd] at h3
      exact .inr ⟨i, h1, by rw [upd_ne this]; exact h2, by rw [upd_ne this] at h3 ⊢; exact h3⟩
  generalize hσ1 : upd σ id (bRow T (.ptr id 0 0) buf) = σ1 at *
  have hid1 : σ1 id = some ⟨T, 2, [.agg [.ptr id 0 0, buf]]⟩ := hK1 _ _ upd_same
  obtain ⟨idA, hda, hdel⟩ := hout1.dst (SubStore.refl σ1)
  have hlb : (encB l).length = l.length := by simp [encB]
  have hsb : (encB s).length = s.length := by simp [encB]
  have hsr : srcRows σ1 1 (.str s) = some (encB s) := rfl
  have hb2 : (l.length + s.length) * 2 ≤ 140737488355328 := by omega
  (refine Runs.of_step Orc.nothing 300 ?_; simp -implicitDefEqProofs only [BB,seval,← decide_not,okind,vpre,vpure,intBin,intPre,strBin,strPre,popTo,argSlots,fldV,fldAV,subCells,idxVV,idxAAV,idxSV,sliceV,sliceSV,boundV,szIs,storeOp,storeS,setRowV,eff,extV,buildV,splice,eqSV,fitsL,eqCells,eqCell,minmaxV,capV,binBV,nilCheckV,bytesV,V.cells,V.stays,Orc.nothing,hid1,hda,hsr,hlb,hsb,hb2])
  refine effR_put fun id3 σ3 s3 a3 f3 => ?_
  have k3 := (hdel _ (SubStore.refl _) σ1 hK1).trans s3
  have hid3 : σ3 id = some ⟨T, 2, [.agg [.ptr id 0 0, buf]]⟩ := k3 _ _ upd_same
  have n3 : id ≠ id3 := ne_new hid1 f3
  have kK : SubStore K σ3 := ((SubStore.refl K).upd_new hn).trans k3
  have hKid3 : K id3 = none := ((SubStore.refl K).upd_new hn).none (hK1.none f3)
  simp -implicitDefEqProofs only [BB,seval,← decide_not,okind,vpre,vpure,intBin,intPre,strBin,strPre,popTo,argSlots,fldV,fldAV,subCells,idxVV,idxAAV,idxSV,sliceV,sliceSV,boundV,szIs,storeOp,storeS,setRowV,eff,extV,buildV,splice,eqSV,fitsL,eqCells,eqCell,minmaxV,capV,binBV,nilCheckV,bytesV,V.cells,V.stays,hid3,n3,n3.symm]
  refine ⟨_, _, SubStore.refl _, Wk.refl (SubStore.refl _) _, rfl, ?_⟩
  refine IsB.step (rows := encB l ++ encB s) (kK.updK hn) hn (a := .ptr id 0 0) (idn := id3) ?_ (.inr rfl) n3.symm hKid3 ?_ (by simp [encB])
  · rw [upd_same]; simp [bRow, hlb, hsb]
  · rw [upd_ne n3.symm]; exact a3
theorem bstr_c {T : TypeId} {K σ : Store} {id : Nat} {l : List UInt8} (h : IsB T 5 K σ id l) (h0 : l = [] → ∃ a, σ id = some (bRow T a .nils)) : Contract Tryz.prog 22 [.ptr id 0 0] σ fun r σ' => r = .str l ∧ σ' = K :=
  bstring_c (ρ := Tryz.lays169_ren) Tryz.lays169 Tryz.Builder_Extra_169 (by kernel_rfl) h h0
end Go.Vc
namespace Go.Vc
open Go.Proofs Go.Shelf Go.RowKit
variable {P : Program} {ρ : Ren}
set_option maxHeartbeats 2000000 in
set_option maxRecDepth 100000 in
theorem bgrow_run (L : Lays.n241 P ρ) (X : Builder.Extra P ρ) (b n : Nat) (w : World) (cur : Array Value) (T : TypeId) (hbk : w.heap[b]? = some (.cells cur T (0, 0))) (hc : cur[1]? = some (.slice none 0 0)) (hn : n ≤ 281474976710656) :
    Calls P (ρ.f 241) #[.pointer (some ⟨b, 0, none⟩), .int .i64 n] w fun e w' => e = .returned (.tuple #[]) ∧ ∃ cs : Array Value, cs.size ≤ maxLen ∧ w'.os = w.os ∧ w'.tape = w.tape ∧ w'.output = w.output ∧
      w'.heap = ((w.alloc (.cells cs (ρ.t 5))).setCell ⟨b, 1, none⟩ (.slice (some ⟨w.heap.size, 0, none⟩) 0 cs.size)).heap := by
  obtain ⟨cs, hrun, hle, hmax⟩ := Lib.run_makeNoZero (P := P) w.drew #[(ρ.t 3)] (ρ.t 37) (ρ.t 5) L.t37 n hn
  have hw : IntKind.i64.wrap (IntKind.i64.wrap 0 + (n : Int)) = n := by
    rw [IntKind.wrap_i64, IntKind.wrap_i64]
    omega
  have hcall : (callFunc (ρ.f 277) #[.int .i64 (IntKind.i64.wrap (IntKind.i64.wrap 0 + (n : Int)))]).run P w.drew = .ok (.value (.slice (some ⟨w.drew.heap.size, 0, none⟩) n cs.size)) (w.drew.drew.drew.alloc (.cells cs (ρ.t 5))) := by
    rw [hw, run_callFunc_extern L.f277 (by kernel_rfl) (by kernel_rfl) (by kernel_rfl) (e := Extern.BytealgMakeNoZero.makeNoZero #[(ρ.t 3)] #[(ρ.t 37)]) (by kernel_rfl), hrun]
    rfl
  have hlt : b < w.heap.size := by
    rcases Nat.lt_or_ge b w.heap.size with h' | h'
    · exact h'
    · simp [Array.getElem?_eq_none h'] at hbk
  have c1 : w.drew.cell? ⟨b, 1, none⟩ = some (.slice none 0 0) := by
    have : w.drew.heap[b]? = _ := hbk
    rw [Lib.cell_of_heap this]; exact hc
  have c2 : (w.alloc (.cells cs (ρ.t 5))).cell? ⟨b, 1, none⟩ = some (.slice none 0 0) := by
    have : (w.alloc (.cells cs (ρ.t 5))).heap[b]? = _ := (Lib.alloc_old w _ b hlt).trans hbk
    rw [Lib.cell_of_heap this]; exact hc
  have f2 : (w.alloc (.cells cs (ρ.t 5))).frozen? ⟨b, 1, none⟩ = false := Lib.frozen_of_heap ((Lib.alloc_old w _ b hlt).trans hbk) 1
  have hcopy : ∀ W : World, (Builtin.copy_ #[(ρ.t 37), (ρ.t 37)] (ρ.t 3) #[.slice (some ⟨w.heap.size, 0, none⟩) 0 cs.size, .slice none 0 0]).run P W = .ok (goInt 0) W :=
    fun W => run_copy_none W (ρ.t 37) (ρ.t 37) (ρ.t 3) (ρ.t 5) _ _ 0 cs.size 0 0 L.t37 X.sizeByte rfl
  have hsw : ((w.setCell ⟨b, 1, none⟩ (.slice (some ⟨w.heap.size, 0, none⟩) 0 cs.size)).alloc (.cells cs (ρ.t 5))).heap = ((w.alloc (.cells cs (ρ.t 5))).setCell ⟨b, 1, none⟩ (.slice (some ⟨w.heap.size, 0, none⟩) 0 cs.size)).heap := by
    simp only [World.alloc, World.setCell]
    apply Array.ext_getElem?
    intro i
    simp only [Array.getElem?_push, Array.getElem?_modify, Array.size_modify]
    split <;> split <;> first | rfl | omega | (subst_vars; omega) | simp_all
  clear hw
  have mixed := L.mixed
  have t72 := L.t72; have a72 := L.a72; have z72 := L.z72; have v72 := L.v72; have u72 := run_underlying L.t72
  have t70 := L.t70; have a70 := L.a70; have z70 := L.z70; have v70 := L.v70; have u70 := run_underlying L.t70
  have t37 := L.t37; have a37 := L.a37; have z37 := L.z37; have v37 := L.v37; have u37 := run_underlying L.t37
  have t3 := L.t3; have a3 := L.a3; have z3 := L.z3; have v3 := L.v3; have u3 := run_underlying L.t3
  have t5 := X.t5; have a5 := X.a5; have z5 := X.z5; have v5 := X.v5; have u5 := run_underlying X.t5
  have hm := hmax (by unfold maxLen; omega)
  go_enter L.f241, Body.n241_ntmps ρ
  go_wp2
  go_region_o
  all_goals (go_wp2; go_end0; first | exact ⟨rfl, cs, hm, rfl, rfl, rfl, rfl⟩ | exact ⟨rfl, cs, hm, rfl, rfl, rfl, hsw⟩)
end Go.Vc
namespace Go.Vc
open Go.Proofs Go.Shelf Go.RowKit
variable {P : Program} {ρ : Ren}
theorem bgrow_c (L : Lays.n241 P ρ) (X : Builder.Extra P ρ) (hcl : callable P (ρ.f 241) = true) {σ : Store} {id : Nat} {T : TypeId} (n : Nat) (hn : n ≤ 1000000000) (hid : σ id = some (bRow T (.ptr id 0 0) .nils)) :
    Contract P (ρ.f 241) [.ptr id 0 0, .int .i64 n] σ fun r σ' => r = .tup [] ∧ ∃ idn, σ idn = none ∧ σ' = upd (upd σ idn ⟨ρ.t 5, 1, []⟩) id (bRow T (.ptr id 0 0) (.own idn 0 0)) := by
  refine ⟨hcl, fun μ w vals hs hr => ?_⟩
  simp only [RepAll] at hr
  obtain ⟨x, _, rfl, hx, y, _, rfl, hy, rfl⟩ := hr
  have hob := hs.obj id _ hid
  simp only [Rep] at hx hy
  subst hy
  split at hx
  · rename_i b sz cap hμ
    obtain ⟨rfl, hz⟩ := hx
    rw [hμ] at hob
    obtain ⟨cur, e1, e2, e3, e4, e5, e6, e7⟩ := hob.plain hz
    obtain rfl : sz = 2 := by simpa [bRow] using e2.symm
    obtain ⟨g1, xs, g2, g3, g4, g5⟩ := e7.cur e1
    simp only [bRow, List.length_cons, List.length_nil] at e1 g4 e5
    have hflat : flat (bRow T (.ptr id 0 0) .nils).rows = [.ptr id 0 0, .nils] := rfl
    rw [hflat] at g2
    simp only [RepAll, Rep, hμ] at g2
    obtain ⟨x0, _, rfl, ⟨hx0, _⟩, x1, _, rfl, hx1, rfl⟩ := g2
    subst hx1
    have hc : cur[1]? = some (.slice none 0 0) := by simpa using g5 1 _ rfl
    simp only [Nat.zero_mul, Nat.add_zero] at hx0 ⊢
    have hbl : b < w.heap.size := by
      rcases Nat.lt_or_ge b w.heap.size with h' | h'
      · exact h'
      · simp [Array.getElem?_eq_none h'] at e1
    refine (bgrow_run L X b n w cur T e1 hc (by omega)).mono ?_
    rintro e w' ⟨rfl, cs, hcs, h1, h2, h3, h4⟩
    have hg1 : w.grownBy (w.alloc (.cells cs (ρ.t 5))) none := ⟨rfl, rfl, rfl, by simp, fun k hk _ => Lib.alloc_old w _ k hk⟩
    obtain ⟨idn, hno, μ', hμn, hle, hs1, hk1⟩ := hs.here.renew hg1 none (.inl rfl) w.heap.size 1 cs.size cs (ρ.t 5) [] [] (.inr (Nat.le_refl _)) (by show (w.heap.push _)[w.heap.size]? = _; simp) (by omega) (by omega) (by simp) hcs (by simp) (by simp [flat, RepAll]) (by simp) (by simp)
    have hne : id ≠ idn := fun e => by rw [e, hno] at hid; cases hid
    have hid1 : upd (delO σ none) idn ⟨ρ.t 5, 1, []⟩ id = some (bRow T (.ptr id 0 0) .nils) := (upd_ne hne).trans hid
    have hμ1 : μ' id = .lies b 2 cap := (hle id (by rw [hμ]; simp)).trans hμ
    have e1' : (w.alloc (.cells cs (ρ.t 5))).heap[b]? = some (.cells cur T (0, 0)) := (Lib.alloc_old w _ b hbl).trans e1
    have hset := setCell_eq_setRow (w.alloc (.cells cs (ρ.t 5))) b 1 cur T (0, 0) (.slice (some ⟨w.heap.size, 0, none⟩) 0 cs.size) e1'
    rw [hset] at h4
    have hheap := setRow_heap (w.alloc (.cells cs (ρ.t 5))) b cur (cur.setIfInBounds 1 (.slice (some ⟨w.heap.size, 0, none⟩) 0 cs.size)) T _ e1'
    have hg2 : (w.alloc (.cells cs (ρ.t 5))).grownBy w' (some b) := ⟨h1, h2, h3, by rw [h4]; simp, fun k _ hk => by rw [h4]; exact setRow_other _ b k _ (fun e => hk (by rw [e]))⟩
    have hch := hs1.change hid1 hμ1 (by omega) hg2 (cur.setIfInBounds 1 (.slice (some ⟨w.heap.size, 0, none⟩) 0 cs.size)) [.agg [.ptr id 0 0, .own idn 0 0]] [.pointer (some ⟨b, 0, none⟩), .slice (some ⟨w.heap.size, 0, none⟩) 0 cs.size]
      (by rw [h4]; exact hheap) (by simpa using e4) (by simpa using e5) (by simp [V.cells])
      (by
        show RepAll μ' _ _ [.ptr id 0 0, .own idn 0 0] _
        simp only [RepAll, Rep, hμ1, hμn]
        refine ⟨_, _, rfl, ⟨by simp, by omega⟩, _, _, rfl, ⟨0, cs.size, rfl, by omega, by omega, .inl rfl, by omega⟩, rfl⟩)
      (by
        intro u hu
        simp only [List.mem_cons, List.not_mem_nil, or_false] at hu
        rcases hu with hu | hu <;> (rw [hu]; rfl))
      (by
        intro j u hu
        have hc0 : 1 < cur.size := by
          rcases Nat.lt_or_ge 1 cur.size with h' | h'
          · exact h'
          · simp [Array.getElem?_eq_none h'] at hc
        match j, hu with
        | 0, hu =>
          have := g5 0 x0 rfl
          simp at hu
          rw [← hu, ← hx0]
          simpa using this
        | 1, hu => simp at hu; subst hu; simp [hc0]
        | j + 2, hu => simp at hu)
    refine ⟨.tup [], _, μ', _, rfl, ⟨rfl, idn, hno, rfl⟩, hle, ?_, by simp only [Rep]; exact ⟨[], rfl, by simp [RepAll]⟩⟩
    exact hch.1
  · exact hx.elim
end Go.Vc
namespace Go.Vc
theorem i_u8 {n : Nat} (h : n < 256) : (UInt8.ofNat n).toNat = n := by simp [UInt8.toNat_ofNat']; omega
theorem i_dstep (u : Nat) (h : ¬ u < 10) : Lib.decDigits u = Lib.decDigits (u / 10) ++ [UInt8.ofNat (48 + u % 10)] := by rw [Lib.decDigits, dif_neg h]
theorem i_done {u : Nat} (h : u < 10) : Lib.decDigits u = [UInt8.ofNat (48 + u)] := by rw [Lib.decDigits, dif_pos h]
def isDg (b : UInt8) : Prop := 48 ≤ b.toNat ∧ b.toNat ≤ 57
instance (b : UInt8) : Decidable (isDg b) := by unfold isDg; infer_instance
theorem i_dmem : ∀ (u : Nat), ∀ b ∈ Lib.decDigits u, isDg b := by
  intro u
  induction u using Nat.strongRecOn with
  | _ u ih =>
    by_cases h : u < 10
    · rw [i_done h]
      intro b hb
      simp only [List.mem_cons,List.not_mem_nil,or_false] at hb
      subst hb
      unfold isDg
      rw [i_u8 (by omega)]; omega
    · rw [i_dstep u h]
      intro b hb
      rcases List.mem_append.1 hb with hb | hb
      · exact ih (u / 10) (by omega) b hb
      · simp only [List.mem_cons,List.not_mem_nil,or_false] at hb
        subst hb
        unfold isDg
        rw [i_u8 (by omega)]; omega
theorem i_dne (u : Nat) : Lib.decDigits u ≠ [] := by
  unfold Lib.decDigits
  split <;> simp
theorem i_dpos {u : Nat} (h : 0 < u) : ∃ b r, Lib.decDigits u = b :: r ∧ b ≠ 48 := by
  induction u using Nat.strongRecOn with
  | _ u ih =>
    by_cases h9 : u < 10
    · rw [i_done h9]
      refine ⟨_, [], rfl, fun e => ?_⟩
      have := congrArg UInt8.toNat e
      rw [i_u8 (by omega)] at this
      simp at this; omega
    · obtain ⟨b, r, h1, h2⟩ := ih (u / 10) (by omega) (by omega)
      rw [i_dstep u h9, h1]
      exact ⟨b, _, rfl, h2⟩
theorem i_dhead {u : Nat} (h : (Lib.decDigits u).head? = some 48) : (Lib.decDigits u).length = 1 := by
  rcases Nat.eq_zero_or_pos u with rfl | hu
  · rw [i_done (by omega)]; rfl
  · obtain ⟨b, r, h1, h2⟩ := i_dpos hu
    rw [h1] at h
    simp only [List.head?_cons,Option.some.injEq] at h
    exact absurd h h2
theorem i_dlen : ∀ (k u : Nat), u < 10 ^ (k + 1) → (Lib.decDigits u).length ≤ k + 1 := by
  intro k
  induction k with
  | zero => intro u h; rw [i_done (by simpa using h)]; simp
  | succ k ih =>
    intro u h
    by_cases h9 : u < 10
    · rw [i_done h9]; simp
    · rw [i_dstep u h9]
      have := ih (u / 10) (by rw [Nat.pow_succ] at h; omega)
      simp; omega
def dgs : List UInt8 → Nat → Option Nat
  | [], n => some n
  | b :: l, n => if isDg b then dgs l (10 * n + (b.toNat - 48)) else none
theorem dgs_snoc (d : UInt8) : ∀ (l : List UInt8) (n : Nat), dgs (l ++ [d]) n = (dgs l n).bind fun m => if isDg d then some (10 * m + (d.toNat - 48)) else none
  | [], n => by simp [dgs]
  | b :: l, n => by
    simp only [List.cons_append,dgs]
    split
    · exact dgs_snoc d l _
    · rfl
theorem dgs_dec : ∀ (u : Nat), dgs (Lib.decDigits u) 0 = some u := by
  intro u
  induction u using Nat.strongRecOn with
  | _ u ih =>
    by_cases h : u < 10
    · rw [i_done h]
      have hd : isDg (UInt8.ofNat (48 + u)) := by unfold isDg; rw [i_u8 (by omega)]; omega
      simp only [dgs,if_pos hd,i_u8 (show 48 + u < 256 by omega)]
      congr 1; omega
    · have hd : isDg (UInt8.ofNat (48 + u % 10)) := by unfold isDg; rw [i_u8 (by omega)]; omega
      rw [i_dstep u h, dgs_snoc, ih (u / 10) (by omega)]
      simp only [Option.bind_some,if_pos hd,i_u8 (show 48 + u % 10 < 256 by omega)]
      congr 1; omega
theorem i_back (d : UInt8) {k : Nat} (h : k = d.toNat) : UInt8.ofNat k = d := by subst h; simp
theorem dgs_back : ∀ (k : Nat) (t : List UInt8) (n : Nat), t.length = k → t ≠ [] → (t.head? = some 48 → t.length = 1) → dgs t 0 = some n → t = Lib.decDigits n := by
  intro k
  induction k with
  | zero => intro t n hk hne; exact absurd (List.eq_nil_of_length_eq_zero hk) hne
  | succ k ih =>
    intro t n hk hne h0 hd
    obtain ⟨t', d, rfl⟩ : ∃ t' d, t = t' ++ [d] := ⟨t.dropLast, t.getLast hne, (List.dropLast_concat_getLast hne).symm⟩
    rw [dgs_snoc] at hd
    cases hm : dgs t' 0 with
    | none => rw [hm] at hd; cases hd
    | some m =>
      rw [hm] at hd
      simp only [Option.bind_some] at hd
      split at hd
      · rename_i hdig
        unfold isDg at hdig
        simp only [Option.some.injEq] at hd
        subst hd
        by_cases ht : t' = []
        · subst ht
          simp only [dgs,Option.some.injEq] at hm
          subst hm
          rw [i_done (by omega)]
          simp only [List.nil_append,List.cons.injEq,and_true]
          exact (i_back d (by omega)).symm
        · have hl : t'.length = k := by simpa using hk
          have hh : t'.head? = some 48 → t'.length = 1 := fun e => by
            have : (t' ++ [d]).head? = some 48 := by
              cases t' with
              | nil => exact absurd rfl ht
              | cons b r => simpa using e
            have hlen := h0 this
            rw [List.length_append, List.length_cons, List.length_nil] at hlen
            have := List.length_pos_iff.2 ht
            omega
          have e := ih t' m hl ht hh hm
          have hm0 : 0 < m := by
            rcases Nat.eq_zero_or_pos m with h | h
            · exfalso
              subst h
              have e2 : Lib.decDigits 0 = [48] := by rw [i_done (by omega)]; rfl
              rw [e2] at e
              have := h0 (by rw [e]; rfl)
              rw [e] at this; simp at this
            · exact h
          rw [i_dstep _ (by omega), show (10 * m + (d.toNat - 48)) / 10 = m by omega, ← e]
          congr 2
          exact (i_back d (by omega)).symm
      · cases hd
theorem dgs_lt : ∀ (t : List UInt8) (n m : Nat), dgs t n = some m → m < (n + 1) * 10 ^ t.length
  | [], n, m, h => by simp only [dgs,Option.some.injEq] at h; subst h; simp
  | b :: t, n, m, h => by
    simp only [dgs] at h
    split at h
    · rename_i hb
      unfold isDg at hb
      have := dgs_lt t _ m h
      have h2 : (10 * n + (b.toNat - 48) + 1) * 10 ^ t.length ≤ (n + 1) * 10 * 10 ^ t.length := Nat.mul_le_mul_right _ (by omega)
      rw [List.length_cons, Nat.pow_succ, Nat.mul_comm (10 ^ t.length) 10, ← Nat.mul_assoc]
      omega
    · cases h
theorem dgs_mem : ∀ (t : List UInt8) (n m : Nat), dgs t n = some m → ∀ b ∈ t, isDg b
  | [], _, _, _, b, hb => by simp at hb
  | c :: t, n, m, h, b, hb => by
    simp only [dgs] at h
    split at h
    · rename_i hc
      rcases List.mem_cons.1 hb with rfl | hb
      · exact hc
      · exact dgs_mem t _ m h b hb
    · cases h
def numG (e : UInt8) (z : Bool) : List UInt8 → Nat → Nat → Option (Nat × List UInt8)
  | [], _, _ => none
  | b :: l, i, n => if b = e then (if i = 0 ∨ z = true ∧ 1 < i then none else some (n, l))
    else if isDg b ∧ i ≤ 5 then numG e z l (i + 1) (10 * n + (b.toNat - 48)) else none
def numE (e : UInt8) (s : List UInt8) : Option (Nat × List UInt8) := numG e (s.head? == some 48) s 0 0
theorem numG_iff {e : UInt8} (he : ¬ isDg e) (z : Bool) (m : Nat) (r : List UInt8) : ∀ (l : List UInt8) (i n : Nat),
    numG e z l i n = some (m, r) ↔ ∃ t, l = t ++ e :: r ∧ dgs t n = some m ∧ (i + t.length ≤ 6 ∨ t = []) ∧ ¬ i + t.length = 0 ∧ ¬ (z = true ∧ 1 < i + t.length)
  | [], i, n => by simp [numG]
  | b :: l, i, n => by
    have ih := numG_iff he z m r l (i + 1) (10 * n + (b.toNat - 48))
    simp only [numG]
    by_cases hb : b = e
    · subst hb
      rw [if_pos rfl]
      constructor
      · intro h
        split at h
        · cases h
        · rename_i hz
          simp only [Option.some.injEq,Prod.mk.injEq] at h
          obtain ⟨rfl, rfl⟩ := h
          refine ⟨[], rfl, rfl, .inr rfl, fun h0 => hz (.inl (by simpa using h0)), fun h1 => hz (.inr ⟨h1.1, by simpa using h1.2⟩)⟩
      · rintro ⟨t, ht, h1, h2, h3, h4⟩
        cases t with
        | nil =>
          simp only [List.nil_append,List.cons.injEq,true_and] at ht
          simp only [dgs,Option.some.injEq] at h1
          subst ht h1
          rw [if_neg (by rintro (h | h); exact h3 (by simpa using h); exact h4 (by simpa using h))]
        | cons c t =>
          simp only [List.cons_append,List.cons.injEq] at ht
          obtain ⟨rfl, _⟩ := ht
          exact absurd (dgs_mem _ _ _ h1 _ (by simp)) he
    · rw [if_neg hb]
      constructor
      · intro h
        split at h
        · rename_i hd
          obtain ⟨t, rfl, h1, h2, h3, h4⟩ := ih.1 h
          refine ⟨b :: t, rfl, by simp only [dgs,if_pos hd.1]; exact h1, .inl ?_, by simp, ?_⟩
          · rcases h2 with h2 | rfl
            · simp only [List.length_cons]; omega
            · simp only [List.length_cons,List.length_nil]; omega
          · simp only [List.length_cons]
            rwa [show i + (t.length + 1) = i + 1 + t.length by omega]
        · cases h
      · rintro ⟨t, ht, h1, h2, h3, h4⟩
        cases t with
        | nil => simp only [List.nil_append,List.cons.injEq] at ht; exact absurd ht.1 hb
        | cons c t =>
          simp only [List.cons_append,List.cons.injEq] at ht
          obtain ⟨rfl, rfl⟩ := ht
          have hd := dgs_mem _ _ _ h1 b (by simp)
          simp only [dgs,if_pos hd] at h1
          simp only [List.length_cons,reduceCtorEq,or_false] at h2 h3 h4
          rw [if_pos ⟨hd, by omega⟩]
          exact ih.2 ⟨t, rfl, h1, .inl (by omega), by omega, by rwa [show i + 1 + t.length = i + (t.length + 1) by omega]⟩
theorem numE_iff {e : UInt8} (he : ¬ isDg e) (m : Nat) (r s : List UInt8) : numE e s = some (m, r) ↔ s = Lib.decDigits m ++ e :: r ∧ m ≤ 999999 := by
  unfold numE
  rw [numG_iff he]
  constructor
  · rintro ⟨t, rfl, h1, h2, h3, h4⟩
    simp only [Nat.zero_add] at h2 h3 h4
    have hne : t ≠ [] := fun h => h3 (by rw [h]; rfl)
    have hh : t.head? = some 48 → t.length = 1 := fun h => by
      have hz : ((t ++ e :: r).head? == some 48) = true := by
        cases t with
        | nil => exact absurd rfl hne
        | cons b t => simpa using h
      have := List.length_pos_iff.2 hne
      have : ¬ 1 < t.length := fun h' => h4 ⟨hz, h'⟩
      omega
    have hl : t.length ≤ 6 := by rcases h2 with h | h; exact h; exact absurd h hne
    refine ⟨by rw [← dgs_back _ t m rfl hne hh h1], ?_⟩
    have := dgs_lt t 0 m h1
    have h10 : 10 ^ t.length ≤ 10 ^ 6 := Nat.pow_le_pow_right (by omega) hl
    simp only [Nat.zero_add,Nat.one_mul] at this
    have : (10 : Nat) ^ 6 = 1000000 := rfl
    omega
  · rintro ⟨rfl, hm⟩
    have hl := i_dlen 5 m (by rw [show (10 : Nat) ^ (5 + 1) = 1000000 from rfl]; omega)
    have hp := List.length_pos_iff.2 (i_dne m)
    refine ⟨Lib.decDigits m, rfl, dgs_dec m, .inl (by omega), by omega, ?_⟩
    rintro ⟨hz, h1⟩
    have : (Lib.decDigits m).head? = some 48 := by
      cases h : Lib.decDigits m with
      | nil => exact absurd h (i_dne m)
      | cons b t => rw [h] at hz; simpa using hz
    have := i_dhead this
    omega
structure R3 where
  d : Int
  n : Int
  p : Int
deriving DecidableEq
def R3.ok (x : R3) : Prop := (0 ≤ x.d ∧ x.d ≤ 999999) ∧ (0 ≤ x.n ∧ x.n ≤ 999999) ∧ 0 ≤ x.p ∧ x.p ≤ 999999
instance (x : R3) : Decidable x.ok := by unfold R3.ok; infer_instance
def R3.ln (x : R3) : List UInt8 := Lib.decDigits x.d.toNat ++ 32 :: (Lib.decDigits x.n.toNat ++ 32 :: Lib.decDigits x.p.toNat)
def R3.line (x : R3) : List UInt8 := x.ln ++ [10]
def rowP (s : List UInt8) : Option (R3 × List UInt8) := (numE 32 s).bind fun a => (numE 32 a.2).bind fun b => (numE 10 b.2).map fun c => (⟨a.1, b.1, c.1⟩, c.2)
theorem nd32 : ¬ isDg 32 := by decide
theorem nd10 : ¬ isDg 10 := by decide
theorem rowP_iff (x : R3) (r s : List UInt8) : rowP s = some (x, r) ↔ x.ok ∧ s = x.line ++ r := by
  unfold rowP
  constructor
  · intro h
    obtain ⟨⟨a, s1⟩, ha, h⟩ := Option.bind_eq_some_iff.1 h
    obtain ⟨⟨b, s2⟩, hb, h⟩ := Option.bind_eq_some_iff.1 h
    obtain ⟨⟨c, s3⟩, hc, h⟩ := Option.map_eq_some_iff.1 h
    simp only [Prod.mk.injEq] at h
    obtain ⟨rfl, rfl⟩ := h
    obtain ⟨rfl, h1⟩ := (numE_iff nd32 _ _ _).1 ha
    obtain ⟨e2, h2⟩ := (numE_iff nd32 _ _ _).1 hb
    obtain ⟨e3, h3⟩ := (numE_iff nd10 _ _ _).1 hc
    simp only at e2 e3
    subst e2 e3
    refine ⟨⟨⟨?_, ?_⟩, ⟨?_, ?_⟩, ?_, ?_⟩, ?_⟩ <;> try (simp only; omega)
    simp [R3.line, R3.ln]
  · rintro ⟨⟨⟨a0, a1⟩, ⟨b0, b1⟩, c0, c1⟩, rfl⟩
    have e : x.line ++ r = Lib.decDigits x.d.toNat ++ 32 :: (Lib.decDigits x.n.toNat ++ 32 :: (Lib.decDigits x.p.toNat ++ 10 :: r)) := by simp [R3.line, R3.ln]
    rw [e, (numE_iff nd32 x.d.toNat _ _).2 ⟨rfl, by omega⟩, Option.bind_some, (numE_iff nd32 x.n.toNat _ _).2 ⟨rfl, by omega⟩, Option.bind_some, (numE_iff nd10 x.p.toNat _ _).2 ⟨rfl, by omega⟩]
    simp only [Option.map_some,Option.some.injEq,Prod.mk.injEq,and_true]
    rw [Int.toNat_of_nonneg a0, Int.toNat_of_nonneg b0, Int.toNat_of_nonneg c0]
inductive PR
  | ok (l : List R3)
  | bad (n : Nat)
def parseL : Nat → List UInt8 → Nat → List R3 → PR
  | 0, _, _, l => .ok l
  | k + 1, s, at', l => if s = [] then .ok l else match rowP s with
    | none => .bad at'
    | some (x, r) => parseL k r (at' + 1) (l ++ [x])
def txtR (l : List R3) : List UInt8 := l.flatMap R3.line
def textR (l : List R3) : List UInt8 := if ∀ x ∈ l, x.ok then txtR l else []
theorem line_ne (x : R3) : x.line ≠ [] := by simp [R3.line]
theorem parse_txt : ∀ (l : List R3) (k at' : Nat) (acc : List R3), (∀ x ∈ l, x.ok) → l.length < k → parseL k (txtR l) at' acc = .ok (acc ++ l)
  | [], 0, _, _, _, h => by simp at h
  | [], k + 1, _, _, _, _ => by simp [parseL, txtR]
  | x :: l, 0, _, _, _, h => by simp at h
  | x :: l, k + 1, at', acc, ho, h => by
    have e : txtR (x :: l) = x.line ++ txtR l := rfl
    have hr : rowP (txtR (x :: l)) = some (x, txtR l) := (rowP_iff _ _ _).2 ⟨ho x (by simp), e⟩
    simp only [parseL]
    rw [if_neg (by rw [e]; simp [line_ne]), hr]
    simp only
    rw [parse_txt l k (at' + 1) (acc ++ [x]) (fun y hy => ho y (by simp [hy])) (by simpa using h)]
    simp
theorem txt_parse : ∀ (k : Nat) (s : List UInt8) (at' : Nat) (acc l : List R3), s.length < k → parseL k s at' acc = .ok l → ∃ l', l = acc ++ l' ∧ s = txtR l' ∧ ∀ x ∈ l', x.ok
  | 0, _, _, _, _, h, _ => by simp at h
  | k + 1, s, at', acc, l, h, hp => by
    simp only [parseL] at hp
    split at hp
    · rename_i hs
      injection hp with hp
      subst hp hs
      exact ⟨[], by simp, rfl, by simp⟩
    · split at hp
      · cases hp
      · rename_i x r hr
        obtain ⟨ho, rfl⟩ := (rowP_iff _ _ _).1 hr
        have hl : r.length < k := by
          have := List.length_pos_iff.2 (line_ne x)
          rw [List.length_append] at h; omega
        obtain ⟨l', rfl, rfl, hl'⟩ := txt_parse k r _ _ l hl hp
        exact ⟨x :: l', by simp, rfl, by simpa [ho] using hl'⟩
theorem bad_pos : ∀ (k : Nat) (s : List UInt8) (at' : Nat) (acc : List R3) (n : Nat), parseL k s at' acc = .bad n → at' ≤ n
  | 0, _, _, _, _, h => by cases h
  | k + 1, s, at', acc, n, h => by
    simp only [parseL] at h
    split at h
    · cases h
    · split at h
      · injection h with h; omega
      · have := bad_pos k _ _ _ n h; omega
def spL (c : UInt8) : List UInt8 → List (List UInt8)
  | [] => [[]]
  | b :: l => if b = c then [] :: spL c l else match spL c l with
      | p :: ps => (b :: p) :: ps
      | [] => [[b]]
theorem ix_cases (c : UInt8) : ∀ l : List UInt8, (Lib.indexByte l c = -1 ∧ spL c l = [l] ∧ c ∉ l) ∨
    ∃ k : Nat, Lib.indexByte l c = k ∧ k < l.length ∧ spL c l = l.take k :: spL c (l.drop (k + 1)) ∧ l = l.take k ++ c :: l.drop (k + 1) ∧ c ∉ l.take k
  | [] => .inl ⟨rfl, rfl, by simp⟩
  | b :: l => by
    simp only [Lib.indexByte,spL]
    by_cases h : b = c
    · subst h
      exact .inr ⟨0, by simp, by simp, by simp, by simp, by simp⟩
    · have hb : (b == c) = false := by simpa using h
      rw [if_neg h]
      rcases ix_cases c l with ⟨h1, h2, h3⟩ | ⟨k, h1, h2, h3, h4, h5⟩
      · left
        rw [h1, h2]
        exact ⟨by simp [hb], rfl, by simp [h3, Ne.symm h]⟩
      · right
        refine ⟨k + 1, ?_, by simp; omega, ?_, ?_, ?_⟩
        · rw [h1]
          have : ((k : Int) == -1) = false := by rw [beq_eq_false_iff_ne]; omega
          simp [hb, this]
        · rw [h3]; rfl
        · simp only [List.take_succ_cons,List.drop_succ_cons,List.cons_append]; rw [← h4]
        · simp [h5, Ne.symm h]
theorem sp_app (c : UInt8) : ∀ (a r : List UInt8), c ∉ a → spL c (a ++ c :: r) = a :: spL c r
  | [], r, _ => by simp [spL]
  | b :: a, r, h => by
    simp only [List.mem_cons,not_or] at h
    have ih := sp_app c a r h.2
    simp only [List.cons_append,spL]
    rw [if_neg (fun e => h.1 e.symm), ih]
theorem sp_none (c : UInt8) : ∀ (a : List UInt8), c ∉ a → spL c a = [a]
  | [], _ => by simp [spL]
  | b :: a, h => by
    simp only [List.mem_cons,not_or] at h
    have ih := sp_none c a h.2
    simp only [spL]
    rw [if_neg (fun e => h.1 e.symm), ih]
theorem sp_len (c : UInt8) : ∀ l, (spL c l).length ≤ l.length + 1
  | [] => by simp [spL]
  | b :: l => by
    have ih := sp_len c l
    simp only [spL]
    split
    · simpa using ih
    · split
      · rename_i h; rw [h] at ih; simp at ih ⊢; omega
      · simp
theorem sp_mem (c : UInt8) : ∀ l, ∀ w ∈ spL c l, w.length ≤ l.length
  | [], w, h => by simp [spL] at h; subst h; simp
  | b :: l, w, h => by
    have ih := sp_mem c l
    simp only [spL] at h
    split at h
    · rcases List.mem_cons.1 h with rfl | h
      · simp
      · have := ih w h; simp; omega
    · split at h
      · rename_i p ps hs
        rw [hs] at ih
        rcases List.mem_cons.1 h with rfl | h
        · have := ih p (by simp); simpa using this
        · have := ih w (by simp [h]); simp; omega
      · simp at h; subst h; simp
def atI (s : List UInt8) : Int := match Lib.atoiAll s with
  | .ok k => k
  | .range => Lib.atoiSat s
  | _ => 0
theorem i_psnoc : ∀ (l : List UInt8) (acc u d : Nat), Lib.parseUint10 acc l = .ok u → d < 10 → u * 10 + d < 18446744073709551616 → Lib.parseUint10 acc (l ++ [UInt8.ofNat (48 + d)]) = .ok (u * 10 + d)
  | [], acc, u, d, h, hd, hb => by
    simp only [Lib.parseUint10] at h
    injection h with h
    subst h
    simp only [List.nil_append,Lib.parseUint10]
    rw [i_u8 (by omega)]
    rw [if_pos (by omega), if_neg (by omega), if_neg (by omega)]
    congr 1; omega
  | c :: r, acc, u, d, h, hd, hb => by
    simp only [Lib.parseUint10] at h
    simp only [List.cons_append,Lib.parseUint10]
    split at h
    · rename_i h1
      split at h
      · cases h
      · rename_i h2
        split at h
        · cases h
        · rename_i h3
          rw [if_pos h1, if_neg h2, if_neg h3]
          exact i_psnoc r _ u d h hd hb
    · cases h
theorem i_pdec : ∀ (u : Nat), u < 1000000000000000 → Lib.parseUint10 0 (Lib.decDigits u) = .ok u := by
  intro u
  induction u using Nat.strongRecOn with
  | _ u ih =>
    intro hu
    by_cases h : u < 10
    · rw [i_done h]
      have := i_psnoc [] 0 0 u rfl h (by omega)
      simpa using this
    · rw [i_dstep u h, i_psnoc _ 0 (u / 10) (u % 10) (ih (u / 10) (by omega) (by omega)) (by omega) (by omega)]
      congr 1; omega
theorem atI_dec (n : Int) (h0 : 0 ≤ n) (h1 : n ≤ 999999) : atI (Lib.decDigits n.toNat) = n := by
  have : Lib.atoiAll (Lib.decDigits n.toNat) = .ok n := by
    have hm : Lib.parseMag (Lib.decDigits n.toNat) = .ok n.toNat := by
      unfold Lib.parseMag
      rw [if_neg (i_dne _)]
      exact i_pdec _ (by omega)
    cases hd : Lib.decDigits n.toNat with
    | nil => exact absurd hd (i_dne _)
    | cons c r =>
      have hc := i_dmem n.toNat c (by rw [hd]; simp)
      unfold isDg at hc
      rw [Lib.atoiAll]
      rw [if_neg (by omega), ← hd, hm]
      have h45 : ¬ c.toNat = 45 := by omega
      simp only [h45,not_false_eq_true,true_and,false_and,if_false]
      rw [if_neg (by omega)]
      congr 1; omega
  simp [atI, this]
def rowC (s : List UInt8) : Option R3 := match (spL 32 s).map atI with
  | [a, b, c] => if (⟨a, b, c⟩ : R3).ok ∧ (⟨a, b, c⟩ : R3).line = s ++ [10] then some ⟨a, b, c⟩ else none
  | _ => none
theorem no32 (u : Nat) : (32 : UInt8) ∉ Lib.decDigits u := fun h => nd32 (i_dmem u _ h)
theorem no10 (u : Nat) : (10 : UInt8) ∉ Lib.decDigits u := fun h => nd10 (i_dmem u _ h)
theorem ln_no (x : R3) : (10 : UInt8) ∉ x.ln := by
  unfold R3.ln
  simp only [List.mem_append,List.mem_cons,not_or]
  exact ⟨no10 _, by decide, no10 _, by decide, no10 _⟩
theorem sp_ln (x : R3) (h : x.ok) : (spL 32 x.ln).map atI = [x.d, x.n, x.p] := by
  unfold R3.ln
  rw [sp_app _ _ _ (no32 _), sp_app _ _ _ (no32 _), sp_none _ _ (no32 _)]
  simp only [List.map_cons,List.map_nil]
  rw [atI_dec _ h.1.1 h.1.2, atI_dec _ h.2.1.1 h.2.1.2, atI_dec _ h.2.2.1 h.2.2.2]
theorem rowC_iff (x : R3) (s : List UInt8) : rowC s = some x ↔ x.ok ∧ x.line = s ++ [10] := by
  constructor
  · intro h
    unfold rowC at h
    split at h
    · split at h
      · rename_i h2
        simp only [Option.some.injEq] at h
        subst h
        exact h2
      · cases h
    · cases h
  · rintro ⟨ho, hl⟩
    have : x.ln = s := by unfold R3.line at hl; exact List.append_cancel_right hl
    subst this
    unfold rowC
    rw [sp_ln x ho]
    simp only
    rw [if_pos ⟨ho, hl⟩]
theorem first_uniq {c : UInt8} : ∀ {a b r t : List UInt8}, c ∉ a → c ∉ b → a ++ c :: r = b ++ c :: t → a = b ∧ r = t
  | [], [], _, _, _, _, h => by simpa using h
  | [], y :: b, _, _, _, hb, h => by simp only [List.nil_append,List.cons_append,List.cons.injEq] at h; exact absurd (by simp [h.1]) hb
  | x :: a, [], _, _, ha, _, h => by simp only [List.nil_append,List.cons_append,List.cons.injEq] at h; exact absurd (by simp [← h.1]) ha
  | x :: a, y :: b, r, t, ha, hb, h => by
    simp only [List.cons_append,List.cons.injEq] at h
    simp only [List.mem_cons,not_or] at ha hb
    obtain ⟨rfl, h⟩ := h
    obtain ⟨rfl, rfl⟩ := first_uniq ha.2 hb.2 h
    exact ⟨rfl, rfl⟩
theorem rowP_cut (s : List UInt8) : (Lib.indexByte s 10 = -1 ∧ rowP s = none) ∨
    ∃ k : Nat, Lib.indexByte s 10 = k ∧ k < s.length ∧ rowP s = (rowC (s.take k)).map fun x => (x, s.drop (k + 1)) := by
  rcases ix_cases 10 s with ⟨h1, _, h2⟩ | ⟨k, h1, h2, _, h3, h4⟩
  · left
    refine ⟨h1, ?_⟩
    cases hr : rowP s with
    | none => rfl
    | some y =>
      obtain ⟨x, r⟩ := y
      obtain ⟨_, hs⟩ := (rowP_iff x r s).1 hr
      exact absurd (by rw [hs]; simp [R3.line]) h2
  · right
    refine ⟨k, h1, h2, ?_⟩
    cases hc : rowC (s.take k) with
    | some x =>
      obtain ⟨ho, hl⟩ := (rowC_iff x _).1 hc
      refine (rowP_iff x _ s).2 ⟨ho, ?_⟩
      rw [hl]
      simpa using h3
    | none =>
      cases hr : rowP s with
      | none => rfl
      | some y =>
        obtain ⟨x, r⟩ := y
        obtain ⟨ho, hs⟩ := (rowP_iff x r s).1 hr
        exfalso
        have e : s.take k ++ 10 :: s.drop (k + 1) = x.ln ++ 10 :: r := by rw [← h3, hs]; simp [R3.line]
        have := (first_uniq h4 (ln_no x) e).1
        rw [(rowC_iff x _).2 ⟨ho, by rw [this]; rfl⟩] at hc
        cases hc
end Go.Vc
namespace Go.Proofs
open Go.Shelf
def Tryz.lays217_ren : Go.Shelf.Ren := ⟨fun | 217 => 106 | 266 => 139 | n => n, fun | 9 => 9 | 5 => 5 | 3 => 3 | n => n, fun | n => n⟩
theorem Tryz.lays217 : Go.Proofs.Lays.n217 Tryz.prog Tryz.lays217_ren := {
  mixed := by kernel_rfl
  f217 := Tryz.func106.trans (congrArg some (by kernel_rfl))
  f266 := Tryz.func139.trans (congrArg some (by kernel_rfl))
  t3 := Tryz.underlying3
  a3 := Tryz.isAgg3
  z3 := Tryz.sizeOf3
  v3 := Tryz.zeroValue3
  t5 := Tryz.underlying5
  a5 := Tryz.isAgg5
  z5 := Tryz.sizeOf5
  v5 := Tryz.zeroValue5
  t9 := Tryz.underlying9
  a9 := Tryz.isAgg9
  z9 := Tryz.sizeOf9
  v9 := Tryz.zeroValue9 }
def Tryz.lays241_ren : Go.Shelf.Ren := ⟨fun | 241 => 119 | 277 => 149 | n => n, fun | 70 => 50 | 0 => 0 | 72 => 53 | 37 => 51 | 3 => 3 | 5 => 5 | n => n, fun | n => n⟩
theorem Tryz.lays241 : Go.Proofs.Lays.n241 Tryz.prog Tryz.lays241_ren := {
  mixed := by kernel_rfl
  f241 := Tryz.func119.trans (congrArg some (by kernel_rfl))
  f277 := Tryz.func149.trans (congrArg some (by kernel_rfl))
  t0 := Tryz.underlying0
  a0 := Tryz.isAgg0
  z0 := Tryz.sizeOf0
  v0 := Tryz.zeroValue0
  t3 := Tryz.underlying3
  a3 := Tryz.isAgg3
  z3 := Tryz.sizeOf3
  v3 := Tryz.zeroValue3
  t37 := Tryz.underlying51
  a37 := Tryz.isAgg51
  z37 := Tryz.sizeOf51
  v37 := Tryz.zeroValue51
  t70 := Tryz.underlying50
  a70 := Tryz.isAgg50
  z70 := Tryz.sizeOf50
  v70 := Tryz.zeroValue50
  t72 := Tryz.underlying53
  a72 := Tryz.isAgg53
  z72 := Tryz.sizeOf53
  v72 := Tryz.zeroValue53 }
theorem Tryz.Builder_Extra_241 : Builder.Extra Tryz.prog Tryz.lays241_ren := {
  sizeBuilder := by kernel_rfl
  liesBuilder := by kernel_rfl
  t5 := Tryz.underlying5
  a5 := Tryz.isAgg5
  z5 := Tryz.sizeOf5
  v5 := Tryz.zeroValue5
  infoByte := by kernel_rfl
  cellsByte := by kernel_rfl
  sizeByte := by kernel_rfl
  neB5 := by decide }
end Go.Proofs
namespace Go.Vc
open Go.Proofs Go.RowKit Go.Shelf
theorem ixB_c (s : List UInt8) (c : UInt8) : PFun Tryz.prog 106 [.str s, .int .u8 c.toNat] (vI (Lib.indexByte s c)) := by
  refine PFun.libG (vals := [.string ⟨s.toArray⟩, .int .u8 c.toNat]) (by kernel_rfl) (fun μ ow w l h => ?_) (fun w _ => ?_)
  · simpa [RepAll, Rep] using h
  · refine (Any.stringslite_IndexByte Tryz.lays217 ⟨s.toArray⟩ c.toNat w).mono ?_
    rintro e w' ⟨rfl, rfl⟩
    exact ⟨_, rfl, fun _ _ => by simp [Rep], Below.refl _ _⟩
theorem ixL_c (s : List UInt8) (c : UInt8) : PFun Tryz.prog 75 [.str s, .str [c]] (vI (Lib.indexByte s c)) := fun σ => by
  refine Contract.of_runs Tryz.func75 e75 k75 (by simp [c75]) ?_
  refine Runs.mix 14 ?_
  have hx : idxSV (.str [c]) (.int .i64 0) = some (.int .u8 c.toNat) := rfl
  by_cases h : s = [c]
  · subst h
    have q : ([c] = [c]) = True := by simp
    (refine Runs.of_step Orc.nothing 300 ?_; simp -implicitDefEqProofs only [BB,seval,effR_some,effD_some,← decide_not,okind,vpre,vpure,intBin,intPre,strBin,strPre,popTo,argSlots,fldV,fldAV,subCells,idxVV,idxAAV,idxSV,sliceV,sliceSV,boundV,szIs,storeOp,storeS,setRowV,eff,extV,buildV,splice,eqSV,fitsL,eqCells,eqCell,minmaxV,capV,binBV,nilCheckV,bytesV,V.cells,V.stays,Orc.nothing,c75,q,Int.natCast_one,Nat.reduceAdd])
    exact RetV.same (by simp [Lib.indexByte])
  · have q : ([c] = s) = False := by simp; exact fun e => h e.symm
    (refine Runs.of_step Orc.nothing 300 ?_; simp -implicitDefEqProofs only [BB,seval,effR_some,effD_some,← decide_not,okind,vpre,vpure,intBin,intPre,strBin,strPre,popTo,argSlots,fldV,fldAV,subCells,idxVV,idxAAV,sliceV,sliceSV,boundV,szIs,storeOp,storeS,setRowV,eff,extV,buildV,splice,eqSV,fitsL,eqCells,eqCell,minmaxV,capV,binBV,nilCheckV,bytesV,V.cells,V.stays,Orc.nothing,c75,q,hx,Int.natCast_one,Nat.reduceAdd])
    refine Runs.pcall rfl rfl rfl (ixB_c s c _) ?_
    (refine Runs.of_step Orc.nothing 300 ?_; simp -implicitDefEqProofs only [BB,seval,effR_some,effD_some,← decide_not,okind,vpre,vpure,intBin,intPre,strBin,strPre,popTo,argSlots,fldV,fldAV,subCells,idxVV,idxAAV,idxSV,sliceV,sliceSV,boundV,szIs,storeOp,storeS,setRowV,eff,extV,buildV,splice,eqSV,fitsL,eqCells,eqCell,minmaxV,capV,binBV,nilCheckV,bytesV,V.cells,V.stays,Orc.nothing])
    exact RetV.same rfl
theorem ixS_c (s : List UInt8) (c : UInt8) : PFun Tryz.prog 112 [.str s, .str [c]] (vI (Lib.indexByte s c)) := fun σ => by
  refine Contract.of_runs Tryz.func112 e112 k112 (by simp [c112]) ?_
  refine Runs.mix 5 ?_
  (refine Runs.of_step Orc.nothing 300 ?_; simp -implicitDefEqProofs only [BB,seval,effR_some,effD_some,← decide_not,okind,vpre,vpure,intBin,intPre,strBin,strPre,popTo,argSlots,fldV,fldAV,subCells,idxVV,idxAAV,idxSV,sliceV,sliceSV,boundV,szIs,storeOp,storeS,setRowV,eff,extV,buildV,splice,eqSV,fitsL,eqCells,eqCell,minmaxV,capV,binBV,nilCheckV,bytesV,V.cells,V.stays,Orc.nothing,c112])
  refine Runs.pcall rfl rfl rfl (ixL_c s c _) ?_
  (refine Runs.of_step Orc.nothing 300 ?_; simp -implicitDefEqProofs only [BB,seval,effR_some,effD_some,← decide_not,okind,vpre,vpure,intBin,intPre,strBin,strPre,popTo,argSlots,fldV,fldAV,subCells,idxVV,idxAAV,idxSV,sliceV,sliceSV,boundV,szIs,storeOp,storeS,setRowV,eff,extV,buildV,splice,eqSV,fitsL,eqCells,eqCell,minmaxV,capV,binBV,nilCheckV,bytesV,V.cells,V.stays,Orc.nothing])
  exact RetV.same rfl
def cutV (c : UInt8) (s : List UInt8) : V := if Lib.indexByte s c < 0 then .tup [.str s, .str [], .bool false]
  else .tup [.str (s.take (Lib.indexByte s c).toNat), .str (s.drop ((Lib.indexByte s c).toNat + 1)), .bool true]
theorem sl_to {s : List UInt8} {k : Nat} (h : k ≤ s.length) : sliceSV (.str s) none (some (vI k)) = some (.str (s.take k)) := by
  simp only [sliceSV,boundV]
  rw [if_pos (by omega)]
  simp
theorem sl_from {s : List UInt8} {k : Nat} (h : k ≤ s.length) : sliceSV (.str s) (some (vI k)) none = some (.str (s.drop k)) := by
  simp only [sliceSV,boundV]
  rw [if_pos (by omega), show ((s.length : Int)).toNat - ((k : Int)).toNat = s.length - k by omega, Int.toNat_natCast, List.take_of_length_le (by simp)]
theorem cutL_c (s : List UInt8) (c : UInt8) (hs : s.length ≤ 1000000000) : PFun Tryz.prog 39 [.str s, .str [c]] (cutV c s) := fun σ => by
  refine Contract.of_runs Tryz.func39 e39 k39 (by simp [c39]) ?_
  refine Runs.mix 8 ?_
  (refine Runs.of_step Orc.nothing 300 ?_; simp -implicitDefEqProofs only [BB,seval,effR_some,effD_some,← decide_not,okind,vpre,vpure,intBin,intPre,strBin,strPre,popTo,argSlots,fldV,fldAV,subCells,idxVV,idxAAV,idxSV,sliceV,sliceSV,boundV,szIs,storeOp,storeS,setRowV,eff,extV,buildV,splice,eqSV,fitsL,eqCells,eqCell,minmaxV,capV,binBV,nilCheckV,bytesV,V.cells,V.stays,Orc.nothing,c39])
  refine Runs.pcall rfl rfl rfl (ixL_c s c _) ?_
  unfold cutV
  rcases ix_cases c s with ⟨h1, _⟩ | ⟨k, h1, h2, _⟩
  · rw [h1]
    have q : ((-1 : Int) ≥ 0) = False := by simp
    (refine Runs.of_step Orc.nothing 300 ?_; simp -implicitDefEqProofs only [BB,seval,effR_some,effD_some,← decide_not,okind,vpre,vpure,intBin,intPre,strBin,strPre,popTo,argSlots,fldV,fldAV,subCells,idxVV,idxAAV,idxSV,sliceV,sliceSV,boundV,szIs,storeOp,storeS,setRowV,eff,extV,buildV,splice,eqSV,fitsL,eqCells,eqCell,minmaxV,capV,binBV,nilCheckV,bytesV,V.cells,V.stays,Orc.nothing,q])
    exact RetV.same (by simp)
  · rw [h1]
    have q : ((k : Int) ≥ 0) = True := by simp
    have s1 := sl_to (s := s) (k := k) (by omega)
    have s2 := sl_from (s := s) (k := k + 1) (by omega)
    have e1 : ((k + 1 : Nat) : Int) = (k : Int) + 1 := by omega
    rw [e1] at s2
    have r1 : inR .i64 ((k : Int) + 1) := inR_i64 (by omega) (by omega)
    (refine Runs.of_step Orc.nothing 300 ?_; simp -implicitDefEqProofs only [BB,seval,effR_some,effD_some,← decide_not,okind,vpre,vpure,intBin,intPre,strBin,strPre,popTo,argSlots,fldV,fldAV,subCells,idxVV,idxAAV,idxSV,sliceV,boundV,szIs,storeOp,storeS,setRowV,eff,extV,buildV,splice,eqSV,fitsL,eqCells,eqCell,minmaxV,capV,binBV,nilCheckV,bytesV,V.cells,V.stays,Orc.nothing,q,s1,s2,r1,Int.natCast_one,Nat.reduceAdd])
    exact RetV.same (by rw [if_neg (by omega)]; simp)
theorem cutS_c (s : List UInt8) (c : UInt8) (hs : s.length ≤ 1000000000) : PFun Tryz.prog 17 [.str s, .str [c]] (cutV c s) := fun σ => by
  refine Contract.of_runs Tryz.func17 e17 k17 (by simp [c17]) ?_
  refine Runs.mix 7 ?_
  (refine Runs.of_step Orc.nothing 300 ?_; simp -implicitDefEqProofs only [BB,seval,effR_some,effD_some,← decide_not,okind,vpre,vpure,intBin,intPre,strBin,strPre,popTo,argSlots,fldV,fldAV,subCells,idxVV,idxAAV,idxSV,sliceV,sliceSV,boundV,szIs,storeOp,storeS,setRowV,eff,extV,buildV,splice,eqSV,fitsL,eqCells,eqCell,minmaxV,capV,binBV,nilCheckV,bytesV,V.cells,V.stays,Orc.nothing,c17])
  refine Runs.pcall rfl rfl rfl (cutL_c s c hs _) ?_
  unfold cutV
  split
  · (refine Runs.of_step Orc.nothing 300 ?_; simp -implicitDefEqProofs only [BB,seval,effR_some,effD_some,← decide_not,okind,vpre,vpure,intBin,intPre,strBin,strPre,popTo,argSlots,fldV,fldAV,subCells,idxVV,idxAAV,idxSV,sliceV,sliceSV,boundV,szIs,storeOp,storeS,setRowV,eff,extV,buildV,splice,eqSV,fitsL,eqCells,eqCell,minmaxV,capV,binBV,nilCheckV,bytesV,V.cells,V.stays,Orc.nothing])
    exact RetV.same rfl
  · (refine Runs.of_step Orc.nothing 300 ?_; simp -implicitDefEqProofs only [BB,seval,effR_some,effD_some,← decide_not,okind,vpre,vpure,intBin,intPre,strBin,strPre,popTo,argSlots,fldV,fldAV,subCells,idxVV,idxAAV,idxSV,sliceV,sliceSV,boundV,szIs,storeOp,storeS,setRowV,eff,extV,buildV,splice,eqSV,fitsL,eqCells,eqCell,minmaxV,capV,binBV,nilCheckV,bytesV,V.cells,V.stays,Orc.nothing])
    exact RetV.same rfl
theorem atoiX_c (s : List UInt8) (hl : s.length ≤ 1000000000) : ∃ e, PFun Tryz.prog 41 [.str s] (.tup [vI (atI s), e]) := by
  have hsz : (⟨s.toArray⟩ : ByteArray).size = s.length := by simp [ByteArray.size]
  unfold atI
  cases h : Lib.atoiAll s
  · rename_i k
    refine ⟨.niliface, PFun.libG (vals := [.string ⟨s.toArray⟩]) (by kernel_rfl) (fun μ ow w l h => by simpa [RepAll, Rep] using h) fun w hO => ?_⟩
    refine (Any.strconv_Atoi_ok Tryz.laysC172 ⟨s.toArray⟩ (by omega) k (by simpa using h) w).mono ?_
    rintro e w' ⟨rfl, hw⟩
    refine ⟨_, rfl, fun _ _ => by simp [Rep, RepAll], ?_⟩
    rcases hw with rfl | ⟨t, rfl⟩
    · exact Below.refl _ _
    · exact Lib.bytesWorld_below _ _ _
  · refine ⟨.iface 204 .undef, PFun.libG (vals := [.string ⟨s.toArray⟩]) (by kernel_rfl) (fun μ ow w l h => by simpa [RepAll, Rep] using h) fun w hO => ?_⟩
    obtain ⟨_, ⟨tp, p, hv⟩, _⟩ := hO
    refine (Any.strconv_Atoi_syntax_var Tryz.laysC172 ⟨s.toArray⟩ (by omega) (by simpa using h) tp p w hv).mono ?_
    rintro e w' ⟨N, rfl, _, _, hw⟩
    refine ⟨_, rfl, fun _ _ => ?_, hw⟩
    simp only [Rep]; exact ⟨_, rfl, by simp only [RepAll,Rep]; exact ⟨_, _, rfl, rfl, _, _, rfl, ⟨_, rfl, trivial⟩, rfl⟩⟩
  · refine ⟨.iface 204 .undef, PFun.libG (vals := [.string ⟨s.toArray⟩]) (by kernel_rfl) (fun μ ow w l h => by simpa [RepAll, Rep] using h) fun w hO => ?_⟩
    obtain ⟨_, _, ⟨tp, p, hv⟩⟩ := hO
    refine (Any.strconv_Atoi_range_var Tryz.laysC172 ⟨s.toArray⟩ (by omega) (by simpa using h) tp p w hv).mono ?_
    rintro e w' ⟨N, rfl, _, _, hw⟩
    refine ⟨_, rfl, fun _ _ => ?_, hw⟩
    simp only [Rep]; exact ⟨_, rfl, by simp only [RepAll,Rep]; exact ⟨_, _, rfl, rfl, _, _, rfl, ⟨_, rfl, trivial⟩, rfl⟩⟩
end Go.Vc
namespace Go.Vc
open Go.Proofs
def spC (c : UInt8) (s : List UInt8) (a b d : Nat) : Store := fun i => if i = a then some ⟨9, 1, [.str s]⟩ else if i = b then some ⟨9, 1, [.str [c]]⟩ else if i = d then some ⟨3, 1, [vI 0]⟩ else none
set_option maxRecDepth 100000 in
theorem split_iter (c : UInt8) (s : List UInt8) (hs : s.length ≤ 1000000) (a b d : Nat) (hab : a ≠ b) (had : a ≠ d) (hbd : b ≠ d) :
    IterC Tryz.prog 110 [.ptr b 0 0, .ptr a 0 0, .ptr d 0 0] (spC c s a b d) ((spL c s).map fun t => [.str t]) := by
  refine ⟨k110, fun idl J Jx σ0 σ1 hy hJ hsub hC => ?_⟩
  obtain ⟨ga, na⟩ := hC a ⟨9, 1, [.str s]⟩ (by simp [spC])
  obtain ⟨gb, nb⟩ := hC b ⟨9, 1, [.str [c]]⟩ (by simp [spC, hab.symm])
  obtain ⟨gd, nd⟩ := hC d ⟨3, 1, [vI 0]⟩ (by simp [spC, had.symm, hbd.symm])
  refine (Contract.of_runs Tryz.func110 e110 k110 (by simp [c110]) ?_).2
  refine Runs.mix 12 ?_
  have q0 : ((1 : Int) = 0) = False := by simp
  (refine Runs.of_step Orc.nothing 300 ?_; simp -implicitDefEqProofs only [BB,seval,← decide_not,okind,vpre,vpure,intBin,intPre,strBin,strPre,popTo,argSlots,fldV,fldAV,subCells,idxVV,idxAAV,idxSV,sliceV,sliceSV,boundV,szIs,storeOp,storeS,setRowV,eff,extV,buildV,splice,eqSV,fitsL,eqCells,eqCell,minmaxV,capV,binBV,nilCheckV,bytesV,V.cells,V.stays,Orc.nothing,c110,ga,gb,gd,q0])
  refine Runs.loop (fun m st => ∃ (s' : List UInt8) (pre : List (List UInt8)) (σJ : Store), s'.length ≤ s.length ∧ m = s'.length ∧ spL c s = pre ++ spL c s' ∧ J (pre.map fun t => [.str t]) σJ ∧ SubStore σJ st.σ ∧
    σJ a = none ∧ σJ b = none ∧ σJ d = none ∧ st.σ a = some ⟨9, 1, [.str s']⟩ ∧ st.σ b = some ⟨9, 1, [.str [c]]⟩ ∧ st.σ d = some ⟨3, 1, [vI 0]⟩ ∧ st.s 0 = .yl idl ∧ st.s 1 = .ptr b 0 0 ∧ st.s 2 = .ptr a 0 0 ∧ st.s 3 = .ptr d 0 0) s.length ?_ ?_
  · exact ⟨s, [], σ0, by omega, rfl, rfl, hJ, hsub, na, nb, nd, ga, gb, gd, rfl, rfl, rfl, rfl⟩
  · rintro m ⟨S, σ'⟩ ⟨s', pre, σJ, hl, rfl, hp, hJp, hsub', n1, n2, n3, h1, h2, h3, t0, t1, t2, t3⟩
    simp only at hsub' h1 h2 h3 t0 t1 t2 t3
    refine Runs.mix 12 ?_
    (refine Runs.of_step Orc.nothing 300 ?_; simp -implicitDefEqProofs only [BB,seval,← decide_not,okind,vpre,vpure,intBin,intPre,strBin,strPre,popTo,argSlots,fldV,fldAV,subCells,idxVV,idxAAV,idxSV,sliceV,sliceSV,boundV,szIs,storeOp,storeS,setRowV,eff,extV,buildV,splice,eqSV,fitsL,eqCells,eqCell,minmaxV,capV,binBV,nilCheckV,bytesV,V.cells,V.stays,Orc.nothing,t0,t1,t2,t3,h1,h2,h3])
    refine Runs.pcall rfl rfl rfl (ixS_c s' c _) ?_
    rcases ix_cases c s' with ⟨e1, e2, _⟩ | ⟨k, e1, e2, e3, _⟩
    · rw [e1]
      have q : ((-1 : Int) < 0) = True := by simp
      (refine Runs.of_step Orc.nothing 300 ?_; simp -implicitDefEqProofs only [BB,seval,← decide_not,okind,vpre,vpure,intBin,intPre,strBin,strPre,popTo,argSlots,fldV,fldAV,subCells,idxVV,idxAAV,idxSV,sliceV,sliceSV,boundV,szIs,storeOp,storeS,setRowV,eff,extV,buildV,splice,eqSV,fitsL,eqCells,eqCell,minmaxV,capV,binBV,nilCheckV,bytesV,V.cells,V.stays,Orc.nothing,t0,t1,t2,t3,h1,h2,h3,q])
      have hxs : ((spL c s).map fun t => [V.str t]) = (pre.map fun t => [V.str t]) ++ [.str s'] :: [] := by rw [hp, e2]; simp
      refine Runs.ycall (Post := fun b σ'' => ∃ σJ', Beside σJ σ' σJ' σ'' ∧ ((b = true ∧ J ((pre.map fun t => [V.str t]) ++ [[V.str s']]) σJ') ∨ (b = false ∧ Jx ((pre.map fun t => [V.str t]) ++ [[V.str s']]) σJ'))) rfl rfl rfl (hy _ [.str s'] _ σJ σ' hxs hJp hsub') ?_
      rintro x σ6 ⟨σJ', hbs, hb⟩
      (refine Runs.of_step Orc.nothing 300 ?_; simp -implicitDefEqProofs only [BB,seval,← decide_not,okind,vpre,vpure,intBin,intPre,strBin,strPre,popTo,argSlots,fldV,fldAV,subCells,idxVV,idxAAV,idxSV,sliceV,sliceSV,boundV,szIs,storeOp,storeS,setRowV,eff,extV,buildV,splice,eqSV,fitsL,eqCells,eqCell,minmaxV,capV,binBV,nilCheckV,bytesV,V.cells,V.stays,Orc.nothing])
      rcases hb with ⟨rfl, hb⟩ | ⟨rfl, hb⟩
      · refine ⟨_, σJ', hbs.1, Wk.refl hbs.1 _, .inl ?_⟩
        rw [hxs]; exact hb
      · refine ⟨_, σJ', hbs.1, Wk.refl hbs.1 _, .inr ⟨_, ?_, hb⟩⟩
        rw [hxs]; exact ⟨[], by simp⟩
    · rw [e1]
      have q : ((k : Int) < 0) = False := eq_false (by omega)
      have s1 := sl_to (s := s') (k := k) (by omega)
      have s2 := sl_from (s := s') (k := k + 1) (by omega)
      have ek : ((k + 1 : Nat) : Int) = (k : Int) + 1 := by omega
      rw [ek] at s2
      have r1 : inR .i64 ((k : Int) + 1) := inR_i64 (by omega) (by omega)
      have r0 : inR .i64 ((k : Int) + 0) := inR_i64 (by omega) (by omega)
      have k0 : (k : Int) + 0 = k := by omega
      (refine Runs.of_step Orc.nothing 300 ?_; simp -implicitDefEqProofs only [BB,seval,← decide_not,okind,vpre,vpure,intBin,intPre,strBin,strPre,popTo,argSlots,fldV,fldAV,subCells,idxVV,idxAAV,idxSV,sliceV,boundV,szIs,storeOp,storeS,setRowV,eff,extV,buildV,splice,eqSV,fitsL,eqCells,eqCell,minmaxV,capV,binBV,nilCheckV,bytesV,V.cells,V.stays,Orc.nothing,t0,t1,t2,t3,h1,h2,h3,q,s1,s2,r1,r0,k0,Int.natCast_one,Nat.reduceAdd])
      have hxs : ((spL c s).map fun t => [V.str t]) = (pre.map fun t => [V.str t]) ++ [.str (s'.take k)] :: ((spL c (s'.drop (k + 1))).map fun t => [V.str t]) := by rw [hp, e3]; simp
      refine ⟨inR_i64 (by omega) (by omega), ?_⟩
      refine Runs.ycall (Post := fun b σ'' => ∃ σJ', Beside σJ σ' σJ' σ'' ∧ ((b = true ∧ J ((pre.map fun t => [V.str t]) ++ [[V.str (s'.take k)]]) σJ') ∨ (b = false ∧ Jx ((pre.map fun t => [V.str t]) ++ [[V.str (s'.take k)]]) σJ'))) rfl rfl rfl (hy _ [.str (s'.take k)] _ σJ σ' hxs hJp hsub') ?_
      rintro x σ6 ⟨σJ', hbs, hb⟩
      obtain ⟨a1, a2⟩ := hbs.2 a _ n1 h1
      obtain ⟨b1, b2⟩ := hbs.2 b _ n2 h2
      obtain ⟨d1, d2⟩ := hbs.2 d _ n3 h3
      rcases hb with ⟨rfl, hb⟩ | ⟨rfl, hb⟩
      · (refine Runs.of_step Orc.nothing 300 ?_; simp -implicitDefEqProofs only [BB,seval,← decide_not,okind,vpre,vpure,intBin,intPre,strBin,strPre,popTo,argSlots,fldV,fldAV,subCells,idxVV,idxAAV,idxSV,sliceV,boundV,szIs,storeOp,storeS,setRowV,eff,extV,buildV,splice,eqSV,fitsL,eqCells,eqCell,minmaxV,capV,binBV,nilCheckV,bytesV,V.cells,V.stays,Orc.nothing,t0,t1,t2,t3,a1,b1,d1,s2,r1,Int.natCast_one,Nat.reduceAdd])
        refine ⟨_, ?_, s'.drop (k + 1), pre ++ [s'.take k], σJ', by simp; omega, rfl, ?_, ?_, hbs.1.updK a2, a2, b2, d2, by simp [upd_ne hab.symm, upd_ne had.symm, b1, d1, t0, t1, t2, t3]⟩
        · simp; omega
        · rw [hp, e3]; simp
        · rw [List.map_append]; exact hb
      · (refine Runs.of_step Orc.nothing 300 ?_; simp -implicitDefEqProofs only [BB,seval,← decide_not,okind,vpre,vpure,intBin,intPre,strBin,strPre,popTo,argSlots,fldV,fldAV,subCells,idxVV,idxAAV,idxSV,sliceV,sliceSV,boundV,szIs,storeOp,storeS,setRowV,eff,extV,buildV,splice,eqSV,fitsL,eqCells,eqCell,minmaxV,capV,binBV,nilCheckV,bytesV,V.cells,V.stays,Orc.nothing])
        refine ⟨_, σJ', hbs.1, Wk.refl hbs.1 _, .inr ⟨_, ?_, hb⟩⟩
        rw [hxs]
        exact ⟨(spL c (s'.drop (k + 1))).map fun t => [V.str t], by simp⟩
theorem splitSeq_c (c : UInt8) (s : List UInt8) (σ : Store) : Contract Tryz.prog 40 [.str s, .str [c]] σ fun r σ' => ∃ a b d, a ≠ b ∧ a ≠ d ∧ b ≠ d ∧ r = .fn 110 [.ptr b 0 0, .ptr a 0 0, .ptr d 0 0] ∧ SubStore σ σ' ∧ ∀ i o, spC c s a b d i = some o → σ' i = some o ∧ σ i = none := by
  have inner : Contract Tryz.prog 76 [.str s, .str [c], vI 0] σ fun r σ' => ∃ a b d, a ≠ b ∧ a ≠ d ∧ b ≠ d ∧ r = .fn 110 [.ptr b 0 0, .ptr a 0 0, .ptr d 0 0] ∧ SubStore σ σ' ∧ ∀ i o, spC c s a b d i = some o → σ' i = some o ∧ σ i = none := by
    refine Contract.of_runs Tryz.func76 e76 k76 (by simp [c76]) ?_
    refine Runs.mix 8 ?_
    (refine Runs.of_step Orc.nothing 300 ?_; simp -implicitDefEqProofs only [BB,seval,← decide_not,okind,vpre,vpure,intBin,intPre,strBin,strPre,popTo,argSlots,fldV,fldAV,subCells,idxVV,idxAAV,idxSV,sliceV,sliceSV,boundV,szIs,storeOp,storeS,setRowV,eff,extV,buildV,splice,eqSV,fitsL,eqCells,eqCell,minmaxV,capV,binBV,nilCheckV,bytesV,V.cells,V.stays,Orc.nothing,c76])
    refine effR_new fun a σ1 s1 a1 f1 => ?_
    simp -implicitDefEqProofs only [BB,seval,← decide_not,okind,vpre,vpure,intBin,intPre,strBin,strPre,popTo,argSlots,fldV,fldAV,subCells,idxVV,idxAAV,idxSV,sliceV,sliceSV,boundV,szIs,storeOp,storeS,setRowV,eff,extV,buildV,splice,eqSV,fitsL,eqCells,eqCell,minmaxV,capV,binBV,nilCheckV,bytesV,V.cells,V.stays]
    refine effR_new fun b σ2 s2 b2 f2 => ?_
    simp -implicitDefEqProofs only [BB,seval,← decide_not,okind,vpre,vpure,intBin,intPre,strBin,strPre,popTo,argSlots,fldV,fldAV,subCells,idxVV,idxAAV,idxSV,sliceV,sliceSV,boundV,szIs,storeOp,storeS,setRowV,eff,extV,buildV,splice,eqSV,fitsL,eqCells,eqCell,minmaxV,capV,binBV,nilCheckV,bytesV,V.cells,V.stays]
    refine effR_new fun d σ3 s3 d3 f3 => ?_
    have a3 := s3 _ _ (s2 _ _ a1)
    have b3 := s3 _ _ b2
    have hab : a ≠ b := ne_new a1 f2
    have had : a ≠ d := ne_new (s2 _ _ a1) f3
    have hbd : b ≠ d := ne_new b2 f3
    simp -implicitDefEqProofs only [BB,seval,← decide_not,okind,vpre,vpure,intBin,intPre,strBin,strPre,popTo,argSlots,fldV,fldAV,subCells,idxVV,idxAAV,idxSV,sliceV,sliceSV,boundV,szIs,storeOp,storeS,setRowV,eff,extV,buildV,splice,eqSV,fitsL,eqCells,eqCell,minmaxV,capV,binBV,nilCheckV,bytesV,V.cells,V.stays]
    refine ⟨_, _, SubStore.refl _, Wk.refl (SubStore.refl _) _, a, b, d, hab, had, hbd, rfl, (s1.trans s2).trans s3, fun i o h => ?_⟩
    unfold spC at h
    split at h
    · rename_i e; subst e; injection h with h; subst h; exact ⟨a3, f1⟩
    · split at h
      · rename_i e; subst e; injection h with h; subst h; exact ⟨b3, s1.none f2⟩
      · split at h
        · rename_i e; subst e; injection h with h; subst h; exact ⟨d3, (s1.trans s2).none f3⟩
        · cases h
  refine Contract.of_runs Tryz.func40 e40 k40 (by simp [c40]) ?_
  refine Runs.mix 6 ?_
  (refine Runs.of_step Orc.nothing 300 ?_; simp -implicitDefEqProofs only [BB,seval,← decide_not,okind,vpre,vpure,intBin,intPre,strBin,strPre,popTo,argSlots,fldV,fldAV,subCells,idxVV,idxAAV,idxSV,sliceV,sliceSV,boundV,szIs,storeOp,storeS,setRowV,eff,extV,buildV,splice,eqSV,fitsL,eqCells,eqCell,minmaxV,capV,binBV,nilCheckV,bytesV,V.cells,V.stays,Orc.nothing,c40])
  refine Runs.call rfl rfl rfl inner ?_
  rintro r σ' h
  obtain ⟨a, b, d, h1, h2, h3, rfl, h4, h5⟩ := h
  (refine Runs.of_step Orc.nothing 300 ?_; simp -implicitDefEqProofs only [BB,seval,← decide_not,okind,vpre,vpure,intBin,intPre,strBin,strPre,popTo,argSlots,fldV,fldAV,subCells,idxVV,idxAAV,idxSV,sliceV,sliceSV,boundV,szIs,storeOp,storeS,setRowV,eff,extV,buildV,splice,eqSV,fitsL,eqCells,eqCell,minmaxV,capV,binBV,nilCheckV,bytesV,V.cells,V.stays,Orc.nothing])
  exact ⟨_, _, SubStore.refl _, Wk.refl (SubStore.refl _) _, a, b, d, h1, h2, h3, rfl, h4, h5⟩
end Go.Vc
namespace Go.Vc
open Go.Proofs
theorem btB : BT 53 := ⟨by kernel_rfl, by kernel_rfl⟩
set_option maxRecDepth 100000 in
theorem bGrow_c {T : TypeId} (bt : BT T) {K σ : Store} {id : Nat} (n : Nat) (h0 : 0 < n) (hn : n ≤ 1000000000) (hs : SubStore K σ) (hK : K id = none) (hid : σ id = some (bRow T .nilp .nils)) :
    Contract Tryz.prog 80 [.ptr id 0 0, vI n] σ fun r σ' => r = .tup [] ∧ IsB T 5 K σ' id [] := by
  refine Contract.of_runs Tryz.func80 e80 k80 (by simp [c80]) ?_
  refine Runs.mix 9 ?_
  (refine Runs.of_step Orc.nothing 300 ?_; simp -implicitDefEqProofs only [BB,seval,← decide_not,okind,vpre,vpure,intBin,intPre,strBin,strPre,popTo,argSlots,fldV,fldAV,subCells,idxVV,idxAAV,idxSV,sliceV,sliceSV,boundV,szIs,storeOp,storeS,setRowV,eff,extV,buildV,splice,eqSV,fitsL,eqCells,eqCell,minmaxV,capV,binBV,nilCheckV,bytesV,V.cells,V.stays,Orc.nothing,c80])
  refine Runs.call rfl rfl rfl (bcheck_c copyCheck bt.cells bt.lies hid (.inl rfl)) ?_
  rintro r σ1 ⟨rfl, rfl⟩
  have hid1 : upd σ id (bRow T (.ptr id 0 0) .nils) id = some ⟨T, 2, [.agg [.ptr id 0 0, .nils]]⟩ := upd_same
  have hs1 : SubStore K (upd σ id (bRow T (.ptr id 0 0) .nils)) := hs.updK hK
  generalize hσ1 : upd σ id (bRow T (.ptr id 0 0) .nils) = σ1 at *
  have q1 : ((n : Int) < 0) = False := eq_false (by omega)
  have q2 : ((0 : Int) < n) = True := eq_true (by omega)
  (refine Runs.of_step Orc.nothing 300 ?_; simp -implicitDefEqProofs only [BB,seval,← decide_not,okind,vpre,vpure,intBin,intPre,strBin,strPre,popTo,argSlots,fldV,fldAV,subCells,idxVV,idxAAV,idxSV,sliceV,sliceSV,boundV,szIs,storeOp,storeS,setRowV,eff,extV,buildV,splice,eqSV,fitsL,eqCells,eqCell,minmaxV,capV,binBV,nilCheckV,bytesV,V.cells,V.stays,Orc.nothing,hid1,q1,q2])
  refine ⟨inR_i64 (by omega) (by omega), ?_⟩
  refine Runs.call rfl rfl rfl (bgrow_c Tryz.lays241 Tryz.Builder_Extra_241 (by kernel_rfl) n hn hid1) ?_
  rintro r σ2 ⟨rfl, idn, hno, rfl⟩
  have hno : σ1 idn = none := hno
  have hne : idn ≠ id := fun e => by rw [e, hid1] at hno; cases hno
  (refine Runs.of_step Orc.nothing 300 ?_; simp -implicitDefEqProofs only [BB,seval,← decide_not,okind,vpre,vpure,intBin,intPre,strBin,strPre,popTo,argSlots,fldV,fldAV,subCells,idxVV,idxAAV,idxSV,sliceV,sliceSV,boundV,szIs,storeOp,storeS,setRowV,eff,extV,buildV,splice,eqSV,fitsL,eqCells,eqCell,minmaxV,capV,binBV,nilCheckV,bytesV,V.cells,V.stays,Orc.nothing])
  refine ⟨_, _, SubStore.refl _, Wk.refl (SubStore.refl _) _, rfl, ?_⟩
  refine IsB.step (rows := []) (idn := idn) (a := .ptr id 0 0) ((hs1.trans (SubStore.upd (SubStore.refl _) hno)).updK hK) hK ?_ (.inr rfl) hne (hs1.none hno) ?_ rfl
  · rw [upd_same]; rfl
  · rw [upd_ne hne, upd_same]; rfl
end Go.Vc
namespace Go.Vc
open Go.Proofs
def sumW (ws : List (List UInt8)) : Nat := (ws.map List.length).sum
def joinW (sep : List UInt8) : List (List UInt8) → List UInt8
  | [] => []
  | w :: r => w ++ r.flatMap fun x => sep ++ x
theorem joinW_len (ws : List (List UInt8)) : (joinW [32] ws).length ≤ ws.length + (ws.map List.length).sum := by
  cases ws with
  | nil => simp [joinW]
  | cons w r =>
    have : ∀ l : List (List UInt8), (l.flatMap fun x => [32] ++ x).length = l.length + (l.map List.length).sum := fun l => by
      induction l with
      | nil => rfl
      | cons a l ih => rw [List.flatMap_cons, List.length_append, ih]; simp; omega
    simp only [joinW,List.length_append,this,List.length_cons,List.map_cons,List.sum_cons]; omega
theorem joinW_take (ws : List (List UInt8)) (i : Nat) (h : i + 1 < ws.length) : joinW [32] (ws.take (i + 1 + 1)) = joinW [32] (ws.take (i + 1)) ++ [32] ++ ws[i + 1] := by
  cases ws with
  | nil => simp at h
  | cons w r =>
    simp only [List.take_succ_cons,joinW,List.getElem_cons_succ]
    simp only [List.length_cons] at h
    rw [List.take_add_one, List.getElem?_eq_getElem (by omega : i < r.length), Option.toList_some, List.flatMap_append]
    simp
theorem sumW_take (ws : List (List UInt8)) (i : Nat) (h : i < ws.length) : sumW (ws.take (i + 1)) = sumW (ws.take i) + ws[i].length := by
  unfold sumW
  rw [List.take_add_one, List.getElem?_eq_getElem h, Option.toList_some, List.map_append, List.sum_append_nat]
  simp
theorem sumW_le (ws : List (List UInt8)) (i : Nat) : sumW (ws.take i) ≤ sumW ws := by
  have : sumW ws = sumW (ws.take i) + sumW (ws.drop i) := by
    unfold sumW
    rw [← List.sum_append_nat, ← List.map_append, List.take_append_drop]
  omega
set_option maxRecDepth 100000 in
theorem join3_c {σ : Store} {idn : Nat} (ws : List (List UInt8)) (h3 : ws.length = 3) (hw : sumW ws ≤ 100000000) (hid : σ idn = some ⟨9, 1, ws.map V.str⟩) :
    Contract Tryz.prog 43 [.own idn 0 3, .str [32]] σ fun r σ' => r = .str (joinW [32] ws) ∧ σ' = σ := by
  refine Contract.of_runs Tryz.func43 e43 k43 (by simp [c43]) ?_
  refine Runs.mix 12 ?_
  have qd : (9223372036854775807 : Int).tdiv 2 = 4611686018427387903 := rfl
  (refine Runs.of_step Orc.nothing 300 ?_; simp -implicitDefEqProofs only [BB,seval,← decide_not,okind,vpre,vpure,intBin,intPre,strBin,strPre,popTo,argSlots,fldV,fldAV,subCells,idxVV,idxAAV,idxSV,sliceV,sliceSV,boundV,szIs,storeOp,storeS,setRowV,eff,extV,buildV,splice,eqSV,fitsL,eqCells,eqCell,minmaxV,capV,binBV,nilCheckV,bytesV,V.cells,V.stays,Orc.nothing,c43,hid,h3,qd,Int.natCast_one,Nat.reduceAdd])
  refine ⟨inR_i64 (by omega) (by omega), inR_i64 (by omega) (by omega), inR_i64 (by omega) (by omega), inR_i64 (by omega) (by omega), inR_i64 (by omega) (by omega), ?_⟩
  refine Runs.loop (fun m st => ∃ i : Nat, i ≤ 3 ∧ m = 3 - i ∧ st.σ = σ ∧ st.s 0 = .own idn 0 3 ∧ st.s 1 = .str [32] ∧ st.s 5 = vI ((2 + sumW (ws.take i) : Nat) : Int) ∧ st.s 39 = .own idn 0 3 ∧ st.s 40 = vI 3 ∧ st.s 41 = vI i) 3 ?_ ?_
  · exact ⟨0, by omega, by omega, rfl, rfl, rfl, rfl, rfl, rfl, rfl⟩
  · rintro m ⟨S, σ'⟩ ⟨i, hi, rfl, hσ, t0, t1, t5, t39, t40, t41⟩
    simp only at hσ t0 t1 t5 t39 t40 t41
    subst hσ
    refine Runs.mix 12 ?_
    by_cases hlt : i < 3
    · have hlt' : ((i : Int) < 3) = True := eq_true (by omega)
      have hil : i < ws.length := by omega
      have hidx : idxAV σ' 1 (.own idn 0 3) (vI i) = some (.ptr idn i 0) := by simp [idxAV, hid, h3, hlt']
      have hld : loadV σ' false 1 (.ptr idn i 0) = some (.str ws[i]) := by simp [loadV, hid, hil, V.cells]
      have hst := sumW_take ws i hil
      have hsl := sumW_le ws (i + 1)
      generalize ws[i] = u at *
      generalize sumW (ws.take i) = n0 at *
      have q : ((u.length : Int) > 9223372036854775807 - ((2 + n0 : Nat) : Int)) = False := eq_false (by omega)
      have r1 : inR .i64 (9223372036854775807 - ((2 + n0 : Nat) : Int)) := inR_i64 (by omega) (by omega)
      have r2 : inR .i64 (((2 + n0 : Nat) : Int) + (u.length : Int)) := inR_i64 (by omega) (by omega)
      have r3 : inR .i64 ((i : Int) + 1) := inR_i64 (by omega) (by omega)
      (refine Runs.of_step Orc.nothing 300 ?_; simp -implicitDefEqProofs only [BB,seval,← decide_not,okind,vpre,vpure,intBin,intPre,strBin,strPre,popTo,argSlots,fldV,fldAV,subCells,idxVV,idxAAV,idxSV,sliceV,sliceSV,boundV,szIs,storeOp,storeS,setRowV,eff,extV,buildV,splice,eqSV,fitsL,eqCells,eqCell,minmaxV,capV,binBV,nilCheckV,bytesV,V.cells,V.stays,Orc.nothing,t0,t1,t5,t39,t40,t41,hlt',hidx,hld,q,r1,r2,r3])
      exact ⟨3 - (i + 1), by omega, i + 1, by omega, rfl, by rw [hst]; show V.int .i64 _ = V.int .i64 _; congr 1; omega, by simp⟩
    · have hi3 : i = 3 := by omega
      subst hi3
      have hlt' : (((3 : Nat) : Int) < 3) = False := by simp
      (refine Runs.of_step Orc.nothing 300 ?_; simp -implicitDefEqProofs only [BB,seval,← decide_not,okind,vpre,vpure,intBin,intPre,strBin,strPre,popTo,argSlots,fldV,fldAV,subCells,idxVV,idxAAV,idxSV,sliceV,sliceSV,boundV,szIs,storeOp,storeS,setRowV,eff,extV,buildV,splice,eqSV,fitsL,eqCells,eqCell,minmaxV,capV,binBV,nilCheckV,bytesV,V.cells,V.stays,Orc.nothing,t0,t1,t5,t39,t40,t41,hlt'])
      refine effR_new fun id8 σ1 s1 a1 f1 => ?_
      simp -implicitDefEqProofs only [BB,seval,← decide_not,okind,vpre,vpure,intBin,intPre,strBin,strPre,popTo,argSlots,fldV,fldAV,subCells,idxVV,idxAAV,idxSV,sliceV,sliceSV,boundV,szIs,storeOp,storeS,setRowV,eff,extV,buildV,splice,eqSV,fitsL,eqCells,eqCell,minmaxV,capV,binBV,nilCheckV,bytesV,V.cells,V.stays,t0,t1,t5,t39,t40,t41]
      refine Runs.call rfl rfl rfl (bGrow_c btB (2 + sumW (ws.take 3)) (by omega) (by have := sumW_le ws 3; omega) s1 f1 a1) ?_
      rintro r σ2 ⟨rfl, hB⟩
      have hid2 := hB.sub _ _ hid
      have hl0 : 0 < ws.length := by omega
      have hidx : idxAV σ2 1 (.own idn 0 3) (.int .i64 0) = some (.ptr idn 0 0) := by simp [idxAV, hid2, h3]
      have hld : loadV σ2 false 1 (.ptr idn 0 0) = some (.str ws[0]) := by simp [loadV, hid2, hl0, V.cells]
      (refine Runs.of_step Orc.nothing 300 ?_; simp -implicitDefEqProofs only [BB,seval,← decide_not,okind,vpre,vpure,intBin,intPre,strBin,strPre,popTo,argSlots,fldV,fldAV,subCells,idxVV,idxAAV,idxSV,sliceV,sliceSV,boundV,szIs,storeOp,storeS,setRowV,eff,extV,buildV,splice,eqSV,fitsL,eqCells,eqCell,minmaxV,capV,binBV,nilCheckV,bytesV,V.cells,V.stays,Orc.nothing,t0,t1,t5,t39,t40,t41,hidx,hld])
      have hu : ws[0].length ≤ 100000000 := by
        have e1 := sumW_take ws 0 hl0
        have e2 := sumW_le ws (0 + 1)
        omega
      refine Runs.call rfl rfl rfl (wstr_c btB ws[0] hB (by simp only [List.length_nil]; omega)) ?_
      rintro r σ3 ⟨rfl, hB3⟩
      have hid3 := hB3.sub _ _ hid
      have hsl : sliceV σ3 1 (.own idn 0 3) (some (.int .i64 1)) none none = some (.own idn 1 2) := by simp [sliceV, boundV, szIs, hid3, h3]
      (refine Runs.of_step Orc.nothing 300 ?_; simp -implicitDefEqProofs only [BB,seval,← decide_not,okind,vpre,vpure,intBin,intPre,strBin,strPre,popTo,argSlots,fldV,fldAV,subCells,idxVV,idxAAV,idxSV,sliceSV,boundV,szIs,storeOp,storeS,setRowV,eff,extV,buildV,splice,eqSV,fitsL,eqCells,eqCell,minmaxV,capV,binBV,nilCheckV,bytesV,V.cells,V.stays,Orc.nothing,t0,t1,t5,t39,t40,t41,hsl])
      have hjl := joinW_len ws
      have hj0 : [] ++ ws[0] = joinW [32] (ws.take (0 + 1)) := by
        cases ws with
        | nil => simp at hl0
        | cons w r => simp [joinW]
      rw [hj0] at hB3
      refine Runs.loop (fun m st => ∃ i : Nat, i ≤ 2 ∧ m = 2 - i ∧ IsB 53 5 σ' st.σ id8 (joinW [32] (ws.take (i + 1))) ∧ st.s 1 = .str [32] ∧ st.s 8 = .ptr id8 0 0 ∧ st.s 63 = .own idn 1 2 ∧ st.s 64 = vI 2 ∧ st.s 65 = vI i) 2 ?_ ?_
      · exact ⟨0, by omega, by omega, hB3, t1, rfl, rfl, rfl, rfl⟩
      · rintro m ⟨S2, σ4⟩ ⟨i, hi, rfl, hB4, u1, u8, u63, u64, u65⟩
        simp only at hB4 u1 u8 u63 u64 u65
        refine Runs.mix 12 ?_
        have hid4 := hB4.sub _ _ hid
        by_cases hlt : i < 2
        · have hlt' : ((i : Int) < 2) = True := eq_true (by omega)
          have hil : i + 1 < ws.length := by omega
          have hidx : idxAV σ4 1 (.own idn 1 2) (vI i) = some (.ptr idn (1 + i) 0) := by simp [idxAV, hid4, h3, hlt']
          have hld : loadV σ4 false 1 (.ptr idn (1 + i) 0) = some (.str ws[i + 1]) := by simp [loadV, hid4, Nat.add_comm 1 i, hil, V.cells]
          have hjt := joinW_take ws i hil
          have hst := sumW_take ws (i + 1) hil
          have hsl2 := sumW_le ws (i + 1 + 1)
          have hjl2 := joinW_len (ws.take (i + 1))
          have hsl3 : ((ws.take (i + 1)).map List.length).sum ≤ sumW ws := sumW_le ws (i + 1)
          have hlt3 : (ws.take (i + 1)).length ≤ 3 := by rw [List.length_take]; omega
          have r3 : inR .i64 ((i : Int) + 1) := inR_i64 (by omega) (by omega)
          (refine Runs.of_step Orc.nothing 300 ?_; simp -implicitDefEqProofs only [BB,seval,← decide_not,okind,vpre,vpure,intBin,intPre,strBin,strPre,popTo,argSlots,fldV,fldAV,subCells,idxVV,idxAAV,idxSV,sliceV,sliceSV,boundV,szIs,storeOp,storeS,setRowV,eff,extV,buildV,splice,eqSV,fitsL,eqCells,eqCell,minmaxV,capV,binBV,nilCheckV,bytesV,V.cells,V.stays,Orc.nothing,u1,u8,u63,u64,u65,hlt',hidx,hld])
          have w1 := wstr_c btB [32] hB4 (by simp only [List.length_cons,List.length_nil]; omega)
          rw [← u8] at w1
          refine Runs.call rfl rfl rfl w1 ?_
          rintro r σ5 ⟨rfl, hB5⟩
          (refine Runs.of_step Orc.nothing 300 ?_; simp -implicitDefEqProofs only [BB,seval,← decide_not,okind,vpre,vpure,intBin,intPre,strBin,strPre,popTo,argSlots,fldV,fldAV,subCells,idxVV,idxAAV,idxSV,sliceV,sliceSV,boundV,szIs,storeOp,storeS,setRowV,eff,extV,buildV,splice,eqSV,fitsL,eqCells,eqCell,minmaxV,capV,binBV,nilCheckV,bytesV,V.cells,V.stays,Orc.nothing,u1,u8,u63,u64,u65])
          have w2 := wstr_c btB ws[i + 1] hB5 (by simp only [List.length_append,List.length_cons,List.length_nil]; omega)
          rw [← u8] at w2
          refine Runs.call rfl rfl rfl w2 ?_
          rintro r σ6 ⟨rfl, hB6⟩
          (refine Runs.of_step Orc.nothing 300 ?_; simp -implicitDefEqProofs only [BB,seval,← decide_not,okind,vpre,vpure,intBin,intPre,strBin,strPre,popTo,argSlots,fldV,fldAV,subCells,idxVV,idxAAV,idxSV,sliceV,sliceSV,boundV,szIs,storeOp,storeS,setRowV,eff,extV,buildV,splice,eqSV,fitsL,eqCells,eqCell,minmaxV,capV,binBV,nilCheckV,bytesV,V.cells,V.stays,Orc.nothing,u1,u8,u63,u64,u65,r3])
          refine ⟨_, ?_, i + 1, by omega, rfl, by rw [hjt]; exact hB6, by simp [u1, u8, u63, u64]⟩
          omega
        · have hi2 : i = 2 := by omega
          subst hi2
          have hlt' : (((2 : Nat) : Int) < 2) = False := by simp
          rw [List.take_of_length_le (by omega)] at hB4
          (refine Runs.of_step Orc.nothing 300 ?_; simp -implicitDefEqProofs only [BB,seval,← decide_not,okind,vpre,vpure,intBin,intPre,strBin,strPre,popTo,argSlots,fldV,fldAV,subCells,idxVV,idxAAV,idxSV,sliceV,sliceSV,boundV,szIs,storeOp,storeS,setRowV,eff,extV,buildV,splice,eqSV,fitsL,eqCells,eqCell,minmaxV,capV,binBV,nilCheckV,bytesV,V.cells,V.stays,Orc.nothing,u1,u8,u63,u64,u65,hlt'])
          have w3 := bstr_c hB4 (fun h => by
            exfalso
            cases ws with
            | nil => simp at hl0
            | cons w r =>
              cases r with
              | nil => simp at h3
              | cons x r => simp [joinW] at h)
          rw [← u8] at w3
          refine Runs.call rfl rfl rfl w3 ?_
          rintro r σ7 ⟨rfl, rfl⟩
          (refine Runs.of_step Orc.nothing 300 ?_; simp -implicitDefEqProofs only [BB,seval,← decide_not,okind,vpre,vpure,intBin,intPre,strBin,strPre,popTo,argSlots,fldV,fldAV,subCells,idxVV,idxAAV,idxSV,sliceV,sliceSV,boundV,szIs,storeOp,storeS,setRowV,eff,extV,buildV,splice,eqSV,fitsL,eqCells,eqCell,minmaxV,capV,binBV,nilCheckV,bytesV,V.cells,V.stays,Orc.nothing])
          exact ⟨_, _, SubStore.refl _, Wk.refl (SubStore.refl _) _, rfl, rfl⟩
end Go.Vc
namespace Go.Vc
open Go.Proofs
def inD (n : Int) : Prop := 0 ≤ n ∧ n ≤ 999999
instance (n : Int) : Decidable (inD n) := by unfold inD; infer_instance
def toldV (ns : List Int) : V := if ∀ n ∈ ns, inD n then .tup [.str (joinW [32] (ns.map Lib.itoa) ++ [10]), .bool true] else .tup [.str [], .bool false]
theorem itoa_inD {n : Int} (h : inD n) : Lib.itoa n = Lib.decDigits n.toNat ∧ (Lib.itoa n).length ≤ 6 := by
  unfold inD at h
  have e : Lib.itoa n = Lib.decDigits n.toNat := by unfold Lib.itoa; rw [if_neg (by omega)]
  exact ⟨e, by rw [e]; exact i_dlen 5 _ (by rw [show (10 : Nat) ^ (5 + 1) = 1000000 from rfl]; omega)⟩
theorem sumD : ∀ (l : List Int), (∀ n ∈ l, inD n) → sumW (l.map Lib.itoa) ≤ 6 * l.length
  | [], _ => by simp [sumW]
  | n :: l, h => by
    have h1 := sumD l (fun m hm => h m (by simp [hm]))
    have h2 := (itoa_inD (h n (by simp))).2
    simp only [sumW,List.map_cons,List.sum_cons,List.length_cons] at h1 ⊢
    omega
set_option maxRecDepth 100000 in
theorem told_c {σ : Store} {idl : Nat} (ns : List Int) (h3 : ns.length = 3) (hid : σ idl = some ⟨3, 1, ns.map vI⟩) :
    Contract Tryz.prog 20 [.own idl 0 3] σ fun r σ' => r = toldV ns ∧ σ' = σ := by
  refine Contract.of_runs Tryz.func20 e20 k20 (by simp [c20]) ?_
  refine Runs.mix 10 ?_
  (refine Runs.of_step Orc.nothing 300 ?_; simp -implicitDefEqProofs only [BB,seval,← decide_not,okind,vpre,vpure,intBin,intPre,strBin,strPre,popTo,argSlots,fldV,fldAV,subCells,idxVV,idxAAV,idxSV,sliceV,sliceSV,boundV,szIs,storeOp,storeS,setRowV,eff,extV,buildV,splice,eqSV,fitsL,eqCells,eqCell,minmaxV,capV,binBV,nilCheckV,bytesV,V.cells,V.stays,Orc.nothing,c20,hid,h3])
  refine Runs.loop (fun m st => ∃ i : Nat, i ≤ 3 ∧ m = 3 - i ∧ (∀ n ∈ ns.take i, inD n) ∧ SubStore σ st.σ ∧ OutV σ st.σ 9 1 (st.s 4) ((ns.take i).map fun n => .str (Lib.itoa n)) ∧ st.s 7 = .own idl 0 3 ∧ st.s 8 = vI 3 ∧ st.s 9 = vI i) 3 ?_ ?_
  · exact ⟨0, by omega, by omega, by simp, SubStore.refl _, OutV.start, rfl, rfl, rfl⟩
  · rintro m ⟨S, σ1⟩ ⟨i, hi, rfl, hok, hsub, hout, t7, t8, t9⟩
    simp only at hsub hout t7 t8 t9
    refine Runs.mix 10 ?_
    have hid1 := hsub _ _ hid
    by_cases hlt : i < 3
    · have hlt' : ((i : Int) < 3) = True := eq_true (by omega)
      have hil : i < ns.length := by omega
      have hidx : idxAV σ1 1 (.own idl 0 3) (vI i) = some (.ptr idl i 0) := by simp [idxAV, hid1, h3, hlt']
      have hld : loadV σ1 false 1 (.ptr idl i 0) = some (vI ns[i]) := by simp [loadV, hid1, hil, V.cells]
      have hmem : ns[i] ∈ ns := List.getElem_mem hil
      have htk : ns.take (i + 1) = ns.take i ++ [ns[i]] := by rw [List.take_add_one, List.getElem?_eq_getElem hil]; rfl
      generalize hv : ns[i] = v at *
      by_cases hin : inD v
      · have q1 : (v < 0) = False := eq_false (by unfold inD at hin; omega)
        have q2 : (v > 999999) = False := eq_false (by unfold inD at hin; omega)
        (refine Runs.of_step Orc.nothing 300 ?_; simp -implicitDefEqProofs only [BB,seval,← decide_not,okind,vpre,vpure,intBin,intPre,strBin,strPre,popTo,argSlots,fldV,fldAV,subCells,idxVV,idxAAV,idxSV,sliceV,sliceSV,boundV,szIs,storeOp,storeS,setRowV,eff,extV,buildV,splice,eqSV,fitsL,eqCells,eqCell,minmaxV,capV,binBV,nilCheckV,bytesV,V.cells,V.stays,Orc.nothing,t7,t8,t9,hlt',hidx,hld,q1,q2])
        refine Runs.pcall rfl rfl rfl (itoaN_c v (by unfold inD at hin; omega) (by unfold inD at hin; omega) _) ?_
        have hlen : ((ns.take i).map fun n => V.str (Lib.itoa n)).length = i := by simp; omega
        (refine Runs.of_step Orc.nothing 300 ?_; simp -implicitDefEqProofs only [BB,seval,← decide_not,okind,vpre,vpure,intBin,intPre,strBin,strPre,popTo,argSlots,fldV,fldAV,subCells,idxVV,idxAAV,idxSV,sliceV,sliceSV,boundV,szIs,storeOp,storeS,setRowV,eff,extV,buildV,splice,eqSV,fitsL,eqCells,eqCell,minmaxV,capV,binBV,nilCheckV,bytesV,V.cells,V.stays,Orc.nothing,t7,t8,t9])
        refine effR_new fun id2 σ2 s2 a2 f2 => ?_
        obtain ⟨idA, hda, hdel⟩ := hout.dst s2
        have hb2 : (i + 1) * 17 ≤ 140737488355328 := by omega
        simp -implicitDefEqProofs only [BB,seval,← decide_not,okind,vpre,vpure,intBin,intPre,strBin,strPre,popTo,argSlots,fldV,fldAV,subCells,idxVV,idxAAV,idxSV,sliceV,sliceSV,boundV,szIs,storeOp,storeS,setRowV,eff,extV,buildV,splice,eqSV,fitsL,eqCells,eqCell,minmaxV,capV,binBV,nilCheckV,bytesV,V.cells,V.stays,t7,t8,t9,hda,srcOne a2,hlen,hb2]
        refine effR_put fun id3 σ3 s3 a3 f3 => ?_
        have k3 : SubStore σ σ3 := (hdel σ (SubStore.refl _) σ2 (hsub.trans s2)).trans s3
        have n3 : σ id3 = none := (hsub.trans s2).none f3
        have r3 : inR .i64 ((i : Int) + 1) := inR_i64 (by omega) (by omega)
        simp -implicitDefEqProofs only [BB,seval,← decide_not,okind,vpre,vpure,intBin,intPre,strBin,strPre,popTo,argSlots,fldV,fldAV,subCells,idxVV,idxAAV,idxSV,sliceV,sliceSV,boundV,szIs,storeOp,storeS,setRowV,eff,extV,buildV,splice,eqSV,fitsL,eqCells,eqCell,minmaxV,capV,binBV,nilCheckV,bytesV,V.cells,V.stays,t7,t8,t9,r3]
        refine ⟨3 - (i + 1), by omega, i + 1, by omega, rfl, ?_, k3, ?_, by simp⟩
        · intro n hn
          rw [htk] at hn
          rcases List.mem_append.1 hn with hn | hn
          · exact hok n hn
          · simp only [List.mem_cons,List.not_mem_nil,or_false] at hn; subst hn; exact hin
        · rw [htk, List.map_append]
          exact OutV.new (by simp; omega) a3 n3
      · have hbad : toldV ns = .tup [.str [], .bool false] := by unfold toldV; rw [if_neg (fun h => hin (h v hmem))]
        by_cases h0 : v < 0
        · have q1 : (v < 0) = True := eq_true h0
          (refine Runs.of_step Orc.nothing 300 ?_; simp -implicitDefEqProofs only [BB,seval,← decide_not,okind,vpre,vpure,intBin,intPre,strBin,strPre,popTo,argSlots,fldV,fldAV,subCells,idxVV,idxAAV,idxSV,sliceV,sliceSV,boundV,szIs,storeOp,storeS,setRowV,eff,extV,buildV,splice,eqSV,fitsL,eqCells,eqCell,minmaxV,capV,binBV,nilCheckV,bytesV,V.cells,V.stays,Orc.nothing,t7,t8,t9,hlt',hidx,hld,q1])
          exact ⟨_, σ, hsub, Wk.refl hsub _, hbad.symm, rfl⟩
        · have q1 : (v < 0) = False := eq_false h0
          have q2 : (v > 999999) = True := eq_true (by unfold inD at hin; omega)
          (refine Runs.of_step Orc.nothing 300 ?_; simp -implicitDefEqProofs only [BB,seval,← decide_not,okind,vpre,vpure,intBin,intPre,strBin,strPre,popTo,argSlots,fldV,fldAV,subCells,idxVV,idxAAV,idxSV,sliceV,sliceSV,boundV,szIs,storeOp,storeS,setRowV,eff,extV,buildV,splice,eqSV,fitsL,eqCells,eqCell,minmaxV,capV,binBV,nilCheckV,bytesV,V.cells,V.stays,Orc.nothing,t7,t8,t9,hlt',hidx,hld,q1,q2])
          exact ⟨_, σ, hsub, Wk.refl hsub _, hbad.symm, rfl⟩
    · have hi3 : i = 3 := by omega
      subst hi3
      have hlt' : (((3 : Nat) : Int) < 3) = False := by simp
      rw [List.take_of_length_le (by omega)] at hok hout
      rcases hout with ⟨_, h0⟩ | ⟨idw, e4, hw, _⟩
      · exfalso
        have := congrArg List.length h0
        simp at this; rw [this] at h3; simp at h3
      · have e4' : S 4 = .own idw 0 3 := by rw [e4]; simp [h3]
        have hwr : σ1 idw = some ⟨9, 1, (ns.map Lib.itoa).map V.str⟩ := by rw [hw]; simp
        have hsum := sumD ns hok
        have hjl := joinW_len (ns.map Lib.itoa)
        have hsum' : ((ns.map Lib.itoa).map List.length).sum ≤ 6 * ns.length := hsum
        rw [List.length_map] at hjl
        (refine Runs.of_step Orc.nothing 300 ?_; simp -implicitDefEqProofs only [BB,seval,← decide_not,okind,vpre,vpure,intBin,intPre,strBin,strPre,popTo,argSlots,fldV,fldAV,subCells,idxVV,idxAAV,idxSV,sliceV,sliceSV,boundV,szIs,storeOp,storeS,setRowV,eff,extV,buildV,splice,eqSV,fitsL,eqCells,eqCell,minmaxV,capV,binBV,nilCheckV,bytesV,V.cells,V.stays,Orc.nothing,t7,t8,t9,hlt',e4'])
        refine Runs.call rfl rfl rfl (join3_c (ns.map Lib.itoa) (by simp [h3]) (by omega) hwr) ?_
        rintro r σ2 ⟨rfl, rfl⟩
        have hgood : toldV ns = .tup [.str (joinW [32] (ns.map Lib.itoa) ++ [10]), .bool true] := by unfold toldV; rw [if_pos hok]
        (refine Runs.of_step Orc.nothing 300 ?_; simp -implicitDefEqProofs only [BB,seval,← decide_not,okind,vpre,vpure,intBin,intPre,strBin,strPre,popTo,argSlots,fldV,fldAV,subCells,idxVV,idxAAV,idxSV,sliceV,sliceSV,boundV,szIs,storeOp,storeS,setRowV,eff,extV,buildV,splice,eqSV,fitsL,eqCells,eqCell,minmaxV,capV,binBV,nilCheckV,bytesV,V.cells,V.stays,Orc.nothing])
        exact ⟨by omega, _, σ, hsub, Wk.refl hsub _, hgood.symm, rfl⟩
end Go.Vc
namespace Go.Vc
open Go.Proofs
section
variable {P : Program} {n : Nat} {st : St} {Q : St → Prop} {k : List It}
end
def encR3 (x : R3) : V := .agg [vI x.d, vI x.n, vI x.p]
end Go.Vc
namespace Go.Vc
open Go.Proofs
theorem Beside.delI {σJ σ σJ' σ' : Store} (h : Beside σJ σ σJ' σ') {e : Option Nat} (he : ∀ i, e = some i → ∃ o, σJ' i = some o) : Beside σJ σ (Vc.delO σJ' e) (Vc.delO σ' e) := by
  cases e with
  | none => exact h
  | some e =>
    refine ⟨del_sub h.1, fun i o h1 h2 => ?_⟩
    obtain ⟨h3, h4⟩ := h.2 i o h1 h2
    have : i ≠ e := fun e' => by subst e'; obtain ⟨o', ho'⟩ := he i rfl; rw [h4] at ho'; cases ho'
    simp only [Vc.delO,del_ne this]
    exact ⟨h3, h4⟩
theorem OutV.dstI {K σJ σ1 : Store} {e sz : Nat} {v : V} {rows : List V} (h : OutV K σJ e sz v rows) (hs : SubStore σJ σ1) :
    ∃ idA, dstRows σ1 e sz v = some (rows, idA) ∧ ∀ i, idA = some i → K i = none ∧ ∃ o, σJ i = some o := by
  rcases h with ⟨rfl, rfl⟩ | ⟨id, rfl, ho, hk⟩
  · exact ⟨none, rfl, fun _ h => by cases h⟩
  · refine ⟨some id, ?_, fun i h => by cases h; exact ⟨hk, _, ho⟩⟩
    simp only [dstRows,hs _ _ ho]
    rw [if_pos ⟨trivial, trivial, trivial, Nat.le_refl _⟩, List.take_length]
structure JRw (σ K : Store) (id2 id4 : Nat) (v : V) (rows : List V) (σJ : Store) : Prop where
  r2 : σJ id2 = some ⟨38, 3, [.agg [vI 0, vI 0, vI 0]]⟩
  r4 : σJ id4 = some ⟨42, 1, [v]⟩
  sub : SubStore σ σJ
  out : OutV K σJ 3 1 v rows
theorem joinW3 (a b c : List UInt8) : joinW [32] [a, b, c] = a ++ 32 :: (b ++ 32 :: c) := by simp [joinW]
set_option maxRecDepth 100000 in
theorem row_c (s : List UInt8) (hs : s.length ≤ 1000000) : ∃ a b c : Int, PFun Tryz.prog 18 [.str s] (.tup [.agg [vI a, vI b, vI c], .bool (rowC s).isSome]) ∧ ∀ x, rowC s = some x → x = ⟨a, b, c⟩ := by
  obtain ⟨a, b, c, hab⟩ : ∃ a b c : Int, (∀ x y z, (spL 32 s).map atI = [x, y, z] → x = a ∧ y = b ∧ z = c) ∧ (((spL 32 s).map atI).length ≠ 3 → a = 0 ∧ b = 0 ∧ c = 0) := by
    match h : (spL 32 s).map atI with
    | [x, y, z] => exact ⟨x, y, z, fun _ _ _ h => by simp at h; simp [h], fun h => absurd rfl h⟩
    | [] | [_] | [_, _] | _ :: _ :: _ :: _ :: _ => exact ⟨0, 0, 0, fun _ _ _ h => by simp at h, fun _ => ⟨rfl, rfl, rfl⟩⟩
  refine ⟨a, b, c, fun σ => ?_, ?_⟩
  rotate_left
  · intro x hx
    unfold rowC at hx
    split at hx
    · rename_i x1 y1 z1 h
      obtain ⟨rfl, rfl, rfl⟩ := hab.1 _ _ _ h
      split at hx
      · injection hx with hx; exact hx.symm
      · cases hx
    · cases hx
  refine Contract.of_runs Tryz.func18 e18 k18 (by simp [c18]) ?_
  refine Runs.mix 12 ?_
  (refine Runs.of_step Orc.nothing 300 ?_; simp -implicitDefEqProofs only [BB,seval,← decide_not,okind,vpre,vpure,intBin,intPre,strBin,strPre,popTo,argSlots,fldV,fldAV,subCells,idxVV,idxAAV,idxSV,sliceV,sliceSV,boundV,szIs,storeOp,storeS,setRowV,eff,extV,buildV,splice,eqSV,fitsL,eqCells,eqCell,minmaxV,capV,binBV,nilCheckV,bytesV,V.cells,V.stays,Orc.nothing,c18])
  refine effR_new fun id2 σ1 s1 a2 f2 => ?_
  simp -implicitDefEqProofs only [BB,seval,← decide_not,okind,vpre,vpure,intBin,intPre,strBin,strPre,popTo,argSlots,fldV,fldAV,subCells,idxVV,idxAAV,idxSV,sliceV,sliceSV,boundV,szIs,storeOp,storeS,setRowV,eff,extV,buildV,splice,eqSV,fitsL,eqCells,eqCell,minmaxV,capV,binBV,nilCheckV,bytesV,V.cells,V.stays]
  refine effR_new fun id4 σ2 s2 a4 f4 => ?_
  have n24 : id2 ≠ id4 := ne_new a2 f4
  have g2 := s2 _ _ a2
  have hsσ : SubStore σ σ2 := s1.trans s2
  have z4 : σ id4 = none := s1.none f4
  simp -implicitDefEqProofs only [BB,seval,← decide_not,okind,vpre,vpure,intBin,intPre,strBin,strPre,popTo,argSlots,fldV,fldAV,subCells,idxVV,idxAAV,idxSV,sliceV,sliceSV,boundV,szIs,storeOp,storeS,setRowV,eff,extV,buildV,splice,eqSV,fitsL,eqCells,eqCell,minmaxV,capV,binBV,nilCheckV,bytesV,V.cells,V.stays]
  refine Runs.call rfl rfl rfl (splitSeq_c 32 s σ2) ?_
  rintro r σ3 ⟨ia, ib, ic, hab', hac, hbc, rfl, s3, hC⟩
  have hit := split_iter 32 s hs ia ib ic hab' hac hbc
  have hLl := sp_len 32 s
  have hLm := sp_mem 32 s
  generalize hL : spL 32 s = L at *
  generalize hK : (fun i => if i = id2 ∨ i = id4 then some (⟨0, 0, []⟩ : Ob) else σ i : Store) = K
  have hK0 : ∀ i, K i = none ↔ (i ≠ id2 ∧ i ≠ id4 ∧ σ i = none) := fun i => by
    rw [← hK]
    simp only
    split
    · rename_i h; simp; intro h1 h2; simp_all
    · rename_i h; simp only [not_or] at h; simp [h]
  have hJ0 : JRw σ K id2 id4 .nils [] σ2 := ⟨g2, a4, hsσ, OutV.start⟩
  clear hK
  (refine Runs.of_step Orc.nothing 300 ?_; simp -implicitDefEqProofs only [BB,seval,← decide_not,okind,vpre,vpure,intBin,intPre,strBin,strPre,popTo,argSlots,fldV,fldAV,subCells,idxVV,idxAAV,idxSV,sliceV,sliceSV,boundV,szIs,storeOp,storeS,setRowV,eff,extV,buildV,splice,eqSV,fitsL,eqCells,eqCell,minmaxV,capV,binBV,nilCheckV,bytesV,V.cells,V.stays,Orc.nothing])
  generalize hS : mix 12 _ _ = S
  have S0' : S 0 = .str s := by rw [← hS]; rfl
  have S2 : S 2 = .ptr id2 0 0 := by rw [← hS]; rfl
  have S4 : S 4 = .ptr id4 0 0 := by rw [← hS]; rfl
  have S11 : S 11 = .fn 110 [.ptr ib 0 0, .ptr ia 0 0, .ptr ic 0 0] := by rw [← hS]; rfl
  clear hS
  refine Runs.rangeFC (g := .t 11) (caps := [.ptr ib 0 0, .ptr ia 0 0, .ptr ic 0 0]) S11 hit s3 hC (fun x hx => ?_) [] (fun pre σJ => ∃ v, JRw σ K id2 id4 v ((L.take pre.length).map fun w => vI (atI w)) σJ)
      (fun _ _ _ => False) ?_ ?_ ?_ ?_ ?_
  · obtain ⟨t, _, rfl⟩ := List.mem_map.1 hx; rfl
  · exact ⟨.nils, by simpa using hJ0⟩
  · rintro pre x post σJ σB hxs ⟨v, J⟩ hsub
    obtain ⟨t, hti, rfl⟩ : ∃ t, L[pre.length]? = some t ∧ x = [.str t] := by
      have := congrArg (·[pre.length]?) hxs
      simp only [List.getElem?_map,List.getElem?_append_right (Nat.le_refl _),Nat.sub_self,List.getElem?_cons_zero,Option.map_eq_some_iff] at this
      obtain ⟨t, h1, h2⟩ := this
      exact ⟨t, h1, h2.symm⟩
    have htk : L.take (pre.length + 1) = L.take pre.length ++ [t] := by rw [List.take_add_one, hti]; rfl
    have hlen : (pre ++ [[V.str t]]).length = pre.length + 1 := by simp
    rw [hlen, htk]
    have htm := hLm t (List.mem_of_getElem? hti)
    have hkl : ((L.take pre.length).map fun w => vI (atI w)).length ≤ 1000001 := by simp; omega
    have hvc : v.cells = [v] := by rcases J.out with ⟨rfl, _⟩ | ⟨_, rfl, _⟩ <;> rfl
    generalize hrows : ((L.take pre.length).map fun w => vI (atI w)) = rows at *
    have b2 := hsub _ _ J.r2
    have b4 := hsub _ _ J.r4
    generalize hSS : putL S [12] [.str t] = S0
    have T2 : S0 2 = .ptr id2 0 0 := by rw [← hSS]; exact S2
    have T4 : S0 4 = .ptr id4 0 0 := by rw [← hSS]; exact S4
    have T12 : S0 12 = .str t := by rw [← hSS]; rfl
    refine Runs.mix 12 ?_
    obtain ⟨e, hat⟩ := atoiX_c t (by omega)
    (refine Runs.of_step Orc.nothing 300 ?_; simp -implicitDefEqProofs only [BB,seval,← decide_not,okind,vpre,vpure,intBin,intPre,strBin,strPre,popTo,argSlots,fldV,fldAV,subCells,idxVV,idxAAV,idxSV,sliceV,sliceSV,boundV,szIs,storeOp,storeS,setRowV,eff,extV,buildV,splice,eqSV,fitsL,eqCells,eqCell,minmaxV,capV,binBV,nilCheckV,bytesV,V.cells,V.stays,Orc.nothing,T2,T4,T12])
    (refine Runs.of_step Orc.nothing 300 ?_; simp -implicitDefEqProofs only [BB,seval,← decide_not,okind,vpre,vpure,intBin,intPre,strBin,strPre,popTo,argSlots,fldV,fldAV,subCells,idxVV,idxAAV,idxSV,sliceV,sliceSV,boundV,szIs,storeOp,storeS,setRowV,eff,extV,buildV,splice,eqSV,fitsL,eqCells,eqCell,minmaxV,capV,binBV,nilCheckV,bytesV,V.cells,V.stays,Orc.nothing,T2,T4,T12])
    refine Runs.pcall rfl rfl rfl (hat _) ?_
    (refine Runs.of_step Orc.nothing 300 ?_; simp -implicitDefEqProofs only [BB,seval,← decide_not,okind,vpre,vpure,intBin,intPre,strBin,strPre,popTo,argSlots,fldV,fldAV,subCells,idxVV,idxAAV,idxSV,sliceV,sliceSV,boundV,szIs,storeOp,storeS,setRowV,eff,extV,buildV,splice,eqSV,fitsL,eqCells,eqCell,minmaxV,capV,binBV,nilCheckV,bytesV,Orc.nothing,T2,T4,b4,V.cells_agg,V.cells_int,V.cells_nils,V.cells_own,V.cells_sl,V.cells_str,V.cells_bool,V.cells_fn,V.cells_ptr,V.cells_rp,V.stays_agg,V.stays_int,V.stays_nils,V.stays_own,V.stays_sl,V.stays_str,V.stays_bool,V.stays_fn,V.stays_ptr,V.stays_rp,hvc])
    rw [effR_some]
    intro id28 f28
    have hBs := (Beside.refl hsub).new' (o := ⟨3, 1, [vI (atI t)]⟩) f28
    have y2 : upd σB id28 ⟨3, 1, [vI (atI t)]⟩ id4 = some ⟨42, 1, [v]⟩ := by
      rw [upd_ne (ne_new b4 f28)]; exact b4
    have a28 : upd σB id28 ⟨3, 1, [vI (atI t)]⟩ id28 = some ⟨3, 1, [vI (atI t)]⟩ := upd_same
    generalize upd σB id28 ⟨3, 1, [vI (atI t)]⟩ = σ8 at *
    obtain ⟨idA, hda, hdA⟩ := J.out.dstI hBs.1
    have hb2 : (rows.length + 1) * 9 ≤ 140737488355328 := by omega
    have k2 : K id2 ≠ none := fun h => ((hK0 id2).1 h).1 rfl
    have k4 : K id4 ≠ none := fun h => ((hK0 id4).1 h).2.1 rfl
    have dne : ∀ (i : Nat) (σx : Store), K i ≠ none → Vc.delO σx idA i = σx i := fun i σx hk => by
      cases idA with
      | none => rfl
      | some a => exact del_ne (fun e => hk (by rw [e]; exact (hdA a rfl).1))
    simp -implicitDefEqProofs only [BB,seval,← decide_not,okind,vpre,vpure,intBin,intPre,strBin,strPre,popTo,argSlots,fldV,fldAV,subCells,idxVV,idxAAV,idxSV,sliceV,sliceSV,boundV,szIs,storeOp,storeS,setRowV,eff,extV,buildV,splice,eqSV,fitsL,eqCells,eqCell,minmaxV,capV,binBV,nilCheckV,bytesV,V.cells,V.stays,hda,srcOne a28,hb2,T2,T4]
    rw [effR_some]
    intro id29 f29
    have f29 : σ8 id29 = none := f29
    have m29 : id4 ≠ id29 := ne_new y2 f29
    have f29' : Vc.delO σ8 idA id29 = none := by
      cases idA with
      | none => exact f29
      | some a => simp only [Vc.delO,del]; split <;> first | rfl | exact f29
    have y2' : upd (Vc.delO σ8 idA) id29 ⟨3, 1, rows ++ [vI (atI t)]⟩ id4 = some ⟨42, 1, [v]⟩ := by rw [upd_ne m29, dne _ _ k4]; exact y2
    have hB9 := ((hBs.delI (e := idA) fun i h => (hdA i h).2).new (o := ⟨3, 1, rows ++ [vI (atI t)]⟩) f29').set (id := id4) (o := ⟨42, 1, [v]⟩) (o' := ⟨42, 1, [.own id29 0 (rows.length + 1)]⟩) (by rw [upd_ne m29, dne _ _ k4]; exact J.r4)
    simp -implicitDefEqProofs only [BB,seval,← decide_not,okind,vpre,vpure,intBin,intPre,strBin,strPre,popTo,argSlots,fldV,fldAV,subCells,idxVV,idxAAV,idxSV,sliceV,sliceSV,boundV,szIs,storeOp,storeS,setRowV,eff,extV,buildV,splice,eqSV,fitsL,eqCells,eqCell,minmaxV,capV,binBV,nilCheckV,bytesV,V.cells_agg,V.cells_int,V.cells_nils,V.cells_own,V.cells_sl,V.cells_str,V.cells_bool,V.cells_fn,V.cells_ptr,V.cells_rp,V.stays_agg,V.stays_int,V.stays_nils,V.stays_own,V.stays_sl,V.stays_str,V.stays_bool,V.stays_fn,V.stays_ptr,V.stays_rp,hvc,y2',T2,T4]
    refine ⟨_, hB9, .own id29 0 (rows.length + 1), ⟨?_, upd_same, ?_, ?_⟩⟩
    · rw [upd_ne n24, upd_ne (ne_new (hBs.1 _ _ J.r2) f29), dne _ _ k2]; exact J.r2
    · refine SubStore.updK (fun i o h => ?_) z4
      have h1 := J.sub _ _ h
      rw [upd_ne (ne_new (hBs.1 _ _ h1) f29), dne _ _ (fun hk => by rw [((hK0 i).1 hk).2.2] at h; cases h)]
      exact h1
    · rw [List.map_append, hrows]
      refine OutV.new (by simp) (by rw [upd_ne m29.symm, upd_same]; rfl) ?_
      rw [hK0]
      refine ⟨(ne_new (hBs.1 _ _ J.r2) f29).symm, m29.symm, ?_⟩
      cases h : σ id29 with
      | none => rfl
      | some o => rw [hBs.1 _ _ (J.sub _ _ h)] at f29; cases f29
  · rintro σ' ⟨v, J⟩
    rw [List.length_map, List.take_length] at J
    have o2 := J.r2
    have o4 := J.r4
    have hvc : v.cells = [v] := by rcases J.out with ⟨rfl, _⟩ | ⟨_, rfl, _⟩ <;> rfl
    have hvl := J.out.len
    simp only [List.length_map] at hvl
    refine Runs.mix 8 ?_
    by_cases h3 : L.length = 3
    · have q3 : ((L.length : Int) ≠ 3) = False := eq_false (by omega)
      rcases J.out with ⟨rfl, h0⟩ | ⟨idL, rfl, hL', hkL⟩
      · exfalso; have := congrArg List.length h0; simp only [List.length_map,List.length_nil] at this; omega
      have hlm : (L.map fun w => vI (atI w)).length = 3 := by simpa using h3
      rw [hlm] at o4 hvl
      have hL2 : σ' idL = some ⟨3, 1, (L.map atI).map vI⟩ := by rw [hL']; simp
      obtain ⟨x, y, z, hxyz⟩ : ∃ x y z, L.map atI = [x, y, z] := by
        match L, h3 with
        | [p, q, r], _ => exact ⟨_, _, _, rfl⟩
      obtain ⟨rfl, rfl, rfl⟩ := hab.1 x y z hxyz
      have hsz : (L.map atI).length = 3 := by simpa using h3
      (refine Runs.of_step Orc.nothing 300 ?_; simp -implicitDefEqProofs only [BB,seval,← decide_not,okind,vpre,vpure,intBin,intPre,strBin,strPre,popTo,argSlots,fldV,fldAV,subCells,idxVV,idxAAV,idxSV,sliceV,sliceSV,boundV,szIs,storeOp,storeS,setRowV,eff,extV,buildV,splice,eqSV,fitsL,eqCells,eqCell,minmaxV,capV,binBV,nilCheckV,bytesV,V.cells,V.stays,Orc.nothing,S0',S2,S4,o2,o4,hvl,q3,h3])
      refine Runs.call rfl rfl rfl (told_c (L.map atI) hsz hL2) ?_
      rintro r σ4 ⟨rfl, rfl⟩
      have hL3 : σ4 idL = some ⟨3, 1, [vI x, vI y, vI z]⟩ := by rw [hL2, hxyz]; rfl
      have hrc : rowC s = if (⟨x, y, z⟩ : R3).ok ∧ (⟨x, y, z⟩ : R3).line = s ++ [10] then some ⟨x, y, z⟩ else none := by unfold rowC; rw [hL, hxyz]
      have fin : ∀ a : Ob, SubStore σ (upd σ4 id2 a) := fun a => J.sub.updK f2
      rw [hxyz]
      by_cases hok : (⟨x, y, z⟩ : R3).ok
      · have ht : toldV [x, y, z] = .tup [.str (⟨x, y, z⟩ : R3).line, .bool true] := by
          obtain ⟨hx, hy, hz⟩ := hok
          have e1 := (itoa_inD (n := x) hx).1
          have e2 := (itoa_inD (n := y) hy).1
          have e3 := (itoa_inD (n := z) hz).1
          unfold toldV
          rw [if_pos (by simp only [List.mem_cons,List.not_mem_nil,or_false,forall_eq_or_imp,forall_eq]; exact ⟨hx, hy, hz⟩)]
          simp only [List.map_cons,List.map_nil,joinW3,e1,e2,e3,R3.line,R3.ln]
        rw [ht]
        have hsl : s.length + 1 ≤ 1000001 := by omega
        rw [hrc]
        by_cases hq : (⟨x, y, z⟩ : R3).line = s ++ [10]
        · have q : ((⟨x, y, z⟩ : R3).line = s ++ [10]) = True := eq_true hq
          rw [if_pos ⟨hok, hq⟩]
          (refine Runs.of_step Orc.nothing 300 ?_; simp -implicitDefEqProofs only [BB,seval,← decide_not,okind,vpre,vpure,intBin,intPre,strBin,strPre,popTo,argSlots,fldV,fldAV,subCells,idxVV,idxAAV,idxSV,sliceV,sliceSV,boundV,szIs,storeOp,storeS,setRowV,eff,extV,buildV,splice,eqSV,fitsL,eqCells,eqCell,minmaxV,capV,binBV,nilCheckV,bytesV,V.cells,V.stays,Orc.nothing,S0',S2,S4,o2,o4,hL3,q])
          exact ⟨by omega, RetV.pure (fin _) rfl⟩
        · have q : ((⟨x, y, z⟩ : R3).line = s ++ [10]) = False := eq_false hq
          rw [if_neg (fun h => hq h.2)]
          (refine Runs.of_step Orc.nothing 300 ?_; simp -implicitDefEqProofs only [BB,seval,← decide_not,okind,vpre,vpure,intBin,intPre,strBin,strPre,popTo,argSlots,fldV,fldAV,subCells,idxVV,idxAAV,idxSV,sliceV,sliceSV,boundV,szIs,storeOp,storeS,setRowV,eff,extV,buildV,splice,eqSV,fitsL,eqCells,eqCell,minmaxV,capV,binBV,nilCheckV,bytesV,V.cells,V.stays,Orc.nothing,S0',S2,S4,o2,o4,hL3,q])
          exact ⟨by omega, RetV.pure (fin _) rfl⟩
      · have ht : toldV [x, y, z] = .tup [.str [], .bool false] := by
          unfold toldV
          rw [if_neg (fun h => hok (by simp only [List.mem_cons,List.not_mem_nil,or_false,forall_eq_or_imp,forall_eq] at h; exact h))]
        rw [ht, hrc, if_neg (fun h => hok h.1)]
        (refine Runs.of_step Orc.nothing 300 ?_; simp -implicitDefEqProofs only [BB,seval,← decide_not,okind,vpre,vpure,intBin,intPre,strBin,strPre,popTo,argSlots,fldV,fldAV,subCells,idxVV,idxAAV,idxSV,sliceV,sliceSV,boundV,szIs,storeOp,storeS,setRowV,eff,extV,buildV,splice,eqSV,fitsL,eqCells,eqCell,minmaxV,capV,binBV,nilCheckV,bytesV,V.cells,V.stays,Orc.nothing,S0',S2,S4,o2,o4,hL3])
        exact RetV.pure (fin _) rfl
    · have q3 : ((L.length : Int) ≠ 3) = True := eq_true (by omega)
      obtain ⟨rfl, rfl, rfl⟩ := hab.2 (by rw [List.length_map]; exact h3)
      have hno : rowC s = none := by
        unfold rowC
        rw [hL]
        split
        · rename_i h; have := congrArg List.length h; simp at this; exact absurd this h3
        · rfl
      rw [hno]
      (refine Runs.of_step Orc.nothing 300 ?_; simp -implicitDefEqProofs only [BB,seval,← decide_not,okind,vpre,vpure,intBin,intPre,strBin,strPre,popTo,argSlots,fldV,fldAV,subCells,idxVV,idxAAV,idxSV,sliceV,sliceSV,boundV,szIs,storeOp,storeS,setRowV,eff,extV,buildV,splice,eqSV,fitsL,eqCells,eqCell,minmaxV,capV,binBV,nilCheckV,bytesV,Orc.nothing,S0',S2,S4,o2,o4,hvl,q3,V.cells_agg,V.cells_int,V.cells_nils,V.cells_own,V.cells_sl,V.cells_str,V.cells_bool,V.cells_fn,V.cells_ptr,V.cells_rp,V.stays_agg,V.stays_int,V.stays_nils,V.stays_own,V.stays_sl,V.stays_str,V.stays_bool,V.stays_fn,V.stays_ptr,V.stays_rp,hvc])
      exact RetV.pure (J.sub.updK f2) rfl
  · intro id h; cases h
  · rintro pre σ' _ ⟨⟩
end Go.Vc
namespace Go.Vc
open Go.Proofs
def sameS (sz : Nat) (ks : List Nat) : VFn := ⟨26,.seq (.reg false [⟨some 4,.mov (.c (.bool false)),none⟩]) (.seq (.seq (.reg false [⟨some 6,.mov (.t 0),none⟩,⟨some 7,.len false (.t 6),none⟩,⟨some 8,.mov (.t 1),none⟩,⟨some 9,.len false (.t 8),none⟩,⟨some 10,.bin .neq (.t 7) (.t 9),none⟩]) (.cond (.t 10) (.seq (.reg false [⟨some 4,.mov (.c (.bool false)),none⟩]) .ret) .skip)) (.seq (.seq (.reg false [⟨some 5,.mov (.c (.int .i64 0)),none⟩]) (.block 0 (.loop (.seq (.seq (.reg false [⟨some 11,.mov (.t 5),none⟩,⟨some 12,.mov (.t 0),none⟩,⟨some 13,.len false (.t 12),none⟩,⟨some 14,.bin .lss (.t 11) (.t 13),none⟩]) (.cond (.t 14) .skip (.exit 0))) (.seq (.block 1 (.seq (.reg true [⟨some 17,.mov (.t 0),none⟩,⟨some 18,.mov (.t 5),none⟩,⟨some 19,.idxA sz (.t 17) (.t 18),none⟩,⟨some 20,.load true sz (.t 19),none⟩,⟨some 21,.mov (.t 1),none⟩,⟨some 22,.mov (.t 5),none⟩,⟨some 23,.idxA sz (.t 21) (.t 22),none⟩,⟨some 24,.load true sz (.t 23),none⟩,⟨some 25,.eqS true ks (.t 20) (.t 24),none⟩]) (.cond (.t 25) (.seq (.reg false [⟨some 4,.mov (.c (.bool false)),none⟩]) .ret) .skip))) (.reg false [⟨some 15,.mov (.t 5),none⟩,⟨some 16,.bin .add (.t 15) (.c (.int .i64 1)),none⟩,⟨some 5,.mov (.t 16),none⟩])))))) (.seq (.reg false [⟨some 4,.mov (.c (.bool true)),none⟩]) .ret))),[.tmp (.t 4)]⟩
set_option maxRecDepth 100000 in
theorem sameS_c {P : Program} {f : FuncId} {fn : Func} (hf : P.funcs[f]? = some fn) {sz : Nat} {ks : List Nat} (hc : cfn P fn = some (sameS sz ks)) (hk : callable P f = true) {α : Type} [DecidableEq α] (enc : α → V)
    (he : ∀ a b, eqSV true ks (enc a) (enc b) = some (.bool (decide (a ≠ b)))) (hl : ∀ σ a, loadV σ true sz (.rp (enc a)) = some (enc a)) (xs ys : List α) (hx : xs.length ≤ 1000000) :
    PFun P f [.sl sz (xs.map enc), .sl sz (ys.map enc)] (.bool (decide (xs = ys))) := fun σ => by
  refine Contract.of_runs hf hc hk (by simp [sameS]) ?_
  refine Runs.mix 6 ?_
  have n1 : lenV false (.sl sz (xs.map enc)) = some (.int .i64 xs.length) := by simp [lenV]
  have n2 : lenV false (.sl sz (ys.map enc)) = some (.int .i64 ys.length) := by simp [lenV]
  by_cases hlen : xs.length = ys.length
  · have q : ((xs.length : Int) ≠ ys.length) = False := eq_false (by omega)
    (refine Runs.of_step Orc.nothing 300 ?_; simp -implicitDefEqProofs only [BB,seval,← decide_not,okind,vpre,vpure,intBin,intPre,strBin,strPre,popTo,argSlots,fldV,fldAV,subCells,idxVV,idxAAV,idxSV,sliceV,sliceSV,boundV,szIs,storeOp,storeS,setRowV,eff,extV,buildV,splice,eqSV,fitsL,eqCells,eqCell,minmaxV,capV,binBV,nilCheckV,bytesV,V.cells,V.stays,Orc.nothing,sameS,n1,n2,q])
    refine Runs.loop (fun m st => ∃ j, j ≤ xs.length ∧ m = xs.length - j ∧ xs.take j = ys.take j ∧ st.s 0 = .sl sz (xs.map enc) ∧ st.s 1 = .sl sz (ys.map enc) ∧ st.s 5 = .int .i64 j ∧ st.σ = σ) xs.length ⟨0, by omega, rfl, rfl, rfl, rfl, rfl, rfl⟩ ?_
    rintro m ⟨S, σ'⟩ ⟨j, hj, rfl, ht, t0, t1, t5, hσ⟩
    simp only at t0 t1 t5 hσ
    subst hσ
    refine Runs.mix 6 ?_
    by_cases hlt : j < xs.length
    · have q1 : ((j : Int) < xs.length) = True := eq_true (by omega)
      have hlt2 : j < ys.length := by omega
      have i1 : ∀ σ, idxAV σ sz (.sl sz (xs.map enc)) (.int .i64 j) = some (.rp (enc xs[j])) := fun σ => by simp [idxAV, hlt]
      have i2 : ∀ σ, idxAV σ sz (.sl sz (ys.map enc)) (.int .i64 j) = some (.rp (enc ys[j])) := fun σ => by simp [idxAV, hlt2]
      have hee := he xs[j] ys[j]
      have tx := List.take_succ_eq_append_getElem hlt
      have ty := List.take_succ_eq_append_getElem hlt2
      by_cases hq : xs[j] = ys[j]
      · rw [show decide (xs[j] ≠ ys[j]) = false by simpa using hq] at hee
        (refine Runs.of_step Orc.nothing 300 ?_; simp -implicitDefEqProofs only [BB,seval,← decide_not,okind,vpre,vpure,intBin,intPre,strBin,strPre,popTo,argSlots,fldV,fldAV,subCells,idxVV,idxAAV,idxSV,sliceV,sliceSV,boundV,szIs,storeOp,storeS,setRowV,eff,extV,buildV,splice,fitsL,eqCells,eqCell,minmaxV,capV,binBV,nilCheckV,bytesV,V.cells,V.stays,Orc.nothing,t0,t1,t5,n1,q1,i1,i2,hl,hee])
        exact ⟨inR_i64 (by omega) (by omega), _, by omega, j + 1, by omega, rfl, by rw [tx, ty, ht, hq], by simp⟩
      · rw [show decide (xs[j] ≠ ys[j]) = true by simpa using hq] at hee
        (refine Runs.of_step Orc.nothing 300 ?_; simp -implicitDefEqProofs only [BB,seval,← decide_not,okind,vpre,vpure,intBin,intPre,strBin,strPre,popTo,argSlots,fldV,fldAV,subCells,idxVV,idxAAV,idxSV,sliceV,sliceSV,boundV,szIs,storeOp,storeS,setRowV,eff,extV,buildV,splice,fitsL,eqCells,eqCell,minmaxV,capV,binBV,nilCheckV,bytesV,V.cells,V.stays,Orc.nothing,t0,t1,t5,n1,q1,i1,i2,hl,hee])
        refine RetV.same ?_
        have : ¬ xs = ys := fun h => hq (by simp only [h])
        rw [decide_eq_false this]
    · have q1 : ((j : Int) < xs.length) = False := eq_false (by omega)
      (refine Runs.of_step Orc.nothing 300 ?_; simp -implicitDefEqProofs only [BB,seval,← decide_not,okind,vpre,vpure,intBin,intPre,strBin,strPre,popTo,argSlots,fldV,fldAV,subCells,idxVV,idxAAV,idxSV,sliceV,sliceSV,boundV,szIs,storeOp,storeS,setRowV,eff,extV,buildV,splice,eqSV,fitsL,eqCells,eqCell,minmaxV,capV,binBV,nilCheckV,bytesV,V.cells,V.stays,Orc.nothing,t0,t1,t5,n1,q1])
      refine RetV.same ?_
      rw [List.take_of_length_le (by omega), List.take_of_length_le (by omega)] at ht
      rw [decide_eq_true ht]
  · have q : ((xs.length : Int) ≠ ys.length) = True := eq_true (by omega)
    (refine Runs.of_step Orc.nothing 300 ?_; simp -implicitDefEqProofs only [BB,seval,← decide_not,okind,vpre,vpure,intBin,intPre,strBin,strPre,popTo,argSlots,fldV,fldAV,subCells,idxVV,idxAAV,idxSV,sliceV,sliceSV,boundV,szIs,storeOp,storeS,setRowV,eff,extV,buildV,splice,eqSV,fitsL,eqCells,eqCell,minmaxV,capV,binBV,nilCheckV,bytesV,V.cells,V.stays,Orc.nothing,sameS,n1,n2,q])
    refine RetV.same ?_
    rw [decide_eq_false fun h => hlen (by rw [h])]
end Go.Vc
namespace Go.Vc
open Go.Proofs
def encRws (l : List R3) : V := .sl 3 (l.map encR3)
theorem idx_Rws {σ : Store} {l : List R3} {i : Nat} (h : i < l.length) : idxAV σ 3 (encRws l) (.int .i64 i) = some (.rp (encR3 l[i])) := by simp [encRws, idxAV, h]
theorem len_Rws (l : List R3) : lenV false (encRws l) = some (.int .i64 l.length) := by simp [encRws, lenV]
theorem toldV3 (x : R3) : toldV [x.d, x.n, x.p] = if x.ok then .tup [.str x.line, .bool true] else .tup [.str [], .bool false] := by
  by_cases hok : x.ok
  · obtain ⟨hx, hy, hz⟩ := id hok
    have e1 := (itoa_inD (n := x.d) hx).1
    have e2 := (itoa_inD (n := x.n) hy).1
    have e3 := (itoa_inD (n := x.p) hz).1
    rw [if_pos hok]
    unfold toldV
    rw [if_pos (by simp only [List.mem_cons,List.not_mem_nil,or_false,forall_eq_or_imp,forall_eq]; exact ⟨hx, hy, hz⟩)]
    simp only [List.map_cons,List.map_nil,joinW3,e1,e2,e3,R3.line,R3.ln]
  · rw [if_neg hok]
    unfold toldV
    rw [if_neg (fun h => hok (by simp only [List.mem_cons,List.not_mem_nil,or_false,forall_eq_or_imp,forall_eq] at h; exact h))]
theorem line_len (x : R3) (h : x.ok) : x.line.length ≤ 21 := by
  obtain ⟨⟨_, a⟩, ⟨_, b⟩, _, c⟩ := h
  have e1 := i_dlen 5 x.d.toNat (by rw [show (10 : Nat) ^ (5 + 1) = 1000000 from rfl]; omega)
  have e2 := i_dlen 5 x.n.toNat (by rw [show (10 : Nat) ^ (5 + 1) = 1000000 from rfl]; omega)
  have e3 := i_dlen 5 x.p.toNat (by rw [show (10 : Nat) ^ (5 + 1) = 1000000 from rfl]; omega)
  simp only [R3.line,R3.ln,List.length_append,List.length_cons,List.length_nil]
  omega
theorem txt_len : ∀ (l : List R3), (∀ x ∈ l, x.ok) → (txtR l).length ≤ 21 * l.length
  | [], _ => by simp [txtR]
  | x :: l, h => by
    have h1 := txt_len l (fun y hy => h y (by simp [hy]))
    have h2 := line_len x (h x (by simp))
    have e : txtR (x :: l) = x.line ++ txtR l := rfl
    rw [e, List.length_append, List.length_cons]; omega
theorem txt_take {l : List R3} {i : Nat} (h : i < l.length) : txtR (l.take (i + 1)) = txtR (l.take i) ++ l[i].line := by
  unfold txtR
  rw [List.take_succ_eq_append_getElem h, List.flatMap_append]; simp
set_option maxRecDepth 100000 in
theorem itext_c (l : List R3) (hl : l.length ≤ 100000) : PFun Tryz.prog 8 [encRws l] (.str (textR l)) := fun σ => by
  refine Contract.of_runs Tryz.func8 e8 k8 (by simp [c8]) ?_
  refine Runs.mix 11 ?_
  (refine Runs.of_step Orc.nothing 300 ?_; simp -implicitDefEqProofs only [BB,seval,← decide_not,okind,vpre,vpure,intBin,intPre,strBin,strPre,popTo,argSlots,fldV,fldAV,subCells,idxVV,idxAAV,idxSV,sliceV,sliceSV,boundV,szIs,storeOp,storeS,setRowV,eff,extV,buildV,splice,eqSV,fitsL,eqCells,eqCell,minmaxV,capV,binBV,nilCheckV,bytesV,V.cells,V.stays,Orc.nothing,c8,len_Rws])
  refine effR_new fun id3 σ1 s1 a3 f3 => ?_
  simp -implicitDefEqProofs only [BB,seval,← decide_not,okind,vpre,vpure,intBin,intPre,strBin,strPre,popTo,argSlots,fldV,fldAV,subCells,idxVV,idxAAV,idxSV,sliceV,sliceSV,boundV,szIs,storeOp,storeS,setRowV,eff,extV,buildV,splice,eqSV,fitsL,eqCells,eqCell,minmaxV,capV,binBV,nilCheckV,bytesV,V.cells,V.stays,len_Rws]
  refine Runs.loop (fun m st => ∃ i : Nat, i ≤ l.length ∧ m = l.length - i ∧ (∀ x ∈ l.take i, x.ok) ∧ IsB 53 5 σ st.σ id3 (txtR (l.take i)) ∧
    (i = 0 → st.σ id3 = some (bRow 53 .nilp .nils)) ∧ st.s 3 = .ptr id3 0 0 ∧ st.s 8 = encRws l ∧ st.s 9 = vI l.length ∧ st.s 10 = vI i) l.length ?_ ?_
  · exact ⟨0, by omega, rfl, by simp, IsB.start s1 f3 a3, fun _ => a3, rfl, rfl, rfl, rfl⟩
  · rintro m ⟨S, σ'⟩ ⟨i, hi, rfl, hall, hB, h0, t3, t8, t9, t10⟩
    simp only at hB h0 t3 t8 t9 t10
    refine Runs.mix 11 ?_
    by_cases hlt : i < l.length
    · have q : ((i : Int) < l.length) = True := eq_true (by omega)
      have hix := fun σ => idx_Rws (σ := σ) hlt
      have htx := txt_take hlt
      have htk := List.take_succ_eq_append_getElem hlt
      have hmem := List.getElem_mem hlt
      generalize l[i] = x at *
      have hen : encR3 x = .agg [vI x.d, vI x.n, vI x.p] := rfl
      (refine Runs.of_step Orc.nothing 300 ?_; simp -implicitDefEqProofs only [BB,seval,← decide_not,okind,vpre,vpure,intBin,intPre,strBin,strPre,popTo,argSlots,fldV,fldAV,subCells,idxVV,idxAAV,idxSV,sliceV,sliceSV,boundV,szIs,storeOp,storeS,setRowV,eff,extV,buildV,splice,eqSV,fitsL,eqCells,eqCell,minmaxV,capV,binBV,nilCheckV,bytesV,V.cells,V.stays,Orc.nothing,t3,t8,t9,t10,q,hix,hen])
      refine effR_new fun id5 σ5 s5 a5 f5 => ?_
      simp -implicitDefEqProofs only [BB,seval,← decide_not,okind,vpre,vpure,intBin,intPre,strBin,strPre,popTo,argSlots,fldV,fldAV,subCells,idxVV,idxAAV,idxSV,sliceV,sliceSV,boundV,szIs,storeOp,storeS,setRowV,eff,extV,buildV,splice,eqSV,fitsL,eqCells,eqCell,minmaxV,capV,binBV,nilCheckV,bytesV,V.cells,V.stays,a5,t3,t8,t9,t10]
      generalize hq5 : upd σ5 id5 _ = τ5
      have b5 : τ5 id5 = some ⟨38, 3, [.agg [vI x.d, vI x.n, vI x.p]]⟩ := by rw [← hq5]; exact upd_same
      have s5' : SubStore σ' τ5 := by rw [← hq5]; exact s5.updK f5
      clear hq5
      refine effR_new fun id6 σ6 s6 a6 f6 => ?_
      have hB6 := hB.mono (s5'.trans s6)
      simp -implicitDefEqProofs only [BB,seval,← decide_not,okind,vpre,vpure,intBin,intPre,strBin,strPre,popTo,argSlots,fldV,fldAV,subCells,idxVV,idxAAV,idxSV,sliceV,sliceSV,boundV,szIs,storeOp,storeS,setRowV,eff,extV,buildV,splice,eqSV,fitsL,eqCells,eqCell,minmaxV,capV,binBV,nilCheckV,bytesV,V.cells,V.stays,t3,t8,t9,t10]
      refine Runs.call rfl rfl rfl (told_c [x.d, x.n, x.p] rfl a6) ?_
      rintro r σ7 ⟨rfl, rfl⟩
      rw [toldV3]
      by_cases hok : x.ok
      · rw [if_pos hok]
        (refine Runs.of_step Orc.nothing 300 ?_; simp -implicitDefEqProofs only [BB,seval,← decide_not,okind,vpre,vpure,intBin,intPre,strBin,strPre,popTo,argSlots,fldV,fldAV,subCells,idxVV,idxAAV,idxSV,sliceV,sliceSV,boundV,szIs,storeOp,storeS,setRowV,eff,extV,buildV,splice,eqSV,fitsL,eqCells,eqCell,minmaxV,capV,binBV,nilCheckV,bytesV,V.cells,V.stays,Orc.nothing,t3,t8,t9,t10])
        have htl := txt_len (l.take i) hall
        have hll := line_len x hok
        have htl2 : (l.take i).length ≤ l.length := by rw [List.length_take]; omega
        have w2 := wstr_c btB x.line hB6 (by omega)
        rw [← t3] at w2
        refine Runs.call rfl rfl rfl w2 ?_
        rintro r σ8 ⟨rfl, hB8⟩
        (refine Runs.of_step Orc.nothing 300 ?_; simp -implicitDefEqProofs only [BB,seval,← decide_not,okind,vpre,vpure,intBin,intPre,strBin,strPre,popTo,argSlots,fldV,fldAV,subCells,idxVV,idxAAV,idxSV,sliceV,sliceSV,boundV,szIs,storeOp,storeS,setRowV,eff,extV,buildV,splice,eqSV,fitsL,eqCells,eqCell,minmaxV,capV,binBV,nilCheckV,bytesV,V.cells,V.stays,Orc.nothing,t3,t8,t9,t10])
        refine ⟨inR_i64 (by omega) (by omega), _, by omega, i + 1, by omega, rfl, ?_, by rw [htx]; exact hB8, by simp, by simp [t3, t8, t9]⟩
        rw [htk]
        intro y hy
        rcases List.mem_append.1 hy with hy | hy
        · exact hall y hy
        · simp only [List.mem_cons,List.not_mem_nil,or_false] at hy; subst hy; exact hok
      · rw [if_neg hok]
        (refine Runs.of_step Orc.nothing 300 ?_; simp -implicitDefEqProofs only [BB,seval,← decide_not,okind,vpre,vpure,intBin,intPre,strBin,strPre,popTo,argSlots,fldV,fldAV,subCells,idxVV,idxAAV,idxSV,sliceV,sliceSV,boundV,szIs,storeOp,storeS,setRowV,eff,extV,buildV,splice,eqSV,fitsL,eqCells,eqCell,minmaxV,capV,binBV,nilCheckV,bytesV,V.cells,V.stays,Orc.nothing,t3,t8,t9,t10])
        refine RetV.pure hB6.sub ?_
        unfold textR
        rw [if_neg (fun h => hok (h x hmem))]
    · have q : ((i : Int) < l.length) = False := eq_false (by omega)
      rw [List.take_of_length_le (by omega)] at hB hall
      (refine Runs.of_step Orc.nothing 300 ?_; simp -implicitDefEqProofs only [BB,seval,← decide_not,okind,vpre,vpure,intBin,intPre,strBin,strPre,popTo,argSlots,fldV,fldAV,subCells,idxVV,idxAAV,idxSV,sliceV,sliceSV,boundV,szIs,storeOp,storeS,setRowV,eff,extV,buildV,splice,eqSV,fitsL,eqCells,eqCell,minmaxV,capV,binBV,nilCheckV,bytesV,V.cells,V.stays,Orc.nothing,t3,t8,t9,t10,q])
      have w3 := bstr_c hB (fun h => by
        cases i with
        | zero => exact ⟨_, h0 rfl⟩
        | succ i =>
          exfalso
          cases l with
          | nil => simp at hi
          | cons y l => have e : txtR (y :: l) = y.line ++ txtR l := rfl
                        rw [e] at h; simp [line_ne] at h)
      rw [← t3] at w3
      refine Runs.call rfl rfl rfl w3 ?_
      rintro r σ7 ⟨rfl, rfl⟩
      (refine Runs.of_step Orc.nothing 300 ?_; simp -implicitDefEqProofs only [BB,seval,← decide_not,okind,vpre,vpure,intBin,intPre,strBin,strPre,popTo,argSlots,fldV,fldAV,subCells,idxVV,idxAAV,idxSV,sliceV,sliceSV,boundV,szIs,storeOp,storeS,setRowV,eff,extV,buildV,splice,eqSV,fitsL,eqCells,eqCell,minmaxV,capV,binBV,nilCheckV,bytesV,V.cells,V.stays,Orc.nothing])
      refine ⟨_, _, SubStore.refl _, Wk.refl (SubStore.refl _) _, ?_, rfl⟩
      unfold textR
      rw [if_pos hall]
def parseV (p : PR) : V := match p with
  | .ok l => .tup [encRws l, vI 0, vI 0]
  | .bad n => .tup [encRws [], vI n, vI 1]
set_option maxRecDepth 100000 in
theorem iparse_c (s : List UInt8) (hs : s.length ≤ 1000000) : PFun Tryz.prog 6 [.str s] (parseV (parseL (s.length + 1) s 1 [])) := fun σ => by
  refine Contract.of_runs Tryz.func6 e6 k6 (by simp [c6]) ?_
  refine Runs.mix 10 ?_
  generalize hG : parseL (s.length + 1) s 1 [] = G
  (refine Runs.of_step Orc.nothing 300 ?_; simp -implicitDefEqProofs only [BB,seval,← decide_not,okind,vpre,vpure,intBin,intPre,strBin,strPre,popTo,argSlots,fldV,fldAV,subCells,idxVV,idxAAV,idxSV,sliceV,sliceSV,boundV,szIs,storeOp,storeS,setRowV,eff,extV,buildV,splice,eqSV,fitsL,eqCells,eqCell,minmaxV,capV,binBV,nilCheckV,bytesV,V.cells,V.stays,Orc.nothing,c6])
  refine Runs.loop (fun m st => ∃ (s' : List UInt8) (k at' : Nat) (acc : List R3), m = s'.length ∧ s'.length < k ∧ s'.length + at' ≤ s.length ∧ acc.length = at' ∧ parseL k s' (at' + 1) acc = G ∧ SubStore σ st.σ ∧ OutV σ st.σ 38 3 (st.s 2) (acc.map encR3) ∧
    st.s 0 = .str s' ∧ st.s 3 = vI at') s.length ?_ ?_
  · exact ⟨s, s.length + 1, 0, [], rfl, by omega, by omega, rfl, hG, SubStore.refl _, OutV.start, rfl, rfl⟩
  · rintro m ⟨S, σ'⟩ ⟨s', k, at', acc, rfl, hk, hsl, hal, hg, hsub, hout, t0, t3⟩
    simp only at hsub hout t0 t3
    generalize hv2 : S 2 = v2 at hout
    refine Runs.mix 10 ?_
    obtain ⟨k, rfl⟩ : ∃ k', k = k' + 1 := ⟨k - 1, by omega⟩
    simp only [parseL] at hg
    by_cases he : s' = []
    · subst he
      rw [if_pos rfl] at hg
      have q : (([] : List UInt8) ≠ []) = False := eq_false (fun h => h rfl)
      (refine Runs.of_step Orc.nothing 300 ?_; simp -implicitDefEqProofs only [BB,seval,← decide_not,okind,vpre,vpure,intBin,intPre,strBin,strPre,popTo,argSlots,fldV,fldAV,subCells,idxVV,idxAAV,idxSV,sliceV,sliceSV,boundV,szIs,storeOp,storeS,setRowV,eff,extV,buildV,splice,eqSV,fitsL,eqCells,eqCell,minmaxV,capV,binBV,nilCheckV,bytesV,V.cells,V.stays,Orc.nothing,t0,t3,hv2,q])
      subst hg
      exact ⟨_, σ, hsub, Wk.tup (vs' := [encRws acc, vI 0, vI 0]) ⟨hout.wk (SubStore.refl _) hsub, Wk.refl hsub _, Wk.refl hsub _, trivial⟩, rfl, rfl⟩
    · rw [if_neg he] at hg
      have q : (s' ≠ []) = True := eq_true he
      have r1 : inR .i64 ((at' : Int) + 1) := inR_i64 (by omega) (by omega)
      (refine Runs.of_step Orc.nothing 300 ?_; simp -implicitDefEqProofs only [BB,seval,← decide_not,okind,vpre,vpure,intBin,intPre,strBin,strPre,popTo,argSlots,fldV,fldAV,subCells,idxVV,idxAAV,idxSV,sliceV,sliceSV,boundV,szIs,storeOp,storeS,setRowV,eff,extV,buildV,splice,eqSV,fitsL,eqCells,eqCell,minmaxV,capV,binBV,nilCheckV,bytesV,V.cells,V.stays,Orc.nothing,t0,t3,hv2,q,r1])
      refine Runs.pcall rfl rfl rfl (cutS_c s' 10 (by omega) _) ?_
      unfold cutV
      rcases rowP_cut s' with ⟨e1, e2⟩ | ⟨j, e1, e2, e3⟩
      · rw [e1, if_pos (by omega)]
        rw [e2] at hg
        obtain ⟨a, b, c, hrc, _⟩ := row_c s' (by omega)
        (refine Runs.of_step Orc.nothing 300 ?_; simp -implicitDefEqProofs only [BB,seval,← decide_not,okind,vpre,vpure,intBin,intPre,strBin,strPre,popTo,argSlots,fldV,fldAV,subCells,idxVV,idxAAV,idxSV,sliceV,sliceSV,boundV,szIs,storeOp,storeS,setRowV,eff,extV,buildV,splice,eqSV,fitsL,eqCells,eqCell,minmaxV,capV,binBV,nilCheckV,bytesV,V.cells,V.stays,Orc.nothing,t0,t3,hv2])
        refine Runs.pcall rfl rfl rfl (hrc _) ?_
        (refine Runs.of_step Orc.nothing 300 ?_; simp -implicitDefEqProofs only [BB,seval,← decide_not,okind,vpre,vpure,intBin,intPre,strBin,strPre,popTo,argSlots,fldV,fldAV,subCells,idxVV,idxAAV,idxSV,sliceV,sliceSV,boundV,szIs,storeOp,storeS,setRowV,eff,extV,buildV,splice,eqSV,fitsL,eqCells,eqCell,minmaxV,capV,binBV,nilCheckV,bytesV,V.cells,V.stays,Orc.nothing,t0,t3,hv2])
        refine effR_new fun id8 σ8 s8 a8 f8 => ?_
        simp -implicitDefEqProofs only [BB,seval,← decide_not,okind,vpre,vpure,intBin,intPre,strBin,strPre,popTo,argSlots,fldV,fldAV,subCells,idxVV,idxAAV,idxSV,sliceV,sliceSV,boundV,szIs,storeOp,storeS,setRowV,eff,extV,buildV,splice,eqSV,fitsL,eqCells,eqCell,minmaxV,capV,binBV,nilCheckV,bytesV,V.cells,V.stays,a8,t0,t3,hv2,Option.isSome_none]
        subst hg
        refine ⟨_, σ, (hsub.trans s8).updK (hsub.none f8), Wk.tup (vs' := [encRws [], vI ((at' : Int) + 1), vI 1]) ⟨Wk.nils 3, Wk.refl ((hsub.trans s8).updK (hsub.none f8)) _, Wk.refl ((hsub.trans s8).updK (hsub.none f8)) _, trivial⟩, ?_, rfl⟩
        rfl
      · rw [e1, if_neg (by omega), Int.toNat_natCast]
        obtain ⟨a, b, c, hrc, hrx⟩ := row_c (s'.take j) (by rw [List.length_take]; omega)
        (refine Runs.of_step Orc.nothing 300 ?_; simp -implicitDefEqProofs only [BB,seval,← decide_not,okind,vpre,vpure,intBin,intPre,strBin,strPre,popTo,argSlots,fldV,fldAV,subCells,idxVV,idxAAV,idxSV,sliceV,sliceSV,boundV,szIs,storeOp,storeS,setRowV,eff,extV,buildV,splice,eqSV,fitsL,eqCells,eqCell,minmaxV,capV,binBV,nilCheckV,bytesV,V.cells,V.stays,Orc.nothing,t0,t3,hv2])
        refine Runs.pcall rfl rfl rfl (hrc _) ?_
        cases hr : rowC (s'.take j) with
        | none =>
          rw [hr] at e3
          rw [e3] at hg
          simp only [Option.map_none,Option.map_some] at hg
          (refine Runs.of_step Orc.nothing 300 ?_; simp -implicitDefEqProofs only [BB,seval,← decide_not,okind,vpre,vpure,intBin,intPre,strBin,strPre,popTo,argSlots,fldV,fldAV,subCells,idxVV,idxAAV,idxSV,sliceV,sliceSV,boundV,szIs,storeOp,storeS,setRowV,eff,extV,buildV,splice,eqSV,fitsL,eqCells,eqCell,minmaxV,capV,binBV,nilCheckV,bytesV,V.cells,V.stays,Orc.nothing,t0,t3,hv2])
          refine effR_new fun id8 σ8 s8 a8 f8 => ?_
          simp -implicitDefEqProofs only [BB,seval,← decide_not,okind,vpre,vpure,intBin,intPre,strBin,strPre,popTo,argSlots,fldV,fldAV,subCells,idxVV,idxAAV,idxSV,sliceV,sliceSV,boundV,szIs,storeOp,storeS,setRowV,eff,extV,buildV,splice,eqSV,fitsL,eqCells,eqCell,minmaxV,capV,binBV,nilCheckV,bytesV,V.cells,V.stays,a8,t0,t3,hv2,Option.isSome_none]
          subst hg
          refine ⟨_, σ, (hsub.trans s8).updK (hsub.none f8), Wk.tup (vs' := [encRws [], vI ((at' : Int) + 1), vI 1]) ⟨Wk.nils 3, Wk.refl ((hsub.trans s8).updK (hsub.none f8)) _, Wk.refl ((hsub.trans s8).updK (hsub.none f8)) _, trivial⟩, ?_, rfl⟩
          rfl
        | some x =>
          rw [hr] at e3
          rw [e3] at hg
          simp only [Option.map_none,Option.map_some] at hg
          obtain rfl := hrx x hr
          (refine Runs.of_step Orc.nothing 300 ?_; simp -implicitDefEqProofs only [BB,seval,← decide_not,okind,vpre,vpure,intBin,intPre,strBin,strPre,popTo,argSlots,fldV,fldAV,subCells,idxVV,idxAAV,idxSV,sliceV,sliceSV,boundV,szIs,storeOp,storeS,setRowV,eff,extV,buildV,splice,eqSV,fitsL,eqCells,eqCell,minmaxV,capV,binBV,nilCheckV,bytesV,V.cells,V.stays,Orc.nothing,t0,t3,hv2])
          refine effR_new fun id8 σ8 s8 a8 f8 => ?_
          simp -implicitDefEqProofs only [BB,seval,← decide_not,okind,vpre,vpure,intBin,intPre,strBin,strPre,popTo,argSlots,fldV,fldAV,subCells,idxVV,idxAAV,idxSV,sliceV,sliceSV,boundV,szIs,storeOp,storeS,setRowV,eff,extV,buildV,splice,eqSV,fitsL,eqCells,eqCell,minmaxV,capV,binBV,nilCheckV,bytesV,V.cells,V.stays,a8,t0,t3,hv2,Option.isSome_none]
          generalize hq8 : upd σ8 id8 _ = τ8
          have s8' : SubStore σ' τ8 := by rw [← hq8]; exact s8.updK f8
          clear hq8
          refine effR_new fun id9 σ9 s9 a9 f9 => ?_
          obtain ⟨idA, hda, hdel⟩ := hout.dst (s8'.trans s9)
          have hb2 : (acc.length + 1) * 25 ≤ 140737488355328 := by omega
          have hlm : (acc.map encR3).length = acc.length := by simp
          simp -implicitDefEqProofs only [BB,seval,← decide_not,okind,vpre,vpure,intBin,intPre,strBin,strPre,popTo,argSlots,fldV,fldAV,subCells,idxVV,idxAAV,idxSV,sliceV,sliceSV,boundV,szIs,storeOp,storeS,setRowV,eff,extV,buildV,splice,eqSV,fitsL,eqCells,eqCell,minmaxV,capV,binBV,nilCheckV,bytesV,V.cells,V.stays,t0,t3,hv2,hda,srcOne a9,hlm,hb2]
          refine effR_put fun id10 σ10 s10 a10 f10 => ?_
          have k10 := (hdel σ (SubStore.refl _) σ9 (hsub.trans (s8'.trans s9))).trans s10
          have n10 : σ id10 = none := (hsub.trans (s8'.trans s9)).none f10
          simp -implicitDefEqProofs only [BB,seval,← decide_not,okind,vpre,vpure,intBin,intPre,strBin,strPre,popTo,argSlots,fldV,fldAV,subCells,idxVV,idxAAV,idxSV,sliceV,sliceSV,boundV,szIs,storeOp,storeS,setRowV,eff,extV,buildV,splice,eqSV,fitsL,eqCells,eqCell,minmaxV,capV,binBV,nilCheckV,bytesV,V.cells,V.stays,t0,t3,hv2]
          refine ⟨_, ?_, s'.drop (j + 1), k, at' + 1, acc ++ [⟨a, b, c⟩], rfl, ?_, ?_, by simp [hal], hg, k10, ?_, rfl, by simp⟩
          · simp only [List.length_drop]; omega
          · simp only [List.length_drop]; omega
          · simp only [List.length_drop]; omega
          · rw [List.map_append]
            exact OutV.new (by simp) a10 n10
end Go.Vc
namespace Go.Vc
open Go.Proofs
theorem eq_R3 (a b : R3) : eqSV true [0, 0, 0] (encR3 a) (encR3 b) = some (.bool (decide (a ≠ b))) := by
  obtain ⟨a1, a2, a3⟩ := a
  obtain ⟨b1, b2, b3⟩ := b
  simp only [eqSV,encR3,fitsL,eqCells,eqCell,vI,List.length_cons,List.length_nil,true_and,↓reduceIte,ne_eq,R3.mk.injEq]
  by_cases h1 : a1 = b1 <;> by_cases h2 : a2 = b2 <;> by_cases h3 : a3 = b3 <;> simp [h1, h2, h3]
theorem rows_eq (a b : List R3) (ha : a.length ≤ 1000000) : PFun Tryz.prog 10 [encRws a, encRws b] (.bool (decide (a = b))) :=
  sameS_c Tryz.func10 (sz := 3) (ks := [0, 0, 0]) (e10.trans rfl) k10 encR3 eq_R3 (fun _ _ => rfl) a b ha
end Go.Vc
namespace Go.Vc
open Go.Proofs
theorem parse_len {s : List UInt8} {l : List R3} (h : parseL (s.length + 1) s 1 [] = .ok l) : s = txtR l ∧ (∀ x ∈ l, x.ok) ∧ l.length ≤ s.length := by
  obtain ⟨l', h1, h2, h3⟩ := txt_parse _ _ _ _ _ (Nat.lt_succ_self _) h
  obtain rfl : l = l' := by simpa using h1
  refine ⟨h2, h3, ?_⟩
  rw [h2]
  clear h h1 h2 h3
  induction l with
  | nil => simp
  | cons x m ih =>
    have e : txtR (x :: m) = x.line ++ txtR m := rfl
    have := List.length_pos_iff.2 (line_ne x)
    rw [e, List.length_append, List.length_cons]; omega
theorem textR_back {l : List R3} (h : ∀ x ∈ l, x.ok) : textR l = txtR l := by unfold textR; rw [if_pos h]
set_option maxRecDepth 100000 in
theorem indexBack_c (hA : PFun Tryz.prog 5 [] (.bool true)) (l : List R3) (s : List UInt8) : PFun Tryz.prog 4 [encRws l, .str s] (.bool true) := fun σ => by
  refine Contract.of_runs Tryz.func4 e4 k4 (by simp [c4]) ?_
  refine Runs.mix 12 ?_
  have hn := len_Rws l
  by_cases h1 : l.length > 100
  · have q1 : ((l.length : Int) > 100) = True := eq_true (by omega)
    (refine Runs.of_step Orc.nothing 300 ?_; simp -implicitDefEqProofs only [BB,seval,← decide_not,okind,vpre,vpure,intBin,intPre,strBin,strPre,popTo,argSlots,fldV,fldAV,subCells,idxVV,idxAAV,idxSV,sliceV,sliceSV,boundV,szIs,storeOp,storeS,setRowV,eff,extV,buildV,splice,eqSV,fitsL,eqCells,eqCell,minmaxV,capV,binBV,nilCheckV,bytesV,V.cells,V.stays,Orc.nothing,c4,hn,q1])
    refine Runs.pcall rfl rfl rfl (hA _) ?_
    (refine Runs.of_step Orc.nothing 300 ?_; simp -implicitDefEqProofs only [BB,seval,← decide_not,okind,vpre,vpure,intBin,intPre,strBin,strPre,popTo,argSlots,fldV,fldAV,subCells,idxVV,idxAAV,idxSV,sliceV,sliceSV,boundV,szIs,storeOp,storeS,setRowV,eff,extV,buildV,splice,eqSV,fitsL,eqCells,eqCell,minmaxV,capV,binBV,nilCheckV,bytesV,V.cells,V.stays,Orc.nothing])
    exact RetV.same rfl
  have q1 : ((l.length : Int) > 100) = False := eq_false (by omega)
  by_cases h2 : s.length > 2000
  · have q2 : ((s.length : Int) > 2000) = True := eq_true (by omega)
    (refine Runs.of_step Orc.nothing 300 ?_; simp -implicitDefEqProofs only [BB,seval,← decide_not,okind,vpre,vpure,intBin,intPre,strBin,strPre,popTo,argSlots,fldV,fldAV,subCells,idxVV,idxAAV,idxSV,sliceV,sliceSV,boundV,szIs,storeOp,storeS,setRowV,eff,extV,buildV,splice,eqSV,fitsL,eqCells,eqCell,minmaxV,capV,binBV,nilCheckV,bytesV,V.cells,V.stays,Orc.nothing,c4,hn,q1,q2])
    refine Runs.pcall rfl rfl rfl (hA _) ?_
    (refine Runs.of_step Orc.nothing 300 ?_; simp -implicitDefEqProofs only [BB,seval,← decide_not,okind,vpre,vpure,intBin,intPre,strBin,strPre,popTo,argSlots,fldV,fldAV,subCells,idxVV,idxAAV,idxSV,sliceV,sliceSV,boundV,szIs,storeOp,storeS,setRowV,eff,extV,buildV,splice,eqSV,fitsL,eqCells,eqCell,minmaxV,capV,binBV,nilCheckV,bytesV,V.cells,V.stays,Orc.nothing])
    exact RetV.same rfl
  have q2 : ((s.length : Int) > 2000) = False := eq_false (by omega)
  have back : ∀ m : List R3, m.length ≤ 100000 → ∃ m', parseL ((textR m).length + 1) (textR m) 1 [] = .ok m' ∧ (textR m ≠ [] → m' = m) ∧ (textR m = [] → m' = []) ∧ (textR m).length ≤ 21 * m.length := fun m hm => by
    by_cases ho : ∀ x ∈ m, x.ok
    · rw [textR_back ho]
      have hl := txt_len m ho
      have hge : m.length ≤ (txtR m).length := by
        clear hl ho hm
        induction m with
        | nil => simp
        | cons x m ih =>
          have e : txtR (x :: m) = x.line ++ txtR m := rfl
          have := List.length_pos_iff.2 (line_ne x)
          rw [e, List.length_append, List.length_cons]; omega
      refine ⟨m, by simpa using parse_txt m _ 1 [] ho (by omega), fun _ => rfl, fun h => ?_, hl⟩
      rw [h] at hge
      exact List.eq_nil_of_length_eq_zero (by simpa using hge)
    · have : textR m = [] := by unfold textR; rw [if_neg ho]
      rw [this]
      exact ⟨[], rfl, fun h => absurd rfl h, fun _ => rfl, by simp⟩
  obtain ⟨m, b1, b2, b3, b4⟩ := back l (by omega)
  have hp1 := iparse_c (textR l) (by omega)
  rw [b1] at hp1
  (refine Runs.of_step Orc.nothing 300 ?_; simp -implicitDefEqProofs only [BB,seval,← decide_not,okind,vpre,vpure,intBin,intPre,strBin,strPre,popTo,argSlots,fldV,fldAV,subCells,idxVV,idxAAV,idxSV,sliceV,sliceSV,boundV,szIs,storeOp,storeS,setRowV,eff,extV,buildV,splice,eqSV,fitsL,eqCells,eqCell,minmaxV,capV,binBV,nilCheckV,bytesV,V.cells,V.stays,Orc.nothing,c4,hn,q1,q2])
  refine Runs.pcall rfl rfl rfl (itext_c l (by omega) _) ?_
  (refine Runs.of_step Orc.nothing 300 ?_; simp -implicitDefEqProofs only [BB,seval,← decide_not,okind,vpre,vpure,intBin,intPre,strBin,strPre,popTo,argSlots,fldV,fldAV,subCells,idxVV,idxAAV,idxSV,sliceV,sliceSV,boundV,szIs,storeOp,storeS,setRowV,eff,extV,buildV,splice,eqSV,fitsL,eqCells,eqCell,minmaxV,capV,binBV,nilCheckV,bytesV,V.cells,V.stays,Orc.nothing])
  refine Runs.pcall rfl rfl rfl (hp1 _) ?_
  have hp2 := iparse_c s (by omega)
  have hn0 : lenV false (encRws []) = some (.int .i64 0) := rfl
  have q0 : ((0 : Int) > 0) = False := eq_false (by omega)
  by_cases ht : textR l = []
  · have qt : (textR l ≠ []) = False := eq_false (fun h => h ht)
    have qt2 : (textR l = []) = True := eq_true ht
    obtain rfl := b3 ht
    (refine Runs.of_step Orc.nothing 300 ?_; simp -implicitDefEqProofs only [BB,seval,← decide_not,okind,vpre,vpure,intBin,intPre,strBin,strPre,popTo,argSlots,fldV,fldAV,subCells,idxVV,idxAAV,idxSV,sliceV,sliceSV,boundV,szIs,storeOp,storeS,setRowV,eff,extV,buildV,splice,eqSV,fitsL,eqCells,eqCell,minmaxV,capV,binBV,nilCheckV,bytesV,V.cells,V.stays,Orc.nothing,parseV,qt,qt2,hn0,q0])
    refine Runs.pcall rfl rfl rfl (hp2 _) ?_
    cases hp : parseL (s.length + 1) s 1 [] with
    | bad n =>
      have hb := bad_pos _ _ _ _ _ hp
      have qn : ((n : Int) > 0) = True := eq_true (by omega)
      have qz : ((1 : Int) ≠ 0) = True := eq_true (by omega)
      have qe : ((0 : Int) = 0) = True := eq_true rfl
      (refine Runs.of_step Orc.nothing 300 ?_; simp -implicitDefEqProofs only [BB,seval,← decide_not,okind,vpre,vpure,intBin,intPre,strBin,strPre,popTo,argSlots,fldV,fldAV,subCells,idxVV,idxAAV,idxSV,sliceV,sliceSV,boundV,szIs,storeOp,storeS,setRowV,eff,extV,buildV,splice,eqSV,fitsL,eqCells,eqCell,minmaxV,capV,binBV,nilCheckV,bytesV,V.cells,V.stays,Orc.nothing,parseV,hn0,qn,qz,qe])
      refine Runs.pcall rfl rfl rfl (hA _) ?_
      (refine Runs.of_step Orc.nothing 300 ?_; simp -implicitDefEqProofs only [BB,seval,← decide_not,okind,vpre,vpure,intBin,intPre,strBin,strPre,popTo,argSlots,fldV,fldAV,subCells,idxVV,idxAAV,idxSV,sliceV,sliceSV,boundV,szIs,storeOp,storeS,setRowV,eff,extV,buildV,splice,eqSV,fitsL,eqCells,eqCell,minmaxV,capV,binBV,nilCheckV,bytesV,V.cells,V.stays,Orc.nothing])
      exact RetV.same rfl
    | ok acc =>
      obtain ⟨g1, g2, g3⟩ := parse_len hp
      have qz : ((0 : Int) ≠ 0) = False := eq_false (by omega)
      have qe : (textR acc = s) = True := eq_true (by rw [textR_back g2, ← g1])
      (refine Runs.of_step Orc.nothing 300 ?_; simp -implicitDefEqProofs only [BB,seval,← decide_not,okind,vpre,vpure,intBin,intPre,strBin,strPre,popTo,argSlots,fldV,fldAV,subCells,idxVV,idxAAV,idxSV,sliceV,sliceSV,boundV,szIs,storeOp,storeS,setRowV,eff,extV,buildV,splice,eqSV,fitsL,eqCells,eqCell,minmaxV,capV,binBV,nilCheckV,bytesV,V.cells,V.stays,Orc.nothing,parseV,hn0,qz])
      refine Runs.pcall rfl rfl rfl (itext_c acc (by omega) _) ?_
      (refine Runs.of_step Orc.nothing 300 ?_; simp -implicitDefEqProofs only [BB,seval,← decide_not,okind,vpre,vpure,intBin,intPre,strBin,strPre,popTo,argSlots,fldV,fldAV,subCells,idxVV,idxAAV,idxSV,sliceV,sliceSV,boundV,szIs,storeOp,storeS,setRowV,eff,extV,buildV,splice,eqSV,fitsL,eqCells,eqCell,minmaxV,capV,binBV,nilCheckV,bytesV,V.cells,V.stays,Orc.nothing,qe])
      refine Runs.pcall rfl rfl rfl (hA _) ?_
      (refine Runs.of_step Orc.nothing 300 ?_; simp -implicitDefEqProofs only [BB,seval,← decide_not,okind,vpre,vpure,intBin,intPre,strBin,strPre,popTo,argSlots,fldV,fldAV,subCells,idxVV,idxAAV,idxSV,sliceV,sliceSV,boundV,szIs,storeOp,storeS,setRowV,eff,extV,buildV,splice,eqSV,fitsL,eqCells,eqCell,minmaxV,capV,binBV,nilCheckV,bytesV,V.cells,V.stays,Orc.nothing])
      exact RetV.same rfl
  · have qt : (textR l ≠ []) = True := eq_true ht
    have qt2 : (textR l = []) = False := eq_false ht
    obtain rfl := b2 ht
    (refine Runs.of_step Orc.nothing 300 ?_; simp -implicitDefEqProofs only [BB,seval,← decide_not,okind,vpre,vpure,intBin,intPre,strBin,strPre,popTo,argSlots,fldV,fldAV,subCells,idxVV,idxAAV,idxSV,sliceV,sliceSV,boundV,szIs,storeOp,storeS,setRowV,eff,extV,buildV,splice,eqSV,fitsL,eqCells,eqCell,minmaxV,capV,binBV,nilCheckV,bytesV,V.cells,V.stays,Orc.nothing,parseV,qt,qt2])
    refine Runs.pcall rfl rfl rfl (rows_eq m m (by omega) _) ?_
    (refine Runs.of_step Orc.nothing 300 ?_; simp -implicitDefEqProofs only [BB,seval,← decide_not,okind,vpre,vpure,intBin,intPre,strBin,strPre,popTo,argSlots,fldV,fldAV,subCells,idxVV,idxAAV,idxSV,sliceV,sliceSV,boundV,szIs,storeOp,storeS,setRowV,eff,extV,buildV,splice,eqSV,fitsL,eqCells,eqCell,minmaxV,capV,binBV,nilCheckV,bytesV,V.cells,V.stays,Orc.nothing,parseV,qt,qt2])
    refine Runs.pcall rfl rfl rfl (hp2 _) ?_
    cases hp : parseL (s.length + 1) s 1 [] with
    | bad n =>
      have hb := bad_pos _ _ _ _ _ hp
      have qn : ((n : Int) > 0) = True := eq_true (by omega)
      have qz : ((1 : Int) ≠ 0) = True := eq_true (by omega)
      have qe : ((0 : Int) = 0) = True := eq_true rfl
      (refine Runs.of_step Orc.nothing 300 ?_; simp -implicitDefEqProofs only [BB,seval,← decide_not,okind,vpre,vpure,intBin,intPre,strBin,strPre,popTo,argSlots,fldV,fldAV,subCells,idxVV,idxAAV,idxSV,sliceV,sliceSV,boundV,szIs,storeOp,storeS,setRowV,eff,extV,buildV,splice,eqSV,fitsL,eqCells,eqCell,minmaxV,capV,binBV,nilCheckV,bytesV,V.cells,V.stays,Orc.nothing,parseV,hn0,qn,qz,qe])
      refine Runs.pcall rfl rfl rfl (hA _) ?_
      (refine Runs.of_step Orc.nothing 300 ?_; simp -implicitDefEqProofs only [BB,seval,← decide_not,okind,vpre,vpure,intBin,intPre,strBin,strPre,popTo,argSlots,fldV,fldAV,subCells,idxVV,idxAAV,idxSV,sliceV,sliceSV,boundV,szIs,storeOp,storeS,setRowV,eff,extV,buildV,splice,eqSV,fitsL,eqCells,eqCell,minmaxV,capV,binBV,nilCheckV,bytesV,V.cells,V.stays,Orc.nothing])
      exact RetV.same rfl
    | ok acc =>
      obtain ⟨g1, g2, g3⟩ := parse_len hp
      have qz : ((0 : Int) ≠ 0) = False := eq_false (by omega)
      have qe : (textR acc = s) = True := eq_true (by rw [textR_back g2, ← g1])
      (refine Runs.of_step Orc.nothing 300 ?_; simp -implicitDefEqProofs only [BB,seval,← decide_not,okind,vpre,vpure,intBin,intPre,strBin,strPre,popTo,argSlots,fldV,fldAV,subCells,idxVV,idxAAV,idxSV,sliceV,sliceSV,boundV,szIs,storeOp,storeS,setRowV,eff,extV,buildV,splice,eqSV,fitsL,eqCells,eqCell,minmaxV,capV,binBV,nilCheckV,bytesV,V.cells,V.stays,Orc.nothing,parseV,hn0,qz])
      refine Runs.pcall rfl rfl rfl (itext_c acc (by omega) _) ?_
      (refine Runs.of_step Orc.nothing 300 ?_; simp -implicitDefEqProofs only [BB,seval,← decide_not,okind,vpre,vpure,intBin,intPre,strBin,strPre,popTo,argSlots,fldV,fldAV,subCells,idxVV,idxAAV,idxSV,sliceV,sliceSV,boundV,szIs,storeOp,storeS,setRowV,eff,extV,buildV,splice,eqSV,fitsL,eqCells,eqCell,minmaxV,capV,binBV,nilCheckV,bytesV,V.cells,V.stays,Orc.nothing,qe])
      refine Runs.pcall rfl rfl rfl (hA _) ?_
      (refine Runs.of_step Orc.nothing 300 ?_; simp -implicitDefEqProofs only [BB,seval,← decide_not,okind,vpre,vpure,intBin,intPre,strBin,strPre,popTo,argSlots,fldV,fldAV,subCells,idxVV,idxAAV,idxSV,sliceV,sliceSV,boundV,szIs,storeOp,storeS,setRowV,eff,extV,buildV,splice,eqSV,fitsL,eqCells,eqCell,minmaxV,capV,binBV,nilCheckV,bytesV,V.cells,V.stays,Orc.nothing])
      exact RetV.same rfl
end Go.Vc
namespace Go.Vc
inductive Tr (α : Type) where
  | e
  | n (l : Tr α) (v : α) (r : Tr α)
def pathF : Nat → Nat → List Bool
  | 0, _ => []
  | _ + 1, 0 => []
  | f + 1, k + 1 => Nat.beq (Nat.mod k 2) 0 :: pathF f (Nat.div k 2)
def pathOf (k : Nat) : List Bool := pathF (Nat.succ k) k
def getN {α : Type} (d : α) (f : Nat) : List Bool → Tr α → α :=
  @Nat.rec (fun _ => List Bool → Tr α → α) (fun _ _ => d)
    (fun _ ih p t => @List.casesOn Bool (fun _ => α) p (@Tr.casesOn α (fun _ => α) t d (fun _ v _ => v))
      (fun b p' => @Tr.casesOn α (fun _ => α) t d (fun l _ r => ih p' (@Bool.casesOn (fun _ => Tr α) b r l)))) f
def getP {α : Type} (d : α) (k : Nat) (t : Tr α) : α := getN d (Nat.succ k) (pathOf k) t
def setN {α : Type} (d v : α) (f : Nat) : List Bool → Tr α → Tr α :=
  @Nat.rec (fun _ => List Bool → Tr α → Tr α) (fun _ t => t)
    (fun _ ih p t => @List.casesOn Bool (fun _ => Tr α) p (@Tr.casesOn α (fun _ => Tr α) t (.n .e v .e) (fun l _ r => .n l v r))
      (fun b p' => @Tr.casesOn α (fun _ => Tr α) t (@Bool.casesOn (fun _ => Tr α) b (.n .e d (ih p' .e)) (.n (ih p' .e) d .e))
        (fun l u r => @Bool.casesOn (fun _ => Tr α) b (.n l u (ih p' r)) (.n (ih p' l) u r)))) f
def setP {α : Type} (d v : α) (k : Nat) (t : Tr α) : Tr α := setN d v (Nat.succ k) (pathOf k) t
structure CS where
  s : Tr V
  σ : Tr (Option Ob)
  nxt : Nat
def CS.sf (cs : CS) : Nat → V := fun i => getP (.tup []) i cs.s
def stF (σ : Tr (Option Ob)) : Store := fun i => getP none i σ
def setS (cs : CS) (d : Nat) (v : V) : CS := ⟨setP (.tup []) v d cs.s, cs.σ, cs.nxt⟩
def CS.put (cs : CS) (d : Option Nat) (v : V) : CS := @Option.casesOn Nat (fun _ => CS) d cs (fun d => setS cs d v)
def eqQ : Int → Int → Bool
  | .ofNat m, .ofNat n => Nat.beq m n
  | .negSucc m, .negSucc n => Nat.beq m n
  | _, _ => false
def leQ : Int → Int → Bool
  | .ofNat m, .ofNat n => Nat.ble m n
  | .negSucc _, .ofNat _ => true
  | .negSucc m, .negSucc n => Nat.ble n m
  | .ofNat _, .negSucc _ => false
def addQ : Int → Int → Int
  | .ofNat m, .ofNat n => .ofNat (Nat.add m n)
  | a, b => a + b
def subQ : Int → Int → Int
  | .ofNat m, .ofNat n => @Bool.casesOn (fun _ => Int) (Nat.ble n m) (.negSucc (Nat.sub (Nat.sub n m) 1)) (.ofNat (Nat.sub m n))
  | a, b => a - b
def in64 : Int → Bool
  | .ofNat m => Nat.ble m 9223372036854775807
  | .negSucc m => Nat.ble m 9223372036854775807
def inRB (k : IntKind) (n : Int) : Bool := match k with
  | .i64 => in64 n
  | k => decide (k.wrap n = n)
def gI (k : IntKind) (n : Int) : Option V := @Bool.casesOn (fun _ => Option V) (inRB k n) none (some (.int k n))
def eqK (k k' : IntKind) : Bool := decide (k = k')
def is64 : IntKind → Bool
  | .i64 => true
  | _ => false
structure FI where
  f : IntKind → Int → Int → Option V
def intBinQ (op : BinOp) : FI :=
  match op with
  | .add => ⟨fun k a b => gI k (addQ a b)⟩
  | .sub => ⟨fun k a b => gI k (subQ a b)⟩
  | .mul => ⟨fun k a b => gI k (a * b)⟩
  | .quo => ⟨fun k a b => if b = 0 then none else gI k (a.tdiv b)⟩
  | .rem => ⟨fun k a b => if b = 0 then none else some (.int k (a.tmod b))⟩
  | .eql => ⟨fun _ a b => some (.bool (eqQ a b))⟩
  | .neq => ⟨fun _ a b => some (.bool (not (eqQ a b)))⟩
  | .lss => ⟨fun _ a b => some (.bool (not (leQ b a)))⟩
  | .leq => ⟨fun _ a b => some (.bool (leQ a b))⟩
  | .gtr => ⟨fun _ a b => some (.bool (not (leQ a b)))⟩
  | .geq => ⟨fun _ a b => some (.bool (leQ b a))⟩
  | .and => ⟨fun k a b => intBin .and k a b⟩
  | .or => ⟨fun k a b => intBin .or k a b⟩
  | .shl => ⟨fun k a b => intBin .shl k a b⟩
  | .shr => ⟨fun k a b => intBin .shr k a b⟩
  | _ => ⟨fun _ _ _ => none⟩
def strBinQ (op : BinOp) (a b : List UInt8) : Option V :=
  match op with
  | .add => @Bool.casesOn (fun _ => Option V) (Nat.ble (a.length + b.length) 9223372036854775807) none (some (.str (a ++ b)))
  | .eql => some (.bool (decide (a = b)))
  | .neq => some (.bool (decide (a ≠ b)))
  | _ => none
def sameK (k k' : IntKind) : Bool := @Bool.casesOn (fun _ => Bool) (is64 k) (eqK k k') (is64 k')
def binI (k : IntKind) (a : Int) (g : IntKind → Int → Int → Option V) : V → Option V
  | .int k' b => @Bool.casesOn (fun _ => Option V) (sameK k k') none (g k a b)
  | _ => none
def binS (op : BinOp) (a : List UInt8) : V → Option V
  | .str b => strBinQ op a b
  | _ => none
def binQ (op : BinOp) (g : IntKind → Int → Int → Option V) (y : V) : V → Option V
  | .int k a => binI k a g y
  | .str a => binS op a y
  | _ => none
def negQ : V → Option V
  | .int k a => gI k (0 - a)
  | _ => none
def convQ (k : IntKind) : V → Option V
  | .int _ a => gI k a
  | _ => none
def notQ : V → Option V
  | .bool b => some (.bool (!b))
  | _ => none
def pickQ (a b : V) : V → Option V
  | .bool t => some (@Bool.casesOn (fun _ => V) t b a)
  | _ => none
def natQ : Int → Option Nat
  | .ofNat m => some m
  | _ => none
def idxQ (σ : Tr (Option Ob)) (esz : Nat) (x i : V) : Option V :=
  match x, i with
  | .own id off len, .int _ j => match natQ j with
    | some m => match getP none id σ with
      | some ob => @Bool.casesOn (fun _ => Option V) (Nat.beq ob.sz esz && Nat.blt m len) none (some (.ptr id (Nat.add off m) 0))
      | none => none
    | none => none
  | .sl sz rows, .int _ j => match natQ j with
    | some m => @Bool.casesOn (fun _ => Option V) (Nat.beq sz esz) none (match rows[m]? with
      | some r => some (.rp r)
      | none => none)
    | none => none
  | _, _ => none
def loadQ (σ : Tr (Option Ob)) (agg : Bool) (sz : Nat) (x : V) : Option V :=
  match x with
  | .ptr id i k => match getP none id σ with
    | some ob => match ob.rows[i]? with
      | some r => match agg with
        | true => @Bool.casesOn (fun _ => Option V) (Nat.beq k 0 && Nat.beq r.cells.length sz)
            (@Bool.casesOn (fun _ => Option V) (Nat.ble (Nat.add k sz) r.cells.length) none (some (.agg ((r.cells.drop k).take sz)))) (some (.agg r.cells))
        | false => r.cells[k]?
      | none => none
    | none => none
  | x => loadV (stF σ) agg sz x
def idxSQ : V → V → Option V
  | .str s, .int _ j => match natQ j with
    | some m => match s[m]? with
      | some b => some (.int .u8 (Int.ofNat b.toNat))
      | none => none
    | none => none
  | _, _ => none
structure Mk where
  var : Bool
  len : Nat
  gone : Option Nat
  ob : Ob
def boxQ (e sz : Nat) (x : V) : Option Mk := @Bool.casesOn (fun _ => Option Mk) (Nat.beq x.cells.length sz && x.stays) none (some ⟨true, 0, none, ⟨e, sz, [x]⟩⟩)
def bsliceQ (e sz : Nat) (xs : List V) : Option Mk := @Bool.casesOn (fun _ => Option Mk) (xs.all fun x => Nat.beq x.cells.length sz && x.stays) none (some ⟨false, xs.length, none, ⟨e, sz, xs⟩⟩)
def mkQ (e sz bytes : Nat) (z : V) : V → Option Mk
  | .int k m => match k with
    | .i64 => match natQ m with
      | some j => @Bool.casesOn (fun _ => Option Mk) (Nat.ble (j * (bytes + 1)) 140737488355328) none (some ⟨false, j, none, ⟨e, sz, List.replicate j z⟩⟩)
      | none => none
    | _ => none
  | _ => none
def appendQ (σ : Tr (Option Ob)) (e sz bytes : Nat) (a b : V) : Option Mk := match dstRows (stF σ) e sz a, srcRows (stF σ) sz b with
  | some (base, idA), some src => @Bool.casesOn (fun _ => Option Mk) (Nat.ble ((base.length + src.length) * (bytes + 1)) 140737488355328) none (some ⟨false, base.length + src.length, idA, ⟨e, sz, base ++ src⟩⟩)
  | _, _ => none
def addRow (fl : Nat) (dst : Option Nat) (cs : CS) (m : Mk) : Option CS :=
  match m.gone with
  | none => some (CS.put ⟨cs.s, setP none (some m.ob) cs.nxt cs.σ, Nat.succ cs.nxt⟩ dst (@Bool.casesOn (fun _ => V) m.var (.own cs.nxt 0 m.len) (.ptr cs.nxt 0 0)))
  | some d => @Bool.casesOn (fun _ => Option CS) (Nat.ble fl d) none
      (some (CS.put ⟨cs.s, setP none (some m.ob) cs.nxt (setP none none d cs.σ), Nat.succ cs.nxt⟩ dst (@Bool.casesOn (fun _ => V) m.var (.own cs.nxt 0 m.len) (.ptr cs.nxt 0 0))))
inductive Out where
  | nx (cs : CS)
  | ex (id : Nat) (cs : CS)
  | rt (cs : CS)
  | bad
structure Rs where
  v : V
  σ : Tr (Option Ob)
  nxt : Nat
def CallT := FuncId → List V → Tr (Option Ob) → Nat → Nat → Option Rs
structure BI where
  f : CallT → Nat → CS → Option CS
def pureB (dst : Option Nat) (g : CS → Option V) : BI := ⟨fun _ _ cs => match g cs with
  | some v => some (cs.put dst v)
  | none => none⟩
def movB (dst : Option Nat) (x : VX) : BI := ⟨fun _ _ cs => some (cs.put dst (x.ev cs.sf))⟩
def rowB (dst : Option Nat) (g : CS → Option Mk) : BI := ⟨fun _ fl cs => match g cs with
  | some m => addRow fl dst cs m
  | none => none⟩
def callIn (dst : Option Nat) (cs : CS) : Option Rs → Option CS
  | some r => some (CS.put ⟨cs.s, r.σ, r.nxt⟩ dst r.v)
  | none => none
def callInD (dst : Option Nat) (cs : CS) : Option Rs → Option CS
  | some r => @Bool.casesOn (fun _ => Option CS) r.v.noid none (some (cs.put dst r.v))
  | none => none
def callB (draw : Bool) (dst : Option Nat) (fx : VX) (xs : List VX) : BI := match draw with
  | true => ⟨fun call _ cs => match fx.ev cs.sf with
    | .fn f caps => callInD dst cs (call f (xs.map (·.ev cs.sf) ++ caps) cs.σ cs.nxt cs.nxt)
    | _ => none⟩
  | false => ⟨fun call fl cs => match fx.ev cs.sf with
    | .fn f caps => callIn dst cs (call f (xs.map (·.ev cs.sf) ++ caps) cs.σ cs.nxt fl)
    | _ => none⟩
def storeIn (dst : Option Nat) (fl sz : Nat) (xv : V) (cs : CS) : V → Option CS
  | .ptr id i0 c => @Bool.casesOn (fun _ => Option CS) (Nat.ble fl id) none (match getP none id cs.σ with
    | some ob => match ob.rows[i0]? with
      | some r => match setRowV r c sz xv with
        | some r' => some (CS.put ⟨cs.s, setP none (some ⟨ob.elem, ob.sz, ob.rows.set i0 r'⟩) id cs.σ, cs.nxt⟩ dst (.tup []))
        | none => none
      | none => none
    | none => none)
  | _ => none
def storeB (dst : Option Nat) (sz : Nat) (xa xv : VX) : BI := ⟨fun _ fl cs => storeIn dst fl sz (xv.ev cs.sf) cs (xa.ev cs.sf)⟩
def clearIn (dst : Option Nat) (fl sz : Nat) (z : V) (cs : CS) : V → Option CS
  | .own id off len => @Bool.casesOn (fun _ => Option CS) (Nat.ble fl id) none (match getP none id cs.σ with
    | some ob => @Bool.casesOn (fun _ => Option CS) (Nat.beq ob.sz sz && Nat.ble (off + len) ob.rows.length) none
        (some (CS.put ⟨cs.s, setP none (some ⟨ob.elem, ob.sz, ob.rows.take off ++ List.replicate len z ++ ob.rows.drop (off + len)⟩) id cs.σ, cs.nxt⟩ dst (.tup [])))
    | none => none)
  | _ => none
def clearB (draw : Bool) (dst : Option Nat) (sz : Nat) (z : V) (xv : VX) : BI := match draw with
  | true => ⟨fun _ _ _ => none⟩
  | false => ⟨fun _ fl cs => clearIn dst fl sz z cs (xv.ev cs.sf)⟩
def compO (draw : Bool) (dst : Option Nat) (op : VOp) : BI := match op with
  | .mov x => movB dst x
  | .pick c a b => pureB dst fun cs => pickQ (a.ev cs.sf) (b.ev cs.sf) (c.ev cs.sf)
  | .bin op x y => @FI.casesOn (fun _ => BI) (intBinQ op) fun g => pureB dst fun cs => binQ op g (y.ev cs.sf) (x.ev cs.sf)
  | .not x => pureB dst fun cs => notQ (x.ev cs.sf)
  | .neg x => pureB dst fun cs => negQ (x.ev cs.sf)
  | .convI k x => pureB dst fun cs => convQ k (x.ev cs.sf)
  | .idxA esz x i => pureB dst fun cs => idxQ cs.σ esz (x.ev cs.sf) (i.ev cs.sf)
  | .idxS x i => pureB dst fun cs => idxSQ (x.ev cs.sf) (i.ev cs.sf)
  | .load agg sz x => pureB dst fun cs => loadQ cs.σ agg sz (x.ev cs.sf)
  | .box e sz x => rowB dst fun cs => boxQ e sz (x.ev cs.sf)
  | .alloc e sz z => rowB dst fun _ => some ⟨true, 0, none, ⟨e, sz, [z]⟩⟩
  | .bslice e sz xs => rowB dst fun cs => bsliceQ e sz (xs.map (·.ev cs.sf))
  | .mk e sz bytes z x => rowB dst fun cs => mkQ e sz bytes z (x.ev cs.sf)
  | .append e sz bytes a b => rowB dst fun cs => appendQ cs.σ e sz bytes (a.ev cs.sf) (b.ev cs.sf)
  | .call f xs => callB draw dst f xs
  | .store sz a x => storeB dst sz a x
  | .clear sz z x => clearB draw dst sz z x
  | op => pureB dst fun cs => vpure (stF cs.σ) cs.sf op
def guardB (dst : Option Nat) (b : Bool) (B : BI) (call : CallT) (fl : Nat) (cs : CS) : V → Option CS
  | .bool c => @Bool.casesOn (fun _ => Option CS) (Bool.xor c b) (B.f call fl cs) (some (cs.put dst (.tup [])))
  | .tup [] => some (cs.put dst (.tup []))
  | .int _ _ => some (cs.put dst (.tup []))
  | _ => none
def compI (draw : Bool) (i : VIns) : BI := match i.g with
  | none => compO draw i.dst i.op
  | some (x, b) => ⟨fun call fl cs => guardB i.dst b (compO draw i.dst i.op) call fl cs (x.ev cs.sf)⟩
def Tr.ofL : List V → Nat → Tr V → Tr V
  | [], _, t => t
  | v :: l, k, t => Tr.ofL l (Nat.succ k) (setP (.tup []) v k t)
def resQ (res : List VR) (cs : CS) : Option Rs := match resV ⟨cs.sf, stF cs.σ⟩ res with
  | some v => some ⟨v, cs.σ, cs.nxt⟩
  | none => none
def outQ (res : List VR) : Out → Option Rs
  | .nx cs => resQ res cs
  | .rt cs => resQ res cs
  | _ => none
def onNx (o : Out) (k : CS → Out) : Out := @Out.casesOn (fun _ => Out) o k (fun id cs => .ex id cs) (fun cs => .rt cs) .bad
def onEx (id : Nat) (o : Out) : Out := @Out.casesOn (fun _ => Out) o (fun cs => .nx cs) (fun j cs => @Bool.casesOn (fun _ => Out) (Nat.beq j id) (.ex j cs) (.nx cs)) (fun cs => .rt cs) .bad
def onB (v : V) (a b : Out) : Out := match v with
  | .bool c => @Bool.casesOn (fun _ => Out) c b a
  | _ => .bad
end Go.Vc
namespace Go.Vc
def gL {α : Type} (d : α) : List Bool → Tr α → α
  | _, .e => d
  | [], .n _ v _ => v
  | b :: p, .n l _ r => gL d p (if b then l else r)
def sL {α : Type} (d v : α) : List Bool → Tr α → Tr α
  | [], .e => .n .e v .e
  | [], .n l _ r => .n l v r
  | b :: p, .e => if b then .n (sL d v p .e) d .e else .n .e d (sL d v p .e)
  | b :: p, .n l u r => if b then .n (sL d v p l) u r else .n l u (sL d v p r)
theorem getN_eq {α : Type} (d : α) : ∀ (f : Nat) (p : List Bool) (t : Tr α), p.length < f → getN d f p t = gL d p t
  | 0, _, _, h => by omega
  | f + 1, [], t, _ => by cases t <;> rfl
  | f + 1, b :: p, t, h => by
    cases t with
    | e => rfl
    | n l u r =>
      have ih := getN_eq d f p (if b then l else r) (by simpa using h)
      cases b <;> exact ih
theorem setN_eq {α : Type} (d v : α) : ∀ (f : Nat) (p : List Bool) (t : Tr α), p.length < f → setN d v f p t = sL d v p t
  | 0, _, _, h => by omega
  | f + 1, [], t, _ => by cases t <;> rfl
  | f + 1, b :: p, t, h => by
    have h' : p.length < f := by simpa using h
    cases t with
    | e => cases b <;> simp only [sL, Bool.false_eq_true, if_false, if_true] <;> rw [← setN_eq d v f p _ h'] <;> rfl
    | n l u r => cases b <;> simp only [sL, Bool.false_eq_true, if_false, if_true] <;> rw [← setN_eq d v f p _ h'] <;> rfl
theorem gL_e {α : Type} (d : α) (p : List Bool) : gL d p .e = d := by cases p <;> rfl
theorem gL_sL {α : Type} (d v : α) : ∀ (p q : List Bool) (t : Tr α), gL d q (sL d v p t) = if q = p then v else gL d q t
  | [], [], t => by cases t <;> simp [sL, gL]
  | [], b :: q, t => by cases t <;> simp [sL, gL, gL_e]
  | a :: p, [], t => by cases t <;> cases a <;> simp [sL, gL]
  | a :: p, b :: q, t => by
    cases t with
    | e =>
      have ih := gL_sL d v p q .e
      cases a <;> cases b <;> simp [sL, gL, gL_e, ih]
    | n l u r =>
      have ihl := gL_sL d v p q l
      have ihr := gL_sL d v p q r
      cases a <;> cases b <;> simp [sL, gL, ihl, ihr]
def pval : List Bool → Nat
  | [] => 0
  | b :: p => 2 * pval p + (if b then 1 else 2)
theorem pval_path : ∀ (f k : Nat), k < f → pval (pathF f k) = k
  | 0, _, h => by omega
  | f + 1, 0, _ => rfl
  | f + 1, k + 1, h => by
    have ih := pval_path f (k / 2) (by omega)
    have ih' : pval (pathF f (k.div 2)) = k / 2 := ih
    simp only [pathF, pval, ih']
    have h1 : Nat.mod k 2 = k % 2 := rfl
    by_cases hk : k % 2 = 0
    · have : Nat.beq (Nat.mod k 2) 0 = true := by rw [h1, hk]; rfl
      simp only [this, if_true]; omega
    · have hk1 : k % 2 = 1 := by omega
      have : Nat.beq (Nat.mod k 2) 0 = false := by rw [h1, hk1]; rfl
      simp only [this, Bool.false_eq_true, if_false]; omega
theorem plen : ∀ p : List Bool, p.length ≤ pval p
  | [] => Nat.le_refl _
  | b :: p => by have := plen p; simp only [List.length_cons, pval]; split <;> omega
theorem pathOf_len (k : Nat) : (pathOf k).length < k.succ := by
  have h1 := plen (pathOf k)
  have h2 : pval (pathOf k) = k := pval_path (k + 1) k (by omega)
  omega
theorem pathOf_inj {i k : Nat} (h : pathOf i = pathOf k) : i = k := by
  have h1 : pval (pathOf i) = i := pval_path (i + 1) i (by omega)
  have h2 : pval (pathOf k) = k := pval_path (k + 1) k (by omega)
  rw [← h1, ← h2, h]
theorem getP_set {α : Type} (d v : α) (i k : Nat) (t : Tr α) : getP d i (setP d v k t) = if i = k then v else getP d i t := by
  unfold getP setP
  rw [getN_eq _ _ _ _ (pathOf_len i), getN_eq _ _ _ _ (pathOf_len i), setN_eq _ _ _ _ _ (pathOf_len k), gL_sL]
  by_cases h : i = k
  · simp [h]
  · rw [if_neg h, if_neg (fun e => h (pathOf_inj e))]
theorem getP_e {α : Type} (d : α) (i : Nat) : getP d i .e = d := by
  unfold getP
  rw [getN_eq _ _ _ _ (pathOf_len i), gL_e]
theorem sf_put (cs : CS) (d : Option Nat) (v : V) : (cs.put d v).sf = putO cs.sf d v := by
  funext i
  cases d with
  | none => rfl
  | some d => show getP _ i (setP _ v d cs.s) = _; rw [getP_set]; rfl
theorem put_σ (cs : CS) (d : Option Nat) (v : V) : (cs.put d v).σ = cs.σ ∧ (cs.put d v).nxt = cs.nxt := by cases d <;> exact ⟨rfl, rfl⟩
theorem stF_set (σ : Tr (Option Ob)) (k : Nat) (o : Ob) : stF (setP none (some o) k σ) = upd (stF σ) k o := by
  funext i; show getP none i _ = _; rw [getP_set]; rfl
theorem stF_del (σ : Tr (Option Ob)) (k : Nat) : stF (setP none none k σ) = del (stF σ) k := by
  funext i; show getP none i _ = _; rw [getP_set]; rfl
mutual
def VRel (R : Nat → Nat → Prop) : V → V → Prop
  | .own id off len, u => ∃ id', u = .own id' off len ∧ R id id'
  | .ptr id i k, u => ∃ id', u = .ptr id' i k ∧ R id id'
  | .sl sz rows, u => ∃ rows', u = .sl sz rows' ∧ VRelL R rows rows'
  | .rp v, u => ∃ v', u = .rp v' ∧ VRel R v v'
  | .fn f caps, u => ∃ caps', u = .fn f caps' ∧ VRelL R caps caps'
  | .bm f caps, u => ∃ caps', u = .bm f caps' ∧ VRelL R caps caps'
  | .iface t v, u => ∃ v', u = .iface t v' ∧ VRel R v v'
  | .agg c, u => ∃ c', u = .agg c' ∧ VRelL R c c'
  | .tup c, u => ∃ c', u = .tup c' ∧ VRelL R c c'
  | .undef, u => u = .undef
  | .int k n, u => u = .int k n
  | .bool b, u => u = .bool b
  | .str s, u => u = .str s
  | .nils, u => u = .nils
  | .nilp, u => u = .nilp
  | .nilfn, u => u = .nilfn
  | .niliface, u => u = .niliface
  | .raw v, u => u = .raw v
  | .obj v, u => u = .obj v
  | .gp v, u => u = .gp v
  | .yl v, u => ∃ id', u = .yl id' ∧ R v id'
  | .mp v, u => u = .mp v
def VRelL (R : Nat → Nat → Prop) : List V → List V → Prop
  | [], l => l = []
  | v :: vs, l => ∃ u us, l = u :: us ∧ VRel R v u ∧ VRelL R vs us
end
section
variable {R R' : Nat → Nat → Prop}
mutual
theorem VRel.mono (h : ∀ a b, R a b → R' a b) : ∀ (v u : V), VRel R v u → VRel R' v u
  | .own id off len, u, g => by simp only [VRel] at g ⊢; obtain ⟨i, e, r⟩ := g; exact ⟨i, e, h _ _ r⟩
  | .ptr id i k, u, g => by simp only [VRel] at g ⊢; obtain ⟨i, e, r⟩ := g; exact ⟨i, e, h _ _ r⟩
  | .sl sz rows, u, g => by simp only [VRel] at g ⊢; obtain ⟨i, e, r⟩ := g; exact ⟨i, e, VRelL.mono h _ _ r⟩
  | .rp v, u, g => by simp only [VRel] at g ⊢; obtain ⟨i, e, r⟩ := g; exact ⟨i, e, VRel.mono h _ _ r⟩
  | .fn f caps, u, g => by simp only [VRel] at g ⊢; obtain ⟨i, e, r⟩ := g; exact ⟨i, e, VRelL.mono h _ _ r⟩
  | .bm f caps, u, g => by simp only [VRel] at g ⊢; obtain ⟨i, e, r⟩ := g; exact ⟨i, e, VRelL.mono h _ _ r⟩
  | .iface t v, u, g => by simp only [VRel] at g ⊢; obtain ⟨i, e, r⟩ := g; exact ⟨i, e, VRel.mono h _ _ r⟩
  | .agg c, u, g => by simp only [VRel] at g ⊢; obtain ⟨i, e, r⟩ := g; exact ⟨i, e, VRelL.mono h _ _ r⟩
  | .tup c, u, g => by simp only [VRel] at g ⊢; obtain ⟨i, e, r⟩ := g; exact ⟨i, e, VRelL.mono h _ _ r⟩
  | .undef, u, g => by simpa [VRel] using g
  | .int k n, u, g => by simpa [VRel] using g
  | .bool b, u, g => by simpa [VRel] using g
  | .str s, u, g => by simpa [VRel] using g
  | .nils, u, g => by simpa [VRel] using g
  | .nilp, u, g => by simpa [VRel] using g
  | .nilfn, u, g => by simpa [VRel] using g
  | .niliface, u, g => by simpa [VRel] using g
  | .raw v, u, g => by simpa [VRel] using g
  | .obj v, u, g => by simpa [VRel] using g
  | .gp v, u, g => by simpa [VRel] using g
  | .yl v, u, g => by simp only [VRel] at g ⊢; obtain ⟨i, e, r⟩ := g; exact ⟨i, e, h _ _ r⟩
  | .mp v, u, g => by simpa [VRel] using g
theorem VRelL.mono (h : ∀ a b, R a b → R' a b) : ∀ (v u : List V), VRelL R v u → VRelL R' v u
  | [], u, g => by simpa [VRelL] using g
  | v :: vs, u, g => by
    simp only [VRelL] at g ⊢
    obtain ⟨a, as1, e, r, rs⟩ := g
    exact ⟨a, as1, e, VRel.mono h _ _ r, VRelL.mono h _ _ rs⟩
end
mutual
theorem noid_refl : ∀ (v : V), v.noid = true → VRel R v v
  | .own .., g => by simp [V.noid] at g
  | .ptr .., g => by simp [V.noid] at g
  | .sl sz rows, g => by simp only [V.noid] at g; simp only [VRel]; exact ⟨rows, rfl, noidL_refl rows g⟩
  | .rp v, g => by simp only [V.noid] at g; simp only [VRel]; exact ⟨v, rfl, noid_refl v g⟩
  | .fn f caps, g => by simp only [V.noid] at g; simp only [VRel]; exact ⟨caps, rfl, noidL_refl caps g⟩
  | .bm f caps, g => by simp only [V.noid] at g; simp only [VRel]; exact ⟨caps, rfl, noidL_refl caps g⟩
  | .iface t v, g => by simp only [V.noid] at g; simp only [VRel]; exact ⟨v, rfl, noid_refl v g⟩
  | .agg c, g => by simp only [V.noid] at g; simp only [VRel]; exact ⟨c, rfl, noidL_refl c g⟩
  | .tup c, g => by simp only [V.noid] at g; simp only [VRel]; exact ⟨c, rfl, noidL_refl c g⟩
  | .undef, _ => by simp [VRel]
  | .int k n, _ => by simp [VRel]
  | .bool b, _ => by simp [VRel]
  | .str s, _ => by simp [VRel]
  | .nils, _ => by simp [VRel]
  | .nilp, _ => by simp [VRel]
  | .nilfn, _ => by simp [VRel]
  | .niliface, _ => by simp [VRel]
  | .raw v, _ => by simp [VRel]
  | .obj v, _ => by simp [VRel]
  | .gp v, _ => by simp [VRel]
  | .yl v, g => by simp [V.noid] at g
  | .mp v, _ => by simp [VRel]
theorem noidL_refl : ∀ (l : List V), noidL l = true → VRelL R l l
  | [], _ => by simp [VRelL]
  | v :: vs, g => by
    simp only [noidL, Bool.and_eq_true] at g
    simp only [VRelL]
    exact ⟨v, vs, rfl, noid_refl v g.1, noidL_refl vs g.2⟩
end
mutual
theorem noid_eq : ∀ (v u : V), v.noid = true → VRel R v u → u = v
  | .own .., _, g, _ => by simp [V.noid] at g
  | .ptr .., _, g, _ => by simp [V.noid] at g
  | .sl sz rows, u, g, h => by simp only [V.noid] at g; simp only [VRel] at h; obtain ⟨r, rfl, h⟩ := h; rw [noidL_eq rows r g h]
  | .rp v, u, g, h => by simp only [V.noid] at g; simp only [VRel] at h; obtain ⟨r, rfl, h⟩ := h; rw [noid_eq v r g h]
  | .fn f caps, u, g, h => by simp only [V.noid] at g; simp only [VRel] at h; obtain ⟨r, rfl, h⟩ := h; rw [noidL_eq caps r g h]
  | .bm f caps, u, g, h => by simp only [V.noid] at g; simp only [VRel] at h; obtain ⟨r, rfl, h⟩ := h; rw [noidL_eq caps r g h]
  | .iface t v, u, g, h => by simp only [V.noid] at g; simp only [VRel] at h; obtain ⟨r, rfl, h⟩ := h; rw [noid_eq v r g h]
  | .agg c, u, g, h => by simp only [V.noid] at g; simp only [VRel] at h; obtain ⟨r, rfl, h⟩ := h; rw [noidL_eq c r g h]
  | .tup c, u, g, h => by simp only [V.noid] at g; simp only [VRel] at h; obtain ⟨r, rfl, h⟩ := h; rw [noidL_eq c r g h]
  | .undef, u, _, h => by simpa [VRel] using h
  | .int k n, u, _, h => by simpa [VRel] using h
  | .bool b, u, _, h => by simpa [VRel] using h
  | .str s, u, _, h => by simpa [VRel] using h
  | .nils, u, _, h => by simpa [VRel] using h
  | .nilp, u, _, h => by simpa [VRel] using h
  | .nilfn, u, _, h => by simpa [VRel] using h
  | .niliface, u, _, h => by simpa [VRel] using h
  | .raw v, u, _, h => by simpa [VRel] using h
  | .obj v, u, _, h => by simpa [VRel] using h
  | .gp v, u, _, h => by simpa [VRel] using h
  | .yl v, _, g, _ => by simp [V.noid] at g
  | .mp v, u, _, h => by simpa [VRel] using h
theorem noidL_eq : ∀ (l m : List V), noidL l = true → VRelL R l m → m = l
  | [], m, _, h => by simpa [VRelL] using h
  | v :: vs, m, g, h => by
    simp only [noidL, Bool.and_eq_true] at g
    simp only [VRelL] at h
    obtain ⟨u, us, rfl, h1, h2⟩ := h
    rw [noid_eq v u g.1 h1, noidL_eq vs us g.2 h2]
end
theorem VRelL.nil_iff {l : List V} : VRelL R [] l ↔ l = [] := by simp [VRelL]
theorem VRelL.cons_iff {v : V} {vs l : List V} : VRelL R (v :: vs) l ↔ ∃ u us, l = u :: us ∧ VRel R v u ∧ VRelL R vs us := by simp [VRelL]
theorem VRelL.length : ∀ {l m : List V}, VRelL R l m → m.length = l.length
  | [], _, h => by rw [VRelL.nil_iff] at h; simp [h]
  | v :: vs, _, h => by obtain ⟨u, us, rfl, _, h2⟩ := VRelL.cons_iff.1 h; simp [h2.length]
theorem VRelL.get : ∀ {l m : List V}, VRelL R l m → ∀ {i : Nat} {v : V}, l[i]? = some v → ∃ u, m[i]? = some u ∧ VRel R v u
  | [], _, _, i, v, hv => by simp at hv
  | v :: vs, _, h, i, x, hv => by
    obtain ⟨u, us, rfl, h1, h2⟩ := VRelL.cons_iff.1 h
    cases i with
    | zero => simp at hv; subst hv; exact ⟨u, by simp, h1⟩
    | succ i => simp at hv; simpa using h2.get hv
theorem VRelL.append : ∀ {l m l' m' : List V}, VRelL R l m → VRelL R l' m' → VRelL R (l ++ l') (m ++ m')
  | [], _, _, _, h, h' => by rw [VRelL.nil_iff] at h; subst h; simpa using h'
  | v :: vs, _, _, _, h, h' => by
    obtain ⟨u, us, rfl, h1, h2⟩ := VRelL.cons_iff.1 h
    exact VRelL.cons_iff.2 ⟨u, us ++ _, by simp, h1, h2.append h'⟩
theorem VRelL.take : ∀ {l m : List V}, VRelL R l m → ∀ i, VRelL R (l.take i) (m.take i)
  | [], _, h, i => by rw [VRelL.nil_iff] at h; subst h; simp [VRelL]
  | v :: vs, _, h, i => by
    obtain ⟨u, us, rfl, h1, h2⟩ := VRelL.cons_iff.1 h
    cases i with
    | zero => simp [VRelL]
    | succ i => exact VRelL.cons_iff.2 ⟨u, us.take i, by simp, h1, h2.take i⟩
theorem VRelL.drop : ∀ {l m : List V}, VRelL R l m → ∀ i, VRelL R (l.drop i) (m.drop i)
  | [], _, h, i => by rw [VRelL.nil_iff] at h; subst h; simp [VRelL]
  | v :: vs, _, h, i => by
    obtain ⟨u, us, rfl, h1, h2⟩ := VRelL.cons_iff.1 h
    cases i with
    | zero => exact VRelL.cons_iff.2 ⟨u, us, by simp, h1, h2⟩
    | succ i => simpa using h2.drop i
theorem VRelL.set : ∀ {l m : List V}, VRelL R l m → ∀ (i : Nat) {v u : V}, VRel R v u → VRelL R (l.set i v) (m.set i u)
  | [], _, h, i, _, _, _ => by rw [VRelL.nil_iff] at h; subst h; simp [VRelL]
  | v :: vs, _, h, i, x, y, hx => by
    obtain ⟨u, us, rfl, h1, h2⟩ := VRelL.cons_iff.1 h
    cases i with
    | zero => exact VRelL.cons_iff.2 ⟨y, us, by simp, hx, h2⟩
    | succ i => exact VRelL.cons_iff.2 ⟨u, us.set i y, by simp, h1, h2.set i hx⟩
theorem VRelL.replicate {v u : V} (h : VRel R v u) : ∀ n, VRelL R (List.replicate n v) (List.replicate n u)
  | 0 => by simp [VRelL]
  | n + 1 => VRelL.cons_iff.2 ⟨u, List.replicate n u, by simp [List.replicate_succ], h, VRelL.replicate h n⟩
theorem VRelL.one {v u : V} (h : VRel R v u) : VRelL R [v] [u] := VRelL.cons_iff.2 ⟨u, [], rfl, h, by simp [VRelL]⟩
theorem VRel.int_iff {k : IntKind} {n : Int} {u : V} : VRel R (.int k n) u ↔ u = .int k n := by simp [VRel]
theorem VRel.bool_iff {b : Bool} {u : V} : VRel R (.bool b) u ↔ u = .bool b := by simp [VRel]
theorem VRel.str_iff {b : List UInt8} {u : V} : VRel R (.str b) u ↔ u = .str b := by simp [VRel]
theorem VRel.agg_iff {b : List V} {u : V} : VRel R (.agg b) u ↔ ∃ c, u = .agg c ∧ VRelL R b c := by simp [VRel]
theorem VRel.agg {l m : List V} (h : VRelL R l m) : VRel R (.agg l) (.agg m) := VRel.agg_iff.2 ⟨m, rfl, h⟩
theorem VRel.rp {l m : V} (h : VRel R l m) : VRel R (.rp l) (.rp m) := by simp only [VRel]; exact ⟨m, rfl, h⟩
theorem VRel.cells {v u : V} (h : VRel R v u) : VRelL R v.cells u.cells := by
  cases v <;> simp only [VRel] at h
  case agg c => obtain ⟨c', rfl, h⟩ := h; simpa [V.cells] using h
  all_goals first
    | (subst h; exact VRelL.one (by simp [VRel]))
    | (obtain ⟨c, rfl, h⟩ := h; exact VRelL.one (by simp only [VRel]; exact ⟨_, rfl, h⟩))
theorem VRel.stays {v u : V} (h : VRel R v u) : u.stays = v.stays := by
  cases v <;> simp only [VRel] at h <;> first
    | (subst h; rfl)
    | (obtain ⟨c, rfl, h⟩ := h; rfl)
end
end Go.Vc
namespace Go.Vc
def Lv (R : Nat → Nat → Prop) (σc σ : Store) : Prop := ∀ c a o, R c a → σc c = some o → ∃ rows', σ a = some ⟨o.elem, o.sz, rows'⟩ ∧ VRelL R o.rows rows'
theorem Lv.sup {R : Nat → Nat → Prop} {σc σ σ1 : Store} (h : Lv R σc σ) (hs : SubStore σ σ1) : Lv R σc σ1 := fun c a o hc ho => by
  obtain ⟨rows', h1, h2⟩ := h c a o hc ho
  exact ⟨rows', hs _ _ h1, h2⟩
structure MRel (K : Store) (fl : Nat) (R : Nat → Nat → Prop) (σc : Store) (nxt : Nat) (σ : Store) : Prop where
  dom : ∀ c a, R c a → c < nxt
  live : Lv R σc σ
  inj : ∀ c c' a o o', R c a → R c' a → σc c = some o → σc c' = some o' → c = c'
  fn : ∀ c a a', R c a → R c a' → a = a'
  keep : SubStore K σ
  kfl : ∀ a o c oc, K a = some o → R c a → σc c = some oc → c < fl
section
variable {R : Nat → Nat → Prop} {K σc σ : Store} {fl nxt : Nat}
theorem MRel.write (h : MRel K fl R σc nxt σ) {c a : Nat} {o : Ob} (hc : R c a) (ho : σc c = some o) (hf : fl ≤ c) {rows rows' : List V} (hr : VRelL R rows rows') :
    MRel K fl R (upd σc c ⟨o.elem, o.sz, rows⟩) nxt (upd σ a ⟨o.elem, o.sz, rows'⟩) := by
  have hlive : ∀ i x, upd σc c ⟨o.elem, o.sz, rows⟩ i = some x → ∃ y, σc i = some y := fun i x hx => by
    by_cases e : i = c
    · rw [e]; exact ⟨o, ho⟩
    · rw [upd_ne e] at hx; exact ⟨x, hx⟩
  refine ⟨h.dom, ?_, ?_, ?_, ?_, ?_⟩
  · intro c1 a1 o1 h1 h2
    by_cases e : c1 = c
    · subst e
      have : a1 = a := h.fn c1 a1 a h1 hc
      subst this
      rw [upd_same] at h2
      simp only [Option.some.injEq] at h2
      subst h2
      exact ⟨rows', upd_same, hr⟩
    · rw [upd_ne e] at h2
      have hne : a1 ≠ a := fun e' => by subst e'; exact e (h.inj c1 c a1 o1 o h1 hc h2 ho)
      rw [upd_ne hne]
      exact h.live c1 a1 o1 h1 h2
  · intro c1 c2 a1 o1 o2 h1 h2 h3 h4
    obtain ⟨y, hy⟩ := hlive _ _ h3
    obtain ⟨z, hz⟩ := hlive _ _ h4
    exact h.inj c1 c2 a1 y z h1 h2 hy hz
  · exact h.fn
  · intro i x hx
    have hne : i ≠ a := fun e => by subst e; have := h.kfl i x c o hx hc ho; omega
    rw [upd_ne hne]
    exact h.keep i x hx
  · intro a1 o1 c1 oc h1 h2 h3
    obtain ⟨y, hy⟩ := hlive _ _ h3
    exact h.kfl a1 o1 c1 y h1 h2 hy
theorem MRel.rem (h : MRel K fl R σc nxt σ) {c a : Nat} {o : Ob} (hc : R c a) (ho : σc c = some o) (hf : fl ≤ c) :
    MRel K fl R (del σc c) nxt (del σ a) := by
  have hlive : ∀ i x, del σc c i = some x → i ≠ c ∧ σc i = some x := fun i x hx => by
    by_cases e : i = c
    · subst e; simp [Vc.del] at hx
    · rw [del_ne e] at hx; exact ⟨e, hx⟩
  refine ⟨h.dom, ?_, ?_, ?_, ?_, ?_⟩
  · intro c1 a1 o1 h1 h2
    obtain ⟨e, h2⟩ := hlive _ _ h2
    have hne : a1 ≠ a := fun e' => by subst e'; exact e (h.inj c1 c a1 o1 o h1 hc h2 ho)
    rw [del_ne hne]
    exact h.live c1 a1 o1 h1 h2
  · intro c1 c2 a1 o1 o2 h1 h2 h3 h4
    exact h.inj c1 c2 a1 o1 o2 h1 h2 (hlive _ _ h3).2 (hlive _ _ h4).2
  · exact h.fn
  · intro i x hx
    have hne : i ≠ a := fun e => by subst e; have := h.kfl i x c o hx hc ho; omega
    rw [del_ne hne]
    exact h.keep i x hx
  · intro a1 o1 c1 oc h1 h2 h3
    exact h.kfl a1 o1 c1 oc h1 h2 (hlive _ _ h3).2
def ext (R : Nat → Nat → Prop) (c a : Nat) : Nat → Nat → Prop := fun x y => R x y ∨ (x = c ∧ y = a)
theorem ext_le (c a : Nat) : ∀ x y, R x y → ext R c a x y := fun _ _ h => .inl h
theorem MRel.new (h : MRel K fl R σc nxt σ) {i : Nat} (hi : σ i = none) {ob : Ob} {rows' : List V} (hr : VRelL R ob.rows rows') :
    MRel K fl (ext R nxt i) (upd σc nxt ob) (nxt + 1) (upd σ i ⟨ob.elem, ob.sz, rows'⟩) := by
  have hlt : ∀ c a, R c a → c ≠ nxt := fun c a hc => by have := h.dom c a hc; omega
  have hold : ∀ c a o, R c a → upd σc nxt ob c = some o → σc c = some o ∧ a ≠ i := fun c a o hc ho => by
    rw [upd_ne (hlt c a hc)] at ho
    refine ⟨ho, fun e => ?_⟩
    subst e
    obtain ⟨r, hr, _⟩ := h.live c a o hc ho
    rw [hi] at hr; cases hr
  refine ⟨?_, ?_, ?_, ?_, h.keep.upd hi, ?_⟩
  · rintro c a (hc | ⟨rfl, rfl⟩)
    · have := h.dom c a hc; omega
    · omega
  · rintro c a o (hc | ⟨rfl, rfl⟩) ho
    · obtain ⟨h1, h2⟩ := hold c a o hc ho
      obtain ⟨r, h3, h4⟩ := h.live c a o hc h1
      rw [upd_ne h2]
      exact ⟨r, h3, VRelL.mono (ext_le nxt i) _ _ h4⟩
    · rw [upd_same] at ho
      simp only [Option.some.injEq] at ho
      subst ho
      exact ⟨rows', upd_same, VRelL.mono (ext_le _ _) _ _ hr⟩
  · rintro c c' a o o' (hc | ⟨rfl, rfl⟩) (hc' | ⟨rfl, e⟩) ho ho'
    · exact h.inj c c' a o o' hc hc' (hold _ _ _ hc ho).1 (hold _ _ _ hc' ho').1
    · exact absurd e (hold _ _ _ hc ho).2
    · exact absurd rfl (hold _ _ _ hc' ho').2
    · rfl
  · rintro c a a' (hc | ⟨rfl, rfl⟩) (hc' | ⟨e, rfl⟩)
    · exact h.fn c a a' hc hc'
    · exact absurd e (hlt _ _ hc)
    · exact absurd rfl (hlt _ _ hc')
    · rfl
  · rintro a o c oc hk (hc | ⟨rfl, rfl⟩) ho
    · exact h.kfl a o c oc hk hc (hold _ _ _ hc ho).1
    · have := h.keep a o hk
      rw [hi] at this; cases this
def okX : VX → Bool
  | .t _ => true
  | .c v => v.noid
def okOp (op : VOp) : Bool := op.xs.all okX && (match op with
  | .alloc _ _ z => z.noid
  | .build zero _ => noidL zero
  | .clear _ z _ => z.noid
  | .mk _ _ _ z _ => z.noid
  | .more (.tas _ _ z) _ => z.noid
  | _ => true)
def okIns (i : VIns) : Bool := okOp i.op && (match i.g with
  | some (x, _) => okX x
  | none => true)
def okRes : VR → Bool
  | .tmp x => okX x
  | .cell _ _ x => okX x
  | .bad => true
variable {s s' : Nat → V}
theorem ev_rel (hs : ∀ i, VRel R (s i) (s' i)) {x : VX} (hx : okX x = true) : VRel R (x.ev s) (x.ev s') := by
  cases x with
  | t n => exact hs n
  | c v => exact noid_refl v hx
theorem evs_rel (hs : ∀ i, VRel R (s i) (s' i)) : ∀ {xs : List VX}, xs.all okX = true → VRelL R (xs.map (·.ev s)) (xs.map (·.ev s'))
  | [], _ => by simp [VRelL]
  | x :: xs, h => by
    simp only [List.all_cons, Bool.and_eq_true] at h
    exact VRelL.cons_iff.2 ⟨_, _, rfl, ev_rel hs h.1, evs_rel hs h.2⟩
theorem intBin_noid {op : BinOp} {k : IntKind} {a b : Int} {v : V} (h : intBin op k a b = some v) : v.noid = true := by
  unfold intBin at h
  split at h <;> first
    | (simp only [Option.some.injEq] at h; subst h; rfl)
    | (split at h <;> first | (simp only [Option.some.injEq] at h; subst h; rfl) | cases h)
    | cases h
theorem strBin_noid {op : BinOp} {a b : List UInt8} {v : V} (h : strBin op a b = some v) : v.noid = true := by
  unfold strBin at h
  split at h <;> first
    | (simp only [Option.some.injEq] at h; subst h; rfl)
    | cases h
theorem binV_rel {op : BinOp} {a b a' b' v : V} (ha : VRel R a a') (hb : VRel R b b') (h : binV op a b = some v) : a' = a ∧ b' = b ∧ v.noid = true := by
  unfold binV at h
  split at h
  · simp only [VRel] at ha hb
    split at h
    · exact ⟨ha, hb, intBin_noid h⟩
    · cases h
  · simp only [VRel] at ha hb
    exact ⟨ha, hb, strBin_noid h⟩
  · cases h
theorem lenV_rel {b : Bool} {x x' v : V} (hx : VRel R x x') (h : lenV b x = some v) : ∃ v', lenV b x' = some v' ∧ VRel R v v' := by
  unfold lenV at h
  split at h <;> simp only [Option.some.injEq, reduceCtorEq] at h <;> simp only [VRel] at hx <;> subst h
  · obtain ⟨i, rfl, _⟩ := hx; exact ⟨_, rfl, by simp [VRel]⟩
  · obtain ⟨i, rfl, hr⟩ := hx; exact ⟨_, rfl, by simp [VRel, hr.length]⟩
  · subst hx; exact ⟨_, rfl, by simp [VRel]⟩
  · subst hx; exact ⟨_, rfl, by simp [VRel]⟩
theorem subCells_rel {agg : Bool} {off sz : Nat} {vs us : List V} {v : V} (h : VRelL R vs us) (hv : subCells agg off sz vs = some v) : ∃ v', subCells agg off sz us = some v' ∧ VRel R v v' := by
  unfold subCells at hv ⊢
  cases agg
  · simpa using h.get hv
  · simp only [if_true, Option.some.injEq] at hv ⊢
    subst hv
    exact ⟨_, rfl, VRel.agg ((h.drop off).take sz)⟩
theorem fldV_rel {agg : Bool} {off sz : Nat} {x x' v : V} (hx : VRel R x x') (h : fldV agg off sz x = some v) : ∃ v', fldV agg off sz x' = some v' ∧ VRel R v v' := by
  unfold fldV at h
  split at h
  · obtain ⟨c, rfl, hr⟩ := VRel.agg_iff.1 hx
    exact subCells_rel hr h
  · cases h
theorem fldAV_rel {agg : Bool} {off sz : Nat} {x x' v : V} (hx : VRel R x x') (h : fldAV agg off sz x = some v) : ∃ v', fldAV agg off sz x' = some v' ∧ VRel R v v' := by
  unfold fldAV at h
  split at h
  · simp only [VRel] at hx
    obtain ⟨i, rfl, hr⟩ := hx
    simp only [Option.some.injEq] at h; subst h
    exact ⟨_, rfl, by simp only [VRel]; exact ⟨i, rfl, hr⟩⟩
  · simp only [VRel] at hx
    obtain ⟨u, rfl, hr⟩ := hx
    simp only [Option.map_eq_some_iff] at h
    obtain ⟨w, hw, rfl⟩ := h
    obtain ⟨w', h1, h2⟩ := subCells_rel hr.cells hw
    exact ⟨.rp w', by simp [fldAV, h1], VRel.rp h2⟩
  · cases h
theorem idxAV_rel (hm : Lv R σc σ) {esz : Nat} {x i x' i' v : V} (hx : VRel R x x') (hi : VRel R i i') (h : idxAV σc esz x i = some v) : ∃ v', idxAV σ esz x' i' = some v' ∧ VRel R v v' := by
  unfold idxAV at h
  split at h
  · simp only [VRel] at hx hi
    obtain ⟨a, rfl, ha⟩ := hx
    subst hi
    split at h
    · rename_i ob hob
      obtain ⟨rows', h1, h2⟩ := hm _ _ _ ha hob
      split at h
      · rename_i hc
        simp only [Option.some.injEq] at h; subst h
        refine ⟨_, ?_, by simp only [VRel]; exact ⟨a, rfl, ha⟩⟩
        simp only [idxAV, h1]
        rw [if_pos hc]
      · cases h
    · cases h
  · simp only [VRel] at hx hi
    obtain ⟨rows', rfl, hr⟩ := hx
    subst hi
    split at h
    · rename_i hc
      split at h
      · rename_i r hrr
        simp only [Option.some.injEq] at h; subst h
        obtain ⟨u, h1, h2⟩ := hr.get hrr
        refine ⟨.rp u, ?_, VRel.rp h2⟩
        simp only [idxAV, h1]
        rw [if_pos hc]
      · cases h
    · cases h
  · cases h
theorem idxAAV_rel {agg : Bool} {n esz : Nat} {x i x' i' v : V} (hx : VRel R x x') (hi : VRel R i i') (h : idxAAV agg n esz x i = some v) : ∃ v', idxAAV agg n esz x' i' = some v' ∧ VRel R v v' := by
  unfold idxAAV at h
  split at h
  · simp only [VRel] at hx hi
    obtain ⟨a, rfl, ha⟩ := hx
    subst hi
    split at h
    · rename_i hc
      simp only [Option.some.injEq] at h; subst h
      exact ⟨_, by simp only [idxAAV]; rw [if_pos hc], by simp only [VRel]; exact ⟨a, rfl, ha⟩⟩
    · cases h
  · simp only [VRel] at hx hi
    obtain ⟨u, rfl, hr⟩ := hx
    subst hi
    split at h
    · rename_i hc
      simp only [Option.map_eq_some_iff] at h
      obtain ⟨w, hw, rfl⟩ := h
      obtain ⟨w', h1, h2⟩ := subCells_rel hr.cells hw
      exact ⟨.rp w', by simp only [idxAAV]; rw [if_pos hc, h1]; rfl, VRel.rp h2⟩
    · cases h
  · cases h
theorem idxVV_rel {agg : Bool} {n esz : Nat} {x i x' i' v : V} (hx : VRel R x x') (hi : VRel R i i') (h : idxVV agg n esz x i = some v) : ∃ v', idxVV agg n esz x' i' = some v' ∧ VRel R v v' := by
  unfold idxVV at h
  split at h
  · obtain ⟨c, rfl, hr⟩ := VRel.agg_iff.1 hx
    rw [VRel.int_iff] at hi
    subst hi
    split at h
    · rename_i hc
      obtain ⟨w', h1, h2⟩ := subCells_rel hr h
      exact ⟨w', by simp only [idxVV]; rw [if_pos hc, h1], h2⟩
    · cases h
  · cases h
theorem idxSV_rel {x i x' i' v : V} (hx : VRel R x x') (hi : VRel R i i') (h : idxSV x i = some v) : ∃ v', idxSV x' i' = some v' ∧ VRel R v v' := by
  have h0 := h
  unfold idxSV at h
  split at h
  · rw [VRel.str_iff] at hx
    rw [VRel.int_iff] at hi
    subst hx hi
    refine ⟨v, h0, ?_⟩
    split at h
    · split at h
      · simp only [Option.some.injEq] at h; subst h; simp [VRel]
      · cases h
    · cases h
  · cases h
theorem loadV_rel (hm : Lv R σc σ) {agg : Bool} {sz : Nat} {x x' v : V} (hx : VRel R x x') (h : loadV σc agg sz x = some v) : ∃ v', loadV σ agg sz x' = some v' ∧ VRel R v v' := by
  unfold loadV at h
  split at h
  · simp only [VRel] at hx
    obtain ⟨a, rfl, ha⟩ := hx
    split at h
    · rename_i ob hob
      obtain ⟨rows', h1, h2⟩ := hm _ _ _ ha hob
      split at h
      · rename_i r hr
        obtain ⟨r', h3, h4⟩ := h2.get hr
        have hl := h4.cells.length
        simp only [loadV, h1, h3, hl]
        cases agg
        · simp only [Bool.false_eq_true, if_false] at h ⊢
          exact h4.cells.get h
        · simp only [if_true] at h ⊢
          split at h
          · rename_i hc
            simp only [Option.some.injEq] at h; subst h
            exact ⟨_, by rw [if_pos hc], VRel.agg h4.cells⟩
          · split at h
            · rename_i hc hc'
              rw [if_neg hc, if_pos hc']
              simp only [Option.some.injEq] at h; subst h
              exact ⟨_, rfl, VRel.agg ((h4.cells.drop _).take _)⟩
            · cases h
      · cases h
    · cases h
  · simp only [VRel] at hx
    obtain ⟨u, rfl, hr⟩ := hx
    rename_i w
    have hl := hr.cells.length
    cases agg
    · simp only [Bool.false_eq_true, if_false] at h
      split at h
      · cases h
      · simp only [Option.some.injEq] at h; subst h
        rename_i hna
        refine ⟨u, ?_, hr⟩
        cases u <;> simp only [loadV, Bool.false_eq_true, if_false]
        cases w <;> simp only [VRel] at hr <;> simp at hr hna
    · simp only [if_true] at h
      split at h
      · rename_i hc
        simp only [Option.some.injEq] at h; subst h
        refine ⟨_, ?_, VRel.agg hr.cells⟩
        simp only [loadV, hl, if_true]
        rw [if_pos hc]
      · cases h
  · cases h
theorem boundV_rel {d : Int} : ∀ {o o' : Option V}, (match o, o' with | none, none => True | some x, some x' => VRel R x x' | _, _ => False) → ∀ {j : Int}, boundV d o = some j → boundV d o' = some j
  | none, none, _, j, h => h
  | some x, some x', hx, j, h => by
    simp only at hx
    cases x <;> simp only [boundV] at h <;> first | cases h | skip
    rw [VRel.int_iff] at hx
    subst hx
    rfl
  | none, some _, hx, _, _ => hx.elim
  | some _, none, hx, _, _ => hx.elim
theorem sliceV_rel (hm : Lv R σc σ) {esz : Nat} {x x' v : V} {lo hi mx lo' hi' mx' : Option V} (hx : VRel R x x')
    (h1 : ∀ d j, boundV d lo = some j → boundV d lo' = some j) (h2 : ∀ d j, boundV d hi = some j → boundV d hi' = some j) (h3 : ∀ d j, boundV d mx = some j → boundV d mx' = some j)
    (h : sliceV σc esz x lo hi mx = some v) : ∃ v', sliceV σ esz x' lo' hi' mx' = some v' ∧ VRel R v v' := by
  unfold sliceV at h
  split at h
  · simp only [VRel] at hx
    obtain ⟨a, rfl, ha⟩ := hx
    split at h
    · rename_i l hh m e1 e2 e3
      split at h
      · rename_i hc
        simp only [Option.some.injEq] at h; subst h
        have hsz : szIs σ a esz = true := by
          have hz := hc.2.2.2.2
          unfold szIs at hz ⊢
          split at hz
          · rename_i ob hob
            obtain ⟨rows', g1, g2⟩ := hm _ _ _ ha hob
            rw [g1]; exact hz
          · cases hz
        refine ⟨_, ?_, by simp only [VRel]; exact ⟨a, rfl, ha⟩⟩
        simp only [sliceV, h1 _ _ e1, h2 _ _ e2, h3 _ _ e3]
        rw [if_pos ⟨hc.1, hc.2.1, hc.2.2.1, hc.2.2.2.1, hsz⟩]
      · cases h
    · cases h
  · simp only [VRel] at hx
    obtain ⟨rows', rfl, hr⟩ := hx
    have hl := hr.length
    split at h
    · rename_i l hh m e1 e2 e3
      split at h
      · rename_i hc
        simp only [Option.some.injEq] at h; subst h
        refine ⟨.sl _ ((rows'.drop l.toNat).take (hh.toNat - l.toNat)), ?_, by simp only [VRel]; exact ⟨_, rfl, (hr.drop _).take _⟩⟩
        simp only [sliceV, h1 _ _ e1, hl, h2 _ _ e2, h3 _ _ e3]
        rw [if_pos hc]
      · cases h
    · cases h
  · simp only [VRel] at hx
    subst hx
    split at h
    · rename_i l hh m e1 e2 e3
      split at h
      · rename_i hc
        simp only [Option.some.injEq] at h; subst h
        refine ⟨.nils, ?_, by simp [VRel]⟩
        simp only [sliceV, h1 _ _ e1, h2 _ _ e2, h3 _ _ e3]
        rw [if_pos hc]
      · cases h
    · cases h
  · cases h
theorem sliceSV_rel {x x' v : V} {lo hi lo' hi' : Option V} (hx : VRel R x x')
    (h1 : ∀ d j, boundV d lo = some j → boundV d lo' = some j) (h2 : ∀ d j, boundV d hi = some j → boundV d hi' = some j)
    (h : sliceSV x lo hi = some v) : ∃ v', sliceSV x' lo' hi' = some v' ∧ VRel R v v' := by
  unfold sliceSV at h
  split at h
  · rw [VRel.str_iff] at hx
    subst hx
    split at h
    · rename_i l hh e1 e2
      split at h
      · rename_i hc
        simp only [Option.some.injEq] at h; subst h
        refine ⟨_, ?_, VRel.str_iff.2 rfl⟩
        simp only [sliceSV, h1 _ _ e1, h2 _ _ e2]
        rw [if_pos hc]
      · cases h
    · cases h
  · cases h
theorem nilCheckV_rel {x x' v : V} (hx : VRel R x x') (h : nilCheckV x = some v) : ∃ v', nilCheckV x' = some v' ∧ VRel R v v' := by
  unfold nilCheckV at h
  split at h <;> first | cases h | skip
  all_goals (have hx0 := hx; simp only [VRel] at hx; obtain ⟨i, rfl, _⟩ := hx; exact ⟨_, rfl, hx0⟩)
theorem binBV_rel {neg : Bool} {x y x' y' v : V} (hx : VRel R x x') (hy : VRel R y y') (h : binBV neg x y = some v) : ∃ v', binBV neg x' y' = some v' ∧ VRel R v v' := by
  have h0 := h
  unfold binBV at h
  split at h
  · rw [VRel.bool_iff] at hx hy
    subst hx hy
    refine ⟨v, h0, ?_⟩
    simp only [Option.some.injEq] at h; subst h; simp [VRel]
  · cases h
theorem minmaxV_rel {m : Bool} {x y x' y' v : V} (hx : VRel R x x') (hy : VRel R y y') (h : minmaxV m x y = some v) : ∃ v', minmaxV m x' y' = some v' ∧ VRel R v v' := by
  have h0 := h
  unfold minmaxV at h
  split at h
  · rw [VRel.int_iff] at hx hy
    subst hx hy
    refine ⟨v, h0, ?_⟩
    split at h
    · simp only [Option.some.injEq] at h; subst h; simp [VRel]
    · cases h
  · cases h
theorem eqCell_rel {x y x' y' : V} {b : Bool} (hx : VRel R x x') (hy : VRel R y y') (h : eqCell x y = some b) : x' = x ∧ y' = y := by
  unfold eqCell at h
  split at h <;> first | cases h | skip
  all_goals simp only [VRel] at hx hy
  all_goals exact ⟨hx, hy⟩
theorem eqCells_rel : ∀ {l m l' m' : List V} {b : Bool}, VRelL R l l' → VRelL R m m' → eqCells l m = some b → l' = l ∧ m' = m
  | [], [], _, _, _, h1, h2, _ => by rw [VRelL.nil_iff] at h1 h2; exact ⟨h1, h2⟩
  | v :: vs, u :: us, _, _, b, h1, h2, h => by
    obtain ⟨v', vs', rfl, g1, g2⟩ := VRelL.cons_iff.1 h1
    obtain ⟨u', us', rfl, g3, g4⟩ := VRelL.cons_iff.1 h2
    simp only [eqCells] at h
    split at h
    · rename_i e1 e2
      obtain ⟨rfl, rfl⟩ := eqCell_rel g1 g3 e1
      obtain ⟨rfl, rfl⟩ := eqCells_rel g2 g4 e2
      exact ⟨rfl, rfl⟩
    · cases h
  | [], _ :: _, _, _, _, _, _, h => by simp [eqCells] at h
  | _ :: _, [], _, _, _, _, _, h => by simp [eqCells] at h
theorem eqSV_rel {neg : Bool} {ks : List Nat} {x y x' y' v : V} (hx : VRel R x x') (hy : VRel R y y') (h : eqSV neg ks x y = some v) : ∃ v', eqSV neg ks x' y' = some v' ∧ VRel R v v' := by
  have h0 := h
  unfold eqSV at h
  split at h
  · obtain ⟨c, rfl, g1⟩ := VRel.agg_iff.1 hx
    obtain ⟨d, rfl, g2⟩ := VRel.agg_iff.1 hy
    split at h
    · split at h
      · rename_i e
        obtain ⟨rfl, rfl⟩ := eqCells_rel g1 g2 e
        refine ⟨v, h0, ?_⟩
        simp only [Option.some.injEq] at h; subst h; simp [VRel]
      · cases h
    · cases h
  · cases h
theorem bytesOf_rel : ∀ {l m : List V} {b : List UInt8}, VRelL R l m → bytesOf l = some b → m = l
  | [], _, _, h, _ => by rw [VRelL.nil_iff] at h; exact h
  | v :: vs, _, b, h, hb => by
    obtain ⟨u, us, rfl, g1, g2⟩ := VRelL.cons_iff.1 h
    simp only [bytesOf] at hb
    split at hb
    · rename_i e1 e2
      rw [bytesOf_rel g2 e2]
      cases v <;> simp [byteOf] at e1
      rw [VRel.int_iff] at g1
      rw [g1]
    · cases hb
theorem bytesV_rel (hm : Lv R σc σ) {x x' v : V} (hx : VRel R x x') (h : bytesV σc x = some v) : ∃ v', bytesV σ x' = some v' ∧ VRel R v v' := by
  unfold bytesV at h
  split at h
  · simp only [VRel] at hx; subst hx
    simp only [Option.some.injEq] at h; subst h
    exact ⟨_, rfl, by simp [VRel]⟩
  · simp only [VRel] at hx
    obtain ⟨a, rfl, ha⟩ := hx
    split at h
    · rename_i ob hob
      obtain ⟨rows', h1, h2⟩ := hm _ _ _ ha hob
      split at h
      · rename_i hc
        simp only [Option.map_eq_some_iff] at h
        obtain ⟨l, hl, rfl⟩ := h
        have e := bytesOf_rel ((h2.drop _).take _) hl
        refine ⟨_, ?_, VRel.str_iff.2 rfl⟩
        simp only [bytesV, h1, h2.length, e, hl, Option.map_some]
        rw [if_pos hc]
      · cases h
    · cases h
  · cases h
theorem extV_rel {i : Nat} {x x' v : V} (hx : VRel R x x') (h : extV i x = some v) : ∃ v', extV i x' = some v' ∧ VRel R v v' := by
  unfold extV at h
  split at h
  · simp only [VRel] at hx
    obtain ⟨c, rfl, hr⟩ := hx
    exact hr.get h
  · cases h
def PartsRel (R : Nat → Nat → Prop) : List (Nat × Nat × V) → List (Nat × Nat × V) → Prop
  | [], l => l = []
  | p :: ps, l => ∃ u us, l = (p.1, p.2.1, u) :: us ∧ VRel R p.2.2 u ∧ PartsRel R ps us
theorem buildV_rel : ∀ {ps ps' : List (Nat × Nat × V)} {z z' l : List V}, VRelL R z z' → PartsRel R ps ps' → buildV z ps = some l → ∃ l', buildV z' ps' = some l' ∧ VRelL R l l'
  | [], _, z, z', l, hz, hp, h => by
    simp only [PartsRel] at hp; subst hp
    simp only [buildV, Option.some.injEq] at h; subst h
    exact ⟨_, rfl, hz⟩
  | (off, sz, x) :: ps, _, z, z', l, hz, hp, h => by
    simp only [PartsRel] at hp
    obtain ⟨u, us, rfl, h1, h2⟩ := hp
    simp only [buildV] at h ⊢
    split at h
    · rename_i hc
      rw [if_pos ⟨by rw [h1.cells.length]; exact hc.1, by rw [h1.stays]; exact hc.2.1, by rw [hz.length]; exact hc.2.2⟩]
      refine buildV_rel ?_ h2 h
      unfold splice
      rw [h1.cells.length]
      exact ((hz.take _).append h1.cells).append (hz.drop _)
    · cases h
theorem bound_ev (hs : ∀ i, VRel R (s i) (s' i)) {lo : Option VX} (h : ∀ x ∈ lo.toList, okX x = true) (d j : Int) : boundV d (lo.map (·.ev s)) = some j → boundV d (lo.map (·.ev s')) = some j := by
  refine boundV_rel (R := R) ?_
  cases lo with
  | none => trivial
  | some x => exact ev_rel hs (h x (by simp))
theorem vpure_rel (hm : Lv R σc σ) (hs : ∀ i, VRel R (s i) (s' i)) {op : VOp} (hok : okOp op = true) {v : V} (hp : vpre s op) (h : vpure σc s op = some v) :
    vpre s' op ∧ ∃ v', vpure σ s' op = some v' ∧ VRel R v v' := by
  have hok' := hok
  simp only [okOp, Bool.and_eq_true] at hok
  have hx := List.all_eq_true.1 hok.1
  have E : ∀ x, x ∈ op.xs → VRel R (x.ev s) (x.ev s') := fun x h => ev_rel hs (hx x h)
  cases op <;> simp only [VOp.xs, List.mem_cons, List.not_mem_nil, or_false, forall_eq_or_imp, forall_eq, List.mem_append] at E <;> simp only [vpure, vpre, Option.some.injEq, reduceCtorEq, true_and] at h hp ⊢
  case mov => subst h; exact ⟨_, rfl, E⟩
  case pick c a b =>
    split at h
    · rename_i t ht
      have := E.1
      rw [ht, VRel.bool_iff] at this
      rw [this]
      simp only [Option.some.injEq] at h ⊢
      subst h
      refine ⟨_, rfl, ?_⟩
      cases t
      · exact E.2.2
      · exact E.2.1
    · cases h
  case bin op x y =>
    obtain ⟨e1, e2, e3⟩ := binV_rel E.1 E.2 h
    rw [e1, e2]
    exact ⟨hp, v, h, noid_refl v e3⟩
  case not x =>
    split at h
    · rename_i b hb
      rw [hb, VRel.bool_iff] at E
      rw [E]
      simp only [Option.some.injEq] at h ⊢; subst h
      exact ⟨_, rfl, by simp [VRel]⟩
    · cases h
  case neg x =>
    split at h
    · rename_i k b hb
      rw [hb] at hp
      rw [hb, VRel.int_iff] at E
      rw [E]
      simp only [Option.some.injEq] at h ⊢; subst h
      exact ⟨hp, _, rfl, by simp [VRel]⟩
    · cases h
  case len => exact lenV_rel E h
  case cap =>
    unfold capV at h
    split at h
    · rename_i hn
      rw [hn] at E
      simp only [VRel] at E
      rw [E]
      simp only [Option.some.injEq] at h
      subst h
      exact ⟨_, rfl, by simp [VRel]⟩
    · cases h
  case fld => exact fldV_rel E h
  case fldA => exact fldAV_rel E h
  case idxA => exact idxAV_rel hm E.1 E.2 h
  case idxAA => exact idxAAV_rel E.1 E.2 h
  case idxV => exact idxVV_rel E.1 E.2 h
  case idxS => exact idxSV_rel E.1 E.2 h
  case load => exact loadV_rel hm E h
  case slice esz x lo hi mx =>
    have hx' := hx
    simp only [VOp.xs, List.mem_cons, List.mem_append] at hx'
    exact sliceV_rel hm E.1 (bound_ev hs fun y hy => hx' y (.inr (.inl (.inl hy)))) (bound_ev hs fun y hy => hx' y (.inr (.inl (.inr hy)))) (bound_ev hs fun y hy => hx' y (.inr (.inr hy))) h
  case sliceS x lo hi =>
    have hx' := hx
    simp only [VOp.xs, List.mem_cons, List.mem_append] at hx'
    exact sliceSV_rel E.1 (bound_ev hs fun y hy => hx' y (.inr (.inl hy))) (bound_ev hs fun y hy => hx' y (.inr (.inr hy))) h
  case ext => exact extV_rel E h
  case more m xs =>
    by_cases hb : ∃ f, m = .mkB f
    · obtain ⟨f, rfl⟩ := hb
      simp only [vpure, Option.some.injEq] at h ⊢
      subst h
      exact ⟨_, rfl, by simp only [VRel]; exact ⟨_, rfl, evs_rel hs hok.1⟩⟩
    cases xs with
    | nil => cases m <;> first | exact absurd ⟨_, rfl⟩ hb | simp [vpure] at h
    | cons x xs =>
      have ex := E x (by simp)
      cases xs with
      | cons y ys => cases m <;> first | exact absurd ⟨_, rfl⟩ hb | simp [vpure] at h
      | nil =>
        cases m
        case mkB => exact absurd ⟨_, rfl⟩ hb
        case mkI t =>
          simp only [Option.some.injEq] at h ⊢
          subst h
          exact ⟨_, rfl, by simp only [VRel]; exact ⟨_, rfl, ex⟩⟩
        case tas t ok z =>
          have hz : z.noid = true := hok.2
          simp only [] at h ⊢
          unfold tasV at h ⊢
          split at h
          · rename_i t' v' hv'
            rw [hv'] at ex
            simp only [VRel] at ex
            obtain ⟨u, hu, hru⟩ := ex
            rw [hu]
            simp only
            split at h
            · rename_i e
              rw [if_pos e]
              simp only [Option.some.injEq] at h ⊢
              subst h
              refine ⟨_, rfl, ?_⟩
              cases ok
              · exact hru
              · simp only [if_true, VRel, VRelL]; exact ⟨_, rfl, _, _, rfl, hru, _, _, rfl, rfl, rfl⟩
            · rename_i e
              rw [if_neg e]
              cases ok
              · simp at h
              · simp only [if_true, Option.some.injEq] at h ⊢
                subst h
                refine ⟨_, rfl, ?_⟩
                simp only [VRel, VRelL]; exact ⟨_, rfl, _, _, rfl, noid_refl z hz, _, _, rfl, rfl, rfl⟩
          · rename_i hv'
            rw [hv'] at ex
            simp only [VRel] at ex
            rw [ex]
            cases ok
            · simp at h
            · simp only [if_true, Option.some.injEq] at h ⊢
              subst h
              refine ⟨_, rfl, ?_⟩
              simp only [VRel, VRelL]; exact ⟨_, rfl, _, _, rfl, noid_refl z hz, _, _, rfl, rfl, rfl⟩
          · cases h
        case nilP neg =>
          simp only [] at h ⊢
          unfold nilPV at h
          split at h
          · rename_i hv'
            rw [hv'] at ex
            simp only [VRel] at ex
            rw [ex]
            exact ⟨v, h, by simp only [Option.some.injEq] at h; subst h; simp [VRel]⟩
          · rename_i hv'
            rw [hv'] at ex
            simp only [VRel] at ex
            obtain ⟨u, hu, _⟩ := ex
            rw [hu]
            exact ⟨v, h, by simp only [Option.some.injEq] at h; subst h; simp [VRel]⟩
          · rename_i hv'
            rw [hv'] at ex
            simp only [VRel] at ex
            obtain ⟨u, hu, _⟩ := ex
            rw [hu]
            exact ⟨v, h, by simp only [Option.some.injEq] at h; subst h; simp [VRel]⟩
          · cases h
        all_goals simp [vpure] at h
  case mkfn f xs =>
    subst h
    exact ⟨_, rfl, by simp only [VRel]; exact ⟨_, rfl, evs_rel hs hok.1⟩⟩
  case convI k x =>
    split at h
    · rename_i k' b hb
      rw [hb] at hp
      rw [hb, VRel.int_iff] at E
      rw [E]
      simp only [Option.some.injEq] at h ⊢; subst h
      exact ⟨hp, _, rfl, by simp [VRel]⟩
    · cases h
  case nilCheck => exact nilCheckV_rel E h
  case binB => exact binBV_rel E.1 E.2 h
  case eqS => exact eqSV_rel E.1 E.2 h
  case minmax => exact minmaxV_rel E.1 E.2 h
  case bstr => exact bytesV_rel hm E h
  case build zero parts =>
    simp only [Option.map_eq_some_iff] at h
    obtain ⟨l, hl, rfl⟩ := h
    have hpr : ∀ ps : List (Nat × Nat × VX), (∀ p ∈ ps, okX p.2.2 = true) → PartsRel R (ps.map fun p => (p.1, p.2.1, p.2.2.ev s)) (ps.map fun p => (p.1, p.2.1, p.2.2.ev s')) := by
      intro ps
      induction ps with
      | nil => intro _; simp [PartsRel]
      | cons p ps ih =>
        intro hps
        simp only [List.map_cons, PartsRel]
        exact ⟨_, _, rfl, ev_rel hs (hps p (by simp)), ih fun q hq => hps q (by simp [hq])⟩
    obtain ⟨l', h1, h2⟩ := buildV_rel (noidL_refl zero hok.2) (hpr parts fun p hp => hx _ (by simp only [VOp.xs, List.mem_map]; exact ⟨p, hp, rfl⟩)) hl
    exact ⟨.agg l', by rw [h1]; rfl, VRel.agg h2⟩
end
end Go.Vc
