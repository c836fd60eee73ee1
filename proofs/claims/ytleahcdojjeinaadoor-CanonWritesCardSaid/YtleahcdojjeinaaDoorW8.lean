/- Part 8 of the library of this proof. -/
import Derived.Test.YtleahcdojjeinaaDoorW7
import Derived.Shelf.Small.Strs
import Derived.Shelf.Strconv.Itoa3
import Derived.Shelf.Strconv.Atoi
import Derived.Shelf.Strconv.ErrVarAll
import Derived.Lib.AppendIntMem
import Derived.Shelf.Strings.Prefix
import Derived.Test.YtleahcdojjeinaaDoorProg
import Derived.Calls
set_option linter.all false
namespace Go.Proofs
open Go.Shelf
def Tryd.lays169_ren : Go.Shelf.Ren := ⟨fun | 169 => 56 | n => n, fun | 70 => 82 | 9 => 9 | 0 => 0 | 72 => 85 | 37 => 83 | 127 => 134 | 3 => 3 | 5 => 5 | n => n, fun | n => n⟩
theorem Tryd.lays169 : Go.Proofs.Lays.n169 Tryd.prog Tryd.lays169_ren := {
  mixed := by kernel_rfl
  f169 := Tryd.func56.trans (congrArg some (by kernel_rfl))
  t0 := Tryd.underlying0
  a0 := Tryd.isAgg0
  z0 := Tryd.sizeOf0
  v0 := Tryd.zeroValue0
  t3 := Tryd.underlying3
  a3 := Tryd.isAgg3
  z3 := Tryd.sizeOf3
  v3 := Tryd.zeroValue3
  t9 := Tryd.underlying9
  a9 := Tryd.isAgg9
  z9 := Tryd.sizeOf9
  v9 := Tryd.zeroValue9
  t37 := Tryd.underlying83
  a37 := Tryd.isAgg83
  z37 := Tryd.sizeOf83
  v37 := Tryd.zeroValue83
  t70 := Tryd.underlying82
  a70 := Tryd.isAgg82
  z70 := Tryd.sizeOf82
  v70 := Tryd.zeroValue82
  t72 := Tryd.underlying85
  a72 := Tryd.isAgg85
  z72 := Tryd.sizeOf85
  v72 := Tryd.zeroValue85
  t127 := Tryd.underlying134
  a127 := Tryd.isAgg134
  z127 := Tryd.sizeOf134
  v127 := Tryd.zeroValue134 }
theorem Tryd.Builder_Extra_169 : Builder.Extra Tryd.prog Tryd.lays169_ren := {
  sizeBuilder := by kernel_rfl
  liesBuilder := by kernel_rfl
  t5 := Tryd.underlying5
  a5 := Tryd.isAgg5
  z5 := Tryd.sizeOf5
  v5 := Tryd.zeroValue5
  infoByte := by kernel_rfl
  cellsByte := by kernel_rfl
  sizeByte := by kernel_rfl
  neB5 := by decide }
def Tryd.lays137_ren : Go.Shelf.Ren := ⟨fun | 137 => 75 | 217 => 99 | 266 => 116 | n => n, fun | 9 => 9 | 5 => 5 | 3 => 3 | n => n, fun | n => n⟩
theorem Tryd.lays137 : Go.Proofs.Lays.n137 Tryd.prog Tryd.lays137_ren := {
  mixed := by kernel_rfl
  f137 := Tryd.func75.trans (congrArg some (by kernel_rfl))
  f217 := Tryd.func99.trans (congrArg some (by kernel_rfl))
  f266 := Tryd.func116.trans (congrArg some (by kernel_rfl))
  t3 := Tryd.underlying3
  a3 := Tryd.isAgg3
  z3 := Tryd.sizeOf3
  v3 := Tryd.zeroValue3
  t5 := Tryd.underlying5
  a5 := Tryd.isAgg5
  z5 := Tryd.sizeOf5
  v5 := Tryd.zeroValue5
  t9 := Tryd.underlying9
  a9 := Tryd.isAgg9
  z9 := Tryd.sizeOf9
  v9 := Tryd.zeroValue9 }
def Tryd.lays172_ren : Go.Shelf.Ren := ⟨fun | 172 => 100 | 244 => 117 | 245 => 118 | 247 => 121 | 279 => 122 | 280 => 123 | 281 => 124 | 282 => 125 | 287 => 127 | 316 => 128 | 171 => 104 | 205 => 129 | 321 => 134 | 322 => 135 | 243 => 119 | 246 => 126 | 283 => 130 | 284 => 131 | 285 => 132 | 286 => 133 | 129 => 137 | 317 => 136 | 318 => 138 | 319 => 139 | 320 => 140 | 337 => 141 | 338 => 142 | n => n, fun | 9 => 9 | 3 => 3 | 75 => 91 | 76 => 94 | 4 => 4 | 5 => 5 | 167 => 160 | 37 => 83 | 0 => 0 | 85 => 161 | 2 => 2 | 168 => 163 | 53 => 167 | 175 => 168 | 46 => 170 | 210 => 173 | 127 => 134 | 145 => 183 | 143 => 181 | 21 => 21 | 171 => 175 | 173 => 178 | 212 => 186 | 51 => 187 | 20 => 20 | 213 => 188 | 232 => 191 | 233 => 192 | 80 => 96 | n => n, fun | 15 => 1 | 16 => 2 | 17 => 3 | 18 => 4 | 19 => 5 | n => n⟩
theorem Tryd.lays172 : Go.Proofs.Lays.n172 Tryd.prog Tryd.lays172_ren := {
  mixed := by kernel_rfl
  f129 := Tryd.func137.trans (congrArg some (by kernel_rfl))
  f171 := Tryd.func104.trans (congrArg some (by kernel_rfl))
  f172 := Tryd.func100.trans (congrArg some (by kernel_rfl))
  f205 := Tryd.func129.trans (congrArg some (by kernel_rfl))
  f243 := Tryd.func119.trans (congrArg some (by kernel_rfl))
  f244 := Tryd.func117.trans (congrArg some (by kernel_rfl))
  f245 := Tryd.func118.trans (congrArg some (by kernel_rfl))
  f246 := Tryd.func126.trans (congrArg some (by kernel_rfl))
  f247 := Tryd.func121.trans (congrArg some (by kernel_rfl))
  f279 := Tryd.func122.trans (congrArg some (by kernel_rfl))
  f280 := Tryd.func123.trans (congrArg some (by kernel_rfl))
  f281 := Tryd.func124.trans (congrArg some (by kernel_rfl))
  f282 := Tryd.func125.trans (congrArg some (by kernel_rfl))
  f283 := Tryd.func130.trans (congrArg some (by kernel_rfl))
  f284 := Tryd.func131.trans (congrArg some (by kernel_rfl))
  f285 := Tryd.func132.trans (congrArg some (by kernel_rfl))
  f286 := Tryd.func133.trans (congrArg some (by kernel_rfl))
  f287 := Tryd.func127.trans (congrArg some (by kernel_rfl))
  f316 := Tryd.func128.trans (congrArg some (by kernel_rfl))
  f317 := Tryd.func136.trans (congrArg some (by kernel_rfl))
  f318 := Tryd.func138.trans (congrArg some (by kernel_rfl))
  f319 := Tryd.func139.trans (congrArg some (by kernel_rfl))
  f320 := Tryd.func140.trans (congrArg some (by kernel_rfl))
  f321 := Tryd.func134.trans (congrArg some (by kernel_rfl))
  f322 := Tryd.func135.trans (congrArg some (by kernel_rfl))
  f337 := Tryd.func141.trans (congrArg some (by kernel_rfl))
  f338 := Tryd.func142.trans (congrArg some (by kernel_rfl))
  t0 := Tryd.underlying0
  a0 := Tryd.isAgg0
  z0 := Tryd.sizeOf0
  v0 := Tryd.zeroValue0
  t2 := Tryd.underlying2
  a2 := Tryd.isAgg2
  z2 := Tryd.sizeOf2
  v2 := Tryd.zeroValue2
  t3 := Tryd.underlying3
  a3 := Tryd.isAgg3
  z3 := Tryd.sizeOf3
  v3 := Tryd.zeroValue3
  t4 := Tryd.underlying4
  a4 := Tryd.isAgg4
  z4 := Tryd.sizeOf4
  v4 := Tryd.zeroValue4
  t5 := Tryd.underlying5
  a5 := Tryd.isAgg5
  z5 := Tryd.sizeOf5
  v5 := Tryd.zeroValue5
  t9 := Tryd.underlying9
  a9 := Tryd.isAgg9
  z9 := Tryd.sizeOf9
  v9 := Tryd.zeroValue9
  t20 := Tryd.underlying20
  a20 := Tryd.isAgg20
  z20 := Tryd.sizeOf20
  v20 := Tryd.zeroValue20
  t21 := Tryd.underlying21
  a21 := Tryd.isAgg21
  z21 := Tryd.sizeOf21
  v21 := Tryd.zeroValue21
  t37 := Tryd.underlying83
  a37 := Tryd.isAgg83
  z37 := Tryd.sizeOf83
  v37 := Tryd.zeroValue83
  t46 := Tryd.underlying170
  a46 := Tryd.isAgg170
  z46 := Tryd.sizeOf170
  v46 := Tryd.zeroValue170
  t51 := Tryd.underlying187
  a51 := Tryd.isAgg187
  z51 := Tryd.sizeOf187
  v51 := Tryd.zeroValue187
  t53 := Tryd.underlying167
  a53 := Tryd.isAgg167
  z53 := Tryd.sizeOf167
  v53 := Tryd.zeroValue167
  t75 := Tryd.underlying91
  a75 := Tryd.isAgg91
  z75 := Tryd.sizeOf91
  v75 := Tryd.zeroValue91
  t76 := Tryd.underlying94
  a76 := Tryd.isAgg94
  z76 := Tryd.sizeOf94
  v76 := Tryd.zeroValue94
  t85 := Tryd.underlying161
  a85 := Tryd.isAgg161
  z85 := Tryd.sizeOf161
  v85 := Tryd.zeroValue161
  t127 := Tryd.underlying134
  a127 := Tryd.isAgg134
  z127 := Tryd.sizeOf134
  v127 := Tryd.zeroValue134
  t143 := Tryd.underlying181
  a143 := Tryd.isAgg181
  z143 := Tryd.sizeOf181
  v143 := Tryd.zeroValue181
  t145 := Tryd.underlying183
  a145 := Tryd.isAgg183
  z145 := Tryd.sizeOf183
  v145 := Tryd.zeroValue183
  t167 := Tryd.underlying160
  a167 := Tryd.isAgg160
  z167 := Tryd.sizeOf160
  v167 := Tryd.zeroValue160
  t168 := Tryd.underlying163
  a168 := Tryd.isAgg163
  z168 := Tryd.sizeOf163
  v168 := Tryd.zeroValue163
  t171 := Tryd.underlying175
  a171 := Tryd.isAgg175
  z171 := Tryd.sizeOf175
  v171 := Tryd.zeroValue175
  t173 := Tryd.underlying178
  a173 := Tryd.isAgg178
  z173 := Tryd.sizeOf178
  v173 := Tryd.zeroValue178
  t175 := Tryd.underlying168
  a175 := Tryd.isAgg168
  z175 := Tryd.sizeOf168
  v175 := Tryd.zeroValue168
  t210 := Tryd.underlying173
  a210 := Tryd.isAgg173
  z210 := Tryd.sizeOf173
  v210 := Tryd.zeroValue173
  t212 := Tryd.underlying186
  a212 := Tryd.isAgg186
  z212 := Tryd.sizeOf186
  v212 := Tryd.zeroValue186
  t213 := Tryd.underlying188
  a213 := Tryd.isAgg188
  z213 := Tryd.sizeOf188
  t232 := Tryd.underlying191
  a232 := Tryd.isAgg191
  z232 := Tryd.sizeOf191
  v232 := Tryd.zeroValue191
  t233 := Tryd.underlying192
  a233 := Tryd.isAgg192
  z233 := Tryd.sizeOf192
  v233 := Tryd.zeroValue192
  g15 := by kernel_rfl
  g16 := by kernel_rfl
  g17 := by kernel_rfl
  g18 := by kernel_rfl
  g19 := by kernel_rfl }
def Tryd.laysM171_ren : Go.Shelf.Ren := ⟨fun | 171 => 104 | 243 => 119 | 246 => 126 | 283 => 130 | 284 => 131 | 285 => 132 | 286 => 133 | 129 => 137 | 317 => 136 | 318 => 138 | 319 => 139 | 320 => 140 | 337 => 141 | 338 => 142 | n => n, fun | 3 => 3 | 9 => 9 | 2 => 2 | 4 => 4 | 171 => 175 | 0 => 0 | 53 => 167 | 37 => 83 | 5 => 5 | 173 => 178 | 212 => 186 | 51 => 187 | 20 => 20 | 213 => 188 | 46 => 170 | 232 => 191 | 233 => 192 | n => n, fun | 17 => 3 | 18 => 4 | 19 => 5 | n => n⟩
theorem Tryd.laysM171 : Go.Proofs.LaysM.n171 Tryd.prog Tryd.laysM171_ren := {
  mixed := by kernel_rfl
  f129 := Tryd.func137.trans (congrArg some (by kernel_rfl))
  f171 := Tryd.func104.trans (congrArg some (by kernel_rfl))
  f243 := Tryd.func119.trans (congrArg some (by kernel_rfl))
  f246 := Tryd.func126.trans (congrArg some (by kernel_rfl))
  f283 := Tryd.func130.trans (congrArg some (by kernel_rfl))
  f284 := Tryd.func131.trans (congrArg some (by kernel_rfl))
  f285 := Tryd.func132.trans (congrArg some (by kernel_rfl))
  f286 := Tryd.func133.trans (congrArg some (by kernel_rfl))
  f317 := Tryd.func136.trans (congrArg some (by kernel_rfl))
  f318 := Tryd.func138.trans (congrArg some (by kernel_rfl))
  f319 := Tryd.func139.trans (congrArg some (by kernel_rfl))
  f320 := Tryd.func140.trans (congrArg some (by kernel_rfl))
  f337 := Tryd.func141.trans (congrArg some (by kernel_rfl))
  f338 := Tryd.func142.trans (congrArg some (by kernel_rfl))
  t0 := Tryd.underlying0
  a0 := Tryd.isAgg0
  z0 := Tryd.sizeOf0
  v0 := Tryd.zeroValue0
  t2 := Tryd.underlying2
  a2 := Tryd.isAgg2
  z2 := Tryd.sizeOf2
  v2 := Tryd.zeroValue2
  t3 := Tryd.underlying3
  a3 := Tryd.isAgg3
  z3 := Tryd.sizeOf3
  v3 := Tryd.zeroValue3
  t4 := Tryd.underlying4
  a4 := Tryd.isAgg4
  z4 := Tryd.sizeOf4
  v4 := Tryd.zeroValue4
  t5 := Tryd.underlying5
  a5 := Tryd.isAgg5
  z5 := Tryd.sizeOf5
  v5 := Tryd.zeroValue5
  t9 := Tryd.underlying9
  a9 := Tryd.isAgg9
  z9 := Tryd.sizeOf9
  v9 := Tryd.zeroValue9
  t20 := Tryd.underlying20
  a20 := Tryd.isAgg20
  z20 := Tryd.sizeOf20
  v20 := Tryd.zeroValue20
  t37 := Tryd.underlying83
  a37 := Tryd.isAgg83
  z37 := Tryd.sizeOf83
  v37 := Tryd.zeroValue83
  t46 := Tryd.underlying170
  a46 := Tryd.isAgg170
  z46 := Tryd.sizeOf170
  v46 := Tryd.zeroValue170
  t51 := Tryd.underlying187
  a51 := Tryd.isAgg187
  z51 := Tryd.sizeOf187
  v51 := Tryd.zeroValue187
  t53 := Tryd.underlying167
  a53 := Tryd.isAgg167
  z53 := Tryd.sizeOf167
  v53 := Tryd.zeroValue167
  t171 := Tryd.underlying175
  a171 := Tryd.isAgg175
  z171 := Tryd.sizeOf175
  v171 := Tryd.zeroValue175
  t173 := Tryd.underlying178
  a173 := Tryd.isAgg178
  z173 := Tryd.sizeOf178
  v173 := Tryd.zeroValue178
  t212 := Tryd.underlying186
  a212 := Tryd.isAgg186
  z212 := Tryd.sizeOf186
  v212 := Tryd.zeroValue186
  t213 := Tryd.underlying188
  a213 := Tryd.isAgg188
  z213 := Tryd.sizeOf188
  t232 := Tryd.underlying191
  a232 := Tryd.isAgg191
  z232 := Tryd.sizeOf191
  v232 := Tryd.zeroValue191
  t233 := Tryd.underlying192
  a233 := Tryd.isAgg192
  z233 := Tryd.sizeOf192
  v233 := Tryd.zeroValue192
  g17 := by kernel_rfl
  g18 := by kernel_rfl
  g19 := by kernel_rfl
  i0 := by kernel_rfl
  i2 := by kernel_rfl
  i3 := by kernel_rfl
  i4 := by kernel_rfl
  i5 := by kernel_rfl
  i9 := by kernel_rfl
  i20 := by kernel_rfl
  i37 := by kernel_rfl
  i46 := by kernel_rfl
  i51 := by kernel_rfl
  i53 := by kernel_rfl
  i171 := by kernel_rfl
  i173 := by kernel_rfl
  i212 := by kernel_rfl
  i232 := by kernel_rfl
  i233 := by kernel_rfl
  m17 := by kernel_rfl
  m18 := by kernel_rfl
  m19 := by kernel_rfl }
end Go.Proofs
namespace Go.Vc
def byt (s : List UInt8) (i : Nat) : Nat := match s[i]? with
  | some b => b.toNat
  | none => 256
theorem byt_lt {s : List UInt8} {i : Nat} : byt s i < 256 ↔ i < s.length := by
  unfold byt
  constructor
  · intro h
    split at h
    · rename_i b hb; exact (List.getElem?_eq_some_iff.1 hb).1
    · omega
  · intro h
    rw [List.getElem?_eq_getElem h]
    exact (s[i]).toNat_lt
def inB (s : List UInt8) (i a b : Nat) : Bool := decide (byt s i < 256) && (decide (a ≤ byt s i) && decide (byt s i ≤ b))
def moreB (s : List UInt8) (i : Nat) : Nat → Bool
  | 0 => true
  | n + 1 => inB s i 128 191 && moreB s (i + 1) n
def sizeR (s : List UInt8) (i : Nat) : Nat :=
  if inB s i 0 127 then 1
  else if inB s i 194 223 && moreB s (i + 1) 1 then 2
  else if (inB s i 224 224 && inB s (i + 1) 160 191 && moreB s (i + 2) 1) || (inB s i 225 236 && moreB s (i + 1) 2) || (inB s i 237 237 && inB s (i + 1) 128 159 && moreB s (i + 2) 1) || (inB s i 238 239 && moreB s (i + 1) 2) then 3
  else if (inB s i 240 240 && inB s (i + 1) 144 191 && moreB s (i + 2) 2) || (inB s i 241 243 && moreB s (i + 1) 3) || (inB s i 244 244 && inB s (i + 1) 128 143 && moreB s (i + 2) 2) then 4
  else 0
def runeR (s : List UInt8) (i : Nat) : Nat → Nat
  | 1 => byt s i
  | 2 => 64 * (byt s i - 192) + byt s (i + 1) - 128
  | 3 => 64 * (64 * (byt s i - 224) + byt s (i + 1) - 128) + byt s (i + 2) - 128
  | 4 => 64 * (64 * (64 * (byt s i - 240) + byt s (i + 1) - 128) + byt s (i + 2) - 128) + byt s (i + 3) - 128
  | _ => 0
theorem get_byt {s : List UInt8} {i : Nat} (h : i < s.length) : ((⟨s.toArray⟩ : ByteArray).get! i).toNat = byt s i := by
  unfold byt
  rw [List.getElem?_eq_getElem h]
  simp [ByteArray.get!, getElem!_pos, h]
theorem size_list (s : List UInt8) : (⟨s.toArray⟩ : ByteArray).size = s.length := by simp [ByteArray.size]
set_option maxRecDepth 10000 in
set_option maxHeartbeats 2000000 in
theorem dec_arith (b0 b1 b2 b3 : Nat) (e1 e2 e3 : Bool) (h0 : b0 < 256) (h1 : e1 = true → 128 ≤ b1 ∧ b1 ≤ 191) (h2 : e2 = true → 128 ≤ b2 ∧ b2 ≤ 191) (h3 : e3 = true → 128 ≤ b3 ∧ b3 ≤ 191) (sz : Nat)
    (hsz : sz = if b0 ≤ 127 then 1
      else if (194 ≤ b0 ∧ b0 ≤ 223) ∧ e1 = true then 2
      else if (b0 = 224 ∧ (e1 = true ∧ 160 ≤ b1) ∧ e2 = true) ∨ ((225 ≤ b0 ∧ b0 ≤ 236) ∧ e1 = true ∧ e2 = true) ∨ (b0 = 237 ∧ (e1 = true ∧ b1 ≤ 159) ∧ e2 = true) ∨ ((238 ≤ b0 ∧ b0 ≤ 239) ∧ e1 = true ∧ e2 = true) then 3
      else if (b0 = 240 ∧ (e1 = true ∧ 144 ≤ b1) ∧ e2 = true ∧ e3 = true) ∨ ((241 ≤ b0 ∧ b0 ≤ 243) ∧ e1 = true ∧ e2 = true ∧ e3 = true) ∨ (b0 = 244 ∧ (e1 = true ∧ b1 ≤ 143) ∧ e2 = true ∧ e3 = true) then 4
      else 0) :
    (if b0 < 0x80 then (b0, 1)
      else if b0 / 32 = 6 ∧ e1 = true then (if (b0 % 32) * 64 + b1 % 64 ≥ 0x80 then ((b0 % 32) * 64 + b1 % 64, 2) else (65533, 1))
      else if b0 / 16 = 14 ∧ e1 = true ∧ e2 = true then (if (b0 % 16) * 4096 + (b1 % 64) * 64 + b2 % 64 ≥ 0x800 ∧ ((b0 % 16) * 4096 + (b1 % 64) * 64 + b2 % 64 < 0xD800 ∨ 0xE000 ≤ (b0 % 16) * 4096 + (b1 % 64) * 64 + b2 % 64 ∧ (b0 % 16) * 4096 + (b1 % 64) * 64 + b2 % 64 ≤ 0x10FFFF)
        then ((b0 % 16) * 4096 + (b1 % 64) * 64 + b2 % 64, 3) else (65533, 1))
      else if b0 / 8 = 30 ∧ e1 = true ∧ e2 = true ∧ e3 = true then (if (b0 % 8) * 262144 + (b1 % 64) * 4096 + (b2 % 64) * 64 + b3 % 64 ≥ 0x10000 ∧ ((b0 % 8) * 262144 + (b1 % 64) * 4096 + (b2 % 64) * 64 + b3 % 64 < 0xD800 ∨ 0xE000 ≤ (b0 % 8) * 262144 + (b1 % 64) * 4096 + (b2 % 64) * 64 + b3 % 64 ∧ (b0 % 8) * 262144 + (b1 % 64) * 4096 + (b2 % 64) * 64 + b3 % 64 ≤ 0x10FFFF)
        then ((b0 % 8) * 262144 + (b1 % 64) * 4096 + (b2 % 64) * 64 + b3 % 64, 4) else (65533, 1))
      else ((65533, 1) : Nat × Nat)) =
    if sz = 0 then (65533, 1) else (if sz = 1 then b0 else if sz = 2 then 64 * (b0 - 192) + b1 - 128 else if sz = 3 then 64 * (64 * (b0 - 224) + b1 - 128) + b2 - 128 else 64 * (64 * (64 * (b0 - 240) + b1 - 128) + b2 - 128) + b3 - 128, sz) := by
  cases e1 <;> cases e2 <;> cases e3 <;> (try replace h1 := h1 rfl) <;> (try replace h2 := h2 rfl) <;> (try replace h3 := h3 rfl) <;> simp only [Bool.false_eq_true,true_and,and_true,and_false,false_and,or_false,false_or,if_false] at hsz ⊢
  all_goals
    (repeat' split at hsz) <;> (repeat' split) <;> first | (exfalso; omega) | (apply Prod.ext <;> simp only <;> omega)
theorem valid_nat (n : Nat) : Utf8.valid (n : Int) = decide (n < 0xD800 ∨ 0xE000 ≤ n ∧ n ≤ 0x10FFFF) := by
  unfold Utf8.valid
  rw [Bool.eq_iff_iff]
  simp only [Bool.or_eq_true,Bool.and_eq_true,decide_eq_true_eq]
  omega
set_option maxRecDepth 20000 in
theorem decode_eq (s : List UInt8) (i : Nat) (h : i < s.length) :
    Utf8.decode ⟨s.toArray⟩ i = if sizeR s i = 0 then (65533, 1) else (runeR s i (sizeR s i), sizeR s i) := by
  have h0 := byt_lt.2 h
  have g0 : ((⟨s.toArray⟩ : ByteArray).get! (i + 0)).toNat = byt s i := get_byt h
  have c : ∀ k, (decide (i + k < s.length) && ((⟨s.toArray⟩ : ByteArray).get! (i + k)).toNat / 64 == 2) = inB s (i + k) 128 191 := by
    intro k
    unfold inB
    by_cases hk : i + k < s.length
    · have hb := byt_lt.2 hk
      rw [get_byt hk, decide_eq_true hk, decide_eq_true hb, Bool.true_and, Bool.true_and, Bool.eq_iff_iff]
      simp only [beq_iff_eq,Bool.and_eq_true,decide_eq_true_eq]
      omega
    · have hb : ¬ byt s (i + k) < 256 := fun hh => hk (byt_lt.1 hh)
      rw [decide_eq_false hk, decide_eq_false hb, Bool.false_and, Bool.false_and]
  have gk : ∀ k, inB s (i + k) 128 191 = true → ((⟨s.toArray⟩ : ByteArray).get! (i + k)).toNat = byt s (i + k) ∧ 128 ≤ byt s (i + k) ∧ byt s (i + k) ≤ 191 := by
    intro k hk
    simp only [inB,Bool.and_eq_true,decide_eq_true_eq] at hk
    exact ⟨get_byt (byt_lt.1 hk.1), hk.2.1, hk.2.2⟩
  have inb : ∀ a b, inB s i a b = (decide (a ≤ byt s i) && decide (byt s i ≤ b)) := fun a b => by rw [inB, decide_eq_true h0, Bool.true_and]
  have m1 : moreB s (i + 1) 1 = inB s (i + 1) 128 191 := by simp [moreB]
  have m2 : moreB s (i + 1) 2 = (inB s (i + 1) 128 191 && inB s (i + 2) 128 191) := by simp [moreB]
  have m3 : moreB s (i + 1) 3 = (inB s (i + 1) 128 191 && (inB s (i + 2) 128 191 && inB s (i + 3) 128 191)) := by simp [moreB]
  have m21 : moreB s (i + 2) 1 = inB s (i + 2) 128 191 := by simp [moreB]
  have m22 : moreB s (i + 2) 2 = (inB s (i + 2) 128 191 && inB s (i + 3) 128 191) := by simp [moreB]
  have sub : ∀ a b, 128 ≤ a → b ≤ 191 → inB s (i + 1) a b = (inB s (i + 1) 128 191 && (decide (a ≤ byt s (i + 1)) && decide (byt s (i + 1) ≤ b))) := by
    intro a b ha hb
    unfold inB
    rw [Bool.eq_iff_iff]
    simp only [Bool.and_eq_true,decide_eq_true_eq]
    omega
  have hsz : sizeR s i = if byt s i ≤ 127 then 1
      else if (194 ≤ byt s i ∧ byt s i ≤ 223) ∧ inB s (i + 1) 128 191 = true then 2
      else if (byt s i = 224 ∧ (inB s (i + 1) 128 191 = true ∧ 160 ≤ byt s (i + 1)) ∧ inB s (i + 2) 128 191 = true) ∨ ((225 ≤ byt s i ∧ byt s i ≤ 236) ∧ inB s (i + 1) 128 191 = true ∧ inB s (i + 2) 128 191 = true) ∨
        (byt s i = 237 ∧ (inB s (i + 1) 128 191 = true ∧ byt s (i + 1) ≤ 159) ∧ inB s (i + 2) 128 191 = true) ∨ ((238 ≤ byt s i ∧ byt s i ≤ 239) ∧ inB s (i + 1) 128 191 = true ∧ inB s (i + 2) 128 191 = true) then 3
      else if (byt s i = 240 ∧ (inB s (i + 1) 128 191 = true ∧ 144 ≤ byt s (i + 1)) ∧ inB s (i + 2) 128 191 = true ∧ inB s (i + 3) 128 191 = true) ∨ ((241 ≤ byt s i ∧ byt s i ≤ 243) ∧ inB s (i + 1) 128 191 = true ∧ inB s (i + 2) 128 191 = true ∧ inB s (i + 3) 128 191 = true) ∨
        (byt s i = 244 ∧ (inB s (i + 1) 128 191 = true ∧ byt s (i + 1) ≤ 143) ∧ inB s (i + 2) 128 191 = true ∧ inB s (i + 3) 128 191 = true) then 4
      else 0 := by
    have b1 := fun (e : inB s (i + 1) 128 191 = true) => (gk 1 e).2
    unfold sizeR
    rw [sub 160 191 (by omega) (by omega), sub 128 159 (by omega) (by omega), sub 144 191 (by omega) (by omega), sub 128 143 (by omega) (by omega)]
    simp only [inb,m1,m2,m3,m21,m22]
    cases e1 : inB s (i + 1) 128 191 <;> cases e2 : inB s (i + 2) 128 191 <;> cases e3 : inB s (i + 3) 128 191 <;> (try replace b1 := b1 e1) <;>
      simp only [Bool.false_and,Bool.true_and,Bool.and_false,Bool.and_true,Bool.or_false,Bool.false_or,Bool.false_eq_true,Bool.or_eq_true,Bool.and_eq_true,decide_eq_true_eq,and_false,false_and,and_true,true_and,or_false,if_false] <;>
      (repeat' split) <;> first | rfl | (exfalso; omega)
  have key := dec_arith (byt s i) (byt s (i + 1)) (byt s (i + 2)) (byt s (i + 3)) (inB s (i + 1) 128 191) (inB s (i + 2) 128 191) (inB s (i + 3) 128 191) h0 (fun e => (gk 1 e).2) (fun e => (gk 2 e).2) (fun e => (gk 3 e).2) (sizeR s i) hsz
  have hr : (if sizeR s i = 0 then (65533, 1) else (runeR s i (sizeR s i), sizeR s i) : Nat × Nat) = if sizeR s i = 0 then (65533, 1) else (if sizeR s i = 1 then byt s i else if sizeR s i = 2 then 64 * (byt s i - 192) + byt s (i + 1) - 128 else
      if sizeR s i = 3 then 64 * (64 * (byt s i - 224) + byt s (i + 1) - 128) + byt s (i + 2) - 128 else 64 * (64 * (64 * (byt s i - 240) + byt s (i + 1) - 128) + byt s (i + 2) - 128) + byt s (i + 3) - 128, sizeR s i) := by
    have : sizeR s i = 0 ∨ sizeR s i = 1 ∨ sizeR s i = 2 ∨ sizeR s i = 3 ∨ sizeR s i = 4 := by
      rw [hsz]; (repeat' split) <;> omega
    rcases this with e | e | e | e | e
    · rw [if_pos e, if_pos e]
    · rw [if_neg (by omega), if_neg (by omega), if_pos e, e]; rfl
    · rw [if_neg (by omega), if_neg (by omega), if_neg (by omega), if_pos e, e]; rfl
    · rw [if_neg (by omega), if_neg (by omega), if_neg (by omega), if_neg (by omega), if_pos e, e]; rfl
    · rw [if_neg (by omega), if_neg (by omega), if_neg (by omega), if_neg (by omega), if_neg (by omega), e]; rfl
  rw [hr, ← key]
  unfold Utf8.decode
  simp only [size_list,g0,c,valid_nat,Utf8.runeError]
  cases e1 : inB s (i + 1) 128 191 <;> cases e2 : inB s (i + 2) 128 191 <;> cases e3 : inB s (i + 3) 128 191 <;>
    (try rw [(gk 1 e1).1]) <;> (try rw [(gk 2 e2).1]) <;> (try rw [(gk 3 e3).1]) <;>
    simp only [Bool.false_and,Bool.true_and,Bool.and_false,Bool.and_true,Bool.false_eq_true,Bool.and_eq_true,decide_eq_true_eq,beq_iff_eq,and_false,false_and,and_true,true_and,if_false]
end Go.Vc
namespace Go.Vc
open Go.Proofs
theorem idx_byt {s : List UInt8} {i : Nat} (h : i < s.length) : idxSV (.str s) (vI i) = some (.int .u8 (byt s i)) := by
  unfold idxSV byt
  simp [h]
def isWhite (c : Int) : Bool := decide (c = 32) || (decide (c = 9) || decide (c = 10))
theorem white_c (c : Int) : PFun Tryd.prog 74 [.int .i32 c] (.bool (isWhite c)) := fun σ => by
  refine Contract.of_runs Tryd.func74 e74 k74 (by simp [c74]) ?_
  refine Runs.mix 2 ?_
  (refine Runs.of_step Orc.nothing 300 ?_; simp -implicitDefEqProofs only [BB,seval,effR_some,effD_some,← decide_not,okind,vpre,vpure,intBin,intPre,strBin,strPre,popTo,argSlots,fldV,fldAV,subCells,idxVV,idxAAV,idxSV,sliceV,sliceSV,boundV,szIs,storeOp,storeS,setRowV,eff,extV,buildV,splice,eqSV,fitsL,eqCells,eqCell,minmaxV,capV,binBV,nilCheckV,bytesV,V.cells,V.stays,Orc.nothing,c74])
  refine And.intro (fun h => And.intro (fun h2 => ?_) (fun h2 => ?_)) (fun h => ?_)
  all_goals exact RetV.same (by simp [isWhite, h, *])
def isDig (c : Int) : Bool := decide (c ≥ 48 ∧ c ≤ 57)
theorem digit_c (c : Int) : PFun Tryd.prog 76 [.int .i32 c] (.bool (isDig c)) := fun σ => by
  refine Contract.of_runs Tryd.func76 e76 k76 (by simp [c76]) ?_
  refine Runs.mix 2 ?_
  (refine Runs.of_step Orc.nothing 300 ?_; simp -implicitDefEqProofs only [BB,seval,effR_some,effD_some,← decide_not,okind,vpre,vpure,intBin,intPre,strBin,strPre,popTo,argSlots,fldV,fldAV,subCells,idxVV,idxAAV,idxSV,sliceV,sliceSV,boundV,szIs,storeOp,storeS,setRowV,eff,extV,buildV,splice,eqSV,fitsL,eqCells,eqCell,minmaxV,capV,binBV,nilCheckV,bytesV,V.cells,V.stays,Orc.nothing,c76])
  constructor <;> intro h <;> exact RetV.same (by simp [h, isDig])
def Orc.one {P : Program} (O : Orc P) (f0 : FuncId) (g : List V → Option V) (h : ∀ args v, g args = some v → PFun P f0 args v) : Orc P where
  get f args σ := if f = f0 then g args else O.get f args σ
  up f args σ σ' v hs hv := by
    split at hv
    · rename_i hf; rw [if_pos hf]; exact hv
    · rename_i hf; rw [if_neg hf]; exact O.up f args σ σ' v hs hv
  ok f args σ v hv := by
    split at hv
    · rename_i hf; subst hf; exact h args v hv σ
    · exact O.ok f args σ v hv
end Go.Vc
namespace Go.Vc
theorem sizeR_cases (s : List UInt8) (i : Nat) : sizeR s i = 0 ∨ (sizeR s i = 1 ∧ byt s i ≤ 127) ∨ (sizeR s i = 2 ∧ 194 ≤ byt s i ∧ byt s i ≤ 223 ∧ 128 ≤ byt s (i + 1) ∧ byt s (i + 1) ≤ 191) ∨
    (sizeR s i = 3 ∧ 224 ≤ byt s i ∧ byt s i ≤ 239 ∧ 128 ≤ byt s (i + 1) ∧ byt s (i + 1) ≤ 191 ∧ 128 ≤ byt s (i + 2) ∧ byt s (i + 2) ≤ 191) ∨
    (sizeR s i = 4 ∧ 240 ≤ byt s i ∧ byt s i ≤ 244 ∧ 128 ≤ byt s (i + 1) ∧ byt s (i + 1) ≤ 191 ∧ 128 ≤ byt s (i + 2) ∧ byt s (i + 2) ≤ 191 ∧ 128 ≤ byt s (i + 3) ∧ byt s (i + 3) ≤ 191) := by
  unfold sizeR
  repeat' split
  all_goals (simp [inB, moreB, Nat.add_assoc] at *)
  all_goals omega
theorem byt_some {s : List UInt8} {i : Nat} (h : byt s i ≤ 255) : i < s.length := byt_lt.1 (by omega)
theorem sizeR_le {s : List UInt8} {i : Nat} (h : i < s.length) : i + sizeR s i ≤ s.length := by
  rcases sizeR_cases s i with h | h | h | h | h
  · omega
  · omega
  · have := byt_some (s := s) (i := i + 1) (by omega); omega
  · have := byt_some (s := s) (i := i + 2) (by omega); omega
  · have := byt_some (s := s) (i := i + 3) (by omega); omega
theorem sizeR_ascii {s : List UInt8} {i : Nat} (h : byt s i ≤ 127) : sizeR s i = 1 := by
  have : inB s i 0 127 = true := by simp [inB]; omega
  simp [sizeR, this]
def badI (s : List UInt8) (at' : Nat) : Option Nat :=
  if h : at' < s.length then (if hz : sizeR s at' = 0 then some at' else badI s (at' + sizeR s at')) else none
termination_by s.length - at'
theorem badI_end {s : List UInt8} {i : Nat} (h : ¬ i < s.length) : badI s i = none := by rw [badI, dif_neg h]
theorem badI_bad {s : List UInt8} {i : Nat} (h : i < s.length) (hz : sizeR s i = 0) : badI s i = some i := by rw [badI, dif_pos h, dif_pos hz]
theorem badI_step {s : List UInt8} {i : Nat} (h : i < s.length) (hz : sizeR s i ≠ 0) : badI s i = badI s (i + sizeR s i) := by rw [badI.eq_def s i, dif_pos h, dif_neg hz]
def digLen : List UInt8 → Nat
  | [] => 0
  | b :: l => if 48 ≤ b.toNat ∧ b.toNat ≤ 57 then digLen l + 1 else 0
theorem digLen_le : ∀ l, digLen l ≤ l.length
  | [] => by simp [digLen]
  | b :: l => by
    have := digLen_le l
    simp only [digLen]
    split <;> simp <;> omega
def numR (l : List UInt8) : Nat := l.foldl (fun n b => 10 * n + (b.toNat - 48)) 0
structure Tk where
  kind : Int
  sign : Int
  n : Int
  at' : Int
  deriving DecidableEq
inductive Res where
  | ok (l : List Tk)
  | bad (i : Nat)
def Res.cons (t : Tk) : Res → Res
  | .ok l => .ok (t :: l)
  | .bad i => .bad i
def Res.app (p : List Tk) : Res → Res
  | .ok l => .ok (p ++ l)
  | .bad i => .bad i
theorem Res.app_nil (r : Res) : r.app [] = r := by cases r <;> rfl
def digsAt (s : List UInt8) (i : Nat) : List UInt8 := (s.drop i).take (digLen (s.drop i))
def numBad (l : List UInt8) : Bool := decide (numR l > 1099511627776) || (decide (l.head? = some 48) && decide (l.length > 1))
theorem digLen_pos {s : List UInt8} {i : Nat} (h1 : 48 ≤ byt s i) (h2 : byt s i ≤ 57) : 0 < digLen (s.drop i) := by
  have hl := byt_some (s := s) (i := i) (by omega)
  rw [List.drop_eq_getElem_cons hl, digLen]
  have : byt s i = (s[i]).toNat := by simp [byt, hl]
  rw [if_pos (by omega)]
  omega
def ofI (s : List UInt8) (c : Bool) (i : Nat) : Res :=
  if h : i < s.length then
    if hz : sizeR s i = 0 then .bad i
    else if c then ofI s (decide (byt s i ≠ 10)) (i + sizeR s i)
    else if byt s i = 35 then ofI s true (i + 1)
    else if byt s i = 32 ∨ byt s i = 9 ∨ byt s i = 10 then ofI s false (i + 1)
    else if hd : 48 ≤ byt s i ∧ byt s i ≤ 57 then
      if numBad (digsAt s i) then .bad i
      else (ofI s false (i + digLen (s.drop i))).cons ⟨2, 0, numR (digsAt s i), i⟩
    else (ofI s false (i + sizeR s i)).cons ⟨1, runeR s i (sizeR s i), 0, i⟩
  else .ok []
termination_by s.length - i
decreasing_by
  all_goals (try have := digLen_pos hd.1 hd.2)
  all_goals omega
def decR (s : List UInt8) (i : Nat) : Nat × Nat := if sizeR s i = 0 then (65533, 1) else (runeR s i (sizeR s i), sizeR s i)
theorem decR_pos (s : List UInt8) (i : Nat) : 0 < (decR s i).2 := by
  unfold decR; split <;> simp <;> omega
def lineEnd (s : List UInt8) (i : Nat) : Nat := match (s.drop i).findIdx? (· == 10) with
  | some k => i + k
  | none => s.length
def numT (l : List UInt8) : Int := if numBad l then -1 else numR l
def nextI (s : List UInt8) (skip i c : Nat) : Option Tk × Nat :=
  if i < skip ∨ c = 32 ∨ c = 9 ∨ c = 10 then (none, skip)
  else if c = 35 then (none, lineEnd s i)
  else if 48 ≤ c ∧ c ≤ 57 then (some ⟨2, 0, numT (digsAt s i), i⟩, i + digLen (s.drop i))
  else (some ⟨1, c, 0, i⟩, skip)
def allI (s : List UInt8) (skip : Nat) (i : Nat) : List Tk :=
  if h : i < s.length then
    have := decR_pos s i
    (nextI s skip i (decR s i).1).1.toList ++ allI s (nextI s skip i (decR s i).1).2 (i + (decR s i).2)
  else []
termination_by s.length - i
def fromT : List Tk → Res
  | [] => .ok []
  | t :: l => if t.n < 0 then .bad t.at'.toNat else (fromT l).cons t
def ofC (s : List UInt8) : Res := match badI s 0 with
  | none => fromT (allI s 0 0)
  | some e => match fromT (allI (s.take e) 0 0) with
    | .ok _ => .bad e
    | .bad p => .bad p
end Go.Vc
namespace Go.Vc
open Go.Proofs
theorem inR_i32 {n : Int} (h1 : -2147483648 ≤ n) (h2 : n < 2147483648) : inR .i32 n := by
  unfold inR
  rw [IntKind.wrap_i32]
  omega
end Go.Vc
namespace Go.Vc
open Go.Proofs
def isPre (a b : List UInt8) : Bool := decide (b.length ≤ a.length) && decide (a.take b.length = b)
theorem prefix31_c (a b : List UInt8) : PFun Tryd.prog 98 [.str a, .str b] (.bool (isPre a b)) := fun σ => by
  refine Contract.of_runs Tryd.func98 e98 k98 (by simp [c98]) ?_
  refine Runs.mix 5 ?_
  by_cases h : b.length ≤ a.length
  · have h1 : ((a.length : Int) ≥ (b.length : Int)) = True := by simp; omega
    have h2 : sliceSV (.str a) none (some (vI b.length)) = some (.str (a.take b.length)) := by
      simp only [sliceSV,boundV]
      rw [if_pos (by omega)]
      simp
    (refine Runs.of_step Orc.nothing 300 ?_; simp -implicitDefEqProofs only [BB,seval,effR_some,effD_some,← decide_not,okind,vpre,vpure,intBin,intPre,strBin,strPre,popTo,argSlots,fldV,fldAV,subCells,idxVV,idxAAV,idxSV,sliceV,boundV,szIs,storeOp,storeS,setRowV,eff,extV,buildV,splice,eqSV,fitsL,eqCells,eqCell,minmaxV,capV,binBV,nilCheckV,bytesV,V.cells,V.stays,Orc.nothing,c98,h1,h2])
    exact RetV.same (by simp [isPre, h])
  · have h1 : ((a.length : Int) ≥ (b.length : Int)) = False := by simp; omega
    (refine Runs.of_step Orc.nothing 300 ?_; simp -implicitDefEqProofs only [BB,seval,effR_some,effD_some,← decide_not,okind,vpre,vpure,intBin,intPre,strBin,strPre,popTo,argSlots,fldV,fldAV,subCells,idxVV,idxAAV,idxSV,sliceV,sliceSV,boundV,szIs,storeOp,storeS,setRowV,eff,extV,buildV,splice,eqSV,fitsL,eqCells,eqCell,minmaxV,capV,binBV,nilCheckV,bytesV,V.cells,V.stays,Orc.nothing,c98,h1])
    exact RetV.same (by simp [isPre, h])
theorem prefix_c (a b : List UInt8) : PFun Tryd.prog 71 [.str a, .str b] (.bool (isPre a b)) := fun σ => by
  refine Contract.of_runs Tryd.func71 e71 k71 (by simp [c71]) ?_
  refine Runs.mix 5 ?_
  (refine Runs.of_step Orc.nothing 300 ?_; simp -implicitDefEqProofs only [BB,seval,effR_some,effD_some,← decide_not,okind,vpre,vpure,intBin,intPre,strBin,strPre,popTo,argSlots,fldV,fldAV,subCells,idxVV,idxAAV,idxSV,sliceV,sliceSV,boundV,szIs,storeOp,storeS,setRowV,eff,extV,buildV,splice,eqSV,fitsL,eqCells,eqCell,minmaxV,capV,binBV,nilCheckV,bytesV,V.cells,V.stays,Orc.nothing,c71])
  refine Runs.pcall rfl rfl rfl (prefix31_c a b σ) ?_
  (refine Runs.of_step Orc.nothing 300 ?_; simp -implicitDefEqProofs only [BB,seval,effR_some,effD_some,← decide_not,okind,vpre,vpure,intBin,intPre,strBin,strPre,popTo,argSlots,fldV,fldAV,subCells,idxVV,idxAAV,idxSV,sliceV,sliceSV,boundV,szIs,storeOp,storeS,setRowV,eff,extV,buildV,splice,eqSV,fitsL,eqCells,eqCell,minmaxV,capV,binBV,nilCheckV,bytesV,V.cells,V.stays,Orc.nothing])
  exact RetV.same rfl
def g27 : List V → Option V
  | [.int .i32 c] => some (.bool (isDig c))
  | _ => none
def OE4 : Orc Tryd.prog := Orc.nothing.one 76 g27 fun args v h => by
  unfold g27 at h
  split at h
  · simp only [Option.some.injEq] at h; subst h; exact digit_c _
  · cases h
theorem OE4_27 (c : Int) (σ : Store) : OE4.get 76 [.int .i32 c] σ = some (.bool (isDig c)) := rfl
theorem digits_c (s : List UInt8) (hs : s.length ≤ 1000000000) : PFun Tryd.prog 77 [.str s] (vI (digLen s)) := fun σ => by
  refine Contract.of_runs Tryd.func77 e77 k77 (by simp [c77]) ?_
  refine Runs.mix 4 ?_
  (refine Runs.of_step Orc.nothing 300 ?_; simp -implicitDefEqProofs only [BB,seval,effR_some,effD_some,← decide_not,okind,vpre,vpure,intBin,intPre,strBin,strPre,popTo,argSlots,fldV,fldAV,subCells,idxVV,idxAAV,idxSV,sliceV,sliceSV,boundV,szIs,storeOp,storeS,setRowV,eff,extV,buildV,splice,eqSV,fitsL,eqCells,eqCell,minmaxV,capV,binBV,nilCheckV,bytesV,V.cells,V.stays,Orc.nothing,c77])
  refine Runs.loop (fun m st => ∃ j : Nat, j ≤ s.length ∧ m = s.length - j ∧ digLen s = j + digLen (s.drop j) ∧ st.σ = σ ∧ st.s 0 = .str s ∧ st.s 3 = vI j) s.length ?_ ?_
  · exact ⟨0, by omega, by omega, by simp, rfl, rfl, rfl⟩
  · rintro m ⟨s', σ'⟩ ⟨j, hj, rfl, hp, hσ, h0, h3⟩
    simp only at h0 h3 hσ
    subst hσ
    refine Runs.mix 4 ?_
    by_cases hlt : j < s.length
    · have hlt' : ((j : Int) < (s.length : Int)) = True := by simp; omega
      have hx := idx_byt hlt
      have hbl : byt s j < 256 := byt_lt.2 hlt
      have hr : inR .i32 (byt s j : Int) := inR_i32 (by omega) (by omega)
      have hd : digLen (s.drop j) = if 48 ≤ byt s j ∧ byt s j ≤ 57 then digLen (s.drop (j + 1)) + 1 else 0 := by
        rw [List.drop_eq_getElem_cons hlt, digLen]
        simp [byt, hlt]
      have hin : inR .i64 ((j : Int) + 1) := inR_i64 (by omega) (by omega)
      by_cases hb : 48 ≤ byt s j ∧ byt s j ≤ 57
      · have hq : OE4.get 76 [.int .i32 (byt s j : Int)] σ' = some (.bool true) := by rw [OE4_27]; simp [isDig]; omega
        (refine Runs.of_step OE4 300 ?_; simp -implicitDefEqProofs only [BB,seval,effR_some,effD_some,← decide_not,okind,vpre,vpure,intBin,intPre,strBin,strPre,popTo,argSlots,fldV,fldAV,subCells,idxVV,idxAAV,sliceV,sliceSV,boundV,szIs,storeOp,storeS,setRowV,eff,extV,buildV,splice,eqSV,fitsL,eqCells,eqCell,minmaxV,capV,binBV,nilCheckV,bytesV,V.cells,V.stays,h0,h3,hlt',hx,hr,hq,hin])
        rw [if_pos hb] at hd
        exact ⟨_, by omega, j + 1, by omega, rfl, by omega, by simp⟩
      · have hq : OE4.get 76 [.int .i32 (byt s j : Int)] σ' = some (.bool false) := by rw [OE4_27]; simp [isDig]; omega
        (refine Runs.of_step OE4 300 ?_; simp -implicitDefEqProofs only [BB,seval,effR_some,effD_some,← decide_not,okind,vpre,vpure,intBin,intPre,strBin,strPre,popTo,argSlots,fldV,fldAV,subCells,idxVV,idxAAV,sliceV,sliceSV,boundV,szIs,storeOp,storeS,setRowV,eff,extV,buildV,splice,eqSV,fitsL,eqCells,eqCell,minmaxV,capV,binBV,nilCheckV,bytesV,V.cells,V.stays,h0,h3,hlt',hx,hr,hq,hin])
        rw [if_neg hb] at hd
        exact RetV.same (by simp only [vI,V.int.injEq,true_and]; omega)
    · have hlt' : ((j : Int) < (s.length : Int)) = False := by simp; omega
      (refine Runs.of_step Orc.nothing 300 ?_; simp -implicitDefEqProofs only [BB,seval,effR_some,effD_some,← decide_not,okind,vpre,vpure,intBin,intPre,strBin,strPre,popTo,argSlots,fldV,fldAV,subCells,idxVV,idxAAV,idxSV,sliceV,sliceSV,boundV,szIs,storeOp,storeS,setRowV,eff,extV,buildV,splice,eqSV,fitsL,eqCells,eqCell,minmaxV,capV,binBV,nilCheckV,bytesV,V.cells,V.stays,Orc.nothing,h0,h3,hlt'])
      refine RetV.same ?_
      rw [hp, List.drop_eq_nil_of_le (by omega)]
      simp [digLen]
def textV : Option Nat → V
  | some p => .tup [vI p, .bool false]
  | none => .tup [vI 0, .bool true]
def g19 : List V → Option V
  | [.str s, .int .i64 i] => if 0 ≤ i ∧ i ≤ 100000000 then some (vI (sizeR s i.toNat)) else none
  | _ => none
end Go.Vc
namespace Go.Vc
open Go.Proofs
theorem decode_decR {s : List UInt8} {i : Nat} (h : i < s.length) : Utf8.decode ⟨s.toArray⟩ i = decR s i := decode_eq s i h
theorem decR_le {s : List UInt8} {i : Nat} (h : i < s.length) : i + (decR s i).2 ≤ s.length := by
  have := sizeR_le h
  unfold decR
  split
  · simp; omega
  · exact this
theorem runeR_lt (s : List UInt8) (i : Nat) : runeR s i (sizeR s i) ≤ 2200000 := by
  rcases sizeR_cases s i with h | h | h | h | h
  · rw [h]; show 0 ≤ _; omega
  · rw [h.1]; show byt s i ≤ _; omega
  · rw [h.1]; show 64 * (byt s i - 192) + byt s (i + 1) - 128 ≤ _; omega
  · rw [h.1]; show 64 * (64 * (byt s i - 224) + byt s (i + 1) - 128) + byt s (i + 2) - 128 ≤ _; omega
  · rw [h.1]; show 64 * (64 * (64 * (byt s i - 240) + byt s (i + 1) - 128) + byt s (i + 2) - 128) + byt s (i + 3) - 128 ≤ _; omega
theorem byt_get {s : List UInt8} {i : Nat} (h : i < s.length) : (s[i]).toNat = byt s i := by simp [byt, h]
theorem isPre_lost {s : List UInt8} {i : Nat} (hi : i < s.length) : isPre (s.drop i) [239, 191, 189] = (decide (byt s i = 239) && decide (byt s (i + 1) = 191) && decide (byt s (i + 2) = 189)) := by
  rw [Bool.eq_iff_iff]
  simp only [isPre,Bool.and_eq_true,decide_eq_true_eq,List.length_cons,List.length_nil,List.length_drop]
  constructor
  · rintro ⟨h1, h2⟩
    have e1 : i + 1 < s.length := by omega
    have e2 : i + 2 < s.length := by omega
    rw [List.drop_eq_getElem_cons hi, List.drop_eq_getElem_cons e1, List.drop_eq_getElem_cons e2] at h2
    simp only [List.take_succ_cons,List.take_zero,List.cons.injEq,and_true] at h2
    obtain ⟨g1, g2, g3⟩ := h2
    rw [← byt_get hi, ← byt_get e1, ← byt_get e2, g1, g2, g3]
    exact ⟨⟨rfl, rfl⟩, rfl⟩
  · rintro ⟨⟨h1, h2⟩, h3⟩
    have e1 : i + 1 < s.length := byt_some (by omega)
    have e2 : i + 2 < s.length := byt_some (by omega)
    refine ⟨by omega, ?_⟩
    rw [List.drop_eq_getElem_cons hi, List.drop_eq_getElem_cons e1, List.drop_eq_getElem_cons e2]
    simp only [List.take_succ_cons,List.take_zero]
    rw [← byt_get hi] at h1
    rw [← byt_get e1] at h2
    rw [← byt_get e2] at h3
    have q1 : s[i] = 239 := UInt8.toNat.inj h1
    have q2 : s[i + 1] = 191 := UInt8.toNat.inj h2
    have q3 : s[i + 2] = 189 := UInt8.toNat.inj h3
    rw [q1, q2, q3]
theorem lost_iff {s : List UInt8} {i : Nat} (hi : i < s.length) : ((decR s i).1 = 65533 ∧ isPre (s.drop i) [239, 191, 189] = false) ↔ sizeR s i = 0 := by
  rw [isPre_lost hi]
  unfold decR
  constructor
  · rintro ⟨h1, h2⟩
    refine Classical.byContradiction fun hz => ?_
    rw [if_neg hz] at h1
    rcases sizeR_cases s i with h | h | h | h | h
    · exact hz h
    · rw [h.1] at h1; have : byt s i = 65533 := h1; omega
    · rw [h.1] at h1; have : 64 * (byt s i - 192) + byt s (i + 1) - 128 = 65533 := h1; omega
    · rw [h.1] at h1; have : 64 * (64 * (byt s i - 224) + byt s (i + 1) - 128) + byt s (i + 2) - 128 = 65533 := h1
      have a1 : byt s i = 239 := by omega
      have a2 : byt s (i + 1) = 191 := by omega
      have a3 : byt s (i + 2) = 189 := by omega
      simp [a1, a2, a3] at h2
    · rw [h.1] at h1; have : 64 * (64 * (64 * (byt s i - 240) + byt s (i + 1) - 128) + byt s (i + 2) - 128) + byt s (i + 3) - 128 = 65533 := h1
      have h4 := h.2
      have := sizeR s i
      have hs4 := h.1
      have : 64 ≤ 64 * (byt s i - 240) + byt s (i + 1) - 128 → False := fun _ => by omega
      have b0 : byt s i = 240 := by omega
      have hq : sizeR s i = 4 := hs4
      unfold sizeR at hq
      simp [inB, moreB, b0] at hq
      omega
  · intro hz
    rw [if_pos hz]
    refine ⟨rfl, ?_⟩
    rw [Bool.eq_false_iff]
    intro h
    simp only [Bool.and_eq_true,decide_eq_true_eq] at h
    obtain ⟨⟨h1, h2⟩, h3⟩ := h
    unfold sizeR at hz
    simp [inB, moreB, h1, h2, Nat.add_assoc, h3] at hz
set_option maxRecDepth 100000 in
theorem text_c (s : List UInt8) (hs : s.length ≤ 10000000) : PFun Tryd.prog 39 [.str s] (textV (badI s 0)) := fun σ => by
  refine Contract.of_runs Tryd.func39 e39 k39 (by simp [c39]) ?_
  refine Runs.mix 8 ?_
  (refine Runs.of_step Orc.nothing 300 ?_; simp -implicitDefEqProofs only [BB,seval,effR_some,effD_some,← decide_not,okind,vpre,vpure,intBin,intPre,strBin,strPre,popTo,argSlots,fldV,fldAV,subCells,idxVV,idxAAV,idxSV,sliceV,sliceSV,boundV,szIs,storeOp,storeS,setRowV,eff,extV,buildV,splice,eqSV,fitsL,eqCells,eqCell,minmaxV,capV,binBV,nilCheckV,bytesV,V.cells,V.stays,Orc.nothing,c39])
  refine Runs.rngS rfl rfl rfl fun id hid => ?_
  have hid : σ id = none := hid
  (refine Runs.of_step Orc.nothing 300 ?_; simp -implicitDefEqProofs only [BB,seval,effR_some,effD_some,← decide_not,okind,vpre,vpure,intBin,intPre,strBin,strPre,popTo,argSlots,fldV,fldAV,subCells,idxVV,idxAAV,idxSV,sliceV,sliceSV,boundV,szIs,storeOp,storeS,setRowV,eff,extV,buildV,splice,eqSV,fitsL,eqCells,eqCell,minmaxV,capV,binBV,nilCheckV,bytesV,V.cells,V.stays,Orc.nothing])
  refine Runs.loop (fun m st => ∃ j : Nat, j ≤ s.length ∧ m = s.length - j ∧ badI s 0 = badI s j ∧ SubStore σ st.σ ∧ st.σ id = some (gh (.stringIter ⟨s.toArray⟩ j)) ∧ st.s 0 = .str s ∧ st.s 7 = .gp id) s.length ?_ ?_
  · exact ⟨0, by omega, by omega, rfl, (SubStore.refl σ).updK hid, upd_same, rfl, rfl⟩
  · rintro m ⟨s', σ'⟩ ⟨j, hj, rfl, hp, hsub, hrow, h0, h7⟩
    simp only at h0 h7 hrow hsub
    refine Runs.mix 8 ?_
    (refine Runs.of_step Orc.nothing 300 ?_; simp -implicitDefEqProofs only [BB,seval,effR_some,effD_some,← decide_not,okind,vpre,vpure,intBin,intPre,strBin,strPre,popTo,argSlots,fldV,fldAV,subCells,idxVV,idxAAV,idxSV,sliceV,sliceSV,boundV,szIs,storeOp,storeS,setRowV,eff,extV,buildV,splice,eqSV,fitsL,eqCells,eqCell,minmaxV,capV,binBV,nilCheckV,bytesV,V.cells,V.stays,Orc.nothing])
    refine Runs.nxtS rfl rfl h7 hrow (fun hlt => ?_) (fun hlt => ?_)
    · rw [decode_decR hlt]
      have hle := decR_le hlt
      have hpos := decR_pos s j
      have hli := lost_iff hlt
      have hbd := @badI_bad s j hlt
      have hbs := @badI_step s j hlt
      have hr1 : (decR s j).1 ≤ 2200000 := by
        unfold decR; split
        · simp
        · exact Nat.le_trans (runeR_lt s j) (by omega)
      have hd2 : sizeR s j ≠ 0 → (decR s j).2 = sizeR s j := fun h => by simp [decR, h]
      have hslice : sliceSV (.str s) (some (vI j)) none = some (.str (s.drop j)) := by
        simp only [sliceSV,boundV]
        rw [if_pos (by omega)]
        rw [show ((s.length : Int)).toNat - ((j : Int)).toNat = s.length - j by omega, Int.toNat_natCast, List.take_of_length_le (by simp)]
      generalize decR s j = d at *
      obtain ⟨c, sz⟩ := d
      simp only at hle hpos hli hr1 hd2
      by_cases hc : c = 65533
      · have hc' : ((c : Int) = 65533) = True := by simp [hc]
        (refine Runs.of_step Orc.nothing 300 ?_; simp -implicitDefEqProofs only [BB,seval,effR_some,effD_some,← decide_not,okind,vpre,vpure,intBin,intPre,strBin,strPre,popTo,argSlots,fldV,fldAV,subCells,idxVV,idxAAV,idxSV,sliceV,boundV,szIs,storeOp,storeS,setRowV,eff,extV,buildV,splice,eqSV,fitsL,eqCells,eqCell,minmaxV,capV,binBV,nilCheckV,bytesV,V.cells,V.stays,Orc.nothing,h0,h7,hc',hslice])
        refine Runs.pcall rfl rfl rfl (prefix_c _ _ _) ?_
        cases hpre : isPre (s.drop j) [239, 191, 189]
        · (refine Runs.of_step Orc.nothing 300 ?_; simp -implicitDefEqProofs only [BB,seval,effR_some,effD_some,← decide_not,okind,vpre,vpure,intBin,intPre,strBin,strPre,popTo,argSlots,fldV,fldAV,subCells,idxVV,idxAAV,idxSV,sliceV,sliceSV,boundV,szIs,storeOp,storeS,setRowV,eff,extV,buildV,splice,eqSV,fitsL,eqCells,eqCell,minmaxV,capV,binBV,nilCheckV,bytesV,V.cells,V.stays,Orc.nothing,h0])
          refine RetV.pure ?_ ?_
          · exact hsub.updK hid
          · rw [hp, hbd (hli.1 ⟨hc, hpre⟩)]; rfl
        · (refine Runs.of_step Orc.nothing 300 ?_; simp -implicitDefEqProofs only [BB,seval,effR_some,effD_some,← decide_not,okind,vpre,vpure,intBin,intPre,strBin,strPre,popTo,argSlots,fldV,fldAV,subCells,idxVV,idxAAV,idxSV,sliceV,sliceSV,boundV,szIs,storeOp,storeS,setRowV,eff,extV,buildV,splice,eqSV,fitsL,eqCells,eqCell,minmaxV,capV,binBV,nilCheckV,bytesV,V.cells,V.stays,Orc.nothing,h0])
          have hz : sizeR s j ≠ 0 := fun h => by have := (hli.2 h).2; rw [hpre] at this; cases this
          refine ⟨_, ?_, j + sz, by omega, rfl, ?_, hsub.updK hid, by simp [h0, h7]⟩
          · omega
          · rw [hp, hbs hz, hd2 hz]
      · have hc' : ((c : Int) = 65533) = False := by simp; omega
        have hz : sizeR s j ≠ 0 := fun h => hc (hli.2 h).1
        (refine Runs.of_step Orc.nothing 300 ?_; simp -implicitDefEqProofs only [BB,seval,effR_some,effD_some,← decide_not,okind,vpre,vpure,intBin,intPre,strBin,strPre,popTo,argSlots,fldV,fldAV,subCells,idxVV,idxAAV,idxSV,sliceV,sliceSV,boundV,szIs,storeOp,storeS,setRowV,eff,extV,buildV,splice,eqSV,fitsL,eqCells,eqCell,minmaxV,capV,binBV,nilCheckV,bytesV,V.cells,V.stays,Orc.nothing,h0,h7,hc'])
        refine ⟨_, ?_, j + sz, by omega, rfl, ?_, hsub.updK hid, by simp [h0, h7]⟩
        · omega
        · rw [hp, hbs hz, hd2 hz]
    · (refine Runs.of_step Orc.nothing 300 ?_; simp -implicitDefEqProofs only [BB,seval,effR_some,effD_some,← decide_not,okind,vpre,vpure,intBin,intPre,strBin,strPre,popTo,argSlots,fldV,fldAV,subCells,idxVV,idxAAV,idxSV,sliceV,sliceSV,boundV,szIs,storeOp,storeS,setRowV,eff,extV,buildV,splice,eqSV,fitsL,eqCells,eqCell,minmaxV,capV,binBV,nilCheckV,bytesV,V.cells,V.stays,Orc.nothing,h0,h7])
      refine RetV.pure hsub ?_
      rw [hp, badI_end hlt]; rfl
end Go.Vc
namespace Go.Vc
open Go.Proofs
def encT (t : Tk) : V := .agg [vI t.kind, .int .i32 t.sign, vI t.n, vI t.at']
def resT : Res → V
  | .ok l => .tup [.sl 4 (l.map encT), vI 0, vI 0]
  | .bad p => .tup [.sl 4 [], vI p, vI 1]
theorem digLen_lt : ∀ {l : List UInt8} {d : Nat}, d ≤ digLen l → (d < digLen l ↔ ∃ b, l[d]? = some b ∧ 48 ≤ b.toNat ∧ b.toNat ≤ 57)
  | [], d, h => by simp [digLen] at h ⊢
  | b :: l, d, h => by
    simp only [digLen] at h ⊢
    split at h
    · rename_i hb
      rw [if_pos hb]
      cases d with
      | zero => simp; exact hb
      | succ d =>
        have := digLen_lt (l := l) (d := d) (by omega)
        simp only [List.getElem?_cons_succ]
        rw [← this]
        omega
    · rename_i hb
      rw [if_neg hb]
      obtain rfl : d = 0 := by omega
      simp only [Nat.lt_irrefl,List.getElem?_cons_zero,false_iff]
      rintro ⟨b', h1, h2⟩
      simp only [Option.some.injEq] at h1
      subst h1
      exact hb h2
theorem len_digs {s : List UInt8} {j : Nat} : (digsAt s j).length = digLen (s.drop j) := by
  unfold digsAt
  have := digLen_le (s.drop j)
  simp at this ⊢; omega
theorem dig_get {s : List UInt8} {j : Nat} (d : Nat) (h : d < digLen (s.drop j)) : ∃ b : UInt8, (s.drop j).take (d + 1) = (s.drop j).take d ++ [b] ∧ byt s (j + d) = b.toNat ∧ 48 ≤ b.toNat ∧ b.toNat ≤ 57 := by
  obtain ⟨b, h1, h2, h3⟩ := (digLen_lt (Nat.le_of_lt h)).1 h
  refine ⟨b, ?_, ?_, h2, h3⟩
  · rw [List.take_add_one, h1]; rfl
  · rw [List.getElem?_drop] at h1
    simp [byt, h1]
theorem ofI_end {s : List UInt8} {c : Bool} {i : Nat} (h : ¬ i < s.length) : ofI s c i = .ok [] := by rw [ofI, dif_neg h]
theorem ofI_bad {s : List UInt8} {c : Bool} {i : Nat} (h : i < s.length) (hz : sizeR s i = 0) : ofI s c i = .bad i := by rw [ofI, dif_pos h, dif_pos hz]
theorem ofI_com {s : List UInt8} {i : Nat} (h : i < s.length) (hz : sizeR s i ≠ 0) : ofI s true i = ofI s (decide (byt s i ≠ 10)) (i + sizeR s i) := by
  rw [ofI.eq_def s true i, dif_pos h, dif_neg hz, if_pos rfl]
theorem ofI_hash {s : List UInt8} {i : Nat} (h : i < s.length) (hz : sizeR s i ≠ 0) (hb : byt s i = 35) : ofI s false i = ofI s true (i + 1) := by
  rw [ofI.eq_def s false i, dif_pos h, dif_neg hz, if_neg (by simp), if_pos hb]
theorem ofI_white {s : List UInt8} {i : Nat} (h : i < s.length) (hz : sizeR s i ≠ 0) (hb : byt s i = 32 ∨ byt s i = 9 ∨ byt s i = 10) : ofI s false i = ofI s false (i + 1) := by
  rw [ofI.eq_def s false i, dif_pos h, dif_neg hz, if_neg (by simp), if_neg (by omega), if_pos hb]
theorem ofI_num {s : List UInt8} {i : Nat} (h : i < s.length) (hz : sizeR s i ≠ 0) (hb : 48 ≤ byt s i ∧ byt s i ≤ 57) : ofI s false i = if numBad (digsAt s i) then .bad i
    else (ofI s false (i + digLen (s.drop i))).cons ⟨2, 0, numR (digsAt s i), i⟩ := by
  rw [ofI.eq_def s false i, dif_pos h, dif_neg hz, if_neg (by simp), if_neg (by omega), if_neg (by omega), dif_pos hb]
theorem ofI_sign {s : List UInt8} {i : Nat} (h : i < s.length) (hz : sizeR s i ≠ 0) (hb : ¬ (byt s i = 35 ∨ byt s i = 32 ∨ byt s i = 9 ∨ byt s i = 10 ∨ (48 ≤ byt s i ∧ byt s i ≤ 57))) :
    ofI s false i = (ofI s false (i + sizeR s i)).cons ⟨1, runeR s i (sizeR s i), 0, i⟩ := by
  rw [ofI.eq_def s false i, dif_pos h, dif_neg hz, if_neg (by simp), if_neg (by omega), if_neg (by omega), dif_neg (by omega)]
end Go.Vc
